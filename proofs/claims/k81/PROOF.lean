import PyProof.Rows.All
import Wide.All
import OpenK.AllK
import Wide.FinOn
import HandS.ForMost
import HandS.Exc
import HandS.CallSlots
import HandS.Wide
import HandS.Style
import HandS.More
import HandS.Defaults
import HandS.WordsExc
import HandS.Property
import PyProof.ReprRoads
import HandS.TupAny
import HandS.RaiseMore
import HandS.IsInst
import HandS.Codes
import HandS.Conv
import KE.SortData
import KE.KDictSum
import KE.KDictCopyH
import KE.GoesMore
import HandS.Iter
import HandS.Words
import HandS.Head0
import HandS.Head1
import HandS.Head2
import HandS.HeadEnd
import HandS.HeadHook1
import HandS.HeadHook2
import HandS.EndBits
import OpenK.KMeth
import HandS.SlotsOwn
import KE.KRevSl
import HandS.ExcInit
import HandS.ExcField
import HandS.ExcIs
import HandS.SetFor
import HandS.TupSets
import HandS.Strs
import KE.DataFind
import HandS.MakeKwOnly
import HandS.FStr
import HandS.Text
import KE.KCallOwn
import HandS.ClsMeth
import HandS.CallLocal
import HandS.HeadNt
import HandS.Small
import HandS.Flow
import HandS.TupMul
import HandS.Zip
import KE.DataMinMax
import HandS.SortKw
import KE.KOpsOwn
import HandS.SetBool
import HandS.OwnEq
import HandS.GenList
import KE.GoesEnum
import HandS.TupLen
import HandS.Flt
import PySem.Challenge.RW_contentties_k81_tables
set_option Elab.async false
set_option linter.all false
set_option maxRecDepth 100000
set_option maxHeartbeats 4000000
/-! DL1: plain data, a store of changing cells, how they lie in the abstract heap; expressions. -/
namespace CT
open PySem L2
/-! ### the domain -/
inductive D where
  | non | bl (b : Bool) | int (i : Int) | str (s : Str)
  | lst (xs : List D) | tup (xs : List D) | scr (xs : List D) | kt (xs : List D)
  | obj (c : Nat) (fs : List D)
  | dT (ks : List (List Key)) (vs : List D)
  | cell (i : Nat)
  | exn (c : Nat) (fs : List D)
  | cls (c : Nat)
inductive Cell where
  | lst (xs : List D)
  | dT (ks : List (List Key)) (vs : List D)
  | ins (c : Nat) (fs : List D)
abbrev Store := List (Option Cell)
structure Exc where
  c : Nat
  fs : List D
inductive R (α : Type) where
  | ok (a : α) (C : Store)
  | exc (e : Exc) (C : Store)
  | stuck
/-- a def's frame: the cells below fl are its callers'; the slots -/
structure Fr where
  fl : Nat
  sl : List (Option D)
abbrev ME := Fr → Store → R D
def ofO : Option (D × Store) → R D
  | some (d, C) => .ok d C
  | none => .stuck
def bnd {α β : Type} (m : R α) (f : α → Store → R β) : R β := match m with
  | .ok a C => f a C
  | .exc e C => .exc e C
  | .stuck => .stuck
@[simp] theorem bnd_ok {α β : Type} (a : α) (C : Store) (f : α → Store → R β) : bnd (.ok a C) f = f a C := rfl
@[simp] theorem bnd_exc {α β : Type} (e : Exc) (C : Store) (f : α → Store → R β) : bnd (.exc e C) f = .exc e C := rfl
@[simp] theorem bnd_stuck {α β : Type} (f : α → Store → R β) : bnd .stuck f = .stuck := rfl
mutual
def cb (n : Nat) : D → Bool
  | .lst xs => cbL n xs
  | .tup xs => cbL n xs
  | .scr xs => cbL n xs
  | .kt xs => cbL n xs
  | .obj _ fs => cbL n fs
  | .exn _ fs => cbL n fs
  | .cls _ => true
  | .dT _ vs => cbL n vs
  | .cell i => decide (i < n)
  | .non => true | .bl _ => true | .int _ => true | .str _ => true
def cbL (n : Nat) : List D → Bool
  | [] => true
  | d :: ds => cb n d && cbL n ds
end
/-! ### how data lie in the heap -/
structure Cn where
  K : PySem.W.Frag
  cl : Nat → Addr
  fn : Nat → List Str
  /-- the error that is held: its place, its class, its dict -/
  ex : Option (Addr × Nat × Addr) := none
def Live (A : Nat → Addr) (C : Store) (a : Addr) : Prop := ∃ i c, C[i]? = some (some c) ∧ A i = a
/-- the written part's list -/
def KL (K : PySem.W.Frag) (a : Addr) (xs : List V) : Prop := ∃ (o : Obj) (its : Array Value) (n : Nat), List.lookup a K = some o ∧ o.cls = Value.type "list" ∧ o.dict = none ∧ o.data = Data.seq its n ∧ its.size ≤ sizeLine ∧ Vals xs its.toList
/-- the written part's tuple -/
def KT (K : PySem.W.Frag) (a : Addr) (xs : List V) : Prop := ∃ o its n, List.lookup a K = some o ∧ o.cls = Value.type "tuple" ∧ o.data = Data.seq its n ∧ its.size ≤ sizeLine ∧ Vals xs its.toList
mutual
inductive Rep (k : Cn) (A : Nat → Addr) (C : Store) (H : Hp) : V → D → Prop where
  | non : Rep k A C H .non .non
  | bl (b : Bool) : Rep k A C H (.bl b) (.bl b)
  | int (i : Int) : Rep k A C H (.int i) (.int i)
  | str (s : Str) : Rep k A C H (.str s) (.str s)
  | lst {a : Addr} {vs : List V} {ds : List D} : ¬ Live A C a → H a = some (.lst vs) → RepL k A C H vs ds → Rep k A C H (.ref a) (.lst ds)
  | tup {a : Addr} {vs : List V} {ds : List D} : ¬ Live A C a → H a = some (.tup vs) → RepL k A C H vs ds → Rep k A C H (.ref a) (.tup ds)
  | ktup {a : Addr} {vs : List V} {ds : List D} : KT k.K a vs → RepL k A C H vs ds → Rep k A C H (.ref a) (.kt ds)
  | scr {a : Addr} {vs : List V} {ds : List D} {o : Obj} : ¬ Live A C a → H a = some (.frz o (.lst vs)) → RepL k A C H vs ds → Rep k A C H (.ref a) (.scr ds)
  | kscr {a : Addr} {vs : List V} {ds : List D} : KL k.K a vs → RepL k A C H vs ds → Rep k A C H (.ref a) (.scr ds)
  | obj {a dx : Addr} {c : Nat} {vs : List V} {ds : List D} : ¬ Live A C a → H a = some (.ins (k.cl c) dx ((k.fn c).zip vs)) → vs.length = (k.fn c).length → RepL k A C H vs ds → Rep k A C H (.ref a) (.obj c ds)
  | dT {a : Addr} {kvs : List (List Key × V)} {ds : List D} : ¬ Live A C a → H a = some (.dT kvs) → RepL k A C H (kvs.map (·.2)) ds → Rep k A C H (.ref a) (.dT (kvs.map (·.1)) ds)
  | cell {i : Nat} : i < C.length → Rep k A C H (.ref (A i)) (.cell i)
  | cls (c : Nat) : Rep k A C H (.ref (k.cl c)) (.cls c)
  | exn {a dd : Addr} {c : Nat} {vs : List V} {ds : List D} : k.ex = some (a, c, dd) → ¬ Live A C dd → H dd = some (.xd ((k.fn c).zip vs)) → vs.length = (k.fn c).length → RepL k A C H vs ds → Rep k A C H (.ref a) (.exn c ds)
inductive RepL (k : Cn) (A : Nat → Addr) (C : Store) (H : Hp) : List V → List D → Prop where
  | nil : RepL k A C H [] []
  | cons {v : V} {d : D} {vs : List V} {ds : List D} : Rep k A C H v d → RepL k A C H vs ds → RepL k A C H (v :: vs) (d :: ds)
end
section
variable {k : Cn} {A A' : Nat → Addr} {C C' : Store} {H H' : Hp} {v : V} {d : D} {vs : List V} {ds : List D}
theorem RepL.length : ∀ {vs : List V} {ds : List D}, RepL k A C H vs ds → vs.length = ds.length
  | _, _, .nil => rfl
  | _, _, .cons _ t => by simp [RepL.length t]
theorem RepL.append : ∀ {vs ws : List V} {ds es : List D}, RepL k A C H vs ds → RepL k A C H ws es → RepL k A C H (vs ++ ws) (ds ++ es)
  | _, _, _, _, .nil, t => t
  | _, _, _, _, .cons r s, t => .cons r (RepL.append s t)
theorem RepL.take : ∀ {vs : List V} {ds : List D} (n : Nat), RepL k A C H vs ds → RepL k A C H (vs.take n) (ds.take n)
  | _, _, 0, _ => by simp; exact .nil
  | _, _, _ + 1, .nil => .nil
  | _, _, n + 1, .cons r t => .cons r (RepL.take n t)
theorem RepL.drop : ∀ {vs : List V} {ds : List D} (n : Nat), RepL k A C H vs ds → RepL k A C H (vs.drop n) (ds.drop n)
  | _, _, 0, r => r
  | _, _, _ + 1, .nil => .nil
  | _, _, n + 1, .cons _ t => RepL.drop n t
theorem RepL.set {v : V} {d : D} (r : Rep k A C H v d) : ∀ {vs : List V} {ds : List D} (i : Nat), RepL k A C H vs ds → RepL k A C H (vs.set i v) (ds.set i d)
  | _, _, _, .nil => .nil
  | _, _, 0, .cons _ t => .cons r t
  | _, _, i + 1, .cons q t => .cons q (RepL.set r i t)
theorem RepL.rep : ∀ {vs : List V} {ds : List D} (n : Nat), RepL k A C H vs ds → RepL k A C H (List.replicate n vs).flatten (List.replicate n ds).flatten
  | _, _, 0, _ => by simp; exact .nil
  | _, _, n + 1, r => by
    rw [List.replicate_succ, List.replicate_succ, List.flatten_cons, List.flatten_cons]
    exact r.append (RepL.rep n r)
/-- every reading stays if the not-live objects stay and the live ones are the old ones, or new -/
structure Kp (A : Nat → Addr) (C : Store) (H : Hp) (A' : Nat → Addr) (C' : Store) (H' : Hp) : Prop where
  at_ : ∀ a o, ¬ Live A C a → H a = some o → ¬ Live A' C' a ∧ H' a = some o
  ix : ∀ i, i < C.length → A' i = A i
  len : C.length ≤ C'.length
mutual
theorem Rep.kp (q : Kp A C H A' C' H') : ∀ {v : V} {d : D}, Rep k A C H v d → Rep k A' C' H' v d
  | _, _, .non => .non
  | _, _, .bl b => .bl b
  | _, _, .int i => .int i
  | _, _, .str s => .str s
  | _, _, .lst l h r => .lst (q.at_ _ _ l h).1 (q.at_ _ _ l h).2 (r.kp q)
  | _, _, .tup l h r => .tup (q.at_ _ _ l h).1 (q.at_ _ _ l h).2 (r.kp q)
  | _, _, .ktup h r => .ktup h (r.kp q)
  | _, _, .scr l h r => .scr (q.at_ _ _ l h).1 (q.at_ _ _ l h).2 (r.kp q)
  | _, _, .kscr h r => .kscr h (r.kp q)
  | _, _, .obj l h z r => .obj (q.at_ _ _ l h).1 (q.at_ _ _ l h).2 z (r.kp q)
  | _, _, .dT l h r => .dT (q.at_ _ _ l h).1 (q.at_ _ _ l h).2 (r.kp q)
  | _, _, .cell (i := i) hi => by
    rw [← q.ix i hi]
    exact .cell (Nat.lt_of_lt_of_le hi q.len)
  | _, _, .exn x l h z r => .exn x (q.at_ _ _ l h).1 (q.at_ _ _ l h).2 z (r.kp q)
  | _, _, .cls c => .cls c
theorem RepL.kp (q : Kp A C H A' C' H') : ∀ {vs : List V} {ds : List D}, RepL k A C H vs ds → RepL k A' C' H' vs ds
  | _, _, .nil => .nil
  | _, _, .cons r t => .cons (r.kp q) (t.kp q)
end
mutual
theorem Rep.cb : ∀ {v : V} {d : D}, Rep k A C H v d → cb C.length d = true
  | _, _, .non => rfl
  | _, _, .bl b => rfl
  | _, _, .int i => rfl
  | _, _, .str s => rfl
  | _, _, .lst l h r => by simpa [CT.cb] using r.cb
  | _, _, .tup l h r => by simpa [CT.cb] using r.cb
  | _, _, .ktup h r => by simpa [CT.cb] using r.cb
  | _, _, .scr l h r => by simpa [CT.cb] using r.cb
  | _, _, .kscr h r => by simpa [CT.cb] using r.cb
  | _, _, .obj l h z r => by simpa [CT.cb] using r.cb
  | _, _, .dT l h r => by simpa [CT.cb] using r.cb
  | _, _, .cell (i := i) hi => by simpa [CT.cb] using hi
  | _, _, .exn x l h z r => by simpa [CT.cb] using r.cb
  | _, _, .cls c => rfl
theorem RepL.cb : ∀ {vs : List V} {ds : List D}, RepL k A C H vs ds → cbL C.length ds = true
  | _, _, .nil => rfl
  | _, _, .cons r t => by simp [CT.cbL, r.cb, t.cb]
end
/-- fewer live cells, all that is named still there -/
structure Fw (A : Nat → Addr) (C C' : Store) : Prop where
  lv : ∀ a, Live A C' a → Live A C a
mutual
theorem Rep.fw (q : Fw A C C') : ∀ {v : V} {d : D}, Rep k A C H v d → CT.cb C'.length d = true → Rep k A C' H v d
  | _, _, .non, _ => .non
  | _, _, .bl b, _ => .bl b
  | _, _, .int i, _ => .int i
  | _, _, .str s, _ => .str s
  | _, _, .lst l h r, z => .lst (fun y => l (q.lv _ y)) h (r.fw q (by simpa [CT.cb] using z))
  | _, _, .tup l h r, z => .tup (fun y => l (q.lv _ y)) h (r.fw q (by simpa [CT.cb] using z))
  | _, _, .ktup h r, z => .ktup h (r.fw q (by simpa [CT.cb] using z))
  | _, _, .scr l h r, z => .scr (fun y => l (q.lv _ y)) h (r.fw q (by simpa [CT.cb] using z))
  | _, _, .kscr h r, z => .kscr h (r.fw q (by simpa [CT.cb] using z))
  | _, _, .obj l h e r, z => .obj (fun y => l (q.lv _ y)) h e (r.fw q (by simpa [CT.cb] using z))
  | _, _, .dT l h r, z => .dT (fun y => l (q.lv _ y)) h (r.fw q (by simpa [CT.cb] using z))
  | _, _, .cell (i := i) hi, z => .cell (by simpa [CT.cb] using z)
  | _, _, .exn x l h e r, z => .exn x (fun y => l (q.lv _ y)) h e (r.fw q (by simpa [CT.cb] using z))
  | _, _, .cls c, _ => .cls c
theorem RepL.fw (q : Fw A C C') : ∀ {vs : List V} {ds : List D}, RepL k A C H vs ds → CT.cbL C'.length ds = true → RepL k A C' H vs ds
  | _, _, .nil, _ => .nil
  | _, _, .cons r t, z => by
    simp [CT.cbL] at z
    exact .cons (r.fw q z.1) (t.fw q z.2)
end
end
/-! ### the store -/
def CellAt (k : Cn) (A : Nat → Addr) (C : Store) (H : Hp) (a : Addr) : Cell → Prop
  | .lst ds => ∃ vs, H a = some (.lst vs) ∧ RepL k A C H vs ds
  | .dT ks ds => ∃ kvs : List (List Key × V), H a = some (.dT kvs) ∧ kvs.map (·.1) = ks ∧ RepL k A C H (kvs.map (·.2)) ds
  | .ins c ds => ∃ dx vs, H a = some (.ins (k.cl c) dx (((k.fn c).take ds.length).zip vs)) ∧ ds.length ≤ (k.fn c).length ∧ RepL k A C H vs ds
structure StOk (k : Cn) (A : Nat → Addr) (C : Store) (H : Hp) : Prop where
  at_ : ∀ i c, C[i]? = some (some c) → CellAt k A C H (A i) c
  inj : ∀ i j c e, C[i]? = some (some c) → C[j]? = some (some e) → A i = A j → i = j
def cbC (n : Nat) : Cell → Bool
  | .lst ds => cbL n ds
  | .dT _ ds => cbL n ds
  | .ins _ ds => cbL n ds
def LowC (f : Nat) (C : Store) : Prop := ∀ i c, i < f → C[i]? = some (some c) → cbC f c = true
/-- what held of values holds on; the callers' cells name the callers' cells alone -/
structure Stp (k : Cn) (fl : Nat) (A : Nat → Addr) (C : Store) (H : Hp) (A' : Nat → Addr) (C' : Store) (H' : Hp) : Prop where
  rep : ∀ v d, Rep k A C H v d → Rep k A' C' H' v d
  len : C.length ≤ C'.length
  low : ∀ f, f ≤ fl → f ≤ C.length → LowC f C → LowC f C'
section
variable {k : Cn} {fl : Nat} {A A' A'' : Nat → Addr} {C C' C'' : Store} {H H' H'' : Hp} {v : V} {d : D} {vs : List V} {ds : List D}
theorem Stp.trans (a : Stp k fl A C H A' C' H') (b : Stp k fl A' C' H' A'' C'' H'') : Stp k fl A C H A'' C'' H'' :=
  ⟨fun v d h => b.rep v d (a.rep v d h), Nat.le_trans a.len b.len, fun f h1 h2 h => b.low f h1 (Nat.le_trans h2 a.len) (a.low f h1 h2 h)⟩
theorem CellAt.kp {c : Cell} {a : Addr} (q : Kp A C H A' C' H') (h : H' a = H a) (x : CellAt k A C H a c) : CellAt k A' C' H' a c := by
  cases c with
  | lst ds => obtain ⟨vs, e, r⟩ := x; exact ⟨vs, by rw [h]; exact e, r.kp q⟩
  | dT ks ds => obtain ⟨kvs, e, z, r⟩ := x; exact ⟨kvs, by rw [h]; exact e, z, r.kp q⟩
  | ins c ds => obtain ⟨dx, vs, e, z, r⟩ := x; exact ⟨dx, vs, by rw [h]; exact e, z, r.kp q⟩
theorem CellAt.there {c : Cell} {a : Addr} (x : CellAt k A C H a c) : ∃ o, H a = some o := by
  cases c with
  | lst ds => obtain ⟨vs, e, r⟩ := x; exact ⟨_, e⟩
  | dT ks ds => obtain ⟨kvs, e, z, r⟩ := x; exact ⟨_, e⟩
  | ins c ds => obtain ⟨dx, vs, e, z, r⟩ := x; exact ⟨_, e⟩
/-- a new object, not live -/
theorem kp_new {p : Addr} {o : HO} (h : H p = none) : Kp A C H A C (upd H p o) :=
  ⟨fun a u l e => ⟨l, by rw [upd_ne (ne_of_none e h)]; exact e⟩, fun _ _ => rfl, Nat.le_refl _⟩
theorem StOk.new {p : Addr} {o : HO} (x : StOk k A C H) (h : H p = none) : StOk k A C (upd H p o) :=
  ⟨fun i c e => by
    have y := x.at_ i c e
    obtain ⟨u, hu⟩ := y.there
    exact y.kp (kp_new h) (upd_ne (ne_of_none hu h)), x.inj⟩
/-- a new object that becomes a cell -/
def ext (A : Nat → Addr) (n : Nat) (p : Addr) : Nat → Addr := fun j => if j = n then p else A j
theorem live_ext {p : Addr} {c : Cell} {a : Addr} (l : Live (ext A C.length p) (C ++ [some c]) a) : Live A C a ∨ a = p := by
  obtain ⟨i, c', e, rfl⟩ := l
  by_cases hi : i < C.length
  · rw [List.getElem?_append_left hi] at e
    refine .inl ⟨i, c', e, ?_⟩
    unfold ext
    rw [if_neg (Nat.ne_of_lt hi)]
  · have hl : i < (C ++ [some c]).length := (List.getElem?_eq_some_iff.mp e).1
    rw [List.length_append] at hl
    have : i = C.length := by simp at hl; omega
    subst this
    refine .inr ?_
    unfold ext
    rw [if_pos rfl]
theorem kp_cell {p : Addr} {o : HO} {c : Cell} (x : StOk k A C H) (h : H p = none) : Kp A C H (ext A C.length p) (C ++ [some c]) (upd H p o) :=
  ⟨fun a u l e => ⟨fun y => (live_ext y).elim l (fun z => by rw [z, h] at e; cases e), by rw [upd_ne (ne_of_none e h)]; exact e⟩, fun i hi => by unfold ext; rw [if_neg (Nat.ne_of_lt hi)], by simp⟩
theorem StOk.cell {p : Addr} {o : HO} {c : Cell} (x : StOk k A C H) (h : H p = none) (y : CellAt k (ext A C.length p) (C ++ [some c]) (upd H p o) p c) : StOk k (ext A C.length p) (C ++ [some c]) (upd H p o) := by
  have old : ∀ i c', (C ++ [some c])[i]? = some (some c') → i < C.length → C[i]? = some (some c') ∧ ext A C.length p i = A i := fun i c' e hi => by
    rw [List.getElem?_append_left hi] at e
    exact ⟨e, by unfold ext; rw [if_neg (Nat.ne_of_lt hi)]⟩
  have new : ∀ i c', (C ++ [some c])[i]? = some (some c') → ¬ i < C.length → i = C.length ∧ c' = c := fun i c' e hi => by
    have hl : i < (C ++ [some c]).length := (List.getElem?_eq_some_iff.mp e).1
    rw [List.length_append] at hl
    have : i = C.length := by simp at hl; omega
    subst this
    simp at e
    exact ⟨rfl, e.symm⟩
  have pos : ext A C.length p C.length = p := by unfold ext; rw [if_pos rfl]
  refine ⟨fun i c' e => ?_, fun i j c1 c2 e1 e2 z => ?_⟩
  · by_cases hi : i < C.length
    · obtain ⟨e', ea⟩ := old i c' e hi
      rw [ea]
      have w := x.at_ i c' e'
      obtain ⟨u, hu⟩ := w.there
      exact w.kp (kp_cell x h) (upd_ne (ne_of_none hu h))
    · obtain ⟨rfl, rfl⟩ := new i c' e hi
      rw [pos]
      exact y
  · have far : ∀ i c', C[i]? = some (some c') → A i ≠ p := fun i c' e z => by
      obtain ⟨u, hu⟩ := (x.at_ i c' e).there
      rw [z, h] at hu
      cases hu
    by_cases hi : i < C.length
    · obtain ⟨f1, a1⟩ := old i c1 e1 hi
      by_cases hj : j < C.length
      · obtain ⟨f2, a2⟩ := old j c2 e2 hj
        rw [a1, a2] at z
        exact x.inj i j _ _ f1 f2 z
      · obtain ⟨rfl, rfl⟩ := new j c2 e2 hj
        rw [a1, pos] at z
        exact absurd z (far i _ f1)
    · obtain ⟨rfl, rfl⟩ := new i c1 e1 hi
      by_cases hj : j < C.length
      · obtain ⟨f2, a2⟩ := old j c2 e2 hj
        rw [pos, a2] at z
        exact absurd z.symm (far j _ f2)
      · obtain ⟨rfl, _⟩ := new j c2 e2 hj
        rfl
/-- the store's end is forgotten -/
theorem fw_take (n : Nat) : Fw A C (C.take n) := ⟨fun a ⟨i, c, e, z⟩ => by
  by_cases hi : i < n
  · rw [List.getElem?_take_of_lt hi] at e
    exact ⟨i, c, e, z⟩
  · rw [List.getElem?_eq_none (by simp; omega)] at e
    cases e⟩
theorem CellAt.fw {c : Cell} {a : Addr} (q : Fw A C C') (x : CellAt k A C H a c) (z : cbC C'.length c = true) : CellAt k A C' H a c := by
  cases c with
  | lst ds => obtain ⟨vs, e, r⟩ := x; exact ⟨vs, e, r.fw q z⟩
  | dT ks ds => obtain ⟨kvs, e, y, r⟩ := x; exact ⟨kvs, e, y, r.fw q z⟩
  | ins c ds => obtain ⟨dx, vs, e, y, r⟩ := x; exact ⟨dx, vs, e, y, r.fw q z⟩
theorem CellAt.cb {c : Cell} {a : Addr} (x : CellAt k A C H a c) : cbC C.length c = true := by
  cases c with
  | lst ds => obtain ⟨vs, e, r⟩ := x; exact r.cb
  | dT ks ds => obtain ⟨kvs, e, y, r⟩ := x; exact r.cb
  | ins c ds => obtain ⟨dx, vs, e, y, r⟩ := x; exact r.cb
/-- at a call every cell is below the floor -/
theorem StOk.low (x : StOk k A C H) : LowC C.length C := fun i c _ e => (x.at_ i c e).cb
theorem StOk.take {n : Nat} (x : StOk k A C H) (hn : n ≤ C.length) (h : LowC n C) : StOk k A (C.take n) H := by
  have get : ∀ i c, (C.take n)[i]? = some (some c) → i < n ∧ C[i]? = some (some c) := fun i c e => by
    by_cases hi : i < n
    · rw [List.getElem?_take_of_lt hi] at e
      exact ⟨hi, e⟩
    · rw [List.getElem?_eq_none (by simp; omega)] at e
      cases e
  have ln : (C.take n).length = n := by rw [List.length_take]; omega
  refine ⟨fun i c e => ?_, fun i j c e h1 h2 z => x.inj i j c e (get i c h1).2 (get j e h2).2 z⟩
  obtain ⟨hi, e'⟩ := get i c e
  exact (x.at_ i c e').fw (fw_take n) (by rw [ln]; exact h i c hi e')
end
/-! ### frames -/
structure SR (k : Cn) (A : Nat → Addr) (F : Fr) (C : Store) (σ : L2.St) (H : Hp) : Prop where
  st : StOk k A C H
  low : LowC F.fl C
  fl : F.fl ≤ C.length
  len : F.sl.length = σ.length
  sl : ∀ (i : Nat) (d : D), F.sl[i]? = some (some d) → ∃ v : V, σ[i]? = some (some v) ∧ Rep k A C H v d
section
variable {k : Cn} {A A' A1 : Nat → Addr} {F : Fr} {C C' C1 : Store} {H H' H1 : Hp} {σ : L2.St} {fl : Nat}
theorem SR.set {i : Nat} {v : V} {d : D} (s : SR k A F C σ H) (r : Rep k A C H v d) : SR k A ⟨F.fl, F.sl.set i (some d)⟩ C (σ.set i (some v)) H :=
  ⟨s.st, s.low, s.fl, by simp [s.len], fun j e h => by
    have h' : (F.sl.set i (some d))[j]? = some (some e) := h
    by_cases hij : i = j
    · subst hij
      by_cases hl : i < F.sl.length
      · rw [List.getElem?_set_self hl] at h'
        refine ⟨v, List.getElem?_set_self (by rw [← s.len]; exact hl), ?_⟩
        rw [← Option.some.inj (Option.some.inj h')]
        exact r
      · rw [List.getElem?_eq_none (by simp; omega)] at h'
        cases h'
    · rw [List.getElem?_set_ne hij] at h'
      obtain ⟨u, h1, h2⟩ := s.sl j e h'
      exact ⟨u, by rw [List.getElem?_set_ne hij]; exact h1, h2⟩⟩
variable {α β γ δ : Type} {rel : (Nat → Addr) → Store → Hp → β → α → Prop} {rel2 : (Nat → Addr) → Store → Hp → δ → γ → Prop} {m : R α} {Q : α → Store → (Nat → Addr) → Hp → β → Prop} {W : XK}
end
abbrev MA := Fr → Store → R (List D)
abbrev MT := Fr → Store → R Bool
end CT
set_option maxHeartbeats 4000000
/-! DL2: expressions over data: names, constants, operators, displays, subscripts, calls of built-ins. -/
namespace CT
open PySem L2
/-! ### names, constants -/
def mVar (i : Nat) : ME := fun F C => match F.sl[i]? with
  | some (some d) => .ok d C
  | _ => .stuck
def mC (d : D) : ME := fun _ C => .ok d C
/-! ### operators -/
abbrev O2 := D → D → Store → Option (D × Store)
abbrev O1 := D → Store → Option (D × Store)
abbrev OA := List D → Store → Option (D × Store)
def mOp (o : O2) (a b : ME) : ME := fun F C => bnd (a F C) fun x C1 => bnd (b F C1) fun y C2 => ofO (o x y C2)
def mUn (o : O1) (a : ME) : ME := fun F C => bnd (a F C) fun x C1 => ofO (o x C1)
def mNil : MA := fun _ C => .ok [] C
def mCons (a : ME) (r : MA) : MA := fun F C => bnd (a F C) fun x C1 => bnd (r F C1) fun xs C2 => .ok (x :: xs) C2
def mAp (o : OA) (a : MA) : ME := fun F C => bnd (a F C) fun xs C1 => ofO (o xs C1)
/-! ### tests, and, or, not -/
def mTst (a : ME) : MT := fun F C => bnd (a F C) fun x C1 => match x with
  | .bl b => .ok b C1
  | _ => .stuck
def tAndM (a b : MT) : MT := fun F C => bnd (a F C) fun x C1 => if x = true then b F C1 else .ok false C1
def tOrM (a b : MT) : MT := fun F C => bnd (a F C) fun x C1 => if x = true then .ok true C1 else b F C1
def tNotM (a : MT) : MT := fun F C => bnd (a F C) fun x C1 => .ok (!x) C1
def mAnd (a b : ME) : ME := fun F C => bnd (a F C) fun x C1 => match x with
  | .bl true => b F C1
  | .bl false => .ok (.bl false) C1
  | _ => .stuck
def mOr (a b : ME) : ME := fun F C => bnd (a F C) fun x C1 => match x with
  | .bl true => .ok (.bl true) C1
  | .bl false => b F C1
  | _ => .stuck
def mNot (a : ME) : ME := fun F C => bnd (a F C) fun x C1 => match x with
  | .bl b => .ok (.bl (!b)) C1
  | _ => .stuck
def mIf (t : MT) (a b : ME) : ME := fun F C => bnd (t F C) fun x C1 => if x = true then a F C1 else b F C1
/-! ### numbers -/
def oI0 (g : Int → Int → D) : O2 := fun x y C => match x, y with
  | .int i, .int j => some (g i j, C)
  | _, _ => none
def oAdd : O2 := oI0 fun i j => .int (i + j)
def oSub : O2 := oI0 fun i j => .int (i - j)
def oLt : O2 := oI0 fun i j => .bl (decide (i < j))
def oLe : O2 := oI0 fun i j => .bl (decide (i ≤ j))
def oGt : O2 := oI0 fun i j => .bl (decide (j < i))
def oGe : O2 := oI0 fun i j => .bl (decide (j ≤ i))
def oNeg : O1 := fun x C => match x with
  | .int i => some (.int (-i), C)
  | _ => none
/-! ### a chain of two comparisons -/
def mChain (o o' : O2) (a b c : ME) : ME := fun F C => bnd (a F C) fun x C1 => bnd (b F C1) fun y C2 => bnd (ofO (o x y C2)) fun z C3 => match z with
  | .bl true => bnd (c F C3) fun w C4 => ofO (o' y w C4)
  | .bl false => .ok (.bl false) C3
  | _ => .stuck
end CT
set_option maxHeartbeats 4000000
/-! DL3: lists, tuples, dicts over data. -/
namespace CT
open PySem L2
/-! ### what a datum is as a list, a tuple, a dict -/
def vL (d : D) (C : Store) : Option (List D) := match d with
  | .lst xs => some xs
  | .cell i => match C[i]? with
    | some (some (.lst xs)) => some xs
    | _ => none
  | _ => none
def vT : D → Option (List D)
  | .tup xs => some xs
  | .kt xs => some xs
  | _ => none
def vD (d : D) (C : Store) : Option (List (List Key) × List D) := match d with
  | .dT ks vs => some (ks, vs)
  | .cell i => match C[i]? with
    | some (some (.dT ks vs)) => some (ks, vs)
    | _ => none
  | _ => none
section
variable {k : Cn} {A : Nat → Addr} {C : Store} {H : Hp} {v : V} {d : D} {ds : List D}
/-! ### new lists, tuples, dicts: own cells or plain data -/
def mkL (own : Bool) (ds : List D) (C : Store) : D × Store := if own = true then (.cell C.length, C ++ [some (.lst ds)]) else (.lst ds, C)
def mkD (own : Bool) (ks : List (List Key)) (ds : List D) (C : Store) : D × Store := if own = true then (.cell C.length, C ++ [some (.dT ks ds)]) else (.dT ks ds, C)
end
/-! ### displays -/
def szN (n : Nat) : Bool := decide (n ≤ 16777216)
def oLst (own : Bool) : OA := fun xs C => if szN xs.length = true then some (mkL own xs C) else none
def oTup : OA := fun xs C => if szN xs.length = true then some (.tup xs, C) else none
section
variable {X : Cx} {k : Cn} {W : WX} {es : List Expr} {ma : MA} {pos : Pos}
/-- {} whose keys will be tuples -/
def mDNew (own : Bool) : ME := fun _ C => .ok (mkD own [] [] C).1 (mkD own [] [] C).2
end
/-! ### subscripts -/
/-! ### dicts with tuple keys -/
def keyL : List D → Option (List Key)
  | [] => some []
  | .int i :: r => (keyL r).map fun l => .inl i :: l
  | .str s :: r => (keyL r).map fun l => .inr s :: l
  | _ :: _ => none
def lookT : List (List Key) → List D → List Key → Option D
  | k :: ks, d :: ds, key => if k = key then some d else lookT ks ds key
  | _, _, _ => none
def setT : List (List Key) → List D → List Key → D → List D
  | k :: ks, d :: ds, key, x => (if k = key then x else d) :: setT ks ds key x
  | _, _, _, _ => []
def putT (ks : List (List Key)) (ds : List D) (key : List Key) (x : D) : List (List Key) × List D := if (ks.any fun k => decide (k = key)) = true then (ks, setT ks ds key x) else (ks ++ [key], ds ++ [x])
def oDGet (x y z : D) (C : Store) : Option (D × Store) := match y with
  | .tup ds => (vD x C).bind fun p => (keyL ds).map fun key => ((lookT p.1 p.2 key).getD z, C)
  | _ => none
def mDGet (a b c : ME) : ME := fun F C => bnd (a F C) fun x C1 => if (vD x C1).isSome = true then bnd (b F C1) fun y C2 => bnd (c F C2) fun z C3 => ofO (oDGet x y z C3) else .stuck
end CT
set_option maxHeartbeats 4000000
/-! DL4: statements, defs over data. -/
namespace CT
open PySem L2
inductive RS where
  | nx (sl : List (Option D)) (C : Store)
  | rt (d : D) (C : Store)
  | bk (sl : List (Option D)) (C : Store)
  | ct (sl : List (Option D)) (C : Store)
  | xc (e : Exc) (sl : List (Option D)) (C : Store)
  | stuck
abbrev MS := Fr → Store → RS
/-! ### simple statements -/
def bndS {α : Type} (sl : List (Option D)) (m : R α) (f : α → Store → RS) : RS := match m with
  | .ok a C => f a C
  | .exc e C => .xc e sl C
  | .stuck => .stuck
@[simp] theorem bndS_ok {α : Type} (sl : List (Option D)) (a : α) (C : Store) (f : α → Store → RS) : bndS sl (.ok a C) f = f a C := rfl
@[simp] theorem bndS_exc {α : Type} (sl : List (Option D)) (e : Exc) (C : Store) (f : α → Store → RS) : bndS sl (.exc e C) f = .xc e sl C := rfl
@[simp] theorem bndS_stuck {α : Type} (sl : List (Option D)) (f : α → Store → RS) : bndS (α := α) sl .stuck f = .stuck := rfl
def sNext : MS := fun F C => .nx F.sl C
def sSeq (a b : MS) : MS := fun F C => match a F C with
  | .nx sl C1 => b ⟨F.fl, sl⟩ C1
  | r => r
def sBrk : MS := fun F C => .bk F.sl C
def sCnt : MS := fun F C => .ct F.sl C
def sDrop (m : ME) : MS := fun F C => bndS F.sl (m F C) fun _ C1 => .nx F.sl C1
def sRet (m : ME) : MS := fun F C => bndS F.sl (m F C) fun d C1 => .rt d C1
def sRetN : MS := fun F C => .rt .non C
def sIf (t : MT) (a b : MS) : MS := fun F C => bndS F.sl (t F C) fun x C1 => if x = true then a F C1 else b F C1
/-! ### targets -/
abbrev MG := D → List (Option D) → Option (List (Option D))
def gN (i : Nat) : MG := fun d sl => some (sl.set i (some d))
def setAll : List Nat → List D → List (Option D) → Option (List (Option D))
  | [], [], sl => some sl
  | i :: is, d :: ds, sl => setAll is ds (sl.set i (some d))
  | _, _, _ => none
def gT (is : List Nat) : MG := fun d sl => (vT d).bind fun ds => setAll is ds sl
end CT
set_option maxHeartbeats 4000000
/-! DL5: stores, loops over data. -/
namespace CT
open PySem L2
section
variable {X : Cx} {k : Cn} {W : WX} {E : Ends} {σ : L2.St} {H : Hp}
/-! ### assignments -/
def sAsg (m : ME) (g : MG) : MS := fun F C => bndS F.sl (m F C) fun d C1 => match g d F.sl with
  | some sl => .nx sl C1
  | none => .stuck
/-- a, b = x, y of plain local names -/
def sPar (is : List Nat) (m : MA) : MS := fun F C => bndS F.sl (m F C) fun ds C1 => match setAll is ds F.sl with
  | some sl => .nx sl C1
  | none => .stuck
end
/-! ### cells written -/
/-- the cell is written with c: below the floor c names no cells -/
def wr (fl : Nat) (i : Nat) (c : Cell) (C : Store) : Option Store := if i < fl ∧ cbC 0 c = false then none else some (C.set i (some c))
/-- the list cell's place and items -/
def cL (d : D) (C : Store) : Option (Nat × List D) := match d with
  | .cell i => match C[i]? with
    | some (some (.lst xs)) => some (i, xs)
    | _ => none
  | _ => none
def cD (d : D) (C : Store) : Option (Nat × List (List Key) × List D) := match d with
  | .cell i => match C[i]? with
    | some (some (.dT ks vs)) => some (i, ks, vs)
    | _ => none
  | _ => none
/-- xs[i] = e -/
def sSetL (me mo mi : ME) : MS := fun F C => bndS F.sl (me F C) fun v C1 => bndS F.sl (mo F C1) fun o C2 => bndS F.sl (mi F C2) fun x C3 => match x, cL o C3 with
  | .int n, some (i, ds) => match ixN ds.length n with
    | some j => match wr F.fl i (.lst (ds.set j v)) C3 with
      | some C4 => .nx F.sl C4
      | none => .stuck
    | none => .stuck
  | _, _ => .stuck
/-- d[k] = e -/
def sPut (me mo mi : ME) : MS := fun F C => bndS F.sl (me F C) fun v C1 => bndS F.sl (mo F C1) fun o C2 => bndS F.sl (mi F C2) fun x C3 => match x, cD o C3 with
  | .tup ds, some (i, ks, vs) => match keyL ds with
    | some key => if szN (ks.length + 1) = true then match wr F.fl i (.dT (putT ks vs key v).1 (putT ks vs key v).2) C3 with
      | some C4 => .nx F.sl C4
      | none => .stuck
      else .stuck
    | none => .stuck
  | _, _ => .stuck
/-! ### list methods that write -/
end CT
set_option maxHeartbeats 4000000
/-! DL6: targets, loops, comprehensions over data. -/
namespace CT
open PySem L2
/-! ### targets of names -/
inductive Tgt where
  | nm (i : Nat) | tp (is : List Nat)
  /-- (a, b, ..), c -/
  | np (is : List Nat) (l : Nat)
/-- (a, b, ..), c = .. -/
def gNP (is : List Nat) (l : Nat) : MG := fun d sl => match vT d with
  | some [a, b] => (gT is a sl).bind fun s => gN l b s
  | _ => none
def Tgt.M : Tgt → MG
  | .nm i => gN i
  | .tp is => gT is
  | .np is l => gNP is l
def Tgt.slots : Tgt → List Nat
  | .nm i => [i]
  | .tp is => is
  | .np is l => l :: is
def wipeD (sl : List (Option D)) : List Nat → List (Option D)
  | [] => sl
  | v :: vs => (wipeD sl vs).set v none
/-! ### what is walked -/
structure ItD where
  n : Nat
  item : Nat → Store → Option D
  fin : Store → Bool
abbrev MI := Fr → Store → R ItD
/-! ### for -/
def loopN (it : ItD) (g : MG) (body : MS) (fl : Nat) : Nat → Nat → List (Option D) → Store → RS
  | 0, _, sl, C => if it.fin C = true then .nx sl C else .stuck
  | r + 1, j, sl, C => match it.item j C with
    | none => .stuck
    | some d => match g d sl with
      | none => .stuck
      | some sl1 => match body ⟨fl, sl1⟩ C with
        | .nx sl2 C2 => loopN it g body fl r (j + 1) sl2 C2
        | .ct sl2 C2 => loopN it g body fl r (j + 1) sl2 C2
        | .bk sl2 C2 => .nx sl2 C2
        | .rt d C2 => .rt d C2
        | .xc e sl2 C2 => .xc e sl2 C2
        | .stuck => .stuck
def sFor (mi : MI) (g : MG) (body : MS) : MS := fun F C => bndS F.sl (mi F C) fun it C1 => loopN it g body F.fl it.n 0 F.sl C1
/-! ### list comprehensions -/
def bn0 {α β : Type} (m : R α) (f : α → Store → R β) : R β := match m with
  | .ok a C => f a C
  | _ => .stuck
@[simp] theorem bn0_ok {α β : Type} (a : α) (C : Store) (f : α → Store → R β) : bn0 (.ok a C) f = f a C := rfl
def lcN (it : ItD) (g : MG) (tt : MT) (te : ME) (n : Nat) (sl : List (Option D)) : Nat → Nat → Store → R Unit
  | 0, _, C => if it.fin C = true then .ok () C else .stuck
  | r + 1, j, C => match it.item j C with
    | none => .stuck
    | some d => match g d sl with
      | none => .stuck
      | some sl1 => bn0 (tt ⟨n, sl1⟩ C) fun b C1 => if b = true then bn0 (te ⟨n, sl1⟩ C1) fun y C2 => match C2[n]? with
          | some (some (.lst acc)) => if szN (acc.length + 1) = true then lcN it g tt te n sl r (j + 1) (C2.set n (some (.lst (acc ++ [y])))) else .stuck
          | _ => .stuck
        else lcN it g tt te n sl r (j + 1) C1
/-- behind the loop: an own list; or plain data, the cell forgotten -/
def lcEnd (own : Bool) (n : Nat) (C : Store) : R D := if own = true then .ok (.cell n) C else match C[n]? with
  | some (some (.lst acc)) => if cbL n acc = true then .ok (.lst acc) (C.take n) else .stuck
  | _ => .stuck
def mLc (own : Bool) (mi : MI) (g : MG) (tt : MT) (te : ME) (vs : List Nat) : ME := fun F C => bnd (mi F C) fun it C1 => bn0 (lcN it g tt te C1.length (wipeD F.sl vs) it.n 0 (C1 ++ [some (.lst [])])) fun _ C2 => lcEnd own C1.length C2
end CT
set_option maxHeartbeats 4000000
/-! DL7: what is walked; defs. -/
namespace CT
open PySem L2
section
variable {X : Cx} {k : Cn} {W : WX} {E : Ends} {σ : L2.St} {H : Hp}
/-! ### lists and tuples -/
def itC (xs : List D) : ItD := ⟨xs.length, fun j _ => xs[j]?, fun _ => true⟩
def itV (i n : Nat) : ItD := ⟨n, fun j C => match C[i]? with
    | some (some (.lst ys)) => if ys.length = n then ys[j]? else none
    | _ => none, fun C => match C[i]? with
    | some (some (.lst ys)) => decide (ys.length = n)
    | _ => false⟩
def itS (d : D) (C : Store) : Option ItD := match d with
  | .tup xs => some (itC xs)
  | .kt xs => some (itC xs)
  | .lst xs => some (itC xs)
  | .cell i => match C[i]? with
    | some (some (.lst ys)) => some (itV i ys.length)
    | _ => none
  | _ => none
def mSeq (m : ME) : MI := fun F C => bnd (m F C) fun d C1 => match itS d C1 with
  | some it => .ok it C1
  | none => .stuck
/-! ### ranges -/
def inR (i : Int) : Bool := decide (-(2 ^ 62) ≤ i) && decide (i < 2 ^ 62)
def itR (lo : Int) (n : Nat) : ItD := ⟨n, fun j _ => some (.int (lo + j)), fun _ => true⟩
def mRng1 (a : ME) : MI := fun F C => bnd (a F C) fun d C1 => match d with
  | .int j => if inR j = true then .ok (itR 0 j.toNat) C1 else .stuck
  | _ => .stuck
def mRng2 (a b : ME) : MI := fun F C => bnd (a F C) fun d C1 => bnd (b F C1) fun e C2 => match d, e with
  | .int i, .int j => if (inR i && inR j) = true then .ok (itR i (j - i).toNat) C2 else .stuck
  | _, _ => .stuck
end
/-! ### defs -/
abbrev MF := List D → Store → R D
/-- what a def hands back: an own list or dict that it made becomes plain data; its cells are forgotten -/
def fz (n : Nat) (d : D) (C : Store) : D := match d with
  | .cell i => if i < n then d else match C[i]? with
    | some (some (.lst xs)) => .lst xs
    | some (some (.dT ks vs)) => .dT ks vs
    | _ => d
  | _ => d
def fin (n : Nat) (d : D) (C : Store) : R D := if cb n (fz n d C) = true then .ok (fz n d C) (C.take n) else .stuck
end CT
set_option maxHeartbeats 4000000
/-! DL8: defs, calls, instances over data. -/
namespace CT
open PySem L2 PySem.Spec PyProof.Rows
/-! ### defs that know that no repr runs around them -/
structure RoomG (lev : Nat) (A : Around) : Prop where
  room : Room lev A
  gd : A.guards = some []
/-! ### calls -/
def mCall (m : MF) (dds : List D) (a : MA) : ME := fun F C => bnd (a F C) fun ds C1 => m (ds ++ dds) C1
section
variable {X : Cx} {k : Cn} {W : WX} {σ : L2.St} {H : Hp} {Q : VK} {lev : Nat} {f C p g : Addr} {fd : FuncData} {ps : List Str} {np : Nat} {m : MF} {dvs : List V} {dds : List D} {ds : List Value} {x nm : Str} {pn pos apos : Pos} {e o : Expr} {es : List Expr} {ma : MA} {mo : ME}
/-! ### instances -/
/-- the class and the attributes of an instance -/
def vO (d : D) (C : Store) : Option (Nat × List D) := match d with
  | .obj c fs => some (c, fs)
  | .cell i => match C[i]? with
    | some (some (.ins c fs)) => some (c, fs)
    | _ => none
  | _ => none
/-- o.f, the n-th attribute of the class c -/
def oFld (c n : Nat) : O1 := fun x C => match vO x C with
  | some (c', fs) => if c' = c then (fs[n]?).map fun d => (d, C) else none
  | none => none
/-! ### methods, properties -/
/-- the receiver is an instance of c -/
def mMeth (c : Nat) (m : MF) (dds : List D) (mo : ME) (a : MA) : ME := fun F C => bnd (mo F C) fun x C1 => match vO x C1 with
  | some (c', _) => if c' = c then bnd (a F C1) fun ds C2 => m (x :: (ds ++ dds)) C2 else .stuck
  | none => .stuck
end
end CT
set_option maxHeartbeats 4000000
/-! DL9: built-in functions over data. -/
namespace CT
open PySem L2 PySem.Spec PyProof.Rows
/-! ### data as the library's own -/
mutual
def toP0 : D → Option PyData
  | .non => some .none
  | .bl b => some (.bool b)
  | .int i => some (.int i)
  | .str s => some (.str s)
  | .lst xs => (toP0s xs).map .list
  | .tup xs => (toP0s xs).map .tuple
  | .kt xs => (toP0s xs).map .tuple
  | .scr _ => none | .obj _ _ => none | .dT _ _ => none | .cell _ => none | .exn _ _ => none | .cls _ => none
def toP0s : List D → Option (List PyData)
  | [] => some []
  | d :: ds => match toP0 d, toP0s ds with
    | some p, some ps => some (p :: ps)
    | _, _ => none
end
mutual
/-- cells are looked into, one deep -/
def toP (C : Store) : D → Option PyData
  | .non => some .none
  | .bl b => some (.bool b)
  | .int i => some (.int i)
  | .str s => some (.str s)
  | .lst xs => (toPs C xs).map .list
  | .tup xs => (toPs C xs).map .tuple
  | .kt xs => (toPs C xs).map .tuple
  | .cell i => match C[i]? with
    | some (some (.lst xs)) => (toP0s xs).map .list
    | _ => none
  | .scr _ => none | .obj _ _ => none | .dT _ _ => none | .exn _ _ => none | .cls _ => none
def toPs (C : Store) : List D → Option (List PyData)
  | [] => some []
  | d :: ds => match toP C d, toPs C ds with
    | some p, some ps => some (p :: ps)
    | _, _ => none
end
/-! ### == and != of data -/
def oEqD (neg : Bool) : O2 := fun x y C => match toP C x, toP C y with
  | some p, some q => if (SeqAt.shaped p && SeqAt.shaped q) = true then some (.bl (if neg = true then !PyData.eqv p q else PyData.eqv p q), C) else none
  | _, _ => none
/-! ### repr -/
def repOk (p : PyData) : Bool := p.showable && !p.hasDict && decide (p.depth ≤ 60) && szN p.shown.length
/-! ### len, sums, least, greatest, conversions -/
def dInts : List D → Option (List Int)
  | [] => some []
  | .int i :: r => (dInts r).map fun l => i :: l
  | _ :: _ => none
@[simp] theorem dInts_map (ns : List Int) : dInts (ns.map D.int) = some ns := by
  induction ns with
  | nil => rfl
  | cons n r ih => simp [dInts, ih]
def dBools : List D → Option (List Bool)
  | [] => some []
  | .bl i :: r => (dBools r).map fun l => i :: l
  | _ :: _ => none
@[simp] theorem dBools_map (ns : List Bool) : dBools (ns.map D.bl) = some ns := by
  induction ns with
  | nil => rfl
  | cons n r ih => simp [dBools, ih]
def o2I (g : Int → Int → Int) : OA := fun xs C => match xs with
  | [.int i, .int j] => some (.int (g i j), C)
  | _ => none
def oMax2 : OA := o2I fun i j => if j > i then j else i
def oMin2 : OA := o2I fun i j => if j < i then j else i
def oAbs : OA := fun xs C => match xs with
  | [.int i] => some (.int (if i < 0 then -i else i), C)
  | _ => none
def oInt : OA := fun xs C => match xs with
  | [.int i] => some (.int i, C)
  | [.bl b] => some (.int (if b then 1 else 0), C)
  | _ => none
/-- tuple(list), tuple(tuple) -/
def oTupOf : OA := fun xs C => match xs with
  | [.tup ys] => some (.tup ys, C)
  | [.kt ys] => some (.kt ys, C)
  | [d] => (vL d C).map fun ys => (.tup ys, C)
  | _ => none
/-! ### + and * of lists, + of tuples -/
/-! ### slices of lists -/
def mNoPart : Fr → Store → R (Option Int) := fun _ C => .ok none C
def mPart (m : ME) : Fr → Store → R (Option Int) := fun F C => bnd (m F C) fun d C1 => match d with
  | .int i => .ok (some i) C1
  | _ => .stuck
def cutD (xs : List D) (lo hi : Option Int) : List D := (xs.drop (HT.sIx xs.length 0 lo)).take (HT.sIx xs.length xs.length hi - HT.sIx xs.length 0 lo)
def vLs (d : D) (C : Store) : Option (List D) := match d with
  | .scr xs => some xs
  | _ => vL d C
/-- xs[lo:hi] of a list, a new list -/
def mSlL (own : Bool) (a : ME) (l h : Fr → Store → R (Option Int)) : ME := fun F C => bnd (a F C) fun x C1 => bnd (l F C1) fun lo C2 => bnd (h F C2) fun hi C3 => match vLs x C3 with
  | some xs => ofO (some (mkL own (cutD xs lo hi) C3))
  | none => .stuck
end CT
set_option maxHeartbeats 4000000
/-! DLA: instances made, attributes stored, properties, isinstance. -/
namespace CT
open PySem L2 PySem.Spec PyProof.Rows
/-! ### C(..) -/
end CT
set_option maxHeartbeats 4000000
/-! DLB: properties, isinstance, comprehensions as statements, two clauses. -/
namespace CT
open PySem L2 PySem.Spec PyProof.Rows
/-! ### o.f, a property -/
def mProp (c : Nat) (m : MF) (mo : ME) : ME := fun F C => bnd (mo F C) fun x C1 => match vO x C1 with
  | some (c', _) => if c' = c then (match m [x] C1 with
    | .ok d C2 => .ok d C2
    | _ => .stuck) else .stuck
  | none => .stuck
/-! ### isinstance -/
inductive Bt where
  | int | bool | str | list | tuple | dict | none
  deriving DecidableEq
def Bt.name : Bt → String
  | .int => "int" | .bool => "bool" | .str => "str" | .list => "list" | .tuple => "tuple" | .dict => "dict" | .none => "NoneType"
inductive Cc where
  | ty (b : Bt) | own (c : Nat)
def isaT : Bt → Bt → Bool
  | .bool, .int => true
  | a, b => decide (a = b)
def tyD (d : D) (C : Store) : Option Cc := match d with
  | .non => some (.ty .none) | .bl _ => some (.ty .bool) | .int _ => some (.ty .int) | .str _ => some (.ty .str)
  | .lst _ => some (.ty .list) | .tup _ => some (.ty .tuple) | .kt _ => some (.ty .tuple) | .dT _ _ => some (.ty .dict)
  | .obj c _ => some (.own c)
  | .scr _ => none
  | .exn _ _ => none
  | .cls _ => none
  | .cell i => match C[i]? with
    | some (some (.lst _)) => some (.ty .list)
    | some (some (.dT _ _)) => some (.ty .dict)
    | some (some (.ins c _)) => some (.own c)
    | _ => none
def isi (kn : List Nat) (d : D) (C : Store) (t : Cc) : Option Bool := match tyD d C with
  | some (.ty a) => (match t with
    | .ty b => some (isaT a b)
    | .own _ => some false)
  | some (.own c) => if c ∈ kn then (match t with
    | .ty _ => some false
    | .own c' => some (decide (c = c'))) else none
  | none => none
def mIsi (kn : List Nat) (t : Cc) (m : ME) : ME := fun F C => bnd (m F C) fun d C1 => match isi kn d C1 t with
  | some b => .ok (.bl b) C1
  | none => .stuck
def mIsi2 (kn : List Nat) (t u : Cc) (m : ME) : ME := fun F C => bnd (m F C) fun d C1 => match isi kn d C1 t, isi kn d C1 u with
  | some b, some b' => .ok (.bl (b || b')) C1
  | _, _ => .stuck
def Cc.val (k : Cn) : Cc → Value
  | .ty b => .type b.name
  | .own c => .ref (k.cl c)
def Cc.v (k : Cn) : Cc → V
  | .ty b => .ty b.name
  | .own c => .ref (k.cl c)
theorem Cc.cls {k : Cn} (t : Cc) : ClsV (t.v k) (t.val k) := by
  cases t with
  | ty b => exact .ty _
  | own c => exact .own _
end CT
set_option maxHeartbeats 4000000
/-! DLC: isinstance as an expression; comprehensions that are assigned, and of two clauses; xs[i] += e; membership; list(range(..)). -/
namespace CT
open PySem L2 PySem.Spec PyProof.Rows
section
variable {X : Cx} {k : Cn} {W : WX} {σ : L2.St} {H : Hp} {Q : VK} {E : Ends}
/-! ### tests of a clause -/
def tYesM : MT := fun _ C => .ok true C
/-! ### y = [..] -/
/-! ### two clauses -/
/-! ### xs[i] += e -/
def sAugL (o : Int → Int → Int) (mo mi me : ME) : MS := fun F C => bndS F.sl (mo F C) fun l C1 => bndS F.sl (mi F C1) fun x C2 => match x, cL l C2 with
  | .int n, some (_, ds) => if 0 ≤ n then (match ds[n.toNat]? with
    | some (.int a) => bndS F.sl (me F C2) fun v C3 => (match v, cL l C3 with
      | .int b, some (i, es) => (match ixN es.length n with
        | some j => (match wr F.fl i (.lst (es.set j (.int (o a b)))) C3 with
          | some C4 => .nx F.sl C4
          | none => .stuck)
        | none => .stuck)
      | _, _ => .stuck)
    | _ => .stuck) else .stuck
  | _, _ => .stuck
/-! ### x in a tuple or list of data -/
end
end CT
set_option maxHeartbeats 4000000
/-! DLD: list(range(..)), sorted(..), dict(..). -/
namespace CT
open PySem L2 PySem.Spec PyProof.Rows
/-! ### sorted -/
end CT
set_option maxHeartbeats 4000000
/-! DLE: sorted and dict(d) over data. -/
namespace CT
open PySem L2 PySem.Spec PyProof.Rows
/-! ### dict(d), keys that are tuples -/
end CT
set_option maxHeartbeats 4000000
/-! DLF: dict(d) over data; enumerate. -/
namespace CT
open PySem L2 PySem.Spec PyProof.Rows
/-! ### a list of unlike numbers -/
inductive BT where
  | lf | nd (l : BT) (x : Nat) (r : BT)
def BT.ins (x : Nat) : BT → Option BT
  | .lf => some (.nd .lf x .lf)
  | .nd l y r => bif Nat.blt x y then (match l.ins x with
      | some l' => some (.nd l' y r)
      | none => none) else bif Nat.blt y x then (match r.ins x with
      | some r' => some (.nd l y r')
      | none => none) else none
/-! ### enumerate(tuple) -/
def prI (it : ItD) : ItD := ⟨it.n, fun j C => (it.item j C).map fun x => .tup [.int (j : Nat), x], it.fin⟩
def mEnum (m : ME) : MI := fun F C => bnd (m F C) fun d C1 => match itS d C1 with
  | some it => .ok (prI it) C1
  | none => .stuck
end CT
set_option maxHeartbeats 4000000
/-! DLG: what the head tells (defs by addresses, checks), the law's end for data. -/
namespace CT
open PySem L2 PySem.Spec PyProof.Rows
/-! ### defs, by where they stand -/
structure DefX where
  adr : PySem.W.Frag → Addr
  name : Str
  qual : Str
  params : Arguments
  body : List Stmt
  scope : Scope
  dfl : PySem.W.Frag → List V := fun _ => []
def fnX (K : PySem.W.Frag) (a : Addr) : He.FnW := match K.lookup a with
  | some ⟨_, _, .func fd, _⟩ => some (fd.name, fd.qualname, fd.params, fd.body, fd.scope, fd.globals, fd.closure, fd.builtins)
  | _ => none
def DefX.val (d : DefX) : He.FnW := some (d.name, d.qual, d.params, .stmts d.body, d.scope, mainGlobals, [], builtinsNs)
def DefX.ok (K : PySem.W.Frag) (d : DefX) : Bool := PySem.W.keepIn K (.ref (d.adr K)) && (match K.lookup (d.adr K) with
  | some ⟨_, _, .func fd, _⟩ => PySem.W.codeIn K fd.code d.qual && He.dflB K fd.defaults (d.dfl K)
  | _ => false)
/-! ### the head's look -/
abbrev AlX : Type := Bool × List He.FnW
def obX (fs : List (PySem.W.Frag → Bool)) (fn : List DefX) (K : PySem.W.Frag) : AlX := ((fs.all fun f => f K) && fn.all fun d => d.ok K, fn.map fun d => fnX K (d.adr K))
def vlX (fn : List DefX) : AlX := (true, fn.map DefX.val)
def SaysX (fs : List (PySem.W.Frag → Bool)) (fn : List DefX) (K : PySem.W.Frag) : Prop := obX fs fn K = vlX fn
/-! ### checks -/
section
variable {K : PySem.W.Frag}
/-- a property's object, its getter -/
def prA (K : PySem.W.Frag) (C : Addr) (f : Str) : Addr := He.ma K C f
def prG (K : PySem.W.Frag) (C : Addr) (f : Str) : Addr := match PySem.W.recIn K (prA K C f) "property" with
  | some (.ref g :: _) => g
  | _ => 0
def prB (x f : Str) (K : PySem.W.Frag) : Bool := He.eqO (PySem.W.findIn K (.ref (He.ga K x)) f) (some (some (.ref (prA K (He.ga K x) f)))) && (He.eqO (PySem.W.specialIn K (.ref (prA K (He.ga K x) f)) "__get__") (some (some (.builtin "property.__get__"))) &&
  (decide (PySem.W.takesIn K (.ref (prA K (He.ga K x) f)) = some true) && (match PySem.W.recIn K (prA K (He.ga K x) f) "property" with
    | some (.ref _ :: _) => true
    | _ => false)))
def allBt : List Bt := [.int, .bool, .str, .list, .tuple, .dict, .none]
def insB (C : Addr) (K : PySem.W.Frag) : Bool := PySem.W.plainGet K C Str.empty && (PySem.W.hasDictIn K C && (PySem.W.plainOver K C && (He.eqO (PySem.W.findIn K (.ref C) "__setattr__") (some (some (.builtin "object.__setattr__"))) &&
  (He.eqO (PySem.W.findIn K (.ref C) "__class__") (some (some (.builtin "object.__class__"))) && (He.eqO (PySem.W.specialIn K (.builtin "object.__class__") "__get__") (some (some (.builtin "getset_descriptor.__get__"))) &&
  (decide (PySem.W.takesIn K (.builtin "object.__class__") = some true) && (decide (PySem.W.mroIn K C (.type "object") = some true) && decide (PySem.W.kitOne K (.ref C) (.ref C) = some true))))))))
def isaB (cl : PySem.W.Frag → Nat → Addr) (kn : List Nat) (K : PySem.W.Frag) : Bool := (kn.all fun c => insB (cl K c) K) && ((kn.all fun c => kn.all fun c' => decide (PySem.W.kitOne K (.ref (cl K c)) (.ref (cl K c')) = some (decide (c = c')))) &&
  (kn.all fun c => allBt.all fun b => decide (PySem.W.kitOne K (.ref (cl K c)) (.type b.name) = some false) && decide (PySem.W.kitOne K (.type b.name) (.ref (cl K c)) = some false)))
/-- an empty tuple of the written part -/
def ktB (a : PySem.W.Frag → Addr) (K : PySem.W.Frag) : Bool := match K.lookup (a K) with
  | some ⟨.type c, _, .seq its _, _⟩ => decide (c = "tuple") && decide (its.size = 0)
  | _ => false
end
/-! ### the end -/
end CT
set_option maxHeartbeats 4000000
/-! DLH: a def that hands back a list of its own, to be changed by its caller. -/
namespace CT
open PySem L2 PySem.Spec PyProof.Rows
end CT
set_option maxHeartbeats 4000000
/-! DLI: comparisons as tests. -/
namespace CT
open PySem L2 PySem.Spec PyProof.Rows
/-! ### == and !=, scalars or data -/
def oEqA (neg : Bool) : O2 := fun x y C => match x, y with
  | .int a, .int b => some (.bl (if neg = true then !decide (a = b) else decide (a = b)), C)
  | .str a, .str b => some (.bl (if neg = true then !decide (a = b) else decide (a = b)), C)
  | x, y => oEqD neg x y C
end CT
set_option maxHeartbeats 4000000
/-! DLJ: operators that a class defines: ==, !=, +, in, []. -/
namespace CT
open PySem L2 PySem.Spec PyProof.Rows
end CT
set_option maxHeartbeats 4000000
/-! DLK: != by an own __eq__; x[i] by an own __getitem__. -/
namespace CT
open PySem L2 PySem.Spec PyProof.Rows
end CT
set_option maxHeartbeats 4000000
/-! DLL: own operators over data. -/
namespace CT
open PySem L2 PySem.Spec PyProof.Rows
/-! ### the terms -/
/-! ### readings -/
end CT
set_option maxHeartbeats 4000000
/-! DLM: what the head says of own operators. -/
namespace CT
open PySem L2 PySem.Spec PyProof.Rows
section
variable {K : PySem.W.Frag}
def dnB (x f : Str) (K : PySem.W.Frag) : Bool := He.eqO (PySem.W.findIn K (.ref (He.ga K x)) f) (some (some (.ref (He.ma K (He.ga K x) f)))) && (PySem.W.isFn K (.ref (He.ma K (He.ga K x) f)) && PySem.W.fnIn K (He.ma K (He.ga K x) f))
end
end CT
set_option maxHeartbeats 4000000
/-! DLN: t[::-1], xs[::-1], t[lo:hi]. -/
namespace CT
open PySem L2 PySem.Spec PyProof.Rows HT
def mRevT (m : ME) : ME := fun F C => bnd (m F C) fun x C1 => match vT x with
  | some xs => .ok (.tup xs.reverse) C1
  | none => .stuck
/-- t[lo:hi], the whole tuple too -/
def mSlA (a : ME) (l h : Fr → Store → R (Option Int)) : ME := fun F C => bnd (a F C) fun x C1 => bnd (l F C1) fun lo C2 => bnd (h F C2) fun hi C3 => match vT x with
  | some xs => if HT.sIx xs.length 0 lo = 0 ∧ HT.sIx xs.length xs.length hi = xs.length then .ok x C3 else .ok (.tup (cutD xs lo hi)) C3
  | none => .stuck
end CT
set_option maxHeartbeats 4000000
/-! DLO: errors of the program's own: made and raised. -/
namespace CT
open PySem L2 PySem.Spec PyProof.Rows
/-! ### what the head says of an error class -/
def oexB (x : Str) (K : PySem.W.Frag) : Bool := (match K.lookup (He.ga K x) with
    | some ⟨.type t, _, .cls cd, sl⟩ => decide (t = "type") && (cd.hasDict && (!cd.hasDel && (match cd.mro, sl.toList with
      | .ref C' :: bm, [_, _, _, _, some (.builtin n), _] => decide (C' = He.ga K x) && (decide (n = "ValueError.__new__") && PySem.HandSPX.refsVE bm)
      | _, _ => false)))
    | _ => false) && (He.eqO (PySem.W.findIn K (.ref (He.ga K x)) "__setattr__") (some (some (.builtin "object.__setattr__"))) && (decide (PySem.W.subIn K (.ref (He.ga K x)) (.type "BaseException") = some true) &&
      (decide (PySem.W.typeIn K (.ref (He.ga K x)) = some (.type "type")) && PySem.W.keepIn K (.ref (He.ga K x)))))
def xiB (x : Str) (K : PySem.W.Frag) : Bool := oexB x K && (He.eqO (PySem.W.findIn K (.ref (He.ga K x)) "__init__") (some (some (.ref (He.ma K (He.ga K x) "__init__")))) && decide (PySem.W.typeIn K (.ref (He.ma K (He.ga K x) "__init__")) = some (.type "function")))
/-! ### __init__: one field, two fields -/
/-! ### raise C(e, ..) -/
def sRaise (c n : Nat) (ma : MA) : MS := fun F C => bndS F.sl (ma F C) fun ds C1 => if ds.length = n then .xc ⟨c, ds.reverse⟩ F.sl C1 else .stuck
end CT
set_option maxHeartbeats 4000000
/-! DLP: try: .. except C as n: .. return; the error is held as data. -/
namespace CT
open PySem L2 PySem.Spec PyProof.Rows
mutual
/-- no held error within -/
def nx : D → Bool
  | .lst xs => nxL xs
  | .tup xs => nxL xs
  | .scr xs => nxL xs
  | .kt xs => nxL xs
  | .obj _ fs => nxL fs
  | .dT _ vs => nxL vs
  | .exn _ _ => false
  | .cls _ => true
  | .cell _ => true | .non => true | .bl _ => true | .int _ => true | .str _ => true
def nxL : List D → Bool
  | [] => true
  | d :: ds => nx d && nxL ds
end
section
variable {k : Cn} {A A' : Nat → Addr} {C C' : Store} {H H' : Hp} {a dd : Addr} {c : Nat} {fl : Nat}
mutual
theorem Rep.nx (hk : k.ex = none) : ∀ {v : V} {d : D}, Rep k A C H v d → CT.nx d = true
  | _, _, .non => rfl
  | _, _, .bl b => rfl
  | _, _, .int i => rfl
  | _, _, .str s => rfl
  | _, _, .lst l h r => by simpa [CT.nx] using r.nx hk
  | _, _, .tup l h r => by simpa [CT.nx] using r.nx hk
  | _, _, .ktup h r => by simpa [CT.nx] using r.nx hk
  | _, _, .scr l h r => by simpa [CT.nx] using r.nx hk
  | _, _, .kscr h r => by simpa [CT.nx] using r.nx hk
  | _, _, .obj l h z r => by simpa [CT.nx] using r.nx hk
  | _, _, .dT l h r => by simpa [CT.nx] using r.nx hk
  | _, _, .cell hi => rfl
  | _, _, .cls c => rfl
  | _, _, .exn x l h z r => by rw [hk] at x; cases x
theorem RepL.nx (hk : k.ex = none) : ∀ {vs : List V} {ds : List D}, RepL k A C H vs ds → CT.nxL ds = true
  | _, _, .nil => rfl
  | _, _, .cons r t => by simp [CT.nxL, r.nx hk, t.nx hk]
end
end
end CT
set_option maxHeartbeats 4000000
/-! DLQ: isinstance of the held error. -/
namespace CT
open PySem L2 PySem.Spec PyProof.Rows PySem.W
section
variable {X : Cx} {k : Cn} {W : WX} {σ : L2.St} {H : Hp} {Q : VK}
def excA (C : Addr) (K : Frag) : Bool := He.eqO (findIn K (.ref C) "__getattribute__") (some (some (.builtin "BaseException.__getattribute__"))) && (He.eqO (findIn K (.ref C) "__getattr__") (some none) && (decide (subIn K (.ref C) (.type "BaseException") = some true) && (hasDictIn K C &&
  (He.eqO (findIn K (.ref C) "__class__") (some (some (.builtin "object.__class__"))) && (He.eqO (specialIn K (.builtin "object.__class__") "__get__") (some (some (.builtin "getset_descriptor.__get__"))) && (decide (takesIn K (.builtin "object.__class__") = some true) && decide (mroIn K C (.type "object") = some true)))))))
def xsB (cl : Frag → Nat → Addr) (kn : List Nat) (K : Frag) : Bool := (kn.all fun c => excA (cl K c) K) && kn.all fun c => kn.all fun c' => decide (kitOne K (.ref (cl K c)) (.ref (cl K c')) = some (decide (c = c')))
/-- what an except clause says of the classes -/
def exmB (cl : Frag → Nat → Addr) (x : Str) (cs ds : List Nat) (K : Frag) : Bool := (cs.all fun c => decide (exmOne K (.ref (cl K c)) (.ref (He.ga K x)) = some true)) && ds.all fun c => decide (exmOne K (.ref (cl K c)) (.ref (He.ga K x)) = some false)
end
end CT
set_option maxHeartbeats 4000000
/-! DLR: web * k. -/
namespace CT
open PySem L2 PySem.Spec PyProof.Rows PySem.W
/-! ### over data -/
end CT
set_option maxHeartbeats 4000000
/-! DLS: is None; sorted(set(xs)) of ints, len(set(xs)) of tuples of ints. -/
namespace CT
open PySem L2 PySem.Spec PyProof.Rows
/-! ### is None, is not None -/
/-! ### set(xs), xs a list of ints -/
end CT
set_option maxHeartbeats 4000000
/-! E1: how the terms of the layer are worked out. -/
namespace CT
open PySem L2
/-! ### named steps; simp looks at what is done first alone -/
def getV (o : Option (Option D)) (C : Store) : R D := match o with
  | some (some d) => .ok d C
  | _ => .stuck
@[simp] theorem getV_some (d : D) (C : Store) : getV (some (some d)) C = .ok d C := rfl
def thenS (r : RS) (f : List (Option D) → Store → RS) : RS := match r with
  | .nx sl C => f sl C
  | r => r
@[simp] theorem thenS_nx (sl : List (Option D)) (C : Store) (f : List (Option D) → Store → RS) : thenS (.nx sl C) f = f sl C := rfl
@[simp] theorem thenS_rt (d : D) (C : Store) (f : List (Option D) → Store → RS) : thenS (.rt d C) f = .rt d C := rfl
@[simp] theorem thenS_bk (sl : List (Option D)) (C : Store) (f : List (Option D) → Store → RS) : thenS (.bk sl C) f = .bk sl C := rfl
@[simp] theorem thenS_ct (sl : List (Option D)) (C : Store) (f : List (Option D) → Store → RS) : thenS (.ct sl C) f = .ct sl C := rfl
def asB (d : D) (C : Store) : R Bool := match d with
  | .bl b => .ok b C
  | _ => .stuck
@[simp] theorem asB_bl (b : Bool) (C : Store) : asB (.bl b) C = .ok b C := rfl
def asgS (o : Option (List (Option D))) (C : Store) : RS := match o with
  | some sl => .nx sl C
  | none => .stuck
@[simp] theorem asgS_some (sl : List (Option D)) (C : Store) : asgS (some sl) C = .nx sl C := rfl
def finS (n : Nat) (r : RS) : R D := match r with
  | .nx _ C' => fin n .non C'
  | .rt d C' => fin n d C'
  | .xc e _ C' => if cbL n e.fs = true then .exc e (C'.take n) else .stuck
  | _ => .stuck
@[simp] theorem finS_nx (n : Nat) (sl : List (Option D)) (C : Store) : finS n (.nx sl C) = fin n .non C := rfl
@[simp] theorem finS_rt (n : Nat) (d : D) (C : Store) : finS n (.rt d C) = fin n d C := rfl
@[simp] theorem fin_int (n : Nat) (i : Int) (C : Store) : fin n (.int i) C = .ok (.int i) (C.take n) := rfl
@[simp] theorem fin_bl (n : Nat) (i : Bool) (C : Store) : fin n (.bl i) C = .ok (.bl i) (C.take n) := rfl
@[simp] theorem fin_non (n : Nat) (C : Store) : fin n .non C = .ok .non (C.take n) := rfl
@[simp] theorem fin_str (n : Nat) (i : Str) (C : Store) : fin n (.str i) C = .ok (.str i) (C.take n) := rfl
section
variable (fl : Nat) (sl : List (Option D)) (C : Store) (F : Fr)
@[simp] theorem ev_var (i : Nat) : mVar i ⟨fl, sl⟩ C = getV sl[i]? C := rfl
@[simp] theorem ev_c (d : D) : mC d F C = .ok d C := rfl
@[simp] theorem ev_nil : mNil F C = .ok [] C := rfl
@[simp] theorem ev_next : sNext F C = .nx F.sl C := rfl
@[simp] theorem ev_yes : tYesM F C = .ok true C := rfl
@[simp] theorem ev_retN : sRetN F C = .rt .non C := rfl
@[simp] theorem ev_gN (i : Nat) (d : D) : gN i d sl = some (sl.set i (some d)) := rfl
@[simp] theorem ev_ofO_some (d : D) : ofO (some (d, C)) = .ok d C := rfl
@[simp] theorem ev_ofO_none : ofO none = .stuck := rfl
@[simp] theorem ev_add (a b : Int) : oAdd (.int a) (.int b) C = some (.int (a + b), C) := rfl
@[simp] theorem ev_sub (a b : Int) : oSub (.int a) (.int b) C = some (.int (a - b), C) := rfl
@[simp] theorem ev_lt (a b : Int) : oLt (.int a) (.int b) C = some (.bl (decide (a < b)), C) := rfl
@[simp] theorem ev_le (a b : Int) : oLe (.int a) (.int b) C = some (.bl (decide (a ≤ b)), C) := rfl
@[simp] theorem ev_gt (a b : Int) : oGt (.int a) (.int b) C = some (.bl (decide (b < a)), C) := rfl
@[simp] theorem ev_ge (a b : Int) : oGe (.int a) (.int b) C = some (.bl (decide (b ≤ a)), C) := rfl
@[simp] theorem ev_neg (a : Int) : oNeg (.int a) C = some (.int (-a), C) := rfl
@[simp] theorem ev_min (a b : Int) : oMin2 [.int a, .int b] C = some (.int (min a b), C) := by
  show some (D.int (if b < a then b else a), C) = _
  congr 3
  by_cases h : b < a
  · rw [if_pos h]; omega
  · rw [if_neg h]; omega
@[simp] theorem ev_max (a b : Int) : oMax2 [.int a, .int b] C = some (.int (max a b), C) := by
  show some (D.int (if b > a then b else a), C) = _
  congr 3
  by_cases h : b > a
  · rw [if_pos h]; omega
  · rw [if_neg h]; omega
@[simp] theorem ev_int (a : Int) : oInt [.int a] C = some (.int a, C) := rfl
@[simp] theorem ev_abs (a : Int) : oAbs [.int a] C = some (.int (a.natAbs : Int), C) := by
  show some (D.int (if a < 0 then -a else a), C) = _
  congr 3
  by_cases h : a < 0
  · rw [if_pos h]; omega
  · rw [if_neg h]; omega
@[simp] theorem ev_eq (a b : Int) : oEqA false (.int a) (.int b) C = some (.bl (decide (a = b)), C) := rfl
@[simp] theorem ev_ne (a b : Int) : oEqA true (.int a) (.int b) C = some (.bl (!decide (a = b)), C) := rfl
@[simp] theorem ev_eqS (a b : Str) : oEqA false (.str a) (.str b) C = some (.bl (decide (a = b)), C) := rfl
@[simp] theorem ev_neS (a b : Str) : oEqA true (.str a) (.str b) C = some (.bl (!decide (a = b)), C) := rfl
end
/-! ### what is done next, as constants -/
section
variable {α β : Type}
def opK2 (o : O2) (x : D) (m : R D) : R D := bnd m fun y C2 => ofO (o x y C2)
@[simp] theorem opK2_ok (o : O2) (x y : D) (C : Store) : opK2 o x (.ok y C) = ofO (o x y C) := rfl
def opK (o : O2) (b : ME) (F : Fr) (m : R D) : R D := bnd m fun x C1 => opK2 o x (b F C1)
@[simp] theorem opK_ok (o : O2) (b : ME) (F : Fr) (x : D) (C : Store) : opK o b F (.ok x C) = opK2 o x (b F C) := rfl
@[simp] theorem ev_op (o : O2) (a b : ME) (F : Fr) (C : Store) : mOp o a b F C = opK o b F (a F C) := rfl
def unK (o : O1) (m : R D) : R D := bnd m fun x C1 => ofO (o x C1)
@[simp] theorem unK_ok (o : O1) (x : D) (C : Store) : unK o (.ok x C) = ofO (o x C) := rfl
@[simp] theorem ev_un (o : O1) (a : ME) (F : Fr) (C : Store) : mUn o a F C = unK o (a F C) := rfl
def consK2 (x : D) (m : R (List D)) : R (List D) := bnd m fun xs C2 => .ok (x :: xs) C2
@[simp] theorem consK2_ok (x : D) (xs : List D) (C : Store) : consK2 x (.ok xs C) = .ok (x :: xs) C := rfl
def consK (r : MA) (F : Fr) (m : R D) : R (List D) := bnd m fun x C1 => consK2 x (r F C1)
@[simp] theorem consK_ok (r : MA) (F : Fr) (x : D) (C : Store) : consK r F (.ok x C) = consK2 x (r F C) := rfl
@[simp] theorem ev_cons (a : ME) (r : MA) (F : Fr) (C : Store) : mCons a r F C = consK r F (a F C) := rfl
def apK (o : OA) (m : R (List D)) : R D := bnd m fun xs C1 => ofO (o xs C1)
@[simp] theorem apK_ok (o : OA) (xs : List D) (C : Store) : apK o (.ok xs C) = ofO (o xs C) := rfl
@[simp] theorem ev_ap (o : OA) (a : MA) (F : Fr) (C : Store) : mAp o a F C = apK o (a F C) := rfl
def tstK (m : R D) : R Bool := bnd m asB
@[simp] theorem tstK_ok (b : Bool) (C : Store) : tstK (.ok (.bl b) C) = .ok b C := rfl
@[simp] theorem ev_tst (a : ME) (F : Fr) (C : Store) : mTst a F C = tstK (a F C) := rfl
def tandK (b : MT) (F : Fr) (m : R Bool) : R Bool := bnd m fun x C1 => if x = true then b F C1 else .ok false C1
@[simp] theorem tandK_t (b : MT) (F : Fr) (C : Store) : tandK b F (.ok true C) = b F C := rfl
@[simp] theorem tandK_f (b : MT) (F : Fr) (C : Store) : tandK b F (.ok false C) = .ok false C := rfl
@[simp] theorem ev_tand (a b : MT) (F : Fr) (C : Store) : tAndM a b F C = tandK b F (a F C) := rfl
def torK (b : MT) (F : Fr) (m : R Bool) : R Bool := bnd m fun x C1 => if x = true then .ok true C1 else b F C1
@[simp] theorem torK_t (b : MT) (F : Fr) (C : Store) : torK b F (.ok true C) = .ok true C := rfl
@[simp] theorem torK_f (b : MT) (F : Fr) (C : Store) : torK b F (.ok false C) = b F C := rfl
@[simp] theorem ev_tor (a b : MT) (F : Fr) (C : Store) : tOrM a b F C = torK b F (a F C) := rfl
def tnotK (m : R Bool) : R Bool := bnd m fun x C1 => .ok (!x) C1
@[simp] theorem tnotK_ok (x : Bool) (C : Store) : tnotK (.ok x C) = .ok (!x) C := rfl
@[simp] theorem ev_tnot (a : MT) (F : Fr) (C : Store) : tNotM a F C = tnotK (a F C) := rfl
def ifK (a b : ME) (F : Fr) (m : R Bool) : R D := bnd m fun x C1 => if x = true then a F C1 else b F C1
@[simp] theorem ifK_t (a b : ME) (F : Fr) (C : Store) : ifK a b F (.ok true C) = a F C := rfl
@[simp] theorem ifK_f (a b : ME) (F : Fr) (C : Store) : ifK a b F (.ok false C) = b F C := rfl
@[simp] theorem ev_if (t : MT) (a b : ME) (F : Fr) (C : Store) : mIf t a b F C = ifK a b F (t F C) := rfl
def andK (b : ME) (F : Fr) (m : R D) : R D := bnd m fun x C1 => match x with
  | .bl true => b F C1
  | .bl false => .ok (.bl false) C1
  | _ => .stuck
@[simp] theorem andK_t (b : ME) (F : Fr) (C : Store) : andK b F (.ok (.bl true) C) = b F C := rfl
@[simp] theorem andK_f (b : ME) (F : Fr) (C : Store) : andK b F (.ok (.bl false) C) = .ok (.bl false) C := rfl
@[simp] theorem ev_and (a b : ME) (F : Fr) (C : Store) : mAnd a b F C = andK b F (a F C) := rfl
def orK (b : ME) (F : Fr) (m : R D) : R D := bnd m fun x C1 => match x with
  | .bl true => .ok (.bl true) C1
  | .bl false => b F C1
  | _ => .stuck
@[simp] theorem orK_t (b : ME) (F : Fr) (C : Store) : orK b F (.ok (.bl true) C) = .ok (.bl true) C := rfl
@[simp] theorem orK_f (b : ME) (F : Fr) (C : Store) : orK b F (.ok (.bl false) C) = b F C := rfl
@[simp] theorem ev_or (a b : ME) (F : Fr) (C : Store) : mOr a b F C = orK b F (a F C) := rfl
def notK (m : R D) : R D := bnd m fun x C1 => match x with
  | .bl b => .ok (.bl (!b)) C1
  | _ => .stuck
@[simp] theorem notK_ok (b : Bool) (C : Store) : notK (.ok (.bl b) C) = .ok (.bl (!b)) C := rfl
@[simp] theorem ev_not (a : ME) (F : Fr) (C : Store) : mNot a F C = notK (a F C) := rfl
def chK4 (o' : O2) (y : D) (m : R D) : R D := bnd m fun w C4 => ofO (o' y w C4)
@[simp] theorem chK4_ok (o' : O2) (y w : D) (C : Store) : chK4 o' y (.ok w C) = ofO (o' y w C) := rfl
def chK3 (o' : O2) (c : ME) (F : Fr) (y : D) (m : R D) : R D := bnd m fun z C3 => match z with
  | .bl true => chK4 o' y (c F C3)
  | .bl false => .ok (.bl false) C3
  | _ => .stuck
@[simp] theorem chK3_t (o' : O2) (c : ME) (F : Fr) (y : D) (C : Store) : chK3 o' c F y (.ok (.bl true) C) = chK4 o' y (c F C) := rfl
@[simp] theorem chK3_f (o' : O2) (c : ME) (F : Fr) (y : D) (C : Store) : chK3 o' c F y (.ok (.bl false) C) = .ok (.bl false) C := rfl
def chK2 (o o' : O2) (c : ME) (F : Fr) (x : D) (m : R D) : R D := bnd m fun y C2 => chK3 o' c F y (ofO (o x y C2))
@[simp] theorem chK2_ok (o o' : O2) (c : ME) (F : Fr) (x y : D) (C : Store) : chK2 o o' c F x (.ok y C) = chK3 o' c F y (ofO (o x y C)) := rfl
def chK (o o' : O2) (b c : ME) (F : Fr) (m : R D) : R D := bnd m fun x C1 => chK2 o o' c F x (b F C1)
@[simp] theorem chK_ok (o o' : O2) (b c : ME) (F : Fr) (x : D) (C : Store) : chK o o' b c F (.ok x C) = chK2 o o' c F x (b F C) := rfl
@[simp] theorem ev_chain (o o' : O2) (a b c : ME) (F : Fr) (C : Store) : mChain o o' a b c F C = chK o o' b c F (a F C) := rfl
def seqK (b : MS) (fl : Nat) (r : RS) : RS := match r with
  | .nx sl C1 => b ⟨fl, sl⟩ C1
  | r => r
@[simp] theorem seqK_nx (b : MS) (fl : Nat) (sl : List (Option D)) (C : Store) : seqK b fl (.nx sl C) = b ⟨fl, sl⟩ C := rfl
@[simp] theorem seqK_rt (b : MS) (fl : Nat) (d : D) (C : Store) : seqK b fl (.rt d C) = .rt d C := rfl
@[simp] theorem ev_seq (a b : MS) (F : Fr) (C : Store) : sSeq a b F C = seqK b F.fl (a F C) := by
  unfold sSeq seqK
  cases a F C <;> rfl
def dropK (sl : List (Option D)) (m : R D) : RS := bndS sl m fun _ C1 => .nx sl C1
@[simp] theorem dropK_ok (sl : List (Option D)) (d : D) (C : Store) : dropK sl (.ok d C) = .nx sl C := rfl
@[simp] theorem ev_sdrop (m : ME) (F : Fr) (C : Store) : sDrop m F C = dropK F.sl (m F C) := rfl
def retK (sl : List (Option D)) (m : R D) : RS := bndS sl m fun d C1 => .rt d C1
@[simp] theorem retK_ok (sl : List (Option D)) (d : D) (C : Store) : retK sl (.ok d C) = .rt d C := rfl
@[simp] theorem ev_sret (m : ME) (F : Fr) (C : Store) : sRet m F C = retK F.sl (m F C) := rfl
def sifK (a b : MS) (F : Fr) (m : R Bool) : RS := bndS F.sl m fun x C1 => if x = true then a F C1 else b F C1
@[simp] theorem sifK_t (a b : MS) (F : Fr) (C : Store) : sifK a b F (.ok true C) = a F C := rfl
@[simp] theorem sifK_f (a b : MS) (F : Fr) (C : Store) : sifK a b F (.ok false C) = b F C := rfl
@[simp] theorem ev_sif (t : MT) (a b : MS) (F : Fr) (C : Store) : sIf t a b F C = sifK a b F (t F C) := rfl
def asgK (g : MG) (sl : List (Option D)) (m : R D) : RS := bndS sl m fun d C1 => asgS (g d sl) C1
@[simp] theorem asgK_ok (g : MG) (sl : List (Option D)) (d : D) (C : Store) : asgK g sl (.ok d C) = asgS (g d sl) C := rfl
@[simp] theorem ev_asg (m : ME) (g : MG) (F : Fr) (C : Store) : sAsg m g F C = asgK g F.sl (m F C) := rfl
def parK (is : List Nat) (sl : List (Option D)) (m : R (List D)) : RS := bndS sl m fun ds C1 => asgS (setAll is ds sl) C1
@[simp] theorem parK_ok (is : List Nat) (sl : List (Option D)) (ds : List D) (C : Store) : parK is sl (.ok ds C) = asgS (setAll is ds sl) C := rfl
@[simp] theorem ev_par (is : List Nat) (m : MA) (F : Fr) (C : Store) : sPar is m F C = parK is F.sl (m F C) := rfl
@[simp] theorem setAll_nil (sl : List (Option D)) : setAll [] [] sl = some sl := rfl
@[simp] theorem setAll_cons (i : Nat) (is : List Nat) (d : D) (ds : List D) (sl : List (Option D)) : setAll (i :: is) (d :: ds) sl = setAll is ds (sl.set i (some d)) := rfl
@[simp] theorem ev_gT (is : List Nat) (ds : List D) (sl : List (Option D)) : gT is (.tup ds) sl = setAll is ds sl := rfl
def callK (m : MF) (dds : List D) (r : R (List D)) : R D := bnd r fun ds C1 => m (ds ++ dds) C1
@[simp] theorem callK_ok (m : MF) (dds ds : List D) (C : Store) : callK m dds (.ok ds C) = m (ds ++ dds) C := rfl
@[simp] theorem ev_call (m : MF) (dds : List D) (a : MA) (F : Fr) (C : Store) : mCall m dds a F C = callK m dds (a F C) := rfl
def forK (g : MG) (body : MS) (F : Fr) (m : R ItD) : RS := bndS F.sl m fun it C1 => loopN it g body F.fl it.n 0 F.sl C1
@[simp] theorem forK_ok (g : MG) (body : MS) (F : Fr) (it : ItD) (C : Store) : forK g body F (.ok it C) = loopN it g body F.fl it.n 0 F.sl C := rfl
@[simp] theorem ev_for (mi : MI) (g : MG) (body : MS) (F : Fr) (C : Store) : sFor mi g body F C = forK g body F (mi F C) := rfl
/-! #### methods, properties, dicts -/
def mthK2 (m : MF) (dds : List D) (x : D) (r : R (List D)) : R D := bnd r fun ds C2 => m (x :: (ds ++ dds)) C2
@[simp] theorem mthK2_ok (m : MF) (dds ds : List D) (x : D) (C : Store) : mthK2 m dds x (.ok ds C) = m (x :: (ds ++ dds)) C := rfl
def mthK (c : Nat) (m : MF) (dds : List D) (a : MA) (F : Fr) (r : R D) : R D := bnd r fun x C1 => match vO x C1 with
  | some (c', _) => if c' = c then mthK2 m dds x (a F C1) else .stuck
  | none => .stuck
@[simp] theorem mthK_ok (c : Nat) (m : MF) (dds : List D) (a : MA) (F : Fr) (fs : List D) (C : Store) : mthK c m dds a F (.ok (.obj c fs) C) = mthK2 m dds (.obj c fs) (a F C) := by
  show (if c = c then mthK2 m dds (.obj c fs) (a F C) else .stuck) = _
  rw [if_pos rfl]
@[simp] theorem ev_meth (c : Nat) (m : MF) (dds : List D) (mo : ME) (a : MA) (F : Fr) (C : Store) : mMeth c m dds mo a F C = mthK c m dds a F (mo F C) := rfl
def prpK (c : Nat) (m : MF) (r : R D) : R D := bnd r fun x C1 => match vO x C1 with
  | some (c', _) => if c' = c then (match m [x] C1 with
    | .ok d C2 => .ok d C2
    | _ => .stuck) else .stuck
  | none => .stuck
@[simp] theorem ev_prop (c : Nat) (m : MF) (mo : ME) (F : Fr) (C : Store) : mProp c m mo F C = prpK c m (mo F C) := rfl
@[simp] theorem ev_fld (c n : Nat) (fs : List D) (C : Store) : oFld c n (.obj c fs) C = (fs[n]?).map fun d => (d, C) := by
  unfold oFld
  simp [vO]
def getK3 (x y : D) (m : R D) : R D := bnd m fun z C3 => ofO (oDGet x y z C3)
@[simp] theorem getK3_ok (x y z : D) (C : Store) : getK3 x y (.ok z C) = ofO (oDGet x y z C) := rfl
def getK2 (c : ME) (F : Fr) (x : D) (m : R D) : R D := bnd m fun y C2 => getK3 x y (c F C2)
@[simp] theorem getK2_ok (c : ME) (F : Fr) (x y : D) (C : Store) : getK2 c F x (.ok y C) = getK3 x y (c F C) := rfl
def getK (b c : ME) (F : Fr) (m : R D) : R D := bnd m fun x C1 => if (vD x C1).isSome = true then getK2 c F x (b F C1) else .stuck
@[simp] theorem ev_dget (a b c : ME) (F : Fr) (C : Store) : mDGet a b c F C = getK b c F (a F C) := rfl
def isiK (kn : List Nat) (t : Cc) (m : R D) : R D := bnd m fun d C1 => match isi kn d C1 t with
  | some b => .ok (.bl b) C1
  | none => .stuck
@[simp] theorem ev_isi (kn : List Nat) (t : Cc) (m : ME) (F : Fr) (C : Store) : mIsi kn t m F C = isiK kn t (m F C) := rfl
@[simp] theorem isiK_ok (kn : List Nat) (t : Cc) (d : D) (C : Store) : isiK kn t (.ok d C) = ofO ((isi kn d C t).map fun b => (.bl b, C)) := by
  show (match isi kn d C t with
    | some b => R.ok (D.bl b) C
    | none => R.stuck) = _
  cases isi kn d C t <;> rfl
/-! #### lists written -/
def stK4 (F : Fr) (v o : D) (x : D) (C3 : Store) : RS := match x, cL o C3 with
  | .int n, some (i, ds) => match ixN ds.length n with
    | some j => match wr F.fl i (.lst (ds.set j v)) C3 with
      | some C4 => .nx F.sl C4
      | none => .stuck
    | none => .stuck
  | _, _ => .stuck
def stK3 (F : Fr) (v o : D) (m : R D) : RS := bndS F.sl m fun x C3 => stK4 F v o x C3
@[simp] theorem stK3_ok (F : Fr) (v o x : D) (C : Store) : stK3 F v o (.ok x C) = stK4 F v o x C := rfl
def stK2 (mi : ME) (F : Fr) (v : D) (m : R D) : RS := bndS F.sl m fun o C2 => stK3 F v o (mi F C2)
@[simp] theorem stK2_ok (mi : ME) (F : Fr) (v o : D) (C : Store) : stK2 mi F v (.ok o C) = stK3 F v o (mi F C) := rfl
def stK (mo mi : ME) (F : Fr) (m : R D) : RS := bndS F.sl m fun v C1 => stK2 mi F v (mo F C1)
@[simp] theorem stK_ok (mo mi : ME) (F : Fr) (v : D) (C : Store) : stK mo mi F (.ok v C) = stK2 mi F v (mo F C) := rfl
@[simp] theorem ev_setL (me mo mi : ME) (F : Fr) (C : Store) : sSetL me mo mi F C = stK mo mi F (me F C) := rfl
def auK4 (o : Int → Int → Int) (F : Fr) (l : D) (n a : Int) (v : D) (C3 : Store) : RS := match v, cL l C3 with
  | .int b, some (i, es) => (match ixN es.length n with
    | some j => (match wr F.fl i (.lst (es.set j (.int (o a b)))) C3 with
      | some C4 => .nx F.sl C4
      | none => .stuck)
    | none => .stuck)
  | _, _ => .stuck
def auK3 (o : Int → Int → Int) (F : Fr) (l : D) (n a : Int) (m : R D) : RS := bndS F.sl m fun v C3 => auK4 o F l n a v C3
@[simp] theorem auK3_ok (o : Int → Int → Int) (F : Fr) (l : D) (n a : Int) (v : D) (C : Store) : auK3 o F l n a (.ok v C) = auK4 o F l n a v C := rfl
def auK2 (o : Int → Int → Int) (me : ME) (F : Fr) (l : D) (x : D) (C2 : Store) : RS := match x, cL l C2 with
  | .int n, some (_, ds) => if 0 ≤ n then (match ds[n.toNat]? with
    | some (.int a) => auK3 o F l n a (me F C2)
    | _ => .stuck) else .stuck
  | _, _ => .stuck
def auK1 (o : Int → Int → Int) (me : ME) (F : Fr) (l : D) (m : R D) : RS := bndS F.sl m fun x C2 => auK2 o me F l x C2
@[simp] theorem auK1_ok (o : Int → Int → Int) (me : ME) (F : Fr) (l x : D) (C : Store) : auK1 o me F l (.ok x C) = auK2 o me F l x C := rfl
def auK (o : Int → Int → Int) (mi me : ME) (F : Fr) (m : R D) : RS := bndS F.sl m fun l C1 => auK1 o me F l (mi F C1)
@[simp] theorem auK_ok (o : Int → Int → Int) (mi me : ME) (F : Fr) (l : D) (C : Store) : auK o mi me F (.ok l C) = auK1 o me F l (mi F C) := rfl
@[simp] theorem ev_augL (o : Int → Int → Int) (mo mi me : ME) (F : Fr) (C : Store) : sAugL o mo mi me F C = auK o mi me F (mo F C) := rfl
@[simp] theorem cbL_ints (n : Nat) : ∀ cs : List Int, cbL n (cs.map D.int) = true
  | [] => rfl
  | c :: cs => by
    show (cb n (.int c) && cbL n (cs.map D.int)) = true
    rw [cbL_ints n cs]
    rfl
end
end CT
set_option maxHeartbeats 4000000
/-! DLT: sorted(set(xs)) of ints, len(set(xs)) of tuples of ints. -/
namespace CT
open PySem L2 PySem.Spec PyProof.Rows
/-! ### unlike members, ascending -/
/-! ### unlike rows -/
/-! ### the calls -/
/-! ### over data -/
end CT
set_option maxHeartbeats 4000000
/-! DLU: repr of an empty dict. -/
namespace CT
open PySem L2 PySem.Spec PyProof.Rows
end CT
set_option maxHeartbeats 4000000
/-! DLV: l.count(x) over data. -/
namespace CT
open PySem L2 PySem.Spec PyProof.Rows
end CT
set_option maxHeartbeats 4000000
/-! DLW: a class whose __init__ takes *numbers and a keyword. -/
namespace CT
open PySem L2 PySem.Spec PyProof.Rows
abbrev tupO (its : List Value) : Obj := { cls := .type "tuple", data := .seq its.toArray }
abbrev pushT (s : Shared) (its : List Value) : Shared := { s with heap := s.heap.push (tupO its) }
/-- binding makes a tuple of the rest -/
def BindsW (s : Shared) (fd : FuncData) (args : Args) (binds : List (Str × Value)) (its : List Value) : Prop :=
  ∀ (M : Model) (A : Around) (E : Value → Shared → Prop) (Q : List (Str × Value) → Shared → Prop), Q binds (pushT s its) → wpAny M A (bindArgs fd args) Q E s
structure FnW (P : Program) (w : World) (K : PySem.W.Frag) (mg : Str → Option Value) (base : Heap) (lev : Nat) (f : Addr) (fd : FuncData) (ps : List Str) (sp : Sp) : Prop where
  len : ∀ vs H Q E, sp vs H Q E → vs.length = ps.length
  run : ∀ (A : Around) (outer : List Env) (s : Shared) (H : Hp) (args : Args) (us its : List Value) (vs ws : List V) (Q : VK) (E : XK), RoomG lev A → Env0 P w K mg base A outer s H → its.length ≤ sizeLine → Vals ws its → BindsW s fd args (ps.zip us) its → Vals vs us → sp vs (upd H s.heap.objs.size (.tup ws)) Q E →
    codeAny (model P w) A (.call (.ref f) args) (CR (L2.CX P w) outer P w H s Q E) s
/-! ### C(e, ..), C(k = e) -/
/-- what the call's arguments become: the keyword's value, the rest -/
inductive Vg where
  | pos | kw
def Vg.d : Vg → List D → D × List D
  | .pos, ds => (.non, ds)
  | .kw, ds => (ds.headD .non, [])
def Vg.v : Vg → List V → V × List V
  | .pos, ds => (.non, ds)
  | .kw, ds => (ds.headD .non, [])
section
variable {k : Cn} {A : Nat → Addr} {C : Store} {H : Hp}
theorem Vg.rep (g : Vg) {vs : List V} {ds : List D} (r : RepL k A C H vs ds) : Rep k A C H (g.v vs).1 (g.d ds).1 ∧ RepL k A C H (g.v vs).2 (g.d ds).2 := by
  cases g with
  | pos => exact ⟨.non, r⟩
  | kw => cases r with
    | nil => exact ⟨.non, .nil⟩
    | cons h t => exact ⟨h, .nil⟩
end
end CT
set_option maxHeartbeats 4000000
/-! DLX: len(set(t)) of a tuple of ints; sorted(t); str(n), f-strings, join. -/
namespace CT
open PySem L2 PySem.Spec PyProof.Rows
/-! ### len(set(t)) -/
/-! ### sorted(t) -/
end CT
set_option maxHeartbeats 4000000
/-! DLY: sorted of lists or tuples; str(n), f-strings, join; str(o) by the class's own __str__. -/
namespace CT
open PySem L2 PySem.Spec PyProof.Rows
end CT
set_option maxHeartbeats 4000000
/-! DLZ: binding of *numbers and a keyword that is None by itself. -/
namespace CT
open PySem L2 PySem.Spec PyProof.Rows
end CT
set_option maxHeartbeats 4000000
/-! DM1: classmethods (C.m(..), cls(k = e)); + of texts. -/
namespace CT
open PySem L2 PySem.Spec PyProof.Rows
end CT
set_option maxHeartbeats 4000000
/-! DM2: the head's Hook where attributes of classes are read. -/
namespace CT
open PySem L2 PySem.Spec PyProof.Rows
end CT
set_option maxHeartbeats 8000000
set_option pp.maxSteps 60
namespace CL
open PySem L2 PySem.Spec PyProof.Rows CT
def top (i : Nat) : Stmt := PySem.Challenge.pw_contentties_k81_tables.main.body.getD i (.Pass ⟨0, 0, 0, 0⟩)
def mem (i j : Nat) : Stmt := match top i with
  | .ClassDef _ _ _ b _ _ _ _ _ _ _ => b.getD j (.Pass ⟨0, 0, 0, 0⟩)
  | s => s
def clA (K : PySem.W.Frag) (c : Nat) : Addr := match c with
  | 0 => He.ga K "Web"
  | 1 => He.ga K "TooMany"
  | _ => 0
abbrev s_TooMany__init : Stmt := mem 9 0
abbrev a_TooMany__init (K : PySem.W.Frag) : Addr := He.ma K (He.ga K "TooMany") "__init__"
abbrev s_is_integer : Stmt := top 3
abbrev a_is_integer (K : PySem.W.Frag) : Addr := He.ga K "is_integer"
abbrev s_is_number : Stmt := top 4
abbrev a_is_number (K : PySem.W.Frag) : Addr := He.ga K "is_number"
abbrev s_is_count : Stmt := top 5
abbrev a_is_count (K : PySem.W.Frag) : Addr := He.ga K "is_count"
abbrev s_is_tie : Stmt := top 14
abbrev a_is_tie (K : PySem.W.Frag) : Addr := He.ga K "is_tie"
abbrev s_summed : Stmt := top 15
abbrev a_summed (K : PySem.W.Frag) : Addr := He.ga K "summed"
abbrev s_grid_of : Stmt := top 16
abbrev a_grid_of (K : PySem.W.Frag) : Addr := He.ga K "grid_of"
abbrev s_Web__init : Stmt := mem 17 0
abbrev a_Web__init (K : PySem.W.Frag) : Addr := He.ma K (He.ga K "Web") "__init__"
abbrev s_Web_degrees : Stmt := mem 17 2
abbrev a_Web_degrees (K : PySem.W.Frag) : Addr := prG K (He.ga K "Web") "degrees"
abbrev s_Web__getitem : Stmt := mem 17 3
abbrev a_Web__getitem (K : PySem.W.Frag) : Addr := He.ma K (He.ga K "Web") "__getitem__"
abbrev s_check_size : Stmt := top 19
abbrev a_check_size (K : PySem.W.Frag) : Addr := He.ga K "check_size"
abbrev s_pairs_of : Stmt := top 21
abbrev a_pairs_of (K : PySem.W.Frag) : Addr := He.ga K "pairs_of"
abbrev s_numbers : Stmt := top 22
abbrev a_numbers (K : PySem.W.Frag) : Addr := He.ga K "numbers"
abbrev s_check_light : Stmt := top 23
abbrev a_check_light (K : PySem.W.Frag) : Addr := He.ga K "check_light"
abbrev s_is_table : Stmt := top 25
abbrev a_is_table (K : PySem.W.Frag) : Addr := He.ga K "is_table"
abbrev s_is_tables : Stmt := top 26
abbrev a_is_tables (K : PySem.W.Frag) : Addr := He.ga K "is_tables"
abbrev s_displeasure : Stmt := top 27
abbrev a_displeasure (K : PySem.W.Frag) : Addr := He.ga K "displeasure"
abbrev s_distances : Stmt := top 28
abbrev a_distances (K : PySem.W.Frag) : Addr := He.ga K "distances"
abbrev s_squares : Stmt := top 29
abbrev a_squares (K : PySem.W.Frag) : Addr := He.ga K "squares"
abbrev s_added : Stmt := top 30
abbrev a_added (K : PySem.W.Frag) : Addr := He.ga K "added"
abbrev s_law_bag : Stmt := top 32
abbrev a_law_bag (K : PySem.W.Frag) : Addr := He.ga K "_law_bag"
abbrev s_law_take : Stmt := top 33
abbrev a_law_take (K : PySem.W.Frag) : Addr := He.ga K "_law_take"
abbrev s_law_one : Stmt := top 34
abbrev a_law_one (K : PySem.W.Frag) : Addr := He.ga K "_law_one"
abbrev s_law_mixed : Stmt := top 35
abbrev a_law_mixed (K : PySem.W.Frag) : Addr := He.ga K "_law_mixed"
abbrev s_law_pairs : Stmt := top 36
abbrev a_law_pairs (K : PySem.W.Frag) : Addr := He.ga K "_law_pairs"
abbrev s_law_light : Stmt := top 37
abbrev a_law_light (K : PySem.W.Frag) : Addr := He.ga K "_law_light"
abbrev s_law_grid : Stmt := top 38
abbrev a_law_grid (K : PySem.W.Frag) : Addr := He.ga K "_law_grid"
abbrev s_law_alike : Stmt := top 39
abbrev a_law_alike (K : PySem.W.Frag) : Addr := He.ga K "_law_alike"
abbrev s_law_is_whole : Stmt := top 40
abbrev a_law_is_whole (K : PySem.W.Frag) : Addr := He.ga K "_law_is_whole"
abbrev s_law_table : Stmt := top 41
abbrev a_law_table (K : PySem.W.Frag) : Addr := He.ga K "_law_table"
abbrev s_law_cost : Stmt := top 42
abbrev a_law_cost (K : PySem.W.Frag) : Addr := He.ga K "_law_cost"
abbrev s_law_tables_right : Stmt := top 43
abbrev a_law_tables_right (K : PySem.W.Frag) : Addr := He.ga K "_law_tables_right"
abbrev s_law_bent : Stmt := top 44
abbrev a_law_bent (K : PySem.W.Frag) : Addr := He.ga K "_law_bent"
abbrev s_law_door : Stmt := top 45
abbrev a_law_door (K : PySem.W.Frag) : Addr := He.ga K "_law_door"
abbrev s_law_wish : Stmt := top 46
abbrev a_law_wish (K : PySem.W.Frag) : Addr := He.ga K "_law_wish"
abbrev s_law_wide_right : Stmt := top 47
abbrev a_law_wide_right (K : PySem.W.Frag) : Addr := He.ga K "_law_wide_right"
abbrev s_law : Stmt := top 48
abbrev a_law (K : PySem.W.Frag) : Addr := He.ga K "law"
def d_Web__init (K : PySem.W.Frag) : Addr := He.dflAt ("Web", some "__init__") 0 K
def fs : List (PySem.W.Frag → Bool) := [(He.Fa.free "abs").ok,
  (He.Fa.free "all").ok,
  (He.Fa.free "any").ok,
  (He.Fa.free "bool").ok,
  (He.Fa.free "enumerate").ok,
  (He.Fa.free "int").ok,
  (He.Fa.free "isinstance").ok,
  (He.Fa.free "len").ok,
  (He.Fa.free "list").ok,
  (He.Fa.free "max").ok,
  (He.Fa.free "min").ok,
  (He.Fa.free "range").ok,
  (He.Fa.free "repr").ok,
  (He.Fa.free "sorted").ok,
  (He.Fa.free "str").ok,
  (He.Fa.free "sum").ok,
  (He.Fa.free "tuple").ok,
  (He.Fa.free "zip").ok,
  (He.Fa.int "MOST" 1000000000).ok,
  (He.Fa.glo "is_integer").ok,
  (He.Fa.glo "is_number").ok,
  (He.Fa.glo "is_count").ok,
  (He.Fa.glo "is_tie").ok,
  (He.Fa.glo "summed").ok,
  (He.Fa.glo "grid_of").ok,
  (He.Fa.glo "check_size").ok,
  (He.Fa.glo "pairs_of").ok,
  (He.Fa.glo "numbers").ok,
  (He.Fa.glo "check_light").ok,
  (He.Fa.glo "is_table").ok,
  (He.Fa.glo "is_tables").ok,
  (He.Fa.glo "displeasure").ok,
  (He.Fa.glo "distances").ok,
  (He.Fa.glo "squares").ok,
  (He.Fa.glo "added").ok,
  (He.Fa.glo "_law_bag").ok,
  (He.Fa.glo "_law_take").ok,
  (He.Fa.glo "_law_one").ok,
  (He.Fa.glo "_law_mixed").ok,
  (He.Fa.glo "_law_pairs").ok,
  (He.Fa.glo "_law_light").ok,
  (He.Fa.glo "_law_grid").ok,
  (He.Fa.glo "_law_alike").ok,
  (He.Fa.glo "_law_is_whole").ok,
  (He.Fa.glo "_law_table").ok,
  (He.Fa.glo "_law_cost").ok,
  (He.Fa.glo "_law_tables_right").ok,
  (He.Fa.glo "_law_bent").ok,
  (He.Fa.glo "_law_door").ok,
  (He.Fa.glo "_law_wish").ok,
  (He.Fa.glo "_law_wide_right").ok,
  (He.Fa.glo "law").ok,
  (He.Fa.glo "Web").ok,
  (He.Fa.cls "Web").ok,
  (He.Fa.noat "Web" "size").ok,
  (He.Fa.noat "Web" "grid").ok,
  (He.Fa.noat "Web" "ties").ok,
  (He.Fa.mkr "Web").ok,
  ktB d_Web__init,
  prB "Web" "degrees",
  dnB "Web" "__getitem__",
  (He.Fa.glo "TooMany").ok,
  xiB "TooMany",
  (He.Fa.noat "TooMany" "limit").ok,
  exmB clA "TooMany" [1] [],
  xsB clA [1],
  isaB clA [0]]
def dx_TooMany__init : DefX := ⟨a_TooMany__init, "__init__", "TooMany.__init__", defArgs s_TooMany__init, defBody s_TooMany__init, defScope s_TooMany__init, fun _ => []⟩
def dx_is_integer : DefX := ⟨a_is_integer, "is_integer", "is_integer", defArgs s_is_integer, defBody s_is_integer, defScope s_is_integer, fun _ => []⟩
def dx_is_number : DefX := ⟨a_is_number, "is_number", "is_number", defArgs s_is_number, defBody s_is_number, defScope s_is_number, fun _ => []⟩
def dx_is_count : DefX := ⟨a_is_count, "is_count", "is_count", defArgs s_is_count, defBody s_is_count, defScope s_is_count, fun _ => []⟩
def dx_is_tie : DefX := ⟨a_is_tie, "is_tie", "is_tie", defArgs s_is_tie, defBody s_is_tie, defScope s_is_tie, fun _ => []⟩
def dx_summed : DefX := ⟨a_summed, "summed", "summed", defArgs s_summed, defBody s_summed, defScope s_summed, fun _ => []⟩
def dx_grid_of : DefX := ⟨a_grid_of, "grid_of", "grid_of", defArgs s_grid_of, defBody s_grid_of, defScope s_grid_of, fun _ => []⟩
def dx_Web__init : DefX := ⟨a_Web__init, "__init__", "Web.__init__", defArgs s_Web__init, defBody s_Web__init, defScope s_Web__init, fun K => [V.ref (d_Web__init K)]⟩
def dx_Web_degrees : DefX := ⟨a_Web_degrees, "degrees", "Web.degrees", defArgs s_Web_degrees, defBody s_Web_degrees, defScope s_Web_degrees, fun _ => []⟩
def dx_Web__getitem : DefX := ⟨a_Web__getitem, "__getitem__", "Web.__getitem__", defArgs s_Web__getitem, defBody s_Web__getitem, defScope s_Web__getitem, fun _ => []⟩
def dx_check_size : DefX := ⟨a_check_size, "check_size", "check_size", defArgs s_check_size, defBody s_check_size, defScope s_check_size, fun _ => []⟩
def dx_pairs_of : DefX := ⟨a_pairs_of, "pairs_of", "pairs_of", defArgs s_pairs_of, defBody s_pairs_of, defScope s_pairs_of, fun _ => []⟩
def dx_numbers : DefX := ⟨a_numbers, "numbers", "numbers", defArgs s_numbers, defBody s_numbers, defScope s_numbers, fun _ => []⟩
def dx_check_light : DefX := ⟨a_check_light, "check_light", "check_light", defArgs s_check_light, defBody s_check_light, defScope s_check_light, fun _ => []⟩
def dx_is_table : DefX := ⟨a_is_table, "is_table", "is_table", defArgs s_is_table, defBody s_is_table, defScope s_is_table, fun _ => []⟩
def dx_is_tables : DefX := ⟨a_is_tables, "is_tables", "is_tables", defArgs s_is_tables, defBody s_is_tables, defScope s_is_tables, fun _ => []⟩
def dx_displeasure : DefX := ⟨a_displeasure, "displeasure", "displeasure", defArgs s_displeasure, defBody s_displeasure, defScope s_displeasure, fun _ => []⟩
def dx_distances : DefX := ⟨a_distances, "distances", "distances", defArgs s_distances, defBody s_distances, defScope s_distances, fun _ => []⟩
def dx_squares : DefX := ⟨a_squares, "squares", "squares", defArgs s_squares, defBody s_squares, defScope s_squares, fun _ => []⟩
def dx_added : DefX := ⟨a_added, "added", "added", defArgs s_added, defBody s_added, defScope s_added, fun _ => []⟩
def dx_law_bag : DefX := ⟨a_law_bag, "_law_bag", "_law_bag", defArgs s_law_bag, defBody s_law_bag, defScope s_law_bag, fun _ => []⟩
def dx_law_take : DefX := ⟨a_law_take, "_law_take", "_law_take", defArgs s_law_take, defBody s_law_take, defScope s_law_take, fun _ => []⟩
def dx_law_one : DefX := ⟨a_law_one, "_law_one", "_law_one", defArgs s_law_one, defBody s_law_one, defScope s_law_one, fun _ => []⟩
def dx_law_mixed : DefX := ⟨a_law_mixed, "_law_mixed", "_law_mixed", defArgs s_law_mixed, defBody s_law_mixed, defScope s_law_mixed, fun _ => []⟩
def dx_law_pairs : DefX := ⟨a_law_pairs, "_law_pairs", "_law_pairs", defArgs s_law_pairs, defBody s_law_pairs, defScope s_law_pairs, fun _ => []⟩
def dx_law_light : DefX := ⟨a_law_light, "_law_light", "_law_light", defArgs s_law_light, defBody s_law_light, defScope s_law_light, fun _ => []⟩
def dx_law_grid : DefX := ⟨a_law_grid, "_law_grid", "_law_grid", defArgs s_law_grid, defBody s_law_grid, defScope s_law_grid, fun _ => []⟩
def dx_law_alike : DefX := ⟨a_law_alike, "_law_alike", "_law_alike", defArgs s_law_alike, defBody s_law_alike, defScope s_law_alike, fun _ => []⟩
def dx_law_is_whole : DefX := ⟨a_law_is_whole, "_law_is_whole", "_law_is_whole", defArgs s_law_is_whole, defBody s_law_is_whole, defScope s_law_is_whole, fun _ => []⟩
def dx_law_table : DefX := ⟨a_law_table, "_law_table", "_law_table", defArgs s_law_table, defBody s_law_table, defScope s_law_table, fun _ => []⟩
def dx_law_cost : DefX := ⟨a_law_cost, "_law_cost", "_law_cost", defArgs s_law_cost, defBody s_law_cost, defScope s_law_cost, fun _ => []⟩
def dx_law_tables_right : DefX := ⟨a_law_tables_right, "_law_tables_right", "_law_tables_right", defArgs s_law_tables_right, defBody s_law_tables_right, defScope s_law_tables_right, fun _ => []⟩
def dx_law_bent : DefX := ⟨a_law_bent, "_law_bent", "_law_bent", defArgs s_law_bent, defBody s_law_bent, defScope s_law_bent, fun _ => []⟩
def dx_law_door : DefX := ⟨a_law_door, "_law_door", "_law_door", defArgs s_law_door, defBody s_law_door, defScope s_law_door, fun _ => []⟩
def dx_law_wish : DefX := ⟨a_law_wish, "_law_wish", "_law_wish", defArgs s_law_wish, defBody s_law_wish, defScope s_law_wish, fun _ => []⟩
def dx_law_wide_right : DefX := ⟨a_law_wide_right, "_law_wide_right", "_law_wide_right", defArgs s_law_wide_right, defBody s_law_wide_right, defScope s_law_wide_right, fun _ => []⟩
def dx_law : DefX := ⟨a_law, "law", "law", defArgs s_law, defBody s_law, defScope s_law, fun _ => []⟩
def fn : List DefX := [dx_TooMany__init, dx_is_integer, dx_is_number, dx_is_count, dx_is_tie, dx_summed, dx_grid_of, dx_Web__init, dx_Web_degrees, dx_Web__getitem, dx_check_size, dx_pairs_of, dx_numbers, dx_check_light, dx_is_table, dx_is_tables, dx_displeasure, dx_distances, dx_squares, dx_added, dx_law_bag, dx_law_take, dx_law_one, dx_law_mixed, dx_law_pairs, dx_law_light, dx_law_grid, dx_law_alike, dx_law_is_whole, dx_law_table, dx_law_cost, dx_law_tables_right, dx_law_bent, dx_law_door, dx_law_wish, dx_law_wide_right, dx_law]
end CL
set_option maxHeartbeats 4000000
/-! DM28: the head's Hook, its objects gathered by a walk that marks what it has seen in one number. -/
namespace CT
open PySem L2 PySem.Spec PyProof.Rows
/-- the addresses that are not marked, each once -/
def erB : Nat → List Addr → List Addr
  | _, [] => []
  | seen, a :: r => match Nat.beq (Nat.land (Nat.shiftRight seen a) 1) 1 with
    | true => erB seen r
    | false => a :: erB (Nat.lor seen (Nat.shiftLeft 1 a)) r
def mkB : Nat → List Addr → Nat
  | seen, [] => seen
  | seen, a :: r => mkB (Nat.lor seen (Nat.shiftLeft 1 a)) r
def nxB (g : Addr → Option Obj) : List Addr → List Addr
  | [] => []
  | a :: r => (match g a with
    | some o => He.refsD o
    | none => []) ++ nxB g r
def digB (g : Addr → Option Obj) : Nat → Nat → List Addr → List Addr
  | 0, _, _ => []
  | n + 1, seen, f => (fun t => t ++ digB g n (mkB seen t) t) (erB seen (nxB g f))
def agB (g : Addr → Option Obj) (n : Nat) : List Addr := mainGlobals :: (digB g n (Nat.shiftLeft 1 mainGlobals) [mainGlobals] ++ [cStatics])
def obGb (n : Nat) (fs : List (PySem.W.Frag → Bool)) (fn : List DefX) (g : Addr → Option Obj) : AlX := obX fs fn (He.frG g (agB g n))
def hookXb (n : Nat) (fs : List (PySem.W.Frag → Bool)) (fn : List DefX) : PySem.W.Hook where
  α := AlX
  obs := fun s => obGb n fs fn s.heap.get?
  val := fun _ => vlX fn
  says := fun _ h => ∃ K : PySem.W.Frag, K.In h ∧ SaysX fs fn K
  of := fun _ _ e => ⟨_, He.frG_in, e⟩
  keeps := fun _ _ _ ⟨K, hK, c⟩ k => ⟨K, PySem.W.Frag.In.keeps hK k, c⟩
end CT
set_option maxHeartbeats 0
namespace CL
open PySem L2 PySem.Spec PyProof.Rows CT
abbrev RR : PySem.W.OpenRow := PySem.W.OpenLaw.row PySem.Challenge.rw_contentties_k81_tables
abbrev hk : PySem.W.Hook := hookXb 6 fs fn
def ob (s : PySem.W.SharedT) : AlX := obGb 6 fs fn (HandSHeadRun.getT s)
def loose : List Str := (["_wall", "MOST", "is_integer", "is_number", "is_count", "ContentError", "Wrong", "TooMany", "BadTie", "TooFew", "Unequal", "is_tie", "summed", "grid_of", "Web", "check_size"] : List Str) ++ (["pairs_of", "numbers", "check_light", "is_table", "is_tables", "displeasure", "distances", "squares", "added", "_law_bag", "_law_take", "_law_one", "_law_mixed", "_law_pairs", "_law_light", "_law_grid"] : List Str) ++ (["_law_alike", "_law_is_whole", "_law_table", "_law_cost", "_law_tables_right", "_law_bent", "_law_door", "_law_wish", "_law_wide_right"] : List Str)
section
open HandSHeadRun PySem.W PySem.Calls
theorem run_looks (w : World) (os : OsState) : (HandSHeadRun.endF (HandSHeadRun.stepQ (HandSHeadRun.denQ HandSHeadRun.tabQ) RR.prog w) 20000 RR.prog w os).map (fun s => HandSHeadRun.looksF RR.prog (boot_heap w.params) s.abs) = some (true) := by kernel_rfl
theorem run_seen (w : World) (os : OsState) : (HandSHeadRun.endF (HandSHeadRun.stepQ (HandSHeadRun.denQ HandSHeadRun.tabQ) RR.prog w) 20000 RR.prog w os).map (fun s => HandSHeadRun.seenQ (PySem.W.view RR.prog [48]) loose (importedModules RR.prog.main.body) (fun s => xlAt (PySem.W.view RR.prog [48]) [] s && recOk RR.toRowW.records s) s.abs) = some (openGood (PySem.W.view RR.prog [48]) loose) := by kernel_rfl
theorem run_ob (w : World) (os : OsState) : (HandSHeadRun.endF (HandSHeadRun.stepQ (HandSHeadRun.denQ HandSHeadRun.tabQ) RR.prog w) 20000 RR.prog w os).map (ob) = some (hk.val w) := by kernel_rfl
theorem opt3 {α β γ : Type _} {δ : Type _} {x : Option α} {f : α → β} {g : α → γ} {h : α → δ} {a : β} {b : γ} {c : δ} (h1 : x.map f = some a) (h2 : x.map g = some b) (h3 : x.map h = some c) : x.map (fun s => (f s, g s, h s)) = some (a, b, c) := by
  cases x with
  | none => cases h1
  | some s =>
    have e1 : f s = a := Option.some.inj h1
    have e2 : g s = b := Option.some.inj h2
    have e3 : h s = c := Option.some.inj h3
    show some (f s, g s, h s) = some (a, b, c)
    rw [e1, e2, e3]
end
theorem run (w : World) : HandSHeadRun.RunEq RR (PySem.W.view RR.prog [48]) hk ob 20000 loose w := by
  intro os
  have z := opt3 (run_looks w os) (run_seen w os) (run_ob w os)
  exact z
end CL
/-! DM3: is True; t * n; bool(o) by the class's own __bool__; a or b of tuples, bool(t). -/
namespace CT
/-! ### t * n -/
/-! ### a or b of tuples; bool(t) -/
end CT
/-! DM4: bool(o) by the class's own __bool__. -/
namespace CT
/-! ### bool(o) -/
end CT
/-! DM5: zip of two tuples; min and max of a list of ints with a default. -/
namespace CT
end CT
/-! DM6: min and max of a list of ints with a default. -/
namespace CT
end CT
/-! DM7: x + k, k + x, x - k, k - x, -x for an own x and an int k. -/
namespace CT
end CT
/-! DM8: list(range(a, b, 2)); sorted(set(xs)), len(set(xs)) of up to 4,000 ints. -/
namespace CT
/-! ### sets of more ints -/
end CT
/-! DM9: xs[i], ys[j] = e, f. -/
namespace CT
end CT
/-! DM10: a def that hands back an own list, as an equation. -/
namespace CT
end CT
/-! DM11: {x for u in a if .. for x in b if ..} of ints, two clauses; its members in a list beside the heap. -/
namespace CT
end CT
/-! DM12: sorted({x for u in a if .. for x in b if ..}) over data. -/
namespace CT
end CT
/-! DM13: min and max of one list of ints, not empty. -/
namespace CT
end CT
/-! DM14: in, not in by an own __contains__, as values and as tests. -/
namespace CT
end CT
/-! DM15: == and != of two lists of own objects that are equal item by item. -/
namespace CT
end CT
/-! DM16: an own object as a test, by the class's own __bool__. -/
namespace CT
end CT
/-! DM17: xs.reverse(). -/
namespace CT
end CT
/-! DM18: while, of at most so many turns. -/
namespace CT
end CT
/-! GN1: a run that wakes no sleeping generator runs alike whatever the sleepers hold. -/
namespace GV
end GV
/-! GN2: weakest preconditions under the veil. -/
namespace GV
end GV
/-! GN3: for over a generator: the rule of the consumer. -/
namespace GV
end GV
/-! GN4: for over a generator: the rule. -/
namespace GV
end GV
/-! GN5: next of a generator (it sleeps behind); for in a generator's own code. -/
namespace GV
/-! ### for, in a generator's code -/
end GV
/-! GN6: one stretch of a generator's run, whatever is wanted of its end. -/
namespace GV
/-! ### waking it -/
end GV
/-! GN7: a generator's code at work: its context anew at each waking. -/
namespace GV
/-! ### the heap as far as n -/
/-! ### a generator: its def, where it was made -/
end GV
/-! GN8: for x in range(..): .. ; yield e — all its stretches. -/
namespace GV
end GV
/-! GN9: a generator is made by a call. -/
namespace GV
end GV
/-! GN10: behind a generator's stretch: the consumer's state. -/
namespace GV
end GV
/-! GN11: a generator made by a call, walked by for. -/
namespace GV
/-! ### the call -/
end GV
/-! DG1: for over a generator, at data. -/
namespace CT
end CT
/-! DG2: for over a generator, at data. -/
namespace CT
/-! ### the generator's promise at data -/
end CT
/-! DG3: a generator def, by its parts over data. -/
namespace CT
end CT
/-! DG4a: a tuple of ints of the written part. -/
namespace CT
end CT
/-! DM26: t * 1. -/
namespace CT
end CT
/-! DM19: a def that hands back data with own lists and dicts inside: all become plain data. -/
namespace CT
end CT
/-! DM32: d[k] += e on a dict with tuple keys; x *= e of ints. -/
namespace CT
end CT
/-! DM33: zip of two sequences, each a list or a tuple. -/
namespace CT
end CT
/-! DM34: max of three integers; len of a dict keyed by tuples; sorted of a dict whose only key is the empty tuple. -/
namespace CT
/-! ### sorted: the empty tuple alone -/
end CT
/-! DM45: t * n for longer rows (n up to 10000, a short t). -/
namespace CT
end CT
/-! E2: loops, comprehensions, dicts worked out. -/
namespace CT
/-! ### comprehensions that change nothing -/
/-! ### two clauses -/
/-! ### dicts from pairs to numbers -/
end CT
/-! E3: walks over cells; own operators worked out. -/
namespace CT
/-! ### own operators -/
end CT
/-! E4: what a run must lead to, told backwards. -/
namespace CT
/-! ### results -/
/-! ### expressions -/
/-! ### operators -/
/-! ### statements -/
/-! ### loops -/
/-! ### comprehensions -/
end CT
/-! E5: more steps told backwards. -/
namespace CT
/-! ### writing -/
end CT
/-! E6: walks and comprehensions, step by step. -/
namespace CT
end CT
/-! E7: own operators with an int, list(range), extend, two writes, told backwards. -/
namespace CT
/-! ### a comprehension whose list is an own one -/
/-! ### a def that hands back an own list -/
end CT
/-! M22: the bag. -/
/-! M2: sums of ties, grids, webs. -/
/-! M3: a web is made. -/
/-! M4: Web(size, ties). -/
/-! M5: Web(size, ties), made. -/
/-! M6: the instance. -/
/-! M7: total, degrees, within, changed, crossing. -/
/-! M9: plain facts on sums. -/
/-! FF1: sums; sets of rows in which every step has a second step (jump systems); nearest rows. -/
/-! FF2: least distances along one, two, three places. -/
/-! FF3: what a tie between two places does to the least distances. -/
/-! FF4: the rows of the webs within a web. -/
/-! FF8: both rows change at once (the exchange of two webs within a web). -/
/-! E9: comprehensions and walks over lists of values that are written as data. -/
namespace CT
/-! ### x *= e, d[k] += e -/
end CT
/-! O2g: web[u, v]. -/
set_option Elab.async false
set_option linter.all false
set_option maxRecDepth 100000
set_option maxHeartbeats 4000000
/-! DL1: plain data, a store of changing cells, how they lie in the abstract heap; expressions. -/
namespace CT
open PySem L2
/-! ### the domain -/
/-! ### how data lie in the heap -/
section
variable {k : Cn} {A A' : Nat → Addr} {C C' : Store} {H H' : Hp} {v : V} {d : D} {vs : List V} {ds : List D}
theorem RepL.get : ∀ {vs : List V} {ds : List D} {i : Nat} {d : D}, RepL k A C H vs ds → ds[i]? = some d → ∃ v, vs[i]? = some v ∧ Rep k A C H v d
  | _, _, _, _, .nil, e => by simp at e
  | _, _, 0, _, .cons r _, e => by simp at e; subst e; exact ⟨_, rfl, r⟩
  | _, _, i + 1, d, .cons _ t, e => by
    obtain ⟨u, h1, h2⟩ := RepL.get (i := i) (d := d) t (by simpa using e)
    exact ⟨u, by simpa using h1, h2⟩
theorem RepL.ints : ∀ {ns : List Int}, RepL k A C H (ns.map V.int) (ns.map D.int)
  | [] => .nil
  | n :: ns => .cons (.int n) RepL.ints
theorem RepL.ints_inv : ∀ {ns : List Int} {vs : List V}, RepL k A C H vs (ns.map D.int) → vs = ns.map V.int
  | [], _, .nil => rfl
  | n :: ns, _, .cons r t => by
    cases r
    rw [RepL.ints_inv t]
    rfl
theorem RepL.bls_inv : ∀ {ns : List Bool} {vs : List V}, RepL k A C H vs (ns.map D.bl) → vs = ns.map V.bl
  | [], _, .nil => rfl
  | n :: ns, _, .cons r t => by
    cases r
    rw [RepL.bls_inv t]
    rfl
end
/-! ### the store -/
section
variable {k : Cn} {fl : Nat} {A A' A'' : Nat → Addr} {C C' C'' : Store} {H H' H'' : Hp} {v : V} {d : D} {vs : List V} {ds : List D}
theorem Stp.refl : Stp k fl A C H A C H := ⟨fun _ _ h => h, Nat.le_refl _, fun _ _ _ h => h⟩
theorem Stp.reps (a : Stp k fl A C H A' C' H') : ∀ {vs : List V} {ds : List D}, RepL k A C H vs ds → RepL k A' C' H' vs ds
  | _, _, .nil => .nil
  | _, _, .cons r t => .cons (a.rep _ _ r) (a.reps t)
theorem Kp.stp (q : Kp A C H A' C' H') (h : ∀ f, f ≤ fl → f ≤ C.length → LowC f C → LowC f C') : Stp k fl A C H A' C' H' := ⟨fun _ _ r => r.kp q, q.len, h⟩
theorem Kp.stp0 (q : Kp A C H A' C H') : Stp k fl A C H A' C H' := q.stp fun _ _ _ h => h
theorem low_app {c : Option Cell} {f : Nat} (hf : f ≤ C.length) (h : LowC f C) : LowC f (C ++ [c]) := fun i e hi he => by
  rw [List.getElem?_append_left (Nat.lt_of_lt_of_le hi hf)] at he
  exact h i e hi he
mutual
theorem cb_mono {n m : Nat} (h : n ≤ m) : ∀ {d : D}, cb n d = true → cb m d = true
  | .non, _ => rfl
  | .bl _, _ => rfl
  | .int _, _ => rfl
  | .str _, _ => rfl
  | .lst xs, z => by simp only [cb] at z ⊢; exact cbL_mono h z
  | .tup xs, z => by simp only [cb] at z ⊢; exact cbL_mono h z
  | .scr xs, z => by simp only [cb] at z ⊢; exact cbL_mono h z
  | .kt xs, z => by simp only [cb] at z ⊢; exact cbL_mono h z
  | .obj _ xs, z => by simp only [cb] at z ⊢; exact cbL_mono h z
  | .exn _ xs, z => by simp only [cb] at z ⊢; exact cbL_mono h z
  | .cls _, _ => rfl
  | .dT _ xs, z => by simp only [cb] at z ⊢; exact cbL_mono h z
  | .cell i, z => by simp only [cb, decide_eq_true_eq] at z ⊢; omega
theorem cbL_mono {n m : Nat} (h : n ≤ m) : ∀ {ds : List D}, cbL n ds = true → cbL m ds = true
  | [], _ => rfl
  | d :: ds, z => by
    simp only [cbL, Bool.and_eq_true] at z ⊢
    exact ⟨cb_mono h z.1, cbL_mono h z.2⟩
end
theorem cbC_mono {n m : Nat} (h : n ≤ m) {c : Cell} (z : cbC n c = true) : cbC m c = true := by
  cases c <;> exact cbL_mono h z
/-- a write: below the floor no cells are named -/
theorem low_set {i : Nat} {c : Cell} (hc : i < fl → cbC 0 c = true) {f : Nat} (hf : f ≤ fl) (h : LowC f C) : LowC f (C.set i (some c)) := fun j e hj he => by
  by_cases hij : i = j
  · subst hij
    by_cases hl : i < C.length
    · rw [List.getElem?_set_self hl] at he
      rw [← Option.some.inj (Option.some.inj he)]
      exact cbC_mono (Nat.zero_le _) (hc (by omega))
    · rw [List.getElem?_eq_none (by simp; omega)] at he
      cases he
  · rw [List.getElem?_set_ne hij] at he
    exact h j e hj he
theorem low_take {f n : Nat} (h : LowC f C) : LowC f (C.take n) := fun j e hj he => by
  by_cases hn : j < n
  · rw [List.getElem?_take_of_lt hn] at he
    exact h j e hj he
  · rw [List.getElem?_eq_none (by simp; omega)] at he
    cases he
theorem StOk.live (x : StOk k A C H) {a : Addr} (l : Live A C a) : ∃ o, H a = some o := by
  obtain ⟨i, c, e, rfl⟩ := l
  exact (x.at_ i c e).there
theorem StOk.notLive (x : StOk k A C H) {a : Addr} (h : H a = none) : ¬ Live A C a := fun l => by
  obtain ⟨o, e⟩ := x.live l
  rw [h] at e
  cases e
/-- a cell changes -/
theorem live_set {i : Nat} {c c0 : Cell} {a : Addr} (hi : C[i]? = some (some c0)) (l : Live A (C.set i (some c)) a) : Live A C a := by
  obtain ⟨j, c', e, rfl⟩ := l
  by_cases hj : i = j
  · subst hj
    exact ⟨i, c0, hi, rfl⟩
  · rw [List.getElem?_set_ne hj] at e
    exact ⟨j, c', e, rfl⟩
theorem kp_write {i : Nat} {c c0 : Cell} {o : HO} (hi : C[i]? = some (some c0)) : Kp A C H A (C.set i (some c)) (upd H (A i) o) :=
  ⟨fun a u l e => ⟨fun y => l (live_set hi y), by rw [upd_ne (fun z => l ⟨i, c0, hi, z.symm⟩)]; exact e⟩, fun _ _ => rfl, by simp⟩
theorem StOk.write {i : Nat} {c c0 : Cell} {o : HO} (x : StOk k A C H) (hi : C[i]? = some (some c0)) (y : CellAt k A (C.set i (some c)) (upd H (A i) o) (A i) c) : StOk k A (C.set i (some c)) (upd H (A i) o) := by
  have get : ∀ j c', (C.set i (some c))[j]? = some (some c') → j ≠ i → C[j]? = some (some c') := fun j c' e hj => by
    rw [List.getElem?_set_ne (Ne.symm hj)] at e
    exact e
  have here : ∀ c', (C.set i (some c))[i]? = some (some c') → c' = c := fun c' e => by
    rw [List.getElem?_set_self (List.getElem?_eq_some_iff.mp hi).1] at e
    exact (Option.some.inj (Option.some.inj e)).symm
  have some_ : ∀ j c', (C.set i (some c))[j]? = some (some c') → ∃ c'', C[j]? = some (some c'') := fun j c' e => by
    by_cases hj : j = i
    · rw [hj]
      exact ⟨c0, hi⟩
    · exact ⟨c', get j c' e hj⟩
  refine ⟨fun j c' e => ?_, fun j l c1 c2 e1 e2 z => ?_⟩
  · by_cases hj : j = i
    · subst hj
      rw [here c' e]
      exact y
    · have e' := get j c' e hj
      exact (x.at_ j c' e').kp (kp_write hi) (upd_ne (fun z => hj (x.inj j i _ _ e' hi z)))
  · obtain ⟨d1, f1⟩ := some_ j c1 e1
    obtain ⟨d2, f2⟩ := some_ l c2 e2
    exact x.inj j l _ _ f1 f2 z
theorem Rep.cut {n : Nat} (hn : n ≤ C.length) (r : Rep k A C H v d) (h : CT.cb n d = true) : Rep k A (C.take n) H v d :=
  r.fw (fw_take n) (by rw [List.length_take, Nat.min_eq_left hn]; exact h)
theorem RepL.cut {n : Nat} (hn : n ≤ C.length) (r : RepL k A C H vs ds) (h : CT.cbL n ds = true) : RepL k A (C.take n) H vs ds :=
  r.fw (fw_take n) (by rw [List.length_take, Nat.min_eq_left hn]; exact h)
end
/-! ### frames -/
/-- behind a computation m that began at A, C, H -/
def Aft (k : Cn) (fl : Nat) (A : Nat → Addr) (C : Store) (H : Hp) {α β : Type} (rel : (Nat → Addr) → Store → Hp → β → α → Prop) (m : R α) (Q : α → Store → (Nat → Addr) → Hp → β → Prop) (W : XK) : Prop := match m with
  | .ok d C' => ∀ A' H' v, Stp k fl A C H A' C' H' → StOk k A' C' H' → rel A' C' H' v d → Q d C' A' H' v
  | .exc e C' => ∀ A' H' dd vs, Stp k fl A C H A' C' H' → StOk k A' C' H' → H' dd = some (.xd ((k.fn e.c).zip vs)) → vs.length = (k.fn e.c).length → RepL k A' C' H' vs e.fs → W (.ref (k.cl e.c)) (some dd) H'
  | .stuck => False
section
variable {k : Cn} {A A' A1 : Nat → Addr} {F : Fr} {C C' C1 : Store} {H H' H1 : Hp} {σ : L2.St} {fl : Nat}
theorem SR.step (s : SR k A F C σ H) (p : Stp k F.fl A C H A' C' H') (st : StOk k A' C' H') : SR k A' F C' σ H' :=
  ⟨st, p.low _ (Nat.le_refl _) s.fl s.low, Nat.le_trans s.fl p.len, s.len, fun i d e => let ⟨v, h1, h2⟩ := s.sl i d e; ⟨v, h1, p.rep v d h2⟩⟩
theorem SR.unset {i : Nat} (s : SR k A F C σ H) : SR k A ⟨F.fl, F.sl.set i none⟩ C (σ.set i none) H :=
  ⟨s.st, s.low, s.fl, by simp [s.len], fun j e h => by
    have h' : (F.sl.set i none)[j]? = some (some e) := h
    by_cases hij : i = j
    · subst hij
      by_cases hl : i < F.sl.length
      · rw [List.getElem?_set_self hl] at h'
        cases h'
      · rw [List.getElem?_eq_none (by simp; omega)] at h'
        cases h'
    · rw [List.getElem?_set_ne hij] at h'
      obtain ⟨u, h1, h2⟩ := s.sl j e h'
      exact ⟨u, by rw [List.getElem?_set_ne hij]; exact h1, h2⟩⟩
variable {α β γ δ : Type} {rel : (Nat → Addr) → Store → Hp → β → α → Prop} {rel2 : (Nat → Addr) → Store → Hp → δ → γ → Prop} {m : R α} {Q : α → Store → (Nat → Addr) → Hp → β → Prop} {W : XK}
theorem Aft.shift (s : Stp k fl A C H A1 C1 H1) (h : Aft k fl A C H rel m Q W) : Aft k fl A1 C1 H1 rel m Q W := by
  cases m with
  | ok d C' => exact fun A' H' v p st r => h A' H' v (s.trans p) st r
  | exc e C' => exact fun A' H' dd vs p st x l r => h A' H' dd vs (s.trans p) st x l r
  | stuck => exact h
theorem Aft.mono {Q' : α → Store → (Nat → Addr) → Hp → β → Prop} (h : Aft k fl A C H rel m Q W) (hq : ∀ d C' A' H' v, Stp k fl A C H A' C' H' → StOk k A' C' H' → rel A' C' H' v d → Q d C' A' H' v → Q' d C' A' H' v) : Aft k fl A C H rel m Q' W := by
  cases m with
  | ok d C' => exact fun A' H' v p st r => hq _ _ _ _ _ p st r (h A' H' v p st r)
  | exc e C' => exact h
  | stuck => exact h
theorem Aft.bnd {f : α → Store → R γ} {Q : γ → Store → (Nat → Addr) → Hp → δ → Prop} (h : Aft k fl A C H rel2 (bnd m f) Q W) :
    Aft k fl A C H rel m (fun d C1 A1 H1 v => Aft k fl A1 C1 H1 rel2 (f d C1) Q W) W := by
  cases m with
  | ok d C' => exact fun A' H' v p st r => Aft.shift p h
  | exc e C' => exact h
  | stuck => exact h
end
abbrev RepD (k : Cn) : (Nat → Addr) → Store → Hp → V → D → Prop := fun A C H v d => Rep k A C H v d
abbrev RepDs (k : Cn) : (Nat → Addr) → Store → Hp → List V → List D → Prop := fun A C H v d => RepL k A C H v d
/-- an expression's reading by data -/
def LE (k : Cn) (W : WX) (m : ME) : TE := fun σ H Q => ∃ A F C, SR k A F C σ H ∧ Aft k F.fl A C H (RepD k) (m F C) (fun _ _ _ H' v => Q v H') (fun c d H' => W c d σ H')
def LA (k : Cn) (W : WX) (m : MA) : TA := fun σ H Q => ∃ A F C, SR k A F C σ H ∧ Aft k F.fl A C H (RepDs k) (m F C) (fun _ _ _ H' v => Q v H') (fun c d H' => W c d σ H')
def LT (k : Cn) (W : WX) (m : MT) : TT := fun σ H Q => ∃ A F C, SR k A F C σ H ∧ Aft k F.fl A C H (fun _ _ _ (v d : Bool) => v = d) (m F C) (fun _ _ _ H' v => Q v H') (fun c d H' => W c d σ H')
end CT
set_option maxHeartbeats 4000000
/-! DL2: expressions over data: names, constants, operators, displays, subscripts, calls of built-ins. -/
namespace CT
open PySem L2
theorem _root_.L2.PE.cq {X : Cx} {e : Expr} {t t' : TE} (h : PE X e t) (c : ∀ σ H Q, t' σ H Q → t σ H Q) : PE X e t' := ⟨fun pins s σ H Q I q => h.run pins s σ H Q I (c σ H Q q)⟩
theorem _root_.L2.PT.cq {X : Cx} {e : Expr} {t t' : TT} (h : PT X e t) (c : ∀ σ H Q, t' σ H Q → t σ H Q) : PT X e t' := ⟨fun pins s σ H Q I q => h.run pins s σ H Q I (c σ H Q q)⟩
theorem _root_.L2.PW.cq {X : Cx} {e : Expr} {t t' : TT} (h : PW X e t) (c : ∀ σ H Q, t' σ H Q → t σ H Q) : PW X e t' := ⟨fun w pins s σ H Q I q => h.run w pins s σ H Q I (c σ H Q q)⟩
theorem _root_.L2.PA.cq {X : Cx} {e : List Expr} {t t' : TA} (h : PA X e t) (c : ∀ σ H Q, t' σ H Q → t σ H Q) : PA X e t' := ⟨fun p pins s σ H Q I q => h.run p pins s σ H Q I (c σ H Q q)⟩
theorem _root_.L2.PS.cq {X : Cx} {e : Stmt} {t t' : TS} (h : PS X e t) (c : ∀ D σ H, t' D σ H → t D σ H) : PS X e t' := ⟨fun pins s σ H Q I q => h.run pins s σ H Q I (c Q σ H q)⟩
theorem _root_.L2.PSs.cq {X : Cx} {e : List Stmt} {t t' : TS} (h : PSs X e t) (c : ∀ D σ H, t' D σ H → t D σ H) : PSs X e t' := ⟨fun pins s σ H Q I q => h.run pins s σ H Q I (c Q σ H q)⟩
/-! ### names, constants -/
section
variable {X : Cx} {k : Cn} {W : WX}
theorem le_var {i : Nat} {σ : L2.St} {H : Hp} {Q : VK} (h : LE k W (mVar i) σ H Q) : tVar i σ H Q := by
  obtain ⟨A, F, C, s, h⟩ := h
  unfold mVar at h
  split at h
  · rename_i d e
    obtain ⟨v, h1, h2⟩ := s.sl i d e
    exact ⟨v, h1, h A H v Stp.refl s.st h2⟩
  · exact h.elim
theorem dv (i : Nat) {x : Str} {pos : Pos} (hN : X.N[i]? = some x := by rfl) (hv : Vis X.env.scope x := by first | exact Or.inl rfl | exact Or.inr (Or.inl rfl) | exact Or.inr (Or.inr rfl)) (hd : (x == ("__debug__" : Str)) = false := by decide)
    (hcd : (x == ("__classdict__" : Str)) = false := by decide) : PE X (.Name x pos) (LE k W (mVar i)) := (pe_var hN hv hd hcd).cq fun _ _ _ h => le_var h
/-- a value that every heap reads as d -/
theorem le_c {v : V} {d : D} (hr : ∀ A C H, Rep k A C H v d) {σ : L2.St} {H : Hp} {Q : VK} (h : LE k W (mC d) σ H Q) : tC v σ H Q := by
  obtain ⟨A, F, C, s, h⟩ := h
  exact h A H v Stp.refl s.st (hr _ _ _)
theorem de_int {i j pos} : PE X (.Constant (.int i) j pos) (LE k W (mC (.int i))) := pe_int.cq fun _ _ _ h => le_c (fun _ _ _ => .int i) h
theorem de_bl {i j pos} : PE X (.Constant (.bool i) j pos) (LE k W (mC (.bl i))) := pe_bl.cq fun _ _ _ h => le_c (fun _ _ _ => .bl i) h
theorem de_non {j pos} : PE X (.Constant .none j pos) (LE k W (mC .non)) := pe_non.cq fun _ _ _ h => le_c (fun _ _ _ => .non) h
theorem de_str {i j pos} : PE X (.Constant (.str i) j pos) (LE k W (mC (.str i))) := pe_str.cq fun _ _ _ h => le_c (fun _ _ _ => .str i) h
theorem de_glob {x : Str} {v : V} {d : D} {u : Value} {pos : Pos} (hr : ∀ A C H, Rep k A C H v d) (hg : Gl X x) (hm : X.mg x = some u) (r : RelV v u) (hd : (x == ("__debug__" : Str)) = false := by decide) : PE X (.Name x pos) (LE k W (mC d)) :=
  (pe_glob hg hm r hd).cq fun _ _ _ h => le_c hr h
end
/-! ### operators -/
/-- an operation on values that the data's operation o tells -/
def OpD (k : Cn) (r : R2) (o : O2) : Prop := ∀ fl A C H x y dx dy d C' (Q : VK), fl ≤ C.length → LowC fl C → StOk k A C H → Rep k A C H x dx → Rep k A C H y dy → o dx dy C = some (d, C') →
  (∀ A' H' v, Stp k fl A C H A' C' H' → StOk k A' C' H' → Rep k A' C' H' v d → Q v H') → r x y H Q
def UnD (k : Cn) (r : V → Hp → VK → Prop) (o : O1) : Prop := ∀ fl A C H x dx d C' (Q : VK), fl ≤ C.length → LowC fl C → StOk k A C H → Rep k A C H x dx → o dx C = some (d, C') →
  (∀ A' H' v, Stp k fl A C H A' C' H' → StOk k A' C' H' → Rep k A' C' H' v d → Q v H') → r x H Q
def ApD (k : Cn) (r : List V → Hp → VK → Prop) (o : OA) : Prop := ∀ fl A C H x dx d C' (Q : VK), fl ≤ C.length → LowC fl C → StOk k A C H → RepL k A C H x dx → o dx C = some (d, C') →
  (∀ A' H' v, Stp k fl A C H A' C' H' → StOk k A' C' H' → Rep k A' C' H' v d → Q v H') → r x H Q
theorem aft_ofO {k : Cn} {fl : Nat} {A : Nat → Addr} {C : Store} {H : Hp} {W : XK} {o : Option (D × Store)} {Q : D → Store → (Nat → Addr) → Hp → V → Prop} (h : Aft k fl A C H (RepD k) (ofO o) Q W) :
    ∃ d C', o = some (d, C') ∧ ∀ A' H' v, Stp k fl A C H A' C' H' → StOk k A' C' H' → Rep k A' C' H' v d → Q d C' A' H' v := by
  cases o with
  | none => exact h.elim
  | some p => exact ⟨p.1, p.2, rfl, h⟩
section
variable {X : Cx} {k : Cn} {W : WX} {σ : L2.St} {H : Hp} {Q : VK}
theorem le_op {r : R2} {o : O2} {ma mb : ME} (ho : OpD k r o) (h : LE k W (mOp o ma mb) σ H Q) : tOp r (LE k W ma) (LE k W mb) σ H Q := by
  obtain ⟨A, F, C, s, h⟩ := h
  refine ⟨A, F, C, s, (Aft.bnd (rel := RepD k) h).mono fun dx C1 A1 H1 x p1 st1 rx h1 => ?_⟩
  have s1 := s.step p1 st1
  refine ⟨A1, F, C1, s1, (Aft.bnd (rel := RepD k) h1).mono fun dy C2 A2 H2 y p2 st2 ry h2 => ?_⟩
  have s2 := s1.step p2 st2
  obtain ⟨d, C', e, q⟩ := aft_ofO h2
  exact ho F.fl A2 C2 H2 x y dx dy d C' Q s2.fl s2.low st2 (p2.rep _ _ rx) ry e q
theorem le_un {r : V → Hp → VK → Prop} {o : O1} {ma : ME} (ho : UnD k r o) (h : LE k W (mUn o ma) σ H Q) : tUn r (LE k W ma) σ H Q := by
  obtain ⟨A, F, C, s, h⟩ := h
  refine ⟨A, F, C, s, (Aft.bnd (rel := RepD k) h).mono fun dx C1 A1 H1 x p1 st1 rx h1 => ?_⟩
  have s1 := s.step p1 st1
  obtain ⟨d, C', e, q⟩ := aft_ofO h1
  exact ho F.fl A1 C1 H1 x dx d C' Q s1.fl s1.low st1 rx e q
theorem la_nil {Q : List V → Hp → Prop} (h : LA k W mNil σ H Q) : tNil σ H Q := by
  obtain ⟨A, F, C, s, h⟩ := h
  exact h A H [] Stp.refl s.st .nil
theorem la_cons {Q : List V → Hp → Prop} {ma : ME} {mr : MA} (h : LA k W (mCons ma mr) σ H Q) : tCons (LE k W ma) (LA k W mr) σ H Q := by
  obtain ⟨A, F, C, s, h⟩ := h
  refine ⟨A, F, C, s, (Aft.bnd (rel := RepD k) h).mono fun dx C1 A1 H1 x p1 st1 rx h1 => ?_⟩
  have s1 := s.step p1 st1
  refine ⟨A1, F, C1, s1, (Aft.bnd (rel := RepDs k) h1).mono fun dy C2 A2 H2 y p2 st2 ry h2 => ?_⟩
  exact h2 A2 H2 (x :: y) Stp.refl st2 (.cons (p2.rep _ _ rx) ry)
theorem le_ap {r : List V → Hp → VK → Prop} {o : OA} {ma : MA} (ho : ApD k r o) (h : LE k W (mAp o ma) σ H Q) : tCB r (LA k W ma) σ H Q := by
  obtain ⟨A, F, C, s, h⟩ := h
  refine ⟨A, F, C, s, (Aft.bnd (rel := RepDs k) h).mono fun dx C1 A1 H1 x p1 st1 rx h1 => ?_⟩
  have s1 := s.step p1 st1
  obtain ⟨d, C', e, q⟩ := aft_ofO h1
  exact ho F.fl A1 C1 H1 x dx d C' Q s1.fl s1.low st1 rx e q
theorem de_op {a b : Expr} {pos : Pos} {op : Operator} {r : R2} {o : O2} {ma mb : ME} (hR : OpR X (binaryOp op) r) (hD : OpD k r o) (ha : PE X a (LE k W ma)) (hb : PE X b (LE k W mb)) : PE X (.BinOp a op b pos) (LE k W (mOp o ma mb)) :=
  (pe_op hR ha hb).cq fun _ _ _ h => le_op hD h
theorem de_cmp {a b : Expr} {pos : Pos} {op : CmpOp} {r : R2} {o : O2} {ma mb : ME} (hR : OpR X (compareOp op) r) (hD : OpD k r o) (ha : PE X a (LE k W ma)) (hb : PE X b (LE k W mb)) (hm : behindInMarks op b = false) : PE X (.Compare a [op] [b] pos) (LE k W (mOp o ma mb)) :=
  (pe_cmpR hR ha hb hm).cq fun _ _ _ h => le_op hD h
theorem de_un {a : Expr} {pos : Pos} {op : UnaryOp} {r : V → Hp → VK → Prop} {o : O1} {ma : ME} (hR : UnR X (unaryOp op) r) (hD : UnD k r o) (ha : PE X a (LE k W ma)) : PE X (.UnaryOp op a pos) (LE k W (mUn o ma)) :=
  (pe_un hR ha).cq fun _ _ _ h => le_un hD h
theorem de_ix {a b : Expr} {pos : Pos} {r : R2} {o : O2} {ma mb : ME} (hR : IxR X r) (hD : OpD k r o) (ha : PE X a (LE k W ma)) (hb : PE X b (LE k W mb)) (hs : PlainIx b := by exact fun _ _ => rfl) : PE X (.Subscript a b pos) (LE k W (mOp o ma mb)) :=
  (pe_ix hR ha hb hs).cq fun _ _ _ h => le_op hD h
theorem da_nil : PA X [] (LA k W mNil) := pa_nil.cq fun _ _ _ h => la_nil h
theorem da_cons {e : Expr} {es : List Expr} {ma : ME} {mr : MA} (ha : PE X e (LE k W ma)) (hr : PA X es (LA k W mr)) (hs : starEach (e :: es) X.env = (false, eval e X.env) :: starEach es X.env := by rfl) : PA X (e :: es) (LA k W (mCons ma mr)) :=
  (pa_cons ha hr hs).cq fun _ _ _ h => la_cons h
theorem de_callB {x : Str} {id : String} {e : Expr} {es : List Expr} {p pos : Pos} {r : List V → Hp → VK → Prop} {o : OA} {ma : MA} (hc : CallR X (.builtin id) r) (hD : ApD k r o) (hg : Gl X x) (hm : X.mg x = none) (hv : bootBuiltins x = some (.builtin id))
    (ha : PA X (e :: es) (LA k W ma)) (hn : x ≠ "__name__" := by decide) (hdb : (x == ("__debug__" : Str)) = false := by decide) (he : starEach (e :: es) X.env = (false, eval e X.env) :: starEach es X.env := by rfl) (hpl : (backTo pos (starEach es X.env)).any (·.1) = false := by rfl) :
    PE X (.Call (.Name x p) (e :: es) [] pos) (LE k W (mAp o ma)) := (pe_callB hc hg hm hv ha hn hdb he hpl).cq fun _ _ _ h => le_ap hD h
theorem de_callTy {x : Str} {id : String} {e : Expr} {es : List Expr} {p pos : Pos} {r : List V → Hp → VK → Prop} {o : OA} {ma : MA} (hc : CallR X (.type id) r) (hD : ApD k r o) (hg : Gl X x) (hm : X.mg x = none) (hv : bootBuiltins x = some (.type id))
    (ha : PA X (e :: es) (LA k W ma)) (hn : x ≠ "__name__" := by decide) (hdb : (x == ("__debug__" : Str)) = false := by decide) (he : starEach (e :: es) X.env = (false, eval e X.env) :: starEach es X.env := by rfl) (hpl : (backTo pos (starEach es X.env)).any (·.1) = false := by rfl) :
    PE X (.Call (.Name x p) (e :: es) [] pos) (LE k W (mAp o ma)) := (pe_callTy hc hg hm hv ha hn hdb he hpl).cq fun _ _ _ h => le_ap hD h
end
/-! ### tests, and, or, not -/
abbrev RepB : (Nat → Addr) → Store → Hp → Bool → Bool → Prop := fun _ _ _ v d => v = d
section
variable {X : Cx} {k : Cn} {W : WX} {σ : L2.St} {H : Hp}
theorem lt_val {ma : ME} {Q : Bool → Hp → Prop} (h : LT k W (mTst ma) σ H Q) : tB (LE k W ma) σ H Q := by
  obtain ⟨A, F, C, s, h⟩ := h
  refine ⟨A, F, C, s, (Aft.bnd (rel := RepD k) h).mono fun dx C1 A1 H1 x p1 st1 rx h1 => ?_⟩
  cases rx with
  | bl b => exact ⟨b, rfl, h1 A1 H1 b Stp.refl st1 rfl⟩
  | _ => exact h1.elim
theorem dt_val {e : Expr} {ma : ME} (h : PE X e (LE k W ma)) (he : ∀ whole, isTrue e X.env whole = (do let v ← whole; standAt e.pos; holding [v] (truthy v)) := by intro _; rfl) : PT X e (LT k W (mTst ma)) :=
  (pt_val h he).cq fun _ _ _ h => lt_val h
theorem lt_or {a b : MT} {Q : Bool → Hp → Prop} (h : LT k W (tOrM a b) σ H Q) : tOr (LT k W a) (LT k W b) σ H Q := by
  obtain ⟨A, F, C, s, h⟩ := h
  refine ⟨A, F, C, s, (Aft.bnd (rel := RepB) h).mono fun dx C1 A1 H1 x p1 st1 rx h1 => ?_⟩
  have rx : x = dx := rx
  subst rx
  cases x with
  | true => exact iteT (h1 A1 H1 true Stp.refl st1 rfl)
  | false => exact iteF ⟨A1, F, C1, s.step p1 st1, h1⟩
theorem lt_not {a : MT} {Q : Bool → Hp → Prop} (h : LT k W (tNotM a) σ H Q) : tNot (LT k W a) σ H Q := by
  obtain ⟨A, F, C, s, h⟩ := h
  refine ⟨A, F, C, s, (Aft.bnd (rel := RepB) h).mono fun dx C1 A1 H1 x p1 st1 rx h1 => ?_⟩
  have rx : x = dx := rx
  subst rx
  exact h1 A1 H1 (!x) Stp.refl st1 rfl
theorem dw_or1 {a : Expr} {pos : Pos} {m : MT} (ha : PT X a (LT k W m)) : PW X (.BoolOp .Or [a] pos) (LT k W m) := pw_or1 ha
theorem dw_or {a b : Expr} {rest : List Expr} {pos : Pos} {m n : MT} (ha : PT X a (LT k W m)) (hb : PW X (.BoolOp .Or (b :: rest) pos) (LT k W n)) : PW X (.BoolOp .Or (a :: b :: rest) pos) (LT k W (tOrM m n)) := (pw_or ha hb).cq fun _ _ _ h => lt_or h
theorem dt_not {a : Expr} {pos : Pos} {m : MT} (ha : PT X a (LT k W m)) : PT X (.UnaryOp .Not a pos) (LT k W (tNotM m)) := (pt_not ha).cq fun _ _ _ h => lt_not h
theorem le_and {a b : ME} {Q : VK} (h : LE k W (mAnd a b) σ H Q) : tAndV (LE k W a) (LE k W b) σ H Q := by
  obtain ⟨A, F, C, s, h⟩ := h
  refine ⟨A, F, C, s, (Aft.bnd (rel := RepD k) h).mono fun dx C1 A1 H1 x p1 st1 rx h1 => ?_⟩
  cases rx with
  | bl b =>
    refine ⟨b, rfl, ?_⟩
    cases b with
    | true => exact iteT ⟨A1, F, C1, s.step p1 st1, h1⟩
    | false => exact iteF (h1 A1 H1 (.bl false) Stp.refl st1 (.bl false))
  | _ => exact h1.elim
theorem le_not {a : ME} {Q : VK} (h : LE k W (mNot a) σ H Q) : tNotV (LE k W a) σ H Q := by
  obtain ⟨A, F, C, s, h⟩ := h
  refine ⟨A, F, C, s, (Aft.bnd (rel := RepD k) h).mono fun dx C1 A1 H1 x p1 st1 rx h1 => ?_⟩
  cases rx with
  | bl b => exact ⟨b, rfl, h1 A1 H1 (.bl (!b)) Stp.refl st1 (.bl _)⟩
  | _ => exact h1.elim
theorem le_if {t : MT} {a b : ME} {Q : VK} (h : LE k W (mIf t a b) σ H Q) : tIf (LT k W t) (LE k W a) (LE k W b) σ H Q := by
  obtain ⟨A, F, C, s, h⟩ := h
  refine ⟨A, F, C, s, (Aft.bnd (rel := RepB) h).mono fun dx C1 A1 H1 x p1 st1 rx h1 => ?_⟩
  have rx : x = dx := rx
  subst rx
  cases x with
  | true => exact iteT ⟨A1, F, C1, s.step p1 st1, h1⟩
  | false => exact iteF ⟨A1, F, C1, s.step p1 st1, h1⟩
theorem de_one {op} {a : Expr} {pos : Pos} {m : ME} (h : PE X a (LE k W m)) : PE X (.BoolOp op [a] pos) (LE k W m) := pe_one h
theorem de_and {a b : Expr} {rest : List Expr} {pos : Pos} {m n : ME} (ha : PE X a (LE k W m)) (hb : PE X (.BoolOp .And (b :: rest) pos) (LE k W n)) : PE X (.BoolOp .And (a :: b :: rest) pos) (LE k W (mAnd m n)) := (pe_and ha hb).cq fun _ _ _ h => le_and h
theorem de_not {a : Expr} {pos : Pos} {m : ME} (ha : PE X a (LE k W m)) : PE X (.UnaryOp .Not a pos) (LE k W (mNot m)) := (pe_not ha).cq fun _ _ _ h => le_not h
theorem de_if {c a b : Expr} {pos : Pos} {t : MT} {m n : ME} (hc : PT X c (LT k W t)) (ha : PE X a (LE k W m)) (hb : PE X b (LE k W n)) : PE X (.IfExp c a b pos) (LE k W (mIf t m n)) := (pe_ifExp hc ha hb).cq fun _ _ _ h => le_if h
end
/-! ### numbers -/
def oI (c : Int → Int → Bool) (g : Int → Int → D) : O2 := fun x y C => match x, y with
  | .int i, .int j => if c i j = true then some (g i j, C) else none
  | _, _ => none
theorem opD_I0 {k : Cn} {g : Int → Int → V} {g' : Int → Int → D} (hg : ∀ i j A C H, Rep k A C H (g i j) (g' i j)) : OpD k (rI0 g) (oI0 g') := by
  intro fl A C H x y dx dy d C' Q hf hl st rx ry e q
  unfold oI0 at e
  split at e
  · cases rx; cases ry; cases e
    exact ⟨_, _, rfl, rfl, q A H _ Stp.refl st (hg _ _ _ _ _)⟩
  · cases e
theorem opD_I {k : Cn} {P : Int → Int → Prop} {c : Int → Int → Bool} {g : Int → Int → V} {g' : Int → Int → D} (hc : ∀ i j, c i j = true → P i j) (hg : ∀ i j A C H, Rep k A C H (g i j) (g' i j)) : OpD k (rI P g) (oI c g') := by
  intro fl A C H x y dx dy d C' Q hf hl st rx ry e q
  unfold oI at e
  split at e
  · split at e
    · rename_i h
      cases rx; cases ry; cases e
      exact ⟨_, _, rfl, rfl, hc _ _ h, q A H _ Stp.refl st (hg _ _ _ _ _)⟩
    · cases e
  · cases e
def cMul (i j : Int) : Bool := (decide (-(2 ^ 64) < i) && decide (i < 2 ^ 64)) || (decide (-(2 ^ 64) < j) && decide (j < 2 ^ 64))
def oMul : O2 := oI cMul fun i j => .int (i * j)
def cDiv (i j : Int) : Bool := decide (0 < j) && decide (j < 4611686018427387904)
def oDiv : O2 := oI cDiv fun i j => .int (i / j)
def oMod : O2 := oI (fun _ j => decide (0 < j)) fun i j => .int (i % j)
def cPow (i j : Int) : Bool := decide (0 ≤ j) && decide (j ≤ 1000000) && decide (i.natAbs < 2 ^ 64)
def oPow : O2 := oI cPow fun i j => .int (i ^ j.toNat)
section
variable {k : Cn}
theorem d_add : OpD k (rI0 fun i j => .int (i + j)) oAdd := opD_I0 fun i j _ _ _ => .int _
theorem d_sub : OpD k (rI0 fun i j => .int (i - j)) oSub := opD_I0 fun i j _ _ _ => .int _
theorem d_mul : OpD k (rI CMul fun i j => .int (i * j)) oMul := opD_I (fun i j h => by
  simp only [cMul, Bool.or_eq_true, Bool.and_eq_true, decide_eq_true_eq] at h
  exact h) fun i j _ _ _ => .int _
theorem d_div : OpD k (rI CDivW fun i j => .int (i / j)) oDiv := opD_I (fun i j h => by
  simp only [cDiv, Bool.and_eq_true, decide_eq_true_eq] at h
  refine ⟨h.1, Nat.lt_of_lt_of_le ((Nat.log2_lt (by omega)).mpr (show j.natAbs < 2 ^ 62 by omega)) (by decide)⟩) fun i j _ _ _ => .int _
theorem d_mod : OpD k (rI (fun _ j => 0 < j) fun i j => .int (i % j)) oMod := opD_I (fun i j h => by simpa using h) fun i j _ _ _ => .int _
theorem d_pow : OpD k (rI CPow fun i j => .int (i ^ j.toNat)) oPow := opD_I (fun i j h => by
  simp only [cPow, Bool.and_eq_true, decide_eq_true_eq] at h
  exact ⟨h.1.1, h.1.2, h.2⟩) fun i j _ _ _ => .int _
theorem d_lt : OpD k (rI0 fun i j => .bl (decide (i < j))) oLt := opD_I0 fun i j _ _ _ => .bl _
theorem d_le : OpD k (rI0 fun i j => .bl (decide (i ≤ j))) oLe := opD_I0 fun i j _ _ _ => .bl _
theorem d_gt : OpD k (rI0 fun i j => .bl (decide (j < i))) oGt := opD_I0 fun i j _ _ _ => .bl _
theorem d_ge : OpD k (rI0 fun i j => .bl (decide (j ≤ i))) oGe := opD_I0 fun i j _ _ _ => .bl _
theorem d_neg : UnD k (rU fun i => .int (-i)) oNeg := by
  intro fl A C H x dx d C' Q hf hl st rx e q
  unfold oNeg at e
  split at e
  · cases rx; cases e
    exact ⟨_, rfl, q A H _ Stp.refl st (.int _)⟩
  · cases e
end
/-! ### a chain of two comparisons -/
theorem le_chain {k : Cn} {W : WX} {σ : L2.St} {H : Hp} {Q : VK} {r r' : R2} {o o' : O2} {ma mb mc : ME} (ho : OpD k r o) (ho' : OpD k r' o') (h : LE k W (mChain o o' ma mb mc) σ H Q) : tChain r r' (LE k W ma) (LE k W mb) (LE k W mc) σ H Q := by
  obtain ⟨A, F, C, s, h⟩ := h
  refine ⟨A, F, C, s, (Aft.bnd (rel := RepD k) h).mono fun dx C1 A1 H1 x p1 st1 rx h1 => ?_⟩
  have s1 := s.step p1 st1
  refine ⟨A1, F, C1, s1, (Aft.bnd (rel := RepD k) h1).mono fun dy C2 A2 H2 y p2 st2 ry h2 => ?_⟩
  have s2 := s1.step p2 st2
  obtain ⟨d, C', e, q⟩ := aft_ofO (Aft.bnd (rel := RepD k) h2)
  refine ho F.fl A2 C2 H2 x y dx dy d C' _ s2.fl s2.low st2 (p2.rep _ _ rx) ry e fun A3 H3 z p3 st3 rz => ?_
  have h3 := q A3 H3 z p3 st3 rz
  cases rz with
  | bl b =>
    refine ⟨b, rfl, ?_⟩
    cases b with
    | true =>
      have s3 := s2.step p3 st3
      refine iteT ⟨A3, F, C', s3, (Aft.bnd (rel := RepD k) h3).mono fun dw C4 A4 H4 w p4 st4 rw h4 => ?_⟩
      have s4 := s3.step p4 st4
      obtain ⟨d', C'', e', q'⟩ := aft_ofO h4
      exact ho' F.fl A4 C4 H4 y w dy dw d' C'' Q s4.fl s4.low st4 (p4.rep _ _ (p3.rep _ _ ry)) rw e' q'
    | false => exact iteF (h3 A3 H3 (.bl false) Stp.refl st3 (.bl false))
  | _ => exact h3.elim
theorem de_chain {X : Cx} {k : Cn} {W : WX} {a b c : Expr} {pos : Pos} {op op' : CmpOp} {r r' : R2} {o o' : O2} {ma mb mc : ME} (hR : OpR X (compareOp op) r) (hD : OpD k r o) (hR' : OpR X (compareOp op') r') (hD' : OpD k r' o') (ha : PE X a (LE k W ma)) (hb : PE X b (LE k W mb)) (hc : PE X c (LE k W mc))
    (hm : lastMarks [op, op'] [b, c] = false := by with_unfolding_all rfl) : PE X (.Compare a [op, op'] [b, c] pos) (LE k W (mChain o o' ma mb mc)) :=
  (pe_chain hR hR' ha hb hc hm).cq fun _ _ _ h => le_chain hD hD' h
end CT
set_option maxHeartbeats 4000000
/-! DL3: lists, tuples, dicts over data. -/
namespace CT
open PySem L2
/-! ### what a datum is as a list, a tuple, a dict -/
def vS (d : D) (C : Store) : Option (List D) := match d with
  | .tup xs => some xs
  | .kt xs => some xs
  | .lst xs => some xs
  | .cell i => match C[i]? with
    | some (some (.lst xs)) => some xs
    | _ => none
  | _ => none
section
variable {k : Cn} {A : Nat → Addr} {C : Store} {H : Hp} {v : V} {d : D} {ds : List D}
theorem vL_at (st : StOk k A C H) (r : Rep k A C H v d) (e : vL d C = some ds) : ∃ a vs, v = .ref a ∧ H a = some (.lst vs) ∧ RepL k A C H vs ds := by
  cases r with
  | lst l h q => cases e; exact ⟨_, _, rfl, h, q⟩
  | cell hi =>
    rename_i i
    simp only [vL] at e
    split at e
    · rename_i xs ec
      cases e
      obtain ⟨vs, h, q⟩ := st.at_ i _ ec
      exact ⟨_, vs, rfl, h, q⟩
    · cases e
  | _ => cases e
theorem vT_at (r : Rep k A C H v d) (e : vT d = some ds) : ∃ a vs, v = .ref a ∧ SqT k.K H a vs ∧ RepL k A C H vs ds := by
  cases r with
  | tup l h q => cases e; exact ⟨_, _, rfl, .inl (.inl h), q⟩
  | ktup h q => cases e; exact ⟨_, _, rfl, .inr h, q⟩
  | _ => cases e
theorem vS_at (st : StOk k A C H) (r : Rep k A C H v d) (e : vS d C = some ds) : ∃ a vs, v = .ref a ∧ (SqL k.K H a vs ∨ SqT k.K H a vs) ∧ RepL k A C H vs ds := by
  cases r with
  | lst l h q => cases e; exact ⟨_, _, rfl, .inl (.inl (.inl h)), q⟩
  | tup l h q => cases e; exact ⟨_, _, rfl, .inr (.inl (.inl h)), q⟩
  | ktup h q => cases e; exact ⟨_, _, rfl, .inr (.inr h), q⟩
  | cell hi =>
    rename_i i
    simp only [vS] at e
    split at e
    · rename_i xs ec
      cases e
      obtain ⟨vs, h, q⟩ := st.at_ i _ ec
      exact ⟨_, vs, rfl, .inl (.inl (.inl h)), q⟩
    · cases e
  | _ => cases e
theorem vD_at {ks : List (List Key)} (st : StOk k A C H) (r : Rep k A C H v d) (e : vD d C = some (ks, ds)) : ∃ a kvs, v = .ref a ∧ H a = some (.dT kvs) ∧ kvs.map (·.1) = ks ∧ RepL k A C H (kvs.map (·.2)) ds := by
  cases r with
  | dT l h q => cases e; exact ⟨_, _, rfl, h, rfl, q⟩
  | cell hi =>
    rename_i i
    simp only [vD] at e
    split at e
    · rename_i xs ec
      cases e
      obtain ⟨vs, h, z, q⟩ := st.at_ i _ ec
      exact ⟨_, vs, rfl, h, z, q⟩
    · cases e
  | _ => cases e
/-! ### new lists, tuples, dicts: own cells or plain data -/
theorem ext_at (A : Nat → Addr) (n : Nat) (p : Addr) : ext A n p n = p := if_pos rfl
theorem rep_new {p : Addr} (n : Nat) (c : Cell) {H : Hp} {C : Store} : Rep k (ext A C.length p) (C ++ [some c]) H (.ref p) (.cell C.length) := by
  have h : Rep k (ext A C.length p) (C ++ [some c]) H (.ref (ext A C.length p C.length)) (.cell C.length) := .cell (by simp)
  rw [ext_at] at h
  exact h
theorem fresh_L {fl : Nat} {own : Bool} {p : Addr} {vs : List V} (hf : fl ≤ C.length) (st : StOk k A C H) (r : RepL k A C H vs ds) (h : H p = none) :
    ∃ A', Stp k fl A C H A' (mkL own ds C).2 (upd H p (.lst vs)) ∧ StOk k A' (mkL own ds C).2 (upd H p (.lst vs)) ∧ Rep k A' (mkL own ds C).2 (upd H p (.lst vs)) (.ref p) (mkL own ds C).1 := by
  cases own with
  | true =>
    have q : Kp A C H (ext A C.length p) (C ++ [some (.lst ds)]) (upd H p (.lst vs)) := kp_cell (k := k) st h
    exact ⟨ext A C.length p, q.stp fun f h1 h2 l => low_app h2 l, st.cell h ⟨vs, upd_same, r.kp q⟩, rep_new C.length _⟩
  | false =>
    have q : Kp A C H A C (upd H p (.lst vs)) := kp_new h
    exact ⟨A, q.stp0, st.new h, .lst (st.notLive h) upd_same (r.kp q)⟩
theorem fresh_T {fl : Nat} {p : Addr} {vs : List V} (st : StOk k A C H) (r : RepL k A C H vs ds) (h : H p = none) :
    Stp k fl A C H A C (upd H p (.tup vs)) ∧ StOk k A C (upd H p (.tup vs)) ∧ Rep k A C (upd H p (.tup vs)) (.ref p) (.tup ds) := by
  have q : Kp A C H A C (upd H p (.tup vs)) := kp_new h
  exact ⟨q.stp0, st.new h, .tup (st.notLive h) upd_same (r.kp q)⟩
theorem fresh_D {fl : Nat} {own : Bool} {p : Addr} {kvs : List (List Key × V)} (hf : fl ≤ C.length) (st : StOk k A C H) (r : RepL k A C H (kvs.map (·.2)) ds) (h : H p = none) :
    ∃ A', Stp k fl A C H A' (mkD own (kvs.map (·.1)) ds C).2 (upd H p (.dT kvs)) ∧ StOk k A' (mkD own (kvs.map (·.1)) ds C).2 (upd H p (.dT kvs)) ∧ Rep k A' (mkD own (kvs.map (·.1)) ds C).2 (upd H p (.dT kvs)) (.ref p) (mkD own (kvs.map (·.1)) ds C).1 := by
  cases own with
  | true =>
    have q : Kp A C H (ext A C.length p) (C ++ [some (.dT (kvs.map (·.1)) ds)]) (upd H p (.dT kvs)) := kp_cell (k := k) st h
    exact ⟨ext A C.length p, q.stp fun f h1 h2 l => low_app h2 l, st.cell h ⟨kvs, upd_same, rfl, r.kp q⟩, rep_new C.length _⟩
  | false =>
    have q : Kp A C H A C (upd H p (.dT kvs)) := kp_new h
    exact ⟨A, q.stp0, st.new h, .dT (st.notLive h) upd_same (r.kp q)⟩
end
/-! ### displays -/
theorem szN_le {n : Nat} (h : szN n = true) : n ≤ sizeLine := by
  rw [sizeLine_eq]
  exact of_decide_eq_true h
section
variable {X : Cx} {k : Cn} {W : WX} {es : List Expr} {ma : MA} {pos : Pos}
theorem le_lst {own : Bool} {σ : L2.St} {H : Hp} {Q : VK} (h : LE k W (mAp (oLst own) ma) σ H Q) : tLst (LA k W ma) σ H Q := by
  obtain ⟨A, F, C, s, h⟩ := h
  refine ⟨A, F, C, s, (Aft.bnd (rel := RepDs k) h).mono fun dx C1 A1 H1 x p1 st1 rx h1 => ?_⟩
  have s1 := s.step p1 st1
  obtain ⟨d, C', e, q⟩ := aft_ofO h1
  unfold oLst at e
  split at e
  · rename_i hz
    refine ⟨by rw [rx.length]; exact szN_le hz, fun p hp => ?_⟩
    obtain ⟨A2, w1, w2, w3⟩ := fresh_L (own := own) s1.fl st1 rx hp
    have e1 := Option.some.inj e
    rw [e1] at w1 w2 w3
    exact q A2 _ _ w1 w2 w3
  · cases e
theorem de_lst (own : Bool) (h : PA X es (LA k W ma)) : PE X (.List es pos) (LE k W (mAp (oLst own) ma)) := (pe_lst h).cq fun _ _ _ h => le_lst h
theorem le_tup {σ : L2.St} {H : Hp} {Q : VK} (h : LE k W (mAp oTup ma) σ H Q) : tTup (LA k W ma) σ H Q := by
  obtain ⟨A, F, C, s, h⟩ := h
  refine ⟨A, F, C, s, (Aft.bnd (rel := RepDs k) h).mono fun dx C1 A1 H1 x p1 st1 rx h1 => ?_⟩
  obtain ⟨d, C', e, q⟩ := aft_ofO h1
  unfold oTup at e
  split at e
  · rename_i hz
    cases e
    refine ⟨by rw [rx.length]; exact szN_le hz, fun p hp => ?_⟩
    obtain ⟨w1, w2, w3⟩ := fresh_T st1 rx hp
    exact q A1 _ _ w1 w2 w3
  · cases e
theorem de_tup {x1} (h : PA X es (LA k W ma)) : PE X (.Tuple es x1 pos) (LE k W (mAp oTup ma)) := (pe_tup h).cq fun _ _ _ h => le_tup h
theorem de_dnew (own : Bool) : PE X (.Dict [] [] pos) (LE k W (mDNew own)) := pe_dnewT.cq fun σ H Q h => by
  obtain ⟨A, F, C, s, h⟩ := h
  intro p hp
  obtain ⟨A2, w1, w2, w3⟩ := fresh_D (own := own) (kvs := []) (ds := []) s.fl s.st .nil hp
  exact h A2 _ _ w1 w2 w3
end
/-! ### subscripts -/
def oIx : O2 := fun x y C => match y with
  | .int i => (vS x C).bind fun xs => (atI xs i).map fun d => (d, C)
  | _ => none
theorem atI_rep {k : Cn} {A : Nat → Addr} {C : Store} {H : Hp} {vs : List V} {ds : List D} {i : Int} {d : D} (r : RepL k A C H vs ds) (h : atI ds i = some d) : ∃ v, atI vs i = some v ∧ Rep k A C H v d := by
  unfold atI at h ⊢
  rw [r.length]
  cases e : ixN ds.length i with
  | none => rw [e] at h; cases h
  | some j =>
    rw [e] at h
    exact r.get h
theorem d_ix {k : Cn} : OpD k (rIx k.K) oIx := by
  intro fl A C H x y dx dy d C' Q hf hl st rx ry e q
  cases ry with
  | int i =>
    simp only [oIx] at e
    cases ev : vS dx C with
    | none => rw [ev] at e; cases e
    | some xs =>
      rw [ev] at e
      simp only [Option.bind_some, Option.map_eq_some_iff] at e
      obtain ⟨d', e1, e2⟩ := e
      cases e2
      obtain ⟨a, vs, rfl, hs, r⟩ := vS_at st rx ev
      obtain ⟨v, hv, rv⟩ := atI_rep r e1
      rcases hs with hs | hs
      · exact .inl ⟨a, vs, i, v, rfl, rfl, hs, hv, q A H v Stp.refl st rv⟩
      · exact .inr (.inl ⟨a, vs, i, v, rfl, rfl, hs, hv, q A H v Stp.refl st rv⟩)
  | _ => cases e
/-! ### dicts with tuple keys -/
theorem keyL_rep {k : Cn} {A : Nat → Addr} {C : Store} {H : Hp} : ∀ {vs : List V} {ds : List D} {ks : List Key}, RepL k A C H vs ds → keyL ds = some ks → vs = ks.map kV
  | _, _, _, .nil, e => by cases e; rfl
  | _, _, _, .cons r t, e => by
    cases r with
    | int i =>
      simp only [keyL, Option.map_eq_some_iff] at e
      obtain ⟨l, e1, e2⟩ := e
      cases e2
      rw [keyL_rep t e1]
      rfl
    | str s =>
      simp only [keyL, Option.map_eq_some_iff] at e
      obtain ⟨l, e1, e2⟩ := e
      cases e2
      rw [keyL_rep t e1]
      rfl
    | _ => cases e
theorem lookT_rep {k : Cn} {A : Nat → Addr} {C : Store} {H : Hp} (key : List Key) : ∀ {kvs : List (List Key × V)} {ds : List D}, RepL k A C H (kvs.map (·.2)) ds →
    (∀ d, lookT (kvs.map (·.1)) ds key = some d → ∃ v, valV kvs key = some v ∧ Rep k A C H v d) ∧ (lookT (kvs.map (·.1)) ds key = none → valV kvs key = none)
  | [], _, .nil => ⟨fun d h => (by cases h), fun _ => rfl⟩
  | p :: kvs, _, .cons r t => by
    have ih := lookT_rep key t
    by_cases e : p.1 = key
    · refine ⟨fun d h => ?_, fun h => ?_⟩
      · simp only [List.map_cons, lookT, if_pos e] at h
        cases h
        exact ⟨p.2, valV_pos e, r⟩
      · simp only [List.map_cons, lookT, if_pos e] at h
        cases h
    · refine ⟨fun d h => ?_, fun h => ?_⟩
      · simp only [List.map_cons, lookT, if_neg e] at h
        obtain ⟨v, h1, h2⟩ := ih.1 d h
        exact ⟨v, by rw [valV_neg e]; exact h1, h2⟩
      · simp only [List.map_cons, lookT, if_neg e] at h
        rw [valV_neg e]
        exact ih.2 h
theorem setT_rep {k : Cn} {A : Nat → Addr} {C : Store} {H : Hp} {v : V} {x : D} (key : List Key) (rx : Rep k A C H v x) : ∀ {kvs : List (List Key × V)} {ds : List D}, RepL k A C H (kvs.map (·.2)) ds →
    RepL k A C H ((kvs.map fun kv => if kv.1 = key then (kv.1, v) else kv).map (·.2)) (setT (kvs.map (·.1)) ds key x)
  | [], _, .nil => .nil
  | p :: kvs, _, .cons r t => by
    have ih := setT_rep key rx t
    by_cases e : p.1 = key
    · simp only [setT, List.map_cons, if_pos e]
      exact .cons rx ih
    · simp only [setT, List.map_cons, if_neg e]
      exact .cons r ih
theorem keys_map (key : List Key) (v : V) : ∀ kvs : List (List Key × V), (kvs.map fun kv => if kv.1 = key then (kv.1, v) else kv).map (·.1) = kvs.map (·.1)
  | [] => rfl
  | p :: kvs => by
    simp only [List.map_cons, keys_map key v kvs]
    split <;> rfl
theorem putK_rep {k : Cn} {A : Nat → Addr} {C : Store} {H : Hp} {v : V} {x : D} (key : List Key) (rx : Rep k A C H v x) {kvs : List (List Key × V)} {ds : List D} (r : RepL k A C H (kvs.map (·.2)) ds) :
    (putK kvs key v).map (·.1) = (putT (kvs.map (·.1)) ds key x).1 ∧ RepL k A C H ((putK kvs key v).map (·.2)) (putT (kvs.map (·.1)) ds key x).2 := by
  have ea : ((kvs.map (·.1)).any fun k => decide (k = key)) = (kvs.any fun kv => decide (kv.1 = key)) := by rw [List.any_map]; rfl
  unfold putK putT
  rw [ea]
  split
  · exact ⟨keys_map key v kvs, setT_rep key rx r⟩
  · rw [List.map_append, List.map_append]
    exact ⟨rfl, r.append (.cons rx .nil)⟩
/-- a key that lies in the heap as a tuple -/
theorem key_at {k : Cn} {A : Nat → Addr} {C : Store} {H : Hp} {y : V} {ds : List D} {key : List Key} (r : Rep k A C H y (.tup ds)) (hk : keyL ds = some key) : ∃ b, y = .ref b ∧ H b = some (.tup (key.map kV)) := by
  cases r with
  | tup l h t =>
    have e := keyL_rep t hk
    subst e
    exact ⟨_, rfl, h⟩
section
variable {X : Cx} {k : Cn} {W : WX} {σ : L2.St} {H : Hp} {Q : VK}
theorem le_dget {ma mb mc : ME} (h : LE k W (mDGet ma mb mc) σ H Q) : tDGet2 (LE k W ma) (LE k W mb) (LE k W mc) σ H Q := by
  obtain ⟨A, F, C, s, h⟩ := h
  refine ⟨A, F, C, s, (Aft.bnd (rel := RepD k) h).mono fun dx C1 A1 H1 x p1 st1 rx h1 => ?_⟩
  have s1 := s.step p1 st1
  have key1 : ∀ (A1 : Nat → Addr) (H1 : Hp) (x : V), StOk k A1 C1 H1 → Rep k A1 C1 H1 x dx → (vD dx C1).isSome = true → ∃ a, x = .ref a ∧ IsD H1 a := fun A1 H1 x st1 rx hs => by
    obtain ⟨⟨ks, vs⟩, e1⟩ := Option.isSome_iff_exists.mp hs
    obtain ⟨a, kvs, rfl, ha, _, _⟩ := vD_at st1 rx e1
    exact ⟨a, rfl, .inr ⟨kvs, .inl ha⟩⟩
  by_cases hs : (vD dx C1).isSome = true
  · obtain ⟨a, rfl, hd⟩ := key1 A1 H1 x st1 rx hs
    rw [if_pos hs] at h1
    refine ⟨a, rfl, hd, A1, F, C1, s1, (Aft.bnd (rel := RepD k) h1).mono fun dy C2 A2 H2 y p2 st2 ry h2 => ?_⟩
    have s2 := s1.step p2 st2
    refine ⟨A2, F, C2, s2, (Aft.bnd (rel := RepD k) h2).mono fun dz C3 A3 H3 z p3 st3 rz h3 => ?_⟩
    obtain ⟨d, C', e, q⟩ := aft_ofO h3
    unfold oDGet at e
    split at e
    · rename_i ds
      simp only [Option.bind_eq_some_iff, Option.map_eq_some_iff] at e
      obtain ⟨⟨ks, vs⟩, e1, key, e2, e4⟩ := e
      cases e4
      obtain ⟨a', kvs, ea, ha, hk, hr⟩ := vD_at st3 (p3.rep _ _ (p2.rep _ _ rx)) e1
      cases ea
      obtain ⟨b, rfl, hb⟩ := key_at (p3.rep _ _ ry) e2
      subst hk
      refine ⟨_, DGet.t ha hb, ?_⟩
      cases el : lookT (kvs.map (·.1)) vs key with
      | none =>
        rw [(lookT_rep key hr).2 el]
        rw [el] at q
        exact q A3 H3 z Stp.refl st3 rz
      | some d =>
        obtain ⟨v, hv, rv⟩ := (lookT_rep key hr).1 _ el
        rw [hv]
        rw [el] at q
        exact q A3 H3 v Stp.refl st3 rv
    · cases e
  · rw [if_neg hs] at h1
    exact h1.elim
theorem de_dget {o e f : Expr} {apos cpos : Pos} {ma mb mc : ME} (hu : X.A.units + 1 < cLine) (ho : PE X o (LE k W ma)) (he : PE X e (LE k W mb)) (hf : PE X f (LE k W mc)) (m : M2 X o "get" apos e f cpos := by exact ⟨rfl, rfl, rfl, rfl⟩) :
    PE X (.Call (.Attribute o "get" apos) [e, f] [] cpos) (LE k W (mDGet ma mb mc)) := (pe_dget2 hu ho he hf m).cq fun _ _ _ h => le_dget h
end
end CT
set_option maxHeartbeats 4000000
/-! DL4: statements, defs over data. -/
namespace CT
open PySem L2
def AftS (k : Cn) (W : WX) (fl : Nat) (A : Nat → Addr) (C : Store) (H : Hp) (m : RS) (E : Ends) : Prop := match m with
  | .nx sl C' => ∀ A' σ' H', Stp k fl A C H A' C' H' → SR k A' ⟨fl, sl⟩ C' σ' H' → E.nx σ' H'
  | .bk sl C' => ∀ A' σ' H', Stp k fl A C H A' C' H' → SR k A' ⟨fl, sl⟩ C' σ' H' → E.bk σ' H'
  | .ct sl C' => ∀ A' σ' H', Stp k fl A C H A' C' H' → SR k A' ⟨fl, sl⟩ C' σ' H' → E.ct σ' H'
  | .rt d C' => ∀ A' H' v, Stp k fl A C H A' C' H' → StOk k A' C' H' → Rep k A' C' H' v d → E.rt v H'
  | .xc e sl C' => ∀ A' σ' H' dd vs, Stp k fl A C H A' C' H' → SR k A' ⟨fl, sl⟩ C' σ' H' → H' dd = some (.xd ((k.fn e.c).zip vs)) → vs.length = (k.fn e.c).length → RepL k A' C' H' vs e.fs → W (.ref (k.cl e.c)) (some dd) σ' H'
  | .stuck => False
def LS (k : Cn) (W : WX) (m : MS) : TS := fun E σ H => ∃ A F C, SR k A F C σ H ∧ AftS k W F.fl A C H (m F C) E
section
variable {k : Cn} {W : WX} {fl : Nat} {A A1 : Nat → Addr} {C C1 : Store} {H H1 : Hp} {m : RS} {E E' : Ends}
theorem AftS.shift (s : Stp k fl A C H A1 C1 H1) (h : AftS k W fl A C H m E) : AftS k W fl A1 C1 H1 m E := by
  cases m with
  | nx sl C' => exact fun A' σ' H' p r => h A' σ' H' (s.trans p) r
  | bk sl C' => exact fun A' σ' H' p r => h A' σ' H' (s.trans p) r
  | ct sl C' => exact fun A' σ' H' p r => h A' σ' H' (s.trans p) r
  | rt d C' => exact fun A' H' v p st r => h A' H' v (s.trans p) st r
  | xc e sl C' => exact fun A' σ' H' dd vs p r x l t => h A' σ' H' dd vs (s.trans p) r x l t
  | stuck => exact h
end
/-! ### simple statements -/
theorem AftS.bnd {k : Cn} {W : WX} {F : Fr} {A : Nat → Addr} {C : Store} {σ : L2.St} {H : Hp} {E : Ends} {α β : Type} {rel : (Nat → Addr) → Store → Hp → β → α → Prop} {m : R α} {f : α → Store → RS} (s : SR k A F C σ H)
    (h : AftS k W F.fl A C H (bndS F.sl m f) E) : Aft k F.fl A C H rel m (fun d C1 A1 H1 v => AftS k W F.fl A1 C1 H1 (f d C1) E) (fun c d H' => W c d σ H') := by
  cases m with
  | ok d C' => exact fun A' H' v p st r => AftS.shift p h
  | exc e C' => exact fun A' H' dd vs p st x l r => h A' σ H' dd vs p (s.step p st) x l r
  | stuck => exact h
def sNever : MS := fun _ _ => .stuck
section
variable {X : Cx} {k : Cn} {W : WX} {E : Ends} {σ : L2.St} {H : Hp}
theorem ls_next (h : LS k W sNext E σ H) : tNext E σ H := by
  obtain ⟨A, F, C, s, h⟩ := h
  exact h A σ H Stp.refl s
theorem ls_seq {a b : MS} (h : LS k W (sSeq a b) E σ H) : tSeq (LS k W a) (LS k W b) E σ H := by
  obtain ⟨A, F, C, s, h⟩ := h
  refine ⟨A, F, C, s, ?_⟩
  unfold sSeq at h
  cases e : a F C with
  | nx sl C' =>
    rw [e] at h
    exact fun A' σ' H' p r => ⟨A', ⟨F.fl, sl⟩, C', r, AftS.shift p h⟩
  | bk sl C' => rw [e] at h; exact h
  | ct sl C' => rw [e] at h; exact h
  | rt d C' => rw [e] at h; exact h
  | xc x sl C' => rw [e] at h; exact h
  | stuck => rw [e] at h; exact h
theorem ls_drop {m : ME} (h : LS k W (sDrop m) E σ H) : tDrop (LE k W m) E σ H := by
  obtain ⟨A, F, C, s, h⟩ := h
  exact ⟨A, F, C, s, (AftS.bnd (rel := RepD k) s h).mono fun d C1 A1 H1 v p st r h1 => h1 A1 σ H1 Stp.refl (s.step p st)⟩
theorem ls_ret {m : ME} (h : LS k W (sRet m) E σ H) : tRet (LE k W m) E σ H := by
  obtain ⟨A, F, C, s, h⟩ := h
  exact ⟨A, F, C, s, (AftS.bnd (rel := RepD k) s h).mono fun d C1 A1 H1 v p st r h1 => h1 A1 H1 v Stp.refl st r⟩
theorem ls_if {t : MT} {a b : MS} (h : LS k W (sIf t a b) E σ H) : tIfS (LT k W t) (LS k W a) (LS k W b) E σ H := by
  obtain ⟨A, F, C, s, h⟩ := h
  refine ⟨A, F, C, s, (AftS.bnd (rel := RepB) s h).mono fun dx C1 A1 H1 x p st rx h1 => ?_⟩
  have rx : x = dx := rx
  subst rx
  cases x with
  | true => exact iteT ⟨A1, F, C1, s.step p st, h1⟩
  | false => exact iteF ⟨A1, F, C1, s.step p st, h1⟩
theorem dss_nil : PSs X [] (LS k W sNext) := pss_nil.cq fun _ _ _ h => ls_next h
theorem dss_cons {st : Stmt} {rest : List Stmt} {a b : MS} (h1 : PS X st (LS k W a)) (h2 : PSs X rest (LS k W b)) : PSs X (st :: rest) (LS k W (sSeq a b)) := (pss_cons h1 h2).cq fun _ _ _ h => ls_seq h
theorem dss_one {st : Stmt} {a : MS} (h1 : PS X st (LS k W a)) : PSs X [st] (LS k W a) := pss_one h1
theorem ds_expr {e : Expr} {pos : Pos} {m : ME} (he : PE X e (LE k W m)) (hs : swapsWith e none pos.line X.env = pure false := by rfl) : PS X (.Expr e pos) (LS k W (sDrop m)) := (ps_expr he hs).cq fun _ _ _ h => ls_drop h
theorem ds_ret {e : Expr} {pos : Pos} {m : ME} (he : PE X e (LE k W m)) : PS X (.Return (some e) pos) (LS k W (sRet m)) := (ps_ret he).cq fun _ _ _ h => ls_ret h
theorem ds_if {c : Expr} {a b : List Stmt} {pos : Pos} {t : MT} {m n : MS} (hc : PT X c (LT k W t)) (ha : PSs X a (LS k W m)) (hb : PSs X b (LS k W n)) : PS X (.If c a b pos) (LS k W (sIf t m n)) := (ps_if hc ha hb).cq fun _ _ _ h => ls_if h
theorem ds_never {st : Stmt} : PS X st (LS k W sNever) := ps_never.cq fun E σ H h => by
  obtain ⟨A, F, C, s, h⟩ := h
  exact h.elim
end
/-! ### targets -/
def gsN : List Nat → TGs
  | [] => gNil
  | i :: is => gCons (gName i) (gsN is)
section
variable {X : Cx} {k : Cn}
theorem setAll_len : ∀ {is : List Nat} {ds : List D} {sl sl' : List (Option D)}, setAll is ds sl = some sl' → ds.length = is.length
  | [], [], _, _, _ => rfl
  | _ :: is, _ :: ds, _, _, h => by
    have := setAll_len (is := is) (ds := ds) h
    simp [this]
  | [], _ :: _, _, _, h => by cases h
  | _ :: _, [], _, _, h => by cases h
theorem _root_.L2.PG.cq {X : Cx} {e : Expr} {t t' : TG} (h : PG X e t) (c : ∀ v σ H Q, t' v σ H Q → t v σ H Q) : PG X e t' := ⟨fun pins s σ H v u Q I r q => h.run pins s σ H v u Q I r (c v σ H Q q)⟩
end
end CT
set_option maxHeartbeats 4000000
/-! DL5: stores, loops over data. -/
namespace CT
open PySem L2
section
variable {X : Cx} {k : Cn} {W : WX} {E : Ends} {σ : L2.St} {H : Hp}
/-! ### assignments -/
theorem ls_set {m : ME} {i : Nat} (h : LS k W (sAsg m (gN i)) E σ H) : tAsg (LE k W m) (gName i) E σ H := by
  obtain ⟨A, F, C, s, h⟩ := h
  exact ⟨A, F, C, s, (AftS.bnd (rel := RepD k) s h).mono fun d C1 A1 H1 v p st r h1 => h1 A1 _ H1 Stp.refl ((s.step p st).set r)⟩
theorem ds_set {i : Nat} {x : Str} {e : Expr} {pos pos' : Pos} {m : ME} (hN : X.N.Nodup) (hi : X.N[i]? = some x) (hx : Loc X.env.scope x) (he : PE X e (LE k W m)) (hs : swapsWith e (some (.Name x pos')) pos.line X.env = pure false := by rfl) (hf : X.fn x = true ∨ X.env.scope.names.lookup x = some .local := by first | exact .inl rfl | exact .inr rfl | assumption) :
    PS X (.Assign [.Name x pos'] e pos) (LS k W (sAsg m (gN i))) := (ps_set hN hi hx he hs hf).cq fun _ _ _ h => ls_set h
theorem ls_par {i j : Nat} {m : MA} (h : LS k W (sPar [i, j] m) E σ H) : tPar i j (LA k W m) E σ H := by
  obtain ⟨A, F, C, s, h⟩ := h
  refine ⟨A, F, C, s, (AftS.bnd (rel := RepDs k) s h).mono fun d C1 A1 H1 vs p st r h1 => ?_⟩
  cases r with
  | nil => exact h1.elim
  | cons r1 t1 =>
    cases t1 with
    | nil => exact h1.elim
    | cons r2 t2 =>
      cases t2 with
      | nil => exact ⟨_, _, rfl, h1 A1 _ H1 Stp.refl (((s.step p st).set r1).set r2)⟩
      | cons r3 t3 => exact h1.elim
theorem ds_par {i j : Nat} {x y : Str} {a b : Expr} {px py pt pos : Pos} {kt k2 pt2} {m : MA} (hc : X.calm = true) (hN : X.N.Nodup) (hi : X.N[i]? = some x) (hj : X.N[j]? = some y) (hij : i ≠ j)
    (hx : X.env.scope.names.lookup x = some .local) (hy : X.env.scope.names.lookup y = some .local) (ha : PA X [a, b] (LA k W m))
    (hw : swappedStores [.Tuple [.Name x px, .Name y py] kt pt] (.Tuple [a, b] k2 pt2) X.env = pure (some [x, y]) := by rfl)
    (hs : swapsWithSole [.Tuple [.Name x px, .Name y py] kt pt] (.Tuple [a, b] k2 pt2) pos.line X.env = pure false := by rfl) :
    PS X (.Assign [.Tuple [.Name x px, .Name y py] kt pt] (.Tuple [a, b] k2 pt2) pos) (LS k W (sPar [i, j] m)) := (ps_par hc hN hi hj hij hx hy ha hw hs).cq fun _ _ _ h => ls_par h
end
/-! ### cells written -/
theorem wr_some {fl i : Nat} {c : Cell} {C C' : Store} (h : wr fl i c C = some C') : C' = C.set i (some c) ∧ (i < fl → cbC 0 c = true) := by
  unfold wr at h
  split at h
  · cases h
  · rename_i hn
    cases h
    refine ⟨rfl, fun hi => ?_⟩
    cases e : cbC 0 c with
    | true => rfl
    | false => exact absurd ⟨hi, e⟩ hn
section
variable {k : Cn} {A : Nat → Addr} {C C' : Store} {H : Hp} {fl i : Nat}
theorem write_L {c0 : Cell} {ds : List D} {vs : List V} (st : StOk k A C H) (hi : C[i]? = some (some c0)) (r : RepL k A C H vs ds) (h : wr fl i (.lst ds) C = some C') :
    Stp k fl A C H A C' (upd H (A i) (.lst vs)) ∧ StOk k A C' (upd H (A i) (.lst vs)) := by
  obtain ⟨rfl, hc⟩ := wr_some h
  have q : Kp A C H A (C.set i (some (.lst ds))) (upd H (A i) (.lst vs)) := kp_write hi
  exact ⟨q.stp fun f h1 h2 l => low_set hc h1 l, st.write hi ⟨vs, upd_same, r.kp q⟩⟩
theorem write_D {c0 : Cell} {ks : List (List Key)} {ds : List D} {kvs : List (List Key × V)} (st : StOk k A C H) (hi : C[i]? = some (some c0)) (hk : kvs.map (·.1) = ks) (r : RepL k A C H (kvs.map (·.2)) ds) (h : wr fl i (.dT ks ds) C = some C') :
    Stp k fl A C H A C' (upd H (A i) (.dT kvs)) ∧ StOk k A C' (upd H (A i) (.dT kvs)) := by
  obtain ⟨rfl, hc⟩ := wr_some h
  have q : Kp A C H A (C.set i (some (.dT ks ds))) (upd H (A i) (.dT kvs)) := kp_write hi
  exact ⟨q.stp fun f h1 h2 l => low_set hc h1 l, st.write hi ⟨kvs, upd_same, hk, r.kp q⟩⟩
end
section
variable {k : Cn} {A : Nat → Addr} {C : Store} {H : Hp} {v : V} {d : D} {i : Nat}
theorem cL_at {ds : List D} (st : StOk k A C H) (r : Rep k A C H v d) (e : cL d C = some (i, ds)) : d = .cell i ∧ v = .ref (A i) ∧ C[i]? = some (some (.lst ds)) ∧ ∃ vs, H (A i) = some (.lst vs) ∧ RepL k A C H vs ds := by
  cases r with
  | cell hi =>
    simp only [cL] at e
    split at e
    · rename_i xs ec
      cases e
      exact ⟨rfl, rfl, ec, st.at_ i _ ec⟩
    · cases e
  | _ => cases e
theorem cD_at {ks : List (List Key)} {ds : List D} (st : StOk k A C H) (r : Rep k A C H v d) (e : cD d C = some (i, ks, ds)) : d = .cell i ∧ v = .ref (A i) ∧ C[i]? = some (some (.dT ks ds)) ∧ ∃ kvs : List (List Key × V), H (A i) = some (.dT kvs) ∧ kvs.map (·.1) = ks ∧ RepL k A C H (kvs.map (·.2)) ds := by
  cases r with
  | cell hi =>
    simp only [cD] at e
    split at e
    · rename_i xs ec
      cases e
      exact ⟨rfl, rfl, ec, st.at_ i _ ec⟩
    · cases e
  | _ => cases e
end
section
variable {X : Cx} {k : Cn} {W : WX} {E : Ends} {σ : L2.St} {H : Hp}
theorem ls_setL {me mo mi : ME} (h : LS k W (sSetL me mo mi) E σ H) : tAsg (LE k W me) (gSub (LE k W mo) (LE k W mi) rSetL) E σ H := by
  obtain ⟨A, F, C, s, h⟩ := h
  refine ⟨A, F, C, s, (AftS.bnd (rel := RepD k) s h).mono fun dv C1 A1 H1 v p1 st1 rv h1 => ?_⟩
  have s1 := s.step p1 st1
  refine ⟨A1, F, C1, s1, (AftS.bnd (rel := RepD k) s1 h1).mono fun dO C2 A2 H2 o p2 st2 ro h2 => ?_⟩
  have s2 := s1.step p2 st2
  refine ⟨A2, F, C2, s2, (AftS.bnd (rel := RepD k) s2 h2).mono fun dx C3 A3 H3 x p3 st3 rx h3 => ?_⟩
  have s3 := s2.step p3 st3
  cases rx with
  | int n =>
    cases ec : cL dO C3 with
    | none => simp only [ec] at h3; exact h3.elim
    | some q =>
      obtain ⟨i, ds⟩ := q
      simp only [ec] at h3
      obtain ⟨rfl, rfl, hi, vs, hv, rvs⟩ := cL_at st3 (p3.rep _ _ ro) ec
      cases ej : ixN ds.length n with
      | none => simp only [ej] at h3; exact h3.elim
      | some j =>
        simp only [ej] at h3
        cases ew : wr F.fl i (.lst (ds.set j dv)) C3 with
        | none => simp only [ew] at h3; exact h3.elim
        | some C4 =>
          simp only [ew] at h3
          obtain ⟨q1, q2⟩ := write_L st3 hi (rvs.set (p3.rep _ _ (p2.rep _ _ rv)) j) ew
          exact ⟨A3 i, vs, n, j, rfl, rfl, hv, by rw [rvs.length]; exact ej, h3 A3 σ _ q1 (s3.step q1 q2)⟩
  | _ => exact h3.elim
theorem ls_put {me mo mi : ME} (h : LS k W (sPut me mo mi) E σ H) : sDPut (LE k W mo) (LE k W mi) (LE k W me) E σ H := by
  obtain ⟨A, F, C, s, h⟩ := h
  refine ⟨A, F, C, s, (AftS.bnd (rel := RepD k) s h).mono fun dv C1 A1 H1 v p1 st1 rv h1 => ?_⟩
  have s1 := s.step p1 st1
  refine ⟨A1, F, C1, s1, (AftS.bnd (rel := RepD k) s1 h1).mono fun dO C2 A2 H2 o p2 st2 ro h2 => ?_⟩
  have s2 := s1.step p2 st2
  refine ⟨A2, F, C2, s2, (AftS.bnd (rel := RepD k) s2 h2).mono fun dx C3 A3 H3 x p3 st3 rx h3 => ?_⟩
  have s3 := s2.step p3 st3
  cases dx with
  | tup ds =>
    cases ec : cD dO C3 with
    | none => simp only [ec] at h3; exact h3.elim
    | some q =>
      obtain ⟨i, ks, vs⟩ := q
      simp only [ec] at h3
      obtain ⟨rfl, rfl, hi, kvs, hv, hk, rvs⟩ := cD_at st3 (p3.rep _ _ ro) ec
      cases ej : keyL ds with
      | none => simp only [ej] at h3; exact h3.elim
      | some key =>
        simp only [ej] at h3
        split at h3
        · rename_i hz
          cases ew : wr F.fl i (.dT (putT ks vs key dv).1 (putT ks vs key dv).2) C3 with
          | none => simp only [ew] at h3; exact h3.elim
          | some C4 =>
            simp only [ew] at h3
            obtain ⟨b, rfl, hb⟩ := key_at rx ej
            subst hk
            have hz' : kvs.length < sizeLine := by
              have := szN_le hz
              rw [List.length_map] at this
              omega
            obtain ⟨k1, k2⟩ := putK_rep key (p3.rep _ _ (p2.rep _ _ rv)) rvs
            obtain ⟨q1, q2⟩ := write_D st3 hi k1 k2 ew
            exact ⟨A3 i, _, rfl, DPut.t hv hb hz', h3 A3 σ _ q1 (s3.step q1 q2)⟩
        · exact h3.elim
  | _ => exact h3.elim
theorem ds_setL {o i e : Expr} {pos pos' : Pos} {me mo mi : ME} (he : PE X e (LE k W me)) (hg : PG X (.Subscript o i pos') (gSub (LE k W mo) (LE k W mi) rSetL))
    (hs : swapsWithSole [.Subscript o i pos'] e pos.line X.env = pure false := by rfl) (hw : swappedStores [.Subscript o i pos'] e X.env = pure none := by rfl) (h1 : (assignEach [.Subscript o i pos'] X.env).map (·.2) = [assign (.Subscript o i pos') X.env] := by rfl) :
    PS X (.Assign [.Subscript o i pos'] e pos) (LS k W (sSetL me mo mi)) := (ps_asg he hg hs hw h1).cq fun _ _ _ h => ls_setL h
theorem ds_put {o i e : Expr} {pos pos' : Pos} {me mo mi : ME} (hu : X.A.units + 1 < cLine) (he : PE X e (LE k W me)) (ho : PE X o (LE k W mo)) (hi : PE X i (LE k W mi)) (hs : swapsWith e (some (.Subscript o i pos')) pos.line X.env = pure false := by rfl) :
    PS X (.Assign [.Subscript o i pos'] e pos) (LS k W (sPut me mo mi)) := (ps_dput hu ho hi he hs).cq fun _ _ _ h => ls_put h
end
/-! ### list methods that write -/
def mAppend (mo me : ME) : ME := fun F C => bnd (mo F C) fun o C1 => if (vL o C1).isSome = true then bnd (me F C1) fun v C2 => match cL o C2 with
    | some (i, ds) => if szN (ds.length + 1) = true then match wr F.fl i (.lst (ds ++ [v])) C2 with
      | some C3 => .ok .non C3
      | none => .stuck
      else .stuck
    | none => .stuck
  else .stuck
def mInsert (mo mi me : ME) : ME := fun F C => bnd (mo F C) fun o C1 => if (vL o C1).isSome = true then bnd (mi F C1) fun x C2 => bnd (me F C2) fun v C3 => match x, cL o C3 with
    | .int n, some (i, ds) => if szN (ds.length + 1) = true ∧ 0 ≤ n ∧ n < 2 ^ 63 then match wr F.fl i (.lst (ds.take n.toNat ++ [v] ++ ds.drop n.toNat)) C3 with
      | some C4 => .ok .non C4
      | none => .stuck
      else .stuck
    | _, _ => .stuck
  else .stuck
section
variable {X : Cx} {k : Cn} {W : WX} {σ : L2.St} {H : Hp} {Q : VK}
theorem tyL {A : Nat → Addr} {C : Store} {v : V} {d : D} (st : StOk k A C H) (r : Rep k A C H v d) (h : (vL d C).isSome = true) : tyV k.K "list" v H := by
  obtain ⟨xs, e⟩ := Option.isSome_iff_exists.mp h
  obtain ⟨a, vs, rfl, ha, _⟩ := vL_at st r e
  exact Or.inl ⟨rfl, vs, .inl (.inl ha)⟩
theorem le_append {mo me : ME} (h : LE k W (mAppend mo me) σ H Q) : tBM k.K "list" rAppend (LE k W mo) (tCons (LE k W me) tNil) σ H Q := by
  obtain ⟨A, F, C, s, h⟩ := h
  refine ⟨A, F, C, s, (Aft.bnd (rel := RepD k) h).mono fun dO C1 A1 H1 o p1 st1 ro h1 => ?_⟩
  have s1 := s.step p1 st1
  split at h1
  · rename_i hs
    refine ⟨tyL st1 ro hs, A1, F, C1, s1, (Aft.bnd (rel := RepD k) h1).mono fun dv C2 A2 H2 v p2 st2 rv h2 => ?_⟩
    cases ec : cL dO C2 with
    | none => simp only [ec] at h2; exact h2.elim
    | some q =>
      obtain ⟨i, ds⟩ := q
      simp only [ec] at h2
      obtain ⟨rfl, rfl, hi, vs, hv, rvs⟩ := cL_at st2 (p2.rep _ _ ro) ec
      split at h2
      · rename_i hz
        cases ew : wr F.fl i (.lst (ds ++ [dv])) C2 with
        | none => simp only [ew] at h2; exact h2.elim
        | some C3 =>
          simp only [ew] at h2
          obtain ⟨q1, q2⟩ := write_L st2 hi (rvs.append (.cons rv .nil)) ew
          exact ⟨A2 i, vs, v, rfl, rfl, hv, by have := szN_le hz; rw [rvs.length]; omega, h2 A2 _ .non q1 q2 .non⟩
      · exact h2.elim
  · exact h1.elim
theorem le_insert {mo mi me : ME} (h : LE k W (mInsert mo mi me) σ H Q) : tBM k.K "list" (fun x vs H Q => ∃ (l : Addr) (xs : List V) (i : Int) (y : V), x = .ref l ∧ vs = [.int i, y] ∧ H l = some (.lst xs) ∧ xs.length < sizeLine ∧ 0 ≤ i ∧ i < 2 ^ 63 ∧
    Q .non (upd H l (.lst (xs.take i.toNat ++ [y] ++ xs.drop i.toNat)))) (LE k W mo) (tCons (LE k W mi) (tCons (LE k W me) tNil)) σ H Q := by
  obtain ⟨A, F, C, s, h⟩ := h
  refine ⟨A, F, C, s, (Aft.bnd (rel := RepD k) h).mono fun dO C1 A1 H1 o p1 st1 ro h1 => ?_⟩
  have s1 := s.step p1 st1
  split at h1
  · rename_i hs
    refine ⟨tyL st1 ro hs, A1, F, C1, s1, (Aft.bnd (rel := RepD k) h1).mono fun dx C2 A2 H2 x p2 st2 rx h2 => ?_⟩
    have s2 := s1.step p2 st2
    refine ⟨A2, F, C2, s2, (Aft.bnd (rel := RepD k) h2).mono fun dv C3 A3 H3 v p3 st3 rv h3 => ?_⟩
    cases rx with
    | int n =>
      cases ec : cL dO C3 with
      | none => simp only [ec] at h3; exact h3.elim
      | some q =>
        obtain ⟨i, ds⟩ := q
        simp only [ec] at h3
        obtain ⟨rfl, rfl, hi, vs, hv, rvs⟩ := cL_at st3 (p3.rep _ _ (p2.rep _ _ ro)) ec
        split at h3
        · rename_i hz
          obtain ⟨hz, hn0, hn1⟩ := hz
          cases ew : wr F.fl i (.lst (ds.take n.toNat ++ [dv] ++ ds.drop n.toNat)) C3 with
          | none => simp only [ew] at h3; exact h3.elim
          | some C4 =>
            simp only [ew] at h3
            obtain ⟨q1, q2⟩ := write_L st3 hi (((rvs.take n.toNat).append (.cons rv .nil)).append (rvs.drop n.toNat)) ew
            exact ⟨A3 i, vs, n, v, rfl, rfl, hv, by have := szN_le hz; rw [rvs.length]; omega, hn0, hn1, h3 A3 _ .non q1 q2 .non⟩
        · exact h3.elim
    | _ => exact h3.elim
  · exact h1.elim
variable {o e e2 : Expr} {apos cpos : Pos} {mo me mi : ME}
theorem de_append (hK : X.K = k.K := by rfl) (ho : PE X o (LE k W mo)) (he : PE X e (LE k W me)) (hs : starEach [e] X.env = (false, eval e X.env) :: starEach [] X.env := by rfl) (hbase : attributeBase o "append" X.env (eval o X.env) = eval o X.env := by rfl)
    (hfew : ((backTo cpos (starEach [e] X.env)).all (fun x => !x.1) && (backToKw cpos (keywordEach [] X.env)).all (fun x => x.1.isSome) && decide ([e].length + ([] : List Keyword).length + (if ([] : List Keyword).isEmpty then 0 else 1) < 30)) = true := by rfl)
    (hline : (apos.endLine == cpos.line) = true := by rfl) (hplain : (backTo cpos (starEach [] X.env)).any (·.1) = false := by rfl) : PE X (.Call (.Attribute o "append" apos) [e] [] cpos) (LE k W (mAppend mo me)) :=
  (pe_bm PySem.F.plainAttrs_list PySem.F.slot_list_append PySem.F.type_list_append mt_append ho (pa_cons he pa_nil hs) hbase hfew hline hs hplain).cq fun _ _ _ h => by
    rw [hK]
    exact le_append h
theorem de_insert (hK : X.K = k.K := by rfl) (ho : PE X o (LE k W mo)) (hi : PE X e (LE k W mi)) (he : PE X e2 (LE k W me)) (hs : starEach [e, e2] X.env = (false, eval e X.env) :: starEach [e2] X.env := by rfl) (hs2 : starEach [e2] X.env = (false, eval e2 X.env) :: starEach [] X.env := by rfl) (hbase : attributeBase o "insert" X.env (eval o X.env) = eval o X.env := by rfl)
    (hfew : ((backTo cpos (starEach [e, e2] X.env)).all (fun x => !x.1) && (backToKw cpos (keywordEach [] X.env)).all (fun x => x.1.isSome) && decide ([e, e2].length + ([] : List Keyword).length + (if ([] : List Keyword).isEmpty then 0 else 1) < 30)) = true := by rfl)
    (hline : (apos.endLine == cpos.line) = true := by rfl) (hplain : (backTo cpos (starEach [e2] X.env)).any (·.1) = false := by rfl) : PE X (.Call (.Attribute o "insert" apos) [e, e2] [] cpos) (LE k W (mInsert mo mi me)) :=
  (pe_bm PySem.F.plainAttrs_list PySem.F.slot_list_insert PySem.F.type_list_insert mt_insert ho (pa_cons hi (pa_cons he pa_nil hs2) hs) hbase hfew hline hs hplain).cq fun _ _ _ h => by
    rw [hK]
    exact le_insert h
end
end CT
set_option maxHeartbeats 4000000
/-! DL6: targets, loops, comprehensions over data. -/
namespace CT
open PySem L2
/-! ### targets of names -/
def Tgt.T (K : PySem.W.Frag) : Tgt → TG
  | .nm i => gName i
  | .tp is => gTup K is.length (gsN is)
  | .np is l => gTup K 2 (gCons (gTup K is.length (gsN is)) (gCons (gName l) gNil))
theorem wipe_get {σ : L2.St} {j : Nat} : ∀ {vs : List Nat}, (wipe σ vs)[j]? = if j ∈ vs then (if j < σ.length then some none else none) else σ[j]?
  | [] => by simp [wipe]
  | v :: vs => by
    unfold wipe
    have ih := wipe_get (σ := σ) (j := j) (vs := vs)
    by_cases e : v = j
    · subst e
      by_cases hl : v < σ.length
      · rw [List.getElem?_set_self (by rw [wipe_length]; exact hl), if_pos (by simp), if_pos hl]
      · rw [List.getElem?_eq_none (by rw [List.length_set, wipe_length]; omega), if_pos (by simp), if_neg hl]
    · rw [List.getElem?_set_ne e, ih]
      by_cases hj : j ∈ vs
      · rw [if_pos hj, if_pos (List.mem_cons_of_mem _ hj)]
      · rw [if_neg hj, if_neg (by simp; exact ⟨fun z => e z.symm, hj⟩)]
theorem wipe_set {σ : L2.St} {i : Nat} {x : Option V} {vs : List Nat} (h : i ∈ vs) : wipe (σ.set i x) vs = wipe σ vs := by
  apply List.ext_getElem?
  intro j
  rw [wipe_get, wipe_get, List.length_set]
  by_cases hj : j ∈ vs
  · rw [if_pos hj, if_pos hj]
  · rw [if_neg hj, if_neg hj, List.getElem?_set_ne (fun (e : i = j) => hj (by rw [← e]; exact h))]
theorem wipe_wipe {σ : L2.St} {vs : List Nat} : wipe (wipe σ vs) vs = wipe σ vs := by
  apply List.ext_getElem?
  intro j
  rw [wipe_get, wipe_length]
  by_cases hj : j ∈ vs
  · rw [if_pos hj, wipe_get, if_pos hj]
  · rw [if_neg hj]
section
variable {k : Cn} {A : Nat → Addr} {F : Fr} {C : Store} {σ : L2.St} {H : Hp} {fl : Nat} {sl : List (Option D)}
theorem SR.wipe (s : SR k A ⟨fl, sl⟩ C σ H) : ∀ vs : List Nat, SR k A ⟨fl, wipeD sl vs⟩ C (L2.wipe σ vs) H
  | [] => s
  | v :: vs => (SR.wipe s vs).unset
theorem gsN_of2 {Q : L2.St → Hp → Prop} {vs0 : List Nat} : ∀ {is : List Nat} {vs : List V} {ds : List D} {sl sl' : List (Option D)} {σ : L2.St}, SR k A ⟨fl, sl⟩ C σ H → RepL k A C H vs ds → setAll is ds sl = some sl' →
    (∀ σ', SR k A ⟨fl, sl'⟩ C σ' H → ((∀ i ∈ is, i ∈ vs0) → L2.wipe σ' vs0 = L2.wipe σ vs0) → Q σ' H) → gsN is vs σ H Q
  | [], _, _, _, _, _, s, .nil, e, q => by
    cases e
    exact ⟨rfl, q _ s fun _ => rfl⟩
  | i :: is, _, _, _, _, _, s, .cons r t, e, q => by
    refine ⟨_, _, rfl, gsN_of2 (vs0 := vs0) (is := is) (s.set (i := i) r) t e fun σ' s' w => q σ' s' fun hi => ?_⟩
    rw [w fun j hj => hi j (List.mem_cons_of_mem _ hj)]
    exact wipe_set (hi i (List.mem_cons_self ..))
  | [], _, _, _, _, _, s, .cons r t, e, q => by cases e
  | i :: is, _, _, _, _, _, s, .nil, e, q => by cases e
theorem Tgt.of {t : Tgt} {v : V} {d : D} {sl' : List (Option D)} {Q : L2.St → Hp → Prop} {vs0 : List Nat} (s : SR k A ⟨fl, sl⟩ C σ H) (r : Rep k A C H v d) (e : t.M d sl = some sl')
    (q : ∀ σ', SR k A ⟨fl, sl'⟩ C σ' H → ((∀ i ∈ t.slots, i ∈ vs0) → L2.wipe σ' vs0 = L2.wipe σ vs0) → Q σ' H) : t.T k.K v σ H Q := by
  cases t with
  | nm i =>
    cases e
    exact q _ (s.set r) fun hi => wipe_set (hi i (by simp [Tgt.slots]))
  | tp is =>
    simp only [Tgt.M, gT] at e
    cases ev : vT d with
    | none => rw [ev] at e; cases e
    | some ds =>
      rw [ev] at e
      obtain ⟨a, vs, rfl, hs, rl⟩ := vT_at r ev
      exact ⟨a, vs, rfl, hs, by rw [rl.length, setAll_len e], gsN_of2 (vs0 := vs0) s rl e q⟩
  | np is l =>
    simp only [Tgt.M, gNP] at e
    split at e
    · rename_i x y ev
      obtain ⟨a, vs, rfl, hs, rl⟩ := vT_at r ev
      simp only [gT, gN, Option.bind_eq_some_iff] at e
      obtain ⟨sl1, ⟨ds, ev2, e1⟩, e2⟩ := e
      cases e2
      cases rl with
      | cons r1 t1 =>
        cases t1 with
        | cons r2 t2 =>
          cases t2 with
          | nil =>
            obtain ⟨a2, vs2, rfl, hs2, rl2⟩ := vT_at r1 ev2
            refine ⟨a, _, rfl, hs, rfl, _, _, rfl, ⟨a2, vs2, rfl, hs2, by rw [rl2.length, setAll_len e1], gsN_of2 (vs0 := vs0) s rl2 e1 fun σ' s' w => ?_⟩⟩
            refine ⟨_, _, rfl, rfl, q _ (s'.set r2) fun hi => ?_⟩
            rw [← w fun i h => hi i (List.mem_cons_of_mem _ h)]
            exact wipe_set (hi l (List.mem_cons_self ..))
    · cases e
end
section
variable {X : Cx} {k : Cn} {W : WX} {E : Ends} {σ : L2.St} {H : Hp}
theorem tg_nm {i : Nat} {x : Str} {pos : Pos} (hN : X.N.Nodup) (hi : X.N[i]? = some x) (hx : Loc X.env.scope x) (hf : X.fn x = true ∨ X.env.scope.names.lookup x = some .local := by first | exact .inl rfl | exact .inr rfl | assumption) : PG X (.Name x pos) (Tgt.T k.K (.nm i)) := pg_name hN hi hx hf
theorem tg_tp {es : List Expr} {kk : Nat} {pos : Pos} (is : List Nat) (hK : X.K = k.K) (hc : X.calm = true) (h : PGs X es (gsN is)) (hn : (assignEach es X.env).length = is.length := by rfl) (hst : (assignEach es X.env).findIdx? (·.1) = none := by rfl) :
    PG X (.Tuple es kk pos) (Tgt.T k.K (.tp is)) := by
  have h' := pg_tup (k := kk) (pos := pos) hc h hn hst
  rw [hK] at h'
  exact h'
theorem ls_asg2 {m : ME} {t : Tgt} (h : LS k W (sAsg m t.M) E σ H) : tAsg (LE k W m) (t.T k.K) E σ H := by
  obtain ⟨A, F, C, s, h⟩ := h
  refine ⟨A, F, C, s, (AftS.bnd (rel := RepD k) s h).mono fun d C1 A1 H1 v p st r h1 => ?_⟩
  cases e : t.M d F.sl with
  | none => rw [e] at h1; exact h1.elim
  | some sl =>
    rw [e] at h1
    exact Tgt.of (vs0 := []) (s.step p st) r e fun σ' s' _ => h1 A1 σ' H1 Stp.refl s'
theorem ds_asgT {tg e : Expr} {pos : Pos} {m : ME} {t : Tgt} (he : PE X e (LE k W m)) (hg : PG X tg (t.T k.K)) (hs : swapsWithSole [tg] e pos.line X.env = pure false := by rfl) (hw : swappedStores [tg] e X.env = pure none := by rfl)
    (h1 : (assignEach [tg] X.env).map (·.2) = [assign tg X.env] := by rfl) : PS X (.Assign [tg] e pos) (LS k W (sAsg m t.M)) := (ps_asg he hg hs hw h1).cq fun _ _ _ h => ls_asg2 h
end
/-! ### what is walked -/
def ItOk (k : Cn) (fl : Nat) (J : It) (it : ItD) (A : Nat → Addr) (C : Store) (H : Hp) : Prop := ∀ A' C' H', Stp k fl A C H A' C' H' → StOk k A' C' H' →
  (∀ j d, j < it.n → it.item j C' = some d → J.go j H' ∧ ∀ x H'', J.yld j H' x H'' → ∃ A'', Stp k fl A' C' H' A'' C' H'' ∧ StOk k A'' C' H'' ∧ Rep k A'' C' H'' x d) ∧ (it.fin C' = true → J.stop it.n H')
def LI (k : Cn) (W : WX) (m : MI) : TI := fun σ H Rr => ∃ A F C, SR k A F C σ H ∧ Aft k F.fl A C H (fun A C H (J : It) (it : ItD) => ItOk k F.fl J it A C H) (m F C) (fun _ _ _ H' J => Rr J H') (fun c d H' => W c d σ H')
/-! ### for -/
section
variable {X : Cx} {k : Cn} {W : WX} {E : Ends} {σ : L2.St} {H : Hp}
theorem ls_for {mi : MI} {t : Tgt} {body : MS} (h : LS k W (sFor mi t.M body) E σ H) : tFor (LI k W mi) (t.T k.K) (LS k W body) E σ H := by
  obtain ⟨A, F, C, s, h⟩ := h
  refine ⟨A, F, C, s, (AftS.bnd (rel := fun A C H (J : It) (it : ItD) => ItOk k F.fl J it A C H) s h).mono fun it C1 A1 H1 J p1 st1 ok h1 => ?_⟩
  refine ⟨fun i m σ' H' => ∃ A' C' sl, m = it.n - i ∧ i ≤ it.n ∧ Stp k F.fl A1 C1 H1 A' C' H' ∧ SR k A' ⟨F.fl, sl⟩ C' σ' H' ∧ AftS k W F.fl A' C' H' (loopN it t.M body F.fl (it.n - i) i sl C') E,
    ⟨it.n, A1, C1, F.sl, rfl, Nat.zero_le _, Stp.refl, s.step p1 st1, h1⟩, ?_⟩
  rintro i m σ' H' ⟨A', C', sl, rfl, hi, p, s', h'⟩
  obtain ⟨o1, o2⟩ := ok A' C' H' p s'.st
  cases er : it.n - i with
  | zero =>
    rw [er] at h'
    unfold loopN at h'
    have e : i = it.n := by omega
    split at h'
    · rename_i hf
      subst e
      exact .inl ⟨o2 hf, h' A' σ' H' Stp.refl s'⟩
    · exact h'.elim
  | succ r =>
    rw [er] at h'
    unfold loopN at h'
    have hlt : i < it.n := by omega
    cases ei : it.item i C' with
    | none => simp only [ei] at h'; exact h'.elim
    | some d =>
      simp only [ei] at h'
      obtain ⟨g1, g2⟩ := o1 i d hlt ei
      cases eg : t.M d sl with
      | none => simp only [eg] at h'; exact h'.elim
      | some sl1 =>
        simp only [eg] at h'
        refine .inr ⟨g1, fun σ2 H2 => ∃ A2 C2 sl2, i + 1 ≤ it.n ∧ Stp k F.fl A1 C1 H1 A2 C2 H2 ∧ SR k A2 ⟨F.fl, sl2⟩ C2 σ2 H2 ∧ AftS k W F.fl A2 C2 H2 (loopN it t.M body F.fl (it.n - (i + 1)) (i + 1) sl2 C2) E,
          fun σ2 H2 ⟨A2, C2, sl2, a, b, c, d⟩ => ⟨it.n - (i + 1), by omega, A2, C2, sl2, rfl, a, b, c, d⟩, fun x H'' y => ?_⟩
        obtain ⟨A'', p2, st2, rx⟩ := g2 x H'' y
        have s2 := s'.step p2 st2
        refine Tgt.of (vs0 := []) s2 rx eg fun σ2 s3 _ => ⟨A'', ⟨F.fl, sl1⟩, C', s3, ?_⟩
        have hr : it.n - (i + 1) = r := by omega
        cases eb : body ⟨F.fl, sl1⟩ C' with
        | nx sl2 C2 =>
          simp only [eb] at h'
          intro A3 σ3 H3 p3 s4
          have pp := p2.trans p3
          exact ⟨A3, C2, sl2, by omega, p.trans pp, s4, by rw [hr]; exact h'.shift pp⟩
        | ct sl2 C2 =>
          simp only [eb] at h'
          intro A3 σ3 H3 p3 s4
          have pp := p2.trans p3
          exact ⟨A3, C2, sl2, by omega, p.trans pp, s4, by rw [hr]; exact h'.shift pp⟩
        | bk sl2 C2 =>
          simp only [eb] at h'
          exact fun A3 σ3 H3 p3 s4 => h' A3 σ3 H3 (p2.trans p3) s4
        | rt d C2 =>
          simp only [eb] at h'
          exact fun A3 H3 v p3 st r => h' A3 H3 v (p2.trans p3) st r
        | xc e sl2 C2 =>
          simp only [eb] at h'
          exact fun A3 σ3 H3 dd vs p3 s4 x l r => h' A3 σ3 H3 dd vs (p2.trans p3) s4 x l r
        | stuck =>
          simp only [eb] at h'
          exact h'.elim
theorem _root_.L2.PI.cq {X : Cx} {tg e : Expr} {t t' : TI} (h : PI X tg e t) (c : ∀ σ H R, t' σ H R → t σ H R) : PI X tg e t' := ⟨fun pins s σ H R I q => h.run pins s σ H R I (c σ H R q)⟩
end
/-! ### list comprehensions -/
abbrev WF : WX := fun _ _ _ _ => False
section
variable {X : Cx} {k : Cn} {W : WX} {σ : L2.St} {H : Hp} {Q : VK}
/-- the list cell becomes plain data -/
theorem fz_end {fl n : Nat} {A A' : Nat → Addr} {C C' : Store} {H H' : Hp} {p : Addr} {acc : List D} (hn : n = C.length) (st0 : StOk k A C H) (st : StOk k A' C' H') (s : Stp k fl A C H A' C' H') (hf : fl ≤ n) (hl : n ≤ C'.length) (low : LowC n C') (ha : A' n = p) (hc : C'[n]? = some (some (.lst acc))) (hcb : cbL n acc = true) :
    Stp k fl A C H A' (C'.take n) H' ∧ StOk k A' (C'.take n) H' ∧ Rep k A' (C'.take n) H' (.ref p) (.lst acc) := by
  obtain ⟨vs, hv, rv⟩ := st.at_ n _ hc
  have tl : (C'.take n).length = n := by rw [List.length_take]; omega
  refine ⟨⟨fun v d r => (s.rep v d r).cut hl (by rw [hn]; exact r.cb), by rw [tl, hn]; exact Nat.le_refl _, fun f h1 h2 l => low_take (s.low f h1 h2 l)⟩, st.take hl low, ?_⟩
  rw [← ha]
  refine .lst (fun l => ?_) hv (rv.cut hl hcb)
  obtain ⟨i, c, e, z⟩ := l
  by_cases hi : i < n
  · rw [List.getElem?_take_of_lt hi] at e
    exact absurd (st.inj i n _ _ e hc z) (Nat.ne_of_lt hi)
  · rw [List.getElem?_eq_none (by rw [tl]; omega)] at e
    cases e
/-- the new list: at D, the cell n -/
theorem cell_at {A A' : Nat → Addr} {C C' : Store} {H H' : Hp} {fl n : Nat} {p : Addr} (s : Stp k fl A C H A' C' H') (h : A n = p) (hn : n < C.length) : A' n = p ∧ n < C'.length := by
  have r : Rep k A C H (.ref (A n)) (.cell n) := .cell hn
  have r' := s.rep _ _ r
  rw [h] at r'
  have inv : ∀ {v : V} {d : D}, Rep k A' C' H' v d → v = .ref p → d = .cell n → A' n = p ∧ n < C'.length := by
    intro v d r hv hd
    cases r with
    | cell hi => cases hd; cases hv; exact ⟨rfl, hi⟩
    | _ => cases hd
  exact inv r' rfl rfl
theorem push_L {A : Nat → Addr} {C : Store} {H : Hp} {fl n : Nat} {p : Addr} {acc : List D} {y : D} {v : V} {ws : List V} (hf : fl ≤ n) (st : StOk k A C H) (ha : A n = p) (hc : C[n]? = some (some (.lst acc))) (hw : H p = some (.lst ws)) (r : Rep k A C H v y) :
    Stp k fl A C H A (C.set n (some (.lst (acc ++ [y])))) (upd H p (.lst (ws ++ [v]))) ∧ StOk k A (C.set n (some (.lst (acc ++ [y])))) (upd H p (.lst (ws ++ [v]))) := by
  obtain ⟨vs, hv, rv⟩ := st.at_ n _ hc
  rw [ha, hw] at hv
  cases hv
  have q : Kp A C H A (C.set n (some (.lst (acc ++ [y])))) (upd H (A n) (.lst (ws ++ [v]))) := kp_write hc
  rw [← ha]
  exact ⟨q.stp fun f h1 h2 l => low_set (fl := fl) (fun hi => absurd hi (Nat.not_lt.mpr hf)) h1 l, st.write hc ⟨_, upd_same, (rv.append (.cons r .nil)).kp q⟩⟩
theorem bn0_inv {fl : Nat} {A : Nat → Addr} {C : Store} {H : Hp} {m : R Unit} {f : Unit → Store → R D} {Q : D → Store → (Nat → Addr) → Hp → V → Prop} {W' : XK} (h : Aft k fl A C H (RepD k) (CT.bn0 m f) Q W') : ∃ C3, m = .ok () C3 ∧ Aft k fl A C H (RepD k) (f () C3) Q W' := by
  cases m with
  | ok d C' => exact ⟨C', rfl, h⟩
  | exc e C' => exact h.elim
  | stuck => exact h.elim
theorem Stp.less {fl n : Nat} {A A' : Nat → Addr} {C C' : Store} {H H' : Hp} (p : Stp k n A C H A' C' H') (h : fl ≤ n) : Stp k fl A C H A' C' H' := ⟨p.rep, p.len, fun f hf => p.low f (Nat.le_trans hf h)⟩
theorem SR.re {fl n : Nat} {A A' : Nat → Addr} {F : Fr} {C C' : Store} {H H' : Hp} (s : SR k A F C σ H) (p : Stp k fl A C H A' C' H') (st : StOk k A' C' H') (low : LowC n C') (hn : n ≤ C'.length) : SR k A' ⟨n, F.sl⟩ C' σ H' :=
  ⟨st, low, hn, s.len, fun i d e => let ⟨v, h1, h2⟩ := s.sl i d e; ⟨v, h1, p.rep v d h2⟩⟩
theorem le_lcEnd {own : Bool} {fl : Nat} {A A1 A' : Nat → Addr} {C C1 C' : Store} {H H1 H' : Hp} {Dl : Addr} {W' : XK} (hf : fl ≤ C1.length) (p : Stp k fl A C H A1 C1 H1) (st1 : StOk k A1 C1 H1) (p' : Stp k fl A1 C1 H1 A' C' H') (low : LowC C1.length C') (st' : StOk k A' C' H') (ha : A' C1.length = Dl) (hl : C1.length < C'.length)
    (h : Aft k fl A C H (RepD k) (lcEnd own C1.length C') (fun _ _ _ H' v => Q v H') W') : Q (.ref Dl) H' := by
  unfold lcEnd at h
  cases own with
  | true =>
    have r : Rep k A' C' H' (.ref (A' C1.length)) (.cell C1.length) := .cell hl
    rw [ha] at r
    exact h A' H' _ (p.trans p') st' r
  | false =>
    split at h
    · rename_i z; cases z
    · split at h
      · rename_i acc hc
        split at h
        · rename_i hcb
          obtain ⟨q1, q2, q3⟩ := fz_end (k := k) (fl := fl) rfl st1 st' p' hf (Nat.le_of_lt hl) low ha hc hcb
          exact h A' H' _ (p.trans q1) q2 q3
        · exact h.elim
      · exact h.elim
theorem le_lc {own : Bool} {mi : MI} {t : Tgt} {tt : MT} {te : ME} {vs : List Nat} (hv : ∀ i ∈ t.slots, i ∈ vs) (h : LE k W (mLc own mi t.M tt te vs) σ H Q) : tLc (LI k W mi) (t.T k.K) (LT k WF tt) (LE k WF te) vs σ H Q := by
  obtain ⟨A, F, C, s, h⟩ := h
  refine ⟨A, F, C, s, (Aft.bnd (rel := fun A C H (J : It) (it : ItD) => ItOk k F.fl J it A C H) h).mono fun it C1 A1 H1 J p1 st1 ok h1 => ?_⟩
  have s1 := s.step p1 st1
  intro Dl hD
  have q0 : Kp A1 C1 H1 (ext A1 C1.length Dl) (C1 ++ [some (.lst [])]) (upd H1 Dl (.lst [])) := kp_cell (k := k) st1 hD
  have p2 : Stp k C1.length A1 C1 H1 (ext A1 C1.length Dl) (C1 ++ [some (.lst [])]) (upd H1 Dl (.lst [])) := q0.stp fun f h1 h2 l => low_app h2 l
  have p2' : Stp k F.fl A1 C1 H1 (ext A1 C1.length Dl) (C1 ++ [some (.lst [])]) (upd H1 Dl (.lst [])) := ⟨p2.rep, p2.len, fun f hf => p2.low f (Nat.le_trans hf s1.fl)⟩
  have st2 : StOk k (ext A1 C1.length Dl) (C1 ++ [some (.lst [])]) (upd H1 Dl (.lst [])) := st1.cell hD ⟨[], upd_same, .nil⟩
  have n1 : C1.length < (C1 ++ [some (Cell.lst [])]).length := by simp
  have low1 : LowC C1.length (C1 ++ [some (Cell.lst [])]) := p2.low _ (Nat.le_refl _) (Nat.le_refl _) st1.low
  obtain ⟨C3, e3, h3⟩ := bn0_inv h1
  refine ⟨fun i m H' => ∃ A' C', m = it.n - i ∧ i ≤ it.n ∧ Stp k C1.length (ext A1 C1.length Dl) (C1 ++ [some (.lst [])]) (upd H1 Dl (.lst [])) A' C' H' ∧ StOk k A' C' H' ∧ lcN it t.M tt te C1.length (wipeD F.sl vs) (it.n - i) i C' = .ok () C3,
    ⟨it.n, _, _, rfl, Nat.zero_le _, Stp.refl, st2, e3⟩, ?_⟩
  rintro i m H' ⟨A', C', rfl, hi, p, st', h'⟩
  obtain ⟨ha', hl'⟩ := cell_at p (ext_at A1 C1.length Dl) n1
  have low' : LowC C1.length C' := p.low _ (Nat.le_refl _) (Nat.le_of_lt n1) low1
  have pF : Stp k F.fl (ext A1 C1.length Dl) (C1 ++ [some (.lst [])]) (upd H1 Dl (.lst [])) A' C' H' := p.less s1.fl
  obtain ⟨o1, o2⟩ := ok A' C' H' (p2'.trans pF) st'
  cases er : it.n - i with
  | zero =>
    rw [er] at h'
    unfold lcN at h'
    have e : i = it.n := by omega
    split at h'
    · rename_i hf
      cases h'
      subst e
      exact .inl ⟨o2 hf, le_lcEnd s1.fl Stp.refl st1 (p2'.trans pF) low' st' ha' hl' h3⟩
    · cases h'
  | succ r =>
    rw [er] at h'
    unfold lcN at h'
    have hlt : i < it.n := by omega
    have hr : it.n - (i + 1) = r := by omega
    cases ei : it.item i C' with
    | none => simp only [ei] at h'; cases h'
    | some d =>
      simp only [ei] at h'
      obtain ⟨g1, g2⟩ := o1 i d hlt ei
      cases eg : t.M d (wipeD F.sl vs) with
      | none => simp only [eg] at h'; cases h'
      | some sl1 =>
        simp only [eg] at h'
        refine .inr ⟨g1, fun H4 => ∃ A4 C4, Stp k C1.length (ext A1 C1.length Dl) (C1 ++ [some (.lst [])]) (upd H1 Dl (.lst [])) A4 C4 H4 ∧ StOk k A4 C4 H4 ∧ lcN it t.M tt te C1.length (wipeD F.sl vs) (it.n - (i + 1)) (i + 1) C4 = .ok () C3,
          fun H4 ⟨A4, C4, a, b, c⟩ => ⟨it.n - (i + 1), by omega, A4, C4, rfl, by omega, a, b, c⟩, fun x H'' y => ?_⟩
        obtain ⟨A'', py, sty, rx⟩ := g2 x H'' y
        have py' : Stp k C1.length A' C' H' A'' C' H'' := ⟨py.rep, py.len, fun f _ _ h => h⟩
        have sr : SR k A'' ⟨C1.length, wipeD F.sl vs⟩ C' (L2.wipe σ vs) H'' := ((s1.re (p2.trans (p.trans py')) sty low' (Nat.le_of_lt hl')).wipe vs)
        refine Tgt.of (vs0 := vs) sr rx eg fun σ2 s2 w2 => ⟨by rw [w2 hv, wipe_wipe], A'', ⟨C1.length, sl1⟩, C', s2, ?_⟩
        cases et : tt ⟨C1.length, sl1⟩ C' with
        | ok b C5 =>
          rw [et] at h'
          simp only [bn0_ok] at h'
          intro A5 H5 v5 p5 st5 e5
          have e5 : v5 = b := e5
          subst e5
          have s5 := s2.step p5 st5
          cases v5 with
          | true =>
            rw [if_pos rfl] at h'
            refine iteT ⟨A5, ⟨C1.length, sl1⟩, C5, s5, ?_⟩
            cases ee : te ⟨C1.length, sl1⟩ C5 with
            | ok yd C6 =>
              rw [ee] at h'
              simp only [bn0_ok] at h'
              intro A6 H6 v6 p6 st6 r6
              have pall := (p.trans py').trans (p5.trans p6)
              obtain ⟨ha6, hl6⟩ := cell_at pall (ext_at A1 C1.length Dl) n1
              split at h'
              · rename_i acc hc
                split at h'
                · rename_i hz
                  obtain ⟨ws, hw, rw6⟩ := st6.at_ _ _ hc
                  rw [ha6] at hw
                  obtain ⟨q1, q2⟩ := push_L (k := k) (fl := C1.length) (Nat.le_refl _) st6 ha6 hc hw r6
                  refine ⟨ws, hw, by have := szN_le hz; rw [rw6.length]; omega, A6, _, pall.trans q1, q2, ?_⟩
                  rw [hr]
                  exact h'
                · cases h'
              · cases h'
            | exc e C6 => rw [ee] at h'; cases h'
            | stuck => rw [ee] at h'; cases h'
          | false =>
            rw [if_neg (by decide)] at h'
            refine iteF ⟨A5, C5, (p.trans py').trans p5, st5, ?_⟩
            rw [hr]
            exact h'
        | exc e C5 => rw [et] at h'; cases h'
        | stuck => rw [et] at h'; cases h'
theorem de_lc {elt tg iter : Expr} {ifs : List Expr} {scope : Scope} {own : List (Str × Nat)} {pos : Pos} {mi : MI} {t : Tgt} {tt : MT} {te : ME} (ow : Bool) (hK : X.K = k.K) (hc : X.calm = true) (hN : X.N.Nodup) (hi : PI X tg iter (LI k W mi)) (ok : BlkOk X.N X.env.scope scope own) (hv : ∀ i ∈ t.slots, i ∈ own.map (·.2))
    (hg : ∀ (s : Shared) (H : Hp) (C : Addr) (cl : List (Str × Addr)) (fp : List Addr), PG (X.blk s H scope (compEnvC scope cl C X.env) fp) tg (t.T k.K)) (ht : ∀ (s : Shared) (H : Hp) (C : Addr) (cl : List (Str × Addr)) (fp : List Addr), PTs (X.blk s H scope (compEnvC scope cl C X.env) fp) ifs (LT k WF tt))
    (he : ∀ (s : Shared) (H : Hp) (C : Addr) (cl : List (Str × Addr)) (fp : List Addr), PE (X.blk s H scope (compEnvC scope cl C X.env) fp) elt (LE k WF te)) (hs : ∀ x, foldedSetIterable iter X.env x = pure x := by intro _; rfl) :
    PE X (.ListComp elt [⟨tg, iter, ifs, 0⟩] scope pos) (LE k W (mLc ow mi t.M tt te (own.map (·.2)))) := (pe_lc hc hN hi ok hg ht he hs).cq fun _ _ _ h => le_lc hv h
end
end CT
set_option maxHeartbeats 4000000
/-! DL7: what is walked; defs. -/
namespace CT
open PySem L2
section
variable {X : Cx} {k : Cn} {W : WX} {E : Ends} {σ : L2.St} {H : Hp}
theorem ds_for {tg iter : Expr} {body : List Stmt} {pos : Pos} {mi : MI} {t : Tgt} {mb : MS} (hp : PassesOwn (model X.prog X.w) X.A X.env X.xe) (hc : X.calm = true) (hi : PI X tg iter (LI k W mi)) (hg : PG X tg (t.T k.K)) (hb : PSs X body (LS k W mb))
    (hs : ∀ x, foldedSetIterable iter X.env x = pure x := by intro _; rfl) : PS X (.For tg iter body [] pos) (LS k W (sFor mi t.M mb)) := (ps_for hp hc hi hg hb hs).cq fun _ _ _ h => ls_for h
/-! ### lists and tuples -/
def iSeq (K : PySem.W.Frag) (tl : TE) : TI := fun σ H R => tl σ H fun x H1 => ∃ a, x = .ref a ∧ (((∃ xs, SqL K H1 a xs) ∧ R (Itl K a) H1) ∨ ((∃ xs, SqT K H1 a xs) ∧ R (Itt K a) H1))
theorem pi_seq {tg l : Expr} {tl : TE} (hl : PE X l tl) : PI X tg l (iSeq X.K tl) := by
  refine ⟨fun pins s σ H R I h => ?_⟩
  refine thn (hl.run pins s σ H _ I h) fun v s1 ⟨x, H1, I1, r1, q1⟩ => ?_
  obtain ⟨a, e, ⟨⟨xs, hq⟩, q⟩ | ⟨⟨xs, hq⟩, q⟩⟩ := q1
  · subst e
    cases r1
    obtain ⟨its, rv, p, hz⟩ := I1.list hq
    refine wpAny_pyIter_list p.isList ?_
    refine ⟨s1.heap.objs.size, [s1.heap.objs.size], _, _, H1, rfl, I1.kept (t' := s1.toks) fun b o e => Heap.get?_push_of_some _ e, turn_list a _, ⟨_, Heap.get?_push_size _ rfl, rfl, rfl⟩, fun b hb => ?_, q⟩
    have e : b = s1.heap.objs.size := by simpa using hb
    subst e
    exact I1.fpOk (Nat.le_refl _) (I1.hok.fresh (Nat.le_refl _))
  · subst e
    cases r1
    obtain ⟨its, rv, p, hz⟩ := I1.tuple hq
    refine wpAny_pyIter_tuple (show s1.heap.IsTuple a its.toArray from p) ?_
    refine ⟨s1.heap.objs.size, [s1.heap.objs.size], _, _, H1, rfl, I1.kept (t' := s1.toks) fun b o e => Heap.get?_push_of_some _ e, turn_tuple a _, ⟨_, Heap.get?_push_size _ rfl, rfl, rfl⟩, fun b hb => ?_, q⟩
    have e : b = s1.heap.objs.size := by simpa using hb
    subst e
    exact I1.fpOk (Nat.le_refl _) (I1.hok.fresh (Nat.le_refl _))
theorem itC_L {fl : Nat} {A : Nat → Addr} {C : Store} {a : Addr} {xs : List D} (r : Rep k A C H (.ref a) (.lst xs)) : ItOk k fl (Itl k.K a) (itC xs) A C H := fun A' C' H' p st' => by
  cases p.rep _ _ r with
  | lst l h rv =>
    have hl : SqL k.K H' a _ := .inl (.inl h)
    refine ⟨fun j y hj ey => ?_, fun _ => ⟨_, hl, by rw [rv.length]; exact Nat.le_refl _⟩⟩
    obtain ⟨v, hv, rv1⟩ := rv.get ey
    exact ⟨⟨_, v, hl, hv⟩, fun x H'' ⟨e1, e2⟩ => by
      subst e1
      cases (e2 _ hl).symm.trans hv
      exact ⟨A', Stp.refl, st', rv1⟩⟩
theorem itC_T {fl : Nat} {A : Nat → Addr} {C : Store} {v : V} {d : D} {xs : List D} (r : Rep k A C H v d) (e : vT d = some xs) : ∃ a, v = .ref a ∧ (∃ vs, SqT k.K H a vs) ∧ ItOk k fl (Itt k.K a) (itC xs) A C H := by
  obtain ⟨a, vs, rfl, hs, _⟩ := vT_at r e
  refine ⟨a, rfl, ⟨vs, hs⟩, fun A' C' H' p st' => ?_⟩
  obtain ⟨a', vs', ea, hl, rv⟩ := vT_at (p.rep _ _ r) e
  cases ea
  refine ⟨fun j y hj ey => ?_, fun _ => ⟨_, hl, by rw [rv.length]; exact Nat.le_refl _⟩⟩
  obtain ⟨v, hv, rv1⟩ := rv.get ey
  exact ⟨⟨_, v, hl, hv⟩, fun x H'' ⟨e1, e2⟩ => by
    subst e1
    cases (e2 _ hl).symm.trans hv
    exact ⟨A', Stp.refl, st', rv1⟩⟩
theorem itV_L {fl : Nat} {A : Nat → Addr} {C : Store} {a : Addr} {i n : Nat} (r : Rep k A C H (.ref a) (.cell i)) : ItOk k fl (Itl k.K a) (itV i n) A C H := fun A' C' H' p st' => by
  cases p.rep _ _ r with
  | cell hi =>
    refine ⟨fun j y hj ey => ?_, fun hf => ?_⟩
    · simp only [itV] at ey
      split at ey
      · rename_i ys ec
        split at ey
        · obtain ⟨vs, hv, rv⟩ := st'.at_ i _ ec
          have hl : SqL k.K H' (A' i) vs := .inl (.inl hv)
          obtain ⟨v, hw, rv1⟩ := rv.get ey
          exact ⟨⟨_, v, hl, hw⟩, fun x H'' ⟨e1, e2⟩ => by
            subst e1
            cases (e2 _ hl).symm.trans hw
            exact ⟨A', Stp.refl, st', rv1⟩⟩
        · cases ey
      · cases ey
    · simp only [itV] at hf
      split at hf
      · rename_i ys ec
        obtain ⟨vs, hv, rv⟩ := st'.at_ i _ ec
        have := of_decide_eq_true hf
        exact ⟨vs, .inl (.inl hv), by show vs.length ≤ n; rw [rv.length]; omega⟩
      · cases hf
theorem li_seq {m : ME} {R : It → Hp → Prop} (h : LI k W (mSeq m) σ H R) : iSeq k.K (LE k W m) σ H R := by
  obtain ⟨A, F, C, s, h⟩ := h
  refine ⟨A, F, C, s, (Aft.bnd (rel := RepD k) h).mono fun d C1 A1 H1 v p st r h1 => ?_⟩
  have tup : ∀ xs, vT d = some xs → itS d C1 = some (itC xs) → ∃ a, v = .ref a ∧ (((∃ xs, SqL k.K H1 a xs) ∧ R (Itl k.K a) H1) ∨ ((∃ xs, SqT k.K H1 a xs) ∧ R (Itt k.K a) H1)) := fun xs e ei => by
    rw [ei] at h1
    obtain ⟨a, rfl, hs, ok⟩ := itC_T (fl := F.fl) r e
    exact ⟨a, rfl, .inr ⟨hs, h1 A1 H1 _ Stp.refl st ok⟩⟩
  cases d with
  | tup xs => exact tup xs rfl rfl
  | kt xs => exact tup xs rfl rfl
  | lst xs =>
    cases r with
    | lst l hh rv => exact ⟨_, rfl, .inl ⟨⟨_, .inl (.inl hh)⟩, h1 A1 H1 _ Stp.refl st (itC_L (.lst l hh rv))⟩⟩
  | cell i =>
    cases r with
    | cell hi =>
      simp only [itS] at h1
      split at h1
      · rename_i it e
        split at e
        · rename_i ys ec
          cases e
          obtain ⟨vs, hv, rv⟩ := st.at_ i _ ec
          exact ⟨_, rfl, .inl ⟨⟨vs, .inl (.inl hv)⟩, h1 A1 H1 _ Stp.refl st (itV_L (.cell hi))⟩⟩
        · cases e
      · exact h1.elim
  | _ => exact h1.elim
theorem di_seq {tg l : Expr} {m : ME} (hK : X.K = k.K) (hl : PE X l (LE k W m)) : PI X tg l (LI k W (mSeq m)) := (pi_seq hl).cq fun _ _ _ h => by
  rw [hK]
  exact li_seq h
/-! ### ranges -/
theorem itR_ok {fl : Nat} {A : Nat → Addr} {C : Store} {lo : Int} {n : Nat} : ItOk k fl (Itr lo n) (itR lo n) A C H := fun A' C' H' p st' =>
  ⟨fun j y hj ey => ⟨hj, fun x H'' ⟨e1, e2⟩ => by
    subst e1
    subst e2
    cases ey
    exact ⟨A', Stp.refl, st', .int _⟩⟩, fun _ => Nat.le_refl _⟩
theorem li_rng1 {m : ME} {R : It → Hp → Prop} (h : LI k W (mRng1 m) σ H R) : iRng1 (tCons (LE k W m) tNil) σ H R := by
  obtain ⟨A, F, C, s, h⟩ := h
  refine ⟨A, F, C, s, (Aft.bnd (rel := RepD k) h).mono fun d C1 A1 H1 v p st r h1 => ?_⟩
  cases r with
  | int j =>
    simp only at h1
    split at h1
    · rename_i hb
      simp only [inR, Bool.and_eq_true, decide_eq_true_eq] at hb
      exact ⟨j, rfl, hb.1, hb.2, h1 A1 H1 _ Stp.refl st itR_ok⟩
    · exact h1.elim
  | _ => exact h1.elim
theorem li_rng2 {m m2 : ME} {R : It → Hp → Prop} (h : LI k W (mRng2 m m2) σ H R) : iRng2 (tCons (LE k W m) (tCons (LE k W m2) tNil)) σ H R := by
  obtain ⟨A, F, C, s, h⟩ := h
  refine ⟨A, F, C, s, (Aft.bnd (rel := RepD k) h).mono fun d C1 A1 H1 v p st r h1 => ?_⟩
  have s1 := s.step p st
  refine ⟨A1, F, C1, s1, (Aft.bnd (rel := RepD k) h1).mono fun e C2 A2 H2 v2 p2 st2 r2 h2 => ?_⟩
  cases r with
  | int i =>
    cases r2 with
    | int j =>
      simp only at h2
      split at h2
      · rename_i hb
        simp only [inR, Bool.and_eq_true, decide_eq_true_eq] at hb
        exact ⟨i, j, rfl, ⟨hb.1.1, hb.1.2, hb.2.1, hb.2.2⟩, h2 A2 H2 _ Stp.refl st2 itR_ok⟩
      · exact h2.elim
    | _ => exact h2.elim
  | _ =>
    cases r2 <;> exact h2.elim
theorem di_rng1 {tg a : Expr} {p pos : Pos} {m : ME} (hg : Gl X "range") (hm : X.mg "range" = none) (ha : PE X a (LE k W m)) (hs : starEach [a] X.env = [(false, eval a X.env)] := by rfl) : PI X tg (.Call (.Name "range" p) [a] [] pos) (LI k W (mRng1 m)) :=
  (pi_range1 hg hm (pa_cons ha pa_nil hs) hs).cq fun _ _ _ h => li_rng1 h
theorem di_rng2 {tg a b : Expr} {p pos : Pos} {m m2 : ME} (hg : Gl X "range") (hm : X.mg "range" = none) (ha : PE X a (LE k W m)) (hb : PE X b (LE k W m2)) (hs : starEach [a, b] X.env = [(false, eval a X.env), (false, eval b X.env)] := by rfl) (hs2 : starEach [b] X.env = [(false, eval b X.env)] := by rfl) :
    PI X tg (.Call (.Name "range" p) [a, b] [] pos) (LI k W (mRng2 m m2)) :=
  (pi_range2 hg hm (pa_cons ha (pa_cons hb pa_nil hs2) (by rw [hs, hs2])) hs hs2).cq fun _ _ _ h => li_rng2 h
end
/-! ### defs -/
def mDef (np ns : Nat) (body : MS) : MF := fun ds C => if ds.length = np then (match body ⟨C.length, ds.map some ++ List.replicate (ns - np) none⟩ C with
    | .nx _ C' => fin C.length .non C'
    | .rt d C' => fin C.length d C'
    | .xc e _ C' => if cbL C.length e.fs = true then .exc e (C'.take C.length) else .stuck
    | _ => .stuck) else .stuck
/-- the promise of a def that computes m -/
def SpD (k : Cn) (np : Nat) (m : MF) : Sp := fun vs H Q E => vs.length = np ∧ ∃ A C ds, StOk k A C H ∧ RepL k A C H vs ds ∧ Aft k C.length A C H (RepD k) (m ds C) (fun _ _ _ H' v => Q v H') E
section
variable {k : Cn}
theorem cut_stp {n : Nat} {A A' : Nat → Addr} {C C' : Store} {H H' : Hp} (hn : n = C.length) (st0 : StOk k A C H) (st : StOk k A' C' H') (s : Stp k n A C H A' C' H') :
    Stp k n A C H A' (C'.take n) H' ∧ StOk k A' (C'.take n) H' ∧ n ≤ C'.length ∧ (C'.take n).length = n := by
  have hl : n ≤ C'.length := by rw [hn]; exact s.len
  have tl : (C'.take n).length = n := by rw [List.length_take]; omega
  have low : LowC n C' := s.low n (Nat.le_refl _) (by omega) (by rw [hn]; exact st0.low)
  exact ⟨⟨fun v d r => (s.rep v d r).cut hl (by rw [hn]; exact r.cb), by rw [tl, hn]; exact Nat.le_refl _, fun f h1 h2 l => low_take (s.low f h1 h2 l)⟩, st.take hl low, hl, tl⟩
theorem fz_rep {n : Nat} {A : Nat → Addr} {C : Store} {H : Hp} {v : V} {d : D} (st : StOk k A C H) (hl : n ≤ C.length) (r : Rep k A C H v d) (h : cb n (fz n d C) = true) : Rep k A (C.take n) H v (fz n d C) := by
  have tl : (C.take n).length = n := by rw [List.length_take]; omega
  have nl : ∀ i c, ¬ i < n → C[i]? = some (some c) → ¬ Live A (C.take n) (A i) := fun i c hi e l => by
    obtain ⟨j, c', e', z⟩ := l
    by_cases hj : j < n
    · rw [List.getElem?_take_of_lt hj] at e'
      have := st.inj j i _ _ e' e z
      omega
    · rw [List.getElem?_eq_none (by rw [tl]; omega)] at e'
      cases e'
  cases d with
  | cell i =>
    by_cases hi : i < n
    · have e : fz n (.cell i) C = .cell i := by simp [fz, hi]
      rw [e] at h ⊢
      exact r.cut hl h
    · cases r with
      | cell hi' =>
        simp only [fz, if_neg hi] at h ⊢
        split
        · rename_i xs ec
          rw [ec] at h
          obtain ⟨vs, hv, rv⟩ := st.at_ i _ ec
          exact .lst (nl i _ hi ec) hv (rv.cut hl (by simpa [cb] using h))
        · rename_i ks xs ec
          rw [ec] at h
          obtain ⟨kvs, hv, hk, rv⟩ := st.at_ i _ ec
          subst hk
          exact .dT (nl i _ hi ec) hv (rv.cut hl (by simpa [cb] using h))
        · rename_i n1 n2
          exfalso
          split at h
          · rename_i ec; exact n1 _ ec
          · rename_i ec; exact n2 _ _ ec
          · simp only [cb, decide_eq_true_eq] at h
            exact hi h
  | _ => exact r.cut hl h
/-- from a body to the promise -/
theorem spD_body {np ns : Nat} {body : MS} {N : List Str} {vs : List V} {H : Hp} {Q : VK} {E : XK} (hN : N.length = ns) (hp : np ≤ ns) (h : SpD k np (mDef np ns body) vs H Q E) :
    LS k (fun c d _ H' => E c d H') body { nx := fun _ H' => Q .non H', rt := Q } (L2.start N vs) H := by
  obtain ⟨hv, A, C, ds, st, rl, h⟩ := h
  have hd : ds.length = np := by rw [← rl.length]; exact hv
  unfold mDef at h
  rw [if_pos hd] at h
  have sl : (L2.start N vs) = vs.map some ++ List.replicate (ns - np) none := by unfold L2.start; rw [hN, hv]
  have sr : SR k A ⟨C.length, ds.map some ++ List.replicate (ns - np) none⟩ C (L2.start N vs) H := by
    refine ⟨st, st.low, Nat.le_refl _, ?_, fun i d e => ?_⟩
    · rw [sl]
      simp [rl.length]
    · rw [sl]
      have e' : (ds.map some ++ List.replicate (ns - np) none)[i]? = some (some d) := e
      by_cases hi : i < ds.length
      · rw [List.getElem?_append_left (by simpa using hi), List.getElem?_map] at e'
        cases ed : ds[i]? with
        | none => rw [ed] at e'; cases e'
        | some d' =>
          rw [ed] at e'
          cases e'
          obtain ⟨v, h1, h2⟩ := rl.get ed
          refine ⟨v, ?_, h2⟩
          rw [List.getElem?_append_left (by rw [List.length_map, rl.length]; exact hi), List.getElem?_map, h1]
          rfl
      · rw [List.getElem?_append_right (by simpa using hi)] at e'
        have := List.getElem?_eq_some_iff.mp e'
        obtain ⟨h1, h2⟩ := this
        rw [List.getElem_replicate] at h2
        cases h2
  refine ⟨A, _, C, sr, ?_⟩
  have done : ∀ (d : D) (C' : Store), Aft k C.length A C H (RepD k) (fin C.length d C') (fun _ _ _ H' v => Q v H') E → ∀ A' H' v, Stp k C.length A C H A' C' H' → StOk k A' C' H' → Rep k A' C' H' v d → Q v H' := fun d C' hf A' H' v p st' r => by
    unfold fin at hf
    split at hf
    · rename_i hc
      obtain ⟨q1, q2, q3, q4⟩ := cut_stp rfl st st' p
      exact hf A' H' v q1 q2 (fz_rep st' q3 r hc)
    · exact hf.elim
  show AftS k _ C.length A C H (body ⟨C.length, ds.map some ++ List.replicate (ns - np) none⟩ C) _
  cases eb : body ⟨C.length, ds.map some ++ List.replicate (ns - np) none⟩ C with
  | nx sl' C' =>
    rw [eb] at h
    exact fun A' σ' H' p s' => done .non C' h A' H' .non p s'.st .non
  | rt d C' =>
    rw [eb] at h
    exact fun A' H' v p st' r => done d C' h A' H' v p st' r
  | bk sl' C' => rw [eb] at h; exact h.elim
  | ct sl' C' => rw [eb] at h; exact h.elim
  | stuck => rw [eb] at h; exact h.elim
  | xc e sl' C' =>
    rw [eb] at h
    intro A' σ' H' dd ws p s' x l r
    simp only at h
    split at h
    · rename_i hc
      obtain ⟨q1, q2, q3, q4⟩ := cut_stp rfl st s'.st p
      exact h A' H' dd ws q1 q2 x l (r.cut q3 hc)
    · exact h.elim
end
end CT
set_option maxHeartbeats 4000000
/-! DL8: defs, calls, instances over data. -/
namespace CT
open PySem L2 PySem.Spec PyProof.Rows
theorem Aft.more {k : Cn} {fl n : Nat} {A : Nat → Addr} {C : Store} {H : Hp} {α β : Type} {rel : (Nat → Addr) → Store → Hp → β → α → Prop} {m : R α} {Q : α → Store → (Nat → Addr) → Hp → β → Prop} {W : XK} (hn : fl ≤ n) (h : Aft k fl A C H rel m Q W) : Aft k n A C H rel m Q W := by
  cases m with
  | ok d C' => exact fun A' H' v p st r => h A' H' v (p.less hn) st r
  | exc e C' => exact fun A' H' dd vs p st x l r => h A' H' dd vs (p.less hn) st x l r
  | stuck => exact h
/-- a def of np parameters -/
def Ar (np : Nat) (m : MF) : Prop := ∀ ds C, ds.length ≠ np → m ds C = .stuck
theorem mDef_ar {np ns : Nat} {body : MS} : Ar np (mDef np ns body) := fun ds C h => by
  unfold mDef
  rw [if_neg h]
/-! ### defs that know that no repr runs around them -/
theorem RoomG.mono {i j : Nat} {A : Around} (r : RoomG j A) (h : i ≤ j) : RoomG i A := ⟨r.room.mono h, r.gd⟩
theorem RoomG.in1 {j : Nat} {A : Around} (r : RoomG (j + 1) A) : RoomG j A.in1 := ⟨r.room.in1, r.gd⟩
theorem RoomG.make {j : Nat} {A : Around} (r : RoomG (j + 1) A) (C : Addr) (us : List Value) (kw : List (Str × Value)) : RoomG j (A.under (.builtin "type.__call__" ⟨.ref C :: us, kw⟩)) :=
  ⟨r.room.make C us kw, by
    have e : (A.under (.builtin "type.__call__" ⟨.ref C :: us, kw⟩)).guards = A.guards := by
      first
        | rfl
        | simp [Around.under, Code.guards, Code.isGuard, pushGuards, guardIds]
    rw [e]
    exact r.gd⟩
structure FnG (P : Program) (w : World) (K : PySem.W.Frag) (mg : Str → Option Value) (base : Heap) (lev : Nat) (f : Addr) (fd : FuncData) (ps : List Str) (sp : Sp) : Prop where
  len : ∀ vs H Q E, sp vs H Q E → vs.length = ps.length
  run : ∀ (A : Around) (outer : List Env) (s : Shared) (H : Hp) (args : Args) (us : List Value) (vs : List V) (Q : VK) (E : XK), RoomG lev A → Env0 P w K mg base A outer s H → BindsTo s fd args (ps.zip us) → Vals vs us → sp vs H Q E →
    codeAny (model P w) A (.call (.ref f) args) (CR (L2.CX P w) outer P w H s Q E) s
theorem FnG.mono {P : Program} {w : World} {K : PySem.W.Frag} {mg : Str → Option Value} {base : Heap} {i j : Nat} {f : Addr} {fd : FuncData} {ps : List Str} {sp : Sp} (F : FnG P w K mg base i f fd ps sp) (h : i ≤ j) : FnG P w K mg base j f fd ps sp :=
  ⟨F.len, fun A outer s H args us vs Q E hr => F.run A outer s H args us vs Q E (hr.mono h)⟩
theorem fn_ofG {P : Program} {w : World} {K : PySem.W.Frag} {mg : Str → Option Value} {base : Heap} {lev : Nat} {f : Addr} {name qual : Str} {params : Arguments} {body : List Stmt} {scope : Scope} {dV kV doc pm cdv ct oc : Value} {an od : Option Addr}
    {osl : Array (Option Value)} {N ps : List Str} {sp : Sp} (lk : K.lookup f = some ⟨oc, od, .func (PySem.W.fnOf name qual params body scope dV kV doc pm an cdv ct), osl⟩) (hcd : PySem.W.codeIn K cdv qual = true) (S : FnScope N ps scope)
    (len : ∀ vs H Q E, sp vs H Q E → vs.length = ps.length)
    (hbody : ∀ (A : Around) (outer : List Env) (s : Shared) (H : Hp) (vs : List V) (Q : VK) (E : XK), RoomG lev (A.deeper (envOfC qual scope s.heap.objs.size f cdv)) → sp vs H Q E →
      ∃ t, PSs (cxOf (L2.CX P w) P w K mg base N qual scope f cdv A outer s H E) body t ∧ t { nx := fun _ H' => Q .non H', rt := Q } (L2.start N vs) H) :
    FnG P w K mg base (lev + 1) f (PySem.W.fnOf name qual params body scope dV kV doc pm an cdv ct) ps sp := by
  refine ⟨len, fun A outer s H args us vs Q E hr e0 hb r hsp => ?_⟩
  have hl := len _ _ _ _ hsp
  have KX : K.In s.heap := e0.mod.kin.keeps fun b o e => (e0.bs b o e).1
  have lim : s.heap.NoLimit := e0.mod.nolimit.keeps fun b o e => (e0.bs b o e).1
  have hkind : ∀ y ∈ ps.zip us, scope.names.lookup y.1 = some .local ∨ (scope.names.lookup y.1 = some .cell ∧ ((cellsFrom (s.heap.objs.size + 1) scope.names []).lookup y.1).isSome = true) := fun ⟨n, v⟩ hy => by
    rcases S.par n (List.of_mem_zip hy).1 with q | q
    · exact .inl q
    · exact .inr ⟨q, PySem.W.cellsFrom_some _ _ _ (.inl q)⟩
  refine codeAny_call_function hr.room.depth (KX _ _ lk) rfl S.co S.gen rfl (PySem.W.codeRec_of KX hcd) (hb _ _ _ _ ?_)
  refine wpAny_newFunctionEnv_cells S.kind hkind fun env he s1 x => ?_
  subst he
  refine ⟨lim.keeps x.toInCall.keep, codeAny_func ?_⟩
  obtain ⟨t, ht, hq⟩ := hbody A outer s H vs Q E ⟨hr.room.deeper _, hr.gd⟩ hsp
  have I : Inv (cxOf (L2.CX P w) P w K mg base N qual scope f cdv A outer s H E) [] (L2.start N vs) H s1 := inv_start S hr.room.hd e0 hl r x
  refine wpAny_mono (ht.run [] s1 (L2.start N vs) H _ I hq) (fun fl s' hs => ?_) fun e s' hs => hs
  have fin : ∀ {σ' : L2.St} {H' : Hp} {v : V} {u : Value}, Inv (cxOf (L2.CX P w) P w K mg base N qual scope f cdv A outer s H E) [] σ' H' s' → RelV v u → Q v H' → CE outer P w H s Q u s' :=
    fun {σ' H' v u} J rv q => ⟨v, H', J.os, J.bare, J.base, J.hok, rv, q⟩
  cases fl with
  | ret u =>
    obtain ⟨v, σ', H', J, rv, q⟩ := hs
    exact fin J rv q
  | next =>
    obtain ⟨σ', H', J, q⟩ := hs
    exact fin (v := V.non) (u := Value.none) J rfl q
  | brk =>
    obtain ⟨_, _, _, q⟩ := hs
    exact False.elim q
  | cont =>
    obtain ⟨_, _, _, q⟩ := hs
    exact False.elim q
section
variable {P : Program} {w : World} {k : Cn} {mg : Str → Option Value} {base : Heap} {x qual : Str} {params : Arguments} {body : List Stmt} {scope : Scope} {dvs : List V} {kws : List (Str × V)} {f : Addr} {fd : FuncData}
/-- THE RULE for a def: its body's derivation -/
theorem fn_ok {N ps : List Str} {lev : Nat} {m : MS} (F : FunD k.K x qual params body scope dvs kws f fd) (S : FnScope N ps scope) (hp : ps.length ≤ N.length)
    (hb : ∀ (cdv : Value) (A : Around) (outer : List Env) (s : Shared) (H : Hp) (E : XK), RoomG lev (A.deeper (envOfC qual scope s.heap.objs.size f cdv)) → PSs (cxOf (L2.CX P w) P w k.K mg base N qual scope f cdv A outer s H E) body (LS k (fun c d _ H' => E c d H') m)) :
    FnG P w k.K mg base (lev + 1) f fd ps (SpD k ps.length (mDef ps.length N.length m)) := by
  obtain ⟨oc, od, dV, kV, doc, pm, an, cdv, ct, osl, rfl, lk, hcd, _, _⟩ := F.ex
  exact fn_ofG lk hcd S (fun vs H Q E h => h.1) fun A outer s H vs Q E hr h => ⟨_, hb cdv A outer s H E hr, spD_body rfl hp h⟩
end
/-! ### calls -/
section
variable {X : Cx} {k : Cn} {W : WX} {σ : L2.St} {H : Hp} {Q : VK} {lev : Nat} {f C p g : Addr} {fd : FuncData} {ps : List Str} {np : Nat} {m : MF} {dvs : List V} {dds : List D} {ds : List Value} {x nm : Str} {pn pos apos : Pos} {e o : Expr} {es : List Expr} {ma : MA} {mo : ME}
theorem sp_of {A : Nat → Addr} {C : Store} {fl : Nat} {vs : List V} {xs : List D} {E : XK} (hf : fl ≤ C.length) (ar : Ar np m) (st : StOk k A C H) (r : RepL k A C H vs xs) (h : Aft k fl A C H (RepD k) (m xs C) (fun _ _ _ H' v => Q v H') E) : SpD k np m vs H Q E := by
  refine ⟨?_, A, C, xs, st, r, h.more hf⟩
  rw [r.length]
  by_cases hl : xs.length = np
  · exact hl
  · rw [ar xs C hl] at h
    exact h.elim
theorem run_fnG {sp : Sp} {E : L2.St → XK} {pins : List (Addr × Obj)} {σ : L2.St} {H : Hp} {s : Shared} {Q : VK} {us : List Value} {vs : List V} (F : FnG X.prog X.w X.K X.mg X.base lev f fd ps sp) (hr : RoomG lev X.A) (hb : Binds X.K fd ps ds) (hd : Vals dvs ds) (hx : PassesAt (L2.CX X.prog X.w) X σ (E σ))
    (I : Inv X pins σ H s) (r : Vals vs us) (h : sp (vs ++ dvs) H Q (E σ)) : wpAny (model X.prog X.w) X.A (call (.ref f) us) (EP X pins σ Q) X.xe s := by
  have r2 : Vals (vs ++ dvs) (us ++ ds) := r.append hd
  have hl : (us ++ ds).length = ps.length := by rw [← r2.length]; exact F.len _ _ _ _ h
  refine wpAny_call (codeAny_mono (F.run X.A X.stack s H ⟨us, []⟩ (us ++ ds) (vs ++ dvs) Q (E σ) hr I.env0 (hb s us I.kIn hl) r2 h) fun r s' hq => ?_)
  cases r with
  | error e => exact hx pins H s e s' I hq
  | ok fl =>
    cases fl with
    | ret u => exact I.after hq
    | next => exact False.elim hq
    | brk => exact False.elim hq
    | cont => exact False.elim hq
theorem pe_callG {sp : Sp} {E : L2.St → XK} {t : TA} (F : FnG X.prog X.w X.K X.mg X.base lev f fd ps sp) (hr : RoomG lev X.A) (hg : Gl X x) (hm : X.mg x = some (.ref f)) (hk : PySem.W.keepIn X.K (.ref f) = true) (hb : Binds X.K fd ps ds) (hd : Vals dvs ds) (hx : ∀ σ, PassesAt (L2.CX X.prog X.w) X σ (E σ))
    (ha : PA X (e :: es) t) (hdb : (x == ("__debug__" : Str)) = false := by decide) (he : starEach (e :: es) X.env = (false, eval e X.env) :: starEach es X.env := by rfl) (hpl : (backTo pos (starEach es X.env)).any (·.1) = false := by rfl) :
    PE X (.Call (.Name x pn) (e :: es) [] pos) (tCallSD sp dvs E t) := by
  refine ⟨fun pins s σ H Q I h => ?_⟩
  refine wpAny_Call_Name_kw (ld_glob I hg hm ?_ hdb)
  refine PySem.W.callWith_K (h₀ := X.base) I.ok.mod.kin hk (thn (ha.run pos pins s σ H _ I h) fun us s1 ⟨vs, H1, I1, r, q⟩ => ⟨I1.kIn, ?_⟩) he hpl
  exact run_fnG F hr hb hd (hx σ) I1 r q
theorem le_call (ar : Ar np m) (hd : ∀ A C H, RepL k A C H dvs dds) (h : LE k W (mCall m dds ma) σ H Q) : tCallSD (SpD k np m) dvs (WE W) (LA k W ma) σ H Q := by
  obtain ⟨A, F, C, s, h⟩ := h
  refine ⟨A, F, C, s, (Aft.bnd (rel := RepDs k) h).mono fun xs C1 A1 H1 vs p1 st1 r1 h1 => ?_⟩
  exact sp_of (s.step p1 st1).fl ar st1 (r1.append (hd _ _ _)) h1
/-- f(e, ..) -/
theorem de_call (tk : Takes X W) (F : FnG X.prog X.w X.K X.mg X.base lev f fd ps (SpD k np m)) (ar : Ar np m) (hr : RoomG lev X.A) (hg : Gl X x) (hm : X.mg x = some (.ref f)) (hk : PySem.W.keepIn X.K (.ref f) = true) (hb : Binds X.K fd ps ds) (hd : Vals dvs ds) (hdd : ∀ A C H, RepL k A C H dvs dds)
    (ha : PA X (e :: es) (LA k W ma)) (hdb : (x == ("__debug__" : Str)) = false := by decide) (he : starEach (e :: es) X.env = (false, eval e X.env) :: starEach es X.env := by rfl) (hpl : (backTo pos (starEach es X.env)).any (·.1) = false := by rfl) :
    PE X (.Call (.Name x pn) (e :: es) [] pos) (LE k W (mCall m dds ma)) := (pe_callG F hr hg hm hk hb hd (fun σ => passAt tk σ) ha hdb he hpl).cq fun _ _ _ h => le_call ar hdd h
/-! ### instances -/
theorem vO_at {A : Nat → Addr} {C : Store} {v : V} {d : D} {c : Nat} {fs : List D} (st : StOk k A C H) (r : Rep k A C H v d) (e : vO d C = some (c, fs)) : ∃ a dx vs, v = .ref a ∧ H a = some (.ins (k.cl c) dx (((k.fn c).take fs.length).zip vs)) ∧ fs.length ≤ (k.fn c).length ∧ RepL k A C H vs fs := by
  cases r with
  | @obj a0 dx0 c0 vs0 ds0 l h z rv =>
    cases e
    have hl : fs.length = (k.fn c).length := by rw [← rv.length]; exact z
    refine ⟨a0, dx0, vs0, rfl, ?_, Nat.le_of_eq hl, rv⟩
    rw [hl, List.take_length]
    exact h
  | cell hi =>
    rename_i i
    simp only [vO] at e
    split at e
    · rename_i c' fs' ec
      cases e
      obtain ⟨dx, vs, h, z, rv⟩ := st.at_ i _ ec
      exact ⟨_, dx, vs, rfl, h, z, rv⟩
    · cases e
  | _ => cases e
theorem zip_look {names : List Str} {vs : List V} {n : Nat} {f : Str} {v : V} (nd : names.Nodup) (hn : names[n]? = some f) (hv : vs[n]? = some v) : (names.zip vs).lookup f = some v := by
  induction names generalizing vs n with
  | nil => simp at hn
  | cons a r ih =>
    cases vs with
    | nil => simp at hv
    | cons b t =>
      cases n with
      | zero =>
        simp at hn hv
        subst hn
        subst hv
        simp [List.lookup]
      | succ n =>
        simp at hn hv
        have ne : (f == a) = false := by
          simp only [List.nodup_cons] at nd
          have : f ≠ a := fun e => nd.1 (by rw [← e]; exact List.mem_of_getElem? hn)
          simpa using this
        rw [List.zip_cons_cons, List.lookup_cons, ne]
        exact ih (by simp only [List.nodup_cons] at nd; exact nd.2) hn hv
theorem d_fld {c n : Nat} {f : Str} (hc : Cls k.K (k.cl c)) (hno : NoAttr k.K (k.cl c) f) (nd : (k.fn c).Nodup) (hf : (k.fn c)[n]? = some f) : ∀ fl A C H x dx d C' (Q : VK), fl ≤ C.length → LowC fl C → StOk k A C H → Rep k A C H x dx → oFld c n dx C = some (d, C') →
    (∀ A' H' v, Stp k fl A C H A' C' H' → StOk k A' C' H' → Rep k A' C' H' v d → Q v H') → ∃ a Cc dxx fs v, x = .ref a ∧ H a = some (.ins Cc dxx fs) ∧ Cls k.K Cc ∧ NoAttr k.K Cc f ∧ fs.lookup f = some v ∧ Q v H := by
  intro fl A C H x dx d C' Q hfl hl st r e q
  unfold oFld at e
  split at e
  · rename_i c' fs ev
    split at e
    · rename_i hcc
      subst hcc
      simp only [Option.map_eq_some_iff] at e
      obtain ⟨d', e1, e2⟩ := e
      cases e2
      obtain ⟨a, dx', vs, rfl, ha, hle, rv⟩ := vO_at st r ev
      obtain ⟨v, hv, rv1⟩ := rv.get e1
      have hn : n < fs.length := (List.getElem?_eq_some_iff.mp e1).1
      refine ⟨a, _, dx', _, v, rfl, ha, hc, hno, zip_look (nd.sublist (List.take_sublist _ _)) (by rw [List.getElem?_take_of_lt hn]; exact hf) hv, q A H v Stp.refl st rv1⟩
    · cases e
  · cases e
theorem le_fld {c n : Nat} {f : Str} (hc : Cls k.K (k.cl c)) (hno : NoAttr k.K (k.cl c) f) (nd : (k.fn c).Nodup) (hf : (k.fn c)[n]? = some f) (h : LE k W (mUn (oFld c n) mo) σ H Q) : tFld k.K (LE k W mo) f σ H Q := by
  obtain ⟨A, F, C, s, h⟩ := h
  refine ⟨A, F, C, s, (Aft.bnd (rel := RepD k) h).mono fun dx C1 A1 H1 v p1 st1 r1 h1 => ?_⟩
  obtain ⟨d, C', e, q⟩ := aft_ofO h1
  have s1 := s.step p1 st1
  exact d_fld hc hno nd hf F.fl A1 C1 H1 v dx d C' Q s1.fl s1.low st1 r1 e q
theorem de_fld (c n : Nat) {f : Str} (hK : X.K = k.K) (hc : Cls k.K (k.cl c)) (hno : NoAttr k.K (k.cl c) f) (nd : (k.fn c).Nodup) (hf : (k.fn c)[n]? = some f) (he : PE X o (LE k W mo)) (hb : attributeBase o f X.env (eval o X.env) = eval o X.env := by rfl) : PE X (.Attribute o f pos) (LE k W (mUn (oFld c n) mo)) :=
  (pe_fld he hb).cq fun _ _ _ h => by
    rw [hK]
    exact le_fld hc hno nd hf h
/-! ### methods, properties -/
end
end CT
set_option maxHeartbeats 4000000
/-! DL9: built-in functions over data. -/
namespace CT
open PySem L2 PySem.Spec PyProof.Rows
/-! ### data as the library's own -/
section
variable {k : Cn} {A : Nat → Addr} {C : Store} {H : Hp}
mutual
theorem toP0_dp : ∀ {v : V} {d : D} {p : PyData}, Rep k A C H v d → toP0 d = some p → Dp k.K H v p
  | _, _, _, .non, e => by simp only [toP0] at e; cases e; exact .non
  | _, _, _, .bl b, e => by simp only [toP0] at e; cases e; exact .bl b
  | _, _, _, .int i, e => by simp only [toP0] at e; cases e; exact .int i
  | _, _, _, .str s, e => by simp only [toP0] at e; cases e; exact .str s
  | _, _, _, .lst l h r, e => by
    simp only [toP0, Option.map_eq_some_iff] at e
    obtain ⟨ps, e1, rfl⟩ := e
    exact .lst (.inl (.inl h)) (toP0s_dp r e1)
  | _, _, _, .tup l h r, e => by
    simp only [toP0, Option.map_eq_some_iff] at e
    obtain ⟨ps, e1, rfl⟩ := e
    exact .tup (.inl (.inl h)) (toP0s_dp r e1)
  | _, _, _, .ktup h r, e => by
    simp only [toP0, Option.map_eq_some_iff] at e
    obtain ⟨ps, e1, rfl⟩ := e
    exact .tup (.inr h) (toP0s_dp r e1)
  | _, _, _, .scr l h r, e => by simp only [toP0] at e; cases e
  | _, _, _, .kscr h r, e => by simp only [toP0] at e; cases e
  | _, _, _, .obj l h z r, e => by simp only [toP0] at e; cases e
  | _, _, _, .exn x l h z r, e => by simp only [toP0] at e; cases e
  | _, _, _, .cls c, e => by simp only [toP0] at e; cases e
  | _, _, _, .dT l h r, e => by simp only [toP0] at e; cases e
  | _, _, _, .cell hi, e => by simp only [toP0] at e; cases e
theorem toP0s_dp : ∀ {vs : List V} {ds : List D} {ps : List PyData}, RepL k A C H vs ds → toP0s ds = some ps → DpAll k.K H vs ps
  | _, _, _, .nil, e => by simp only [toP0s] at e; cases e; exact .nil
  | _, _, _, .cons (d := d) (ds := ds) r t, e => by
    simp only [toP0s] at e
    cases e1 : toP0 d with
    | none => rw [e1] at e; cases e
    | some p =>
      cases e2 : toP0s ds with
      | none => rw [e1, e2] at e; cases e
      | some ps =>
        rw [e1, e2] at e
        cases e
        exact .cons (toP0_dp r e1) (toP0s_dp t e2)
end
mutual
theorem toP_dp (st : StOk k A C H) : ∀ {v : V} {d : D} {p : PyData}, Rep k A C H v d → toP C d = some p → Dp k.K H v p
  | _, _, _, .non, e => by simp only [toP] at e; cases e; exact .non
  | _, _, _, .bl b, e => by simp only [toP] at e; cases e; exact .bl b
  | _, _, _, .int i, e => by simp only [toP] at e; cases e; exact .int i
  | _, _, _, .str s, e => by simp only [toP] at e; cases e; exact .str s
  | _, _, _, .lst l h r, e => by
    simp only [toP, Option.map_eq_some_iff] at e
    obtain ⟨ps, e1, rfl⟩ := e
    exact .lst (.inl (.inl h)) (toPs_dp st r e1)
  | _, _, _, .tup l h r, e => by
    simp only [toP, Option.map_eq_some_iff] at e
    obtain ⟨ps, e1, rfl⟩ := e
    exact .tup (.inl (.inl h)) (toPs_dp st r e1)
  | _, _, _, .ktup h r, e => by
    simp only [toP, Option.map_eq_some_iff] at e
    obtain ⟨ps, e1, rfl⟩ := e
    exact .tup (.inr h) (toPs_dp st r e1)
  | _, _, _, .scr l h r, e => by simp only [toP] at e; cases e
  | _, _, _, .kscr h r, e => by simp only [toP] at e; cases e
  | _, _, _, .obj l h z r, e => by simp only [toP] at e; cases e
  | _, _, _, .exn x l h z r, e => by simp only [toP] at e; cases e
  | _, _, _, .cls c, e => by simp only [toP] at e; cases e
  | _, _, _, .dT l h r, e => by simp only [toP] at e; cases e
  | _, _, _, .cell (i := i) hi, e => by
    simp only [toP] at e
    split at e
    · rename_i xs ec
      simp only [Option.map_eq_some_iff] at e
      obtain ⟨ps, e1, rfl⟩ := e
      obtain ⟨vs, hv, rv⟩ := st.at_ i _ ec
      exact .lst (.inl (.inl hv)) (toP0s_dp rv e1)
    · cases e
theorem toPs_dp (st : StOk k A C H) : ∀ {vs : List V} {ds : List D} {ps : List PyData}, RepL k A C H vs ds → toPs C ds = some ps → DpAll k.K H vs ps
  | _, _, _, .nil, e => by simp only [toPs] at e; cases e; exact .nil
  | _, _, _, .cons (d := d) (ds := ds) r t, e => by
    simp only [toPs] at e
    cases e1 : toP C d with
    | none => rw [e1] at e; cases e
    | some p =>
      cases e2 : toPs C ds with
      | none => rw [e1, e2] at e; cases e
      | some ps =>
        rw [e1, e2] at e
        cases e
        exact .cons (toP_dp st r e1) (toPs_dp st t e2)
end
end
/-! ### == and != of data -/
theorem d_eqD {k : Cn} : OpD k (rEqD k.K) (oEqD false) := by
  intro fl A C H x y dx dy d C' Q hf hl st rx ry e q
  simp only [oEqD] at e
  split at e
  · rename_i p q' e1 e2
    split at e
    · rename_i hs
      simp only [Bool.and_eq_true] at hs
      cases e
      exact ⟨p, q', toP_dp st rx e1, toP_dp st ry e2, hs.1, hs.2, q A H _ Stp.refl st (.bl _)⟩
    · cases e
  · cases e
theorem d_neD {k : Cn} : OpD k (rNeD k.K) (oEqD true) := by
  intro fl A C H x y dx dy d C' Q hf hl st rx ry e q
  simp only [oEqD] at e
  split at e
  · rename_i p q' e1 e2
    split at e
    · rename_i hs
      simp only [Bool.and_eq_true] at hs
      cases e
      exact ⟨p, q', toP_dp st rx e1, toP_dp st ry e2, hs.1, hs.2, q A H _ Stp.refl st (.bl _)⟩
    · cases e
  · cases e
/-! ### repr -/
def rReprD (K : PySem.W.Frag) : List V → Hp → VK → Prop := fun xs H Q => ∃ v d, xs = [v] ∧ Dp K H v d ∧ d.showable = true ∧ d.hasDict = false ∧ d.depth ≤ 60 ∧ d.shown.length ≤ sizeLine ∧ Q (.str d.shown) H
theorem call_reprD {X : Cx} (hr : RoomG 0 X.A) : CallR X (.builtin "repr") (rReprD X.K) := by
  intro pins s σ H xs us Q I r h
  obtain ⟨v, d, rfl, hd, h1, h2, h3, h4, q⟩ := h
  obtain ⟨u, rfl, ru⟩ := Vals.one r
  have un : X.A.units + 200 < cLine := by have := hr.room.un; omega
  obtain ⟨as, rd⟩ := Dp.reads I d v u hd ru
  have fin : ∀ (t : Tok) (h' : Heap) (tk : Nat), (∀ b o, s.heap.get? b = some o → h'.get? b = some o) → EP X pins σ Q (.str d.shown t) { s with heap := h', toks := tk } := fun t h' tk hk => ⟨.str d.shown, H, I.kept (t' := tk) hk, ⟨_, rfl⟩, q⟩
  cases hd with
  | non =>
    cases ru
    exact PySem.P.repr_of_none (fin _ _ _ fun _ _ e => e)
  | bl b =>
    cases ru
    exact PySem.P.repr_of_bool (fin _ _ _ fun _ _ e => e)
  | int i =>
    obtain ⟨t, rfl⟩ := ru
    exact PySem.P.repr_of_int (by simpa [PyData.showable] using h1) (fin _ _ _ fun _ _ e => e)
  | str x =>
    obtain ⟨t, rfl⟩ := ru
    exact PySem.P.repr_of_str (fin _ _ _ fun _ _ e => e) h4
  | lst hs ha =>
    cases ru
    exact repr_of_reads' rd h1 (PyData.noDict_hsm h2) hr.gd (by omega) (fun _ _ e => e) (fun h' u tk hk => fin u h' tk hk) h4
  | tup hs ha =>
    cases ru
    exact repr_of_reads' rd h1 (PyData.noDict_hsm h2) hr.gd (by omega) (fun _ _ e => e) (fun h' u tk hk => fin u h' tk hk) h4
def oRepr : OA := fun xs C => match xs with
  | [d] => match toP C d with
    | some p => if repOk p = true then some (.str p.shown, C) else none
    | none => none
  | _ => none
theorem d_repr {k : Cn} : ApD k (rReprD k.K) oRepr := by
  intro fl A C H x dx d C' Q hf hl st rx e q
  unfold oRepr at e
  split at e
  · rename_i d0
    split at e
    · rename_i p ep
      split at e
      · rename_i ho
        cases e
        cases rx with
        | cons r t =>
          cases t
          simp only [repOk, Bool.and_eq_true, Bool.not_eq_true', decide_eq_true_eq] at ho
          exact ⟨_, p, rfl, toP_dp st r ep, ho.1.1.1, ho.1.1.2, ho.1.2, szN_le ho.2, q A H _ Stp.refl st (.str _)⟩
      · cases e
    · cases e
  · cases e
/-! ### len, sums, least, greatest, conversions -/
def oLen : OA := fun xs C => match xs with
  | [d] => (vS d C).map fun ys => (.int ys.length, C)
  | _ => none
theorem d_len {k : Cn} : ApD k (fun xs H Q => ∃ p ys, xs = [.ref p] ∧ (SqL k.K H p ys ∨ SqT k.K H p ys) ∧ Q (.int ys.length) H) oLen := by
  intro fl A C H x dx d C' Q hf hl st rx e q
  unfold oLen at e
  split at e
  · rename_i d0
    simp only [Option.map_eq_some_iff] at e
    obtain ⟨ys, e1, e2⟩ := e
    cases e2
    cases rx with
    | cons r t =>
      cases t
      obtain ⟨a, vs, rfl, hs, rv⟩ := vS_at st r e1
      exact ⟨a, vs, rfl, hs, q A H _ Stp.refl st (by rw [rv.length]; exact .int _)⟩
  · cases e
theorem dInts_eq : ∀ {ds : List D} {ns : List Int}, dInts ds = some ns → ds = ns.map D.int
  | [], _, e => by cases e; rfl
  | .int i :: r, _, e => by
    simp only [dInts, Option.map_eq_some_iff] at e
    obtain ⟨l, e1, rfl⟩ := e
    rw [dInts_eq e1]
    rfl
  | .non :: _, _, e => by cases e
  | .bl _ :: _, _, e => by cases e
  | .str _ :: _, _, e => by cases e
  | .lst _ :: _, _, e => by cases e
  | .tup _ :: _, _, e => by cases e
  | .scr _ :: _, _, e => by cases e
  | .kt _ :: _, _, e => by cases e
  | .obj _ _ :: _, _, e => by cases e
  | .exn _ _ :: _, _, e => by cases e
  | .cls _ :: _, _, e => by cases e
  | .dT _ _ :: _, _, e => by cases e
  | .cell _ :: _, _, e => by cases e
theorem dBools_eq : ∀ {ds : List D} {ns : List Bool}, dBools ds = some ns → ds = ns.map D.bl
  | [], _, e => by cases e; rfl
  | .bl i :: r, _, e => by
    simp only [dBools, Option.map_eq_some_iff] at e
    obtain ⟨l, e1, rfl⟩ := e
    rw [dBools_eq e1]
    rfl
  | .non :: _, _, e => by cases e
  | .int _ :: _, _, e => by cases e
  | .str _ :: _, _, e => by cases e
  | .lst _ :: _, _, e => by cases e
  | .tup _ :: _, _, e => by cases e
  | .scr _ :: _, _, e => by cases e
  | .kt _ :: _, _, e => by cases e
  | .obj _ _ :: _, _, e => by cases e
  | .exn _ _ :: _, _, e => by cases e
  | .cls _ :: _, _, e => by cases e
  | .dT _ _ :: _, _, e => by cases e
  | .cell _ :: _, _, e => by cases e
def oSum : OA := fun xs C => match xs with
  | [d] => (vL d C).bind fun ys => (dInts ys).map fun ns => (.int ns.sum, C)
  | _ => none
def oAny : OA := fun xs C => match xs with
  | [d] => (vL d C).bind fun ys => (dBools ys).map fun ns => (.bl (ns.any id), C)
  | _ => none
def oAll : OA := fun xs C => match xs with
  | [d] => (vL d C).bind fun ys => (dBools ys).map fun ns => (.bl (ns.all id), C)
  | _ => none
theorem d_sum {k : Cn} : ApD k (rSum k.K) oSum := by
  intro fl A C H x dx d C' Q hf hl st rx e q
  unfold oSum at e
  split at e
  · simp only [Option.bind_eq_some_iff, Option.map_eq_some_iff] at e
    obtain ⟨ys, e1, ns, e2, e3⟩ := e
    cases e3
    cases rx with
    | cons r t =>
      cases t
      obtain ⟨a, vs, rfl, ha, rv⟩ := vL_at st r e1
      rw [dInts_eq e2] at rv
      have := rv.ints_inv
      subst this
      exact ⟨a, ns, rfl, .inl (.inl ha), q A H _ Stp.refl st (.int _)⟩
  · cases e
theorem d_any {k : Cn} : ApD k (rAny k.K) oAny := by
  intro fl A C H x dx d C' Q hf hl st rx e q
  unfold oAny at e
  split at e
  · simp only [Option.bind_eq_some_iff, Option.map_eq_some_iff] at e
    obtain ⟨ys, e1, ns, e2, e3⟩ := e
    cases e3
    cases rx with
    | cons r t =>
      cases t
      obtain ⟨a, vs, rfl, ha, rv⟩ := vL_at st r e1
      rw [dBools_eq e2] at rv
      have := rv.bls_inv
      subst this
      exact ⟨a, ns, rfl, .inl (.inl ha), q A H _ Stp.refl st (.bl _)⟩
  · cases e
theorem d_all {k : Cn} : ApD k (rAll k.K) oAll := by
  intro fl A C H x dx d C' Q hf hl st rx e q
  unfold oAll at e
  split at e
  · simp only [Option.bind_eq_some_iff, Option.map_eq_some_iff] at e
    obtain ⟨ys, e1, ns, e2, e3⟩ := e
    cases e3
    cases rx with
    | cons r t =>
      cases t
      obtain ⟨a, vs, rfl, ha, rv⟩ := vL_at st r e1
      rw [dBools_eq e2] at rv
      have := rv.bls_inv
      subst this
      exact ⟨a, ns, rfl, .inl (.inl ha), q A H _ Stp.refl st (.bl _)⟩
  · cases e
theorem d_2I {k : Cn} (g : Int → Int → Int) : ApD k (fun xs H Q => ∃ i j, xs = [.int i, .int j] ∧ Q (.int (g i j)) H) (o2I g) := by
  intro fl A C H x dx d C' Q hf hl st rx e q
  unfold o2I at e
  split at e
  · rename_i i j
    cases e
    cases rx with
    | cons r t =>
      cases t with
      | cons r2 t2 =>
        cases t2
        cases r
        cases r2
        exact ⟨i, j, rfl, q A H _ Stp.refl st (.int _)⟩
  · cases e
theorem d_max2 {k : Cn} : ApD k (fun xs H Q => ∃ i j, xs = [.int i, .int j] ∧ Q (.int (if j > i then j else i)) H) oMax2 := d_2I _
theorem d_min2 {k : Cn} : ApD k (fun xs H Q => ∃ i j, xs = [.int i, .int j] ∧ Q (.int (if j < i then j else i)) H) oMin2 := d_2I _
theorem d_abs {k : Cn} : ApD k (fun xs H Q => ∃ i, xs = [.int i] ∧ Q (.int (if i < 0 then -i else i)) H) oAbs := by
  intro fl A C H x dx d C' Q hf hl st rx e q
  unfold oAbs at e
  split at e
  · rename_i i
    cases e
    cases rx with
    | cons r t =>
      cases t
      cases r
      exact ⟨i, rfl, q A H _ Stp.refl st (.int _)⟩
  · cases e
theorem d_int {k : Cn} : ApD k (fun xs H Q => (∃ i, xs = [.int i] ∧ Q (.int i) H) ∨ ∃ k, xs = [.bl k] ∧ Q (.int (if k then 1 else 0)) H) oInt := by
  intro fl A C H x dx d C' Q hf hl st rx e q
  unfold oInt at e
  split at e
  · rename_i i
    cases e
    cases rx with
    | cons r t =>
      cases t
      cases r
      exact .inl ⟨i, rfl, q A H _ Stp.refl st (.int _)⟩
  · rename_i i
    cases e
    cases rx with
    | cons r t =>
      cases t
      cases r
      exact .inr ⟨i, rfl, q A H _ Stp.refl st (.int _)⟩
  · cases e
theorem d_tupOf {k : Cn} : ApD k (fun xs H Q => ∃ p ys, xs = [.ref p] ∧ ((SqL k.K H p ys ∧ ∀ l, H l = none → Q (.ref l) (upd H l (.tup ys))) ∨ (SqT k.K H p ys ∧ Q (.ref p) H))) oTupOf := by
  intro fl A C H x dx d C' Q hf hl st rx e q
  unfold oTupOf at e
  split at e
  · cases e
    cases rx with
    | cons r t =>
      cases t
      obtain ⟨a, vs, rfl, hs, rv⟩ := vT_at r rfl
      exact ⟨a, vs, rfl, .inr ⟨hs, q A H _ Stp.refl st r⟩⟩
  · cases e
    cases rx with
    | cons r t =>
      cases t
      obtain ⟨a, vs, rfl, hs, rv⟩ := vT_at r rfl
      exact ⟨a, vs, rfl, .inr ⟨hs, q A H _ Stp.refl st r⟩⟩
  · simp only [Option.map_eq_some_iff] at e
    obtain ⟨ys, e1, e2⟩ := e
    cases e2
    cases rx with
    | cons r t =>
      cases t
      obtain ⟨a, vs, rfl, ha, rv⟩ := vL_at st r e1
      refine ⟨a, vs, rfl, .inl ⟨.inl (.inl ha), fun l hl => ?_⟩⟩
      obtain ⟨w1, w2, w3⟩ := fresh_T (fl := fl) st rv hl
      exact q A _ _ w1 w2 w3
  · cases e
/-- list(x) -/
def oListOf (own : Bool) : OA := fun xs C => match xs with
  | [d] => (vS d C).map fun ys => mkL own ys C
  | _ => none
theorem d_listOf {k : Cn} (own : Bool) : ApD k (fun xs H Q => ∃ p ys, xs = [.ref p] ∧ (SqL k.K H p ys ∨ SqT k.K H p ys) ∧ ∀ l, H l = none → Q (.ref l) (upd H l (.lst ys))) (oListOf own) := by
  intro fl A C H x dx d C' Q hf hl st rx e q
  unfold oListOf at e
  split at e
  · simp only [Option.map_eq_some_iff] at e
    obtain ⟨ys, e1, e2⟩ := e
    cases rx with
    | cons r t =>
      cases t
      obtain ⟨a, vs, rfl, hs, rv⟩ := vS_at st r e1
      refine ⟨a, vs, rfl, hs, fun l hl => ?_⟩
      obtain ⟨A2, w1, w2, w3⟩ := fresh_L (own := own) hf st rv hl
      rw [e2] at w1 w2 w3
      exact q A2 _ _ w1 w2 w3
  · cases e
/-! ### + and * of lists, + of tuples -/
def oCat (own : Bool) : O2 := fun x y C => match vL x C, vL y C with
  | some xs, some ys => if szN (xs.length + ys.length) = true then some (mkL own (xs ++ ys) C) else none
  | _, _ => none
theorem d_cat {k : Cn} (own : Bool) : OpD k rCat (oCat own) := by
  intro fl A C H x y dx dy d C' Q hf hl st rx ry e q
  unfold oCat at e
  split at e
  · rename_i xs ys e1 e2
    split at e
    · rename_i hz
      obtain ⟨a, vs, rfl, ha, rv⟩ := vL_at st rx e1
      obtain ⟨b, ws, rfl, hb, rw⟩ := vL_at st ry e2
      refine ⟨a, b, vs, ws, rfl, rfl, ha, hb, by rw [rv.length, rw.length]; exact szN_le hz, fun p hp => ?_⟩
      obtain ⟨A2, w1, w2, w3⟩ := fresh_L (own := own) hf st (rv.append rw) hp
      have e' := Option.some.inj e
      rw [e'] at w1 w2 w3
      exact q A2 _ _ w1 w2 w3
    · cases e
  · cases e
def oRep (own : Bool) : O2 := fun x y C => match vL x C, y with
  | some xs, .int n => if (decide (-(2 ^ 63) ≤ n) && decide (n < 2 ^ 63) && szN (xs.length * n.toNat)) = true then some (mkL own (List.replicate n.toNat xs).flatten C) else none
  | _, _ => none
theorem d_rep {k : Cn} (own : Bool) : OpD k rRep (oRep own) := by
  intro fl A C H x y dx dy d C' Q hf hl st rx ry e q
  unfold oRep at e
  split at e
  · rename_i xs n e1
    split at e
    · rename_i hz
      simp only [Bool.and_eq_true, decide_eq_true_eq] at hz
      obtain ⟨a, vs, rfl, ha, rv⟩ := vL_at st rx e1
      cases ry
      refine ⟨a, n, vs, rfl, rfl, ha, hz.1.1, hz.1.2, by rw [rv.length]; exact szN_le hz.2, fun p hp => ?_⟩
      obtain ⟨A2, w1, w2, w3⟩ := fresh_L (own := own) hf st (rv.rep n.toNat) hp
      have e' := Option.some.inj e
      rw [e'] at w1 w2 w3
      exact q A2 _ _ w1 w2 w3
    · cases e
  · cases e
def oCatT : O2 := fun x y C => match vT x, vT y with
  | some xs, some ys => if szN (xs.length + ys.length) = true then (if xs.isEmpty = true then some (y, C) else if ys.isEmpty = true then some (x, C) else some (.tup (xs ++ ys), C)) else none
  | _, _ => none
theorem d_catT {k : Cn} : OpD k (rCatA k.K) oCatT := by
  intro fl A C H x y dx dy d C' Q hf hl st rx ry e q
  unfold oCatT at e
  split at e
  · rename_i xs ys e1 e2
    obtain ⟨a, vs, rfl, ha, rv⟩ := vT_at rx e1
    obtain ⟨b, ws, rfl, hb, rw⟩ := vT_at ry e2
    have z1 : vs = [] ↔ xs = [] := by
      have := rv.length
      constructor
      · intro h; subst h; exact List.length_eq_zero_iff.mp (by simpa using this.symm)
      · intro h; subst h; exact List.length_eq_zero_iff.mp (by simpa using this)
    have z2 : ws = [] ↔ ys = [] := by
      have := rw.length
      constructor
      · intro h; subst h; exact List.length_eq_zero_iff.mp (by simpa using this.symm)
      · intro h; subst h; exact List.length_eq_zero_iff.mp (by simpa using this)
    split at e
    · rename_i hz
      refine ⟨a, b, vs, ws, rfl, rfl, ha, hb, by rw [rv.length, rw.length]; exact szN_le hz, fun h => ?_, fun h h' => ?_, fun h h' p hp => ?_⟩
      · rw [if_pos (by simpa using z1.mp h)] at e
        cases e
        exact q A H _ Stp.refl st ry
      · have n1 : ¬ (xs.isEmpty = true) := by simpa using fun z => h (z1.mpr z)
        rw [if_neg n1, if_pos (by simpa using z2.mp h')] at e
        cases e
        exact q A H _ Stp.refl st rx
      · have n1 : ¬ (xs.isEmpty = true) := by simpa using fun z => h (z1.mpr z)
        have n2 : ¬ (ys.isEmpty = true) := by simpa using fun z => h' (z2.mpr z)
        rw [if_neg n1, if_neg n2] at e
        cases e
        obtain ⟨w1, w2, w3⟩ := fresh_T (fl := fl) st (rv.append rw) hp
        exact q A _ _ w1 w2 w3
    · cases e
  · cases e
/-! ### slices of lists -/
theorem cutD_rep {k : Cn} {A : Nat → Addr} {C : Store} {H : Hp} {vs : List V} {xs : List D} (r : RepL k A C H vs xs) (lo hi : Option Int) : RepL k A C H (cutV vs lo hi) (cutD xs lo hi) := by
  unfold cutV cutD
  rw [r.length]
  exact (r.drop _).take _
def LO (k : Cn) (W : WX) (m : Fr → Store → R (Option Int)) : TO := fun σ H Q => ∃ A F C, SR k A F C σ H ∧ Aft k F.fl A C H (fun _ _ _ (v d : Option Int) => v = d) (m F C) (fun _ _ _ H' v => Q v H') (fun c d H' => W c d σ H')
section
variable {X : Cx} {k : Cn} {W : WX} {σ : L2.St} {H : Hp} {Q : VK}
theorem _root_.L2.PO.cq {X : Cx} {e : Option Expr} {t t' : TO} (h : PO X e t) (c : ∀ σ H Q, t' σ H Q → t σ H Q) : PO X e t' := ⟨fun pins s σ H Q I q => h.run pins s σ H Q I (c σ H Q q)⟩
theorem do_none : PO X none (LO k W mNoPart) := po_none.cq fun σ H Q h => by
  obtain ⟨A, F, C, s, h⟩ := h
  exact h A H none Stp.refl s.st rfl
theorem do_some {e : Expr} {m : ME} (h : PE X e (LE k W m)) : PO X (some e) (LO k W (mPart m)) := (po_some h).cq fun σ H Q h => by
  obtain ⟨A, F, C, s, h⟩ := h
  refine ⟨A, F, C, s, (Aft.bnd (rel := RepD k) h).mono fun dx C1 A1 H1 x p1 st1 rx h1 => ?_⟩
  cases rx with
  | int i => exact ⟨i, rfl, h1 A1 H1 (some i) Stp.refl st1 rfl⟩
  | _ => exact h1.elim
theorem vLs_at {A : Nat → Addr} {C : Store} {v : V} {d : D} {ds : List D} (st : StOk k A C H) (r : Rep k A C H v d) (e : vLs d C = some ds) : ∃ a vs, v = .ref a ∧ SqL k.K H a vs ∧ RepL k A C H vs ds := by
  cases d with
  | scr xs =>
    cases r with
    | scr l h rv => cases e; exact ⟨_, _, rfl, .inl (.inr ⟨_, h⟩), rv⟩
    | kscr h rv => cases e; exact ⟨_, _, rfl, .inr h, rv⟩
  | lst xs => obtain ⟨a, vs, rfl, ha, rv⟩ := vL_at st r e; exact ⟨a, vs, rfl, .inl (.inl ha), rv⟩
  | cell i => obtain ⟨a, vs, rfl, ha, rv⟩ := vL_at st r e; exact ⟨a, vs, rfl, .inl (.inl ha), rv⟩
  | _ => cases e
theorem le_slL {own : Bool} {ma : ME} {l h' : Fr → Store → R (Option Int)} (h : LE k W (mSlL own ma l h') σ H Q) : tSl (rSlL k.K) (LE k W ma) (LO k W l) (LO k W h') σ H Q := by
  obtain ⟨A, F, C, s, h⟩ := h
  refine ⟨A, F, C, s, (Aft.bnd (rel := RepD k) h).mono fun dx C1 A1 H1 x p1 st1 rx h1 => ?_⟩
  have s1 := s.step p1 st1
  refine ⟨A1, F, C1, s1, (Aft.bnd (rel := fun _ _ _ (v d : Option Int) => v = d) h1).mono fun lo C2 A2 H2 lo' p2 st2 rl h2 => ?_⟩
  have rl : lo' = lo := rl
  subst rl
  have s2 := s1.step p2 st2
  refine ⟨A2, F, C2, s2, (Aft.bnd (rel := fun _ _ _ (v d : Option Int) => v = d) h2).mono fun hi C3 A3 H3 hi' p3 st3 rh h3 => ?_⟩
  have rh : hi' = hi := rh
  subst rh
  have s3 := s2.step p3 st3
  split at h3
  · rename_i xs ev
    obtain ⟨a, vs, rfl, ha, rv⟩ := vLs_at st3 (p3.rep _ _ (p2.rep _ _ rx)) ev
    refine ⟨a, vs, rfl, ha, fun p hp => ?_⟩
    obtain ⟨A4, w1, w2, w3⟩ := fresh_L (own := own) s3.fl st3 (cutD_rep rv lo' hi') hp
    exact h3 A4 _ _ w1 w2 w3
  · exact h3.elim
theorem de_slL (own : Bool) {e : Expr} {lo hi : Option Expr} {p2 pos : Pos} {ma : ME} {l h : Fr → Store → R (Option Int)} (hK : X.K = k.K) (he : PE X e (LE k W ma)) (hl : PO X lo (LO k W l)) (hu : PO X hi (LO k W h)) : PE X (.Subscript e (.Slice lo hi none p2) pos) (LE k W (mSlL own ma l h)) :=
  (pe_slice sl_list he hl hu).cq fun _ _ _ h => by
    rw [hK]
    exact le_slL h
end
end CT
set_option maxHeartbeats 4000000
/-! DLA: instances made, attributes stored, properties, isinstance. -/
namespace CT
open PySem L2 PySem.Spec PyProof.Rows
/-! ### C(..) -/
def mMake (own : Bool) (c nf : Nat) (m : MF) (dds : List D) (a : MA) : ME := fun F C => bnd (a F C) fun ds C1 => match m (.cell C1.length :: (ds ++ dds)) (C1 ++ [some (.ins c [])]) with
  | .ok .non C2 => if own = true then .ok (.cell C1.length) C2 else (match C2[C1.length]? with
    | some (some (.ins c' fs)) => if c' = c ∧ fs.length = nf ∧ cbL C1.length fs = true then .ok (.obj c fs) (C2.take C1.length) else .stuck
    | _ => .stuck)
  | .exc e C2 => if cbL C1.length e.fs = true then .exc e (C2.take C1.length) else .stuck
  | _ => .stuck
def tMakeS (Cc : Addr) (sp : Sp) (dvs : List V) (E : L2.St → XK) (t : TA) : TE := fun σ H Q => t σ H fun vs H1 => ∀ x dx, H1 x = none → H1 dx = none → dx ≠ x →
  sp (.ref x :: (vs ++ dvs)) (upd (upd H1 dx (.own x)) x (.ins Cc dx [])) (fun v H2 => v = .non ∧ Q (.ref x) H2) (E σ)
section
variable {X : Cx} {k : Cn} {W : WX} {σ : L2.St} {H : Hp} {Q : VK} {lev : Nat} {f C p g : Addr} {fd : FuncData} {ps : List Str} {np : Nat} {m : MF} {dvs : List V} {dds : List D} {ds : List Value} {x nm : Str} {pn pos apos : Pos} {e o : Expr} {es : List Expr} {ma : MA} {mo : ME}
theorem run_makeG {sp : Sp} {E : L2.St → XK} {pins : List (Addr × Obj)} {σ : L2.St} {H : Hp} {s : Shared} {Q : VK} {us : List Value} {vs : List V} (M : Mk X.K C f) (F : FnG X.prog X.w X.K X.mg X.base lev f fd ps sp) (hr : RoomG (lev + 1) X.A) (hb : Binds X.K fd ps ds) (hd : Vals dvs ds)
    (hx : ∀ σ, PassesAt (L2.CX X.prog X.w) X σ (E σ)) (I : Inv X pins σ H s) (r : Vals vs us)
    (h : ∀ x dx, H x = none → H dx = none → dx ≠ x → sp (.ref x :: (vs ++ dvs)) (upd (upd H dx (.own x)) x (.ins C dx [])) (fun v H2 => v = .non ∧ Q (.ref x) H2) (E σ)) :
    wpAny (model X.prog X.w) X.A (call (.ref C) us) (EP X pins σ Q) X.xe s := by
  have hq := h (s.heap.objs.size + 1) s.heap.objs.size (I.hok.fresh (Nat.le_succ _)) (I.hok.fresh (Nat.le_refl _)) (Nat.ne_of_lt (Nat.lt_succ_self _))
  have I2 := Inv.made (C := C) I
  have r2 : Vals (V.ref (s.heap.objs.size + 1) :: (vs ++ dvs)) (Value.ref (s.heap.objs.size + 1) :: (us ++ ds)) := .cons rfl (r.append hd)
  have hl : (Value.ref (s.heap.objs.size + 1) :: us ++ ds).length = ps.length := by
    have e := r2.length
    rw [F.len _ _ _ _ hq] at e
    exact e.symm
  refine wpAny_call (make_map (f := f) I.kIn M.makes M.init (beq_iff_eq.mp M.fn) (codeAny_mono (F.run _ X.stack _ _ ⟨Value.ref (s.heap.objs.size + 1) :: us, []⟩ (Value.ref (s.heap.objs.size + 1) :: (us ++ ds)) _ _ (E σ) (hr.make C us [])
    (I2.env0.make C us []) (hb _ (Value.ref (s.heap.objs.size + 1) :: us) I2.kIn hl) r2 hq) fun r s' hq' => ?_))
  cases r with
  | error e => exact hx σ pins _ _ e s' I2 hq'
  | ok fl =>
    cases fl with
    | ret u =>
      obtain ⟨v, H', I3, rv, ev, q3⟩ := I2.after hq'
      subst ev
      exact ⟨rv, ⟨V.ref (s.heap.objs.size + 1), H', I3, rfl, q3⟩⟩
    | next => exact False.elim hq'
    | brk => exact False.elim hq'
    | cont => exact False.elim hq'
theorem pe_makeG {sp : Sp} {E : L2.St → XK} {t : TA} (M : Mk X.K C f) (F : FnG X.prog X.w X.K X.mg X.base lev f fd ps sp) (hr : RoomG (lev + 1) X.A) (hg : Gl X x) (hm : X.mg x = some (.ref C)) (hb : Binds X.K fd ps ds) (hd : Vals dvs ds) (hx : ∀ σ, PassesAt (L2.CX X.prog X.w) X σ (E σ))
    (ha : PA X (e :: es) t) (hdb : (x == ("__debug__" : Str)) = false := by decide) (he : starEach (e :: es) X.env = (false, eval e X.env) :: starEach es X.env := by rfl) (hpl : (backTo pos (starEach es X.env)).any (·.1) = false := by rfl) :
    PE X (.Call (.Name x pn) (e :: es) [] pos) (tMakeS C sp dvs E t) := by
  refine ⟨fun pins s σ H Q I h => ?_⟩
  refine wpAny_Call_Name_kw (ld_glob I hg hm ?_ hdb)
  refine PySem.W.callWith_K (h₀ := X.base) I.ok.mod.kin M.kp (thn (ha.run pos pins s σ H _ I h) fun us s1 ⟨vs, H1, I1, r, q⟩ => ⟨I1.kIn, ?_⟩) he hpl
  exact run_makeG M F hr hb hd hx I1 r q
theorem le_make {own : Bool} {c nf : Nat} (ar : Ar np m) (hnf : (k.fn c).length = nf) (hdd : ∀ A C H, RepL k A C H dvs dds) (h : LE k W (mMake own c nf m dds ma) σ H Q) : tMakeS (k.cl c) (SpD k np m) dvs (WE W) (LA k W ma) σ H Q := by
  obtain ⟨A, F, C, s, h⟩ := h
  refine ⟨A, F, C, s, (Aft.bnd (rel := RepDs k) h).mono fun xs C1 A1 H1 vs p1 st1 r1 h1 => ?_⟩
  have s1 := s.step p1 st1
  intro x dx hx hdx hne
  have hx' : (upd H1 dx (.own x)) x = none := by rw [upd_ne (Ne.symm hne)]; exact hx
  have k1 : Kp A1 C1 H1 A1 C1 (upd H1 dx (.own x)) := kp_new hdx
  have st2 : StOk k A1 C1 (upd H1 dx (.own x)) := st1.new hdx
  have k2 : Kp A1 C1 (upd H1 dx (.own x)) (ext A1 C1.length x) (C1 ++ [some (.ins c [])]) (upd (upd H1 dx (.own x)) x (.ins (k.cl c) dx [])) := kp_cell (k := k) st2 hx'
  have st3 : StOk k (ext A1 C1.length x) (C1 ++ [some (.ins c [])]) (upd (upd H1 dx (.own x)) x (.ins (k.cl c) dx [])) := st2.cell hx' ⟨dx, [], upd_same, Nat.zero_le _, .nil⟩
  have pp : Stp k C1.length A1 C1 H1 (ext A1 C1.length x) (C1 ++ [some (.ins c [])]) (upd (upd H1 dx (.own x)) x (.ins (k.cl c) dx [])) := (k1.stp0).trans (k2.stp fun f h1 h2 l => low_app h2 l)
  have ppF := pp.less s1.fl
  have n1 : C1.length < (C1 ++ [some (Cell.ins c [])]).length := by simp
  have rs : RepL k (ext A1 C1.length x) (C1 ++ [some (.ins c [])]) (upd (upd H1 dx (.own x)) x (.ins (k.cl c) dx [])) (.ref x :: (vs ++ dvs)) (.cell C1.length :: (xs ++ dds)) := .cons (rep_new C1.length _) ((pp.reps r1).append (hdd _ _ _))
  have low0 : LowC C1.length (C1 ++ [some (Cell.ins c [])]) := low_app (Nat.le_refl _) st1.low
  refine sp_of (fl := C1.length) (Nat.le_of_lt n1) ar st3 rs ?_
  cases em : m (.cell C1.length :: (xs ++ dds)) (C1 ++ [some (.ins c [])]) with
  | ok d C2 =>
    rw [em] at h1
    intro A3 H3 v p3 st4 r3
    obtain ⟨ha3, hl3⟩ := cell_at p3 (ext_at A1 C1.length x) n1
    have p3n : Stp k C1.length A1 C1 H1 A3 C2 H3 := pp.trans p3
    have low3 : LowC C1.length C2 := p3.low _ (Nat.le_refl _) (Nat.le_of_lt n1) low0
    cases d with
    | non =>
      cases r3
      refine ⟨rfl, ?_⟩
      simp only at h1
      cases own with
      | true =>
        rw [if_pos rfl] at h1
        have r : Rep k A3 C2 H3 (.ref (A3 C1.length)) (.cell C1.length) := .cell hl3
        rw [ha3] at r
        exact h1 A3 H3 _ (p3n.less s1.fl) st4 r
      | false =>
        rw [if_neg (by decide)] at h1
        split at h1
        · rename_i c' fs ec
          split at h1
          · rename_i hc
            obtain ⟨rfl, hfs, hcb⟩ := hc
            obtain ⟨dx3, ws, hw, hle, rw3⟩ := st4.at_ _ _ ec
            have tl : (C2.take C1.length).length = C1.length := by rw [List.length_take]; omega
            have p4 : Stp k F.fl A1 C1 H1 A3 (C2.take C1.length) H3 := ⟨fun v d r => (p3n.rep v d r).cut (Nat.le_of_lt hl3) r.cb, by rw [tl]; exact Nat.le_refl _, fun f h1 h2 l => low_take ((p3n.less s1.fl).low f h1 h2 l)⟩
            refine h1 A3 H3 _ p4 (st4.take (Nat.le_of_lt hl3) low3) ?_
            rw [← ha3]
            refine .obj (fun l => ?_) (dx := dx3) (vs := ws) ?_ ?_ (rw3.cut (Nat.le_of_lt hl3) hcb)
            · obtain ⟨i, c, e, z⟩ := l
              by_cases hi : i < C1.length
              · rw [List.getElem?_take_of_lt hi] at e
                exact absurd (st4.inj i _ _ _ e ec z) (Nat.ne_of_lt hi)
              · rw [List.getElem?_eq_none (by rw [tl]; omega)] at e
                cases e
            · rw [hw, hfs, ← hnf, List.take_length]
            · rw [rw3.length, hfs, hnf]
          · exact h1.elim
        · exact h1.elim
    | _ => simp only at h1; exact h1.elim
  | exc e C2 =>
    rw [em] at h1
    simp only at h1
    intro A3 H3 dd ws p3 st4 hx3 hl3' r3
    obtain ⟨ha3, hl3⟩ := cell_at p3 (ext_at A1 C1.length x) n1
    have p3n : Stp k C1.length A1 C1 H1 A3 C2 H3 := pp.trans p3
    have low3 : LowC C1.length C2 := p3.low _ (Nat.le_refl _) (Nat.le_of_lt n1) low0
    split at h1
    · rename_i hcb
      have tl : (C2.take C1.length).length = C1.length := by rw [List.length_take]; omega
      have p4 : Stp k F.fl A1 C1 H1 A3 (C2.take C1.length) H3 := ⟨fun v d r => (p3n.rep v d r).cut (Nat.le_of_lt hl3) r.cb, by rw [tl]; exact Nat.le_refl _, fun f h1 h2 l => low_take ((p3n.less s1.fl).low f h1 h2 l)⟩
      exact h1 A3 H3 dd ws p4 (st4.take (Nat.le_of_lt hl3) low3) hx3 hl3' (r3.cut (Nat.le_of_lt hl3) hcb)
    · exact h1.elim
  | stuck =>
    rw [em] at h1
    exact h1.elim
theorem de_make (own : Bool) (c nf : Nat) (tk : Takes X W) (hK : X.K = k.K) (M : Mk k.K (k.cl c) f) (F : FnG X.prog X.w X.K X.mg X.base lev f fd ps (SpD k np m)) (ar : Ar np m) (hnf : (k.fn c).length = nf) (hr : RoomG (lev + 1) X.A) (hg : Gl X x) (hm : X.mg x = some (.ref (k.cl c))) (hb : Binds X.K fd ps ds) (hd : Vals dvs ds) (hdd : ∀ A C H, RepL k A C H dvs dds)
    (ha : PA X (e :: es) (LA k W ma)) (hdb : (x == ("__debug__" : Str)) = false := by decide) (he : starEach (e :: es) X.env = (false, eval e X.env) :: starEach es X.env := by rfl) (hpl : (backTo pos (starEach es X.env)).any (·.1) = false := by rfl) :
    PE X (.Call (.Name x pn) (e :: es) [] pos) (LE k W (mMake own c nf m dds ma)) := (pe_makeG (by rw [hK]; exact M) F hr hg hm hb hd (fun σ => passAt tk σ) ha hdb he hpl).cq fun _ _ _ h => le_make ar hnf hdd h
/-! ### o.f = e -/
def sFldS (c n : Nat) (me mo : ME) : MS := fun F C => bndS F.sl (me F C) fun v C1 => bndS F.sl (mo F C1) fun o C2 => match o with
  | .cell i => match C2[i]? with
    | some (some (.ins c' fs)) => if c' = c ∧ n ≤ fs.length then (match wr F.fl i (.ins c (if n < fs.length then fs.set n v else fs ++ [v])) C2 with
      | some C3 => .nx F.sl C3
      | none => .stuck) else .stuck
    | _ => .stuck
  | _ => .stuck
end
theorem putF_set {y : V} {f : Str} : ∀ {names : List Str} {vs : List V} {n : Nat}, names.Nodup → vs.length = names.length → names[n]? = some f → putF f y (names.zip vs) = names.zip (vs.set n y)
  | [], _, _, _, _, h => by simp at h
  | a :: r, [], _, _, hl, _ => by simp at hl
  | a :: r, b :: t, 0, nd, hl, h => by
    simp at h
    subst h
    simp [putF]
  | a :: r, b :: t, n + 1, nd, hl, h => by
    simp at h hl
    simp only [List.nodup_cons] at nd
    have ne : ¬ (a = f) := fun e => nd.1 (by rw [e]; exact List.mem_of_getElem? h)
    rw [List.zip_cons_cons, List.set_cons_succ, List.zip_cons_cons]
    show (if a = f then _ else (a, b) :: putF f y (r.zip t)) = _
    rw [if_neg ne, putF_set nd.2 hl h]
theorem putF_new {y : V} {f : Str} : ∀ {names : List Str} {vs : List V}, f ∉ names → vs.length = names.length → putF f y (names.zip vs) = (names ++ [f]).zip (vs ++ [y])
  | [], [], _, _ => rfl
  | [], _ :: _, _, hl => by simp at hl
  | a :: r, [], _, hl => by simp at hl
  | a :: r, b :: t, h, hl => by
    simp only [List.mem_cons, not_or] at h
    simp at hl
    rw [List.zip_cons_cons]
    show (if a = f then _ else (a, b) :: putF f y (r.zip t)) = _
    rw [if_neg (fun e => h.1 e.symm), putF_new h.2 hl]
    rfl
section
variable {X : Cx} {k : Cn} {W : WX} {σ : L2.St} {H : Hp} {E : Ends} {e o : Expr} {me mo : ME} {pos pos' : Pos}
theorem ls_fld {c n : Nat} {f : Str} (hc : Cls k.K (k.cl c)) (hno : NoAttr k.K (k.cl c) f) (nd : (k.fn c).Nodup) (hf : (k.fn c)[n]? = some f) (h9 : (k.fn c).length < 1000) (h : LS k W (sFldS c n me mo) E σ H) : sFld k.K (LE k W mo) (LE k W me) f E σ H := by
  obtain ⟨A, F, C, s, h⟩ := h
  refine ⟨A, F, C, s, (AftS.bnd (rel := RepD k) s h).mono fun dv C1 A1 H1 v p1 st1 rv h1 => ?_⟩
  have s1 := s.step p1 st1
  refine ⟨A1, F, C1, s1, (AftS.bnd (rel := RepD k) s1 h1).mono fun dO C2 A2 H2 o p2 st2 ro h2 => ?_⟩
  have s2 := s1.step p2 st2
  cases ro with
  | @cell i hi =>
    simp only at h2
    split at h2
    · rename_i c' fs ec
      split at h2
      · rename_i hcn
        obtain ⟨rfl, hn⟩ := hcn
        cases ew : wr F.fl i (.ins c' (if n < fs.length then fs.set n dv else fs ++ [dv])) C2 with
        | none => simp only [ew] at h2; exact h2.elim
        | some C3 =>
          simp only [ew] at h2
          obtain ⟨dx, vs, ha, hle, rvs⟩ := st2.at_ i _ ec
          have hnl : n < (k.fn c').length := (List.getElem?_eq_some_iff.mp hf).1
          obtain ⟨rfl, hcb⟩ := wr_some ew
          have hz : (((k.fn c').take fs.length).zip vs).length < 1000 := by rw [List.length_zip, List.length_take]; omega
          refine ⟨A2 i, k.cl c', dx, _, rfl, ha, hc, hno, hz, ?_⟩
          have vl : vs.length = ((k.fn c').take fs.length).length := by rw [rvs.length, List.length_take]; omega
          have rv2 := p2.rep _ _ rv
          by_cases hlt : n < fs.length
          · rw [if_pos hlt] at h2 hcb
            have e1 : putF f v (((k.fn c').take fs.length).zip vs) = ((k.fn c').take (fs.set n dv).length).zip (vs.set n v) := by
              rw [List.length_set]
              exact putF_set (nd.sublist (List.take_sublist _ _)) vl (by rw [List.getElem?_take_of_lt hlt]; exact hf)
            rw [e1]
            have q : Kp A2 C2 H2 A2 (C2.set i (some (.ins c' (fs.set n dv)))) (upd H2 (A2 i) (.ins (k.cl c') dx (((k.fn c').take (fs.set n dv).length).zip (vs.set n v)))) := kp_write ec
            have w1 : Stp k F.fl A2 C2 H2 A2 _ _ := q.stp fun f h1 h2 l => low_set hcb h1 l
            have w2 : StOk k A2 _ _ := st2.write ec (c := .ins c' (fs.set n dv)) ⟨dx, vs.set n v, upd_same, by simpa using hle, (rvs.set rv2 n).kp q⟩
            exact h2 A2 σ _ w1 (s2.step w1 w2)
          · have en : n = fs.length := by omega
            rw [if_neg hlt] at h2 hcb
            have e1 : putF f v (((k.fn c').take fs.length).zip vs) = ((k.fn c').take (fs ++ [dv]).length).zip (vs ++ [v]) := by
              have e2 : (k.fn c').take (fs ++ [dv]).length = (k.fn c').take fs.length ++ [f] := by
                rw [List.length_append, List.length_singleton, List.take_add_one, ← en, hf]
                rfl
              rw [e2]
              refine putF_new (fun hm => ?_) vl
              obtain ⟨j, hj⟩ := List.mem_iff_getElem?.mp hm
              have hjl : j < fs.length := by
                have := (List.getElem?_eq_some_iff.mp hj).1
                rw [List.length_take] at this
                omega
              rw [List.getElem?_take_of_lt hjl] at hj
              have := nd_ix nd hj hf
              omega
            rw [e1]
            have q : Kp A2 C2 H2 A2 (C2.set i (some (.ins c' (fs ++ [dv])))) (upd H2 (A2 i) (.ins (k.cl c') dx (((k.fn c').take (fs ++ [dv]).length).zip (vs ++ [v])))) := kp_write ec
            have w1 : Stp k F.fl A2 C2 H2 A2 _ _ := q.stp fun f h1 h2 l => low_set hcb h1 l
            have w2 : StOk k A2 _ _ := st2.write ec (c := .ins c' (fs ++ [dv])) ⟨dx, vs ++ [v], upd_same, by simp; omega, (rvs.append (.cons rv2 .nil)).kp q⟩
            exact h2 A2 σ _ w1 (s2.step w1 w2)
      · exact h2.elim
    · exact h2.elim
  | _ => exact h2.elim
theorem ds_fld (c n : Nat) {f : Str} (hK : X.K = k.K) (hc : Cls k.K (k.cl c)) (hno : NoAttr k.K (k.cl c) f) (nd : (k.fn c).Nodup) (hf : (k.fn c)[n]? = some f) (h9 : (k.fn c).length < 1000) (ho : PE X o (LE k W mo)) (he : PE X e (LE k W me)) (hs : swapsWith e (some (.Attribute o f pos')) pos.line X.env = pure false := by rfl) :
    PS X (.Assign [.Attribute o f pos'] e pos) (LS k W (sFldS c n me mo)) := (ps_fld ho he hs).cq fun _ _ _ h => by
  rw [hK]
  exact ls_fld hc hno nd hf h9 h
end
end CT
set_option maxHeartbeats 4000000
/-! DLB: properties, isinstance, comprehensions as statements, two clauses. -/
namespace CT
open PySem L2 PySem.Spec PyProof.Rows
/-! ### o.f, a property -/
def tPropS (Cc : Addr) (sp : Sp) (ta : TE) : TE := fun σ H Q => ta σ H fun x H1 => ∃ a dx fs, x = .ref a ∧ H1 a = some (.ins Cc dx fs) ∧ sp [.ref a] H1 Q E0
section
variable {X : Cx} {k : Cn} {W : WX} {σ : L2.St} {H : Hp} {Q : VK} {lev : Nat} {C p g a dx : Addr} {fs : List (Str × V)} {f : Str} {fd : FuncData} {ps : List Str} {np : Nat} {m : MF} {e o : Expr} {pos : Pos} {ta : TE} {mo : ME}
theorem getprop_G {sp : Sp} {pins : List (Addr × Obj)} {σ : L2.St} {H : Hp} {s : Shared} {Q : VK} {b : Bool} (I : Inv X pins σ H s) (ea : H a = some (.ins C dx fs)) (c : Cls X.K C) (hp : PropOf X.K C f p g)
    (F : FnG X.prog X.w X.K X.mg X.base lev g fd ps sp) (hr : RoomG (lev + 1) X.A) (hb : Binds X.K fd ps []) (h : sp [.ref a] H Q E0) :
    wpAny (model X.prog X.w) X.A (getAttr (.ref a) f b) (EP X pins σ Q) X.xe s := by
  obtain ⟨mA, O, _, _, _, _⟩ := ins_get I.hok ea
  obtain ⟨od, J, _⟩ := O.look
  obtain ⟨rest, hrec⟩ := hp.rec_
  have I1 := I.tok (s.toks + 1)
  have hl : ([Value.ref a] ++ []).length = ps.length := by
    rw [← F.len _ _ _ _ h]
    rfl
  have hc : (PySem.W.clsIn X.K C).isSome = true := by
    obtain ⟨cd, hc, _⟩ := PySem.W.any_some c.hd
    rw [hc]
    rfl
  refine PySem.W.get_bind I.kIn J (PySem.W.plainGet_of (c.get f)).1 (PySem.W.findObj_data hc hp.at_ hp.get hp.tak) (PySem.W.plainGet_of (c.get f)).2 (wpAny_call (PySem.W.prop_get (s := { s with toks := s.toks + 1 }) I.kIn hrec ?_))
  refine codeAny_mono (F.run X.A.in1 X.stack { s with toks := s.toks + 1 } H ⟨[.ref a], []⟩ [.ref a] [.ref a] Q E0 hr.in1 I1.env0.in1 (by simpa using hb _ [.ref a] I1.kIn hl) (.cons rfl .nil) h) fun r s' hq => ?_
  cases r with
  | error er =>
    obtain ⟨_, _, _, _, _, _, _, _, _, _, _, _, z⟩ := hq
    exact z.elim
  | ok fl =>
    cases fl with
    | ret u =>
      obtain ⟨v, H', I3, rv, q3⟩ := I1.after hq
      show wpAny _ _ (handedOut u) _ _ _
      rw [PySem.W.handedOut_of (handed_of rv)]
      exact wpAny_pure ⟨v, H', I3, rv, q3⟩
    | next => exact False.elim hq
    | brk => exact False.elim hq
    | cont => exact False.elim hq
theorem pe_propG {sp : Sp} (he : PE X e ta) (c : Cls X.K C) (hp : PropOf X.K C f p g) (F : FnG X.prog X.w X.K X.mg X.base lev g fd ps sp) (hr : RoomG (lev + 1) X.A) (hb : Binds X.K fd ps [])
    (hab : attributeBase e f X.env (eval e X.env) = eval e X.env) : PE X (.Attribute e f pos) (tPropS C sp ta) := by
  refine ⟨fun pins s σ H Q I h => ?_⟩
  refine attr_of hab (thn (he.run pins s σ H _ I h) fun u s1 ⟨x, H1, I1, rx, a, dx, fs, ex, ea, q⟩ => ?_)
  subst ex
  obtain rfl : u = Value.ref a := rx
  exact getprop_G I1 ea c hp F hr hb q
theorem le_prop {c : Nat} (ar : Ar np m) (h : LE k W (mProp c m mo) σ H Q) : tPropS (k.cl c) (SpD k np m) (LE k W mo) σ H Q := by
  obtain ⟨A, F, C, s, h⟩ := h
  refine ⟨A, F, C, s, (Aft.bnd (rel := RepD k) h).mono fun dx C1 A1 H1 v p1 st1 r1 h1 => ?_⟩
  split at h1
  · rename_i c' fs ev
    split at h1
    · rename_i hcc
      subst hcc
      obtain ⟨a, dx', vs, rfl, ha, hle, rv⟩ := vO_at st1 r1 ev
      refine ⟨a, dx', _, rfl, ha, sp_of (s.step p1 st1).fl ar st1 (.cons r1 .nil) ?_⟩
      cases em : m [dx] C1 with
      | ok d C2 => rw [em] at h1; exact h1
      | exc e C2 => rw [em] at h1; exact h1.elim
      | stuck => rw [em] at h1; exact h1.elim
    · exact h1.elim
  · exact h1.elim
theorem de_prop (c : Nat) (hK : X.K = k.K) (he : PE X o (LE k W mo)) (hc : Cls k.K (k.cl c)) (hp : PropOf k.K (k.cl c) f p g) (F : FnG X.prog X.w X.K X.mg X.base lev g fd ps (SpD k np m)) (ar : Ar np m) (hr : RoomG (lev + 1) X.A) (hb : Binds X.K fd ps [])
    (hab : attributeBase o f X.env (eval o X.env) = eval o X.env := by rfl) : PE X (.Attribute o f pos) (LE k W (mProp c m mo)) :=
  (pe_propG he (by rw [hK]; exact hc) (by rw [hK]; exact hp) F hr hb hab).cq fun _ _ _ h => le_prop ar h
end
/-! ### isinstance -/
theorem isaT_ok : ∀ a b : Bt, kitB a.name b.name = some (isaT a b) := by
  intro a b
  cases a <;> cases b <;> decide +kernel
/-- what the written part says of the own classes in kn -/
structure IsaOk (k : Cn) (kn : List Nat) : Prop where
  ins : ∀ c ∈ kn, C8.InsC k.K (k.cl c)
  own : ∀ c ∈ kn, ∀ c' ∈ kn, PySem.W.kitOne k.K (.ref (k.cl c)) (.ref (k.cl c')) = some (decide (c = c'))
  bty : ∀ c ∈ kn, ∀ b : Bt, PySem.W.kitOne k.K (.ref (k.cl c)) (.type b.name) = some false
  tyb : ∀ c ∈ kn, ∀ b : Bt, PySem.W.kitOne k.K (.type b.name) (.ref (k.cl c)) = some false
def Cc.inn (kn : List Nat) : Cc → Bool
  | .ty _ => true
  | .own c => decide (c ∈ kn)
section
variable {X : Cx} {k : Cn} {W : WX} {σ : L2.St} {H : Hp} {Q : VK}
theorem isi_ok {kn : List Nat} (ok : IsaOk k kn) {A : Nat → Addr} {C : Store} {v : V} {d : D} {t : Cc} {b : Bool} (ht : t.inn kn = true) (st : StOk k A C H) (r : Rep k A C H v d) (e : isi kn d C t = some b) : ∃ c0 : Cc, tyD d C = some c0 ∧ TyX k.K H v (c0.val k) ∧ PySem.W.kitOne k.K (c0.val k) (t.val k) = some b := by
  have base : ∀ a : Bt, tyD d C = some (.ty a) → PySem.W.kitOne k.K (.type a.name) (t.val k) = some b := fun a ea => by
    unfold isi at e
    rw [ea] at e
    cases t with
    | ty b' =>
      cases e
      exact kit_ty (isaT_ok a b')
    | own c =>
      cases e
      exact ok.tyb c (of_decide_eq_true ht) a
  have inst : ∀ c fs dx (a : Addr), tyD d C = some (.own c) → H a = some (.ins (k.cl c) dx fs) → ∃ c0 : Cc, tyD d C = some c0 ∧ TyX k.K H (.ref a) (c0.val k) ∧ PySem.W.kitOne k.K (c0.val k) (t.val k) = some b := fun c fs dx a ea ha => by
    unfold isi at e
    rw [ea] at e
    simp only at e
    split at e
    · rename_i hc
      have I := ok.ins c hc
      refine ⟨.own c, ea, .base (.ins ha I.cl I.ha I.hn I.htk I.hm), ?_⟩
      cases t with
      | ty b' => cases e; exact ok.bty c hc b'
      | own c' => cases e; exact ok.own c hc c' (of_decide_eq_true ht)
    · cases e
  cases r with
  | non => exact ⟨.ty .none, rfl, .base .non, base .none rfl⟩
  | bl b => exact ⟨.ty .bool, rfl, .base (.bl b), base .bool rfl⟩
  | int i => exact ⟨.ty .int, rfl, .base (.int i), base .int rfl⟩
  | str s => exact ⟨.ty .str, rfl, .base (.str s), base .str rfl⟩
  | lst l h rv => exact ⟨.ty .list, rfl, .base (.lst h), base .list rfl⟩
  | tup l h rv => exact ⟨.ty .tuple, rfl, .base (.tup h), base .tuple rfl⟩
  | ktup h rv =>
    obtain ⟨o, its, n, h1, h2, _⟩ := h
    exact ⟨.ty .tuple, rfl, .kTuple h1 h2, base .tuple rfl⟩
  | scr l h rv => cases e
  | kscr h rv => cases e
  | obj l h z rv => exact inst _ _ _ _ rfl h
  | exn x l h z rv => cases e
  | cls c => cases e
  | dT l h rv => exact ⟨.ty .dict, rfl, .base (.dT h), base .dict rfl⟩
  | @cell i hi =>
    cases ec : C[i]? with
    | none => simp only [isi, tyD, ec] at e; cases e
    | some oc =>
      cases oc with
      | none => simp only [isi, tyD, ec] at e; cases e
      | some c =>
        cases c with
        | lst xs =>
          obtain ⟨vs, hv, _⟩ := st.at_ i _ ec
          exact ⟨.ty .list, by simp only [tyD, ec], .base (.lst hv), base .list (by simp only [tyD, ec])⟩
        | dT ks xs =>
          obtain ⟨vs, hv, _⟩ := st.at_ i _ ec
          exact ⟨.ty .dict, by simp only [tyD, ec], .base (.dT hv), base .dict (by simp only [tyD, ec])⟩
        | ins c xs =>
          obtain ⟨dx, vs, hv, _⟩ := st.at_ i _ ec
          exact inst c _ dx _ (by simp only [tyD, ec]) hv
theorem le_isi {kn : List Nat} {t : Cc} {m : ME} (ok : IsaOk k kn) (ht : t.inn kn = true) (h : LE k W (mIsi kn t m) σ H Q) : tCB (rIsi k.K) (tCons (LE k W m) (tCons (tC (t.v k)) tNil)) σ H Q := by
  obtain ⟨A, F, C, s, h⟩ := h
  refine ⟨A, F, C, s, (Aft.bnd (rel := RepD k) h).mono fun d C1 A1 H1 v p1 st1 r1 h1 => ?_⟩
  split at h1
  · rename_i b e
    obtain ⟨c0, _, h2, h3⟩ := isi_ok ok ht st1 r1 e
    exact ⟨v, t.v k, c0.val k, t.val k, b, rfl, t.cls, h2, h3, h1 A1 H1 _ Stp.refl st1 (.bl b)⟩
  · exact h1.elim
theorem le_isi2 {kn : List Nat} {t u : Cc} {m : ME} (ok : IsaOk k kn) (ht : t.inn kn = true) (hu : u.inn kn = true) (h : LE k W (mIsi2 kn t u m) σ H Q) : tCB (rIsiT k.K) (tCons (LE k W m) (tCons (tTup (tCons (tC (t.v k)) (tCons (tC (u.v k)) tNil))) tNil)) σ H Q := by
  obtain ⟨A, F, C, s, h⟩ := h
  refine ⟨A, F, C, s, (Aft.bnd (rel := RepD k) h).mono fun d C1 A1 H1 v p1 st1 r1 h1 => ?_⟩
  split at h1
  · rename_i b b' e e'
    refine ⟨by show 2 ≤ sizeLine; decide, fun p hp => ?_⟩
    have q : Kp A1 C1 H1 A1 C1 (upd H1 p (.tup [t.v k, u.v k])) := kp_new hp
    have r2 := r1.kp (k := k) q
    have st2 := st1.new (o := .tup [t.v k, u.v k]) hp
    obtain ⟨c0, g1, h2, h3⟩ := isi_ok ok ht st2 r2 e
    obtain ⟨c1, g2, h2', h3'⟩ := isi_ok ok hu st2 r2 e'
    rw [g1] at g2
    cases g2
    refine ⟨v, p, [t.v k, u.v k], c0.val k, [t.val k, u.val k], b || b', rfl, upd_same, .cons t.cls (.cons u.cls .nil), h2, ?_, h1 A1 _ _ q.stp0 st2 (.bl _)⟩
    refine kitAny_cons h3 (fun hb => ?_) fun hb => by rw [hb]; rfl
    refine kitAny_cons h3' (fun hb' => ?_) fun hb' => by rw [hb']; simp
    rw [hb, hb']
    rfl
  · exact h1.elim
end
end CT
set_option maxHeartbeats 4000000
/-! DLC: isinstance as an expression; comprehensions that are assigned, and of two clauses; xs[i] += e; membership; list(range(..)). -/
namespace CT
open PySem L2 PySem.Spec PyProof.Rows
section
variable {X : Cx} {k : Cn} {W : WX} {σ : L2.St} {H : Hp} {Q : VK} {E : Ends}
theorem de_isi {e c : Expr} {p pos : Pos} {kn : List Nat} {t : Cc} {m : ME} (hg : Gl X "isinstance") (hm : X.mg "isinstance" = none) (ok : IsaOk k kn) (ht : t.inn kn = true) (hK : X.K = k.K) (he : PE X e (LE k W m)) (hc : PE X c (tC (t.v k)))
    (hs : starEach [e, c] X.env = (false, eval e X.env) :: starEach [c] X.env := by rfl) (hs2 : starEach [c] X.env = (false, eval c X.env) :: starEach [] X.env := by rfl) (hpl : (backTo pos (starEach [c] X.env)).any (·.1) = false := by rfl) : PE X (.Call (.Name "isinstance" p) [e, c] [] pos) (LE k W (mIsi kn t m)) :=
  (pe_callB call_isi hg hm (by decide +kernel) (pa_cons he (pa_cons hc pa_nil hs2) hs) (he := hs) (hpl := hpl)).cq fun _ _ _ h => by
    rw [hK]
    exact le_isi ok ht h
theorem de_isi2 {e c c' : Expr} {p pos tp : Pos} {kk : Nat} {kn : List Nat} {t u : Cc} {m : ME} (hg : Gl X "isinstance") (hm : X.mg "isinstance" = none) (ok : IsaOk k kn) (ht : t.inn kn = true) (hu : u.inn kn = true) (hK : X.K = k.K) (he : PE X e (LE k W m)) (hc : PE X c (tC (t.v k))) (hc' : PE X c' (tC (u.v k)))
    (hs : starEach [e, .Tuple [c, c'] kk tp] X.env = (false, eval e X.env) :: starEach [.Tuple [c, c'] kk tp] X.env := by rfl) (hs2 : starEach [.Tuple [c, c'] kk tp] X.env = (false, eval (.Tuple [c, c'] kk tp) X.env) :: starEach [] X.env := by rfl) (hpl : (backTo pos (starEach [.Tuple [c, c'] kk tp] X.env)).any (·.1) = false := by rfl)
    (h3 : starEach [c, c'] X.env = (false, eval c X.env) :: starEach [c'] X.env := by rfl) (h4 : starEach [c'] X.env = (false, eval c' X.env) :: starEach [] X.env := by rfl) : PE X (.Call (.Name "isinstance" p) [e, .Tuple [c, c'] kk tp] [] pos) (LE k W (mIsi2 kn t u m)) :=
  (pe_callB call_isiT hg hm (by decide +kernel) (pa_cons he (pa_cons (pe_tup (pa_cons hc (pa_cons hc' pa_nil h4) h3)) pa_nil hs2) hs) (he := hs) (hpl := hpl)).cq fun _ _ _ h => by
    rw [hK]
    exact le_isi2 ok ht hu h
/-! ### tests of a clause -/
theorem _root_.L2.PTs.cq {X : Cx} {e : List Expr} {t t' : TT} (h : PTs X e t) (c : ∀ σ H Q, t' σ H Q → t σ H Q) : PTs X e t' := ⟨fun pins s σ H Q I q => h.run pins s σ H Q I (c σ H Q q)⟩
theorem dts_nil : PTs X [] (LT k W tYesM) := pts_nil.cq fun σ H Q h => by
  obtain ⟨A, F, C, s, h⟩ := h
  exact h A H true Stp.refl s.st rfl
/-! ### y = [..] -/
theorem ds_setLc {i : Nat} {y : Str} {py : Pos} {elt tg iter : Expr} {ifs : List Expr} {scope : Scope} {own : List (Str × Nat)} {pos spos : Pos} {mi : MI} {t : Tgt} {tt : MT} {te : ME} (ow : Bool) (hK : X.K = k.K) (hc : X.calm = true) (hN : X.N.Nodup) (hy : X.N[i]? = some y) (hyl : X.env.scope.names.lookup y = some .local)
    (hsw : swapsWith (.ListComp elt [⟨tg, iter, ifs, 0⟩] scope pos) (some (.Name y py)) spos.line X.env = pure true) (hi : PI X tg iter (LI k W mi)) (ok : BlkOk X.N X.env.scope scope own) (hv : ∀ i ∈ t.slots, i ∈ own.map (·.2))
    (hg : ∀ (s : Shared) (H : Hp) (C : Addr) (cl : List (Str × Addr)) (fp : List Addr), PG (X.blk s H scope (compEnvC scope cl C X.env) fp) tg (t.T k.K)) (ht : ∀ (s : Shared) (H : Hp) (C : Addr) (cl : List (Str × Addr)) (fp : List Addr), PTs (X.blk s H scope (compEnvC scope cl C X.env) fp) ifs (LT k WF tt))
    (he : ∀ (s : Shared) (H : Hp) (C : Addr) (cl : List (Str × Addr)) (fp : List Addr), PE (X.blk s H scope (compEnvC scope cl C X.env) fp) elt (LE k WF te)) (hs : ∀ x, foldedSetIterable iter X.env x = pure x := by intro _; rfl) :
    PS X (.Assign [.Name y py] (.ListComp elt [⟨tg, iter, ifs, 0⟩] scope pos) spos) (LS k W (sAsg (mLc ow mi t.M tt te (own.map (·.2))) (gN i))) :=
  (ps_setLc hc hN hy hyl hsw hi ok hg ht he hs).cq fun _ _ _ h => le_lc hv (ls_asg2 (t := .nm i) h)
/-! ### two clauses -/
def lc2N (it : ItD) (g : MG) (tt : MT) (mi1 : MI) (g1 : MG) (tt1 : MT) (te : ME) (n : Nat) (sl : List (Option D)) (vs1 : List Nat) : Nat → Nat → Store → R Unit
  | 0, _, C => if it.fin C = true then .ok () C else .stuck
  | r + 1, j, C => match it.item j C with
    | none => .stuck
    | some d => match g d sl with
      | none => .stuck
      | some sl1 => bn0 (tt ⟨n, sl1⟩ C) fun b C1 => if b = true then bn0 (mi1 ⟨n, sl1⟩ C1) fun it1 C2 => bn0 (lcN it1 g1 tt1 te n (wipeD sl1 vs1) it1.n 0 C2) fun _ C3 => lc2N it g tt mi1 g1 tt1 te n sl vs1 r (j + 1) C3
        else lc2N it g tt mi1 g1 tt1 te n sl vs1 r (j + 1) C1
def mLc2 (own : Bool) (mi : MI) (g : MG) (tt : MT) (mi1 : MI) (g1 : MG) (tt1 : MT) (te : ME) (vs vs1 : List Nat) : ME := fun F C => bnd (mi F C) fun it C1 => bn0 (lc2N it g tt mi1 g1 tt1 te C1.length (wipeD F.sl vs) vs1 it.n 0 (C1 ++ [some (.lst [])])) fun _ C2 => lcEnd own C1.length C2
theorem bn0_out {α β : Type} {m : R α} {f : α → Store → R β} {b : β} {C : Store} (h : bn0 m f = .ok b C) : ∃ a C1, m = .ok a C1 ∧ f a C1 = .ok b C := by
  cases m with
  | ok a C1 => exact ⟨a, C1, rfl, h⟩
  | exc e C1 => cases h
  | stuck => cases h
/-- the inner loop -/
theorem lc_inner {fl n : Nat} {J : It} {it : ItD} {t : Tgt} {tt : MT} {te : ME} {vs : List Nat} {sl0 : List (Option D)} {A : Nat → Addr} {C C3 : Store} {Dl : Addr} {Nx : Hp → Prop} (hv : ∀ i ∈ t.slots, i ∈ vs) (hf : fl ≤ n) (ok : ItOk k fl J it A C H) (sr : SR k A ⟨n, sl0⟩ C σ H) (hn : n < C.length) (ha : A n = Dl)
    (e : lcN it t.M tt te n (wipeD sl0 vs) it.n 0 C = .ok () C3) (hN : ∀ A' H', Stp k n A C H A' C3 H' → StOk k A' C3 H' → Nx H') :
    ∃ W1 : Nat → Nat → Hp → Prop, (∃ m, W1 0 m H) ∧ ∀ i m H, W1 i m H → (J.stop i H ∧ Nx H) ∨ (J.go i H ∧ ∃ Nx1 : Hp → Prop, (∀ H', Nx1 H' → ∃ m', m' < m ∧ W1 (i + 1) m' H') ∧ ∀ x H', J.yld i H x H' → t.T k.K x (L2.wipe σ vs) H' fun σ3 H5 => L2.wipe σ3 vs = L2.wipe σ vs ∧ LT k WF tt σ3 H5 fun b H6 =>
      if b = true then LE k WF te σ3 H6 fun y H7 => ∃ acc, H7 Dl = some (.lst acc) ∧ acc.length < sizeLine ∧ Nx1 (upd H7 Dl (.lst (acc ++ [y]))) else Nx1 H6) := by
  refine ⟨fun i m H' => ∃ A' C', m = it.n - i ∧ i ≤ it.n ∧ Stp k n A C H A' C' H' ∧ StOk k A' C' H' ∧ lcN it t.M tt te n (wipeD sl0 vs) (it.n - i) i C' = .ok () C3,
    ⟨it.n, _, _, rfl, Nat.zero_le _, Stp.refl, sr.st, e⟩, ?_⟩
  rintro i m H' ⟨A', C', rfl, hi, p, st', h'⟩
  obtain ⟨ha', hl'⟩ := cell_at p ha hn
  have low' : LowC n C' := p.low _ (Nat.le_refl _) (Nat.le_of_lt hn) sr.low
  obtain ⟨o1, o2⟩ := ok A' C' H' (p.less hf) st'
  cases er : it.n - i with
  | zero =>
    rw [er] at h'
    unfold lcN at h'
    have e : i = it.n := by omega
    split at h'
    · rename_i hf
      cases h'
      subst e
      exact .inl ⟨o2 hf, hN A' H' p st'⟩
    · cases h'
  | succ r =>
    rw [er] at h'
    unfold lcN at h'
    have hlt : i < it.n := by omega
    have hr : it.n - (i + 1) = r := by omega
    cases ei : it.item i C' with
    | none => simp only [ei] at h'; cases h'
    | some d =>
      simp only [ei] at h'
      obtain ⟨g1, g2⟩ := o1 i d hlt ei
      cases eg : t.M d (wipeD sl0 vs) with
      | none => simp only [eg] at h'; cases h'
      | some sl1 =>
        simp only [eg] at h'
        refine .inr ⟨g1, fun H4 => ∃ A4 C4, Stp k n A C H A4 C4 H4 ∧ StOk k A4 C4 H4 ∧ lcN it t.M tt te n (wipeD sl0 vs) (it.n - (i + 1)) (i + 1) C4 = .ok () C3,
          fun H4 ⟨A4, C4, a, b, c⟩ => ⟨it.n - (i + 1), by omega, A4, C4, rfl, by omega, a, b, c⟩, fun x H'' y => ?_⟩
        obtain ⟨A'', py, sty, rx⟩ := g2 x H'' y
        have py' : Stp k n A' C' H' A'' C' H'' := ⟨py.rep, py.len, fun f _ _ h => h⟩
        have s9 : SR k A'' ⟨n, wipeD sl0 vs⟩ C' (L2.wipe σ vs) H'' := ((sr.re (p.trans py') sty low' (Nat.le_of_lt hl')).wipe vs)
        refine Tgt.of (vs0 := vs) s9 rx eg fun σ2 s2 w2 => ⟨by rw [w2 hv, wipe_wipe], A'', ⟨n, sl1⟩, C', s2, ?_⟩
        cases et : tt ⟨n, sl1⟩ C' with
        | ok b C5 =>
          rw [et] at h'
          simp only [bn0_ok] at h'
          intro A5 H5 v5 p5 st5 e5
          have e5 : v5 = b := e5
          subst e5
          have s5 := s2.step p5 st5
          cases v5 with
          | true =>
            rw [if_pos rfl] at h'
            refine iteT ⟨A5, ⟨n, sl1⟩, C5, s5, ?_⟩
            cases ee : te ⟨n, sl1⟩ C5 with
            | ok yd C6 =>
              rw [ee] at h'
              simp only [bn0_ok] at h'
              intro A6 H6 v6 p6 st6 r6
              have pall := (p.trans py').trans (p5.trans p6)
              obtain ⟨ha6, hl6⟩ := cell_at pall ha hn
              split at h'
              · rename_i acc hc
                split at h'
                · rename_i hz
                  obtain ⟨ws, hw, rw6⟩ := st6.at_ _ _ hc
                  rw [ha6] at hw
                  obtain ⟨q1, q2⟩ := push_L (k := k) (fl := n) (Nat.le_refl _) st6 ha6 hc hw r6
                  refine ⟨ws, hw, by have := szN_le hz; rw [rw6.length]; omega, A6, _, pall.trans q1, q2, ?_⟩
                  rw [hr]
                  exact h'
                · cases h'
              · cases h'
            | exc e C6 => rw [ee] at h'; cases h'
            | stuck => rw [ee] at h'; cases h'
          | false =>
            rw [if_neg (by decide)] at h'
            refine iteF ⟨A5, C5, (p.trans py').trans p5, st5, ?_⟩
            rw [hr]
            exact h'
        | exc e C5 => rw [et] at h'; cases h'
        | stuck => rw [et] at h'; cases h'
theorem le_lc2 {own : Bool} {mi mi1 : MI} {t t1 : Tgt} {tt tt1 : MT} {te : ME} {vs vs1 : List Nat} (hv : ∀ i ∈ t.slots, i ∈ vs) (hv1 : ∀ i ∈ t1.slots, i ∈ vs1) (h : LE k W (mLc2 own mi t.M tt mi1 t1.M tt1 te vs vs1) σ H Q) :
    tLc2 (LI k W mi) (t.T k.K) (LT k WF tt) (LI k WF mi1) (t1.T k.K) (LT k WF tt1) (LE k WF te) vs vs1 σ H Q := by
  obtain ⟨A, F, C, s, h⟩ := h
  refine ⟨A, F, C, s, (Aft.bnd (rel := fun A C H (J : It) (it : ItD) => ItOk k F.fl J it A C H) h).mono fun it C1 A1 H1 J p1 st1 ok h1 => ?_⟩
  have s1 := s.step p1 st1
  intro Dl hD
  have q0 : Kp A1 C1 H1 (ext A1 C1.length Dl) (C1 ++ [some (.lst [])]) (upd H1 Dl (.lst [])) := kp_cell (k := k) st1 hD
  have p2 : Stp k C1.length A1 C1 H1 (ext A1 C1.length Dl) (C1 ++ [some (.lst [])]) (upd H1 Dl (.lst [])) := q0.stp fun f h1 h2 l => low_app h2 l
  have p2' : Stp k F.fl A1 C1 H1 (ext A1 C1.length Dl) (C1 ++ [some (.lst [])]) (upd H1 Dl (.lst [])) := p2.less s1.fl
  have st2 : StOk k (ext A1 C1.length Dl) (C1 ++ [some (.lst [])]) (upd H1 Dl (.lst [])) := st1.cell hD ⟨[], upd_same, .nil⟩
  have n1 : C1.length < (C1 ++ [some (Cell.lst [])]).length := by simp
  have low1 : LowC C1.length (C1 ++ [some (Cell.lst [])]) := p2.low _ (Nat.le_refl _) (Nat.le_refl _) st1.low
  obtain ⟨C3, e3, h3⟩ := bn0_inv h1
  refine ⟨fun i m H' => ∃ A' C', m = it.n - i ∧ i ≤ it.n ∧ Stp k C1.length (ext A1 C1.length Dl) (C1 ++ [some (.lst [])]) (upd H1 Dl (.lst [])) A' C' H' ∧ StOk k A' C' H' ∧ lc2N it t.M tt mi1 t1.M tt1 te C1.length (wipeD F.sl vs) vs1 (it.n - i) i C' = .ok () C3,
    ⟨it.n, _, _, rfl, Nat.zero_le _, Stp.refl, st2, e3⟩, ?_⟩
  rintro i m H' ⟨A', C', rfl, hi, p, st', h'⟩
  obtain ⟨ha', hl'⟩ := cell_at p (ext_at A1 C1.length Dl) n1
  have low' : LowC C1.length C' := p.low _ (Nat.le_refl _) (Nat.le_of_lt n1) low1
  have pF : Stp k F.fl (ext A1 C1.length Dl) (C1 ++ [some (.lst [])]) (upd H1 Dl (.lst [])) A' C' H' := p.less s1.fl
  obtain ⟨o1, o2⟩ := ok A' C' H' (p2'.trans pF) st'
  cases er : it.n - i with
  | zero =>
    rw [er] at h'
    unfold lc2N at h'
    have e : i = it.n := by omega
    split at h'
    · rename_i hf
      cases h'
      subst e
      exact .inl ⟨o2 hf, le_lcEnd s1.fl Stp.refl st1 (p2'.trans pF) low' st' ha' hl' h3⟩
    · cases h'
  | succ r =>
    rw [er] at h'
    unfold lc2N at h'
    have hlt : i < it.n := by omega
    have hr : it.n - (i + 1) = r := by omega
    cases ei : it.item i C' with
    | none => simp only [ei] at h'; cases h'
    | some d =>
      simp only [ei] at h'
      obtain ⟨g1, g2⟩ := o1 i d hlt ei
      cases eg : t.M d (wipeD F.sl vs) with
      | none => simp only [eg] at h'; cases h'
      | some sl1 =>
        simp only [eg] at h'
        refine .inr ⟨g1, fun H4 => ∃ A4 C4, Stp k C1.length (ext A1 C1.length Dl) (C1 ++ [some (.lst [])]) (upd H1 Dl (.lst [])) A4 C4 H4 ∧ StOk k A4 C4 H4 ∧ lc2N it t.M tt mi1 t1.M tt1 te C1.length (wipeD F.sl vs) vs1 (it.n - (i + 1)) (i + 1) C4 = .ok () C3,
          fun H4 ⟨A4, C4, a, b, c⟩ => ⟨it.n - (i + 1), by omega, A4, C4, rfl, by omega, a, b, c⟩, fun x H'' y => ?_⟩
        obtain ⟨A'', py, sty, rx⟩ := g2 x H'' y
        have py' : Stp k C1.length A' C' H' A'' C' H'' := ⟨py.rep, py.len, fun f _ _ h => h⟩
        have sr : SR k A'' ⟨C1.length, wipeD F.sl vs⟩ C' (L2.wipe σ vs) H'' := ((s1.re (p2.trans (p.trans py')) sty low' (Nat.le_of_lt hl')).wipe vs)
        refine Tgt.of (vs0 := vs) sr rx eg fun σ2 s2 w2 => ⟨by rw [w2 hv, wipe_wipe], A'', ⟨C1.length, sl1⟩, C', s2, ?_⟩
        obtain ⟨b, C5, et, h'⟩ := bn0_out h'
        rw [et]
        intro A5 H5 v5 p5 st5 e5
        have e5 : v5 = b := e5
        subst e5
        have s5 := s2.step p5 st5
        cases v5 with
        | true =>
          rw [if_pos rfl] at h'
          obtain ⟨it1, C6, em, h'⟩ := bn0_out h'
          obtain ⟨u, C7, el, h'⟩ := bn0_out h'
          refine iteT ⟨A5, ⟨C1.length, sl1⟩, C5, s5, ?_⟩
          rw [em]
          intro A6 H6 J1 p6 st6 ok6
          have pall := (p.trans py').trans (p5.trans p6)
          obtain ⟨ha6, hl6⟩ := cell_at pall (ext_at A1 C1.length Dl) n1
          refine lc_inner (fl := C1.length) (n := C1.length) hv1 (Nat.le_refl _) ok6 (s5.step p6 st6) hl6 ha6 el fun A7 H7 p7 st7 => ⟨A7, C7, pall.trans p7, st7, ?_⟩
          rw [hr]
          exact h'
        | false =>
          rw [if_neg (by decide)] at h'
          refine iteF ⟨A5, C5, (p.trans py').trans p5, st5, ?_⟩
          rw [hr]
          exact h'
section
variable {elt tg iter tg1 iter1 : Expr} {ifs ifs1 : List Expr} {scope : Scope} {own : List (Str × Nat)} {vs1 : List Nat} {pos : Pos} {mi mi1 : MI} {t t1 : Tgt} {tt tt1 : MT} {te : ME}
theorem de_lc2 (ow : Bool) (hK : X.K = k.K) (hc : X.calm = true) (hN : X.N.Nodup) (hi : PI X tg iter (LI k W mi)) (ok : BlkOk X.N X.env.scope scope own) (hv : ∀ i ∈ vs1, i ∈ own.map (·.2)) (hv0 : ∀ i ∈ t.slots, i ∈ own.map (·.2)) (hv1 : ∀ i ∈ t1.slots, i ∈ vs1)
    (hg : ∀ (s : Shared) (H : Hp) (C : Addr) (cl : List (Str × Addr)) (fp : List Addr), PG (X.blk s H scope (compEnvC scope cl C X.env) fp) tg (t.T k.K)) (ht : ∀ (s : Shared) (H : Hp) (C : Addr) (cl : List (Str × Addr)) (fp : List Addr), PTs (X.blk s H scope (compEnvC scope cl C X.env) fp) ifs (LT k WF tt))
    (hi1 : ∀ (s : Shared) (H : Hp) (C : Addr) (cl : List (Str × Addr)) (fp : List Addr), PI (X.blk s H scope (compEnvC scope cl C X.env) fp) tg1 iter1 (LI k WF mi1))
    (hg1 : ∀ (s : Shared) (H : Hp) (C : Addr) (cl : List (Str × Addr)) (fp : List Addr), PG (X.blk s H scope (compEnvC scope cl C X.env) fp) tg1 (t1.T k.K)) (ht1 : ∀ (s : Shared) (H : Hp) (C : Addr) (cl : List (Str × Addr)) (fp : List Addr), PTs (X.blk s H scope (compEnvC scope cl C X.env) fp) ifs1 (LT k WF tt1))
    (he : ∀ (s : Shared) (H : Hp) (C : Addr) (cl : List (Str × Addr)) (fp : List Addr), PE (X.blk s H scope (compEnvC scope cl C X.env) fp) elt (LE k WF te)) (hs : ∀ x, foldedSetIterable iter X.env x = pure x := by intro _; rfl) (hs1 : ∀ env x, foldedSetIterable iter1 env x = pure x := by intro _ _; rfl) :
    PE X (.ListComp elt [⟨tg, iter, ifs, 0⟩, ⟨tg1, iter1, ifs1, 0⟩] scope pos) (LE k W (mLc2 ow mi t.M tt mi1 t1.M tt1 te (own.map (·.2)) vs1)) :=
  (pe_lc2 hc hN hi ok hv hg ht hi1 hg1 ht1 he hs hs1).cq fun _ _ _ h => le_lc2 hv0 hv1 h
theorem ds_setLc2 {i : Nat} {y : Str} {py spos : Pos} (ow : Bool) (hK : X.K = k.K) (hc : X.calm = true) (hN : X.N.Nodup) (hy : X.N[i]? = some y) (hyl : X.env.scope.names.lookup y = some .local)
    (hsw : swapsWith (.ListComp elt [⟨tg, iter, ifs, 0⟩, ⟨tg1, iter1, ifs1, 0⟩] scope pos) (some (.Name y py)) spos.line X.env = pure true) (hi : PI X tg iter (LI k W mi)) (ok : BlkOk X.N X.env.scope scope own) (hv : ∀ i ∈ vs1, i ∈ own.map (·.2)) (hv0 : ∀ i ∈ t.slots, i ∈ own.map (·.2)) (hv1 : ∀ i ∈ t1.slots, i ∈ vs1)
    (hg : ∀ (s : Shared) (H : Hp) (C : Addr) (cl : List (Str × Addr)) (fp : List Addr), PG (X.blk s H scope (compEnvC scope cl C X.env) fp) tg (t.T k.K)) (ht : ∀ (s : Shared) (H : Hp) (C : Addr) (cl : List (Str × Addr)) (fp : List Addr), PTs (X.blk s H scope (compEnvC scope cl C X.env) fp) ifs (LT k WF tt))
    (hi1 : ∀ (s : Shared) (H : Hp) (C : Addr) (cl : List (Str × Addr)) (fp : List Addr), PI (X.blk s H scope (compEnvC scope cl C X.env) fp) tg1 iter1 (LI k WF mi1))
    (hg1 : ∀ (s : Shared) (H : Hp) (C : Addr) (cl : List (Str × Addr)) (fp : List Addr), PG (X.blk s H scope (compEnvC scope cl C X.env) fp) tg1 (t1.T k.K)) (ht1 : ∀ (s : Shared) (H : Hp) (C : Addr) (cl : List (Str × Addr)) (fp : List Addr), PTs (X.blk s H scope (compEnvC scope cl C X.env) fp) ifs1 (LT k WF tt1))
    (he : ∀ (s : Shared) (H : Hp) (C : Addr) (cl : List (Str × Addr)) (fp : List Addr), PE (X.blk s H scope (compEnvC scope cl C X.env) fp) elt (LE k WF te)) (hs : ∀ x, foldedSetIterable iter X.env x = pure x := by intro _; rfl) (hs1 : ∀ env x, foldedSetIterable iter1 env x = pure x := by intro _ _; rfl) :
    PS X (.Assign [.Name y py] (.ListComp elt [⟨tg, iter, ifs, 0⟩, ⟨tg1, iter1, ifs1, 0⟩] scope pos) spos) (LS k W (sAsg (mLc2 ow mi t.M tt mi1 t1.M tt1 te (own.map (·.2)) vs1) (gN i))) :=
  (ps_setLc2 hc hN hy hyl hsw hi ok hv hg ht hi1 hg1 ht1 he hs hs1).cq fun _ _ _ h => le_lc2 hv0 hv1 (ls_asg2 (t := .nm i) h)
end
/-! ### xs[i] += e -/
def rGetL : V → V → Hp → VK → Prop := fun o i H Q => ∃ p xs n v, o = .ref p ∧ i = .int n ∧ H p = some (.lst xs) ∧ 0 ≤ n ∧ xs[n.toNat]? = some v ∧ Q v H
theorem pget_L : PGet X rGetL := by
  intro pins s σ H o i ov iv Q I ro ri h
  obtain ⟨p, xs, n, v, rfl, rfl, hp, h0, hx, q⟩ := h
  cases ro
  obtain ⟨t, rfl⟩ := ri
  obtain ⟨its, r, pl, hz⟩ := I.list (Or.inl (Or.inl hp))
  obtain ⟨w, ew, rw'⟩ := r.get hx
  have hl := r.length
  have hn := line63
  have hlt : n.toNat < xs.length := (List.getElem?_eq_some_iff.mp hx).1
  exact wpAny_getItem_list pl.isList h0 (by omega) (by simpa using ew) ⟨v, H, I, rw', q⟩
theorem ls_augL {o : Int → Int → Int} {mo mi me : ME} (h : LS k W (sAugL o mo mi me) E σ H) : tAugS (LE k W mo) (LE k W mi) (LE k W me) rGetL (ipI o) rSetL E σ H := by
  obtain ⟨A, F, C, s, h⟩ := h
  refine ⟨A, F, C, s, (AftS.bnd (rel := RepD k) s h).mono fun dl C1 A1 H1 l p1 st1 rl h1 => ?_⟩
  have s1 := s.step p1 st1
  refine ⟨A1, F, C1, s1, (AftS.bnd (rel := RepD k) s1 h1).mono fun dx C2 A2 H2 x p2 st2 rx h2 => ?_⟩
  have s2 := s1.step p2 st2
  have rl2 := p2.rep _ _ rl
  cases rx with
  | int n =>
    cases ec : cL dl C2 with
    | none => simp only [ec] at h2; exact h2.elim
    | some q =>
      obtain ⟨i, ds⟩ := q
      simp only [ec] at h2
      obtain ⟨rfl, rfl, hi, vs, hv, rvs⟩ := cL_at st2 rl2 ec
      split at h2
      · rename_i h0
        split at h2
        · rename_i a ea
          obtain ⟨v, ev, rv⟩ := rvs.get ea
          cases rv
          refine ⟨A2 i, vs, n, _, rfl, rfl, hv, h0, ev, A2, F, C2, s2, (AftS.bnd (rel := RepD k) s2 h2).mono fun dv C3 A3 H3 w p3 st3 rw3 h3 => ?_⟩
          have s3 := s2.step p3 st3
          cases rw3 with
          | int b =>
            cases ec3 : cL (.cell i) C3 with
            | none => simp only [ec3] at h3; exact h3.elim
            | some q =>
              obtain ⟨i', es⟩ := q
              simp only [ec3] at h3
              obtain ⟨ei, ev3, hi3, ws, hw, rws⟩ := cL_at st3 (p3.rep _ _ rl2) ec3
              cases ei
              cases ej : ixN es.length n with
              | none => simp only [ej] at h3; exact h3.elim
              | some j =>
                simp only [ej] at h3
                cases ew : wr F.fl i (.lst (es.set j (.int (o a b)))) C3 with
                | none => simp only [ew] at h3; exact h3.elim
                | some C4 =>
                  simp only [ew] at h3
                  obtain ⟨q1, q2⟩ := write_L st3 hi3 (rws.set (.int (o a b)) j) ew
                  exact ⟨a, b, rfl, rfl, A3 i, ws, n, j, ev3, rfl, hw, by rw [rws.length]; exact ej, h3 A3 σ _ q1 (s3.step q1 q2)⟩
          | _ => exact h3.elim
        · exact h2.elim
      · exact h2.elim
  | _ => exact h2.elim
theorem ds_augL {o i e : Expr} {op : Operator} {f : Int → Int → Int} {tpos pos : Pos} {mo mi me : ME} (hp : PIp X op (ipI f)) (ho : PE X o (LE k W mo)) (hi : PE X i (LE k W mi)) (he : PE X e (LE k W me))
    (ha : ∀ ov iv new, augStore i ov iv new = (do holding [new, ov, iv] (setItem ov iv new); release [new, ov, iv] []; pure .next) := by intros; rfl) : PS X (.AugAssign (.Subscript o i tpos) op e pos) (LS k W (sAugL f mo mi me)) :=
  (ps_augS ho hi pget_L he hp set_list ha).cq fun _ _ _ h => ls_augL h
/-! ### x in a tuple or list of data -/
end
end CT
set_option maxHeartbeats 4000000
/-! DLD: list(range(..)), sorted(..), dict(..). -/
namespace CT
open PySem L2 PySem.Spec PyProof.Rows
/-! ### sorted -/
def rSortA (K : PySem.W.Frag) : List V → Hp → VK → Prop := fun xs H Q => ∃ (a : Addr) (β : Type) (bs : List β) (f : β → V) (enc : β → PyData), xs = [.ref a] ∧ SqL K H a (bs.map f) ∧ (∀ b ∈ bs, Dp K H (f b) (enc b)) ∧ PySem.W.AllAlike (bs.map enc) ∧ PySem.W.Sortable (bs.map enc) ∧ (∀ b ∈ bs, (enc b).depth ≤ 60) ∧
  ∀ p, H p = none → Q (.ref p) (upd H p (.lst ((bs.mergeSort (PySem.W.dataLe false enc)).map f)))
theorem each_vals {β : Type} {f : β → V} : ∀ {bs : List β} {us : List Value}, Vals (bs.map f) us → PySem.W.EachIs (fun u b => RelV (f b) u) us bs
  | [], _, .nil => .nil
  | _ :: _, _, .cons r t => .cons r (each_vals t)
theorem vals_each {β : Type} {f : β → V} : ∀ {bs : List β} {us : List Value}, PySem.W.EachIs (fun u b => RelV (f b) u) us bs → Vals (bs.map f) us
  | _, _, .nil => .nil
  | _, _, .cons r t => .cons r (vals_each t)
theorem each_in {α β : Type} {R S : α → β → Prop} : ∀ {us : List α} {bs : List β}, PySem.W.EachIs R us bs → (∀ u b, b ∈ bs → R u b → S u b) → PySem.W.EachIs S us bs
  | _, _, .nil, _ => .nil
  | _, _, .cons r t, h => .cons (h _ _ (List.mem_cons_self ..) r) (each_in t fun u b hb => h u b (List.mem_cons_of_mem _ hb))
section
variable {X : Cx} {k : Cn} {W : WX} {σ : L2.St} {H : Hp} {Q : VK}
theorem cr_sortA (hu : X.A.units + 200 < cLine) : CallR X (.builtin "sorted") (rSortA X.K) := by
  intro pins s σ H xs us Q I r h
  obtain ⟨a, β, bs, f, enc, rfl, hs, hd, hal, hk, hdp, q⟩ := h
  obtain ⟨its, rv, hl, hz⟩ := I.list hs
  obtain ⟨u, rfl, ru⟩ := vals1 r
  obtain rfl : u = Value.ref a := ru
  have e := each_vals rv
  rw [List.length_map] at hz
  refine PySem.W.sorted_data hl.isList e (each_in e fun u b hb rb => Dp.reads I _ _ _ (hd b hb) rb) hal hk hz (fun b hb => by have := hdp b hb; omega) fun out ho eo => ?_
  obtain ⟨c, hc⟩ := sortedAll_at s.heap its out.toArray
  have hle : s.heap.objs.size ≤ s.heap.objs.size + 1 := Nat.le_succ _
  refine ⟨.ref (s.heap.objs.size + 1), _, I.laid (t' := s.toks) (o := .lst ((bs.mergeSort (PySem.W.dataLe false enc)).map f)) (fun b o hb => sortedAll_old hb) hle ⟨?_, out, c, vals_each eo, hc⟩, rfl, q _ (I.hok.fresh hle)⟩
  rw [List.length_map, List.length_mergeSort]
  exact hz
end
end CT
set_option maxHeartbeats 4000000
/-! DLE: sorted and dict(d) over data. -/
namespace CT
open PySem L2 PySem.Spec PyProof.Rows
def encD (C : Store) (d : D) : PyData := (toP C d).getD .none
def tup1 : PyData → Bool
  | .tuple (_ :: _) => true
  | _ => false
def nTup : PyData → Bool
  | .tuple _ => false
  | .none => false
  | _ => true
def srtb (ps : List PyData) : Bool := (ps.all fun d => ps.all fun e => PySem.W.alike d e) && (ps.all tup1 || ps.all nTup)
theorem srtb_ok {ps : List PyData} (h : srtb ps = true) : PySem.W.AllAlike ps ∧ PySem.W.Sortable ps := by
  simp only [srtb, Bool.and_eq_true, Bool.or_eq_true, List.all_eq_true] at h
  refine ⟨fun d hd e he => h.1 d hd e he, ?_⟩
  rcases h.2 with h | h
  · refine .inl fun d hd => ?_
    have := h d hd
    cases d with
    | tuple xs =>
      cases xs with
      | nil => simp [tup1] at this
      | cons x r => exact ⟨x, r, rfl⟩
    | _ => simp [tup1] at this
  · refine .inr fun d hd => ?_
    have := h d hd
    cases d with
    | tuple xs => simp [nTup] at this
    | none => simp [nTup] at this
    | _ => exact ⟨by simp, by simp⟩
def oSortL (own : Bool) : OA := fun xs C => match xs with
  | [x] => (match vL x C with
    | some ds => if (ds.all (fun d => (toP C d).isSome && decide ((encD C d).depth ≤ 60)) && srtb (ds.map (encD C))) = true then some (mkL own (ds.mergeSort (PySem.W.dataLe false (encD C))) C) else none
    | none => none)
  | _ => none
section
variable {X : Cx} {k : Cn} {W : WX} {σ : L2.St} {H : Hp} {Q : VK} {A : Nat → Addr} {C : Store}
theorem repL_zip : ∀ {vs : List V} {ds : List D}, RepL k A C H vs ds → (∀ x ∈ vs.zip ds, Rep k A C H x.1 x.2) ∧ (vs.zip ds).map (·.1) = vs ∧ (vs.zip ds).map (·.2) = ds
  | _, _, .nil => ⟨by simp, rfl, rfl⟩
  | _, _, .cons r t => by
    obtain ⟨h1, h2, h3⟩ := repL_zip t
    refine ⟨fun x hx => ?_, by simp [h2], by simp [h3]⟩
    rw [List.zip_cons_cons, List.mem_cons] at hx
    rcases hx with rfl | hx
    · exact r
    · exact h1 x hx
theorem repL_of : ∀ {l : List (V × D)}, (∀ x ∈ l, Rep k A C H x.1 x.2) → RepL k A C H (l.map (·.1)) (l.map (·.2))
  | [], _ => .nil
  | x :: l, h => .cons (h x (List.mem_cons_self ..)) (repL_of fun y hy => h y (List.mem_cons_of_mem _ hy))
theorem d_sortL {own : Bool} : ApD k (rSortA k.K) (oSortL own) := by
  intro fl A C H x dx d C' Q hf hl st rx e q
  cases rx with
  | nil => cases e
  | cons r t =>
    cases t with
    | cons _ _ => cases e
    | nil =>
      rename_i v0 d0
      simp only [oSortL] at e
      split at e
      · rename_i ds ev
        split at e
        · rename_i hb
          obtain ⟨a, vs, rfl, ha, rv⟩ := vL_at st r ev
          obtain ⟨z1, z2, z3⟩ := repL_zip rv
          simp only [Bool.and_eq_true, List.all_eq_true, decide_eq_true_eq] at hb
          obtain ⟨hb1, hb2⟩ := hb
          obtain ⟨al, so⟩ := srtb_ok hb2
          have em : (vs.zip ds).map (fun x => encD C x.2) = ds.map (encD C) := by
            have := congrArg (List.map (encD C)) z3
            rw [List.map_map] at this
            exact this
          have hm : ∀ x ∈ vs.zip ds, x.2 ∈ ds := fun x hx => by rw [← z3]; exact List.mem_map.mpr ⟨x, hx, rfl⟩
          refine ⟨a, V × D, vs.zip ds, (·.1), fun x => encD C x.2, rfl, by rw [z2]; exact .inl (.inl ha), fun b hb => ?_, by rw [em]; exact al, by rw [em]; exact so, fun b hb => (hb1 b.2 (hm b hb)).2, fun p hp => ?_⟩
          · have := (hb1 b.2 (hm b hb)).1
            obtain ⟨pd, e3⟩ := Option.isSome_iff_exists.mp this
            have := toP_dp st (z1 b hb) e3
            have e5 : encD C b.2 = pd := by unfold encD; rw [e3]; rfl
            show Dp k.K H b.1 (encD C b.2)
            rw [e5]
            exact this
          · have e4 : ((vs.zip ds).mergeSort (PySem.W.dataLe false fun x => encD C x.2)).map (·.2) = ds.mergeSort (PySem.W.dataLe false (encD C)) := by
              have em2 := List.map_mergeSort (r := PySem.W.dataLe false fun x : V × D => encD C x.2) (s := PySem.W.dataLe false (encD C)) (f := fun x : V × D => x.2) (l := vs.zip ds) (fun a _ b _ => rfl)
              rw [em2, z3]
            have rr : RepL k A C H (((vs.zip ds).mergeSort (PySem.W.dataLe false fun x => encD C x.2)).map (·.1)) (ds.mergeSort (PySem.W.dataLe false (encD C))) := by
              rw [← e4]
              exact repL_of fun y hy => z1 y (List.mem_mergeSort.mp hy)
            obtain ⟨A2, w1, w2, w3⟩ := fresh_L (own := own) hf st rr hp
            have e1 := Option.some.inj e
            rw [e1] at w1 w2 w3
            exact q A2 _ _ w1 w2 w3
        · cases e
      · cases e
theorem tup_nl (st : StOk k A C H) {b : Addr} {vs : List V} (h : H b = some (.tup vs)) : ¬ Live A C b := by
  rintro ⟨i, c, hc, rfl⟩
  have := st.at_ i c hc
  cases c with
  | lst ds => obtain ⟨ws, e, _⟩ := this; rw [h] at e; cases e
  | dT ks ds => obtain ⟨ws, e, _⟩ := this; rw [h] at e; cases e
  | ins c ds => obtain ⟨dx, ws, e, _⟩ := this; rw [h] at e; cases e
end
/-! ### dict(d), keys that are tuples -/
end CT
set_option maxHeartbeats 4000000
/-! DLF: dict(d) over data; enumerate. -/
namespace CT
open PySem L2 PySem.Spec PyProof.Rows
/-! ### a list of unlike numbers -/
def BT.look (x : Nat) : BT → Bool
  | .lf => false
  | .nd l y r => bif Nat.blt x y then l.look x else bif Nat.blt y x then r.look x else true
theorem nodup_map_on {α β : Type} {f : α → β} : ∀ {l : List α}, l.Nodup → (∀ x ∈ l, ∀ y ∈ l, f x = f y → x = y) → (l.map f).Nodup
  | [], _, _ => List.nodup_nil
  | x :: l, h, i => by
    obtain ⟨h1, h2⟩ := List.nodup_cons.mp h
    refine List.nodup_cons.mpr ⟨fun hm => ?_, nodup_map_on h2 fun a ha b hb => i a (List.mem_cons_of_mem _ ha) b (List.mem_cons_of_mem _ hb)⟩
    obtain ⟨y, hy, e⟩ := List.mem_map.mp hm
    have := i y (List.mem_cons_of_mem _ hy) x (List.mem_cons_self ..) e
    exact h1 (this ▸ hy)
/-! ### enumerate(tuple) -/
section
variable {prog : Program} {w : World} {A : Around} {E : Value → Shared → Prop} {s : Shared}
theorem meets_enum1 {v : Value} {o : Obj} {H : Heap → Prop} (B : Begins v o H) :
    Meets (Builtin.«enumerate.__new__» ⟨[.type "enumerate", v], []⟩) (fun _ R s => H s.heap ∧
      R (.ok (.ret (.ref (s.heap.push o).objs.size))) { s with heap := (s.heap.push o).push { cls := .type "enumerate", data := .fields #[.none, .bool false, .ref s.heap.objs.size, rawInt 0, .none, .none] } }) :=
  .of_wp fun prog w A R s h => by
    obtain ⟨hp, g, d, tk, os⟩ := s; obtain ⟨h1, h⟩ := h
    have hsub := sub_enumerate
    have q1 : ∀ {A' : Around} {E : Value → Shared → Prop} {Q : Value → Shared → Prop}, Q (.ref hp.objs.size) ⟨hp.push o, g, d, tk, os⟩ → wpAny (model prog w) A' (pyIter v) Q E ⟨hp, g, d, tk, os⟩ :=
      fun q => B.iter prog w _ _ ⟨hp, g, d, tk, os⟩ _ h1 q
    wp_walk using q1
    refine wpAny_stack_any fun st => wpAny_pure ?_
    split
    · rename_i c _ _ _ _ _
      cases (c == Value.type "enumerate")
      · wp_walk using q1
        exact ⟨_, rfl, h⟩
      · wp_walk using q1
        exact ⟨_, rfl, h⟩
    · wp_walk using q1
      exact ⟨_, rfl, h⟩
theorem call_enum1 {v : Value} {o : Obj} {H : Heap → Prop} {Q : Value → Shared → Prop} (B : Begins v o H) (h1 : H s.heap)
    (h : ∀ h', IsEnum h' (s.heap.objs.size + 1) s.heap.objs.size 0 .none → h'.get? s.heap.objs.size = some o → (∀ b o, s.heap.get? b = some o → h'.get? b = some o) → Q (.ref (s.heap.objs.size + 1)) { s with heap := h' }) :
    wpAny (model prog w) A (call (.type "enumerate") [v]) Q E s := by
  refine callType_new F.called_enumerate (by decide) (F.typeCall_enumerate_1 _) (F.newCall_enumerate_1 _) (fun obj => F.args_object_init_2 obj _) F.entry_enumerate_new (meets_enum1 B) ⟨h1, ?_⟩
  have hz : (s.heap.push o).objs.size = s.heap.objs.size + 1 := Heap.size_push ..
  show _ ∧ _
  rw [hz]
  have he : IsEnum ((s.heap.push o).push { cls := .type "enumerate", data := .fields #[.none, .bool false, .ref s.heap.objs.size, rawInt 0, .none, .none] }) (s.heap.objs.size + 1) s.heap.objs.size 0 .none := by
    have := Heap.get?_push_size (s.heap.push o) (o := { cls := .type "enumerate", data := .fields #[.none, .bool false, .ref s.heap.objs.size, rawInt 0, .none, .none] }) rfl
    rw [hz] at this; exact this
  exact ⟨⟨_, he, rfl⟩, h _ he (Heap.get?_push_of_some _ (Heap.get?_push_size _ B.free)) fun b o x => Heap.get?_push_of_some _ (Heap.get?_push_of_some _ x)⟩
end
def IteT (K : PySem.W.Frag) (a : Addr) : It :=
  ⟨fun i H => ∃ (xs : List V) (x : V), SqT K H a xs ∧ xs[i]? = some x, fun i H v H' => ∃ T x, v = .ref T ∧ H T = none ∧ H' = upd H T (.tup [.int (i : Nat), x]) ∧ ∀ xs, SqT K H a xs → xs[i]? = some x, fun i H => ∃ xs : List V, SqT K H a xs ∧ xs.length ≤ i⟩
theorem enumT_end {prog : Program} {w : World} {A : Around} {E : Value → Shared → Prop} {s : Shared} {e it t : Addr} {i : Nat} {c : Int} {items : Array Value} {old : Value} {Q : Option Value → Shared → Prop} (hh : A.handled = none)
    (he : IsEnum s.heap e it c old) (hit : s.heap.IsTupleIter it t i) (ht : s.heap.IsTuple t items) (hx : items[i]? = none) (hQ : ∀ h', Heap.ExtBut it s.heap h' → Q none { s with heap := h' }) : wpAny (model prog w) A (pyNext (.ref e)) Q E s := by
  have hT : s.TypeIs (.ref e) "enumerate" := ⟨_, he, rfl⟩
  unfold pyNext
  refine wpAny_bind (wpAny_attempt (wpAny_callSpecial?_slot (name := Str.ofString "__next__") hT F.slot_enumerate_next
    (wpAny_call_entry F.slot_enumerate_next hT F.entry_enumerate_next ?_ (F.args_enumerate_next_1 _))))
  show wpAny _ _ (field (.ref e) 2 >>= _) _ _ _
  refine wpAny_bind (wpAny_field he rfl (x := .ref it) rfl ?_)
  refine wpAny_bind (wpAny_nextOf_tuple_end (show A.in1.handled = none from hh) hit ht hx fun h' x he' hx' => ?_)
  obtain ⟨o, ho, hc⟩ := hx'
  refine wpAny_bind (wpAny_isInstance (T := "StopIteration") (b := true) ⟨o, ho, hc⟩ isSubtype_stop ?_)
  exact wpAny_pure (hQ _ he')
theorem turn_enumT {P : Program} {w : World} {K : PySem.W.Frag} {elts : List Expr} {kk : Nat} {tpos : Pos} (a e it : Addr) :
    Turn P w K (.Tuple elts kk tpos) (IteT K a) [e, it] e (fun i h => (∃ old, IsEnum h e it ((i : Nat) : Int) old) ∧ h.IsTupleIter it a i ∧ e ≠ it ∧ a ≠ it ∧ a ≠ e) where
  mem := by simp
  obj := fun i h st b hb => by
    obtain ⟨⟨old, he⟩, ⟨o, ho, hc, hd⟩, _⟩ := st
    have e' : b = e ∨ b = it := by simpa using hb
    rcases e' with z | z
    · rw [z]; exact ⟨_, he, fun v q => nomatch q⟩
    · rw [z]; exact ⟨o, ho, fun v q => by rw [hd] at q; cases q⟩
  keep := fun i h h' st k => let ⟨⟨old, he⟩, hi, hne⟩ := st; ⟨⟨old, k e (by simp) _ he⟩, hi.at fun o q => k it (by simp) o q, hne⟩
  item := by
    intro X hP hw hK hc i pins s σ H E I hf st hg
    subst hP hw hK
    obtain ⟨⟨old, he⟩, hit, hne, hai, hae⟩ := st
    obtain ⟨xs, x, hq, hx⟩ := hg
    obtain ⟨its, rv, p, hz⟩ := I.tuple hq
    have hlt : i < its.toArray.size := by
      have h1 := rv.length
      have h2 := (List.getElem?_eq_some_iff.mp hx).1
      simp
      omega
    have hel : e < s.heap.objs.size := Heap.lt_size he
    have hil : it < s.heap.objs.size := by obtain ⟨_, q, _⟩ := hit; exact Heap.lt_size q
    have D := Draws.tuple (prog := X.prog) (w := X.w) (A := X.A.in1) (I.ok.hd hc) it a hai its.toArray
    refine wpAny_pyNext_enum_itemD D he ⟨hit, p⟩ hlt hne (by simp; exact ⟨hne, fun z => hae z.symm⟩) fun u h' tk hu ho hit' hT hsz hk => ?_
    have hu' : its[i]? = some u := by simpa using hu
    obtain ⟨u2, hu2, ru⟩ := rv.get hx
    have e2 : u2 = u := by
      rw [hu'] at hu2
      exact (Option.some.inj hu2).symm
    subst e2
    refine ⟨_, rfl, wpAny_letOwnedTupleGo_enum (s := { s with heap := h', toks := tk + 1 }) ho fun h'' he' sb => ?_⟩
    have hT2 : h''.get? s.heap.objs.size = some { cls := .type "tuple", data := .seq #[.int i tk, u2] } := (sb.2 _ (Nat.ne_of_gt hel)).trans hT
    have new : ObjOk X.prog X.w (upd H s.heap.objs.size (.tup [.int (i : Nat), x])) h'' s.heap.objs.size (.tup [.int (i : Nat), x]) :=
      ⟨by show 2 ≤ sizeLine; decide, [.int i tk, u2], .cons ⟨_, rfl⟩ (.cons ru .nil), ⟨_, hT2, rfl, _, rfl⟩⟩
    have I1 : Inv X pins σ (upd H s.heap.objs.size (.tup [.int (i : Nat), x])) { s with heap := h'', toks := tk + 1 } :=
      I.turnedNew (ch := [e, it]) (fun b ob hb q => (sb.2 b (fun z => hb (by simp [z]))).trans (hk b ob (fun z => hb (by simp [z])) (fun z => hb (by simp [z])) q)) hf (Nat.le_refl _) new
    refine ⟨.ref s.heap.objs.size, _, I1, rfl, ⟨_, x, rfl, I.hok.fresh (Nat.le_refl _), rfl, fun ys hy => by rw [I.tuple_inj hy hq]; exact hx⟩, ⟨⟨u2, ?_⟩, hit'.1.at fun o q => (sb.2 it (Ne.symm hne)).trans q, hne, hai, hae⟩, fun b hb => ?_⟩
    · have e1 : ((i + 1 : Nat) : Int) = (i : Int) + 1 := by omega
      rw [e1]; exact he'
    · have hb' : b < s.heap.objs.size := by
        have e' : b = e ∨ b = it := by simpa using hb
        rcases e' with z | z
        · rw [z]; exact hel
        · rw [z]; exact hil
      rw [upd_ne (Nat.ne_of_lt hb')]
      exact (hf b hb).1
  done := by
    intro X hP hw hK hc i pins s σ H E I hf st hg
    subst hP hw hK
    obtain ⟨⟨old, he⟩, hit, hne, hai, hae⟩ := st
    obtain ⟨xs, hq, hx⟩ := hg
    obtain ⟨its, rv, p, hz⟩ := I.tuple hq
    obtain ⟨f0, f1, f2, f3, f4, f5⟩ := hf it (by simp)
    have hl := rv.length
    exact enumT_end (I.ok.hd hc) he hit p (by simp; omega) fun h' eb => ⟨rfl, I.turned (t' := s.toks) (fun b o hb q => eb b o hb q) f0 f1 f3 f4 f5⟩
  self := fun A i s Q E st h => let ⟨⟨_, he⟩, _⟩ := st; wpAny_pyIter_enum he h
def iEnumA (K : PySem.W.Frag) (ta : TA) : TI := fun σ H R => ta σ H fun vs H1 => ∃ a, vs = [.ref a] ∧ (((∃ xs, SqL K H1 a xs) ∧ R (Ite K a) H1) ∨ ((∃ xs, SqT K H1 a xs) ∧ R (IteT K a) H1))
theorem pi_enumA {X : Cx} {e : Expr} {ta : TA} {p pos tpos : Pos} {elts : List Expr} {kk : Nat} (hg : Gl X "enumerate") (hm : X.mg "enumerate" = none) (ha : PA X [e] ta) (hs : starEach [e] X.env = [(false, eval e X.env)] := by rfl) :
    PI X (.Tuple elts kk tpos) (.Call (.Name "enumerate" p) [e] [] pos) (iEnumA X.K ta) := by
  refine ⟨fun pins s σ H R I h => ?_⟩
  refine Call_ (ld_blt I hg hm boot_enumerate (PyProof.Rows.callWith_type1 (thn (ha.run pos pins s σ H _ I h) fun us s1 ⟨vs, H1, I1, r1, q1⟩ => ?_) hs rfl))
  have fp2 : ∀ b ∈ [s1.heap.objs.size + 1, s1.heap.objs.size], FpOk X pins H1 b := fun b hb => by
    have e' : b = s1.heap.objs.size + 1 ∨ b = s1.heap.objs.size := by simpa using hb
    have hle : s1.heap.objs.size ≤ b := by omega
    exact I1.fpOk hle (I1.hok.fresh hle)
  obtain ⟨a, ex, ⟨⟨xs, hq⟩, q⟩ | ⟨⟨xs, hq⟩, q⟩⟩ := q1
  · subst ex
    obtain ⟨u, rfl, ru⟩ := vals1 r1
    obtain rfl : u = Value.ref a := ru
    obtain ⟨its, rv, p', hz⟩ := I1.list hq
    refine call_enumerate_list p'.isList fun h' he hit hsz hk => wpAny_pyIter_enum he ?_
    exact ⟨s1.heap.objs.size + 1, [s1.heap.objs.size + 1, s1.heap.objs.size], _, _, H1, rfl, I1.kept (t' := s1.toks) hk, turn_enum a (s1.heap.objs.size + 1) s1.heap.objs.size, ⟨⟨.none, he⟩, hit, Nat.succ_ne_self _⟩, fp2, q⟩
  · subst ex
    obtain ⟨u, rfl, ru⟩ := vals1 r1
    obtain rfl : u = Value.ref a := ru
    obtain ⟨its, rv, p', hz⟩ := I1.tuple hq
    refine call_enum1 (begins_tuple a its.toArray) p' fun h' he hit hk => wpAny_pyIter_enum he ?_
    have hlt : a < s1.heap.objs.size := by obtain ⟨o, ho, _⟩ := p'; exact Heap.lt_size ho
    exact ⟨s1.heap.objs.size + 1, [s1.heap.objs.size + 1, s1.heap.objs.size], _, _, H1, rfl, I1.kept (t' := s1.toks) hk, turn_enumT a (s1.heap.objs.size + 1) s1.heap.objs.size, ⟨⟨.none, he⟩, ⟨_, hit, rfl, rfl⟩, Nat.succ_ne_self _, Nat.ne_of_lt hlt, Nat.ne_of_lt (Nat.lt_succ_of_lt hlt)⟩, fp2, q⟩
section
variable {X : Cx} {k : Cn} {W : WX} {σ : L2.St} {H : Hp}
theorem pr_L {fl : Nat} {A : Nat → Addr} {C : Store} {a : Addr} {it : ItD} (ok : ItOk k fl (Itl k.K a) it A C H) : ItOk k fl (Ite k.K a) (prI it) A C H := fun A' C' H' p st' => by
  obtain ⟨o1, o2⟩ := ok A' C' H' p st'
  refine ⟨fun j d hj e => ?_, fun hf => o2 hf⟩
  simp only [prI, Option.map_eq_some_iff] at e
  obtain ⟨x, ex, rfl⟩ := e
  obtain ⟨⟨xs, v, hq, hv⟩, h2⟩ := o1 j x hj ex
  refine ⟨⟨xs, v, hq, hv⟩, fun y H'' ⟨T, z, ey, hT, eH, hz⟩ => ?_⟩
  subst ey eH
  have ez : z = v := Option.some.inj ((hz xs hq).symm.trans hv)
  subst ez
  obtain ⟨A3, p3, st3, r3⟩ := h2 z H' ⟨rfl, fun ys hy => hz ys hy⟩
  have q : Kp A3 C' H' A3 C' (upd H' T (.tup [.int (j : Nat), z])) := kp_new hT
  refine ⟨A3, p3.trans q.stp0, st3.new hT, ?_⟩
  have st4 := st3.new (o := .tup [.int (j : Nat), z]) hT
  exact .tup (tup_nl st4 upd_same) upd_same (.cons (.int _) (.cons (r3.kp q) .nil))
theorem pr_T {fl : Nat} {A : Nat → Addr} {C : Store} {a : Addr} {it : ItD} (ok : ItOk k fl (Itt k.K a) it A C H) : ItOk k fl (IteT k.K a) (prI it) A C H := fun A' C' H' p st' => by
  obtain ⟨o1, o2⟩ := ok A' C' H' p st'
  refine ⟨fun j d hj e => ?_, fun hf => o2 hf⟩
  simp only [prI, Option.map_eq_some_iff] at e
  obtain ⟨x, ex, rfl⟩ := e
  obtain ⟨⟨xs, v, hq, hv⟩, h2⟩ := o1 j x hj ex
  refine ⟨⟨xs, v, hq, hv⟩, fun y H'' ⟨T, z, ey, hT, eH, hz⟩ => ?_⟩
  subst ey eH
  have ez : z = v := Option.some.inj ((hz xs hq).symm.trans hv)
  subst ez
  obtain ⟨A3, p3, st3, r3⟩ := h2 z H' ⟨rfl, fun ys hy => hz ys hy⟩
  have q : Kp A3 C' H' A3 C' (upd H' T (.tup [.int (j : Nat), z])) := kp_new hT
  refine ⟨A3, p3.trans q.stp0, st3.new hT, ?_⟩
  have st4 := st3.new (o := .tup [.int (j : Nat), z]) hT
  exact .tup (tup_nl st4 upd_same) upd_same (.cons (.int _) (.cons (r3.kp q) .nil))
theorem li_enum {m : ME} {R : It → Hp → Prop} (h : LI k W (mEnum m) σ H R) : iEnumA k.K (tCons (LE k W m) tNil) σ H R := by
  obtain ⟨A, F, C, s, h⟩ := h
  refine ⟨A, F, C, s, (Aft.bnd (rel := RepD k) h).mono fun d C1 A1 H1 v p st r h1 => ?_⟩
  have tup : ∀ xs, vT d = some xs → itS d C1 = some (itC xs) → ∃ a, [v] = [.ref a] ∧ (((∃ xs, SqL k.K H1 a xs) ∧ R (Ite k.K a) H1) ∨ ((∃ xs, SqT k.K H1 a xs) ∧ R (IteT k.K a) H1)) := fun xs e ei => by
    rw [ei] at h1
    obtain ⟨a, rfl, hs, ok⟩ := itC_T (fl := F.fl) r e
    exact ⟨a, rfl, .inr ⟨hs, h1 A1 H1 _ Stp.refl st (pr_T ok)⟩⟩
  show ∃ a, [v] = [.ref a] ∧ _
  cases d with
  | tup xs => exact tup xs rfl rfl
  | kt xs => exact tup xs rfl rfl
  | lst xs =>
    cases r with
    | lst l hh rv => exact ⟨_, rfl, .inl ⟨⟨_, .inl (.inl hh)⟩, h1 A1 H1 _ Stp.refl st (pr_L (itC_L (.lst l hh rv)))⟩⟩
  | cell i =>
    cases r with
    | cell hi =>
      simp only [itS] at h1
      split at h1
      · rename_i it e
        split at e
        · rename_i ys ec
          cases e
          obtain ⟨vs, hv, rv⟩ := st.at_ i _ ec
          exact ⟨_, rfl, .inl ⟨⟨vs, .inl (.inl hv)⟩, h1 A1 H1 _ Stp.refl st (pr_L (itV_L (.cell hi)))⟩⟩
        · cases e
      · exact h1.elim
  | _ => exact h1.elim
theorem di_enum {e : Expr} {p pos tpos : Pos} {elts : List Expr} {kk : Nat} {m : ME} (hg : Gl X "enumerate") (hm : X.mg "enumerate" = none) (hK : X.K = k.K) (he : PE X e (LE k W m)) (hs : starEach [e] X.env = [(false, eval e X.env)] := by rfl) :
    PI X (.Tuple elts kk tpos) (.Call (.Name "enumerate" p) [e] [] pos) (LI k W (mEnum m)) := (pi_enumA hg hm (pa_cons he pa_nil (by rw [hs]; rfl)) hs).cq fun _ _ _ h => by
  rw [hK]
  exact li_enum h
end
end CT
set_option maxHeartbeats 4000000
/-! DLG: what the head tells (defs by addresses, checks), the law's end for data. -/
namespace CT
open PySem L2 PySem.Spec PyProof.Rows
/-! ### defs, by where they stand -/
theorem DefX.funD {K : PySem.W.Frag} {d : DefX} (e : fnX K (d.adr K) = d.val) (c : d.ok K = true) : ∃ fd, FunD K d.name d.qual d.params d.body d.scope (d.dfl K) [] (d.adr K) fd := by
  obtain ⟨kp, c2⟩ := He.ba c
  unfold fnX at e
  split at c2
  · rename_i oc od fd osl q
    rw [q] at e
    obtain ⟨k1, k2⟩ := He.ba c2
    cases fd
    simp only [DefX.val, Option.some.injEq, Prod.mk.injEq] at e
    obtain ⟨h1, h2, h3, h4, h5, h6, h7, h8⟩ := e
    subst h1 h2 h3 h4 h5 h6 h7 h8
    exact ⟨_, ⟨_, _, _, _, _, _, _, _, _, _, rfl, q, k1, He.dflB_ok k2, .inl rfl⟩, kp⟩
  · cases c2
/-! ### the head's look -/
section
variable {fs : List (PySem.W.Frag → Bool)} {fn : List DefX} {K : PySem.W.Frag}
theorem SaysX.fact (c : SaysX fs fn K) (i : Nat) {f : PySem.W.Frag → Bool} (h : fs[i]? = some f := by rfl) : f K = true :=
  List.all_eq_true.mp (He.ba (show ((fs.all fun f => f K) && fn.all fun d => d.ok K) = true from congrArg (fun z : AlX => z.1) c)).1 f (List.mem_of_getElem? h)
theorem SaysX.def_ (c : SaysX fs fn K) (i : Nat) {d : DefX} (h : fn[i]? = some d := by rfl) : ∃ fd, FunD K d.name d.qual d.params d.body d.scope (d.dfl K) [] (d.adr K) fd := by
  have c2 := (He.ba (show ((fs.all fun f => f K) && fn.all fun d => d.ok K) = true from congrArg (fun z : AlX => z.1) c)).2
  have e2 : (fn.map fun d => fnX K (d.adr K))[i]? = (fn.map DefX.val)[i]? := congrArg (fun z : AlX => z.2[i]?) c
  rw [List.getElem?_map, List.getElem?_map, h] at e2
  exact DefX.funD (Option.some.inj e2) (List.all_eq_true.mp c2 d (List.mem_of_getElem? h))
end
/-! ### checks -/
section
variable {K : PySem.W.Frag}
theorem prB_ok {x f : Str} (h : prB x f K = true) : PropOf K (He.ga K x) f (prA K (He.ga K x) f) (prG K (He.ga K x) f) := by
  obtain ⟨h1, h⟩ := He.ba h
  obtain ⟨h2, h⟩ := He.ba h
  obtain ⟨h3, h4⟩ := He.ba h
  refine ⟨He.eqO_ok h1, He.eqO_ok h2, of_decide_eq_true h3, ?_⟩
  split at h4
  · rename_i g rest e
    refine ⟨rest, ?_⟩
    unfold prG
    rw [e]
  · cases h4
theorem mem_allBt (b : Bt) : b ∈ allBt := by cases b <;> simp [allBt]
theorem insB_ok {C : Addr} (h : insB C K = true) : C8.InsC K C := by
  obtain ⟨h1, h⟩ := He.ba h
  obtain ⟨h2, h⟩ := He.ba h
  obtain ⟨h3, h⟩ := He.ba h
  obtain ⟨h4, h⟩ := He.ba h
  obtain ⟨h5, h⟩ := He.ba h
  obtain ⟨h6, h⟩ := He.ba h
  obtain ⟨h7, h⟩ := He.ba h
  obtain ⟨h8, h9⟩ := He.ba h
  exact ⟨⟨h1, h2, h3, He.eqO_ok h4⟩, He.eqO_ok h5, He.eqO_ok h6, of_decide_eq_true h7, of_decide_eq_true h8, of_decide_eq_true h9⟩
theorem isaB_ok {cl : PySem.W.Frag → Nat → Addr} {kn : List Nat} {k : Cn} (hK : k.K = K) (hc : k.cl = cl K) (h : isaB cl kn K = true) : IsaOk k kn := by
  obtain ⟨h1, h⟩ := He.ba h
  obtain ⟨h2, h3⟩ := He.ba h
  rw [List.all_eq_true] at h1 h2 h3
  refine ⟨fun c hm => ?_, fun c hm c' hm' => ?_, fun c hm b => ?_, fun c hm b => ?_⟩
  · rw [hK, hc]
    exact insB_ok (h1 c hm)
  · rw [hK, hc]
    exact of_decide_eq_true (List.all_eq_true.mp (h2 c hm) c' hm')
  · rw [hK, hc]
    exact of_decide_eq_true (He.ba (List.all_eq_true.mp (h3 c hm) b (mem_allBt b))).1
  · rw [hK, hc]
    exact of_decide_eq_true (He.ba (List.all_eq_true.mp (h3 c hm) b (mem_allBt b))).2
theorem ktB_ok {a : PySem.W.Frag → Addr} (h : ktB a K = true) : KT K (a K) [] := by
  unfold ktB at h
  split at h
  · rename_i c od its n osl q
    obtain ⟨h1, h2⟩ := He.ba h
    have e : its.toList = [] := List.length_eq_zero_iff.mp (by rw [Array.length_toList]; exact of_decide_eq_true h2)
    refine ⟨_, its, n, q, congrArg Value.type (of_decide_eq_true h1), rfl, by rw [of_decide_eq_true h2]; exact Nat.zero_le _, ?_⟩
    rw [e]
    exact .nil
  · cases h
end
/-! ### the end -/
def scrD (ns : List Int) : D := .scr (ns.map D.int)
theorem rep_scr {k : Cn} {H : Hp} {a : Addr} {ns : List Int} (hO : Only H) (h : SqL k.K H a (ns.map V.int)) : Rep k (fun _ => 0) [] H (.ref a) (scrD ns) := by
  have nl : ¬ Live (fun _ => 0) [] a := by
    rintro ⟨i, c, e, _⟩
    simp at e
  rcases h with h | ⟨o, its, n, h1, h2, h3, h4, h5, h6⟩
  · rcases h with h | ⟨o, h⟩
    · rcases hO a with z | ⟨o, xs, z⟩
      · rw [h] at z; cases z
      · rw [h] at z; cases z
    · exact .scr nl h RepL.ints
  · exact .kscr ⟨o, its, n, h1, h2, h3, h4, h5, h6⟩ RepL.ints
theorem law_core {P : Program} {w : World} {K : PySem.W.Frag} {mg mb : Str → Option Value} {fa a : Addr} {sp : Sp} {s₁ : Shared} {vs : List Value} {ns : List Int}
    (KX : K.In s₁.heap) (hns : s₁.heap.Ns mainGlobals mg) (hb : s₁.heap.Ns builtinsNs mb) (hbb : ∀ x : Str, x ≠ "__name__" → mb x = bootBuiltins x) (hlim : s₁.heap.NoLimit) (hg : s₁.gens = #[])
    (ha : s₁.heap.get? a = some { cls := .type "list", data := .seq vs.toArray }) (hi : IntsAre vs ns) (hl : ns.length ≤ sizeLine)
    (key : ∀ base : Heap, K.In base → base.Ns mainGlobals mg → ∀ (s : Shared) (H : Hp), Env0 P w K mg base callerA [] s H → sp [.ref a] H (fun v _ => v = .bl true) (fun _ _ _ => False) →
      codeAny (model P w) callerA (.call (.ref fa) ⟨[.ref a], []⟩) (CR (L2.CX P w) [] P w H s (fun v _ => v = .bl true) fun _ _ _ => False) s)
    (hsp : ∀ H : Hp, Only H → SqL K H a (ns.map V.int) → sp [.ref a] H (fun v _ => v = .bl true) fun _ _ _ => False) :
    codeAny (model P w) callerA (.call (.ref fa) ⟨[.ref a], []⟩) (fun r s' => r = .ok (.ret (.bool true)) ∧ OldK s₁.heap s'.heap ∧ s'.os = s₁.os ∧ AllBare s'.gens) s₁ := by
  have rv := vals_ints hi
  have lenV := hi.length
  -- from an abstract heap in which nothing but the script may be tracked
  have core : ∀ H : Hp, Only H → SqL K H a (ns.map V.int) → HOk P w H s₁.heap → (∀ b, H b ≠ none → b = a) → (H a ≠ none → K.lookup a = none) →
      codeAny (model P w) callerA (.call (.ref fa) ⟨[.ref a], []⟩) (fun r s' => r = .ok (.ret (.bool true)) ∧ OldK s₁.heap s'.heap ∧ s'.os = s₁.os ∧ AllBare s'.gens) s₁ := by
    intro H hO hS hok hA hK
    have base_of : ∀ {b : Addr} {o : Obj}, s₁.heap.get? b = some o → H b = none → (hidT s₁.heap H).get? b = some o := fun e n => hidT_get e n
    have noA : ∀ {b : Addr} {o : Obj} {es : Array DictEntry} {ep : Nat}, s₁.heap.get? b = some o → o.data = .dict es ep → H b = none := fun {b o es ep} e d => by
      cases q : H b with
      | none => rfl
      | some u =>
        have e' : b = a := hA b (by rw [q]; simp)
        subst e'
        rw [ha] at e; cases e
        have d' : Data.seq vs.toArray _ = Data.dict es ep := d
        cases d'
    have nsK : ∀ {b : Addr} {m : Str → Option Value}, s₁.heap.Ns b m → (hidT s₁.heap H).Ns b m := fun {b m} ⟨o, es, ep, e, d, r⟩ => ⟨o, es, ep, base_of e (noA e d), d, r⟩
    have hKb : K.In (hidT s₁.heap H) := fun b o e => base_of (KX b o e) (by
      cases q : H b with
      | none => rfl
      | some u =>
        have e' : b = a := hA b (by rw [q]; simp)
        subst e'
        rw [hK (by rw [q]; simp)] at e; cases e)
    have hM : Mod K mg (hidT s₁.heap H) := ⟨hKb, nsK hns, ⟨mb, nsK hb, hbb⟩, let ⟨mc, h1, h2⟩ := hlim; ⟨mc, nsK h1, h2⟩⟩
    have e0 : Env0 P w K mg (hidT s₁.heap H) callerA [] s₁ H := ⟨rfl, hM, fun b o e => of_hidT e, Nat.le_of_eq (hidT_size _ _), trivial, fun b hb => absurd (show b ∈ ([] : List Addr) from hb) (by simp), hok, .of_eq hg⟩
    refine codeAny_mono (key _ hKb (nsK hns) s₁ H e0 (hsp H hO hS)) fun r s' h => ?_
    cases r with
    | error e =>
      obtain ⟨_, _, _, _, _, _, _, _, _, _, _, _, z⟩ := h
      exact z.elim
    | ok fl =>
      cases fl with
      | next => exact False.elim h
      | brk => exact False.elim h
      | cont => exact False.elim h
      | ret u =>
        obtain ⟨v, H', os, bare, un, hok', r', q⟩ := h
        have q' : v = .bl true := q
        subst q'
        obtain rfl : u = Value.bool true := r'
        refine ⟨rfl, OldK.of_keep fun b o e => ?_, os, bare⟩
        cases q : H b with
        | none => exact un.keep b o e q (by intro z; exact absurd (show b ∈ ([] : List Addr) from z) (by simp)) (by simp)
        | some u =>
          rcases hO b with z | ⟨ob, xs, z⟩
          · rw [q] at z; cases z
          · have z2 := un.frzs b ob _ z
            obtain ⟨e1, _⟩ := hok b _ z
            obtain ⟨e2, _⟩ := hok' b _ z2
            rw [e] at e1; cases e1
            exact e2
  cases hk : K.lookup a with
  | some o =>
    -- the script is one of the module's own objects
    have e := KX a o hk
    rw [ha] at e
    cases e
    refine core (fun _ => none) (fun _ => .inl rfl) (.inr ⟨_, vs.toArray, _, hk, rfl, rfl, rfl, by rw [List.size_toArray, lenV]; exact hl, by simpa using rv⟩) (fun b u z => by have z' : (none : Option HO) = some u := z; cases z') (fun b z => absurd rfl z) fun z => absurd rfl z
  | none =>
    refine core (fun b => if b = a then some (.frz { cls := .type "list", data := .seq vs.toArray } (.lst (ns.map V.int))) else none) (fun b => ?_) (.inl (.inr ⟨{ cls := .type "list", data := .seq vs.toArray }, if_pos rfl⟩)) (fun b u z => ?_) (fun b z => ?_) fun _ => hk
    · by_cases hb : b = a
      · exact .inr ⟨_, _, if_pos hb⟩
      · exact .inl (if_neg hb)
    · by_cases hb : b = a
      · have z' := (if_pos hb).symm.trans z
        cases z'
        subst hb
        exact ⟨ha, by rw [List.length_map]; exact hl, vs, _, rv, ha⟩
      · have z' := (if_neg hb).symm.trans z
        cases z'
    · by_cases hb : b = a
      · exact hb
      · exact absurd (if_neg hb) z
end CT
set_option maxHeartbeats 4000000
/-! DLH: a def that hands back a list of its own, to be changed by its caller. -/
namespace CT
open PySem L2 PySem.Spec PyProof.Rows
section
variable {k : Cn} {A A2 : Nat → Addr} {C C2 : Store} {H : Hp} {n : Nat}
structure Fw2 (n : Nat) (A : Nat → Addr) (C : Store) (A2 : Nat → Addr) (C2 : Store) : Prop where
  lv : ∀ a, Live A2 C2 a → Live A C a
  ix : ∀ j, j < n → A2 j = A j
  len : n ≤ C2.length
mutual
theorem Rep.fw2 (q : Fw2 n A C A2 C2) : ∀ {v : V} {d : D}, Rep k A C H v d → CT.cb n d = true → Rep k A2 C2 H v d
  | _, _, .non, _ => .non
  | _, _, .bl b, _ => .bl b
  | _, _, .int i, _ => .int i
  | _, _, .str s, _ => .str s
  | _, _, .lst l h r, z => .lst (fun y => l (q.lv _ y)) h (r.fw2 q (by simpa [CT.cb] using z))
  | _, _, .tup l h r, z => .tup (fun y => l (q.lv _ y)) h (r.fw2 q (by simpa [CT.cb] using z))
  | _, _, .ktup h r, z => .ktup h (r.fw2 q (by simpa [CT.cb] using z))
  | _, _, .scr l h r, z => .scr (fun y => l (q.lv _ y)) h (r.fw2 q (by simpa [CT.cb] using z))
  | _, _, .kscr h r, z => .kscr h (r.fw2 q (by simpa [CT.cb] using z))
  | _, _, .obj l h e r, z => .obj (fun y => l (q.lv _ y)) h e (r.fw2 q (by simpa [CT.cb] using z))
  | _, _, .exn x l h e r, z => .exn x (fun y => l (q.lv _ y)) h e (r.fw2 q (by simpa [CT.cb] using z))
  | _, _, .cls c, _ => .cls c
  | _, _, .dT l h r, z => .dT (fun y => l (q.lv _ y)) h (r.fw2 q (by simpa [CT.cb] using z))
  | _, _, .cell (i := i) hi, z => by
    have hi : i < n := by simpa [CT.cb] using z
    rw [← q.ix i hi]
    exact .cell (Nat.lt_of_lt_of_le hi q.len)
theorem RepL.fw2 (q : Fw2 n A C A2 C2) : ∀ {vs : List V} {ds : List D}, RepL k A C H vs ds → CT.cbL n ds = true → RepL k A2 C2 H vs ds
  | _, _, .nil, _ => .nil
  | _, _, .cons r t, z => by
    simp [CT.cbL] at z
    exact .cons (r.fw2 q z.1) (t.fw2 q z.2)
end
end
def finO (n : Nat) (d : D) (C : Store) : R D := match d with
  | .cell i => if n ≤ i then (match C[i]? with
    | some (some (.lst xs)) => if cbL n xs = true then .ok (.cell n) (C.take n ++ [some (.lst xs)]) else .stuck
    | _ => .stuck) else .stuck
  | _ => .stuck
def mDefO (np ns : Nat) (body : MS) : MF := fun ds C => if ds.length = np then (match body ⟨C.length, ds.map some ++ List.replicate (ns - np) none⟩ C with
    | .rt d C' => finO C.length d C'
    | .xc e _ C' => if cbL C.length e.fs = true then .exc e (C'.take C.length) else .stuck
    | _ => .stuck) else .stuck
theorem mDefO_ar {np ns : Nat} {body : MS} : Ar np (mDefO np ns body) := fun ds C h => by
  unfold mDefO
  rw [if_neg h]
section
variable {k : Cn}
theorem start_sr {np ns : Nat} {N : List Str} {vs : List V} {ds : List D} {H : Hp} {A : Nat → Addr} {C : Store} (hN : N.length = ns) (hv : vs.length = np) (hd : ds.length = np) (hp : np ≤ ns) (st : StOk k A C H) (rl : RepL k A C H vs ds) :
    SR k A ⟨C.length, ds.map some ++ List.replicate (ns - np) none⟩ C (L2.start N vs) H := by
  have sl : (L2.start N vs) = vs.map some ++ List.replicate (ns - np) none := by unfold L2.start; rw [hN, hv]
  refine ⟨st, st.low, Nat.le_refl _, ?_, fun i d e => ?_⟩
  · rw [sl]
    simp [rl.length]
  · rw [sl]
    have e' : (ds.map some ++ List.replicate (ns - np) none)[i]? = some (some d) := e
    by_cases hi : i < ds.length
    · rw [List.getElem?_append_left (by simpa using hi), List.getElem?_map] at e'
      cases ed : ds[i]? with
      | none => rw [ed] at e'; cases e'
      | some d' =>
        rw [ed] at e'
        cases e'
        obtain ⟨v, h1, h2⟩ := rl.get ed
        refine ⟨v, ?_, h2⟩
        rw [List.getElem?_append_left (by rw [List.length_map, rl.length]; exact hi), List.getElem?_map, h1]
        rfl
    · rw [List.getElem?_append_right (by simpa using hi)] at e'
      have := List.getElem?_eq_some_iff.mp e'
      obtain ⟨h1, h2⟩ := this
      rw [List.getElem_replicate] at h2
      cases h2
theorem spDO_body {np ns : Nat} {body : MS} {N : List Str} {vs : List V} {H : Hp} {Q : VK} {E : XK} (hN : N.length = ns) (hp : np ≤ ns) (h : SpD k np (mDefO np ns body) vs H Q E) :
    LS k (fun c d _ H' => E c d H') body { nx := fun _ H' => Q .non H', rt := Q } (L2.start N vs) H := by
  obtain ⟨hv, A, C, ds, st, rl, h⟩ := h
  have hd : ds.length = np := by rw [← rl.length]; exact hv
  unfold mDefO at h
  rw [if_pos hd] at h
  refine ⟨A, _, C, start_sr hN hv hd hp st rl, ?_⟩
  show AftS k _ C.length A C H (body ⟨C.length, ds.map some ++ List.replicate (ns - np) none⟩ C) _
  cases eb : body ⟨C.length, ds.map some ++ List.replicate (ns - np) none⟩ C with
  | nx sl' C' => rw [eb] at h; exact h.elim
  | bk sl' C' => rw [eb] at h; exact h.elim
  | ct sl' C' => rw [eb] at h; exact h.elim
  | stuck => rw [eb] at h; exact h.elim
  | rt d C' =>
    rw [eb] at h
    intro A' H' v p st' r
    simp only at h
    unfold finO at h
    split at h
    · rename_i i
      split at h
      · rename_i hi
        split at h
        · rename_i xs ec
          split at h
          · rename_i hc
            obtain ⟨q1, q2, q3, q4⟩ := cut_stp rfl st st' p
            cases r with
            | cell hi' =>
              obtain ⟨ws, hw, rw'⟩ := st'.at_ i _ ec
              have tl : (C'.take C.length ++ [some (Cell.lst xs)]).length = C.length + 1 := by simp [List.length_take]; omega
              have at_lt : ∀ j, j < C.length → (C'.take C.length ++ [some (Cell.lst xs)])[j]? = C'[j]? := fun j hj => by
                rw [List.getElem?_append_left (by rw [q4]; exact hj), List.getElem?_take_of_lt hj]
              have at_n : (C'.take C.length ++ [some (Cell.lst xs)])[C.length]? = some (some (.lst xs)) := by
                rw [List.getElem?_append_right (by rw [q4]; exact Nat.le_refl _), q4]
                simp
              have ex_lt : ∀ j, j < C.length → ext A' C.length (A' i) j = A' j := fun j hj => if_neg (Nat.ne_of_lt hj)
              have fw : Fw2 C.length A' C' (ext A' C.length (A' i)) (C'.take C.length ++ [some (.lst xs)]) := by
                refine ⟨fun a l => ?_, ex_lt, by rw [tl]; exact Nat.le_succ _⟩
                obtain ⟨j, c, e, z⟩ := l
                have hj : j < C.length + 1 := by rw [← tl]; exact (List.getElem?_eq_some_iff.mp e).1
                by_cases hj' : j < C.length
                · rw [at_lt j hj'] at e
                  rw [ex_lt j hj'] at z
                  exact ⟨j, c, e, z⟩
                · have ej : j = C.length := by omega
                  subst ej
                  rw [ext_at] at z
                  exact ⟨i, _, ec, z⟩
              have low : LowC C.length C' := p.low _ (Nat.le_refl _) (Nat.le_refl _) st.low
              have cellOk : ∀ c a, cbC C.length c = true → CellAt k A' C' H' a c → CellAt k (ext A' C.length (A' i)) (C'.take C.length ++ [some (.lst xs)]) H' a c := fun c a hb hx => by
                cases c with
                | lst ds => obtain ⟨ws, e, r⟩ := hx; exact ⟨ws, e, r.fw2 fw hb⟩
                | dT ks ds => obtain ⟨ws, e, z, r⟩ := hx; exact ⟨ws, e, z, r.fw2 fw hb⟩
                | ins c ds => obtain ⟨dx, ws, e, z, r⟩ := hx; exact ⟨dx, ws, e, z, r.fw2 fw hb⟩
              have st2 : StOk k (ext A' C.length (A' i)) (C'.take C.length ++ [some (.lst xs)]) H' := by
                refine ⟨fun j c e => ?_, fun j j' c c' e e' z => ?_⟩
                · have hj : j < C.length + 1 := by rw [← tl]; exact (List.getElem?_eq_some_iff.mp e).1
                  by_cases hj' : j < C.length
                  · rw [at_lt j hj'] at e
                    rw [ex_lt j hj']
                    exact cellOk c _ (low j c hj' e) (st'.at_ j c e)
                  · have ej : j = C.length := by omega
                    subst ej
                    rw [at_n] at e
                    cases e
                    rw [ext_at]
                    exact cellOk _ _ hc (st'.at_ i _ ec)
                · have hj : j < C.length + 1 := by rw [← tl]; exact (List.getElem?_eq_some_iff.mp e).1
                  have hk : j' < C.length + 1 := by rw [← tl]; exact (List.getElem?_eq_some_iff.mp e').1
                  by_cases hj' : j < C.length
                  · by_cases hk' : j' < C.length
                    · rw [at_lt j hj'] at e
                      rw [at_lt j' hk'] at e'
                      rw [ex_lt j hj', ex_lt j' hk'] at z
                      exact st'.inj j j' c c' e e' z
                    · have ek : j' = C.length := by omega
                      subst ek
                      rw [at_lt j hj'] at e
                      rw [ex_lt j hj', ext_at] at z
                      have := st'.inj j i c _ e ec z
                      omega
                  · have ej : j = C.length := by omega
                    subst ej
                    by_cases hk' : j' < C.length
                    · rw [at_lt j' hk'] at e'
                      rw [ex_lt j' hk', ext_at] at z
                      have := st'.inj j' i c' _ e' ec z.symm
                      omega
                    · omega
              refine h (ext A' C.length (A' i)) H' (.ref (A' i)) ⟨fun v d r => (p.rep v d r).fw2 fw r.cb, by rw [tl]; exact Nat.le_succ _, fun f h1 h2 l => low_app (by rw [q4]; exact h1) (low_take (p.low f h1 h2 l))⟩ st2 ?_
              have r9 : Rep k (ext A' C.length (A' i)) (C'.take C.length ++ [some (.lst xs)]) H' (.ref (ext A' C.length (A' i) C.length)) (.cell C.length) := .cell (by rw [tl]; exact Nat.lt_succ_self _)
              rw [ext_at] at r9
              exact r9
          · exact h.elim
        · exact h.elim
      · exact h.elim
    · exact h.elim
  | xc e sl' C' =>
    rw [eb] at h
    intro A' σ' H' dd ws p s' x l r
    simp only at h
    split at h
    · rename_i hc
      obtain ⟨q1, q2, q3, q4⟩ := cut_stp rfl st s'.st p
      exact h A' H' dd ws q1 q2 x l (r.cut q3 hc)
    · exact h.elim
variable {P : Program} {w : World} {mg : Str → Option Value} {base : Heap} {x qual : Str} {params : Arguments} {body : List Stmt} {scope : Scope} {dvs : List V} {kws : List (Str × V)} {f : Addr} {fd : FuncData}
theorem fn_okO {N ps : List Str} {lev : Nat} {m : MS} (F : FunD k.K x qual params body scope dvs kws f fd) (S : FnScope N ps scope) (hp : ps.length ≤ N.length)
    (hb : ∀ (cdv : Value) (A : Around) (outer : List Env) (s : Shared) (H : Hp) (E : XK), RoomG lev (A.deeper (envOfC qual scope s.heap.objs.size f cdv)) → PSs (cxOf (L2.CX P w) P w k.K mg base N qual scope f cdv A outer s H E) body (LS k (fun c d _ H' => E c d H') m)) :
    FnG P w k.K mg base (lev + 1) f fd ps (SpD k ps.length (mDefO ps.length N.length m)) := by
  obtain ⟨oc, od, dV, kV, doc, pm, an, cdv, ct, osl, rfl, lk, hcd, _, _⟩ := F.ex
  exact fn_ofG lk hcd S (fun vs H Q E h => h.1) fun A outer s H vs Q E hr h => ⟨_, hb cdv A outer s H E hr, spDO_body rfl hp h⟩
end
end CT
set_option maxHeartbeats 4000000
/-! DLI: comparisons as tests. -/
namespace CT
open PySem L2 PySem.Spec PyProof.Rows
theorem RoomG.u200 {n : Nat} {A : Around} (hr : RoomG n A) : A.units + 200 < cLine := by have := hr.room.un; omega
section
variable {X : Cx} {k : Cn} {W : WX} {a b c : Expr} {pos : Pos} {op op' : CmpOp} {r r' : R2} {o o' : O2} {ma mb mc : ME}
theorem dt_cmp (hR : OpR X (compareOp op) r) (hD : OpD k r o) (ha : PE X a (LE k W ma)) (hb : PE X b (LE k W mb)) (hm : behindInMarks op b = false) : PT X (.Compare a [op] [b] pos) (LT k W (mTst (mOp o ma mb))) :=
  (pt_cmpR hR ha hb hm).cq fun _ _ _ h => le_op hD (lt_val h)
theorem dt_chain (hR : OpR X (compareOp op) r) (hD : OpD k r o) (hR' : OpR X (compareOp op') r') (hD' : OpD k r' o') (ha : PE X a (LE k W ma)) (hb : PE X b (LE k W mb)) (hc : PE X c (LE k W mc))
    (hm : lastMarks [op, op'] [b, c] = false := by with_unfolding_all rfl) : PT X (.Compare a [op, op'] [b, c] pos) (LT k W (mTst (mChain o o' ma mb mc))) :=
  (pt_chain hR hR' ha hb hc hm).cq fun _ _ _ h => le_chain hD hD' (lt_val h)
end
/-! ### == and !=, scalars or data -/
theorem d_eqA {k : Cn} : OpD k (fun x y H Q => rEq x y H Q ∨ rEqD k.K x y H Q) (oEqA false) := by
  intro fl A C H x y dx dy d C' Q hf hl st rx ry e q
  unfold oEqA at e
  split at e
  · cases rx; cases ry; cases e
    refine .inl ⟨rfl, ?_⟩
    have := q A H _ Stp.refl st (.bl _)
    simpa using this
  · cases rx; cases ry; cases e
    refine .inl ⟨rfl, ?_⟩
    have := q A H _ Stp.refl st (.bl _)
    simpa using this
  · exact .inr (d_eqD fl A C H x y _ _ d C' Q hf hl st rx ry e q)
theorem d_neA {k : Cn} : OpD k (fun x y H Q => rNe x y H Q ∨ rNeD k.K x y H Q) (oEqA true) := by
  intro fl A C H x y dx dy d C' Q hf hl st rx ry e q
  unfold oEqA at e
  split at e
  · cases rx; cases ry; cases e
    refine .inl ⟨rfl, ?_⟩
    have := q A H _ Stp.refl st (.bl _)
    simpa using this
  · cases rx; cases ry; cases e
    refine .inl ⟨rfl, ?_⟩
    have := q A H _ Stp.refl st (.bl _)
    simpa using this
  · exact .inr (d_neD fl A C H x y _ _ d C' Q hf hl st rx ry e q)
end CT
set_option maxHeartbeats 4000000
/-! DLJ: operators that a class defines: ==, !=, +, in, []. -/
namespace CT
open PySem L2 PySem.Spec PyProof.Rows
end CT
set_option maxHeartbeats 4000000
/-! DLK: != by an own __eq__; x[i] by an own __getitem__. -/
namespace CT
open PySem L2 PySem.Spec PyProof.Rows
section
variable {X : Cx} {k : Cn} {W : WX} {σ : L2.St} {H : Hp} {Q : VK} {lev : Nat} {C g a dx : Addr} {fs : List (Str × V)} {f : Str} {fd : FuncData} {ps : List Str} {np : Nat} {m : MF} {e o b : Expr} {pos : Pos} {ta tb : TE} {mo me : ME} {E : L2.St → XK} {sp : Sp} {r : L2.St → R2}
/-- the def runs inside a builtin -/
theorem run_in1 {pins : List (Addr × Obj)} {σ : L2.St} {H : Hp} {s : Shared} {Q : VK} {us : List Value} {vs : List V} {Ex : XK} (F : FnG X.prog X.w X.K X.mg X.base lev g fd ps sp) (hr : RoomG (lev + 1) X.A) (hb : Binds X.K fd ps []) (hx : PassesAt (L2.CX X.prog X.w) X σ Ex)
    (I : Inv X pins σ H s) (r : Vals vs us) (h : sp vs H Q Ex) : wpAny (model X.prog X.w) X.A.in1 (call (.ref g) us) (EP X pins σ Q) X.xe s := by
  have hl : (us ++ []).length = ps.length := by
    rw [List.append_nil, ← r.length]
    exact F.len _ _ _ _ h
  have B := hb s us I.kIn hl
  rw [List.append_nil] at B
  refine wpAny_call (codeAny_mono (F.run X.A.in1 X.stack s H ⟨us, []⟩ us vs Q Ex hr.in1 I.env0.in1 B r h) fun r s' hq => ?_)
  cases r with
  | error er => exact hx pins H s er s' I hq
  | ok fl =>
    cases fl with
    | ret u => exact I.after hq
    | next => exact False.elim hq
    | brk => exact False.elim hq
    | cont => exact False.elim hq
end
end CT
set_option maxHeartbeats 4000000
/-! DLL: own operators over data. -/
namespace CT
open PySem L2 PySem.Spec PyProof.Rows
/-! ### the terms -/
def isC (c : Nat) (x : D) (C : Store) : Bool := match vO x C with
  | some (c', _) => decide (c' = c)
  | none => false
/-- x[y] by __getitem__ -/
def mIxO (c : Nat) (m : MF) (mo me : ME) : ME := fun F C => bnd (mo F C) fun x C1 => bnd (me F C1) fun y C2 => if isC c x C2 = true then m [x, y] C2 else .stuck
/-! ### readings -/
def tIxO (C : Addr) (sp : Sp) (E : L2.St → XK) (ta tb : TE) : TE := fun σ H Q => ta σ H fun x H1 => tb σ H1 fun y H2 => ∃ a dx fs, x = .ref a ∧ H2 a = some (.ins C dx fs) ∧ sp [x, y] H2 Q (E σ)
section
variable {X : Cx} {k : Cn} {W : WX} {σ : L2.St} {H : Hp} {Q : VK} {lev : Nat} {C g a dx : Addr} {fs : List (Str × V)} {f : Str} {fd : FuncData} {ps : List Str} {np : Nat} {m : MF} {e o b : Expr} {pos : Pos} {ta tb : TE} {mo me : ME} {E : L2.St → XK} {sp : Sp} {r : L2.St → R2}
theorem pe_ixO (hs : PySem.W.findIn X.K (.ref C) "__getitem__" = some (some (.ref g))) (hfn : PySem.W.fnIn X.K g = true) (hf : PySem.W.isFn X.K (.ref g) = true) (F : FnG X.prog X.w X.K X.mg X.base lev g fd ps sp) (hr : RoomG (lev + 1) X.A) (hb : Binds X.K fd ps []) (hx : ∀ σ, PassesAt (L2.CX X.prog X.w) X σ (E σ))
    (ha : PE X o ta) (hbb : PE X b tb) (hsl : ∀ v i, subscripted b true v i = runValue (.builtin "lifetime.subscript" ⟨[v, i], []⟩)) : PE X (.Subscript o b pos) (tIxO C sp E ta tb) := by
  refine ⟨fun pins s σ H Q I h => ?_⟩
  refine Subscript_ (binT ha hbb I h fun v u s2 x y H2 I2 rx ry q => ?_)
  obtain ⟨a, dx, fs, ex, hi, q⟩ := q
  subst ex
  cases (show v = Value.ref a from rx)
  obtain ⟨mA, O, _, _, _, _⟩ := ins_get I2.hok hi
  obtain ⟨od, J, _⟩ := O.look
  obtain ⟨mm, hF⟩ := I2.fr
  exact PySem.W.sub_K hF I2.ok.mod.kin J hs hfn hf (run_in1 (us := [.ref a, u]) (vs := [.ref a, y]) F hr hb (hx σ) I2 (.cons rfl (.cons ry .nil)) q) (hsl _ _)
theorem isC_at {c : Nat} {A : Nat → Addr} {S : Store} {x : D} {v : V} (st : StOk k A S H) (r : Rep k A S H v x) (h : isC c x S = true) : ∃ a dx gs, v = .ref a ∧ H a = some (.ins (k.cl c) dx gs) := by
  unfold isC at h
  split at h
  · rename_i c' fs' ev
    obtain rfl := of_decide_eq_true h
    obtain ⟨a, dx', vs, rfl, ha, _, _⟩ := vO_at st r ev
    exact ⟨a, dx', _, rfl, ha⟩
  · cases h
theorem le_ixO {c : Nat} (ar : Ar np m) (h : LE k W (mIxO c m mo me) σ H Q) : tIxO (k.cl c) (SpD k np m) (WE W) (LE k W mo) (LE k W me) σ H Q := by
  obtain ⟨A, F, C, s, h⟩ := h
  refine ⟨A, F, C, s, (Aft.bnd (rel := RepD k) h).mono fun dx C1 A1 H1 v p1 st1 r1 h1 => ?_⟩
  have s1 := s.step p1 st1
  refine ⟨A1, F, C1, s1, (Aft.bnd (rel := RepD k) h1).mono fun dy C2 A2 H2 u p2 st2 r2 h2 => ?_⟩
  have s2 := s1.step p2 st2
  split at h2
  · rename_i hc
    obtain ⟨a, dx', gs, rfl, ha⟩ := isC_at st2 (p2.rep _ _ r1) hc
    exact ⟨a, dx', gs, rfl, ha, sp_of s2.fl ar st2 (.cons (p2.rep _ _ r1) (.cons r2 .nil)) h2⟩
  · exact h2.elim
/-! ### the rules -/
theorem de_ixO (c : Nat) (tk : Takes X W) (hK : X.K = k.K) (ha : PE X o (LE k W mo)) (hbb : PE X b (LE k W me)) (hs : PySem.W.findIn k.K (.ref (k.cl c)) "__getitem__" = some (some (.ref g))) (hfn : PySem.W.fnIn k.K g = true) (hf : PySem.W.isFn k.K (.ref g) = true) (F : FnG X.prog X.w X.K X.mg X.base lev g fd ps (SpD k np m)) (ar : Ar np m) (hr : RoomG (lev + 1) X.A) (hb : Binds X.K fd ps [])
    (hsl : ∀ v i, subscripted b true v i = runValue (.builtin "lifetime.subscript" ⟨[v, i], []⟩) := by intros; with_unfolding_all rfl) : PE X (.Subscript o b pos) (LE k W (mIxO c m mo me)) :=
  (pe_ixO (by rw [hK]; exact hs) (by rw [hK]; exact hfn) (by rw [hK]; exact hf) F hr hb (fun σ => passAt tk σ) ha hbb hsl).cq fun _ _ _ h => le_ixO ar h
end
end CT
set_option maxHeartbeats 4000000
/-! DLM: what the head says of own operators. -/
namespace CT
open PySem L2 PySem.Spec PyProof.Rows
section
variable {K : PySem.W.Frag}
/-- a def that the class has under a name -/
structure DnOk (K : PySem.W.Frag) (C : Addr) (f : Str) (g : Addr) : Prop where
  at_ : PySem.W.findIn K (.ref C) f = some (some (.ref g))
  fn : PySem.W.isFn K (.ref g) = true
  fi : PySem.W.fnIn K g = true
theorem dnB_ok {x f : Str} (h : dnB x f K = true) : DnOk K (He.ga K x) f (He.ma K (He.ga K x) f) := by
  obtain ⟨h1, h⟩ := He.ba h
  obtain ⟨h2, h3⟩ := He.ba h
  exact ⟨He.eqO_ok h1, h2, h3⟩
end
end CT
set_option maxHeartbeats 4000000
/-! DLN: t[::-1], xs[::-1], t[lo:hi]. -/
namespace CT
open PySem L2 PySem.Spec PyProof.Rows HT
section
variable {X : Cx} {k : Cn} {W : WX} {σ : L2.St} {H : Hp} {Q : VK} {e : Expr} {te : TE} {kk : Nat} {p1 p2 p3 pos : Pos} {ma : ME}
theorem le_slA {l h' : Fr → Store → R (Option Int)} (h : LE k W (mSlA ma l h') σ H Q) : tSl (rSlA k.K) (LE k W ma) (LO k W l) (LO k W h') σ H Q := by
  obtain ⟨A, F, C, s, h⟩ := h
  refine ⟨A, F, C, s, (Aft.bnd (rel := RepD k) h).mono fun dx C1 A1 H1 x p1 st1 rx h1 => ?_⟩
  have s1 := s.step p1 st1
  refine ⟨A1, F, C1, s1, (Aft.bnd (rel := fun _ _ _ (v d : Option Int) => v = d) h1).mono fun lo C2 A2 H2 lo' p2 st2 rl h2 => ?_⟩
  have rl : lo' = lo := rl
  subst rl
  have s2 := s1.step p2 st2
  refine ⟨A2, F, C2, s2, (Aft.bnd (rel := fun _ _ _ (v d : Option Int) => v = d) h2).mono fun hi C3 A3 H3 hi' p3 st3 rh h3 => ?_⟩
  have rh : hi' = hi := rh
  subst rh
  split at h3
  · rename_i xs ev
    have rx3 := p3.rep _ _ (p2.rep _ _ rx)
    obtain ⟨a, vs, rfl, ha, rv⟩ := vT_at rx3 ev
    refine ⟨a, vs, rfl, ha, fun hw => ?_, fun hw p hp => ?_⟩
    · rw [rv.length] at hw
      rw [if_pos hw] at h3
      exact h3 A3 H3 _ Stp.refl st3 rx3
    · rw [rv.length] at hw
      rw [if_neg hw] at h3
      obtain ⟨w1, w2, w3⟩ := fresh_T (fl := F.fl) st3 (cutD_rep rv lo' hi') hp
      exact h3 A3 _ _ w1 w2 w3
  · exact h3.elim
theorem de_slA {lo hi : Option Expr} {l h : Fr → Store → R (Option Int)} (hK : X.K = k.K) (he : PE X e (LE k W ma)) (hl : PO X lo (LO k W l)) (hu : PO X hi (LO k W h)) : PE X (.Subscript e (.Slice lo hi none p2) pos) (LE k W (mSlA ma l h)) :=
  (pe_slice sl_tupA he hl hu).cq fun _ _ _ h => by
    rw [hK]
    exact le_slA h
end
end CT
set_option maxHeartbeats 4000000
/-! DLO: errors of the program's own: made and raised. -/
namespace CT
open PySem L2 PySem.Spec PyProof.Rows
/-! ### what the head says of an error class -/
theorem oexB_ok {x : Str} {K : PySem.W.Frag} (h : oexB x K = true) : OexC K (He.ga K x) := by
  obtain ⟨h1, h⟩ := He.ba h
  obtain ⟨h2, h⟩ := He.ba h
  obtain ⟨h3, h⟩ := He.ba h
  obtain ⟨h4, h5⟩ := He.ba h
  refine ⟨?_, He.eqO_ok h2, of_decide_eq_true h3, of_decide_eq_true h4, h5⟩
  split at h1
  · rename_i t dd cd sl ho
    obtain ⟨g1, h1⟩ := He.ba h1
    obtain ⟨g2, h1⟩ := He.ba h1
    obtain ⟨g3, h1⟩ := He.ba h1
    split at h1
    · rename_i C' bm k0 k1 k2 k3 n k5 hm hs
      obtain ⟨a1, h1⟩ := He.ba h1
      obtain ⟨a2, a3⟩ := He.ba h1
      have e1 := of_decide_eq_true a1
      have e2 := of_decide_eq_true a2
      have e3 := of_decide_eq_true g1
      obtain ⟨nm, bs, mro, ns, qn, hd, sn, sub, ab, col, del⟩ := cd
      simp only at g2 g3 hm
      have hdel : del = false := by simpa using g3
      have hsl : sl = #[k0, k1, k2, k3, some (.builtin n), k5] := by
        obtain ⟨l⟩ := sl
        simp only at hs
        rw [hs]
      subst e2 e3 hdel hsl g2 hm
      rw [e1] at ho
      exact ⟨nm, qn, ns, bs, bm, sn, sub, ab, col, dd, k0, k1, k2, k3, k5, ho, a3⟩
    · cases h1
  · cases h1
/-- the class has an own __init__ -/
structure XIni (K : PySem.W.Frag) (C fI : Addr) : Prop where
  ox : OexC K C
  at_ : PySem.W.findIn K (.ref C) "__init__" = some (some (.ref fI))
  ty : PySem.W.typeIn K (.ref fI) = some (.type "function")
theorem xiB_ok {x : Str} {K : PySem.W.Frag} (h : xiB x K = true) : XIni K (He.ga K x) (He.ma K (He.ga K x) "__init__") := by
  obtain ⟨h1, h⟩ := He.ba h
  obtain ⟨h2, h3⟩ := He.ba h
  exact ⟨oexB_ok h1, He.eqO_ok h2, of_decide_eq_true h3⟩
/-! ### __init__: one field, two fields -/
def spX1 (C : Addr) (f : Str) : Sp := fun vs H Q _ => ∃ a v, vs = [.ref a, v] ∧ H a = some (exo a C none) ∧ ∀ dx, H dx = none → dx ≠ a → Q .non (upd (upd H dx (exd dx [(f, v)])) a (exo a C (some dx)))
section
variable {P : Program} {w : World} {K : PySem.W.Frag} {mg : Str → Option Value} {base : Heap} {x qual : Str} {params : Arguments} {body : List Stmt} {scope : Scope} {f : Addr} {fd : FuncData} {N : List Str} {C : Addr} {fl gl : Str}
theorem x1_ok {ps : List Str} (F : FunD K x qual params body scope [] [] f fd) (S : FnScope N ps scope) (hp : ps.length = 2) (hN : N.length = 2) (T : OexC K C) (hno : PySem.W.findIn K (.ref C) fl = some none)
    (hb : ∀ (cdv : Value) (A : Around) (outer : List Env) (s : Shared) (H : Hp) (E : XK), PSs (cxOf CX0 P w K mg base N qual scope f cdv A outer s H E) body (tOst K fl (tVar 0) (tVar 1))) : FnOk P w K mg base CX0 1 f fd ps (spX1 C fl) := by
  refine F.ok S (fun vs H Q E h => ?_) (fun cdv A outer s H vs Q E hr h => ⟨_, hb cdv A outer s H E, ?_⟩)
  · obtain ⟨a, v, rfl, _⟩ := h
    rw [hp]
    rfl
  · obtain ⟨a, v, rfl, ha, hq⟩ := h
    have e : L2.start N [.ref a, v] = [some (.ref a), some v] := by
      unfold L2.start
      rw [hN]
      rfl
    rw [e]
    exact ⟨v, rfl, .ref a, rfl, a, C, rfl, T, hno, .inl ⟨ha, fun dx h1 h2 => hq dx h1 h2⟩⟩
end
/-! ### raise C(e, ..) -/
section
variable {X : Cx} {k : Cn} {W : WX} {σ : L2.St} {H : Hp} {E : Ends} {ma : MA} {c : Nat}
theorem hp_end {H1 : Hp} {a dx : Addr} {o o' o'' o3 : HO} (ha : H1 a = none) (hn : dx ≠ a) : upd (del (upd (upd (upd H1 a o) dx o') a o'') a) dx o3 = upd H1 dx o3 := by
  funext b
  by_cases h1 : b = dx
  · subst h1
    rw [upd_same, upd_same]
  · rw [upd_ne h1, upd_ne h1]
    by_cases h2 : b = a
    · subst h2
      rw [del_same, ha]
    · rw [del_ne h2, upd_ne h2, upd_ne h1, upd_ne h2]
theorem ls_raise1 {f : Str} (hf : k.fn c = [f]) (h : LS k W (sRaise c 1 ma) E σ H) : tMkO (k.cl c) (spX1 (k.cl c) f) [] (LA k W ma) σ H (fun cls d H' => W cls d σ H') := by
  obtain ⟨A, F, C, s, h⟩ := h
  refine ⟨A, F, C, s, (AftS.bnd (rel := RepDs k) s h).mono fun ds C1 A1 H1 vs p st r h1 => ?_⟩
  split at h1
  · rename_i hl
    have r' : RepL k A1 C1 H1 vs ds := r
    match ds, vs, r', hl, h1 with
    | [d], [v], r', _, h1 =>
      have s1 := s.step p st
      refine ⟨by simp, fun a ha => ⟨a, v, rfl, upd_same, fun dx hd hn => ⟨rfl, dx, [(f, v)], upd_same, ?_, ?_, ?_⟩⟩⟩
      · rw [upd_ne hn]
        exact upd_same
      · rw [upd_ne hn] at hd
        exact hd
      · rw [upd_ne hn] at hd
        rw [hp_end ha hn]
        have q : Kp A1 C1 H1 A1 C1 (upd H1 dx (.xd [(f, v)])) := kp_new hd
        have st2 := st.new (o := .xd [(f, v)]) hd
        exact h1 A1 σ (upd H1 dx (.xd [(f, v)])) dx [v] q.stp0 (s1.step q.stp0 st2) (by rw [hf]; exact upd_same) (by rw [hf]; rfl) (r'.kp q)
  · exact h1.elim
variable {fI : Addr} {fd : FuncData} {ps : List Str} {x : Str} {e : Expr} {es : List Expr} {p pos pos' : Pos} {lev : Nat}
theorem ds_raise1 (c : Nat) {f : Str} (hc : X.calm = true) (tk : Takes X W) (hK : X.K = k.K) (T : XIni k.K (k.cl c) fI) (hf : k.fn c = [f]) (F1 : FnOk X.prog X.w X.K X.mg X.base CX0 lev fI fd ps (spX1 (k.cl c) f)) (hr : RoomG (lev + 1) X.A) (hb : Binds X.K fd ps [])
    (hg : Gl X x) (hm : X.mg x = some (.ref (k.cl c))) (ha : PA X (e :: es) (LA k W ma)) (hdb : (x == ("__debug__" : Str)) = false := by decide) (he : starEach (e :: es) X.env = (false, eval e X.env) :: starEach es X.env := by rfl) (hpl : (backTo pos (starEach es X.env)).any (·.1) = false := by rfl) :
    PS X (.Raise (some (.Call (.Name x p) (e :: es) [] pos)) none pos') (LS k W (sRaise c 1 ma)) :=
  (ps_raise hc tk (pmk_oex (C := k.cl c) (by rw [hK]; exact T.ox) (by rw [hK]; exact T.at_) (by rw [hK]; exact T.ty) F1 hr.room hb .nil (fun _ _ _ _ _ _ _ h => h.elim) hg hm ha hdb he hpl)).cq fun _ _ _ h => ls_raise1 hf h
end
end CT
set_option maxHeartbeats 4000000
/-! DLP: try: .. except C as n: .. return; the error is held as data. -/
namespace CT
open PySem L2 PySem.Spec PyProof.Rows
/-- k, with the error at a held -/
def Cn.hold (k : Cn) (a : Addr) (c : Nat) (dd : Addr) : Cn := { k with ex := some (a, c, dd) }
section
variable {k : Cn} {A A' : Nat → Addr} {C C' : Store} {H H' : Hp} {a dd : Addr} {c : Nat} {fl : Nat}
mutual
theorem Rep.up (hk : k.ex = none) : ∀ {v : V} {d : D}, Rep k A C H v d → Rep (k.hold a c dd) A C H v d
  | _, _, .non => .non
  | _, _, .bl b => .bl b
  | _, _, .int i => .int i
  | _, _, .str s => .str s
  | _, _, .lst l h r => .lst l h (r.up hk)
  | _, _, .tup l h r => .tup l h (r.up hk)
  | _, _, .ktup h r => .ktup h (r.up hk)
  | _, _, .scr l h r => .scr l h (r.up hk)
  | _, _, .kscr h r => .kscr h (r.up hk)
  | _, _, .obj l h z r => .obj l h z (r.up hk)
  | _, _, .dT l h r => .dT l h (r.up hk)
  | _, _, .cell hi => .cell hi
  | _, _, .cls c => .cls c
  | _, _, .exn x l h z r => by rw [hk] at x; cases x
theorem RepL.up (hk : k.ex = none) : ∀ {vs : List V} {ds : List D}, RepL k A C H vs ds → RepL (k.hold a c dd) A C H vs ds
  | _, _, .nil => .nil
  | _, _, .cons r t => .cons (r.up hk) (t.up hk)
end
mutual
theorem Rep.down : ∀ {v : V} {d : D}, Rep (k.hold a c dd) A C H v d → CT.nx d = true → Rep k A C H v d
  | _, _, .non, _ => .non
  | _, _, .bl b, _ => .bl b
  | _, _, .int i, _ => .int i
  | _, _, .str s, _ => .str s
  | _, _, .lst l h r, z => .lst l h (r.down (by simpa [CT.nx] using z))
  | _, _, .tup l h r, z => .tup l h (r.down (by simpa [CT.nx] using z))
  | _, _, .ktup h r, z => .ktup h (r.down (by simpa [CT.nx] using z))
  | _, _, .scr l h r, z => .scr l h (r.down (by simpa [CT.nx] using z))
  | _, _, .kscr h r, z => .kscr h (r.down (by simpa [CT.nx] using z))
  | _, _, .obj l h e r, z => .obj l h e (r.down (by simpa [CT.nx] using z))
  | _, _, .dT l h r, z => .dT l h (r.down (by simpa [CT.nx] using z))
  | _, _, .cell hi, _ => .cell hi
  | _, _, .cls c, _ => .cls c
  | _, _, .exn x l h e r, z => by cases z
theorem RepL.down : ∀ {vs : List V} {ds : List D}, RepL (k.hold a c dd) A C H vs ds → CT.nxL ds = true → RepL k A C H vs ds
  | _, _, .nil, _ => .nil
  | _, _, .cons r t, z => by
    simp [CT.nxL] at z
    exact .cons (r.down z.1) (t.down z.2)
end
theorem StOk.up (hk : k.ex = none) (st : StOk k A C H) : StOk (k.hold a c dd) A C H := by
  refine ⟨fun i x e => ?_, st.inj⟩
  have q := st.at_ i x e
  cases x with
  | lst ds => obtain ⟨vs, h1, r⟩ := q; exact ⟨vs, h1, r.up hk⟩
  | dT ks ds => obtain ⟨vs, h1, h2, r⟩ := q; exact ⟨vs, h1, h2, r.up hk⟩
  | ins c' ds => obtain ⟨dx, vs, h1, h2, r⟩ := q; exact ⟨dx, vs, h1, h2, r.up hk⟩
theorem StOk.down (hk : k.ex = none) (st0 : StOk k A C H) (st : StOk (k.hold a c dd) A' C H') : StOk k A' C H' := by
  refine ⟨fun i x e => ?_, st.inj⟩
  have q := st.at_ i x e
  have q0 := st0.at_ i x e
  cases x with
  | lst ds =>
    obtain ⟨vs, h1, r⟩ := q
    obtain ⟨_, _, r0⟩ := q0
    exact ⟨vs, h1, r.down (r0.nx hk)⟩
  | dT ks ds =>
    obtain ⟨vs, h1, h2, r⟩ := q
    obtain ⟨_, _, _, r0⟩ := q0
    exact ⟨vs, h1, h2, r.down (r0.nx hk)⟩
  | ins c' ds =>
    obtain ⟨dx, vs, h1, h2, r⟩ := q
    obtain ⟨_, _, _, _, r0⟩ := q0
    exact ⟨dx, vs, h1, h2, r.down (r0.nx hk)⟩
theorem Stp.down (hk : k.ex = none) (p : Stp (k.hold a c dd) fl A C H A' C' H') : Stp k fl A C H A' C' H' := ⟨fun v d r => (p.rep v d (r.up hk)).down (r.nx hk), p.len, p.low⟩
theorem StOk.notXd {fs : List (Str × V)} (st : StOk k A C H) (h : H dd = some (.xd fs)) : ¬ Live A C dd := by
  rintro ⟨i, x, e, rfl⟩
  have q := st.at_ i x e
  cases x with
  | lst ds => obtain ⟨vs, h1, r⟩ := q; rw [h] at h1; cases h1
  | dT ks ds => obtain ⟨vs, h1, h2, r⟩ := q; rw [h] at h1; cases h1
  | ins c' ds => obtain ⟨dx, vs, h1, h2, r⟩ := q; rw [h] at h1; cases h1
end
open Classical in
/-- the clause's suite must return a value without the error, and change no cell -/
noncomputable def sTry (i : Nat) (cs ds : List Nat) (mb mh : MS) : MS := fun F C => match mb F C with
  | .xc e sl C' => if e.c ∈ cs then (match mh ⟨F.fl, sl.set i (some (.exn e.c e.fs))⟩ C' with
      | .rt d C2 => if C2 = C' ∧ nx d = true then .rt d C' else .stuck
      | _ => .stuck) else if e.c ∈ ds then .xc e sl C' else .stuck
  | r => r
section
variable {X : Cx} {k : Cn} {W : WX} {σ : L2.St} {H : Hp} {E : Ends} {mb mh : MS} {i : Nat} {cs ds : List Nat} {cv : Value} {x n : Str} {body suite : List Stmt} {b₀ : Stmt} {np pos pos' : Pos}
/-- what the clause wishes -/
def tsX (k : Cn) (cs : List Nat) (mh : MS) : Addr → Value → Option Addr → TS := fun a cls d D σ H => ∃ c dd, c ∈ cs ∧ cls = .ref (k.cl c) ∧ d = some dd ∧ LS (k.hold a c dd) (fun _ _ _ _ => False) mh D σ H
theorem ls_try (hk : k.ex = none) (hy : ∀ c ∈ cs, PySem.W.exmOne k.K (.ref (k.cl c)) cv = some true) (hn : ∀ c ∈ ds, PySem.W.exmOne k.K (.ref (k.cl c)) cv = some false) (h : LS k W (sTry i cs ds mb mh) E σ H) : LS k (wAs k.K cv i (tsX k cs mh) W E) mb E σ H := by
  obtain ⟨A, F, C, s, h⟩ := h
  refine ⟨A, F, C, s, ?_⟩
  unfold sTry at h
  cases em : mb F C with
  | nx sl C' => rw [em] at h; exact h
  | bk sl C' => rw [em] at h; exact h
  | ct sl C' => rw [em] at h; exact h
  | rt d C' => rw [em] at h; exact h
  | stuck => rw [em] at h; exact h
  | xc e sl C' =>
    rw [em] at h
    simp only at h
    intro A' σ' H' dd vs p sr hx hl r
    split at h
    · rename_i hc
      refine ⟨true, hy _ hc, fun _ a ha => ⟨e.c, dd, hc, rfl, rfl, A', ⟨F.fl, sl.set i (some (.exn e.c e.fs))⟩, C', ?_, ?_⟩, (fun z => by cases z)⟩
      · have su : SR (k.hold a e.c dd) A' ⟨F.fl, sl⟩ C' σ' H' := ⟨sr.st.up hk, sr.low, sr.fl, sr.len, fun j d e' => let ⟨v, h1, h2⟩ := sr.sl j d e'; ⟨v, h1, h2.up hk⟩⟩
        exact su.set (.exn rfl (sr.st.notXd hx) hx hl (r.up hk))
      · cases eh : mh ⟨F.fl, sl.set i (some (.exn e.c e.fs))⟩ C' with
        | rt d C2 =>
          rw [eh] at h
          simp only at h
          split at h
          · rename_i hq
            obtain ⟨rfl, hnx⟩ := hq
            intro A2 H2 v p2 st2 r2
            exact h A2 H2 v (p.trans (p2.down hk)) (StOk.down hk sr.st st2) (r2.down hnx)
          · exact h.elim
        | nx sl2 C2 => rw [eh] at h; exact h.elim
        | bk sl2 C2 => rw [eh] at h; exact h.elim
        | ct sl2 C2 => rw [eh] at h; exact h.elim
        | xc e2 sl2 C2 => rw [eh] at h; exact h.elim
        | stuck => rw [eh] at h; exact h.elim
    · split at h
      · rename_i hc
        exact ⟨false, hn _ hc, (fun z => by cases z), fun _ => h A' σ' H' dd vs p sr hx hl r⟩
      · exact h.elim
theorem ds_try (hs : X.stack = X.env :: X.outer) (hf : X.env.frame = some X.env.locals) (hN : X.N.Nodup) (hi : X.N[i]? = some n) (hln : X.env.kindOf n = some .local) (hc : Names X x cv) (tk : Takes X W) (hK : X.K = k.K) (hk : k.ex = none)
    (hy : ∀ c ∈ cs, PySem.W.exmOne k.K (.ref (k.cl c)) cv = some true) (hn : ∀ c ∈ ds, PySem.W.exmOne k.K (.ref (k.cl c)) cv = some false)
    (hb : ∀ (W : WX) (pn : List (Addr × Obj)) (xe : Value → Shared → Prop), Takes (X.tr pn xe) W → PassesOwn (model X.prog X.w) X.A X.env xe → PSs (X.tr pn xe) body (LS k W mb))
    (hsu : ∀ (a : Addr) (oe : Obj) (c : Nat) (dd : Addr) (pn : List (Addr × Obj)), c ∈ cs → Zc (.ref (k.cl c)) (some dd) oe → (∃ vs, oe.data = .fields vs) → PSs (X.suite a ((a, oe) :: pn)) (b₀ :: suite) (LS (k.hold a c dd) (fun _ _ _ _ => False) mh)) :
    PS X (.Try body [.ExceptHandler (some (.Name x np)) (some n) (b₀ :: suite) pos'] [] [] pos) (LS k W (sTry i cs ds mb mh)) :=
  (ps_try_as (tb := fun W => LS k W mb) (ts := tsX k cs mh) hs hf hN hi hln hc tk hb (fun a oe cls d pn hz hv => ⟨fun pins s σ H D I h => by
    obtain ⟨c, dd, hc', rfl, rfl, h⟩ := h
    exact (hsu a oe c dd pn hc' hz hv).run pins s σ H D I h⟩)).cq fun D σ H h => by
    rw [hK]
    exact ls_try hk hy hn h
/-! ### the held error's fields -/
def oXf (c n : Nat) : O1 := fun x C => match x with
  | .exn c' fs => if c' = c then (fs[n]?).map fun d => (d, C) else none
  | _ => none
theorem le_xf {c c' : Nat} {a dd : Addr} {f : Str} {nn : Nat} {me : ME} {Q : VK} (nd : (k.fn c).Nodup) (hf : (k.fn c)[nn]? = some f) (h : LE (k.hold a c' dd) W (mUn (oXf c nn) me) σ H Q) : tXf a (.ref (k.cl c')) (some dd) (k.cl c) f (LE (k.hold a c' dd) W me) σ H Q := by
  obtain ⟨A, F, C, s, h⟩ := h
  refine ⟨A, F, C, s, (Aft.bnd (rel := RepD (k.hold a c' dd)) h).mono fun dx C1 A1 H1 v p1 st1 r1 h1 => ?_⟩
  obtain ⟨d, C', e, q⟩ := aft_ofO h1
  cases r1 with
  | @exn a0 dd0 c0 vs ds0 x l hx hl rv =>
    simp only [oXf] at e
    split at e
    · rename_i hcc
      subst hcc
      cases x
      cases ed : ds0[nn]? with
      | none => rw [ed] at e; cases e
      | some d0 =>
        rw [ed] at e
        cases e
        obtain ⟨u, h2, h3⟩ := rv.get ed
        exact ⟨rfl, rfl, dd, _, u, rfl, hx, zip_look nd hf h2, q A1 H1 u Stp.refl st1 h3⟩
    · cases e
  | _ => cases e
theorem de_xf {a : Addr} {oe : Obj} {c' : Nat} {dd : Addr} {pn : List (Addr × Obj)} (c nn : Nat) {f : Str} {e : Expr} {me : ME} (hK : X.K = k.K) (T : XfC k.K (k.cl c)) (hno : PySem.W.findIn k.K (.ref (k.cl c)) f = some none) (nd : (k.fn c).Nodup) (hfn : (k.fn c)[nn]? = some f)
    (hz : Zc (.ref (k.cl c')) (some dd) oe) (hv : ∃ vs, oe.data = .fields vs) (he : PE (X.suite a ((a, oe) :: pn)) e (LE (k.hold a c' dd) W me)) (hb : attributeBase e f X.env (eval e X.env) = eval e X.env := by rfl) :
    PE (X.suite a ((a, oe) :: pn)) (.Attribute e f pos) (LE (k.hold a c' dd) W (mUn (oXf c nn) me)) :=
  (pe_xf (C := k.cl c) (by rw [hK]; exact T) (by rw [hK]; exact hno) hz hv he hb).cq fun _ _ _ h => le_xf nd hfn h
end
end CT
set_option maxHeartbeats 4000000
/-! DLQ: isinstance of the held error. -/
namespace CT
open PySem L2 PySem.Spec PyProof.Rows PySem.W
theorem _root_.L2.ExcC.xf {K : Frag} {D : Addr} (T : ExcC K D) : XfC K D := ⟨T.hg, T.hk, T.hs, T.hd⟩
section
variable {X : Cx} {k : Cn} {W : WX} {σ : L2.St} {H : Hp} {Q : VK}
structure XsOk (k : Cn) (kn : List Nat) : Prop where
  exc : ∀ c ∈ kn, ExcC k.K (k.cl c)
  own : ∀ c ∈ kn, ∀ c' ∈ kn, kitOne k.K (.ref (k.cl c)) (.ref (k.cl c')) = some (decide (c = c'))
theorem excA_ok {C : Addr} {K : Frag} (h : excA C K = true) : ExcC K C := by
  obtain ⟨h1, h⟩ := He.ba h
  obtain ⟨h2, h⟩ := He.ba h
  obtain ⟨h3, h⟩ := He.ba h
  obtain ⟨h4, h⟩ := He.ba h
  obtain ⟨h5, h⟩ := He.ba h
  obtain ⟨h6, h⟩ := He.ba h
  obtain ⟨h7, h8⟩ := He.ba h
  exact ⟨He.eqO_ok h1, He.eqO_ok h2, of_decide_eq_true h3, h4, He.eqO_ok h5, He.eqO_ok h6, of_decide_eq_true h7, of_decide_eq_true h8⟩
theorem xsB_ok {cl : Frag → Nat → Addr} {kn : List Nat} {k : Cn} {K : Frag} (hK : k.K = K) (hc : k.cl = cl K) (h : xsB cl kn K = true) : XsOk k kn := by
  obtain ⟨h1, h⟩ := He.ba h
  refine ⟨fun c hm => ?_, fun c hm c' hm' => ?_⟩
  · rw [hK, hc]
    exact excA_ok (List.all_eq_true.mp h1 c hm)
  · rw [hK, hc]
    exact of_decide_eq_true (List.all_eq_true.mp (List.all_eq_true.mp h c hm) c' hm')
structure ExmOk (k : Cn) (cv : Value) (cs ds : List Nat) : Prop where
  yes : ∀ c ∈ cs, exmOne k.K (.ref (k.cl c)) cv = some true
  no : ∀ c ∈ ds, exmOne k.K (.ref (k.cl c)) cv = some false
theorem exmB_ok {cl : Frag → Nat → Addr} {x : Str} {cs ds : List Nat} {k : Cn} {K : Frag} (hK : k.K = K) (hc : k.cl = cl K) (h : exmB cl x cs ds K = true) : ExmOk k (.ref (He.ga K x)) cs ds := by
  obtain ⟨h1, h2⟩ := He.ba h
  refine ⟨fun c hm => ?_, fun c hm => ?_⟩
  · rw [hK, hc]
    exact of_decide_eq_true (List.all_eq_true.mp h1 c hm)
  · rw [hK, hc]
    exact of_decide_eq_true (List.all_eq_true.mp h2 c hm)
end
end CT
set_option maxHeartbeats 4000000
/-! DLR: web * k. -/
namespace CT
open PySem L2 PySem.Spec PyProof.Rows PySem.W
/-! ### over data -/
def mulB (x : Str) (K : Frag) : Bool := selfFirst K (He.ga K x) && (He.eqO (findIn K (.ref (He.ga K x)) (PySem.dunder "mul")) (some (some (.ref (He.ma K (He.ga K x) "__mul__")))) && (He.eqO (findIn K (.ref (He.ga K x)) (PySem.dunderR "mul")) (some (some (.ref (He.ma K (He.ga K x) "__rmul__")))) &&
  (isFn K (.ref (He.ma K (He.ga K x) "__mul__")) && (isFn K (.ref (He.ma K (He.ga K x) "__rmul__")) && (decide (subIn K (.type "int") (.ref (He.ga K x)) = some false) && decide (subIn K (.ref (He.ga K x)) (.type "int") = some false))))))
end CT
set_option maxHeartbeats 4000000
/-! DLS: is None; sorted(set(xs)) of ints, len(set(xs)) of tuples of ints. -/
namespace CT
open PySem L2 PySem.Spec PyProof.Rows
/-! ### is None, is not None -/
/-! ### set(xs), xs a list of ints -/
end CT
set_option maxHeartbeats 4000000
/-! E1: how the terms of the layer are worked out. -/
namespace CT
open PySem L2
/-! ### named steps; simp looks at what is done first alone -/
theorem ev_def {np ns : Nat} {body : MS} {ds : List D} {C : Store} (h : ds.length = np) : mDef np ns body ds C = finS C.length (body ⟨C.length, ds.map some ++ List.replicate (ns - np) none⟩ C) := by
  unfold mDef
  rw [if_pos h]
  rfl
section
variable (fl : Nat) (sl : List (Option D)) (C : Store) (F : Fr)
theorem ev_mul {a b : Int} (h : cMul a b = true) : oMul (.int a) (.int b) C = some (.int (a * b), C) := by
  show (if cMul a b = true then some (D.int (a * b), C) else none) = _
  rw [if_pos h]
theorem ev_mod {a b : Int} (h : 0 < b) : oMod (.int a) (.int b) C = some (.int (a % b), C) := by
  show (if decide (0 < b) = true then some (D.int (a % b), C) else none) = _
  rw [if_pos (decide_eq_true h)]
theorem ev_div {a b : Int} (h : 0 < b) (h2 : b < 4611686018427387904) : oDiv (.int a) (.int b) C = some (.int (a / b), C) := by
  show (if cDiv a b = true then some (D.int (a / b), C) else none) = _
  rw [if_pos (by simp [cDiv, h, h2])]
end
/-! ### what is done next, as constants -/
section
variable {α β : Type}
/-! #### methods, properties, dicts -/
theorem getK_ok (b c : ME) (F : Fr) {x : D} {C : Store} (h : (vD x C).isSome = true) : getK b c F (.ok x C) = getK2 c F x (b F C) := by
  show (if (vD x C).isSome = true then getK2 c F x (b F C) else .stuck) = _
  rw [if_pos h]
/-! #### lists written -/
end
end CT
set_option maxHeartbeats 4000000
/-! DLT: sorted(set(xs)) of ints, len(set(xs)) of tuples of ints. -/
namespace CT
open PySem L2 PySem.Spec PyProof.Rows
theorem mDef_e {np ns : Nat} {b : MS} {ds : List D} {C : Store} {sl : List (Option D)} (h : ds.length = np) (hs : ds.map some ++ List.replicate (ns - np) none = sl) : mDef np ns b ds C = finS C.length (b ⟨C.length, sl⟩ C) := by
  rw [← hs]
  exact ev_def h
/-! ### unlike members, ascending -/
/-! ### unlike rows -/
/-! ### the calls -/
/-! ### over data -/
end CT
set_option maxHeartbeats 4000000
/-! DLU: repr of an empty dict. -/
namespace CT
open PySem L2 PySem.Spec PyProof.Rows
end CT
set_option maxHeartbeats 4000000
/-! DLV: l.count(x) over data. -/
namespace CT
open PySem L2 PySem.Spec PyProof.Rows
end CT
set_option maxHeartbeats 4000000
/-! DLW: a class whose __init__ takes *numbers and a keyword. -/
namespace CT
open PySem L2 PySem.Spec PyProof.Rows
/-! ### C(e, ..), C(k = e) -/
section
variable {k : Cn} {A : Nat → Addr} {C : Store} {H : Hp}
end
end CT
set_option maxHeartbeats 4000000
/-! DLX: len(set(t)) of a tuple of ints; sorted(t); str(n), f-strings, join. -/
namespace CT
open PySem L2 PySem.Spec PyProof.Rows
/-! ### len(set(t)) -/
/-! ### sorted(t) -/
end CT
set_option maxHeartbeats 4000000
/-! DLY: sorted of lists or tuples; str(n), f-strings, join; str(o) by the class's own __str__. -/
namespace CT
open PySem L2 PySem.Spec PyProof.Rows
section
variable {X : Cx} {k : Cn} {W : WX} {σ : L2.St} {H : Hp} {Q : VK}
/-! ### str(n) -/
def oStrI : OA := fun xs C => match xs with
  | [.int i] => if i.natAbs.log2 < 1920 then some (.str (toString i), C) else none
  | _ => none
theorem d_strI : ApD k (fun xs H Q => ∃ i : Int, xs = [.int i] ∧ i.natAbs.log2 < 1920 ∧ Q (.str (toString i)) H) oStrI := by
  intro fl A C H x dx d C' Q hf hl st rx e q
  unfold oStrI at e
  split at e
  · rename_i i
    split at e
    · rename_i hi
      cases e
      cases rx with
      | cons r t =>
        cases t
        cases r
        exact ⟨i, rfl, hi, q A H _ Stp.refl st (.str _)⟩
    · cases e
  · cases e
/-! ### f-strings -/
inductive FP where
  | txt (s : Str) | ex (m : ME)
def FP.t (k : Cn) (W : WX) : FP → TE
  | .txt s => tC (.str s)
  | .ex m => tFmt (LE k W m)
variable {v1 v2 : Expr} {rest : List Expr} {pos : Pos}
/-! ### join -/
variable {mo me : ME}
variable {o e : Expr} {apos : Pos}
/-! ### str(o) -/
variable {lev : Nat} {g : Addr} {fd : FuncData} {ps : List Str} {m : MF} {p : Pos}
end
end CT
set_option maxHeartbeats 4000000
/-! DLZ: binding of *numbers and a keyword that is None by itself. -/
namespace CT
open PySem L2 PySem.Spec PyProof.Rows
end CT
set_option maxHeartbeats 4000000
/-! DM1: classmethods (C.m(..), cls(k = e)); + of texts. -/
namespace CT
open PySem L2 PySem.Spec PyProof.Rows
end CT
set_option maxHeartbeats 4000000
/-! DM2: the head's Hook where attributes of classes are read. -/
namespace CT
open PySem L2 PySem.Spec PyProof.Rows
end CT
set_option maxHeartbeats 8000000
set_option pp.maxSteps 60
namespace CL
open PySem L2 PySem.Spec PyProof.Rows CT
def flA (c : Nat) : List Str := match c with
  | 0 => ["size", "grid", "ties"]
  | 1 => ["limit"]
  | _ => []
abbrev cn (K : PySem.W.Frag) : Cn := ⟨K, clA K, flA, none⟩
structure Txt (K : PySem.W.Frag) (mg : Str → Option Value) : Prop where
  n_abs : mg "abs" = none
  n_all : mg "all" = none
  n_any : mg "any" = none
  n_bool : mg "bool" = none
  n_enumerate : mg "enumerate" = none
  n_int : mg "int" = none
  n_isinstance : mg "isinstance" = none
  n_len : mg "len" = none
  n_list : mg "list" = none
  n_max : mg "max" = none
  n_min : mg "min" = none
  n_range : mg "range" = none
  n_repr : mg "repr" = none
  n_sorted : mg "sorted" = none
  n_str : mg "str" = none
  n_sum : mg "sum" = none
  n_tuple : mg "tuple" = none
  n_zip : mg "zip" = none
  c_MOST : ∃ t, mg "MOST" = some (.int 1000000000 t)
  g_is_integer : mg "is_integer" = some (.ref (a_is_integer K))
  g_is_number : mg "is_number" = some (.ref (a_is_number K))
  g_is_count : mg "is_count" = some (.ref (a_is_count K))
  g_is_tie : mg "is_tie" = some (.ref (a_is_tie K))
  g_summed : mg "summed" = some (.ref (a_summed K))
  g_grid_of : mg "grid_of" = some (.ref (a_grid_of K))
  g_check_size : mg "check_size" = some (.ref (a_check_size K))
  g_pairs_of : mg "pairs_of" = some (.ref (a_pairs_of K))
  g_numbers : mg "numbers" = some (.ref (a_numbers K))
  g_check_light : mg "check_light" = some (.ref (a_check_light K))
  g_is_table : mg "is_table" = some (.ref (a_is_table K))
  g_is_tables : mg "is_tables" = some (.ref (a_is_tables K))
  g_displeasure : mg "displeasure" = some (.ref (a_displeasure K))
  g_distances : mg "distances" = some (.ref (a_distances K))
  g_squares : mg "squares" = some (.ref (a_squares K))
  g_added : mg "added" = some (.ref (a_added K))
  g_law_bag : mg "_law_bag" = some (.ref (a_law_bag K))
  g_law_take : mg "_law_take" = some (.ref (a_law_take K))
  g_law_one : mg "_law_one" = some (.ref (a_law_one K))
  g_law_mixed : mg "_law_mixed" = some (.ref (a_law_mixed K))
  g_law_pairs : mg "_law_pairs" = some (.ref (a_law_pairs K))
  g_law_light : mg "_law_light" = some (.ref (a_law_light K))
  g_law_grid : mg "_law_grid" = some (.ref (a_law_grid K))
  g_law_alike : mg "_law_alike" = some (.ref (a_law_alike K))
  g_law_is_whole : mg "_law_is_whole" = some (.ref (a_law_is_whole K))
  g_law_table : mg "_law_table" = some (.ref (a_law_table K))
  g_law_cost : mg "_law_cost" = some (.ref (a_law_cost K))
  g_law_tables_right : mg "_law_tables_right" = some (.ref (a_law_tables_right K))
  g_law_bent : mg "_law_bent" = some (.ref (a_law_bent K))
  g_law_door : mg "_law_door" = some (.ref (a_law_door K))
  g_law_wish : mg "_law_wish" = some (.ref (a_law_wish K))
  g_law_wide_right : mg "_law_wide_right" = some (.ref (a_law_wide_right K))
  g_law : mg "law" = some (.ref (a_law K))
  g_Web : mg "Web" = some (.ref (He.ga K "Web"))
  cl_Web : Cls K (He.ga K "Web")
  no_Web_size : NoAttr K (He.ga K "Web") "size"
  no_Web_grid : NoAttr K (He.ga K "Web") "grid"
  no_Web_ties : NoAttr K (He.ga K "Web") "ties"
  mk_Web : Mk K (He.ga K "Web") (a_Web__init K)
  kt_Web__init : KT K (d_Web__init K) []
  pr_degrees : PropOf K (He.ga K "Web") "degrees" (prA K (He.ga K "Web") "degrees") (a_Web_degrees K)
  dn_Web__getitem : DnOk K (He.ga K "Web") "__getitem__" (a_Web__getitem K)
  g_TooMany : mg "TooMany" = some (.ref (He.ga K "TooMany"))
  xi_TooMany : XIni K (He.ga K "TooMany") (a_TooMany__init K)
  nox_TooMany_limit : NoAttr K (He.ga K "TooMany") "limit"
  exm_TooMany : ExmOk (cn K) (.ref (He.ga K "TooMany")) [1] []
  xs : XsOk (cn K) [1]
  isa : IsaOk (cn K) [0]
  f_TooMany__init : ∃ fd, FunD K "__init__" "TooMany.__init__" (defArgs s_TooMany__init) (defBody s_TooMany__init) (defScope s_TooMany__init) [] [] (a_TooMany__init K) fd
  f_is_integer : ∃ fd, FunD K "is_integer" "is_integer" (defArgs s_is_integer) (defBody s_is_integer) (defScope s_is_integer) [] [] (a_is_integer K) fd
  f_is_number : ∃ fd, FunD K "is_number" "is_number" (defArgs s_is_number) (defBody s_is_number) (defScope s_is_number) [] [] (a_is_number K) fd
  f_is_count : ∃ fd, FunD K "is_count" "is_count" (defArgs s_is_count) (defBody s_is_count) (defScope s_is_count) [] [] (a_is_count K) fd
  f_is_tie : ∃ fd, FunD K "is_tie" "is_tie" (defArgs s_is_tie) (defBody s_is_tie) (defScope s_is_tie) [] [] (a_is_tie K) fd
  f_summed : ∃ fd, FunD K "summed" "summed" (defArgs s_summed) (defBody s_summed) (defScope s_summed) [] [] (a_summed K) fd
  f_grid_of : ∃ fd, FunD K "grid_of" "grid_of" (defArgs s_grid_of) (defBody s_grid_of) (defScope s_grid_of) [] [] (a_grid_of K) fd
  f_Web__init : ∃ fd, FunD K "__init__" "Web.__init__" (defArgs s_Web__init) (defBody s_Web__init) (defScope s_Web__init) [V.ref (d_Web__init K)] [] (a_Web__init K) fd
  f_Web_degrees : ∃ fd, FunD K "degrees" "Web.degrees" (defArgs s_Web_degrees) (defBody s_Web_degrees) (defScope s_Web_degrees) [] [] (a_Web_degrees K) fd
  f_Web__getitem : ∃ fd, FunD K "__getitem__" "Web.__getitem__" (defArgs s_Web__getitem) (defBody s_Web__getitem) (defScope s_Web__getitem) [] [] (a_Web__getitem K) fd
  f_check_size : ∃ fd, FunD K "check_size" "check_size" (defArgs s_check_size) (defBody s_check_size) (defScope s_check_size) [] [] (a_check_size K) fd
  f_pairs_of : ∃ fd, FunD K "pairs_of" "pairs_of" (defArgs s_pairs_of) (defBody s_pairs_of) (defScope s_pairs_of) [] [] (a_pairs_of K) fd
  f_numbers : ∃ fd, FunD K "numbers" "numbers" (defArgs s_numbers) (defBody s_numbers) (defScope s_numbers) [] [] (a_numbers K) fd
  f_check_light : ∃ fd, FunD K "check_light" "check_light" (defArgs s_check_light) (defBody s_check_light) (defScope s_check_light) [] [] (a_check_light K) fd
  f_is_table : ∃ fd, FunD K "is_table" "is_table" (defArgs s_is_table) (defBody s_is_table) (defScope s_is_table) [] [] (a_is_table K) fd
  f_is_tables : ∃ fd, FunD K "is_tables" "is_tables" (defArgs s_is_tables) (defBody s_is_tables) (defScope s_is_tables) [] [] (a_is_tables K) fd
  f_displeasure : ∃ fd, FunD K "displeasure" "displeasure" (defArgs s_displeasure) (defBody s_displeasure) (defScope s_displeasure) [] [] (a_displeasure K) fd
  f_distances : ∃ fd, FunD K "distances" "distances" (defArgs s_distances) (defBody s_distances) (defScope s_distances) [] [] (a_distances K) fd
  f_squares : ∃ fd, FunD K "squares" "squares" (defArgs s_squares) (defBody s_squares) (defScope s_squares) [] [] (a_squares K) fd
  f_added : ∃ fd, FunD K "added" "added" (defArgs s_added) (defBody s_added) (defScope s_added) [] [] (a_added K) fd
  f_law_bag : ∃ fd, FunD K "_law_bag" "_law_bag" (defArgs s_law_bag) (defBody s_law_bag) (defScope s_law_bag) [] [] (a_law_bag K) fd
  f_law_take : ∃ fd, FunD K "_law_take" "_law_take" (defArgs s_law_take) (defBody s_law_take) (defScope s_law_take) [] [] (a_law_take K) fd
  f_law_one : ∃ fd, FunD K "_law_one" "_law_one" (defArgs s_law_one) (defBody s_law_one) (defScope s_law_one) [] [] (a_law_one K) fd
  f_law_mixed : ∃ fd, FunD K "_law_mixed" "_law_mixed" (defArgs s_law_mixed) (defBody s_law_mixed) (defScope s_law_mixed) [] [] (a_law_mixed K) fd
  f_law_pairs : ∃ fd, FunD K "_law_pairs" "_law_pairs" (defArgs s_law_pairs) (defBody s_law_pairs) (defScope s_law_pairs) [] [] (a_law_pairs K) fd
  f_law_light : ∃ fd, FunD K "_law_light" "_law_light" (defArgs s_law_light) (defBody s_law_light) (defScope s_law_light) [] [] (a_law_light K) fd
  f_law_grid : ∃ fd, FunD K "_law_grid" "_law_grid" (defArgs s_law_grid) (defBody s_law_grid) (defScope s_law_grid) [] [] (a_law_grid K) fd
  f_law_alike : ∃ fd, FunD K "_law_alike" "_law_alike" (defArgs s_law_alike) (defBody s_law_alike) (defScope s_law_alike) [] [] (a_law_alike K) fd
  f_law_is_whole : ∃ fd, FunD K "_law_is_whole" "_law_is_whole" (defArgs s_law_is_whole) (defBody s_law_is_whole) (defScope s_law_is_whole) [] [] (a_law_is_whole K) fd
  f_law_table : ∃ fd, FunD K "_law_table" "_law_table" (defArgs s_law_table) (defBody s_law_table) (defScope s_law_table) [] [] (a_law_table K) fd
  f_law_cost : ∃ fd, FunD K "_law_cost" "_law_cost" (defArgs s_law_cost) (defBody s_law_cost) (defScope s_law_cost) [] [] (a_law_cost K) fd
  f_law_tables_right : ∃ fd, FunD K "_law_tables_right" "_law_tables_right" (defArgs s_law_tables_right) (defBody s_law_tables_right) (defScope s_law_tables_right) [] [] (a_law_tables_right K) fd
  f_law_bent : ∃ fd, FunD K "_law_bent" "_law_bent" (defArgs s_law_bent) (defBody s_law_bent) (defScope s_law_bent) [] [] (a_law_bent K) fd
  f_law_door : ∃ fd, FunD K "_law_door" "_law_door" (defArgs s_law_door) (defBody s_law_door) (defScope s_law_door) [] [] (a_law_door K) fd
  f_law_wish : ∃ fd, FunD K "_law_wish" "_law_wish" (defArgs s_law_wish) (defBody s_law_wish) (defScope s_law_wish) [] [] (a_law_wish K) fd
  f_law_wide_right : ∃ fd, FunD K "_law_wide_right" "_law_wide_right" (defArgs s_law_wide_right) (defBody s_law_wide_right) (defScope s_law_wide_right) [] [] (a_law_wide_right K) fd
  f_law : ∃ fd, FunD K "law" "law" (defArgs s_law) (defBody s_law) (defScope s_law) [] [] (a_law K) fd
end CL
set_option maxHeartbeats 4000000
/-! DM28: the head's Hook, its objects gathered by a walk that marks what it has seen in one number. -/
namespace CT
open PySem L2 PySem.Spec PyProof.Rows
theorem obGb_eq {n : Nat} {fs : List (PySem.W.Frag → Bool)} {fn : List DefX} (s : PySem.W.SharedT) : obGb n fs fn (HandSHeadRun.getT s) = (hookXb n fs fn).obs s.abs := by
  have e : HandSHeadRun.getT s = s.abs.heap.get? := funext (HandSHeadRun.getT_eq s)
  rw [e]
  rfl
end CT
set_option maxHeartbeats 0
namespace CL
open PySem L2 PySem.Spec PyProof.Rows CT
section
open HandSHeadRun PySem.W PySem.Calls
end
end CL
set_option maxHeartbeats 4000000
/-! DM3: is True; t * n; bool(o) by the class's own __bool__; a or b of tuples, bool(t). -/
namespace CT
open PySem L2 PySem.Spec PyProof.Rows
section
variable {X : Cx}
theorem op_notB : OpR X (compareOp .IsNot) (fun x y H Q => ∃ a b, x = .bl a ∧ y = .bl b ∧ Q (.bl (!decide (a = b))) H) := by
  intro pins s σ H x y v u Q I rx ry h
  obtain ⟨a, b, rfl, rfl, q⟩ := h
  cases rx
  cases ry
  refine isnot_bool (L2.fin_bl I q ?_)
  cases a <;> cases b <;> rfl
end
def oIsB (neg : Bool) : O2 := fun x y C => match x, y with
  | .bl a, .bl b => some (.bl (if neg = true then !decide (a = b) else decide (a = b)), C)
  | _, _ => none
theorem d_notB {k : Cn} : OpD k (fun x y H Q => ∃ a b, x = .bl a ∧ y = .bl b ∧ Q (.bl (!decide (a = b))) H) (oIsB true) := by
  intro fl A C H x y dx dy d C' Q hf hl st rx ry e q
  unfold oIsB at e
  split at e
  · cases rx; cases ry; cases e
    exact ⟨_, _, rfl, rfl, q A H _ Stp.refl st (.bl _)⟩
  · cases e
/-! ### t * n -/
/-! ### a or b of tuples; bool(t) -/
end CT
set_option maxHeartbeats 4000000
/-! DM4: bool(o) by the class's own __bool__. -/
namespace CT
open PySem L2 PySem.Spec PyProof.Rows
/-! ### bool(o) -/
end CT
set_option maxHeartbeats 4000000
/-! DM5: zip of two tuples; min and max of a list of ints with a default. -/
namespace CT
open PySem L2 PySem.Spec PyProof.Rows RZ
def zipD (xs ys : List D) : List D := (xs.zip ys).map fun p => .tup [p.1, p.2]
end CT
set_option maxHeartbeats 4000000
/-! DM6: min and max of a list of ints with a default. -/
namespace CT
open PySem L2 PySem.Spec PyProof.Rows
end CT
set_option maxHeartbeats 4000000
/-! DM7: x + k, k + x, x - k, k - x, -x for an own x and an int k. -/
namespace CT
open PySem L2 PySem.Spec PyProof.Rows PySem.W
end CT
set_option maxHeartbeats 4000000
/-! DM8: list(range(a, b, 2)); sorted(set(xs)), len(set(xs)) of up to 4,000 ints. -/
namespace CT
open PySem L2 PySem.Spec PyProof.Rows
/-! ### sets of more ints -/
end CT
set_option maxHeartbeats 4000000
/-! DM9: xs[i], ys[j] = e, f. -/
namespace CT
open PySem L2 PySem.Spec PyProof.Rows
end CT
set_option maxHeartbeats 4000000
/-! DM10: a def that hands back an own list, as an equation. -/
namespace CT
open PySem L2
end CT
set_option maxHeartbeats 4000000
/-! DM11: {x for u in a if .. for x in b if ..} of ints, two clauses; its members in a list beside the heap. -/
namespace CT
open PySem L2 PySem.Spec PyProof.Rows
/-- the set at D holds the ints of acc -/
def SetI (w : World) (h : Heap) (D : Addr) (acc : List Int) : Prop := ∃ c, c ≤ acc.length ∧ SetR w h D (fun j => decide (j ∈ acc)) c
theorem SetI.at {w : World} {h h' : Heap} {D : Addr} {acc : List Int} (R : SetI w h D acc) (k : ∀ o, h.get? D = some o → h'.get? D = some o) : SetI w h' D acc := by
  obtain ⟨c, hc, R⟩ := R
  exact ⟨c, hc, R.at k⟩
theorem SetI.obj {w : World} {h : Heap} {D : Addr} {acc : List Int} (R : SetI w h D acc) : ∃ o, h.get? D = some o ∧ ∀ v, o.data ≠ .cell v := by
  obtain ⟨c, hc, o, es, ep, t, ho, hx, hd, _⟩ := R
  exact ⟨o, ho, fun v z => by rw [hd] at z; cases z⟩
end CT
set_option maxHeartbeats 4000000
/-! DM12: sorted({x for u in a if .. for x in b if ..}) over data. -/
namespace CT
open PySem L2 PySem.Spec PyProof.Rows
end CT
set_option maxHeartbeats 4000000
/-! DM13: min and max of one list of ints, not empty. -/
namespace CT
open PySem L2 PySem.Spec PyProof.Rows
end CT
set_option maxHeartbeats 4000000
/-! DM14: in, not in by an own __contains__, as values and as tests. -/
namespace CT
open PySem L2 PySem.Spec PyProof.Rows
end CT
set_option maxHeartbeats 4000000
/-! DM15: == and != of two lists of own objects that are equal item by item. -/
namespace CT
open PySem L2 PySem.Spec PyProof.Rows
end CT
set_option maxHeartbeats 4000000
/-! DM16: an own object as a test, by the class's own __bool__. -/
namespace CT
open PySem L2 PySem.Spec PyProof.Rows
end CT
set_option maxHeartbeats 4000000
/-! DM17: xs.reverse(). -/
namespace CT
open PySem L2 PySem.Spec PyProof.Rows
end CT
set_option maxHeartbeats 4000000
/-! DM18: while, of at most so many turns. -/
namespace CT
open PySem L2
end CT
set_option maxHeartbeats 4000000
/-! GN1: a run that wakes no sleeping generator runs alike whatever the sleepers hold. -/
namespace GV
open PySem
open Sem (wp)
def stuckK : Resume → Sem PySem.Fin := fun _ => .unsupported "asleep"
def veilG : GenState → GenState
  | .suspended _ l c p fs cl => .suspended stuckK l c p fs cl
  | x => x
def isSusp : GenState → Bool
  | .suspended .. => true
  | _ => false
/-- s: veiled at Z; t: the true state -/
structure Hid (Z : Nat → Option GenState) (s t : Shared) : Prop where
  heap : t.heap = s.heap
  drawn : t.drawn = s.drawn
  toks : t.toks = s.toks
  os : t.os = s.os
  size : t.gens.size = s.gens.size
  hid : ∀ g R, Z g = some R → isSusp R = true ∧ s.gens[g]? = some (veilG R) ∧ t.gens[g]? = some R
  oth : ∀ g, Z g = none → t.gens[g]? = s.gens[g]?
/-- what is not veiled holds no frame of a generator -/
def OkG (Z : Nat → Option GenState) (s : Shared) : Prop := ∀ g, Z g = none → ∀ k l c p fs cl, s.gens[g]? = some (.suspended k l c p fs cl) → splitAtGen fs = none
section
variable {Z : Nat → Option GenState} {s t : Shared} {M : Model}
theorem gens_set {s : Shared} {g i : Nat} {x : GenState} : (s.setGen g x).gens[i]? = if i = g then (if g < s.gens.size then some x else none) else s.gens[i]? := by
  show (s.gens.setIfInBounds g x)[i]? = _
  by_cases e : i = g
  · subst e
    rw [if_pos rfl]
    split
    · rename_i h
      simp [h]
    · rename_i h
      simp [h]
  · rw [if_neg e, Array.getElem?_setIfInBounds_ne (Ne.symm e)]
theorem Hid.set (h : Hid Z s t) {g : Nat} (hz : Z g = none) (x : GenState) : Hid Z (s.setGen g x) (t.setGen g x) := by
  refine ⟨h.heap, h.drawn, h.toks, h.os, ?_, fun i R hi => ?_, fun i hi => ?_⟩
  · show (t.gens.setIfInBounds g x).size = (s.gens.setIfInBounds g x).size
    simp [h.size]
  · have ne : i ≠ g := fun e => by subst e; rw [hz] at hi; cases hi
    rw [gens_set, gens_set, if_neg ne, if_neg ne]
    exact h.hid i R hi
  · rw [gens_set, gens_set, h.size]
    split
    · rfl
    · exact h.oth i hi
theorem Hid.lt (h : Hid Z s t) {g : Nat} {R : GenState} (hz : Z g = some R) : g < s.gens.size := (Array.getElem?_eq_some_iff.mp (h.hid g R hz).2.1).1
theorem Hid.push (h : Hid Z s t) (x : GenState) : Hid Z { s with gens := s.gens.push x } { t with gens := t.gens.push x } := by
  refine ⟨h.heap, h.drawn, h.toks, h.os, by simp [h.size], fun i R hi => ?_, fun i hi => ?_⟩
  · have l := h.lt hi
    obtain ⟨a, b, c⟩ := h.hid i R hi
    refine ⟨a, ?_, ?_⟩
    · show (s.gens.push x)[i]? = _
      rw [Array.getElem?_push, if_neg (by omega)]
      exact b
    · show (t.gens.push x)[i]? = _
      rw [Array.getElem?_push, if_neg (by rw [h.size]; omega)]
      exact c
  · show (t.gens.push x)[i]? = (s.gens.push x)[i]?
    rw [Array.getElem?_push, Array.getElem?_push, h.size, h.oth i hi]
theorem OkG.set (h : OkG Z s) {g : Nat} {x : GenState} (hx : ∀ k l c p fs cl, x = .suspended k l c p fs cl → splitAtGen fs = none) : OkG Z (s.setGen g x) := fun i hi k l c p fs cl e => by
  rw [gens_set] at e
  split at e
  · split at e
    · exact hx k l c p fs cl (Option.some.inj e)
    · cases e
  · exact h i hi k l c p fs cl e
theorem OkG.push (h : OkG Z s) {x : GenState} (hx : ∀ k l c p fs cl, x = .suspended k l c p fs cl → splitAtGen fs = none) : OkG Z { s with gens := s.gens.push x } := fun i hi k l c p fs cl e => by
  have e' : (s.gens.push x)[i]? = some (.suspended k l c p fs cl) := e
  rw [Array.getElem?_push] at e'
  split at e'
  · exact hx k l c p fs cl (Option.some.inj e')
  · exact h i hi k l c p fs cl e'
end
end GV
set_option maxHeartbeats 4000000
/-! GN2: weakest preconditions under the veil. -/
namespace GV
open PySem PyProof.Rows
open Sem (wp)
section
variable {Z : Nat → Option GenState} {M : Model}
def Un {α : Type} (Z : Nat → Option GenState) (Q : α → Pos → Shared → Prop) : α → Pos → Shared → Prop := fun a p t => ∃ s, Hid Z s t ∧ OkG Z s ∧ Q a p s
end
end GV
set_option maxHeartbeats 4000000
/-! GN3: for over a generator: the rule of the consumer. -/
namespace GV
open PySem L2 PySem.Spec PyProof.Rows
section
variable {X : Cx} {pins : List (Addr × Obj)} {σ : L2.St} {H : Hp} {s s' : Shared} {pv : List Addr}
theorem Inv.gens (I : Inv X pins σ H s) (h : s'.heap = s.heap) (o : s'.os = s.os) (b : AllBare s'.gens) : Inv X pins σ H s' := by
  obtain ⟨a1, a2, a3, a4, a5, a6, a7, a8, a9, a10, a11⟩ := I
  exact ⟨a1, o.trans a2, b, by rw [h]; exact a4, by rw [h]; exact a5, by rw [h]; exact a6, a7, a8, by rw [h]; exact a9, by rw [h]; exact a10, a11⟩
end
end GV
set_option maxHeartbeats 4000000
/-! GN4: for over a generator: the rule. -/
namespace GV
open PySem L2 PySem.Spec PyProof.Rows
end GV
set_option maxHeartbeats 4000000
/-! GN5: next of a generator (it sleeps behind); for in a generator's own code. -/
namespace GV
open PySem L2 PySem.Spec PyProof.Rows
open Sem (wp)
/-! ### for, in a generator's code -/
section
variable {prog : Program} {w : World} {A : Around} {R : GenEnd} {Y : Protocol} {n : Nat} {s₀ : Shared} {c : Code} {fs : List Frame} {s : Shared} {env : Env} {K : Flow → Sem PySem.Fin} {J : Value → Sem PySem.Fin} {gd : Bool → Bool} {lv : List Value → List Value}
abbrev nov : Value → Shared → Prop := fun _ _ => False
/-- what a loop's call does with what comes back -/
def backK (env : Env) (K : Flow → Sem PySem.Fin) (J : Value → Sem PySem.Fin) (gd : Bool → Bool) (lv : List Value → List Value) : Result → Sem PySem.Fin := fun r => ((match r with | .ok f => (.pure f : Sem Flow) | .error e => .raise e).onRaise fun (x : Value) => do
        if (← field x 1) == Value.none then unsupported "frame.own-activation:exception-without-traceback"
        setFlight x env.frame).wrap K J gd lv
/-- what a loop's code does with an exception of its own -/
def outJ (env : Env) : Value → Sem PySem.Fin := fun e => (do noteFrame e env; theTreesLotGoes e : Sem Unit).wrap (fun _ => .raise e) .raise id id
end
end GV
set_option maxHeartbeats 4000000
/-! GN6: one stretch of a generator's run, whatever is wanted of its end. -/
namespace GV
open PySem L2 PySem.Spec PyProof.Rows
open Sem (wp)
def S1 (M : Model) (A : Around) (Φ : End → Shared → Prop) (c : Code) (t : Sem PySem.Fin) (fs : List Frame) (s : Shared) : Prop := ∀ Γ p, Γ.code = c → Γ.Woken A → ∃ e s', Runs M Γ p t fs s e s' ∧ Φ e s'
section
variable {M : Model} {A : Around} {Φ : End → Shared → Prop} {c : Code} {fs : List Frame} {s : Shared}
theorem s1_wrap {α : Type} {m : Sem α} {K : α → Sem PySem.Fin} {J : Value → Sem PySem.Fin} {gd lv} (h : wpAny M (A.over c fs) m (fun a s' => S1 M A Φ c (K a) fs s') (fun x s' => S1 M A Φ c (J x) fs s') s) : S1 M A Φ c (m.wrap K J gd lv) fs s := by
  rintro Γ p rfl hΓ
  exact runs_wrap_of_wp K J gd lv m (h (Γ.over fs) p (hΓ.over fs)) (fun a p' s' h' => h' Γ p' rfl hΓ) (fun x p' s' h' => h' Γ p' rfl hΓ)
theorem s1_wrap0 {α : Type} {m : Sem α} {K : α → Sem PySem.Fin} {J : Value → Sem PySem.Fin} {gd lv} (h : wpAny M (A.over c fs) m (fun a s' => S1 M A Φ c (K a) fs s') nov s) : S1 M A Φ c (m.wrap K J gd lv) fs s := s1_wrap (wpAny_mono h (fun _ _ q => q) fun _ _ z => z.elim)
theorem s1_bind {α β : Type} {m : Sem α} {K : α → Sem β} {K' : β → Sem PySem.Fin} {J : Value → Sem PySem.Fin} {gd lv} (h : wpAny M (A.over c fs) m (fun a s' => S1 M A Φ c ((K a).wrap K' J gd lv) fs s') nov s) : S1 M A Φ c ((m >>= K).wrap K' J gd lv) fs s := by
  rw [Sem.bind_eq_wrap', Sem.wrap_wrap]; exact s1_wrap0 h
theorem s1_at {p' : Pos} {k : Unit → Sem PySem.Fin} (h : S1 M A Φ c (k ()) fs s) : S1 M A Φ c (.at p' k) fs s := s1_wrap0 (m := standAt p') (K := k) (J := .raise) (gd := id) (lv := id) (wpAny_standAt h)
theorem s1_point {l : List Value} {k : Unit → Sem PySem.Fin} (h : S1 M A Φ c (k ()) fs s) : S1 M A Φ c (.point l k) fs s := s1_wrap0 (m := point) (K := k) (J := .raise) (gd := id) (lv := fun _ => l) (wpAny_point h)
theorem s1_call {c' : Code} {h g l} {k : Result → Sem PySem.Fin} (hc : ∀ p, S1 M A Φ c' (M.den c') (.ret k h g l c p [] :: fs) s) : S1 M A Φ c (.call c' h g l k) fs s := by
  rintro Γ p rfl hΓ
  obtain ⟨e, s', hr, he⟩ := hc p (Γ.goto c') p rfl (hΓ.goto c')
  exact ⟨e, s', runs_call_seg hr, he⟩
theorem s1_leaf {k h g l c₁ p₁ kp} (r : Result) (hk : S1 M A Φ c₁ (k r) fs s) : S1 M A Φ c (leafOf r) (.ret k h g l c₁ p₁ kp :: fs) s := by
  rintro Γ p rfl hΓ
  obtain ⟨e, s', hr, he⟩ := hk (Γ.goto c₁) p₁ rfl (hΓ.goto c₁)
  exact ⟨e, s', Runs.pop r hr, he⟩
theorem s1_again {c' : Code} (hq : c'.quiet = true) (hc : S1 M A Φ c' (M.den c') fs s) : S1 M A Φ c (.pure (.again c')) fs s := by
  rintro Γ p rfl hΓ
  obtain ⟨e, s', hr, he⟩ := hc (Γ.goto c') p rfl (hΓ.goto c')
  exact ⟨e, s', Runs.head (c₁ := c') (fun _ _ x => .again hq x) hr, he⟩
theorem s1_end (r : Result) (h : Φ (.ret r) s) : S1 M A Φ c (leafOf r) [] s := by
  rintro Γ p rfl _
  exact ⟨.ret r, s, Runs.leaf r, h⟩
theorem s1_yield {v g l} {k : Resume → Sem PySem.Fin} (hfs : splitAtGen fs = none) (h : ∀ p, Φ (.susp v g l k c p fs) s) : S1 M A Φ c (.yield v g l k) fs s := by
  rintro Γ p rfl _
  exact ⟨_, s, Runs.yield' fs hfs, h p⟩
end
section
variable {prog : Program} {w : World} {A : Around} {Φ : End → Shared → Prop} {c : Code} {fs : List Frame} {s : Shared} {env : Env} {K : Flow → Sem PySem.Fin} {J : Value → Sem PySem.Fin} {gd : Bool → Bool} {lv : List Value → List Value}
theorem s1_cons {st : Stmt} {rest : List Stmt} (h : S1 (model prog w) A Φ c ((exec st env).wrap (fun f => match f with | .next => (execs rest env).wrap K J gd lv | f => K f) J gd lv) fs s) :
    S1 (model prog w) A Φ c ((execs (st :: rest) env).wrap K J gd lv) fs s := by rw [execs_cons_wrap]; exact h
theorem execs_app_wrap : ∀ (a b : List Stmt) {K : Flow → Sem PySem.Fin}, (execs (a ++ b) env).wrap K J gd lv = (execs a env).wrap (fun f => match f with | .next => (execs b env).wrap K J gd lv | f => K f) J gd lv
  | [], b, K => rfl
  | st :: a, b, K => by
    rw [List.cons_append, execs_cons_wrap, execs_cons_wrap]
    refine Sem.wrap_congr _ _ _ (fun f => ?_) fun _ => rfl
    cases f with
    | next => exact execs_app_wrap a b
    | _ => rfl
theorem s1_app {a b : List Stmt} (h : S1 (model prog w) A Φ c ((execs a env).wrap (fun f => match f with | .next => (execs b env).wrap K J gd lv | f => K f) J gd lv) fs s) : S1 (model prog w) A Φ c ((execs (a ++ b) env).wrap K J gd lv) fs s := by rw [execs_app_wrap]; exact h
theorem s1_Yield {e : Expr} {ypos pos : Pos} (hfs : splitAtGen fs = none) (hgd : gd false = false)
    (h : wpAny (model prog w) (A.over c fs) (eval e env) (fun v s' => ∀ (k : Resume → Sem PySem.Fin) (l : List Value) (p : Pos), (∀ (Ψ : End → Shared → Prop) s'', S1 (model prog w) A Ψ c (K .next) fs s'' → S1 (model prog w) A Ψ c (k (.send .none)) fs s'') → Φ (.susp v false l k c p fs) s') nov s)
    (hco : env.scope.isCoroutine = false := by rfl) (hi : interactive env = false := by rfl) :
    S1 (model prog w) A Φ c ((exec (.Expr (.Yield (some e) ypos) pos) env).wrap K J gd lv) fs s := by
  rw [exec_Expr env _ pos hi rfl]
  show S1 (model prog w) A Φ c (.at pos fun _ => ((eval e env >>= fun v => (standAt ypos >>= fun _ => yieldOut env v)) >>= fun x => dropValue (.Yield (some e) ypos) pos x).wrap K J gd lv) fs s
  have hy : ∀ v, yieldOut env v = yieldValue v := fun v => by simp only [yieldOut, hco, Bool.false_eq_true, if_false]
  simp only [hy]
  refine s1_at ?_
  rw [Sem.bind_eq_wrap', Sem.bind_eq_wrap', Sem.wrap_wrap, Sem.wrap_wrap]
  refine s1_wrap0 (wpAny_mono h (fun v s' h' => ?_) fun _ _ z => z.elim)
  refine s1_at (s1_yield hfs fun p => ?_)
  have e1 : (fun g => gd (id g)) false = false := hgd
  rw [e1]
  refine h' _ _ p ?_
  intro Ψ s'' hx
  exact hx
theorem s1_func {body : List Stmt} (h : S1 (model prog w) A Φ (.func body env) ((execs body env).wrap (fun f => .pure (.done (.ret (match f with | .ret v => v | _ => .none)))) (fun e => (leaving env e).wrap (fun _ => .raise e) .raise id id) id id) fs s) :
    S1 (model prog w) A Φ (.func body env) ((model prog w).den (.func body env)) fs s := by
  show S1 _ A Φ _ (.point [] fun _ => ((execs body env).onRaise (leaving env)) >>= _) fs s
  refine s1_point ?_
  rw [Sem.onRaise_eq_wrap, Sem.bind_eq_wrap', Sem.wrap_wrap]
  rw [Sem.wrap_congr (execs body env) _ _ (K' := fun f => .pure (.done (.ret (match f with | .ret v => v | _ => .none)))) (H' := fun e => (leaving env e).wrap (fun _ => .raise e) .raise id id) (fun f => by cases f <;> rfl) (fun e => by rw [Sem.bind_eq_wrap, Sem.wrap_wrap]; rfl)]
  exact h
theorem s1_For {tg iter : Expr} {body orelse : List Stmt} {pos : Pos}
    (h : wpAny (model prog w) (A.over c fs) (eval iter env) (fun x s₁ => wpAny (model prog w) (A.over c fs) (pyIter x) (fun it s₂ =>
      ∀ p, S1 (model prog w) A Φ (.forLoop tg it body orelse env) ((model prog w).den (.forLoop tg it body orelse env)) (.ret (backK env K J gd lv) none (gd false) (lv []) c p [] :: fs) s₂) nov s₁) nov s)
    (hs : ∀ x, foldedSetIterable iter env x = pure x) :
    S1 (model prog w) A Φ c ((exec (.For tg iter body orelse pos) env).wrap K J gd lv) fs s := by
  rw [exec_For]
  refine s1_bind (wpAny_standAt ?_)
  refine s1_bind (wpAny_mono h (fun x s₁ h₁ => ?_) fun _ _ z => z)
  refine s1_bind (wpAny_of_eq (hs x) ?_)
  refine s1_bind (wpAny_standAt ?_)
  refine s1_bind (wpAny_holding (wpAny_mono h₁ (fun it s₂ h₂ => ?_) fun _ _ z => z))
  exact s1_call h₂
theorem s1_forLoop {tg : Expr} {it : Value} {body : List Stmt}
    (h : wpAny (model prog w) (A.over (.forLoop tg it body [] env) fs) (pyNext it) (fun r s₁ => match r with
      | none => S1 (model prog w) A Φ (.block [] env) (.pure (.done .next)) fs s₁
      | some v => wpAny (model prog w) (A.over (.forLoop tg it body [] env) fs) (letOwnedTupleGo tg it v) (fun _ s₂ => wpAny (model prog w) (A.over (.forLoop tg it body [] env) fs) (assign tg env v) (fun _ s₃ =>
          S1 (model prog w) A Φ (.forLoop tg it body [] env) ((execs body env).wrap (fun f => match f with
            | .next | .cont => .pure (.again (.forLoop tg it body [] env))
            | .brk => .pure (.done .next)
            | .ret v => .pure (.done (.ret v))) (outJ env) id id) fs s₃) nov s₂) nov s₁) nov s) :
    S1 (model prog w) A Φ (.forLoop tg it body [] env) ((model prog w).den (.forLoop tg it body [] env)) fs s := by
  show S1 _ A Φ _ ((forTurn tg it body [] env).onRaise (fun x => do noteFrame x env; theTreesLotGoes x)) fs s
  unfold forTurn
  rw [Sem.onRaise_eq_wrap]
  refine s1_bind (wpAny_standAt ?_)
  refine s1_bind (wpAny_onRaise (wpAny_mono h (fun r s₁ h₁ => ?_) fun _ _ z => z.elim))
  cases r with
  | none =>
    show S1 _ A Φ _ (.pure (.again (.block [] env))) fs s₁
    exact s1_again rfl h₁
  | some v =>
    refine s1_bind (wpAny_mono h₁ (fun _ s₂ h₂ => ?_) fun _ _ z => z)
    refine s1_bind (wpAny_mono h₂ (fun _ s₃ h₃ => ?_) fun _ _ z => z)
    rw [Sem.bind_eq_wrap', Sem.wrap_wrap]
    rw [Sem.wrap_congr (execs body env) _ _ (K' := fun f => match f with
            | .next | .cont => .pure (.again (.forLoop tg it body [] env))
            | .brk => .pure (.done .next)
            | .ret v => .pure (.done (.ret v))) (H' := outJ env)
        (fun f => by cases f <;> rfl)
        (fun e => by first | exact Sem.bind_eq_wrap _ _ | (show (do noteFrame e env; theTreesLotGoes e : Sem Unit).bind (fun _ => .raise e) = _; rw [Sem.bind_eq_wrap]; rfl) | rfl)]
    exact h₃
end
/-! ### waking it -/
end GV
set_option maxHeartbeats 4000000
/-! GN7: a generator's code at work: its context anew at each waking. -/
namespace GV
open PySem L2 PySem.Spec PyProof.Rows
/-! ### the heap as far as n -/
def truncH (n : Nat) (h : Heap) : Heap := { h with objs := h.objs.extract 0 n }
theorem trunc_get {n : Nat} {h : Heap} {b : Addr} (hb : b < n) : (truncH n h).get? b = h.get? b := by
  have e : (truncH n h).objs[b]? = h.objs[b]? := by
    show (h.objs.extract 0 n)[b]? = _
    rw [Array.getElem?_extract, Nat.zero_add, Nat.sub_zero]
    by_cases hs : b < h.objs.size
    · rw [if_pos (Nat.lt_min.mpr ⟨hb, hs⟩)]
    · rw [if_neg (fun z => hs (Nat.lt_min.mp z).2), Array.getElem?_eq_none (Nat.le_of_not_lt hs)]
  unfold Heap.get?
  rw [e]
theorem trunc_size (n : Nat) (h : Heap) : (truncH n h).objs.size ≤ n := by
  show (h.objs.extract 0 n).size ≤ n
  simp only [Array.size_extract]
  omega
theorem trunc_lt {n : Nat} {h : Heap} {b : Addr} {o : Obj} (e : (truncH n h).get? b = some o) : b < n := Nat.lt_of_lt_of_le (Heap.lt_size e) (trunc_size n h)
theorem trunc_of {n : Nat} {h : Heap} {b : Addr} {o : Obj} (e : (truncH n h).get? b = some o) : b < n ∧ h.get? b = some o := ⟨trunc_lt e, by rw [← trunc_get (trunc_lt e)]; exact e⟩
theorem frames_trunc {n : Nat} {h base : Heap} : ∀ {l : List Env}, (∀ b ∈ frs l, b < n) → h.FunFrames base l → (truncH n h).FunFrames base l
  | [], _, _ => trivial
  | env :: r, hb, ⟨hk, ⟨L, o, hf, hn, ho, hd⟩, hr⟩ => by
    have e : frs (env :: r) = L :: frs r := by
      unfold frs
      rw [List.filterMap_cons, hf]
    rw [e] at hb
    exact ⟨hk, ⟨L, o, hf, hn, by rw [trunc_get (hb L (List.mem_cons_self ..))]; exact ho, hd⟩, frames_trunc (fun b q => hb b (List.mem_cons_of_mem _ q)) hr⟩
/-! ### a generator: its def, where it was made -/
structure GP where
  P : Program
  w : World
  K : PySem.W.Frag
  mg : Str → Option Value
  base : Heap
  N : List Str
  qual : Str
  scope : Scope
  f : Addr
  cdv : Value
  Aw : Around
  outer : List Env
  n0 : Nat
  a : Addr
  go : Obj
  os0 : OsState
def GP.env (G : GP) : Env := envOfC G.qual G.scope G.n0 G.f G.cdv
def GP.cx (G : GP) (H0 : Hp) (s0 : Shared) : Cx where
  prog := G.P
  w := G.w
  K := G.K
  mg := G.mg
  base := G.base
  A := G.Aw.deeper G.env
  N := G.N
  s_0 := { s0 with heap := truncH G.n0 s0.heap }
  H_0 := H0
  env := G.env
  outer := G.outer
  stack := G.env :: G.outer
  ex := []
  calm := true
  fn := fun _ => true
  pn := [(G.a, G.go)]
  xe := nov
structure GP.Ok (G : GP) : Prop where
  mod : Mod G.K G.mg G.base
  kind : G.scope.kind = .function
  frames : G.Aw.frames = some G.outer
  hd : G.Aw.handled = none
  inj : ∀ x y c, G.env.cells.lookup x = some c → G.env.cells.lookup y = some c → x = y
  has : ∀ x, (G.env.kindOf x = some .cell ∨ G.env.kindOf x = some .free) → ∃ c, G.env.cells.lookup x = some c
  cab : ∀ x c, G.env.cells.lookup x = some c → G.n0 < c
  bsz : G.base.objs.size ≤ G.n0
  fr : ∀ b ∈ frs G.outer, b < G.n0
  frb : ∀ b ∈ frs G.outer, G.base.get? b = none
  a0 : G.n0 < G.a
  ac : ∀ x c, G.env.cells.lookup x = some c → c ≠ G.a
  goc : ∀ v, G.go.data ≠ .cell v
def GP.pv0 (G : GP) : List Addr := G.n0 :: (G.env.cells.filterMap (fun p => G.env.cells.lookup p.1) ++ [G.a])
theorem GP.in_cell {G : GP} {x : Str} {c : Addr} (h : G.env.cells.lookup x = some c) : c ∈ G.pv0 := List.mem_cons_of_mem _ (List.mem_append_left _ (List.mem_filterMap.mpr ⟨(x, c), PySem.mem_of_lookup h, h⟩))
theorem GP.in_L {G : GP} : G.n0 ∈ G.pv0 := List.mem_cons_self ..
theorem GP.in_a {G : GP} : G.a ∈ G.pv0 := List.mem_cons_of_mem _ (List.mem_append_right _ (List.mem_singleton.mpr rfl))
/-- all else, locked -/
def GP.allH (G : GP) (pv : List Addr) (s0 : Shared) : Hp := fun b => if G.n0 ≤ b ∧ b ∉ pv then (s0.heap.get? b).map fun o => .frz o (.own 0) else none
theorem GP.allH_lt {G : GP} {pv : List Addr} {s0 : Shared} {b : Addr} (h : b < G.n0) : G.allH pv s0 b = none := by
  unfold GP.allH
  rw [if_neg (fun z => absurd h (Nat.not_lt.mpr z.1))]
theorem GP.allH_in {G : GP} {pv : List Addr} {s0 : Shared} {b : Addr} (h : b ∈ pv) : G.allH pv s0 b = none := by
  unfold GP.allH
  rw [if_neg (fun z => z.2 h)]
theorem GP.allH_out {G : GP} {pv : List Addr} {s0 : Shared} {b : Addr} {o : Obj} (h : G.n0 ≤ b) (hb : b ∉ pv) (e : s0.heap.get? b = some o) : G.allH pv s0 b = some (.frz o (.own 0)) := by
  unfold GP.allH
  rw [if_pos ⟨h, hb⟩, e]
  rfl
theorem GP.allH_some {G : GP} {pv : List Addr} {s0 : Shared} {b : Addr} {u : HO} (e : G.allH pv s0 b = some u) : G.n0 ≤ b ∧ b ∉ pv ∧ ∃ o, s0.heap.get? b = some o ∧ u = .frz o (.own 0) := by
  unfold GP.allH at e
  split at e
  · rename_i h
    obtain ⟨o, h1, h2⟩ := Option.map_eq_some_iff.mp e
    exact ⟨h.1, h.2, o, h1, h2.symm⟩
  · cases e
/-- a state in which it may be woken -/
structure GoodW (G : GP) (s : Shared) : Prop where
  os : s.os = G.os0
  bare : AllBare s.gens
  base : ∀ b o, G.base.get? b = some o → s.heap.get? b = some o
  frames : s.heap.FunFrames G.base G.outer
/-- its names, its cells -/
structure LocAt (G : GP) (σ : L2.St) (h : Heap) : Prop where
  loc : ∃ m, h.Ns G.n0 m ∧ ∀ (i : Nat) (x : Str) (v : V), G.N[i]? = some x → σ[i]? = some (some v) → Vis G.scope x → ∃ u, RelV v u ∧ Look G.env h m x u
  cell : ∀ x c, G.env.cells.lookup x = some c → ∃ v, h.IsCell c v
  me : h.get? G.a = some G.go
section
variable {G : GP} {pv fp : List Addr} {σ σ' : L2.St} {H : Hp} {s s0 s' : Shared} {pins : List (Addr × Obj)}
theorem LocAt.keep {h h' : Heap} (x : LocAt G σ h) (hp : ∀ b ∈ G.pv0, b ∈ pv) (k : ∀ b ∈ pv, ∀ o, h.get? b = some o → h'.get? b = some o) : LocAt G σ h' := by
  have ck : ∀ y c, G.env.cells.lookup y = some c → ∀ v, h.IsCell c v → h'.IsCell c v := fun y c e v ⟨o, ho, hd⟩ => ⟨o, k c (hp c (GP.in_cell e)) o ho, hd⟩
  refine ⟨?_, fun y c e => ?_, k _ (hp _ GP.in_a) _ x.me⟩
  · obtain ⟨m, ⟨o, es, ep, ho, r⟩, hl⟩ := x.loc
    refine ⟨m, ⟨o, es, ep, k _ (hp _ GP.in_L) o ho, r⟩, fun i y v h1 h2 h3 => ?_⟩
    obtain ⟨u, ru, lk⟩ := hl i y v h1 h2 h3
    refine ⟨u, ru, ?_⟩
    rcases lk with l | ⟨q, c, e, z⟩
    · exact .inl l
    · exact .inr ⟨q, c, e, ck y c e _ z⟩
  · obtain ⟨v, z⟩ := x.cell y c e
    exact ⟨v, ck y c e v z⟩
theorem LocAt.of (I : Inv (G.cx H s0) pins σ' H' s) (hs : ∀ (i : Nat) (v : V), σ[i]? = some (some v) → σ'[i]? = some (some v)) : LocAt G σ s.heap := by
  refine ⟨?_, I.cell, (I.pin (G.a, G.go) (List.mem_append_left _ (List.mem_singleton.mpr rfl))).1⟩
  obtain ⟨m, hn, hl⟩ := I.loc
  exact ⟨m, hn, fun i x v h1 h2 h3 => hl i x v h1 (hs i v h2) h3⟩
/-- woken: the context of this stretch -/
theorem inv_wake (ok : G.Ok) (W : GoodW G s) (L : LocAt G σ s.heap) (hl : σ.length = G.N.length) (hp : ∀ b ∈ G.pv0, b ∈ pv) : Inv (G.cx (G.allH pv s) s) [] σ (G.allH pv s) s := by
  have nL : G.allH pv s G.n0 = none := GP.allH_in (hp _ GP.in_L)
  refine ⟨⟨ok.mod, ok.kind, rfl, rfl, trunc_size _ _, ok.inj, ok.has, fun x c _ e => Nat.le_trans (trunc_size _ _) (Nat.le_of_lt (ok.cab x c e)), fun _ => ok.hd, Around.frames_deeper ok.frames, .inr ⟨rfl, rfl⟩, fun b z => absurd (show b ∈ ([] : List Addr) from z) (by simp), fun b o e => ?_, ?_, fun b o e z => absurd (show b ∈ ([] : List Addr) from z) (by simp), fun b z => absurd (show b ∈ ([] : List Addr) from z) (by simp), frames_trunc ok.fr W.frames, fun b hb => GP.allH_lt (ok.fr b hb)⟩,
    rfl, W.bare, ⟨fun b o e n _ _ => (trunc_of e).2, fun b o e n _ _ => ⟨o.slots, (trunc_of e).2⟩, fun b o e n _ => n, fun b o e _ => ⟨o, (trunc_of e).2⟩, fun _ _ e => e, fun _ _ _ e => e, fun b ps e => ⟨#[], by have e' : G.allH pv s b = some (.tbl ps) := e; rw [e']; simp⟩⟩, L.loc, L.cell, nL, fun x c e => GP.allH_in (hp c (GP.in_cell e)), fun p hq => ?_, fun b u e => ?_, hl⟩
  · have lt : b < G.n0 := Nat.lt_of_lt_of_le (Heap.lt_size e) ok.bsz
    exact ⟨by show (truncH G.n0 s.heap).get? b = some o; rw [trunc_get lt]; exact W.base b o e, GP.allH_lt lt⟩
  · show G.base.objs.size ≤ (truncH G.n0 s.heap).objs.size
    have := L.loc
    obtain ⟨m, hn, _⟩ := this
    have h1 : G.n0 < s.heap.objs.size := hn.lt
    have h2 := ok.bsz
    show _ ≤ (s.heap.objs.extract 0 G.n0).size
    rw [Array.size_extract, Nat.sub_zero, Nat.min_eq_left (Nat.le_of_lt h1)]
    exact h2
  · have e : p = (G.a, G.go) := by
      rcases List.mem_append.mp hq with z | z
      · exact List.mem_singleton.mp z
      · cases z
    subst e
    exact ⟨L.me, GP.allH_in (hp _ GP.in_a), Nat.ne_of_gt ok.a0, fun z => absurd (ok.fr _ z) (Nat.not_lt.mpr (Nat.le_of_lt ok.a0)), ok.goc⟩
  · obtain ⟨_, _, o, ho, rfl⟩ := GP.allH_some e
    exact ⟨ho, o, ho⟩
/-- what else there was stands -/
def KeepG (G : GP) (pv : List Addr) (s0 s : Shared) : Prop := ∀ b o, s0.heap.get? b = some o → b ∉ pv → ∃ sl, s.heap.get? b = some { o with slots := sl } ∧ (b ∉ frs G.outer → s.heap.get? b = some o)
theorem keep_of (I : Inv (G.cx (G.allH pv s0) s0) pins σ H s) : KeepG G pv s0 s := fun b o e hb => by
  by_cases lt : b < G.n0
  · have e1 : (truncH G.n0 s0.heap).get? b = some o := by rw [trunc_get lt]; exact e
    obtain ⟨sl, q⟩ := I.base.any (b := b) e1 (GP.allH_lt lt) (by simp [GP.cx])
    exact ⟨sl, q, fun hf => I.base.keep b o e1 (GP.allH_lt lt) hf (by simp [GP.cx])⟩
  · have e1 := I.base.frzs b o _ (GP.allH_out (Nat.le_of_not_lt lt) hb e)
    have e2 := (I.hok b _ e1).1
    exact ⟨o.slots, e2, fun _ => e2⟩
/-- its new tuples stand at new places -/
theorem fresh_of (ok : G.Ok) (I : Inv (G.cx (G.allH pv s0) s0) pins σ H s) (hp : ∀ b ∈ pv, b ∈ G.pv0 ∨ H b = none) {b : Addr} {xs : List V} (e : H b = some (.tup xs)) : s0.heap.get? b = none := by
  cases q : s0.heap.get? b with
  | none => rfl
  | some o =>
    exfalso
    by_cases lt : b < G.n0
    · have e1 : (truncH G.n0 s0.heap).get? b = some o := by rw [trunc_get lt]; exact q
      have := I.base.free b o e1 (GP.allH_lt lt) (by simp [GP.cx])
      rw [this] at e
      cases e
    · by_cases hb : b ∈ pv
      · rcases hp b hb with h | h
        · have h : b = G.n0 ∨ b ∈ G.env.cells.filterMap (fun p => G.env.cells.lookup p.1) ++ [G.a] := List.mem_cons.mp h
          rcases h with h | h
          · have := I.free
            rw [h] at e
            have e' : H (G.cx (G.allH pv s0) s0).env.locals = some (.tup xs) := e
            rw [this] at e'
            cases e'
          · rcases List.mem_append.mp h with h | h
            · obtain ⟨⟨x, c⟩, hc, h1⟩ := List.mem_filterMap.mp h
              have := I.freeC x b h1
              rw [this] at e
              cases e
            · have e2 : b = G.a := List.mem_singleton.mp h
              subst e2
              have := (I.pin (G.a, G.go) (List.mem_append_left _ (List.mem_singleton.mpr rfl))).2.1
              rw [this] at e
              cases e
        · rw [h] at e; cases e
      · have e1 := I.base.frzs b o _ (GP.allH_out (Nat.le_of_not_lt lt) hb q)
        rw [e1] at e
        cases e
end
end GV
set_option maxHeartbeats 4000000
/-! GN8: for x in range(..): .. ; yield e — all its stretches. -/
namespace GV
open PySem L2 PySem.Spec PyProof.Rows
abbrev bodyY (bs : List Stmt) (e : Expr) (yp pos : Pos) : List Stmt := bs ++ [.Expr (.Yield (some e) yp) pos]
structure GSpec (G : GP) (tg iter : Expr) (bs : List Stmt) (e : Expr) (ta : TA) (tt : TG) (tb : TS) (te : TE) (σw : L2.St) (tot : Nat) (Yl : Nat → V → Hp → Prop) : Prop where
  hi : ∀ H0 s0, PI (G.cx H0 s0) tg iter (iRng1 ta)
  hg : ∀ H0 s0, PG (G.cx H0 s0) tg tt
  hb : ∀ H0 s0, PSs (G.cx H0 s0) bs tb
  he : ∀ H0 s0, PE (G.cx H0 s0) e te
  hs : ∀ x, foldedSetIterable iter G.env x = pure x
  co : G.env.scope.isCoroutine = false
  intr : interactive G.env = false
  start : ∀ H, ta σw H fun vs _ => vs = [.int (tot : Nat)]
  small : (tot : Int) < 2 ^ 62
  turn : ∀ j, j < tot → ∀ H, tt (.int ((j : Nat) : Int)) σw H fun σ2 H2 => tb { nx := fun σ3 H3 => (∀ (i : Nat) (v : V), σw[i]? = some (some v) → σ3[i]? = some (some v)) ∧ te σ3 H3 fun y H4 => Yl j y H4, rt := fun _ _ => False, bk := fun _ _ => False, ct := fun _ _ => False } σ2 H2
  ar : ∀ H (Q Q' : List V → Hp → Prop), (∀ vs H1, Q vs H1 → Q' vs H1) → ta σw H Q → ta σw H Q'
  len : σw.length = G.N.length
abbrev lcode (G : GP) (tg : Expr) (it : Addr) (bs : List Stmt) (e : Expr) (yp pos : Pos) : Code := .forLoop tg (.ref it) (bodyY bs e yp pos) [] G.env
section
variable {G : GP} {tg iter : Expr} {bs : List Stmt} {e : Expr} {ta : TA} {tt : TG} {tb : TS} {te : TE} {σw : L2.St} {tot : Nat} {Yl : Nat → V → Hp → Prop} {yp pos : Pos}
theorem turn1 (S : GSpec G tg iter bs e ta tt tb te σw tot Yl) {H0 : Hp} {s0 s : Shared} {fp : List Addr} {it : Addr} {tn : Nat → Heap → Prop} (T : Turn G.P G.w G.K tg (Itr 0 tot) fp it tn) {fs : List Frame} (hfs : splitAtGen fs = none)
    (hov : G.Aw.over (lcode G tg it bs e yp pos) fs = G.Aw.deeper G.env) {j : Nat} (hj : j < tot) {H : Hp} (I : Inv (G.cx H0 s0) [] σw H s) (hf : ∀ b ∈ fp, FpOk (G.cx H0 s0) [] H b) (st : tn j s.heap) {Φ : End → Shared → Prop}
    (hΦ : ∀ v y σ5 H5 s5 k l p, Inv (G.cx H0 s0) [] σ5 H5 s5 → RelV y v → Yl j y H5 → (∀ (i : Nat) (v : V), σw[i]? = some (some v) → σ5[i]? = some (some v)) → tn (j + 1) s5.heap → (∀ b ∈ fp, H5 b = none) →
      (∀ (Ψ : End → Shared → Prop) s'', S1 (model G.P G.w) G.Aw Ψ (lcode G tg it bs e yp pos) ((model G.P G.w).den (lcode G tg it bs e yp pos)) fs s'' → S1 (model G.P G.w) G.Aw Ψ (lcode G tg it bs e yp pos) (k (.send .none)) fs s'') → Φ (.susp v false l k (lcode G tg it bs e yp pos) p fs) s5) :
    S1 (model G.P G.w) G.Aw Φ (lcode G tg it bs e yp pos) ((model G.P G.w).den (lcode G tg it bs e yp pos)) fs s := by
  refine s1_forLoop ?_
  rw [hov]
  refine wpAny_mono (T.item (G.cx H0 s0) rfl rfl rfl rfl j [] s σw H nov I hf st hj) (fun r s1 h1 => ?_) fun _ _ z => z
  obtain ⟨u, rfl, h1⟩ := h1
  refine wpAny_mono h1 (fun _ s2 h2 => ?_) fun _ _ z => z
  obtain ⟨x, H', I2, rx, yl, st2, fn2⟩ := h2
  obtain ⟨rfl, rfl⟩ := yl
  have hf2 : ∀ b ∈ fp, FpOk (G.cx H0 s0) [] H' b := hf
  have I3 := I2.pinned hf2 (T.obj _ _ st2)
  have ex : (0 : Int) + ((j : Nat) : Int) = ((j : Nat) : Int) := Int.zero_add _
  rw [ex] at rx
  refine wpAny_mono ((S.hg H0 s0).run _ s2 σw H' (.int ((j : Nat) : Int)) u _ I3 rx (S.turn j hj H')) (fun _ s3 h3 => ?_) fun _ _ z => z
  obtain ⟨σ3, H3, I3b, q3⟩ := h3
  refine s1_app ?_
  refine s1_wrap0 ?_
  rw [hov]
  refine wpAny_mono ((S.hb H0 s0).run _ s3 σ3 H3 _ I3b q3) (fun f s4 h4 => ?_) fun _ _ z => z
  cases f with
  | brk => obtain ⟨_, _, _, z⟩ := h4; exact z.elim
  | cont => obtain ⟨_, _, _, z⟩ := h4; exact z.elim
  | ret u => obtain ⟨_, _, _, _, _, z⟩ := h4; exact z.elim
  | next =>
    obtain ⟨σ4, H4, I4, x4, q4⟩ := h4
    refine s1_cons ?_
    refine s1_Yield hfs rfl ?_ S.co S.intr
    rw [hov]
    refine wpAny_mono ((S.he H0 s0).run _ s4 σ4 H4 _ I4 q4) (fun v s5 h5 => ?_) fun _ _ z => z
    obtain ⟨y, H5, I5, ry, yl⟩ := h5
    intro k l p hk
    have st5 : tn (j + 1) s5.heap := T.keep _ _ _ st2 fun b hb o eo => (I5.pin (b, o) (List.mem_append_right _ (List.mem_append_right _ (mem_pinsAt hb eo)))).1
    refine hΦ v y σ4 H5 s5 k l p (Inv.unpinned I5) ry yl x4 st5 (fun b hb => ?_) fun Ψ s'' h => hk Ψ s'' ?_
    · obtain ⟨o, eo, _⟩ := T.obj _ _ st2 b hb
      exact (I5.pin (b, o) (List.mem_append_right _ (List.mem_append_right _ (mem_pinsAt hb eo)))).2.1
    · show S1 _ _ Ψ _ (.pure (.again (lcode G tg it bs e yp pos))) fs s''
      exact s1_again rfl h
/-- the frame under the loop -/
abbrev frame0 (G : GP) (K : Flow → Sem PySem.Fin) (J : Value → Sem PySem.Fin) (c : Code) (p : Pos) : Frame := .ret (backK G.env K J id id) none (id false) (id []) c p []
theorem end1 {H0 : Hp} {s0 s : Shared} {fp : List Addr} {it : Addr} {tn : Nat → Heap → Prop} (T : Turn G.P G.w G.K tg (Itr 0 tot) fp it tn) {K : Flow → Sem PySem.Fin} {J : Value → Sem PySem.Fin} {c : Code} {p : Pos}
    (hov : G.Aw.over (lcode G tg it bs e yp pos) [frame0 G K J c p] = G.Aw.deeper G.env) {H : Hp} (I : Inv (G.cx H0 s0) [] σw H s) (hf : ∀ b ∈ fp, FpOk (G.cx H0 s0) [] H b) (st : tn tot s.heap) {Φ : End → Shared → Prop}
    (hK : K .next = .pure (.done (.ret .none))) (hΦ : ∀ s5, Inv (G.cx H0 s0) [] σw H s5 → Φ (.ret (.ok (.ret .none))) s5) :
    S1 (model G.P G.w) G.Aw Φ (lcode G tg it bs e yp pos) ((model G.P G.w).den (lcode G tg it bs e yp pos)) [frame0 G K J c p] s := by
  refine s1_forLoop ?_
  rw [hov]
  refine wpAny_mono (T.done (G.cx H0 s0) rfl rfl rfl rfl tot [] s σw H nov I hf st (Nat.le_refl _)) (fun r s1 h1 => ?_) fun _ _ z => z
  obtain ⟨rfl, I1⟩ := h1
  refine s1_leaf (.ok .next) ?_
  show S1 _ _ Φ _ (K .next) [] s1
  rw [hK]
  exact s1_end (.ok (.ret .none)) (hΦ s1 I1)
/-! ### the chain of its stretches -/
structure GoodEnd (G : GP) (pv : List Addr) (s0 s : Shared) : Prop where
  keep : KeepG G pv s0 s
  os : s.os = G.os0
  bare : AllBare s.gens
def chain (G : GP) (Yl : Nat → V → Hp → Prop) (pv : List Addr) : Nat → Nat → Shared → End → Shared → Prop
  | 0, _, s0, e, s' => e = .ret (.ok (.ret .none)) ∧ GoodEnd G pv s0 s'
  | r + 1, j, s0, e, s' => ∃ v y l k c p fs H5, e = .susp v false l k c p fs ∧ e.quiet = true ∧ RelV y v ∧ Yl j y H5 ∧ HOk G.P G.w H5 s'.heap ∧ (∀ b xs, H5 b = some (.tup xs) → s0.heap.get? b = none) ∧ (∀ b ∈ pv, H5 b = none) ∧ GoodEnd G pv s0 s' ∧ (∀ b ∈ pv, ∃ o, s'.heap.get? b = some o) ∧
      s'.heap.get? G.a = some G.go ∧ ∀ s'', GoodW G s'' → (∀ b ∈ pv, ∀ o, s'.heap.get? b = some o → s''.heap.get? b = some o) → S1 (model G.P G.w) G.Aw (chain G Yl pv r (j + 1) s'') c (k (.send .none)) fs s''
/-- what is known of the walked thing's own objects -/
structure FpSt (G : GP) (fp : List Addr) : Prop where
  ge : ∀ b ∈ fp, G.n0 ≤ b
  nl : ∀ b ∈ fp, b ≠ G.n0
  nf : ∀ b ∈ fp, b ∉ frs G.outer
  nc : ∀ b ∈ fp, ∀ x c, G.env.cells.lookup x = some c → c ≠ b
  na : ∀ b ∈ fp, G.a ≠ b
theorem trunc_le {n : Nat} {h : Heap} {b : Addr} (hb : n ≤ b) : (truncH n h).objs.size ≤ b := Nat.le_trans (trunc_size n h) hb
theorem FpSt.ok {fp : List Addr} (h : FpSt G fp) {H0 H : Hp} {s0 : Shared} (hn : ∀ b ∈ fp, H b = none) : ∀ b ∈ fp, FpOk (G.cx H0 s0) [] H b := fun b hb => ⟨hn b hb, h.nl b hb, h.nf b hb, .inr (trunc_le (h.ge b hb)), h.nc b hb, fun p hp => by
  have e : p = (G.a, G.go) := by
    rcases List.mem_append.mp hp with z | z
    · exact List.mem_singleton.mp z
    · cases z
  subst e
  exact h.na b hb⟩
theorem held_all {pv : List Addr} {σ5 : L2.St} {H5 H0 : Hp} {s0 s5 : Shared} {pins : List (Addr × Obj)} {fp : List Addr} {it : Addr} {tn : Nat → Heap → Prop} {j : Nat} (T : Turn G.P G.w G.K tg (Itr 0 tot) fp it tn) (I5 : Inv (G.cx H0 s0) pins σ5 H5 s5) (st5 : tn j s5.heap) :
    ∀ b ∈ G.pv0 ++ fp, ∃ o, s5.heap.get? b = some o := fun b hb => by
  rcases List.mem_append.mp hb with hb | hb
  · have hb : b = G.n0 ∨ b ∈ G.env.cells.filterMap (fun p => G.env.cells.lookup p.1) ++ [G.a] := List.mem_cons.mp hb
    rcases hb with rfl | hb
    · obtain ⟨m, ⟨o, _, _, ho, _⟩, _⟩ := I5.loc
      exact ⟨o, ho⟩
    · rcases List.mem_append.mp hb with h | h
      · obtain ⟨⟨x, c⟩, hc, h1⟩ := List.mem_filterMap.mp h
        obtain ⟨v, o, ho, _⟩ := I5.cell x b h1
        exact ⟨o, ho⟩
      · rw [List.mem_singleton.mp h]
        exact ⟨_, (I5.pin (G.a, G.go) (List.mem_append_left _ (List.mem_singleton.mpr rfl))).1⟩
  · obtain ⟨o, ho, _⟩ := T.obj _ _ st5 b hb
    exact ⟨o, ho⟩
theorem none_all {σ5 : L2.St} {H5 H0 : Hp} {s0 s5 : Shared} {fp : List Addr} (I5 : Inv (G.cx H0 s0) [] σ5 H5 s5) (fn5 : ∀ b ∈ fp, H5 b = none) : ∀ b ∈ G.pv0 ++ fp, H5 b = none := fun b hb => by
  rcases List.mem_append.mp hb with hb | hb
  · have hb : b = G.n0 ∨ b ∈ G.env.cells.filterMap (fun p => G.env.cells.lookup p.1) ++ [G.a] := List.mem_cons.mp hb
    rcases hb with rfl | hb
    · exact I5.free
    · rcases List.mem_append.mp hb with h | h
      · obtain ⟨⟨x, c⟩, hc, h1⟩ := List.mem_filterMap.mp h
        exact I5.freeC x b h1
      · rw [List.mem_singleton.mp h]
        exact (I5.pin (G.a, G.go) (List.mem_append_left _ (List.mem_singleton.mpr rfl))).2.1
  · exact fn5 b hb
theorem top (ok : G.Ok) (S : GSpec G tg iter bs e ta tt tb te σw tot Yl) {fp : List Addr} {it : Addr} {tn : Nat → Heap → Prop} (T : Turn G.P G.w G.K tg (Itr 0 tot) fp it tn) (hF : FpSt G fp) {K : Flow → Sem PySem.Fin} {J : Value → Sem PySem.Fin} {c : Code} {p : Pos}
    (hov : G.Aw.over (lcode G tg it bs e yp pos) [frame0 G K J c p] = G.Aw.deeper G.env) (hK : K .next = .pure (.done (.ret .none))) :
    ∀ r j, j + r = tot → ∀ s, GoodW G s → LocAt G σw s.heap → tn j s.heap → S1 (model G.P G.w) G.Aw (chain G Yl (G.pv0 ++ fp) r j s) (lcode G tg it bs e yp pos) ((model G.P G.w).den (lcode G tg it bs e yp pos)) [frame0 G K J c p] s := by
  have inF : ∀ b ∈ fp, b ∈ G.pv0 ++ fp := fun b hb => List.mem_append_right _ hb
  have in0 : ∀ b ∈ G.pv0, b ∈ G.pv0 ++ fp := fun b hb => List.mem_append_left _ hb
  intro r
  induction r with
  | zero =>
    intro j hj s W L st
    have e : j = tot := by omega
    subst e
    have I := inv_wake ok W L S.len in0
    exact end1 T hov I (hF.ok fun b hb => GP.allH_in (inF b hb)) st hK fun s5 I5 => ⟨rfl, keep_of I5, I5.os.trans W.os, I5.bare⟩
  | succ r ih =>
    intro j hj s W L st
    have I := inv_wake ok W L S.len in0
    refine turn1 S T rfl hov (by omega) I (hF.ok fun b hb => GP.allH_in (inF b hb)) st fun v y σ5 H5 s5 k l p I5 ry yl x5 st5 fn5 hk => ?_
    refine ⟨v, y, l, k, _, p, _, H5, rfl, rfl, ry, yl, I5.hok, fun b xs eb => fresh_of ok I5 (fun b hb => ?_) eb, none_all I5 fn5, ⟨keep_of I5, I5.os.trans W.os, I5.bare⟩, held_all (pv := []) T I5 st5, (I5.pin (G.a, G.go) (List.mem_append_left _ (List.mem_singleton.mpr rfl))).1, fun s'' W'' hp => ?_⟩
    · rcases List.mem_append.mp hb with hb | hb
      · exact .inl hb
      · exact .inr (fn5 b hb)
    · have L5 : LocAt G σw s5.heap := LocAt.of I5 x5
      exact hk _ s'' (ih (j + 1) (by omega) s'' W'' (L5.keep in0 hp) (T.keep _ _ _ st5 fun b hb o eo => hp b (inF b hb) o eo))
/-- the first stretch -/
theorem first (ok : G.Ok) (S : GSpec G tg iter bs e ta tt tb te σw tot Yl) {fpos : Pos} {s : Shared} (W : GoodW G s) (L : LocAt G σw s.heap) :
    S1 (model G.P G.w) G.Aw (fun en s' => ∃ fp, FpSt G fp ∧ chain G Yl (G.pv0 ++ fp) tot 0 s en s' ∧ ∀ b ∈ fp, s.heap.get? b = none) (.func [.For tg iter (bodyY bs e yp pos) [] fpos] G.env) ((model G.P G.w).den (.func [.For tg iter (bodyY bs e yp pos) [] fpos] G.env)) [] s := by
  have I := inv_wake ok W L S.len (pv := G.pv0) fun b hb => hb
  refine s1_func ?_
  refine s1_cons ?_
  refine s1_For ?_ S.hs
  have ov0 : G.Aw.over (.func [.For tg iter (bodyY bs e yp pos) [] fpos] G.env) [] = G.Aw.deeper G.env := GenW.over_func
  rw [ov0]
  have st0 : iRng1 ta σw (G.allH G.pv0 s) fun J _ => J = Itr 0 tot := S.ar _ _ _ (fun vs H1 q => ⟨(tot : Nat), q, by omega, S.small, by simp⟩) (S.start _)
  refine wpAny_mono ((S.hi _ _).run [] s σw _ _ I st0) (fun x s1 h1 => ?_) fun _ _ z => z
  refine wpAny_mono h1 (fun itv s2 h2 => ?_) fun _ _ z => z
  obtain ⟨it, fp, tn, J, H', rfl, I2, T, st2, hf, rfl⟩ := h2
  have hov : ∀ K J p, G.Aw.over (lcode G tg it bs e yp pos) [frame0 G K J (.func [.For tg iter (bodyY bs e yp pos) [] fpos] G.env) p] = G.Aw.deeper G.env := fun K J p => (GenW.over_loop rfl rfl).trans ov0
  have sz : (truncH G.n0 s.heap).objs.size = G.n0 := by
    obtain ⟨m, hn, _⟩ := L.loc
    have h1 : G.n0 < s.heap.objs.size := hn.lt
    show (s.heap.objs.extract 0 G.n0).size = _
    rw [Array.size_extract, Nat.sub_zero, Nat.min_eq_left (Nat.le_of_lt h1)]
  have hF : FpSt G fp := by
    refine ⟨fun b hb => ?_, fun b hb => (hf b hb).2.1, fun b hb => (hf b hb).2.2.1, fun b hb => (hf b hb).2.2.2.2.1, fun b hb => (hf b hb).2.2.2.2.2 (G.a, G.go) (List.mem_append_left _ (List.mem_singleton.mpr rfl))⟩
    rcases (hf b hb).2.2.2.1 with z | z
    · exact absurd (show b ∈ ([] : List Addr) from z) (by simp)
    · have z' : (truncH G.n0 s.heap).objs.size ≤ b := z
      rw [sz] at z'
      exact z'
  have hnew : ∀ b ∈ fp, s.heap.get? b = none := fun b hb => by
    cases q : s.heap.get? b with
    | none => rfl
    | some o =>
      exfalso
      have hp : b ∉ G.pv0 := fun h => by
        have h : b = G.n0 ∨ b ∈ G.env.cells.filterMap (fun p => G.env.cells.lookup p.1) ++ [G.a] := List.mem_cons.mp h
        rcases h with h | h
        · exact hF.nl b hb h
        · rcases List.mem_append.mp h with h | h
          · obtain ⟨⟨x, c⟩, hc, h1⟩ := List.mem_filterMap.mp h
            exact hF.nc b hb x b h1 rfl
          · exact hF.na b hb (List.mem_singleton.mp h).symm
      have e1 := I2.base.frzs b o _ (GP.allH_out (hF.ge b hb) hp q)
      rw [(hf b hb).1] at e1
      cases e1
  have in0 : ∀ b ∈ G.pv0, b ∈ G.pv0 ++ fp := fun b hb => List.mem_append_left _ hb
  have inF : ∀ b ∈ fp, b ∈ G.pv0 ++ fp := fun b hb => List.mem_append_right _ hb
  have kp : ∀ {s5 : Shared}, KeepG G G.pv0 s s5 → KeepG G (G.pv0 ++ fp) s s5 := fun h b o e hb => h b o e fun z => hb (in0 b z)
  intro p
  cases htot : tot with
  | zero =>
    subst htot
    refine end1 T (hov _ _ p) I2 hf st2 rfl fun s5 I5 => ⟨fp, hF, ⟨rfl, kp (keep_of I5), I5.os.trans W.os, I5.bare⟩, hnew⟩
  | succ r =>
    subst htot
    refine turn1 S T rfl (hov _ _ p) (by omega) I2 hf st2 fun v y σ5 H5 s5 k l q I5 ry yl x5 st5 fn5 hk => ?_
    refine ⟨fp, hF, ⟨v, y, l, k, _, q, _, H5, rfl, rfl, ry, yl, I5.hok, fun b xs eb => fresh_of ok I5 (fun b hb => .inl hb) eb, none_all I5 fn5, ⟨kp (keep_of I5), I5.os.trans W.os, I5.bare⟩, held_all (pv := []) T I5 st5, (I5.pin (G.a, G.go) (List.mem_append_left _ (List.mem_singleton.mpr rfl))).1, fun s'' W'' hp => ?_⟩, hnew⟩
    have L5 : LocAt G σw s5.heap := LocAt.of I5 x5
    exact hk _ s'' (top ok S T hF (hov _ _ p) rfl r 1 (by omega) s'' W'' (L5.keep in0 hp) (T.keep _ _ _ st5 fun b hb o eo => hp b (inF b hb) o eo))
end
end GV
set_option maxHeartbeats 4000000
/-! GN9: a generator is made by a call. -/
namespace GV
open PySem L2 PySem.Spec PyProof.Rows CT
end GV
set_option maxHeartbeats 4000000
/-! GN10: behind a generator's stretch: the consumer's state. -/
namespace GV
open PySem L2 PySem.Spec PyProof.Rows CT
theorem ob_there {P : Program} {w : World} {H : Hp} {h : Heap} {a : Addr} {o : HO} (x : ObjOk P w H h a o) : ∃ ob, h.get? a = some ob := by
  cases o with
  | lst xs => obtain ⟨_, _, _, _, e⟩ := x; exact ⟨_, e⟩
  | tup xs => obtain ⟨_, _, _, ob, e, _⟩ := x; exact ⟨_, e⟩
  | dK kvs => obtain ⟨_, _, _, _, o, _, _, e, _⟩ := x; exact ⟨_, e⟩
  | dT kvs => obtain ⟨_, _, _, _, o, _, _, e, _⟩ := x; exact ⟨_, e⟩
  | set S n => obtain ⟨o, _, _, _, e, _⟩ := x; exact ⟨_, e⟩
  | ins C dx fs => obtain ⟨_, _, _, e, _⟩ := x; exact ⟨_, e⟩
  | own y => exact x
  | xd fs => obtain ⟨_, ⟨_, _, _, e, _⟩, _⟩ := x; exact ⟨_, e⟩
  | rng lo hi => obtain ⟨_, _, _, e⟩ := x; exact ⟨_, e⟩
  | frz ob u => exact ⟨_, x.1⟩
  | tbl ps => exact ⟨_, (show h.get? a = some _ from x)⟩
  | met f y => exact ⟨_, (show h.get? a = some _ from x)⟩
  | ext φ => exact x.2.1
/-- what was tracked, and the new tuples -/
def landH (h : Heap) (H H5 : Hp) : Hp := fun b => match h.get? b with
  | some _ => H b
  | none => match H5 b with
    | some (.tup xs) => some (.tup xs)
    | _ => none
theorem land_some {h : Heap} {H H5 : Hp} {b : Addr} {o : Obj} (e : h.get? b = some o) : landH h H H5 b = H b := by unfold landH; rw [e]
theorem land_new {h : Heap} {H H5 : Hp} {b : Addr} {u : HO} (e : h.get? b = none) (q : landH h H H5 b = some u) : ∃ xs, u = .tup xs ∧ H5 b = some (.tup xs) := by
  unfold landH at q
  rw [e] at q
  simp only at q
  split at q
  · rename_i xs hx
    cases q
    exact ⟨xs, rfl, hx⟩
  · cases q
section
variable {X : Cx} {G : GP} {pins : List (Addr × Obj)} {pv : List Addr} {σ : L2.St} {H H5 : Hp} {s s0 s1 s1' : Shared}
theorem land_ext (I : Inv X pins σ H s) {b : Addr} {u : HO} (e : H b = some u) : landH s.heap H H5 b = some u := by
  obtain ⟨o, ho⟩ := ob_there (I.hok b u e)
  rw [land_some ho]
  exact e
theorem un_of (I : Inv X pins σ H s) (hf0 : ∀ b ∈ pv, FpOk X pins H b) (e0 : s0.heap = s.heap) (eo : G.outer = X.stack) (K : GoodEnd G pv s0 s1) {h' : Heap} (kp : ∀ b o, s1.heap.get? b = some o → h'.get? b = some o) : L2.Un (frs X.stack) pv H (landH s.heap H H5) s.heap h' where
  keep := fun b o e n hb hx => by
    obtain ⟨sl, _, k⟩ := K.keep b o (by rw [e0]; exact e) hx
    exact kp b o (k (by rw [eo]; exact hb))
  slot := fun b o e n hb hx => by
    obtain ⟨sl, k, _⟩ := K.keep b o (by rw [e0]; exact e) hx
    exact ⟨sl, kp b _ k⟩
  free := fun b o e n hx => by rw [land_some e]; exact n
  there := fun b o e hx => by
    obtain ⟨sl, k, _⟩ := K.keep b o (by rw [e0]; exact e) hx
    exact ⟨_, kp b _ k⟩
  tups := fun b xs e => land_ext I e
  frzs := fun b o u e => land_ext I e
  tbls := fun b ps e => ⟨#[], by rw [land_ext I e]; simp⟩
theorem hok_of (I : Inv X pins σ H s) (hf0 : ∀ b ∈ pv, FpOk X pins H b) (e0 : s0.heap = s.heap) (eo : G.outer = X.stack) (K : GoodEnd G pv s0 s1) (h5 : HOk X.prog X.w H5 s1.heap) {h' : Heap} (kp : ∀ b o, s1.heap.get? b = some o → h'.get? b = some o) : HOk X.prog X.w (landH s.heap H H5) h' := fun b u e => by
  cases q : s.heap.get? b with
  | none =>
    obtain ⟨xs, rfl, hx⟩ := land_new q e
    obtain ⟨z, its, r, ob, ho, c⟩ := h5 b _ hx
    exact ⟨z, its, r, ob, kp b ob ho, c⟩
  | some o =>
    rw [land_some q] at e
    have trk : ∀ c u w, H c = some u → s.heap.get? c = some w → h'.get? c = some w := fun c u w hc hw => by
      have npv : c ∉ pv := fun z => by rw [(hf0 c z).1] at hc; cases hc
      have nfr : c ∉ frs X.stack := fun z => by rw [I.stkFree c z] at hc; cases hc
      obtain ⟨sl, _, k⟩ := K.keep c w (by rw [e0]; exact hw) npv
      exact kp c w (k (by rw [eo]; exact nfr))
    refine (I.hok b u e).stay (fun c w hc hw => ?_) (fun c hc => land_ext I hc) fun c xs hc => land_ext I hc
    rcases hc with rfl | hc
    · exact trk c u w e hw
    · exact trk c _ w hc hw
theorem shared_eta {a b : Shared} (o : b.os = a.os) : b = { a with heap := b.heap, gens := b.gens, drawn := b.drawn, toks := b.toks } := by
  obtain ⟨_, _, _, _, x⟩ := b
  obtain ⟨_, _, _, _, y⟩ := a
  have : x = y := o
  subst this
  rfl
/-- it lands -/
theorem land (I : Inv X pins σ H s) (hf0 : ∀ b ∈ pv, FpOk X pins H b) (e0 : s0.heap = s.heap) (eo : G.outer = X.stack) (os : G.os0 = X.s_0.os) (K : GoodEnd G pv s0 s1) (h5 : HOk X.prog X.w H5 s1.heap)
    (kp : ∀ b o, s1.heap.get? b = some o → s1'.heap.get? b = some o) (o1 : s1'.os = s1.os) (b1 : AllBare s1'.gens) : Inv X pins σ (landH s.heap H H5) s1' := by
  have osq : s1'.os = s.os := by rw [o1, K.os, os, I.os]
  rw [shared_eta osq]
  exact I.call (ch := pv) (un_of I hf0 e0 eo K kp) (hok_of I hf0 e0 eo K h5 kp) b1 fun b hb => ⟨(hf0 b hb).2.2.2.1, (hf0 b hb).2.1, (hf0 b hb).2.2.2.2.1, (hf0 b hb).2.2.2.2.2⟩
end
end GV
set_option maxHeartbeats 4000000
/-! GN11: a generator made by a call, walked by for. -/
namespace GV
open PySem L2 PySem.Spec PyProof.Rows CT
/-! ### the call -/
end GV
set_option maxHeartbeats 4000000
/-! DG1: for over a generator, at data. -/
namespace CT
open PySem L2 GV
section
variable {k : Cn} {A A' : Nat → Addr} {C C' : Store} {H H' H5 : Hp}
/-- more is tracked -/
theorem kp_more (h : ∀ b o, H b = some o → H' b = some o) : Kp A C H A C H' := ⟨fun a o l e => ⟨l, h a o e⟩, fun _ _ => rfl, Nat.le_refl _⟩
theorem StOk.more (x : StOk k A C H) (h : ∀ b o, H b = some o → H' b = some o) : StOk k A C H' := ⟨fun i c e => by
    have y := x.at_ i c e
    obtain ⟨u, hu⟩ := y.there
    exact y.kp (kp_more h) (by rw [hu]; exact h _ _ hu), x.inj⟩
end
end CT
set_option maxHeartbeats 4000000
/-! DG2: for over a generator, at data. -/
namespace CT
open PySem L2 GV
/-! ### the generator's promise at data -/
end CT
set_option maxHeartbeats 4000000
/-! DG3: a generator def, by its parts over data. -/
namespace CT
open PySem L2 PySem.Spec PyProof.Rows GV
end CT
set_option maxHeartbeats 4000000
/-! DG4a: a tuple of ints of the written part. -/
namespace CT
open PySem L2
end CT
set_option maxHeartbeats 4000000
/-! DM26: t * 1. -/
namespace CT
open PySem L2 PySem.Spec PyProof.Rows
theorem tuple_mul1W (l : Addr) (items : Array Value) (n : Nat) (dd : Option Addr) (sl : Array (Option Value)) (x : Int) (u : Tok) (c0 : (decide (x < -(2 ^ 63)) || decide (x ≥ 2 ^ 63)) = false) (c1 : (items.isEmpty || x == 1) = true) :
    Meets (Builtin.«tuple.__mul__» ⟨[.ref l, .int x u], []⟩) (fun _ R s => s.heap.get? l = some { cls := .type "tuple", dict := dd, data := .seq items n, slots := sl } ∧ R (.ok (.ret (.ref l))) s) :=
  .of_wp fun prog w A R s h => by
    obtain ⟨hp, g, d, tk, os⟩ := s
    obtain ⟨hl, h⟩ := h
    have f1 := AutoSeq1.idx_int
    wp_walk using wpAny_loadPart' hl
    repeat (first
      | (refine wpAny_ite_false (decide_eq_false (by rw [c0]; exact Bool.false_ne_true)) ?_; wp_walk using wpAny_loadPart' hl)
      | (refine wpAny_ite_true (decide_eq_true c1) ?_; wp_walk using wpAny_loadPart' hl))
    exact ⟨_, rfl, h⟩
def rRep1T (K : PySem.W.Frag) : R2 := fun x y H Q => ∃ l xs, x = .ref l ∧ y = .int 1 ∧ SqT K H l xs ∧ Q (.ref l) H
section
variable {X : Cx}
theorem op_rep1T : OpR X (binaryOp .Mult) (rRep1T X.K) := by
  intro pins s σ H x y v u Q I rx ry h
  obtain ⟨l, xs, rfl, rfl, hT, q⟩ := h
  cases rx
  obtain ⟨t, rfl⟩ := ry
  obtain ⟨its, r, ⟨⟨cls, dd, data, sl⟩, ho, hc, n, hd⟩, hs⟩ := I.tuple hT
  simp only at hc hd
  subst hc hd
  refine wpAny_binaryOp_repeat_ref (T := "tuple") (U := "int") (by decide) ⟨_, ho, rfl⟩ (fun s' => typeIs_int s' 1 t) noFill_tuple_mul F.fills_int_mul F.slot_int_rmul repeat_tuple F.slot_int_index.lookup
    (call_meets F.slot_int_rmul (typeIs_int s 1 t) F.entry_int_rmul (F.args_int_rmul_2 _ _) (int_rmul_tuple 1 t l its.toArray n dd sl)
      ⟨ho, rfl, ⟨_, ho, rfl⟩, call_meets F.slot_tuple_mul ⟨_, ho, rfl⟩ F.entry_tuple_mul (F.args_tuple_mul_2 _ _) (tuple_mul1W l its.toArray n dd sl 1 t (by decide) (by rw [show ((1 : Int) == 1) = true from rfl, Bool.or_true])) ⟨ho, ?_⟩⟩)
  exact ⟨.ref l, _, I, rfl, q⟩
end
end CT
set_option maxHeartbeats 4000000
/-! DM19: a def that hands back data with own lists and dicts inside: all become plain data. -/
namespace CT
open PySem L2 PySem.Spec PyProof.Rows
def fzF : Nat → Nat → Store → D → D
  | 0, _, _, d => d
  | q + 1, n, C, d => match d with
    | .cell i => if i < n then d else (match C[i]? with
      | some (some (.lst xs)) => .lst (xs.map (fzF q n C))
      | some (some (.dT ks vs)) => .dT ks (vs.map (fzF q n C))
      | _ => d)
    | .tup xs => .tup (xs.map (fzF q n C))
    | .lst xs => .lst (xs.map (fzF q n C))
    | _ => d
def finN (n : Nat) (d : D) (C : Store) : R D := if cb n (fzF 3 n C d) = true then .ok (fzF 3 n C d) (C.take n) else .stuck
def mDefN (np ns : Nat) (body : MS) : MF := fun ds C => if ds.length = np then (match body ⟨C.length, ds.map some ++ List.replicate (ns - np) none⟩ C with
    | .nx _ C' => finN C.length .non C'
    | .rt d C' => finN C.length d C'
    | .xc e _ C' => if cbL C.length e.fs = true then .exc e (C'.take C.length) else .stuck
    | _ => .stuck) else .stuck
theorem mDefN_ar {np ns : Nat} {body : MS} : Ar np (mDefN np ns body) := fun ds C h => by
  unfold mDefN
  rw [if_neg h]
section
variable {k : Cn}
theorem live_take {n : Nat} {A : Nat → Addr} {C : Store} {a : Addr} (l : Live A (C.take n) a) : Live A C a := by
  obtain ⟨i, c, e, z⟩ := l
  have hi : i < (C.take n).length := (List.getElem?_eq_some_iff.mp e).1
  rw [List.length_take] at hi
  rw [List.getElem?_take_of_lt (by omega)] at e
  exact ⟨i, c, e, z⟩
theorem RepL.mapF {n : Nat} {A : Nat → Addr} {C C2 : Store} {H : Hp} {f : D → D} (hf : ∀ v d, Rep k A C H v d → CT.cb n (f d) = true → Rep k A C2 H v (f d)) : ∀ {vs : List V} {ds : List D}, RepL k A C H vs ds → CT.cbL n (ds.map f) = true → RepL k A C2 H vs (ds.map f)
  | _, _, .nil, _ => .nil
  | _, _, .cons (d := d) (ds := ds) r t, h => by
    have h : (CT.cb n (f d) && CT.cbL n (ds.map f)) = true := h
    rw [Bool.and_eq_true] at h
    exact .cons (hf _ _ r h.1) (RepL.mapF hf t h.2)
theorem fzF_rep {n : Nat} {A : Nat → Addr} {C : Store} {H : Hp} (st : StOk k A C H) (hl : n ≤ C.length) : ∀ (q : Nat) (v : V) (d : D), Rep k A C H v d → cb n (fzF q n C d) = true → Rep k A (C.take n) H v (fzF q n C d)
  | 0, v, d, r, h => r.cut hl h
  | q + 1, v, d, r, h => by
    have ih := fzF_rep st hl q
    have tl : (C.take n).length = n := by rw [List.length_take]; omega
    have nl : ∀ i c, ¬ i < n → C[i]? = some (some c) → ¬ Live A (C.take n) (A i) := fun i c hi e l => by
      obtain ⟨j, c', e', z⟩ := l
      by_cases hj : j < n
      · rw [List.getElem?_take_of_lt hj] at e'
        have := st.inj j i _ _ e' e z
        omega
      · rw [List.getElem?_eq_none (by rw [tl]; omega)] at e'
        cases e'
    cases d with
    | cell i =>
      by_cases hi : i < n
      · have e : fzF (q + 1) n C (.cell i) = .cell i := by simp [fzF, hi]
        rw [e] at h ⊢
        exact r.cut hl h
      · cases r with
        | cell hi' =>
          simp only [fzF, if_neg hi] at h ⊢
          split
          · rename_i xs ec
            rw [ec] at h
            obtain ⟨vs, hv, rv⟩ := st.at_ i _ ec
            exact .lst (nl i _ hi ec) hv (rv.mapF ih (by simpa [cb] using h))
          · rename_i ks xs ec
            rw [ec] at h
            obtain ⟨kvs, hv, hk, rv⟩ := st.at_ i _ ec
            subst hk
            exact .dT (nl i _ hi ec) hv (rv.mapF ih (by simpa [cb] using h))
          · rename_i n1 n2
            exfalso
            split at h
            · rename_i ec; exact n1 _ ec
            · rename_i ec; exact n2 _ _ ec
            · simp only [cb, decide_eq_true_eq] at h
              exact hi h
    | tup xs =>
      cases r with
      | tup l hh rl => exact .tup (fun y => l (live_take y)) hh (rl.mapF ih (by simpa [cb, fzF] using h))
    | lst xs =>
      cases r with
      | lst l hh rl => exact .lst (fun y => l (live_take y)) hh (rl.mapF ih (by simpa [cb, fzF] using h))
    | _ => exact r.cut hl h
theorem spDN_body {np ns : Nat} {body : MS} {N : List Str} {vs : List V} {H : Hp} {Q : VK} {E : XK} (hN : N.length = ns) (hp : np ≤ ns) (h : SpD k np (mDefN np ns body) vs H Q E) :
    LS k (fun c d _ H' => E c d H') body { nx := fun _ H' => Q .non H', rt := Q } (L2.start N vs) H := by
  obtain ⟨hv, A, C, ds, st, rl, h⟩ := h
  have hd : ds.length = np := by rw [← rl.length]; exact hv
  unfold mDefN at h
  rw [if_pos hd] at h
  refine ⟨A, _, C, start_sr hN hv hd hp st rl, ?_⟩
  have done : ∀ (d : D) (C' : Store), Aft k C.length A C H (RepD k) (finN C.length d C') (fun _ _ _ H' v => Q v H') E → ∀ A' H' v, Stp k C.length A C H A' C' H' → StOk k A' C' H' → Rep k A' C' H' v d → Q v H' := fun d C' hf A' H' v p st' r => by
    unfold finN at hf
    split at hf
    · rename_i hc
      obtain ⟨q1, q2, q3, q4⟩ := cut_stp rfl st st' p
      exact hf A' H' v q1 q2 (fzF_rep st' q3 3 v d r hc)
    · exact hf.elim
  show AftS k _ C.length A C H (body ⟨C.length, ds.map some ++ List.replicate (ns - np) none⟩ C) _
  cases eb : body ⟨C.length, ds.map some ++ List.replicate (ns - np) none⟩ C with
  | nx sl' C' =>
    rw [eb] at h
    exact fun A' σ' H' p s' => done .non C' h A' H' .non p s'.st .non
  | rt d C' =>
    rw [eb] at h
    exact fun A' H' v p st' r => done d C' h A' H' v p st' r
  | bk sl' C' => rw [eb] at h; exact h.elim
  | ct sl' C' => rw [eb] at h; exact h.elim
  | stuck => rw [eb] at h; exact h.elim
  | xc e sl' C' =>
    rw [eb] at h
    intro A' σ' H' dd ws p s' x l r
    simp only at h
    split at h
    · rename_i hc
      obtain ⟨q1, q2, q3, q4⟩ := cut_stp rfl st s'.st p
      exact h A' H' dd ws q1 q2 x l (r.cut q3 hc)
    · exact h.elim
end
section
variable {P : Program} {w : World} {k : Cn} {mg : Str → Option Value} {base : Heap} {x qual : Str} {params : Arguments} {body : List Stmt} {scope : Scope} {dvs : List V} {kws : List (Str × V)} {f : Addr} {fd : FuncData}
theorem fn_okN {N ps : List Str} {lev : Nat} {m : MS} (F : FunD k.K x qual params body scope dvs kws f fd) (S : FnScope N ps scope) (hp : ps.length ≤ N.length)
    (hb : ∀ (cdv : Value) (A : Around) (outer : List Env) (s : Shared) (H : Hp) (E : XK), RoomG lev (A.deeper (envOfC qual scope s.heap.objs.size f cdv)) → PSs (cxOf (L2.CX P w) P w k.K mg base N qual scope f cdv A outer s H E) body (LS k (fun c d _ H' => E c d H') m)) :
    FnG P w k.K mg base (lev + 1) f fd ps (SpD k ps.length (mDefN ps.length N.length m)) := by
  obtain ⟨oc, od, dV, kV, doc, pm, an, cdv, ct, osl, rfl, lk, hcd, _, _⟩ := F.ex
  exact fn_ofG lk hcd S (fun vs H Q E h => h.1) fun A outer s H vs Q E hr h => ⟨_, hb cdv A outer s H E hr, spDN_body rfl hp h⟩
end
def finNS (n : Nat) (r : RS) : R D := match r with
  | .nx _ C' => finN n .non C'
  | .rt d C' => finN n d C'
  | .xc e _ C' => if cbL n e.fs = true then .exc e (C'.take n) else .stuck
  | _ => .stuck
theorem mDefN_e {np ns : Nat} {b : MS} {ds : List D} {C : Store} {sl : List (Option D)} (h : ds.length = np) (hs : ds.map some ++ List.replicate (ns - np) none = sl) : mDefN np ns b ds C = finNS C.length (b ⟨C.length, sl⟩ C) := by
  subst hs
  unfold mDefN
  rw [if_pos h]
  rfl
end CT
set_option maxHeartbeats 4000000
/-! DM32: d[k] += e on a dict with tuple keys; x *= e of ints. -/
namespace CT
open PySem L2
section
variable {X : Cx} {k : Cn} {W : WX} {E : Ends} {σ : L2.St} {H : Hp}
/-- x *= e of ints -/
def sAugM (i : Nat) (m : ME) : MS := fun F C => match F.sl[i]? with
  | some (some (.int a)) => bndS F.sl (m F C) fun d C1 => match d with
    | .int b => if cMul a b = true then .nx (F.sl.set i (some (.int (a * b)))) C1 else .stuck
    | _ => .stuck
  | _ => .stuck
theorem ls_augM {i : Nat} {m : ME} (h : LS k W (sAugM i m) E σ H) : tAug i (LE k W m) (rI CMul fun i j => .int (i * j)) E σ H := by
  obtain ⟨A, F, C, s, h⟩ := h
  unfold sAugM at h
  split at h
  · rename_i a e
    obtain ⟨v, h1, h2⟩ := s.sl i _ e
    cases h2
    refine ⟨_, h1, A, F, C, s, (AftS.bnd (rel := RepD k) s h).mono fun d C1 A1 H1 v p st r h3 => ?_⟩
    cases r with
    | int b =>
      by_cases hc : cMul a b = true
      · simp only [hc, if_true] at h3
        simp only [cMul, Bool.or_eq_true, Bool.and_eq_true, decide_eq_true_eq] at hc
        exact ⟨a, b, rfl, rfl, hc, h3 A1 _ H1 Stp.refl ((s.step p st).set (.int _))⟩
      · simp only [hc] at h3
        exact h3.elim
    | _ => exact h3.elim
  · exact h.elim
theorem ds_augM {i : Nat} {x : Str} {e : Expr} {pos pos' : Pos} {m : ME} (hN : X.N.Nodup) (hi : X.N[i]? = some x) (hx : Loc X.env.scope x) (he : PE X e (LE k W m)) (hf : X.fn x = true ∨ X.env.scope.names.lookup x = some .local := by first | exact .inl rfl | exact .inr rfl | assumption) :
    PS X (.AugAssign (.Name x pos') .Mult e pos) (LS k W (sAugM i m)) := (ps_aug hN hi hx he iop_mul hf).cq fun _ _ _ h => ls_augM h
end
end CT
set_option maxHeartbeats 4000000
/-! DM33: zip of two sequences, each a list or a tuple. -/
namespace CT
open PySem L2 PySem.Spec PyProof.Rows
/-- a list (false) or a tuple (true) -/
def SqX (t : Bool) (K : PySem.W.Frag) (H : Hp) (a : Addr) (xs : List V) : Prop := match t with
  | true => SqT K H a xs
  | false => SqL K H a xs
def isX (t : Bool) (h : Heap) (a : Addr) (its : Array Value) : Prop := match t with
  | true => h.IsTuple a its
  | false => h.IsList a its
def itX (t : Bool) (h : Heap) (it a : Addr) (i : Nat) : Prop := match t with
  | true => h.IsTupleIter it a i
  | false => h.IsListIter it a i
def itoX (t : Bool) (a : Addr) : Obj := match t with
  | true => { cls := .type "tuple_iterator", data := .fields #[.ref a, .int 0 0] }
  | false => { cls := .type "list_iterator", data := .fields #[.ref a, .int 0 0] }
section
variable {t : Bool} {h h' : Heap} {a it : Addr} {i : Nat} {its : Array Value} {X : Cx} {pins : List (Addr × Obj)} {σ : L2.St} {H : Hp} {s : Shared} {xs ys : List V}
theorem itX_at (x : itX t h it a i) (k : ∀ o, h.get? it = some o → h'.get? it = some o) : itX t h' it a i := by
  cases t
  · exact Heap.IsListIter.at x k
  · exact Heap.IsTupleIter.at x k
theorem itX_obj (x : itX t h it a i) : ∃ o, h.get? it = some o ∧ ∀ v, o.data ≠ .cell v := by
  cases t
  · obtain ⟨o, e, _, d⟩ := x
    exact ⟨o, e, fun v q => by rw [d] at q; cases q⟩
  · obtain ⟨o, e, _, d⟩ := x
    exact ⟨o, e, fun v q => by rw [d] at q; cases q⟩
theorem itX_new {n : Addr} (e : h.get? n = some (itoX t a)) : itX t h n a 0 := by
  cases t
  · exact ⟨_, e, rfl, rfl⟩
  · exact ⟨_, e, rfl, rfl⟩
theorem isX_lt (x : isX t h a its) : a < h.objs.size := by
  cases t
  · obtain ⟨o, e, _⟩ := x
    exact Heap.lt_size e
  · obtain ⟨o, e, _⟩ := x
    exact Heap.lt_size e
theorem drX {prog : Program} {w : World} {A : Around} (hh : A.handled = none) (hne : a ≠ it) : Draws prog w A it [it, a] its.size (fun i v => its[i]? = some v) (fun i h => itX t h it a i ∧ isX t h a its) := by
  cases t
  · exact Draws.list hh it a hne its
  · exact Draws.tuple hh it a hne its
theorem bgX (t : Bool) (a : Addr) (its : Array Value) : Begins (.ref a) (itoX t a) fun h => isX t h a its := by
  cases t
  · exact begins_list a its
  · exact begins_tuple a its
theorem sqX_in (I : Inv X pins σ H s) (q : SqX t X.K H a xs) : ∃ its : List Value, Vals xs its ∧ isX t s.heap a its.toArray := by
  cases t
  · obtain ⟨its, r, p, _⟩ := I.list q
    exact ⟨its, r, p.isList⟩
  · obtain ⟨its, r, p, _⟩ := I.tuple q
    exact ⟨its, r, p⟩
theorem sqX_inj (I : Inv X pins σ H s) (q : SqX t X.K H a xs) (q' : SqX t X.K H a ys) : xs = ys := by
  cases t
  · exact I.list_inj q q'
  · exact I.tuple_inj q q'
end
/-- the sequences at a and b as they stand at each turn, the items in new pairs -/
def ItzX (K : PySem.W.Frag) (t1 t2 : Bool) (a b : Addr) : It where
  go := fun i H => ∃ (xs ys : List V) (x y : V), SqX t1 K H a xs ∧ SqX t2 K H b ys ∧ xs[i]? = some x ∧ ys[i]? = some y
  yld := fun i H v H' => ∃ T x y, (v = .ref T ∧ H T = none ∧ H' = upd H T (.tup [x, y])) ∧ (∀ xs, SqX t1 K H a xs → xs[i]? = some x) ∧ ∀ ys, SqX t2 K H b ys → ys[i]? = some y
  stop := fun i H => ∃ xs ys : List V, SqX t1 K H a xs ∧ SqX t2 K H b ys ∧ i ≤ xs.length ∧ i ≤ ys.length ∧ (i = xs.length ∨ i = ys.length)
def zpN (t1 t2 : Bool) (a b z TI TO i1 i2 : Addr) (i : Nat) (h : Heap) : Prop :=
  IsZip h z TI TO .none ∧ IsTupOf2 h TI (.ref i1) (.ref i2) ∧ (∃ x y, IsTupOf2 h TO x y) ∧ itX t1 h i1 a i ∧ itX t2 h i2 b i
theorem turn_zipX {P : Program} {w : World} {K : PySem.W.Frag} {elts : List Expr} {kk : Nat} {tpos : Pos} {t1 t2 : Bool} {a b z TI TO i1 i2 : Addr} (S : ZipSep2 z TI TO i1 i2 [i1, a] [i2, b]) (ha : a ≠ i1) (hb : b ≠ i2) :
    Turn P w K (.Tuple elts kk tpos) (ItzX K t1 t2 a b) [z, TI, TO, i1, i2] z (zpN t1 t2 a b z TI TO i1 i2) where
  mem := List.mem_cons_self ..
  obj := fun i h st c hc => by
    obtain ⟨g1, g2, ⟨x, y, g3⟩, g4, g5⟩ := st
    simp only [List.mem_cons, List.not_mem_nil, or_false] at hc
    rcases hc with rfl | rfl | rfl | rfl | rfl
    · exact ⟨_, g1, fun v q => nomatch q⟩
    · exact ⟨_, g2, fun v q => nomatch q⟩
    · exact ⟨_, g3, fun v q => nomatch q⟩
    · exact itX_obj g4
    · exact itX_obj g5
  keep := fun i h h' st k => by
    obtain ⟨g1, g2, ⟨x, y, g3⟩, g4, g5⟩ := st
    exact ⟨k z (by simp) _ g1, k TI (by simp) _ g2, ⟨x, y, k TO (by simp) _ g3⟩, itX_at g4 (k i1 (by simp)), itX_at g5 (k i2 (by simp))⟩
  item := by
    intro X hP hw hK hc i pins s σ H E I hf st hg
    subst hP hw hK
    obtain ⟨g1, g2, ⟨x0, y0, g3⟩, g4, g5⟩ := st
    obtain ⟨xs, ys, x, y, qx, qy, ex, ey⟩ := hg
    obtain ⟨us, ru, pu⟩ := sqX_in I qx
    obtain ⟨ws, rw', pw⟩ := sqX_in I qy
    have l1 : i < us.toArray.size := by
      have := ru.length
      have := (List.getElem?_eq_some_iff.mp ex).1
      simp
      omega
    have l2 : i < ws.toArray.size := by
      have := rw'.length
      have := (List.getElem?_eq_some_iff.mp ey).1
      simp
      omega
    have low : ∀ c ∈ [z, TI, TO, i1, i2], c < s.heap.objs.size := fun c hcm => by
      simp only [List.mem_cons, List.not_mem_nil, or_false] at hcm
      obtain ⟨_, e4, _⟩ := itX_obj g4
      obtain ⟨_, e5, _⟩ := itX_obj g5
      rcases hcm with q | q | q | q | q
      · rw [q]; exact Heap.lt_size g1
      · rw [q]; exact Heap.lt_size g2
      · rw [q]; exact Heap.lt_size g3
      · rw [q]; exact Heap.lt_size e4
      · rw [q]; exact Heap.lt_size e5
    have zl := low z (by simp)
    refine wpAny_pyNext_zipD2_item S (drX (I.ok.hd hc) ha) (drX (I.ok.hd hc) hb) g1 g2 g3 ⟨g4, pu⟩ ⟨g5, pw⟩ l1 l2 fun u1 u2 h' tk e1 e2 z1 z2 z3 z4 z5 z6 z7 => ?_
    have e1 : us[i]? = some u1 := by simpa using e1
    have e2 : ws[i]? = some u2 := by simpa using e2
    obtain ⟨v1, f1, r1⟩ := ru.get ex
    obtain ⟨v2, f2, r2⟩ := rw'.get ey
    cases e1.symm.trans f1
    cases e2.symm.trans f2
    refine ⟨_, rfl, wpAny_letOwnedTupleGo_zip (s := { s with heap := h', toks := tk }) z1 fun h2 z8 sb => ?_⟩
    have new : ObjOk X.prog X.w (upd H s.heap.objs.size (.tup [x, y])) h2 s.heap.objs.size (.tup [x, y]) :=
      ⟨(by decide : 2 ≤ sizeLine), [u1, u2], .cons r1 (.cons r2 .nil), ⟨_, (sb.2 _ (Nat.ne_of_gt zl)).trans z5, rfl, _, rfl⟩⟩
    have I1 : Inv X pins σ (upd H s.heap.objs.size (.tup [x, y])) { s with heap := h2, toks := tk } :=
      I.turnedNew (ch := [z, TI, TO, i1, i2]) (fun c o hn q => by
        simp only [List.mem_cons, List.not_mem_nil, or_false, not_or] at hn
        exact (sb.2 c hn.1).trans (z7 c o hn.1 hn.2.2.1 hn.2.2.2.1 hn.2.2.2.2 q)) hf (Nat.le_refl _) new
    refine ⟨.ref s.heap.objs.size, _, I1, rfl, ⟨_, x, y, ⟨rfl, I.hok.fresh (Nat.le_refl _), rfl⟩, fun l hl => ?_, fun l hl => ?_⟩, ⟨z8, ?_, ⟨u1, u2, ?_⟩, ?_, ?_⟩, fun c hcm => ?_⟩
    · rw [sqX_inj I hl qx]; exact ex
    · rw [sqX_inj I hl qy]; exact ey
    · exact (sb.2 _ S.TIz).trans (z7 _ _ S.TIz S.TITO S.TIi1 S.TIi2 g2)
    · exact (sb.2 _ S.TOz).trans z2
    · exact itX_at z3.1 fun o q => (sb.2 _ (Ne.symm S.zi1)).trans q
    · exact itX_at z4.1 fun o q => (sb.2 _ (Ne.symm S.zi2)).trans q
    · rw [upd_ne (Nat.ne_of_lt (low c hcm))]
      exact (hf c hcm).1
  done := by
    intro X hP hw hK hc i pins s σ H E I hf st hg
    subst hP hw hK
    obtain ⟨g1, g2, ⟨x0, y0, g3⟩, g4, g5⟩ := st
    obtain ⟨xs, ys, qx, qy, n1, n2, ne⟩ := hg
    obtain ⟨us, ru, pu⟩ := sqX_in I qx
    obtain ⟨ws, rw', pw⟩ := sqX_in I qy
    have l1 := ru.length
    have l2 := rw'.length
    have s1 : us.toArray.size = us.length := by simp
    have s2 : ws.toArray.size = ws.length := by simp
    refine wpAny_pyNext_zipD2_end S (drX (I.ok.hd hc) ha) (drX (I.ok.hd hc) hb) g1 g2 g3 ⟨g4, pu⟩ ⟨g5, pw⟩ (by omega) (by omega) (by omega) fun h' tk hk => ⟨rfl, I.turnedL (ch := [z, TI, TO, i1, i2]) (fun c o hn q => ?_) hf⟩
    simp only [List.mem_cons, List.not_mem_nil, or_false, not_or] at hn
    exact hk c o hn.1 hn.2.2.1 hn.2.2.2.1 hn.2.2.2.2 q
  self := fun A i s Q E st h => wpAny_pyIter_zip st.1 h
def iZipX (K : PySem.W.Frag) (ta : TA) : TI := fun σ H R => ta σ H fun vs H1 => ∃ t1 t2 a b xs ys, vs = [.ref a, .ref b] ∧ SqX t1 K H1 a xs ∧ SqX t2 K H1 b ys ∧ R (ItzX K t1 t2 a b) H1
theorem pi_zipX {X : Cx} {e e2 : Expr} {ta : TA} {p pos tpos : Pos} {elts : List Expr} {kk : Nat} (hg : Gl X "zip") (hm : X.mg "zip" = none) (ha : PA X [e, e2] ta)
    (hs : starEach [e, e2] X.env = (false, eval e X.env) :: starEach [e2] X.env := by rfl) (hpl : (backTo pos (starEach [e2] X.env)).any (·.1) = false := by rfl) :
    PI X (.Tuple elts kk tpos) (.Call (.Name "zip" p) [e, e2] [] pos) (iZipX X.K ta) := by
  refine ⟨fun pins s σ H R I h => ?_⟩
  refine Call_ (ld_blt I hg hm boot_zip (callWith_type1 (thn (ha.run pos pins s σ H _ I h) fun us s1 ⟨vs, H1, I1, r1, q1⟩ => ?_) hs hpl))
  obtain ⟨t1, t2, a, b, xs, ys, rfl, qx, qy, q⟩ := q1
  cases r1 with
  | cons c1 rr =>
    cases rr with
    | cons c2 rr =>
      cases rr
      cases c1
      cases c2
      obtain ⟨i1, v1, p1⟩ := sqX_in I1 qx
      obtain ⟨i2, v2, p2⟩ := sqX_in I1 qy
      have la := isX_lt p1
      have lb := isX_lt p2
      have fr : ∀ c, c ∈ [s1.heap.objs.size + 4, s1.heap.objs.size + 2, s1.heap.objs.size + 3, s1.heap.objs.size, s1.heap.objs.size + 1] → FpOk X pins H1 c := fun c hcm => by
        have hle : s1.heap.objs.size ≤ c := by
          simp only [List.mem_cons, List.not_mem_nil, or_false] at hcm
          rcases hcm with q | q | q | q | q <;> rw [q]
          · exact Nat.le_add_right _ _
          · exact Nat.le_add_right _ _
          · exact Nat.le_add_right _ _
          · exact Nat.le_refl _
          · exact Nat.le_add_right _ _
        exact I1.fpOk hle (I1.hok.fresh hle)
      refine zip_begins2 (bgX t1 a i1.toArray) (bgX t2 b i2.toArray) p1 p2 fun h' z1 z2 z3 z4 z5 z6 z7 => wpAny_pyIter_zip z1 ?_
      exact ⟨_, _, _, _, H1, rfl, I1.kept (t' := s1.toks) z7, turn_zipX (zip_sep2 (fp1 := [a]) (fp2 := [b]) (by simpa using la) (by simpa using lb)) (Nat.ne_of_lt la) (Nat.ne_of_lt (Nat.lt_succ_of_lt lb)),
        ⟨z1, z2, ⟨_, _, z3⟩, itX_new z4, itX_new z5⟩, fr, q⟩
/-- zip over data: lists, own lists, tuples -/
def sqOf (d : D) (C : Store) : Option (Bool × List D) := match d with
  | .tup xs => some (true, xs)
  | .kt xs => some (true, xs)
  | .lst xs => some (false, xs)
  | _ => none
def mZipX (m : MA) : MI := fun F C => bnd (m F C) fun ds C1 => match ds with
  | [x, y] => (match sqOf x C1, sqOf y C1 with
    | some p, some q => .ok (itC (zipD p.2 q.2)) C1
    | _, _ => .stuck)
  | _ => .stuck
section
variable {X : Cx} {k : Cn} {W : WX} {σ : L2.St} {H : Hp}
theorem sqOf_at {A : Nat → Addr} {C : Store} {v : V} {d : D} {p : Bool × List D} (r : Rep k A C H v d) (e : sqOf d C = some p) : ∃ a vs, v = .ref a ∧ SqX p.1 k.K H a vs ∧ RepL k A C H vs p.2 := by
  cases d with
  | tup xs =>
    cases e
    obtain ⟨a, vs, rfl, hs, rl⟩ := vT_at r rfl
    exact ⟨a, vs, rfl, hs, rl⟩
  | kt xs =>
    cases e
    obtain ⟨a, vs, rfl, hs, rl⟩ := vT_at r rfl
    exact ⟨a, vs, rfl, hs, rl⟩
  | lst xs =>
    cases e
    cases r with
    | lst l hh rv => exact ⟨_, _, rfl, .inl (.inl hh), rv⟩
  | _ => cases e
theorem sqOf_st {d : D} {C C' : Store} : sqOf d C' = sqOf d C := by cases d <;> rfl
theorem itZ_X {fl : Nat} {A : Nat → Addr} {C : Store} {v w : V} {d e : D} {p q : Bool × List D} (r : Rep k A C H v d) (ed : sqOf d C = some p) (r2 : Rep k A C H w e) (ee : sqOf e C = some q) :
    ∃ a b vs ws, v = .ref a ∧ w = .ref b ∧ SqX p.1 k.K H a vs ∧ SqX q.1 k.K H b ws ∧ ItOk k fl (ItzX k.K p.1 q.1 a b) (itC (zipD p.2 q.2)) A C H := by
  obtain ⟨a, vs, rfl, hs, _⟩ := sqOf_at r ed
  obtain ⟨b, ws, rfl, hs2, _⟩ := sqOf_at r2 ee
  refine ⟨a, b, vs, ws, rfl, rfl, hs, hs2, fun A' C' H' st st' => ?_⟩
  obtain ⟨a', vs', ea, hl, rv⟩ := sqOf_at (st.rep _ _ r) (sqOf_st.trans ed)
  cases ea
  obtain ⟨b', ws', eb, hl2, rv2⟩ := sqOf_at (st.rep _ _ r2) (sqOf_st.trans ee)
  cases eb
  have zl : (zipD p.2 q.2).length = min p.2.length q.2.length := by simp [zipD]
  refine ⟨fun j y hj ey => ?_, fun _ => ⟨_, _, hl, hl2, ?_⟩⟩
  · have ey' : (zipD p.2 q.2)[j]? = some y := ey
    unfold zipD at ey'
    rw [List.getElem?_map] at ey'
    obtain ⟨c, hc, rfl⟩ := Option.map_eq_some_iff.mp ey'
    obtain ⟨h1, h2⟩ := List.getElem?_zip_eq_some.mp hc
    obtain ⟨u, hu, ru⟩ := rv.get h1
    obtain ⟨u2, hu2, ru2⟩ := rv2.get h2
    refine ⟨⟨_, _, u, u2, hl, hl2, hu, hu2⟩, fun x H'' ⟨T, z, z2, ⟨e1, hT, eH⟩, hz, hz2⟩ => ?_⟩
    subst e1 eH
    cases (hz _ hl).symm.trans hu
    cases (hz2 _ hl2).symm.trans hu2
    have kq : Kp A' C' H' A' C' (upd H' T (.tup [u, u2])) := kp_new hT
    have st2 := st'.new (o := .tup [u, u2]) hT
    exact ⟨A', kq.stp0, st2, .tup (tup_nl st2 upd_same) upd_same (.cons (ru.kp kq) (.cons (ru2.kp kq) .nil))⟩
  · have : (itC (zipD p.2 q.2)).n = min p.2.length q.2.length := zl
    rw [rv.length, rv2.length, this]
    omega
theorem li_zipX {ma : MA} {R : It → Hp → Prop} (h : LI k W (mZipX ma) σ H R) : iZipX k.K (LA k W ma) σ H R := by
  obtain ⟨A, F, C, s, h⟩ := h
  refine ⟨A, F, C, s, (Aft.bnd (rel := RepDs k) h).mono fun ds C1 A1 H1 vs p1 st1 r1 h1 => ?_⟩
  split at h1
  · rename_i x y
    split at h1
    · rename_i p q e1 e2
      have r1' : RepL k A1 C1 H1 vs [x, y] := r1
      cases r1' with
      | cons rx t =>
        cases t with
        | cons ry t =>
          cases t
          obtain ⟨a, b, us, ws, rfl, rfl, hs, hs2, ok⟩ := itZ_X (fl := F.fl) rx e1 ry e2
          exact ⟨_, _, a, b, us, ws, rfl, hs, hs2, h1 A1 H1 _ Stp.refl st1 ok⟩
    · exact h1.elim
  · exact h1.elim
theorem di_zipX {e e2 : Expr} {p pos tpos : Pos} {elts : List Expr} {kk : Nat} {ma : MA} (hg : Gl X "zip") (hm : X.mg "zip" = none) (hK : X.K = k.K) (ha : PA X [e, e2] (LA k W ma))
    (hs : starEach [e, e2] X.env = (false, eval e X.env) :: starEach [e2] X.env := by rfl) (hpl : (backTo pos (starEach [e2] X.env)).any (·.1) = false := by rfl) :
    PI X (.Tuple elts kk tpos) (.Call (.Name "zip" p) [e, e2] [] pos) (LI k W (mZipX ma)) := (pi_zipX hg hm ha hs hpl).cq fun _ _ _ h => by
  rw [hK]
  exact li_zipX h
end
end CT
set_option maxHeartbeats 4000000
/-! DM34: max of three integers; len of a dict keyed by tuples; sorted of a dict whose only key is the empty tuple. -/
namespace CT
open PySem L2 PySem.Spec PyProof.Rows
/-! ### sorted: the empty tuple alone -/
end CT
set_option maxHeartbeats 4000000
/-! DM45: t * n for longer rows (n up to 10000, a short t). -/
namespace CT
open PySem L2 PySem.Spec PyProof.Rows
def rRepU (K : PySem.W.Frag) : R2 := fun x y H Q => ∃ a n vs, x = .ref a ∧ y = .int n ∧ SqT K H a vs ∧ vs ≠ [] ∧ (2 ≤ n ∧ n ≤ 10000 ∧ vs.length ≤ 100) ∧ ∀ b, H b = none → Q (.ref b) (upd H b (.tup (List.replicate n.toNat vs).flatten))
section
variable {X : Cx}
theorem op_repU : OpR X (binaryOp .Mult) (rRepU X.K) := by
  intro ps s0 st H0 lhs rhs lv rv Q0 J r1 r2 hyp
  obtain ⟨ad, m, vs, rfl, rfl, sq, vne, ⟨m2, m5, vl⟩, fin⟩ := hyp
  cases r1
  obtain ⟨tk, rfl⟩ := r2
  obtain ⟨ws, rel, ⟨⟨cl, di, da, so⟩, get, ec, sz, ed⟩, sh⟩ := J.tuple sq
  simp only at ec ed
  subst ec ed
  have wl : ws.length = vs.length := rel.length.symm
  have wne : ws ≠ [] := fun z => vne (by
    rw [z] at wl
    exact List.eq_nil_of_length_eq_zero wl.symm)
  have we : ws.toArray.isEmpty = false := by
    cases ws with
    | nil => exact absurd rfl wne
    | cons _ _ => rfl
  have wz : ws.toArray.size = vs.length := by rw [List.size_toArray, wl]
  have prod : ((ws.toArray.size : Nat) : Int) * m ≤ 1000000 := by
    rw [wz]
    have z : ((vs.length : Nat) : Int) * m ≤ 100 * m := Int.mul_le_mul_of_nonneg_right (by omega) (by omega)
    omega
  have flat : (List.replicate m.toNat ws).flatten.length ≤ sizeLine := by
    rw [PyProof.Rows.lm_len_rep_flat, wl, sizeLine_eq]
    have z : m.toNat * vs.length ≤ 10000 * 100 := Nat.mul_le_mul (by omega) vl
    omega
  have b0 : (decide (m < -(2 ^ 63)) || decide (m ≥ 2 ^ 63)) = false := by
    rw [decide_eq_false (by omega), decide_eq_false (by omega)]
    rfl
  have b1 : (ws.toArray.isEmpty || m == 1) = false := by
    rw [we, Bool.false_or]
    exact beq_eq_false_iff_ne.mpr (by omega)
  have b2 : (decide (m ≤ 0) || ws.toArray.isEmpty) = false := by
    rw [we, Bool.or_false]
    exact decide_eq_false (by omega)
  have b4 : Builtin.Tuple.tupleTooMany (((ws.toArray.size : Nat) : Int) * m) = false := by
    unfold Builtin.Tuple.tupleTooMany
    rw [sizeLine_eq]
    exact decide_eq_false (by omega)
  refine wpAny_binaryOp_repeat_ref (T := "tuple") (U := "int") (by decide) ⟨_, get, rfl⟩ (fun z => typeIs_int z m tk) noFill_tuple_mul F.fills_int_mul F.slot_int_rmul repeat_tuple F.slot_int_index.lookup
    (call_meets F.slot_int_rmul (typeIs_int s0 m tk) F.entry_int_rmul (F.args_int_rmul_2 _ _) (int_rmul_tuple m tk ad ws.toArray sz di so)
      ⟨get, rfl, ⟨_, get, rfl⟩, call_meets F.slot_tuple_mul ⟨_, get, rfl⟩ F.entry_tuple_mul (F.args_tuple_mul_2 _ _) (tuple_mulW ad ws.toArray sz di so m tk b0 b1 b2 (by omega) b4 (by rw [size_rep, List.size_toArray]; exact flat)) ⟨get, ?_⟩⟩)
  rw [size_rep]
  refine ⟨.ref s0.heap.objs.size, _, J.laid (t' := s0.toks) (o := .tup (List.replicate m.toNat vs).flatten) (fun _ _ z => Heap.get?_push_of_some _ z) (Nat.le_refl _) ?_, rfl, fin _ (J.hok.fresh (Nat.le_refl _))⟩
  refine ⟨?_, _, rel.rep m.toNat, IsTup.new _ _⟩
  rw [PyProof.Rows.lm_len_rep_flat, sizeLine_eq]
  have z : m.toNat * vs.length ≤ 10000 * 100 := Nat.mul_le_mul (by omega) vl
  omega
end
def oRepU : O2 := fun x y C => match vT x, y with
  | some xs, .int n => if n = 1 then some (x, C) else if (decide (2 ≤ n) && (decide (n ≤ 10000) && (!xs.isEmpty && decide (xs.length ≤ 100)))) = true then some (.tup (List.replicate n.toNat xs).flatten, C) else none
  | _, _ => none
theorem d_repU {k : Cn} : OpD k (fun x y H Q => rRepU k.K x y H Q ∨ rRep1T k.K x y H Q) oRepU := by
  intro fl A C H x y dx dy d C' Q hf hl st rx ry e q
  unfold oRepU at e
  split at e
  · rename_i xs n e1
    split at e
    · rename_i h1
      subst h1
      obtain ⟨a, vs, rfl, ha, rv⟩ := vT_at rx e1
      cases ry
      cases e
      exact .inr ⟨a, vs, rfl, rfl, ha, q A H _ Stp.refl st rx⟩
    · split at e
      · rename_i hz
        simp only [Bool.and_eq_true, decide_eq_true_eq, Bool.not_eq_true'] at hz
        obtain ⟨a, vs, rfl, ha, rv⟩ := vT_at rx e1
        have hlen := rv.length
        cases ry
        cases e
        refine .inl ⟨a, n, vs, rfl, rfl, ha, fun z => ?_, ⟨hz.1, hz.2.1, by omega⟩, fun p hp => ?_⟩
        · subst z
          have : xs = [] := List.length_eq_zero_iff.mp (by simpa using hlen.symm)
          rw [this] at hz
          simp at hz
        · obtain ⟨w1, w2, w3⟩ := fresh_T (fl := fl) st (rv.rep n.toNat) hp
          exact q A _ _ w1 w2 w3
      · cases e
  · cases e
end CT
set_option maxHeartbeats 8000000
namespace CL
open PySem L2 PySem.Spec PyProof.Rows CT
noncomputable section
theorem txt {K : PySem.W.Frag} {h : Heap} {mg : Str → Option Value} (X : K.In h) (G : h.Ns mainGlobals mg) (c : SaysX fs fn K) : Txt K mg where
  n_abs := He.free_ok X G (c.fact 0 (f := (He.Fa.free "abs").ok) rfl)
  n_all := He.free_ok X G (c.fact 1 (f := (He.Fa.free "all").ok) rfl)
  n_any := He.free_ok X G (c.fact 2 (f := (He.Fa.free "any").ok) rfl)
  n_bool := He.free_ok X G (c.fact 3 (f := (He.Fa.free "bool").ok) rfl)
  n_enumerate := He.free_ok X G (c.fact 4 (f := (He.Fa.free "enumerate").ok) rfl)
  n_int := He.free_ok X G (c.fact 5 (f := (He.Fa.free "int").ok) rfl)
  n_isinstance := He.free_ok X G (c.fact 6 (f := (He.Fa.free "isinstance").ok) rfl)
  n_len := He.free_ok X G (c.fact 7 (f := (He.Fa.free "len").ok) rfl)
  n_list := He.free_ok X G (c.fact 8 (f := (He.Fa.free "list").ok) rfl)
  n_max := He.free_ok X G (c.fact 9 (f := (He.Fa.free "max").ok) rfl)
  n_min := He.free_ok X G (c.fact 10 (f := (He.Fa.free "min").ok) rfl)
  n_range := He.free_ok X G (c.fact 11 (f := (He.Fa.free "range").ok) rfl)
  n_repr := He.free_ok X G (c.fact 12 (f := (He.Fa.free "repr").ok) rfl)
  n_sorted := He.free_ok X G (c.fact 13 (f := (He.Fa.free "sorted").ok) rfl)
  n_str := He.free_ok X G (c.fact 14 (f := (He.Fa.free "str").ok) rfl)
  n_sum := He.free_ok X G (c.fact 15 (f := (He.Fa.free "sum").ok) rfl)
  n_tuple := He.free_ok X G (c.fact 16 (f := (He.Fa.free "tuple").ok) rfl)
  n_zip := He.free_ok X G (c.fact 17 (f := (He.Fa.free "zip").ok) rfl)
  c_MOST := He.int_ok X G (c.fact 18 (f := (He.Fa.int "MOST" 1000000000).ok) rfl)
  g_is_integer := He.glo_ok X G (c.fact 19 (f := (He.Fa.glo "is_integer").ok) rfl)
  g_is_number := He.glo_ok X G (c.fact 20 (f := (He.Fa.glo "is_number").ok) rfl)
  g_is_count := He.glo_ok X G (c.fact 21 (f := (He.Fa.glo "is_count").ok) rfl)
  g_is_tie := He.glo_ok X G (c.fact 22 (f := (He.Fa.glo "is_tie").ok) rfl)
  g_summed := He.glo_ok X G (c.fact 23 (f := (He.Fa.glo "summed").ok) rfl)
  g_grid_of := He.glo_ok X G (c.fact 24 (f := (He.Fa.glo "grid_of").ok) rfl)
  g_check_size := He.glo_ok X G (c.fact 25 (f := (He.Fa.glo "check_size").ok) rfl)
  g_pairs_of := He.glo_ok X G (c.fact 26 (f := (He.Fa.glo "pairs_of").ok) rfl)
  g_numbers := He.glo_ok X G (c.fact 27 (f := (He.Fa.glo "numbers").ok) rfl)
  g_check_light := He.glo_ok X G (c.fact 28 (f := (He.Fa.glo "check_light").ok) rfl)
  g_is_table := He.glo_ok X G (c.fact 29 (f := (He.Fa.glo "is_table").ok) rfl)
  g_is_tables := He.glo_ok X G (c.fact 30 (f := (He.Fa.glo "is_tables").ok) rfl)
  g_displeasure := He.glo_ok X G (c.fact 31 (f := (He.Fa.glo "displeasure").ok) rfl)
  g_distances := He.glo_ok X G (c.fact 32 (f := (He.Fa.glo "distances").ok) rfl)
  g_squares := He.glo_ok X G (c.fact 33 (f := (He.Fa.glo "squares").ok) rfl)
  g_added := He.glo_ok X G (c.fact 34 (f := (He.Fa.glo "added").ok) rfl)
  g_law_bag := He.glo_ok X G (c.fact 35 (f := (He.Fa.glo "_law_bag").ok) rfl)
  g_law_take := He.glo_ok X G (c.fact 36 (f := (He.Fa.glo "_law_take").ok) rfl)
  g_law_one := He.glo_ok X G (c.fact 37 (f := (He.Fa.glo "_law_one").ok) rfl)
  g_law_mixed := He.glo_ok X G (c.fact 38 (f := (He.Fa.glo "_law_mixed").ok) rfl)
  g_law_pairs := He.glo_ok X G (c.fact 39 (f := (He.Fa.glo "_law_pairs").ok) rfl)
  g_law_light := He.glo_ok X G (c.fact 40 (f := (He.Fa.glo "_law_light").ok) rfl)
  g_law_grid := He.glo_ok X G (c.fact 41 (f := (He.Fa.glo "_law_grid").ok) rfl)
  g_law_alike := He.glo_ok X G (c.fact 42 (f := (He.Fa.glo "_law_alike").ok) rfl)
  g_law_is_whole := He.glo_ok X G (c.fact 43 (f := (He.Fa.glo "_law_is_whole").ok) rfl)
  g_law_table := He.glo_ok X G (c.fact 44 (f := (He.Fa.glo "_law_table").ok) rfl)
  g_law_cost := He.glo_ok X G (c.fact 45 (f := (He.Fa.glo "_law_cost").ok) rfl)
  g_law_tables_right := He.glo_ok X G (c.fact 46 (f := (He.Fa.glo "_law_tables_right").ok) rfl)
  g_law_bent := He.glo_ok X G (c.fact 47 (f := (He.Fa.glo "_law_bent").ok) rfl)
  g_law_door := He.glo_ok X G (c.fact 48 (f := (He.Fa.glo "_law_door").ok) rfl)
  g_law_wish := He.glo_ok X G (c.fact 49 (f := (He.Fa.glo "_law_wish").ok) rfl)
  g_law_wide_right := He.glo_ok X G (c.fact 50 (f := (He.Fa.glo "_law_wide_right").ok) rfl)
  g_law := He.glo_ok X G (c.fact 51 (f := (He.Fa.glo "law").ok) rfl)
  g_Web := He.glo_ok X G (c.fact 52 (f := (He.Fa.glo "Web").ok) rfl)
  cl_Web := He.cls_ok (c.fact 53 (f := (He.Fa.cls "Web").ok) rfl)
  no_Web_size := He.noat_ok (c.fact 54 (f := (He.Fa.noat "Web" "size").ok) rfl)
  no_Web_grid := He.noat_ok (c.fact 55 (f := (He.Fa.noat "Web" "grid").ok) rfl)
  no_Web_ties := He.noat_ok (c.fact 56 (f := (He.Fa.noat "Web" "ties").ok) rfl)
  mk_Web := He.mkr_ok (c.fact 57 (f := (He.Fa.mkr "Web").ok) rfl)
  kt_Web__init := ktB_ok (c.fact 58 (f := ktB d_Web__init) rfl)
  pr_degrees := prB_ok (c.fact 59 (f := prB "Web" "degrees") rfl)
  dn_Web__getitem := dnB_ok (c.fact 60 (f := dnB "Web" "__getitem__") rfl)
  g_TooMany := He.glo_ok X G (c.fact 61 (f := (He.Fa.glo "TooMany").ok) rfl)
  xi_TooMany := xiB_ok (c.fact 62 (f := xiB "TooMany") rfl)
  nox_TooMany_limit := He.noat_ok (c.fact 63 (f := (He.Fa.noat "TooMany" "limit").ok) rfl)
  exm_TooMany := exmB_ok rfl rfl (c.fact 64 (f := exmB clA "TooMany" [1] []) rfl)
  xs := xsB_ok rfl rfl (c.fact 65 (f := xsB clA [1]) rfl)
  isa := isaB_ok rfl rfl (c.fact 66 (f := isaB clA [0]) rfl)
  f_TooMany__init := c.def_ 0 (d := dx_TooMany__init) rfl
  f_is_integer := c.def_ 1 (d := dx_is_integer) rfl
  f_is_number := c.def_ 2 (d := dx_is_number) rfl
  f_is_count := c.def_ 3 (d := dx_is_count) rfl
  f_is_tie := c.def_ 4 (d := dx_is_tie) rfl
  f_summed := c.def_ 5 (d := dx_summed) rfl
  f_grid_of := c.def_ 6 (d := dx_grid_of) rfl
  f_Web__init := c.def_ 7 (d := dx_Web__init) rfl
  f_Web_degrees := c.def_ 8 (d := dx_Web_degrees) rfl
  f_Web__getitem := c.def_ 9 (d := dx_Web__getitem) rfl
  f_check_size := c.def_ 10 (d := dx_check_size) rfl
  f_pairs_of := c.def_ 11 (d := dx_pairs_of) rfl
  f_numbers := c.def_ 12 (d := dx_numbers) rfl
  f_check_light := c.def_ 13 (d := dx_check_light) rfl
  f_is_table := c.def_ 14 (d := dx_is_table) rfl
  f_is_tables := c.def_ 15 (d := dx_is_tables) rfl
  f_displeasure := c.def_ 16 (d := dx_displeasure) rfl
  f_distances := c.def_ 17 (d := dx_distances) rfl
  f_squares := c.def_ 18 (d := dx_squares) rfl
  f_added := c.def_ 19 (d := dx_added) rfl
  f_law_bag := c.def_ 20 (d := dx_law_bag) rfl
  f_law_take := c.def_ 21 (d := dx_law_take) rfl
  f_law_one := c.def_ 22 (d := dx_law_one) rfl
  f_law_mixed := c.def_ 23 (d := dx_law_mixed) rfl
  f_law_pairs := c.def_ 24 (d := dx_law_pairs) rfl
  f_law_light := c.def_ 25 (d := dx_law_light) rfl
  f_law_grid := c.def_ 26 (d := dx_law_grid) rfl
  f_law_alike := c.def_ 27 (d := dx_law_alike) rfl
  f_law_is_whole := c.def_ 28 (d := dx_law_is_whole) rfl
  f_law_table := c.def_ 29 (d := dx_law_table) rfl
  f_law_cost := c.def_ 30 (d := dx_law_cost) rfl
  f_law_tables_right := c.def_ 31 (d := dx_law_tables_right) rfl
  f_law_bent := c.def_ 32 (d := dx_law_bent) rfl
  f_law_door := c.def_ 33 (d := dx_law_door) rfl
  f_law_wish := c.def_ 34 (d := dx_law_wish) rfl
  f_law_wide_right := c.def_ 35 (d := dx_law_wide_right) rfl
  f_law := c.def_ 36 (d := dx_law) rfl
theorem nd_Web {K : PySem.W.Frag} : ((cn K).fn 0).Nodup := (by decide : (flA 0).Nodup)
theorem nd_TooMany {K : PySem.W.Frag} : ((cn K).fn 1).Nodup := (by decide : (flA 1).Nodup)
section
variable {P : Program} {w : World} {K : PySem.W.Frag} {mg : Str → Option Value} {base : Heap}
theorem sc_TooMany__init : FnScope ["self", "limit"] ["self", "limit"] (defScope s_TooMany__init) := ⟨rfl, rfl, rfl, by decide +kernel, rfl, by decide +kernel, by decide +kernel⟩
theorem okx_TooMany (T : Txt K mg) : ∃ fd, FnOk P w K mg base CX0 1 (a_TooMany__init K) fd ["self", "limit"] (spX1 (He.ga K "TooMany") "limit") ∧ Binds K fd ["self", "limit"] [] := by
  obtain ⟨fd, F⟩ := T.f_TooMany__init
  exact ⟨fd, x1_ok F sc_TooMany__init rfl rfl T.xi_TooMany.ox T.nox_TooMany_limit (fun cdv A outer s H E => pss_one (ps_ost (pv 0) (pv 1))), F.bindsN fun _ _ _ _ _ _ us hl => match us, hl with | [_, _], _ => rfl⟩
theorem sc_is_integer : FnScope ["thing"] ["thing"] (defScope s_is_integer) := ⟨rfl, rfl, rfl, by decide +kernel, rfl, by decide +kernel, by decide +kernel⟩
def b_is_integer : MS := (sRet (mAnd (mIsi [0] (.ty .int) (mVar 0)) (mNot (mIsi [0] (.ty .bool) (mVar 0)))))
def m_is_integer : MF := mDef 1 1 b_is_integer
theorem ar_is_integer : Ar 1 m_is_integer := mDef_ar
theorem ok_is_integer (T : Txt K mg) : ∃ fd, FnG P w K mg base 1 (a_is_integer K) fd ["thing"] (SpD (cn K) 1 m_is_integer) ∧ Binds K fd ["thing"] [] ∧ PySem.W.keepIn K (.ref (a_is_integer K)) = true := by
  obtain ⟨fd, F⟩ := T.f_is_integer
  refine ⟨fd, fn_ok (k := cn K) F sc_is_integer (by decide) fun cdv A outer s H E hr => ?_, F.bindsN fun _ _ _ _ _ _ us hl => match us, hl with | [_], _ => rfl, F.kp⟩
  have tk : Takes (cxOf (L2.CX P w) P w K mg base ["thing"] "is_integer" (defScope s_is_integer) (a_is_integer K) cdv A outer s H E) (fun c d _ H => E c d H) := takes_of rfl rfl rfl rfl
  exact (dss_one (ds_ret (de_and (de_isi (by rfl) T.n_isinstance T.isa rfl rfl (dv 0) (pe_bltn (v := .ty "int") (by rfl) T.n_int (by decide +kernel) rfl)) (de_one (de_not (de_isi (by rfl) T.n_isinstance T.isa rfl rfl (dv 0) (pe_bltn (v := .ty "bool") (by rfl) T.n_bool (by decide +kernel) rfl)))))))
theorem sc_is_number : FnScope ["thing"] ["thing"] (defScope s_is_number) := ⟨rfl, rfl, rfl, by decide +kernel, rfl, by decide +kernel, by decide +kernel⟩
def b_is_number : MS := (sRet (mAnd (mCall m_is_integer [] (mCons (mVar 0) mNil)) (mChain oLe oLe (mUn oNeg (mC (.int 1000000000))) (mVar 0) (mC (.int 1000000000)))))
def m_is_number : MF := mDef 1 1 b_is_number
theorem e_is_number (x0 : D) (C : Store) : m_is_number [x0] C = finS C.length (b_is_number ⟨C.length, [some x0]⟩ C) := mDef_e rfl rfl
theorem ar_is_number : Ar 1 m_is_number := mDef_ar
theorem ok_is_number (T : Txt K mg) : ∃ fd, FnG P w K mg base 2 (a_is_number K) fd ["thing"] (SpD (cn K) 1 m_is_number) ∧ Binds K fd ["thing"] [] ∧ PySem.W.keepIn K (.ref (a_is_number K)) = true := by
  obtain ⟨fd_is_integer, F_is_integer, B_is_integer, kp_is_integer⟩ := ok_is_integer (P := P) (w := w) (base := base) T
  obtain ⟨t_MOST, h_MOST⟩ := T.c_MOST
  obtain ⟨fd, F⟩ := T.f_is_number
  refine ⟨fd, fn_ok (k := cn K) F sc_is_number (by decide) fun cdv A outer s H E hr => ?_, F.bindsN fun _ _ _ _ _ _ us hl => match us, hl with | [_], _ => rfl, F.kp⟩
  have tk : Takes (cxOf (L2.CX P w) P w K mg base ["thing"] "is_number" (defScope s_is_number) (a_is_number K) cdv A outer s H E) (fun c d _ H => E c d H) := takes_of rfl rfl rfl rfl
  exact (dss_one (ds_ret (de_and (de_call tk F_is_integer ar_is_integer (hr.mono (by decide)) (by rfl) T.g_is_integer kp_is_integer B_is_integer .nil (fun _ _ _ => .nil) (da_cons (dv 0) da_nil)) (de_one (de_chain op_le d_le op_le d_le (de_un un_neg d_neg (de_glob (fun _ _ _ => .int _) (by rfl) h_MOST ⟨_, rfl⟩)) (dv 0) (de_glob (fun _ _ _ => .int _) (by rfl) h_MOST ⟨_, rfl⟩))))))
theorem sc_is_count : FnScope ["thing", "least", "greatest"] ["thing", "least", "greatest"] (defScope s_is_count) := ⟨rfl, rfl, rfl, by decide +kernel, rfl, by decide +kernel, by decide +kernel⟩
def b_is_count : MS := (sRet (mAnd (mCall m_is_integer [] (mCons (mVar 0) mNil)) (mChain oLe oLe (mVar 1) (mVar 0) (mVar 2))))
def m_is_count : MF := mDef 3 3 b_is_count
theorem ar_is_count : Ar 3 m_is_count := mDef_ar
theorem ok_is_count (T : Txt K mg) : ∃ fd, FnG P w K mg base 2 (a_is_count K) fd ["thing", "least", "greatest"] (SpD (cn K) 3 m_is_count) ∧ Binds K fd ["thing", "least", "greatest"] [] ∧ PySem.W.keepIn K (.ref (a_is_count K)) = true := by
  obtain ⟨fd_is_integer, F_is_integer, B_is_integer, kp_is_integer⟩ := ok_is_integer (P := P) (w := w) (base := base) T
  obtain ⟨fd, F⟩ := T.f_is_count
  refine ⟨fd, fn_ok (k := cn K) F sc_is_count (by decide) fun cdv A outer s H E hr => ?_, F.bindsN fun _ _ _ _ _ _ us hl => match us, hl with | [_, _, _], _ => rfl, F.kp⟩
  have tk : Takes (cxOf (L2.CX P w) P w K mg base ["thing", "least", "greatest"] "is_count" (defScope s_is_count) (a_is_count K) cdv A outer s H E) (fun c d _ H => E c d H) := takes_of rfl rfl rfl rfl
  exact (dss_one (ds_ret (de_and (de_call tk F_is_integer ar_is_integer (hr.mono (by decide)) (by rfl) T.g_is_integer kp_is_integer B_is_integer .nil (fun _ _ _ => .nil) (da_cons (dv 0) da_nil)) (de_one (de_chain op_le d_le op_le d_le (dv 1) (dv 0) (dv 2))))))
theorem sc_is_tie : FnScope ["size", "thing", "u", "v", "number"] ["size", "thing"] (defScope s_is_tie) := ⟨rfl, rfl, rfl, by decide +kernel, rfl, by decide +kernel, by decide +kernel⟩
def b_is_tie_0 : MS := (sIf (tOrM (tNotM (mTst (mIsi [0] (.ty .tuple) (mVar 1)))) (mTst (mOp (oEqA true) (mAp oLen (mCons (mVar 1) mNil)) (mC (.int 3))))) (sRet (mC (.bl false))) sNext)
def b_is_tie_1 : MS := (sAsg (mVar 1) (Tgt.tp [2, 3, 4]).M)
def b_is_tie_2 : MS := (sIf (tOrM (tNotM (mTst (mCall m_is_count [] (mCons (mVar 2) (mCons (mC (.int 0)) (mCons (mOp oSub (mVar 0) (mC (.int 1))) mNil)))))) (tOrM (tNotM (mTst (mCall m_is_count [] (mCons (mVar 3) (mCons (mC (.int 0)) (mCons (mOp oSub (mVar 0) (mC (.int 1))) mNil)))))) (mTst (mOp (oEqA false) (mVar 2) (mVar 3))))) (sRet (mC (.bl false))) sNext)
def b_is_tie_3 : MS := (sRet (mCall m_is_count [] (mCons (mVar 4) (mCons (mC (.int 0)) (mCons (mC (.int 1000000000)) mNil)))))
def b_is_tie : MS := (sSeq b_is_tie_0 (sSeq b_is_tie_1 (sSeq b_is_tie_2 b_is_tie_3)))
def m_is_tie : MF := mDef 2 5 b_is_tie
theorem e_is_tie (x0 x1 : D) (C : Store) : m_is_tie [x0, x1] C = finS C.length (b_is_tie ⟨C.length, [some x0, some x1, none, none, none]⟩ C) := mDef_e rfl rfl
theorem ar_is_tie : Ar 2 m_is_tie := mDef_ar
theorem ok_is_tie (T : Txt K mg) : ∃ fd, FnG P w K mg base 3 (a_is_tie K) fd ["size", "thing"] (SpD (cn K) 2 m_is_tie) ∧ Binds K fd ["size", "thing"] [] ∧ PySem.W.keepIn K (.ref (a_is_tie K)) = true := by
  obtain ⟨fd_is_count, F_is_count, B_is_count, kp_is_count⟩ := ok_is_count (P := P) (w := w) (base := base) T
  obtain ⟨t_MOST, h_MOST⟩ := T.c_MOST
  obtain ⟨fd, F⟩ := T.f_is_tie
  refine ⟨fd, fn_ok (k := cn K) F sc_is_tie (by decide) fun cdv A outer s H E hr => ?_, F.bindsN fun _ _ _ _ _ _ us hl => match us, hl with | [_, _], _ => rfl, F.kp⟩
  have tk : Takes (cxOf (L2.CX P w) P w K mg base ["size", "thing", "u", "v", "number"] "is_tie" (defScope s_is_tie) (a_is_tie K) cdv A outer s H E) (fun c d _ H => E c d H) := takes_of rfl rfl rfl rfl
  exact (dss_cons (ds_if (PW.pt (dw_or (dt_not (dt_val (de_isi (by rfl) T.n_isinstance T.isa rfl rfl (dv 1) (pe_bltn (v := .ty "tuple") (by rfl) T.n_tuple (by decide +kernel) rfl)))) (dw_or1 (dt_cmp (op_ne.or (op_neD hr.room.units)) d_neA (de_callB call_len_seq d_len (by rfl) T.n_len (by decide +kernel) (da_cons (dv 1) da_nil)) de_int (nomark _))))) (dss_one (ds_ret de_bl)) dss_nil)
  (dss_cons (ds_asgT (dv 1) (tg_tp [2, 3, 4] rfl rfl (pgs_cons (pg_name (i := 2) sc_is_tie.nd rfl (Or.inl rfl)) (pgs_cons (pg_name (i := 3) sc_is_tie.nd rfl (Or.inl rfl)) (pgs_cons (pg_name (i := 4) sc_is_tie.nd rfl (Or.inl rfl)) pgs_nil)))))
  (dss_cons (ds_if (PW.pt (dw_or (dt_not (dt_val (de_call tk F_is_count ar_is_count (hr.mono (by decide)) (by rfl) T.g_is_count kp_is_count B_is_count .nil (fun _ _ _ => .nil) (da_cons (dv 2) (da_cons de_int (da_cons (de_op op_sub d_sub (dv 0) de_int) da_nil)))))) (dw_or (dt_not (dt_val (de_call tk F_is_count ar_is_count (hr.mono (by decide)) (by rfl) T.g_is_count kp_is_count B_is_count .nil (fun _ _ _ => .nil) (da_cons (dv 3) (da_cons de_int (da_cons (de_op op_sub d_sub (dv 0) de_int) da_nil)))))) (dw_or1 (dt_cmp (op_eq.or (op_eqD hr.room.units)) d_eqA (dv 2) (dv 3) (nomark _)))))) (dss_one (ds_ret de_bl)) dss_nil)
  (dss_one (ds_ret (de_call tk F_is_count ar_is_count (hr.mono (by decide)) (by rfl) T.g_is_count kp_is_count B_is_count .nil (fun _ _ _ => .nil) (da_cons (dv 4) (da_cons de_int (da_cons (de_glob (fun _ _ _ => .int _) (by rfl) h_MOST ⟨_, rfl⟩) da_nil)))))))))
theorem sc_summed : FnScope ["ties", "found", "u", "v", "number", "pair"] ["ties"] (defScope s_summed) := ⟨rfl, rfl, rfl, by decide +kernel, rfl, by decide +kernel, by decide +kernel⟩
def b_summed_0 : MS := (sAsg (mDNew true) (gN 1))
def b_summed_1b_0 : MS := (sAsg (mAp oTup (mCons (mAp oMin2 (mCons (mVar 2) (mCons (mVar 3) mNil))) (mCons (mAp oMax2 (mCons (mVar 2) (mCons (mVar 3) mNil))) mNil))) (gN 5))
def b_summed_1b_1 : MS := (sPut (mOp oAdd (mDGet (mVar 1) (mVar 5) (mC (.int 0))) (mVar 4)) (mVar 1) (mVar 5))
def b_summed_1 : MS := (sFor (mSeq (mVar 0)) (Tgt.tp [2, 3, 4]).M (sSeq b_summed_1b_0 b_summed_1b_1))
def b_summed_2 : MS := (sRet (mVar 1))
def b_summed : MS := (sSeq b_summed_0 (sSeq b_summed_1 b_summed_2))
def m_summed : MF := mDef 1 6 b_summed
theorem e_summed (x0 : D) (C : Store) : m_summed [x0] C = finS C.length (b_summed ⟨C.length, [some x0, none, none, none, none, none]⟩ C) := mDef_e rfl rfl
theorem ar_summed : Ar 1 m_summed := mDef_ar
theorem ok_summed (T : Txt K mg) : ∃ fd, FnG P w K mg base 1 (a_summed K) fd ["ties"] (SpD (cn K) 1 m_summed) ∧ Binds K fd ["ties"] [] ∧ PySem.W.keepIn K (.ref (a_summed K)) = true := by
  obtain ⟨fd, F⟩ := T.f_summed
  refine ⟨fd, fn_ok (k := cn K) F sc_summed (by decide) fun cdv A outer s H E hr => ?_, F.bindsN fun _ _ _ _ _ _ us hl => match us, hl with | [_], _ => rfl, F.kp⟩
  have tk : Takes (cxOf (L2.CX P w) P w K mg base ["ties", "found", "u", "v", "number", "pair"] "summed" (defScope s_summed) (a_summed K) cdv A outer s H E) (fun c d _ H => E c d H) := takes_of rfl rfl rfl rfl
  exact (dss_cons (ds_set (i := 1) sc_summed.nd rfl (Or.inl rfl) (de_dnew true))
  (dss_cons (ds_for (passes_of rfl) rfl (di_seq rfl (dv 0)) (tg_tp [2, 3, 4] rfl rfl (pgs_cons (pg_name (i := 2) sc_summed.nd rfl (Or.inl rfl)) (pgs_cons (pg_name (i := 3) sc_summed.nd rfl (Or.inl rfl)) (pgs_cons (pg_name (i := 4) sc_summed.nd rfl (Or.inl rfl)) pgs_nil)))) (dss_cons (ds_set (i := 5) sc_summed.nd rfl (Or.inl rfl) (de_tup (da_cons (de_callB (call_min2 rfl) d_min2 (by rfl) T.n_min (by decide +kernel) (da_cons (dv 2) (da_cons (dv 3) da_nil))) (da_cons (de_callB (call_max2 rfl) d_max2 (by rfl) T.n_max (by decide +kernel) (da_cons (dv 2) (da_cons (dv 3) da_nil))) da_nil))))
  (dss_one (ds_put (hu_of hr.room) (de_op op_add d_add (de_dget (hu_of hr.room) (dv 1) (dv 5) de_int) (dv 4)) (dv 1) (dv 5)))))
  (dss_one (ds_ret (dv 1)))))
theorem sc_grid_of : FnScope ["size", "ties", "found", "u", "v"] ["size", "ties"] (defScope s_grid_of) := ⟨rfl, rfl, rfl, by decide +kernel, rfl, by decide +kernel, by decide +kernel⟩
def b_grid_of_0 : MS := (sAsg (mCall m_summed [] (mCons (mVar 1) mNil)) (gN 2))
def b_grid_of_1 : MS := (sRet (mLc false (mRng1 (mVar 0)) (Tgt.nm 3).M tYesM (mLc false (mRng1 (mVar 0)) (Tgt.nm 4).M tYesM (mDGet (mVar 2) (mAp oTup (mCons (mAp oMin2 (mCons (mVar 3) (mCons (mVar 4) mNil))) (mCons (mAp oMax2 (mCons (mVar 3) (mCons (mVar 4) mNil))) mNil))) (mC (.int 0))) [4]) [3]))
def b_grid_of : MS := (sSeq b_grid_of_0 b_grid_of_1)
def m_grid_of : MF := mDef 2 5 b_grid_of
theorem e_grid_of (x0 x1 : D) (C : Store) : m_grid_of [x0, x1] C = finS C.length (b_grid_of ⟨C.length, [some x0, some x1, none, none, none]⟩ C) := mDef_e rfl rfl
theorem ar_grid_of : Ar 2 m_grid_of := mDef_ar
theorem ok_grid_of (T : Txt K mg) : ∃ fd, FnG P w K mg base 2 (a_grid_of K) fd ["size", "ties"] (SpD (cn K) 2 m_grid_of) ∧ Binds K fd ["size", "ties"] [] ∧ PySem.W.keepIn K (.ref (a_grid_of K)) = true := by
  obtain ⟨fd_summed, F_summed, B_summed, kp_summed⟩ := ok_summed (P := P) (w := w) (base := base) T
  obtain ⟨fd, F⟩ := T.f_grid_of
  refine ⟨fd, fn_ok (k := cn K) F sc_grid_of (by decide) fun cdv A outer s H E hr => ?_, F.bindsN fun _ _ _ _ _ _ us hl => match us, hl with | [_, _], _ => rfl, F.kp⟩
  have tk : Takes (cxOf (L2.CX P w) P w K mg base ["size", "ties", "found", "u", "v"] "grid_of" (defScope s_grid_of) (a_grid_of K) cdv A outer s H E) (fun c d _ H => E c d H) := takes_of rfl rfl rfl rfl
  exact (dss_cons (ds_set (i := 2) sc_grid_of.nd rfl (Or.inr rfl) (de_call tk F_summed ar_summed (hr.mono (by decide)) (by rfl) T.g_summed kp_summed B_summed .nil (fun _ _ _ => .nil) (da_cons (dv 1) da_nil)))
  (dss_one (ds_ret (de_lc (own := [("u", 3)]) false rfl rfl sc_grid_of.nd (di_rng1 (by rfl) T.n_range (dv 0)) (blkOk_by (own := [("u", 3)]) rfl) (by decide) (fun _ _ _ _ _ => (tg_nm (i := 3) sc_grid_of.nd rfl (by first | exact Or.inl rfl | exact Or.inr rfl))) (fun _ _ _ _ _ => dts_nil) (fun _ _ _ _ _ => (de_lc (own := [("v", 4)]) false rfl rfl sc_grid_of.nd (di_rng1 (by rfl) T.n_range (dv 0)) (blkOk_by (own := [("v", 4)]) rfl) (by decide) (fun _ _ _ _ _ => (tg_nm (i := 4) sc_grid_of.nd rfl (by first | exact Or.inl rfl | exact Or.inr rfl))) (fun _ _ _ _ _ => dts_nil) (fun _ _ _ _ _ => (de_dget (hu_of hr.room) (dv 2) (de_tup (da_cons (de_callB (call_min2 rfl) d_min2 (by rfl) T.n_min (by decide +kernel) (da_cons (dv 3) (da_cons (dv 4) da_nil))) (da_cons (de_callB (call_max2 rfl) d_max2 (by rfl) T.n_max (by decide +kernel) (da_cons (dv 3) (da_cons (dv 4) da_nil))) da_nil))) de_int))))))))
theorem sc_Web__init : FnScope ["self", "size", "ties", "at", "item", "grid", "pairs", "line", "number", "u", "v"] ["self", "size", "ties"] (defScope s_Web__init) := ⟨rfl, rfl, rfl, by decide +kernel, rfl, by decide +kernel, by decide +kernel⟩
def b_Web__init_0 : MS := (sIf (tNotM (mTst (mCall m_is_count [] (mCons (mVar 1) (mCons (mC (.int 0)) (mCons (mC (.int 60)) mNil)))))) sNever sNext)
def b_Web__init_1 : MS := (sIf (tNotM (mTst (mIsi2 [0] (.ty .list) (.ty .tuple) (mVar 2)))) sNever sNext)
def b_Web__init_2b_0 : MS := (sIf (tNotM (mTst (mCall m_is_tie [] (mCons (mVar 1) (mCons (mVar 4) mNil))))) sNever sNext)
def b_Web__init_2 : MS := (sFor (mEnum (mVar 2)) (Tgt.tp [3, 4]).M b_Web__init_2b_0)
def b_Web__init_3 : MS := (sAsg (mCall m_grid_of [] (mCons (mVar 1) (mCons (mVar 2) mNil))) (gN 5))
def b_Web__init_4 : MS := (sIf (mTst (mAp oAny (mCons (mLc2 false (mSeq (mVar 5)) (Tgt.nm 7).M tYesM (mSeq (mVar 7)) (Tgt.nm 8).M tYesM (mOp oGt (mVar 8) (mC (.int 1000000000))) [7, 8] [8]) mNil))) sNever sNext)
def b_Web__init_5 : MS := (sAsg (mLc2 false (mRng1 (mVar 1)) (Tgt.nm 9).M tYesM (mRng2 (mOp oAdd (mVar 9) (mC (.int 1))) (mVar 1)) (Tgt.nm 10).M tYesM (mAp oTup (mCons (mVar 9) (mCons (mVar 10) mNil))) [9, 10] [10]) (gN 6))
def b_Web__init_6 : MS := (sFldS 0 0 (mVar 1) (mVar 0))
def b_Web__init_7 : MS := (sFldS 0 1 (mVar 5) (mVar 0))
def b_Web__init_8 : MS := (sFldS 0 2 (mAp oTupOf (mCons (mLc false (mSeq (mVar 6)) (Tgt.tp [9, 10]).M (mTst (mOp oGt (mOp oIx (mOp oIx (mVar 5) (mVar 9)) (mVar 10)) (mC (.int 0)))) (mAp oTup (mCons (mVar 9) (mCons (mVar 10) (mCons (mOp oIx (mOp oIx (mVar 5) (mVar 9)) (mVar 10)) mNil)))) [9, 10]) mNil)) (mVar 0))
def b_Web__init : MS := (sSeq b_Web__init_0 (sSeq b_Web__init_1 (sSeq b_Web__init_2 (sSeq b_Web__init_3 (sSeq b_Web__init_4 (sSeq b_Web__init_5 (sSeq b_Web__init_6 (sSeq b_Web__init_7 b_Web__init_8))))))))
def m_Web__init : MF := mDef 3 11 b_Web__init
theorem e_Web__init (x0 x1 x2 : D) (C : Store) : m_Web__init [x0, x1, x2] C = finS C.length (b_Web__init ⟨C.length, [some x0, some x1, some x2, none, none, none, none, none, none, none, none]⟩ C) := mDef_e rfl rfl
theorem ar_Web__init : Ar 3 m_Web__init := mDef_ar
theorem ok_Web__init (T : Txt K mg) : ∃ fd, FnG P w K mg base 4 (a_Web__init K) fd ["self", "size", "ties"] (SpD (cn K) 3 m_Web__init) ∧ Binds K fd ["self", "size", "ties"] [] ∧ PySem.W.keepIn K (.ref (a_Web__init K)) = true ∧ ∃ ds, Vals [V.ref (d_Web__init K)] ds ∧ Binds K fd ["self", "size", "ties"] ds := by
  obtain ⟨fd_is_count, F_is_count, B_is_count, kp_is_count⟩ := ok_is_count (P := P) (w := w) (base := base) T
  obtain ⟨fd_is_tie, F_is_tie, B_is_tie, kp_is_tie⟩ := ok_is_tie (P := P) (w := w) (base := base) T
  obtain ⟨fd_grid_of, F_grid_of, B_grid_of, kp_grid_of⟩ := ok_grid_of (P := P) (w := w) (base := base) T
  obtain ⟨t_MOST, h_MOST⟩ := T.c_MOST
  obtain ⟨fd, F⟩ := T.f_Web__init
  refine ⟨fd, fn_ok (k := cn K) F sc_Web__init (by decide) fun cdv A outer s H E hr => ?_, ?b0, F.kp, ?b1⟩
  rotate_left
  · obtain ⟨ds, v, b⟩ := F.binds1 (ps := ["self", "size", "ties"]) 3 1 (List.cons_ne_nil _ _) rfl fun _ _ _ _ _ _ _ us its h1 h2 => match us, its, h1, h2 with | [_, _, _], [_], _, _ => ⟨_, rfl, by with_unfolding_all rfl⟩
    cases v
    exact b
  · exact F.binds1 2 0 (List.cons_ne_nil _ _) rfl fun _ _ _ _ _ _ _ us its h1 h2 => match us, its, h1, h2 with | [_, _], [_], _, _ => ⟨_, rfl, rfl⟩
  have tk : Takes (cxOf (L2.CX P w) P w K mg base ["self", "size", "ties", "at", "item", "grid", "pairs", "line", "number", "u", "v"] "Web.__init__" (defScope s_Web__init) (a_Web__init K) cdv A outer s H E) (fun c d _ H => E c d H) := takes_of rfl rfl rfl rfl
  exact (dss_cons (ds_if (dt_not (dt_val (de_call tk F_is_count ar_is_count (hr.mono (by decide)) (by rfl) T.g_is_count kp_is_count B_is_count .nil (fun _ _ _ => .nil) (da_cons (dv 1) (da_cons de_int (da_cons de_int da_nil)))))) (dss_one ds_never) dss_nil)
  (dss_cons (ds_if (dt_not (dt_val (de_isi2 (by rfl) T.n_isinstance T.isa rfl rfl rfl (dv 2) (pe_bltn (v := .ty "list") (by rfl) T.n_list (by decide +kernel) rfl) (pe_bltn (v := .ty "tuple") (by rfl) T.n_tuple (by decide +kernel) rfl)))) (dss_one ds_never) dss_nil)
  (dss_cons (ds_for (passes_of rfl) rfl (di_enum (by rfl) T.n_enumerate rfl (dv 2)) (tg_tp [3, 4] rfl rfl (pgs_cons (pg_name (i := 3) sc_Web__init.nd rfl (Or.inl rfl)) (pgs_cons (pg_name (i := 4) sc_Web__init.nd rfl (Or.inl rfl)) pgs_nil))) (dss_one (ds_if (dt_not (dt_val (de_call tk F_is_tie ar_is_tie (hr.mono (by decide)) (by rfl) T.g_is_tie kp_is_tie B_is_tie .nil (fun _ _ _ => .nil) (da_cons (dv 1) (da_cons (dv 4) da_nil))))) (dss_one ds_never) dss_nil)))
  (dss_cons (ds_set (i := 5) sc_Web__init.nd rfl (Or.inr rfl) (de_call tk F_grid_of ar_grid_of (hr.mono (by decide)) (by rfl) T.g_grid_of kp_grid_of B_grid_of .nil (fun _ _ _ => .nil) (da_cons (dv 1) (da_cons (dv 2) da_nil))))
  (dss_cons (ds_if (dt_val (de_callB (cr_any rfl) d_any (by rfl) T.n_any (by decide +kernel) (da_cons (de_lc2 (own := [("line", 7), ("number", 8)]) (vs1 := [8]) false rfl rfl sc_Web__init.nd (di_seq rfl (dv 5)) (blkOk_by (own := [("line", 7), ("number", 8)]) rfl) (by decide) (by decide) (by decide) (fun _ _ _ _ _ => (tg_nm (i := 7) sc_Web__init.nd rfl (by first | exact Or.inl rfl | exact Or.inr rfl))) (fun _ _ _ _ _ => dts_nil) (fun _ _ _ _ _ => (di_seq rfl (dv 7))) (fun _ _ _ _ _ => (tg_nm (i := 8) sc_Web__init.nd rfl (by first | exact Or.inl rfl | exact Or.inr rfl))) (fun _ _ _ _ _ => dts_nil) (fun _ _ _ _ _ => (de_cmp op_gt d_gt (dv 8) (de_glob (fun _ _ _ => .int _) (by rfl) h_MOST ⟨_, rfl⟩) (nomark _)))) da_nil))) (dss_one ds_never) dss_nil)
  (dss_cons (ds_setLc2 (i := 6) (own := [("u", 9), ("v", 10)]) (vs1 := [10]) false rfl rfl sc_Web__init.nd rfl rfl (sw_true rfl rfl rfl (by decide +kernel)) (di_rng1 (by rfl) T.n_range (dv 1)) (blkOk_by (own := [("u", 9), ("v", 10)]) rfl) (by decide) (by decide) (by decide) (fun _ _ _ _ _ => (tg_nm (i := 9) sc_Web__init.nd rfl (by first | exact Or.inl rfl | exact Or.inr rfl))) (fun _ _ _ _ _ => dts_nil) (fun _ _ _ _ _ => (di_rng2 (by rfl) T.n_range (de_op op_add d_add (dv 9) de_int) (dv 1))) (fun _ _ _ _ _ => (tg_nm (i := 10) sc_Web__init.nd rfl (by first | exact Or.inl rfl | exact Or.inr rfl))) (fun _ _ _ _ _ => dts_nil) (fun _ _ _ _ _ => (de_tup (da_cons (dv 9) (da_cons (dv 10) da_nil)))))
  (dss_cons (ds_fld 0 0 rfl T.cl_Web T.no_Web_size nd_Web rfl (show 3 < 1000 by decide) (dv 0) (dv 1))
  (dss_cons (ds_fld 0 1 rfl T.cl_Web T.no_Web_grid nd_Web rfl (show 3 < 1000 by decide) (dv 0) (dv 5))
  (dss_one (ds_fld 0 2 rfl T.cl_Web T.no_Web_ties nd_Web rfl (show 3 < 1000 by decide) (dv 0) (de_callTy call_tuple_of d_tupOf (by rfl) T.n_tuple (by decide +kernel) (da_cons (de_lc (own := [("u", 9), ("v", 10)]) false rfl rfl sc_Web__init.nd (di_seq rfl (dv 6)) (blkOk_by (own := [("u", 9), ("v", 10)]) rfl) (by decide) (fun _ _ _ _ _ => (tg_tp [9, 10] rfl rfl (pgs_cons (pg_name (i := 9) sc_Web__init.nd rfl (by first | exact Or.inl rfl | exact Or.inr rfl)) (pgs_cons (pg_name (i := 10) sc_Web__init.nd rfl (by first | exact Or.inl rfl | exact Or.inr rfl)) pgs_nil)))) (fun _ _ _ _ _ => (pts_one (dt_cmp op_gt d_gt (de_ix ix_seq d_ix (de_ix ix_seq d_ix (dv 5) (dv 9)) (dv 10)) de_int (nomark _)))) (fun _ _ _ _ _ => (de_tup (da_cons (dv 9) (da_cons (dv 10) (da_cons (de_ix ix_seq d_ix (de_ix ix_seq d_ix (dv 5) (dv 9)) (dv 10)) da_nil)))))) da_nil))))))))))))
theorem sc_Web_degrees : FnScope ["self", "line"] ["self"] (defScope s_Web_degrees) := ⟨rfl, rfl, rfl, by decide +kernel, rfl, by decide +kernel, by decide +kernel⟩
def b_Web_degrees : MS := (sRet (mAp oTupOf (mCons (mLc false (mSeq (mUn (oFld 0 1) (mVar 0))) (Tgt.nm 1).M tYesM (mAp oSum (mCons (mVar 1) mNil)) [1]) mNil)))
def m_Web_degrees : MF := mDef 1 2 b_Web_degrees
theorem e_Web_degrees (x0 : D) (C : Store) : m_Web_degrees [x0] C = finS C.length (b_Web_degrees ⟨C.length, [some x0, none]⟩ C) := mDef_e rfl rfl
theorem ar_Web_degrees : Ar 1 m_Web_degrees := mDef_ar
theorem ok_Web_degrees (T : Txt K mg) : ∃ fd, FnG P w K mg base 1 (a_Web_degrees K) fd ["self"] (SpD (cn K) 1 m_Web_degrees) ∧ Binds K fd ["self"] [] ∧ PySem.W.keepIn K (.ref (a_Web_degrees K)) = true := by
  obtain ⟨fd, F⟩ := T.f_Web_degrees
  refine ⟨fd, fn_ok (k := cn K) F sc_Web_degrees (by decide) fun cdv A outer s H E hr => ?_, F.bindsN fun _ _ _ _ _ _ us hl => match us, hl with | [_], _ => rfl, F.kp⟩
  have tk : Takes (cxOf (L2.CX P w) P w K mg base ["self", "line"] "Web.degrees" (defScope s_Web_degrees) (a_Web_degrees K) cdv A outer s H E) (fun c d _ H => E c d H) := takes_of rfl rfl rfl rfl
  exact (dss_one (ds_ret (de_callTy call_tuple_of d_tupOf (by rfl) T.n_tuple (by decide +kernel) (da_cons (de_lc (own := [("line", 1)]) false rfl rfl sc_Web_degrees.nd (di_seq rfl (de_fld 0 1 rfl T.cl_Web T.no_Web_grid nd_Web rfl (dv 0))) (blkOk_by (own := [("line", 1)]) rfl) (by decide) (fun _ _ _ _ _ => (tg_nm (i := 1) sc_Web_degrees.nd rfl (by first | exact Or.inl rfl | exact Or.inr rfl))) (fun _ _ _ _ _ => dts_nil) (fun _ _ _ _ _ => (de_callB (cr_sum rfl) d_sum (by rfl) T.n_sum (by decide +kernel) (da_cons (dv 1) da_nil)))) da_nil))))
theorem sc_Web__getitem : FnScope ["self", "at", "u", "v"] ["self", "at"] (defScope s_Web__getitem) := ⟨rfl, rfl, rfl, by decide +kernel, rfl, by decide +kernel, by decide +kernel⟩
def b_Web__getitem_0 : MS := (sAsg (mVar 1) (Tgt.tp [2, 3]).M)
def b_Web__getitem_1 : MS := (sRet (mOp oIx (mOp oIx (mUn (oFld 0 1) (mVar 0)) (mVar 2)) (mVar 3)))
def b_Web__getitem : MS := (sSeq b_Web__getitem_0 b_Web__getitem_1)
def m_Web__getitem : MF := mDef 2 4 b_Web__getitem
theorem e_Web__getitem (x0 x1 : D) (C : Store) : m_Web__getitem [x0, x1] C = finS C.length (b_Web__getitem ⟨C.length, [some x0, some x1, none, none]⟩ C) := mDef_e rfl rfl
theorem ar_Web__getitem : Ar 2 m_Web__getitem := mDef_ar
theorem ok_Web__getitem (T : Txt K mg) : ∃ fd, FnG P w K mg base 1 (a_Web__getitem K) fd ["self", "at"] (SpD (cn K) 2 m_Web__getitem) ∧ Binds K fd ["self", "at"] [] ∧ PySem.W.keepIn K (.ref (a_Web__getitem K)) = true := by
  obtain ⟨fd, F⟩ := T.f_Web__getitem
  refine ⟨fd, fn_ok (k := cn K) F sc_Web__getitem (by decide) fun cdv A outer s H E hr => ?_, F.bindsN fun _ _ _ _ _ _ us hl => match us, hl with | [_, _], _ => rfl, F.kp⟩
  have tk : Takes (cxOf (L2.CX P w) P w K mg base ["self", "at", "u", "v"] "Web.__getitem__" (defScope s_Web__getitem) (a_Web__getitem K) cdv A outer s H E) (fun c d _ H => E c d H) := takes_of rfl rfl rfl rfl
  exact (dss_cons (ds_asgT (dv 1) (tg_tp [2, 3] rfl rfl (pgs_cons (pg_name (i := 2) sc_Web__getitem.nd rfl (Or.inl rfl)) (pgs_cons (pg_name (i := 3) sc_Web__getitem.nd rfl (Or.inl rfl)) pgs_nil))))
  (dss_one (ds_ret (de_ix ix_seq d_ix (de_ix ix_seq d_ix (de_fld 0 1 rfl T.cl_Web T.no_Web_grid nd_Web rfl (dv 0)) (dv 2)) (dv 3)))))
theorem sc_check_size : FnScope ["web"] ["web"] (defScope s_check_size) := ⟨rfl, rfl, rfl, by decide +kernel, rfl, by decide +kernel, by decide +kernel⟩
def b_check_size : MS := (sIf (mTst (mOp oGt (mUn (oFld 0 0) (mVar 0)) (mC (.int 5)))) (sRaise 1 1 (mCons (mC (.int 5)) mNil)) sNext)
def m_check_size : MF := mDef 1 1 b_check_size
theorem e_check_size (x0 : D) (C : Store) : m_check_size [x0] C = finS C.length (b_check_size ⟨C.length, [some x0]⟩ C) := mDef_e rfl rfl
theorem ar_check_size : Ar 1 m_check_size := mDef_ar
theorem ok_check_size (T : Txt K mg) : ∃ fd, FnG P w K mg base 3 (a_check_size K) fd ["web"] (SpD (cn K) 1 m_check_size) ∧ Binds K fd ["web"] [] ∧ PySem.W.keepIn K (.ref (a_check_size K)) = true := by
  obtain ⟨fx_TooMany, F1_TooMany, B1_TooMany⟩ := okx_TooMany (P := P) (w := w) (base := base) T
  obtain ⟨fd, F⟩ := T.f_check_size
  refine ⟨fd, fn_ok (k := cn K) F sc_check_size (by decide) fun cdv A outer s H E hr => ?_, F.bindsN fun _ _ _ _ _ _ us hl => match us, hl with | [_], _ => rfl, F.kp⟩
  have tk : Takes (cxOf (L2.CX P w) P w K mg base ["web"] "check_size" (defScope s_check_size) (a_check_size K) cdv A outer s H E) (fun c d _ H => E c d H) := takes_of rfl rfl rfl rfl
  exact (dss_one (ds_if (dt_cmp op_gt d_gt (de_fld 0 0 rfl T.cl_Web T.no_Web_size nd_Web rfl (dv 0)) de_int (nomark _)) (dss_one (ds_raise1 1 rfl tk rfl T.xi_TooMany rfl F1_TooMany (hr.mono (by decide)) B1_TooMany (by rfl) T.g_TooMany (da_cons de_int da_nil))) dss_nil))
theorem sc_pairs_of : FnScope ["size", "u", "v"] ["size"] (defScope s_pairs_of) := ⟨rfl, rfl, rfl, by decide +kernel, rfl, by decide +kernel, by decide +kernel⟩
def b_pairs_of : MS := (sRet (mLc2 false (mRng1 (mVar 0)) (Tgt.nm 1).M tYesM (mRng2 (mOp oAdd (mVar 1) (mC (.int 1))) (mVar 0)) (Tgt.nm 2).M tYesM (mAp oTup (mCons (mVar 1) (mCons (mVar 2) mNil))) [1, 2] [2]))
def m_pairs_of : MF := mDef 1 3 b_pairs_of
theorem e_pairs_of (x0 : D) (C : Store) : m_pairs_of [x0] C = finS C.length (b_pairs_of ⟨C.length, [some x0, none, none]⟩ C) := mDef_e rfl rfl
theorem ar_pairs_of : Ar 1 m_pairs_of := mDef_ar
theorem ok_pairs_of (T : Txt K mg) : ∃ fd, FnG P w K mg base 1 (a_pairs_of K) fd ["size"] (SpD (cn K) 1 m_pairs_of) ∧ Binds K fd ["size"] [] ∧ PySem.W.keepIn K (.ref (a_pairs_of K)) = true := by
  obtain ⟨fd, F⟩ := T.f_pairs_of
  refine ⟨fd, fn_ok (k := cn K) F sc_pairs_of (by decide) fun cdv A outer s H E hr => ?_, F.bindsN fun _ _ _ _ _ _ us hl => match us, hl with | [_], _ => rfl, F.kp⟩
  have tk : Takes (cxOf (L2.CX P w) P w K mg base ["size", "u", "v"] "pairs_of" (defScope s_pairs_of) (a_pairs_of K) cdv A outer s H E) (fun c d _ H => E c d H) := takes_of rfl rfl rfl rfl
  exact (dss_one (ds_ret (de_lc2 (own := [("u", 1), ("v", 2)]) (vs1 := [2]) false rfl rfl sc_pairs_of.nd (di_rng1 (by rfl) T.n_range (dv 0)) (blkOk_by (own := [("u", 1), ("v", 2)]) rfl) (by decide) (by decide) (by decide) (fun _ _ _ _ _ => (tg_nm (i := 1) sc_pairs_of.nd rfl (by first | exact Or.inl rfl | exact Or.inr rfl))) (fun _ _ _ _ _ => dts_nil) (fun _ _ _ _ _ => (di_rng2 (by rfl) T.n_range (de_op op_add d_add (dv 1) de_int) (dv 0))) (fun _ _ _ _ _ => (tg_nm (i := 2) sc_pairs_of.nd rfl (by first | exact Or.inl rfl | exact Or.inr rfl))) (fun _ _ _ _ _ => dts_nil) (fun _ _ _ _ _ => (de_tup (da_cons (dv 1) (da_cons (dv 2) da_nil)))))))
theorem sc_numbers : FnScope ["web", "u", "v"] ["web"] (defScope s_numbers) := ⟨rfl, rfl, rfl, by decide +kernel, rfl, by decide +kernel, by decide +kernel⟩
def b_numbers : MS := (sRet (mAp oTupOf (mCons (mLc false (mSeq (mCall m_pairs_of [] (mCons (mUn (oFld 0 0) (mVar 0)) mNil))) (Tgt.tp [1, 2]).M tYesM (mIxO 0 m_Web__getitem (mVar 0) (mAp oTup (mCons (mVar 1) (mCons (mVar 2) mNil)))) [1, 2]) mNil)))
def m_numbers : MF := mDef 1 3 b_numbers
theorem e_numbers (x0 : D) (C : Store) : m_numbers [x0] C = finS C.length (b_numbers ⟨C.length, [some x0, none, none]⟩ C) := mDef_e rfl rfl
theorem ar_numbers : Ar 1 m_numbers := mDef_ar
theorem ok_numbers (T : Txt K mg) : ∃ fd, FnG P w K mg base 3 (a_numbers K) fd ["web"] (SpD (cn K) 1 m_numbers) ∧ Binds K fd ["web"] [] ∧ PySem.W.keepIn K (.ref (a_numbers K)) = true := by
  obtain ⟨fd_pairs_of, F_pairs_of, B_pairs_of, kp_pairs_of⟩ := ok_pairs_of (P := P) (w := w) (base := base) T
  obtain ⟨fd_Web__getitem, F_Web__getitem, B_Web__getitem, kp_Web__getitem⟩ := ok_Web__getitem (P := P) (w := w) (base := base) T
  obtain ⟨fd, F⟩ := T.f_numbers
  refine ⟨fd, fn_ok (k := cn K) F sc_numbers (by decide) fun cdv A outer s H E hr => ?_, F.bindsN fun _ _ _ _ _ _ us hl => match us, hl with | [_], _ => rfl, F.kp⟩
  have tk : Takes (cxOf (L2.CX P w) P w K mg base ["web", "u", "v"] "numbers" (defScope s_numbers) (a_numbers K) cdv A outer s H E) (fun c d _ H => E c d H) := takes_of rfl rfl rfl rfl
  exact (dss_one (ds_ret (de_callTy call_tuple_of d_tupOf (by rfl) T.n_tuple (by decide +kernel) (da_cons (de_lc (own := [("u", 1), ("v", 2)]) false rfl rfl sc_numbers.nd (di_seq rfl (de_call tk F_pairs_of ar_pairs_of (hr.mono (by decide)) (by rfl) T.g_pairs_of kp_pairs_of B_pairs_of .nil (fun _ _ _ => .nil) (da_cons (de_fld 0 0 rfl T.cl_Web T.no_Web_size nd_Web rfl (dv 0)) da_nil))) (blkOk_by (own := [("u", 1), ("v", 2)]) rfl) (by decide) (fun _ _ _ _ _ => (tg_tp [1, 2] rfl rfl (pgs_cons (pg_name (i := 1) sc_numbers.nd rfl (by first | exact Or.inl rfl | exact Or.inr rfl)) (pgs_cons (pg_name (i := 2) sc_numbers.nd rfl (by first | exact Or.inl rfl | exact Or.inr rfl)) pgs_nil)))) (fun _ _ _ _ _ => dts_nil) (fun _ _ _ _ _ => (de_ixO 0 takes0 rfl (dv 0) (de_tup (da_cons (dv 1) (da_cons (dv 2) da_nil))) T.dn_Web__getitem.at_ T.dn_Web__getitem.fi T.dn_Web__getitem.fn F_Web__getitem ar_Web__getitem (hr.mono (by decide)) B_Web__getitem))) da_nil))))
theorem sc_check_light : FnScope ["web", "product", "number"] ["web"] (defScope s_check_light) := ⟨rfl, rfl, rfl, by decide +kernel, rfl, by decide +kernel, by decide +kernel⟩
def b_check_light_0 : MS := (sDrop (mCall m_check_size [] (mCons (mVar 0) mNil)))
def b_check_light_1 : MS := (sAsg (mC (.int 1)) (gN 1))
def b_check_light_2b_0 : MS := (sAugM 1 (mOp oAdd (mVar 2) (mC (.int 1))))
def b_check_light_2 : MS := (sFor (mSeq (mCall m_numbers [] (mCons (mVar 0) mNil))) (Tgt.nm 2).M b_check_light_2b_0)
def b_check_light_3 : MS := (sIf (mTst (mOp oGt (mVar 1) (mC (.int 1024)))) (sRaise 1 1 (mCons (mC (.int 1024)) mNil)) sNext)
def b_check_light : MS := (sSeq b_check_light_0 (sSeq b_check_light_1 (sSeq b_check_light_2 b_check_light_3)))
def m_check_light : MF := mDef 1 3 b_check_light
theorem e_check_light (x0 : D) (C : Store) : m_check_light [x0] C = finS C.length (b_check_light ⟨C.length, [some x0, none, none]⟩ C) := mDef_e rfl rfl
theorem ar_check_light : Ar 1 m_check_light := mDef_ar
theorem ok_check_light (T : Txt K mg) : ∃ fd, FnG P w K mg base 4 (a_check_light K) fd ["web"] (SpD (cn K) 1 m_check_light) ∧ Binds K fd ["web"] [] ∧ PySem.W.keepIn K (.ref (a_check_light K)) = true := by
  obtain ⟨fd_check_size, F_check_size, B_check_size, kp_check_size⟩ := ok_check_size (P := P) (w := w) (base := base) T
  obtain ⟨fd_numbers, F_numbers, B_numbers, kp_numbers⟩ := ok_numbers (P := P) (w := w) (base := base) T
  obtain ⟨fx_TooMany, F1_TooMany, B1_TooMany⟩ := okx_TooMany (P := P) (w := w) (base := base) T
  obtain ⟨fd, F⟩ := T.f_check_light
  refine ⟨fd, fn_ok (k := cn K) F sc_check_light (by decide) fun cdv A outer s H E hr => ?_, F.bindsN fun _ _ _ _ _ _ us hl => match us, hl with | [_], _ => rfl, F.kp⟩
  have tk : Takes (cxOf (L2.CX P w) P w K mg base ["web", "product", "number"] "check_light" (defScope s_check_light) (a_check_light K) cdv A outer s H E) (fun c d _ H => E c d H) := takes_of rfl rfl rfl rfl
  exact (dss_cons (ds_expr (de_call tk F_check_size ar_check_size (hr.mono (by decide)) (by rfl) T.g_check_size kp_check_size B_check_size .nil (fun _ _ _ => .nil) (da_cons (dv 0) da_nil)))
  (dss_cons (ds_set (i := 1) sc_check_light.nd rfl (Or.inl rfl) de_int)
  (dss_cons (ds_for (passes_of rfl) rfl (di_seq rfl (de_call tk F_numbers ar_numbers (hr.mono (by decide)) (by rfl) T.g_numbers kp_numbers B_numbers .nil (fun _ _ _ => .nil) (da_cons (dv 0) da_nil))) (tg_nm (i := 2) sc_check_light.nd rfl (Or.inl rfl)) (dss_one (ds_augM (i := 1) sc_check_light.nd rfl (Or.inl rfl) (de_op op_add d_add (dv 2) de_int))))
  (dss_one (ds_if (dt_cmp op_gt d_gt (dv 1) de_int (nomark _)) (dss_one (ds_raise1 1 rfl tk rfl T.xi_TooMany rfl F1_TooMany (hr.mono (by decide)) B1_TooMany (by rfl) T.g_TooMany (da_cons de_int da_nil))) dss_nil)))))
theorem sc_is_table : FnScope ["most", "thing", "x", "k"] ["most", "thing"] (defScope s_is_table) := ⟨rfl, rfl, rfl, by decide +kernel, rfl, by decide +kernel, by decide +kernel⟩
def b_is_table_0 : MS := (sIf (tOrM (tNotM (mTst (mIsi [0] (.ty .tuple) (mVar 1)))) (mTst (mOp (oEqA true) (mAp oLen (mCons (mVar 1) mNil)) (mOp oAdd (mVar 0) (mC (.int 1)))))) (sRet (mC (.bl false))) sNext)
def b_is_table_1 : MS := (sIf (tNotM (mTst (mAp oAll (mCons (mLc false (mSeq (mVar 1)) (Tgt.nm 2).M tYesM (mCall m_is_number [] (mCons (mVar 2) mNil)) [2]) mNil)))) (sRet (mC (.bl false))) sNext)
def b_is_table_2 : MS := (sRet (mAp oAll (mCons (mLc false (mRng1 (mOp oSub (mAp oLen (mCons (mVar 1) mNil)) (mC (.int 2)))) (Tgt.nm 3).M tYesM (mOp oLe (mOp oMul (mC (.int 2)) (mOp oIx (mVar 1) (mOp oAdd (mVar 3) (mC (.int 1))))) (mOp oAdd (mOp oIx (mVar 1) (mVar 3)) (mOp oIx (mVar 1) (mOp oAdd (mVar 3) (mC (.int 2)))))) [3]) mNil)))
def b_is_table : MS := (sSeq b_is_table_0 (sSeq b_is_table_1 b_is_table_2))
def m_is_table : MF := mDef 2 4 b_is_table
theorem e_is_table (x0 x1 : D) (C : Store) : m_is_table [x0, x1] C = finS C.length (b_is_table ⟨C.length, [some x0, some x1, none, none]⟩ C) := mDef_e rfl rfl
theorem ar_is_table : Ar 2 m_is_table := mDef_ar
theorem ok_is_table (T : Txt K mg) : ∃ fd, FnG P w K mg base 3 (a_is_table K) fd ["most", "thing"] (SpD (cn K) 2 m_is_table) ∧ Binds K fd ["most", "thing"] [] ∧ PySem.W.keepIn K (.ref (a_is_table K)) = true := by
  obtain ⟨fd_is_number, F_is_number, B_is_number, kp_is_number⟩ := ok_is_number (P := P) (w := w) (base := base) T
  obtain ⟨fd, F⟩ := T.f_is_table
  refine ⟨fd, fn_ok (k := cn K) F sc_is_table (by decide) fun cdv A outer s H E hr => ?_, F.bindsN fun _ _ _ _ _ _ us hl => match us, hl with | [_, _], _ => rfl, F.kp⟩
  have tk : Takes (cxOf (L2.CX P w) P w K mg base ["most", "thing", "x", "k"] "is_table" (defScope s_is_table) (a_is_table K) cdv A outer s H E) (fun c d _ H => E c d H) := takes_of rfl rfl rfl rfl
  exact (dss_cons (ds_if (PW.pt (dw_or (dt_not (dt_val (de_isi (by rfl) T.n_isinstance T.isa rfl rfl (dv 1) (pe_bltn (v := .ty "tuple") (by rfl) T.n_tuple (by decide +kernel) rfl)))) (dw_or1 (dt_cmp (op_ne.or (op_neD hr.room.units)) d_neA (de_callB call_len_seq d_len (by rfl) T.n_len (by decide +kernel) (da_cons (dv 1) da_nil)) (de_op op_add d_add (dv 0) de_int) (nomark _))))) (dss_one (ds_ret de_bl)) dss_nil)
  (dss_cons (ds_if (dt_not (dt_val (de_callB (cr_all rfl) d_all (by rfl) T.n_all (by decide +kernel) (da_cons (de_lc (own := [("x", 2)]) false rfl rfl sc_is_table.nd (di_seq rfl (dv 1)) (blkOk_by (own := [("x", 2)]) rfl) (by decide) (fun _ _ _ _ _ => (tg_nm (i := 2) sc_is_table.nd rfl (by first | exact Or.inl rfl | exact Or.inr rfl))) (fun _ _ _ _ _ => dts_nil) (fun _ _ _ _ _ => (de_call takes0 F_is_number ar_is_number (hr.mono (by decide)) (by rfl) T.g_is_number kp_is_number B_is_number .nil (fun _ _ _ => .nil) (da_cons (dv 2) da_nil)))) da_nil)))) (dss_one (ds_ret de_bl)) dss_nil)
  (dss_one (ds_ret (de_callB (cr_all rfl) d_all (by rfl) T.n_all (by decide +kernel) (da_cons (de_lc (own := [("k", 3)]) false rfl rfl sc_is_table.nd (di_rng1 (by rfl) T.n_range (de_op op_sub d_sub (de_callB call_len_seq d_len (by rfl) T.n_len (by decide +kernel) (da_cons (dv 1) da_nil)) de_int)) (blkOk_by (own := [("k", 3)]) rfl) (by decide) (fun _ _ _ _ _ => (tg_nm (i := 3) sc_is_table.nd rfl (by first | exact Or.inl rfl | exact Or.inr rfl))) (fun _ _ _ _ _ => dts_nil) (fun _ _ _ _ _ => (de_cmp op_le d_le (de_op op_mul d_mul de_int (de_ix ix_seq d_ix (dv 1) (de_op op_add d_add (dv 3) de_int))) (de_op op_add d_add (de_ix ix_seq d_ix (dv 1) (dv 3)) (de_ix ix_seq d_ix (dv 1) (de_op op_add d_add (dv 3) de_int))) (nomark _)))) da_nil))))))
theorem sc_is_tables : FnScope ["web", "thing", "most", "table"] ["web", "thing"] (defScope s_is_tables) := ⟨rfl, rfl, rfl, by decide +kernel, rfl, by decide +kernel, by decide +kernel⟩
def b_is_tables_0 : MS := (sIf (tOrM (tNotM (mTst (mIsi [0] (.ty .tuple) (mVar 1)))) (mTst (mOp (oEqA true) (mAp oLen (mCons (mVar 1) mNil)) (mUn (oFld 0 0) (mVar 0))))) (sRet (mC (.bl false))) sNext)
def b_is_tables_1 : MS := (sRet (mAp oAll (mCons (mLc false (mZipX (mCons (mProp 0 m_Web_degrees (mVar 0)) (mCons (mVar 1) mNil))) (Tgt.tp [2, 3]).M tYesM (mCall m_is_table [] (mCons (mVar 2) (mCons (mVar 3) mNil))) [2, 3]) mNil)))
def b_is_tables : MS := (sSeq b_is_tables_0 b_is_tables_1)
def m_is_tables : MF := mDef 2 4 b_is_tables
theorem e_is_tables (x0 x1 : D) (C : Store) : m_is_tables [x0, x1] C = finS C.length (b_is_tables ⟨C.length, [some x0, some x1, none, none]⟩ C) := mDef_e rfl rfl
theorem ar_is_tables : Ar 2 m_is_tables := mDef_ar
theorem ok_is_tables (T : Txt K mg) : ∃ fd, FnG P w K mg base 4 (a_is_tables K) fd ["web", "thing"] (SpD (cn K) 2 m_is_tables) ∧ Binds K fd ["web", "thing"] [] ∧ PySem.W.keepIn K (.ref (a_is_tables K)) = true := by
  obtain ⟨fd_Web_degrees, F_Web_degrees, B_Web_degrees, kp_Web_degrees⟩ := ok_Web_degrees (P := P) (w := w) (base := base) T
  obtain ⟨fd_is_table, F_is_table, B_is_table, kp_is_table⟩ := ok_is_table (P := P) (w := w) (base := base) T
  obtain ⟨fd, F⟩ := T.f_is_tables
  refine ⟨fd, fn_ok (k := cn K) F sc_is_tables (by decide) fun cdv A outer s H E hr => ?_, F.bindsN fun _ _ _ _ _ _ us hl => match us, hl with | [_, _], _ => rfl, F.kp⟩
  have tk : Takes (cxOf (L2.CX P w) P w K mg base ["web", "thing", "most", "table"] "is_tables" (defScope s_is_tables) (a_is_tables K) cdv A outer s H E) (fun c d _ H => E c d H) := takes_of rfl rfl rfl rfl
  exact (dss_cons (ds_if (PW.pt (dw_or (dt_not (dt_val (de_isi (by rfl) T.n_isinstance T.isa rfl rfl (dv 1) (pe_bltn (v := .ty "tuple") (by rfl) T.n_tuple (by decide +kernel) rfl)))) (dw_or1 (dt_cmp (op_ne.or (op_neD hr.room.units)) d_neA (de_callB call_len_seq d_len (by rfl) T.n_len (by decide +kernel) (da_cons (dv 1) da_nil)) (de_fld 0 0 rfl T.cl_Web T.no_Web_size nd_Web rfl (dv 0)) (nomark _))))) (dss_one (ds_ret de_bl)) dss_nil)
  (dss_one (ds_ret (de_callB (cr_all rfl) d_all (by rfl) T.n_all (by decide +kernel) (da_cons (de_lc (own := [("most", 2), ("table", 3)]) false rfl rfl sc_is_tables.nd (di_zipX (by rfl) T.n_zip rfl (da_cons (de_prop 0 rfl (dv 0) T.cl_Web T.pr_degrees F_Web_degrees ar_Web_degrees (hr.mono (by decide)) B_Web_degrees) (da_cons (dv 1) da_nil))) (blkOk_by (own := [("most", 2), ("table", 3)]) rfl) (by decide) (fun _ _ _ _ _ => (tg_tp [2, 3] rfl rfl (pgs_cons (pg_name (i := 2) sc_is_tables.nd rfl (by first | exact Or.inl rfl | exact Or.inr rfl)) (pgs_cons (pg_name (i := 3) sc_is_tables.nd rfl (by first | exact Or.inl rfl | exact Or.inr rfl)) pgs_nil)))) (fun _ _ _ _ _ => dts_nil) (fun _ _ _ _ _ => (de_call takes0 F_is_table ar_is_table (hr.mono (by decide)) (by rfl) T.g_is_table kp_is_table B_is_table .nil (fun _ _ _ => .nil) (da_cons (dv 2) (da_cons (dv 3) da_nil))))) da_nil)))))
theorem sc_displeasure : FnScope ["tables", "row", "table", "x"] ["tables", "row"] (defScope s_displeasure) := ⟨rfl, rfl, rfl, by decide +kernel, rfl, by decide +kernel, by decide +kernel⟩
def b_displeasure : MS := (sRet (mAp oSum (mCons (mLc false (mZipX (mCons (mVar 0) (mCons (mVar 1) mNil))) (Tgt.tp [2, 3]).M tYesM (mOp oIx (mVar 2) (mVar 3)) [2, 3]) mNil)))
def m_displeasure : MF := mDef 2 4 b_displeasure
theorem e_displeasure (x0 x1 : D) (C : Store) : m_displeasure [x0, x1] C = finS C.length (b_displeasure ⟨C.length, [some x0, some x1, none, none]⟩ C) := mDef_e rfl rfl
theorem ar_displeasure : Ar 2 m_displeasure := mDef_ar
theorem ok_displeasure (T : Txt K mg) : ∃ fd, FnG P w K mg base 1 (a_displeasure K) fd ["tables", "row"] (SpD (cn K) 2 m_displeasure) ∧ Binds K fd ["tables", "row"] [] ∧ PySem.W.keepIn K (.ref (a_displeasure K)) = true := by
  obtain ⟨fd, F⟩ := T.f_displeasure
  refine ⟨fd, fn_ok (k := cn K) F sc_displeasure (by decide) fun cdv A outer s H E hr => ?_, F.bindsN fun _ _ _ _ _ _ us hl => match us, hl with | [_, _], _ => rfl, F.kp⟩
  have tk : Takes (cxOf (L2.CX P w) P w K mg base ["tables", "row", "table", "x"] "displeasure" (defScope s_displeasure) (a_displeasure K) cdv A outer s H E) (fun c d _ H => E c d H) := takes_of rfl rfl rfl rfl
  exact (dss_one (ds_ret (de_callB (cr_sum rfl) d_sum (by rfl) T.n_sum (by decide +kernel) (da_cons (de_lc (own := [("table", 2), ("x", 3)]) false rfl rfl sc_displeasure.nd (di_zipX (by rfl) T.n_zip rfl (da_cons (dv 0) (da_cons (dv 1) da_nil))) (blkOk_by (own := [("table", 2), ("x", 3)]) rfl) (by decide) (fun _ _ _ _ _ => (tg_tp [2, 3] rfl rfl (pgs_cons (pg_name (i := 2) sc_displeasure.nd rfl (by first | exact Or.inl rfl | exact Or.inr rfl)) (pgs_cons (pg_name (i := 3) sc_displeasure.nd rfl (by first | exact Or.inl rfl | exact Or.inr rfl)) pgs_nil)))) (fun _ _ _ _ _ => dts_nil) (fun _ _ _ _ _ => (de_ix ix_seq d_ix (dv 2) (dv 3)))) da_nil))))
theorem sc_distances : FnScope ["web", "wish", "most", "x", "k"] ["web", "wish"] (defScope s_distances) := ⟨rfl, rfl, rfl, by decide +kernel, rfl, by decide +kernel, by decide +kernel⟩
def b_distances_0 : MS := (sDrop (mCall m_check_light [] (mCons (mVar 0) mNil)))
def b_distances_1 : MS := (sRet (mAp oTupOf (mCons (mLc false (mZipX (mCons (mProp 0 m_Web_degrees (mVar 0)) (mCons (mVar 1) mNil))) (Tgt.tp [2, 3]).M tYesM (mAp oTupOf (mCons (mLc false (mRng1 (mOp oAdd (mVar 2) (mC (.int 1)))) (Tgt.nm 4).M tYesM (mAp oAbs (mCons (mOp oSub (mVar 4) (mVar 3)) mNil)) [4]) mNil)) [2, 3]) mNil)))
def b_distances : MS := (sSeq b_distances_0 b_distances_1)
def m_distances : MF := mDef 2 5 b_distances
theorem e_distances (x0 x1 : D) (C : Store) : m_distances [x0, x1] C = finS C.length (b_distances ⟨C.length, [some x0, some x1, none, none, none]⟩ C) := mDef_e rfl rfl
theorem ar_distances : Ar 2 m_distances := mDef_ar
theorem ok_distances (T : Txt K mg) : ∃ fd, FnG P w K mg base 5 (a_distances K) fd ["web", "wish"] (SpD (cn K) 2 m_distances) ∧ Binds K fd ["web", "wish"] [] ∧ PySem.W.keepIn K (.ref (a_distances K)) = true := by
  obtain ⟨fd_check_light, F_check_light, B_check_light, kp_check_light⟩ := ok_check_light (P := P) (w := w) (base := base) T
  obtain ⟨fd_Web_degrees, F_Web_degrees, B_Web_degrees, kp_Web_degrees⟩ := ok_Web_degrees (P := P) (w := w) (base := base) T
  obtain ⟨fd, F⟩ := T.f_distances
  refine ⟨fd, fn_ok (k := cn K) F sc_distances (by decide) fun cdv A outer s H E hr => ?_, F.bindsN fun _ _ _ _ _ _ us hl => match us, hl with | [_, _], _ => rfl, F.kp⟩
  have tk : Takes (cxOf (L2.CX P w) P w K mg base ["web", "wish", "most", "x", "k"] "distances" (defScope s_distances) (a_distances K) cdv A outer s H E) (fun c d _ H => E c d H) := takes_of rfl rfl rfl rfl
  exact (dss_cons (ds_expr (de_call tk F_check_light ar_check_light (hr.mono (by decide)) (by rfl) T.g_check_light kp_check_light B_check_light .nil (fun _ _ _ => .nil) (da_cons (dv 0) da_nil)))
  (dss_one (ds_ret (de_callTy call_tuple_of d_tupOf (by rfl) T.n_tuple (by decide +kernel) (da_cons (de_lc (own := [("most", 2), ("x", 3)]) false rfl rfl sc_distances.nd (di_zipX (by rfl) T.n_zip rfl (da_cons (de_prop 0 rfl (dv 0) T.cl_Web T.pr_degrees F_Web_degrees ar_Web_degrees (hr.mono (by decide)) B_Web_degrees) (da_cons (dv 1) da_nil))) (blkOk_by (own := [("most", 2), ("x", 3)]) rfl) (by decide) (fun _ _ _ _ _ => (tg_tp [2, 3] rfl rfl (pgs_cons (pg_name (i := 2) sc_distances.nd rfl (by first | exact Or.inl rfl | exact Or.inr rfl)) (pgs_cons (pg_name (i := 3) sc_distances.nd rfl (by first | exact Or.inl rfl | exact Or.inr rfl)) pgs_nil)))) (fun _ _ _ _ _ => dts_nil) (fun _ _ _ _ _ => (de_callTy call_tuple_of d_tupOf (by rfl) T.n_tuple (by decide +kernel) (da_cons (de_lc (own := [("k", 4)]) false rfl rfl sc_distances.nd (di_rng1 (by rfl) T.n_range (de_op op_add d_add (dv 2) de_int)) (blkOk_by (own := [("k", 4)]) rfl) (by decide) (fun _ _ _ _ _ => (tg_nm (i := 4) sc_distances.nd rfl (by first | exact Or.inl rfl | exact Or.inr rfl))) (fun _ _ _ _ _ => dts_nil) (fun _ _ _ _ _ => (de_callB call_abs d_abs (by rfl) T.n_abs (by decide +kernel) (da_cons (de_op op_sub d_sub (dv 4) (dv 3)) da_nil)))) da_nil)))) da_nil)))))
theorem sc_squares : FnScope ["web", "wish", "most", "x", "k"] ["web", "wish"] (defScope s_squares) := ⟨rfl, rfl, rfl, by decide +kernel, rfl, by decide +kernel, by decide +kernel⟩
def b_squares_0 : MS := (sDrop (mCall m_check_light [] (mCons (mVar 0) mNil)))
def b_squares_1 : MS := (sRet (mAp oTupOf (mCons (mLc false (mZipX (mCons (mProp 0 m_Web_degrees (mVar 0)) (mCons (mVar 1) mNil))) (Tgt.tp [2, 3]).M tYesM (mAp oTupOf (mCons (mLc false (mRng1 (mOp oAdd (mVar 2) (mC (.int 1)))) (Tgt.nm 4).M tYesM (mOp oMul (mOp oSub (mVar 4) (mVar 3)) (mOp oSub (mVar 4) (mVar 3))) [4]) mNil)) [2, 3]) mNil)))
def b_squares : MS := (sSeq b_squares_0 b_squares_1)
def m_squares : MF := mDef 2 5 b_squares
theorem e_squares (x0 x1 : D) (C : Store) : m_squares [x0, x1] C = finS C.length (b_squares ⟨C.length, [some x0, some x1, none, none, none]⟩ C) := mDef_e rfl rfl
theorem ar_squares : Ar 2 m_squares := mDef_ar
theorem ok_squares (T : Txt K mg) : ∃ fd, FnG P w K mg base 5 (a_squares K) fd ["web", "wish"] (SpD (cn K) 2 m_squares) ∧ Binds K fd ["web", "wish"] [] ∧ PySem.W.keepIn K (.ref (a_squares K)) = true := by
  obtain ⟨fd_check_light, F_check_light, B_check_light, kp_check_light⟩ := ok_check_light (P := P) (w := w) (base := base) T
  obtain ⟨fd_Web_degrees, F_Web_degrees, B_Web_degrees, kp_Web_degrees⟩ := ok_Web_degrees (P := P) (w := w) (base := base) T
  obtain ⟨fd, F⟩ := T.f_squares
  refine ⟨fd, fn_ok (k := cn K) F sc_squares (by decide) fun cdv A outer s H E hr => ?_, F.bindsN fun _ _ _ _ _ _ us hl => match us, hl with | [_, _], _ => rfl, F.kp⟩
  have tk : Takes (cxOf (L2.CX P w) P w K mg base ["web", "wish", "most", "x", "k"] "squares" (defScope s_squares) (a_squares K) cdv A outer s H E) (fun c d _ H => E c d H) := takes_of rfl rfl rfl rfl
  exact (dss_cons (ds_expr (de_call tk F_check_light ar_check_light (hr.mono (by decide)) (by rfl) T.g_check_light kp_check_light B_check_light .nil (fun _ _ _ => .nil) (da_cons (dv 0) da_nil)))
  (dss_one (ds_ret (de_callTy call_tuple_of d_tupOf (by rfl) T.n_tuple (by decide +kernel) (da_cons (de_lc (own := [("most", 2), ("x", 3)]) false rfl rfl sc_squares.nd (di_zipX (by rfl) T.n_zip rfl (da_cons (de_prop 0 rfl (dv 0) T.cl_Web T.pr_degrees F_Web_degrees ar_Web_degrees (hr.mono (by decide)) B_Web_degrees) (da_cons (dv 1) da_nil))) (blkOk_by (own := [("most", 2), ("x", 3)]) rfl) (by decide) (fun _ _ _ _ _ => (tg_tp [2, 3] rfl rfl (pgs_cons (pg_name (i := 2) sc_squares.nd rfl (by first | exact Or.inl rfl | exact Or.inr rfl)) (pgs_cons (pg_name (i := 3) sc_squares.nd rfl (by first | exact Or.inl rfl | exact Or.inr rfl)) pgs_nil)))) (fun _ _ _ _ _ => dts_nil) (fun _ _ _ _ _ => (de_callTy call_tuple_of d_tupOf (by rfl) T.n_tuple (by decide +kernel) (da_cons (de_lc (own := [("k", 4)]) false rfl rfl sc_squares.nd (di_rng1 (by rfl) T.n_range (de_op op_add d_add (dv 2) de_int)) (blkOk_by (own := [("k", 4)]) rfl) (by decide) (fun _ _ _ _ _ => (tg_nm (i := 4) sc_squares.nd rfl (by first | exact Or.inl rfl | exact Or.inr rfl))) (fun _ _ _ _ _ => dts_nil) (fun _ _ _ _ _ => (de_op op_mul d_mul (de_op op_sub d_sub (dv 4) (dv 3)) (de_op op_sub d_sub (dv 4) (dv 3))))) da_nil)))) da_nil)))))
theorem sc_added : FnScope ["one", "other", "first", "second", "x", "y"] ["one", "other"] (defScope s_added) := ⟨rfl, rfl, rfl, by decide +kernel, rfl, by decide +kernel, by decide +kernel⟩
def b_added : MS := (sRet (mAp oTupOf (mCons (mLc false (mZipX (mCons (mVar 0) (mCons (mVar 1) mNil))) (Tgt.tp [2, 3]).M tYesM (mAp oTupOf (mCons (mLc false (mZipX (mCons (mVar 2) (mCons (mVar 3) mNil))) (Tgt.tp [4, 5]).M tYesM (mOp oAdd (mVar 4) (mVar 5)) [4, 5]) mNil)) [2, 3]) mNil)))
def m_added : MF := mDef 2 6 b_added
theorem e_added (x0 x1 : D) (C : Store) : m_added [x0, x1] C = finS C.length (b_added ⟨C.length, [some x0, some x1, none, none, none, none]⟩ C) := mDef_e rfl rfl
theorem ar_added : Ar 2 m_added := mDef_ar
theorem ok_added (T : Txt K mg) : ∃ fd, FnG P w K mg base 1 (a_added K) fd ["one", "other"] (SpD (cn K) 2 m_added) ∧ Binds K fd ["one", "other"] [] ∧ PySem.W.keepIn K (.ref (a_added K)) = true := by
  obtain ⟨fd, F⟩ := T.f_added
  refine ⟨fd, fn_ok (k := cn K) F sc_added (by decide) fun cdv A outer s H E hr => ?_, F.bindsN fun _ _ _ _ _ _ us hl => match us, hl with | [_, _], _ => rfl, F.kp⟩
  have tk : Takes (cxOf (L2.CX P w) P w K mg base ["one", "other", "first", "second", "x", "y"] "added" (defScope s_added) (a_added K) cdv A outer s H E) (fun c d _ H => E c d H) := takes_of rfl rfl rfl rfl
  exact (dss_one (ds_ret (de_callTy call_tuple_of d_tupOf (by rfl) T.n_tuple (by decide +kernel) (da_cons (de_lc (own := [("first", 2), ("second", 3)]) false rfl rfl sc_added.nd (di_zipX (by rfl) T.n_zip rfl (da_cons (dv 0) (da_cons (dv 1) da_nil))) (blkOk_by (own := [("first", 2), ("second", 3)]) rfl) (by decide) (fun _ _ _ _ _ => (tg_tp [2, 3] rfl rfl (pgs_cons (pg_name (i := 2) sc_added.nd rfl (by first | exact Or.inl rfl | exact Or.inr rfl)) (pgs_cons (pg_name (i := 3) sc_added.nd rfl (by first | exact Or.inl rfl | exact Or.inr rfl)) pgs_nil)))) (fun _ _ _ _ _ => dts_nil) (fun _ _ _ _ _ => (de_callTy call_tuple_of d_tupOf (by rfl) T.n_tuple (by decide +kernel) (da_cons (de_lc (own := [("x", 4), ("y", 5)]) false rfl rfl sc_added.nd (di_zipX (by rfl) T.n_zip rfl (da_cons (dv 2) (da_cons (dv 3) da_nil))) (blkOk_by (own := [("x", 4), ("y", 5)]) rfl) (by decide) (fun _ _ _ _ _ => (tg_tp [4, 5] rfl rfl (pgs_cons (pg_name (i := 4) sc_added.nd rfl (by first | exact Or.inl rfl | exact Or.inr rfl)) (pgs_cons (pg_name (i := 5) sc_added.nd rfl (by first | exact Or.inl rfl | exact Or.inr rfl)) pgs_nil)))) (fun _ _ _ _ _ => dts_nil) (fun _ _ _ _ _ => (de_op op_add d_add (dv 4) (dv 5)))) da_nil)))) da_nil))))
theorem sc_law_bag : FnScope ["_law_script", "_law_cell"] ["_law_script"] (defScope s_law_bag) := ⟨rfl, rfl, rfl, by decide +kernel, rfl, by decide +kernel, by decide +kernel⟩
def b_law_bag : MS := (sRet (mAp (oLst true) (mCons (mC (.int 0)) (mCons (mC (.int 1234567891)) (mCons (mC (.int 0)) (mCons (mLc false (mSeq (mSlL false (mVar 0) mNoPart (mPart (mC (.int 63))))) (Tgt.nm 1).M tYesM (mAp oAbs (mCons (mVar 1) mNil)) [1]) mNil))))))
def m_law_bag : MF := mDefO 1 2 b_law_bag
theorem ar_law_bag : Ar 1 m_law_bag := mDefO_ar
theorem ok_law_bag (T : Txt K mg) : ∃ fd, FnG P w K mg base 1 (a_law_bag K) fd ["_law_script"] (SpD (cn K) 1 m_law_bag) ∧ Binds K fd ["_law_script"] [] ∧ PySem.W.keepIn K (.ref (a_law_bag K)) = true := by
  obtain ⟨fd, F⟩ := T.f_law_bag
  refine ⟨fd, fn_okO (k := cn K) F sc_law_bag (by decide) fun cdv A outer s H E hr => ?_, F.bindsN fun _ _ _ _ _ _ us hl => match us, hl with | [_], _ => rfl, F.kp⟩
  have tk : Takes (cxOf (L2.CX P w) P w K mg base ["_law_script", "_law_cell"] "_law_bag" (defScope s_law_bag) (a_law_bag K) cdv A outer s H E) (fun c d _ H => E c d H) := takes_of rfl rfl rfl rfl
  exact (dss_one (ds_ret (de_lst true (da_cons de_int (da_cons de_int (da_cons de_int (da_cons (de_lc (own := [("_law_cell", 1)]) false rfl rfl sc_law_bag.nd (di_seq rfl (de_slL false rfl (dv 0) do_none (do_some de_int))) (blkOk_by (own := [("_law_cell", 1)]) rfl) (by decide) (fun _ _ _ _ _ => (tg_nm (i := 1) sc_law_bag.nd rfl (by first | exact Or.inl rfl | exact Or.inr rfl))) (fun _ _ _ _ _ => dts_nil) (fun _ _ _ _ _ => (de_callB call_abs d_abs (by rfl) T.n_abs (by decide +kernel) (da_cons (dv 1) da_nil)))) da_nil)))))))
theorem sc_law_take : FnScope ["_law_bag_here", "_law_many", "_law_cell", "_law_mixed_here", "_law_drawn", "_law_early", "_law_second"] ["_law_bag_here", "_law_many"] (defScope s_law_take) := ⟨rfl, rfl, rfl, by decide +kernel, rfl, by decide +kernel, by decide +kernel⟩
def b_law_take_0t_0 : MS := (sAsg (mC (.int 0)) (gN 2))
def b_law_take_0t_1 : MS := (sIf (mTst (mOp oLt (mOp oIx (mVar 0) (mC (.int 2))) (mAp oLen (mCons (mOp oIx (mVar 0) (mC (.int 3))) mNil)))) (sAsg (mOp oIx (mOp oIx (mVar 0) (mC (.int 3))) (mOp oIx (mVar 0) (mC (.int 2)))) (gN 2)) sNext)
def b_law_take_0t_2 : MS := (sAugL (· + ·) (mVar 0) (mC (.int 2)) (mC (.int 1)))
def b_law_take_0t_3 : MS := (sIf (mTst (mOp oGe (mVar 2) (mC (.int 1000000000000000000)))) (sSetL (mVar 2) (mVar 0) (mC (.int 0))) sNext)
def b_law_take_0t_4 : MS := (sAsg (mOp oAdd (mOp oAdd (mOp oMul (mOp oIx (mVar 0) (mC (.int 1))) (mC (.int 48271))) (mOp oMod (mAp oInt (mCons (mVar 2) mNil)) (mC (.int 2147483647)))) (mOp oMul (mC (.int 7919)) (mOp oIx (mVar 0) (mC (.int 2))))) (gN 3))
def b_law_take_0t_5 : MS := (sSetL (mOp oMod (mAp oInt (mCons (mVar 3) mNil)) (mC (.int 2147483647))) (mVar 0) (mC (.int 1)))
def b_law_take_0 : MS := (sIf (mTst (mOp (oEqA false) (mOp oIx (mVar 0) (mC (.int 0))) (mC (.int 0)))) (sSeq b_law_take_0t_0 (sSeq b_law_take_0t_1 (sSeq b_law_take_0t_2 (sSeq b_law_take_0t_3 (sSeq b_law_take_0t_4 b_law_take_0t_5))))) sNext)
def b_law_take_1t_0 : MS := (sAsg (mOp oMod (mAp oInt (mCons (mOp oIx (mVar 0) (mC (.int 0))) mNil)) (mVar 1)) (gN 4))
def b_law_take_1t_1 : MS := (sSetL (mOp oDiv (mAp oInt (mCons (mOp oIx (mVar 0) (mC (.int 0))) mNil)) (mVar 1)) (mVar 0) (mC (.int 0)))
def b_law_take_1t_2 : MS := (sRet (mVar 4))
def b_law_take_1 : MS := (sIf (mTst (mOp oGt (mOp oIx (mVar 0) (mC (.int 0))) (mC (.int 0)))) (sSeq b_law_take_1t_0 (sSeq b_law_take_1t_1 b_law_take_1t_2)) sNext)
def b_law_take_2 : MS := (sAsg (mOp oMod (mAp oInt (mCons (mOp oMul (mOp oAdd (mOp oIx (mVar 0) (mC (.int 1))) (mC (.int 1))) (mC (.int 39373))) mNil)) (mC (.int 1000000007))) (gN 5))
def b_law_take_3 : MS := (sAsg (mOp oMod (mAp oInt (mCons (mOp oMul (mOp oMod (mAp oInt (mCons (mOp oMul (mVar 5) (mVar 5)) mNil)) (mC (.int 998244353))) (mC (.int 30011))) mNil)) (mC (.int 998244353))) (gN 6))
def b_law_take_4 : MS := (sRet (mOp oMod (mAp oInt (mCons (mOp oDiv (mVar 6) (mC (.int 7))) mNil)) (mVar 1)))
def b_law_take : MS := (sSeq b_law_take_0 (sSeq b_law_take_1 (sSeq b_law_take_2 (sSeq b_law_take_3 b_law_take_4))))
def m_law_take : MF := mDef 2 7 b_law_take
theorem e_law_take (x0 x1 : D) (C : Store) : m_law_take [x0, x1] C = finS C.length (b_law_take ⟨C.length, [some x0, some x1, none, none, none, none, none]⟩ C) := mDef_e rfl rfl
theorem ar_law_take : Ar 2 m_law_take := mDef_ar
theorem ok_law_take (T : Txt K mg) : ∃ fd, FnG P w K mg base 1 (a_law_take K) fd ["_law_bag_here", "_law_many"] (SpD (cn K) 2 m_law_take) ∧ Binds K fd ["_law_bag_here", "_law_many"] [] ∧ PySem.W.keepIn K (.ref (a_law_take K)) = true := by
  obtain ⟨fd, F⟩ := T.f_law_take
  refine ⟨fd, fn_ok (k := cn K) F sc_law_take (by decide) fun cdv A outer s H E hr => ?_, F.bindsN fun _ _ _ _ _ _ us hl => match us, hl with | [_, _], _ => rfl, F.kp⟩
  have tk : Takes (cxOf (L2.CX P w) P w K mg base ["_law_bag_here", "_law_many", "_law_cell", "_law_mixed_here", "_law_drawn", "_law_early", "_law_second"] "_law_take" (defScope s_law_take) (a_law_take K) cdv A outer s H E) (fun c d _ H => E c d H) := takes_of rfl rfl rfl rfl
  exact (dss_cons (ds_if (dt_cmp (op_eq.or (op_eqD hr.room.units)) d_eqA (de_ix ix_seq d_ix (dv 0) de_int) de_int (nomark _)) (dss_cons (ds_set (i := 2) sc_law_take.nd rfl (Or.inl rfl) de_int)
  (dss_cons (ds_if (dt_cmp op_lt d_lt (de_ix ix_seq d_ix (dv 0) de_int) (de_callB call_len_seq d_len (by rfl) T.n_len (by decide +kernel) (da_cons (de_ix ix_seq d_ix (dv 0) de_int) da_nil)) (nomark _)) (dss_one (ds_set (i := 2) sc_law_take.nd rfl (Or.inl rfl) (de_ix ix_seq d_ix (de_ix ix_seq d_ix (dv 0) de_int) (de_ix ix_seq d_ix (dv 0) de_int)))) dss_nil)
  (dss_cons (ds_augL ip_add (dv 0) de_int de_int)
  (dss_cons (ds_if (dt_cmp op_ge d_ge (dv 2) de_int (nomark _)) (dss_one (ds_setL (dv 2) (pg_sub (dv 0) de_int set_list))) dss_nil)
  (dss_cons (ds_set (i := 3) sc_law_take.nd rfl (Or.inl rfl) (de_op op_add d_add (de_op op_add d_add (de_op op_mul d_mul (de_ix ix_seq d_ix (dv 0) de_int) de_int) (de_op op_mod d_mod (de_callTy call_int1 d_int (by rfl) T.n_int (by decide +kernel) (da_cons (dv 2) da_nil)) de_int)) (de_op op_mul d_mul de_int (de_ix ix_seq d_ix (dv 0) de_int))))
  (dss_one (ds_setL (de_op op_mod d_mod (de_callTy call_int1 d_int (by rfl) T.n_int (by decide +kernel) (da_cons (dv 3) da_nil)) de_int) (pg_sub (dv 0) de_int set_list)))))))) dss_nil)
  (dss_cons (ds_if (dt_cmp op_gt d_gt (de_ix ix_seq d_ix (dv 0) de_int) de_int (nomark _)) (dss_cons (ds_set (i := 4) sc_law_take.nd rfl (Or.inl rfl) (de_op op_mod d_mod (de_callTy call_int1 d_int (by rfl) T.n_int (by decide +kernel) (da_cons (de_ix ix_seq d_ix (dv 0) de_int) da_nil)) (dv 1)))
  (dss_cons (ds_setL (de_op op_fdivW d_div (de_callTy call_int1 d_int (by rfl) T.n_int (by decide +kernel) (da_cons (de_ix ix_seq d_ix (dv 0) de_int) da_nil)) (dv 1)) (pg_sub (dv 0) de_int set_list))
  (dss_one (ds_ret (dv 4))))) dss_nil)
  (dss_cons (ds_set (i := 5) sc_law_take.nd rfl (Or.inl rfl) (de_op op_mod d_mod (de_callTy call_int1 d_int (by rfl) T.n_int (by decide +kernel) (da_cons (de_op op_mul d_mul (de_op op_add d_add (de_ix ix_seq d_ix (dv 0) de_int) de_int) de_int) da_nil)) de_int))
  (dss_cons (ds_set (i := 6) sc_law_take.nd rfl (Or.inl rfl) (de_op op_mod d_mod (de_callTy call_int1 d_int (by rfl) T.n_int (by decide +kernel) (da_cons (de_op op_mul d_mul (de_op op_mod d_mod (de_callTy call_int1 d_int (by rfl) T.n_int (by decide +kernel) (da_cons (de_op op_mul d_mul (dv 5) (dv 5)) da_nil)) de_int) de_int) da_nil)) de_int))
  (dss_one (ds_ret (de_op op_mod d_mod (de_callTy call_int1 d_int (by rfl) T.n_int (by decide +kernel) (da_cons (de_op op_fdivW d_div (dv 6) de_int) da_nil)) (dv 1))))))))
theorem sc_law_one : FnScope ["_law_bag_here", "_law_menu"] ["_law_bag_here", "_law_menu"] (defScope s_law_one) := ⟨rfl, rfl, rfl, by decide +kernel, rfl, by decide +kernel, by decide +kernel⟩
def b_law_one : MS := (sRet (mOp oIx (mVar 1) (mCall m_law_take [] (mCons (mVar 0) (mCons (mAp oLen (mCons (mVar 1) mNil)) mNil)))))
def m_law_one : MF := mDef 2 2 b_law_one
theorem e_law_one (x0 x1 : D) (C : Store) : m_law_one [x0, x1] C = finS C.length (b_law_one ⟨C.length, [some x0, some x1]⟩ C) := mDef_e rfl rfl
theorem ar_law_one : Ar 2 m_law_one := mDef_ar
theorem ok_law_one (T : Txt K mg) : ∃ fd, FnG P w K mg base 2 (a_law_one K) fd ["_law_bag_here", "_law_menu"] (SpD (cn K) 2 m_law_one) ∧ Binds K fd ["_law_bag_here", "_law_menu"] [] ∧ PySem.W.keepIn K (.ref (a_law_one K)) = true := by
  obtain ⟨fd_law_take, F_law_take, B_law_take, kp_law_take⟩ := ok_law_take (P := P) (w := w) (base := base) T
  obtain ⟨fd, F⟩ := T.f_law_one
  refine ⟨fd, fn_ok (k := cn K) F sc_law_one (by decide) fun cdv A outer s H E hr => ?_, F.bindsN fun _ _ _ _ _ _ us hl => match us, hl with | [_, _], _ => rfl, F.kp⟩
  have tk : Takes (cxOf (L2.CX P w) P w K mg base ["_law_bag_here", "_law_menu"] "_law_one" (defScope s_law_one) (a_law_one K) cdv A outer s H E) (fun c d _ H => E c d H) := takes_of rfl rfl rfl rfl
  exact (dss_one (ds_ret (de_ix ix_seq d_ix (dv 1) (de_call tk F_law_take ar_law_take (hr.mono (by decide)) (by rfl) T.g_law_take kp_law_take B_law_take .nil (fun _ _ _ => .nil) (da_cons (dv 0) (da_cons (de_callB call_len_seq d_len (by rfl) T.n_len (by decide +kernel) (da_cons (dv 1) da_nil)) da_nil))))))
theorem sc_law_mixed : FnScope ["_law_bag_here", "_law_things", "_law_found", "_law_thing"] ["_law_bag_here", "_law_things"] (defScope s_law_mixed) := ⟨rfl, rfl, rfl, by decide +kernel, rfl, by decide +kernel, by decide +kernel⟩
def b_law_mixed_0 : MS := (sAsg (mAp (oLst true) mNil) (gN 2))
def b_law_mixed_1b_0 : MS := (sDrop (mInsert (mVar 2) (mCall m_law_take [] (mCons (mVar 0) (mCons (mOp oAdd (mAp oLen (mCons (mVar 2) mNil)) (mC (.int 1))) mNil))) (mVar 3)))
def b_law_mixed_1 : MS := (sFor (mSeq (mVar 1)) (Tgt.nm 3).M b_law_mixed_1b_0)
def b_law_mixed_2 : MS := (sRet (mVar 2))
def b_law_mixed : MS := (sSeq b_law_mixed_0 (sSeq b_law_mixed_1 b_law_mixed_2))
def m_law_mixed : MF := mDef 2 4 b_law_mixed
theorem e_law_mixed (x0 x1 : D) (C : Store) : m_law_mixed [x0, x1] C = finS C.length (b_law_mixed ⟨C.length, [some x0, some x1, none, none]⟩ C) := mDef_e rfl rfl
theorem ar_law_mixed : Ar 2 m_law_mixed := mDef_ar
theorem ok_law_mixed (T : Txt K mg) : ∃ fd, FnG P w K mg base 2 (a_law_mixed K) fd ["_law_bag_here", "_law_things"] (SpD (cn K) 2 m_law_mixed) ∧ Binds K fd ["_law_bag_here", "_law_things"] [] ∧ PySem.W.keepIn K (.ref (a_law_mixed K)) = true := by
  obtain ⟨fd_law_take, F_law_take, B_law_take, kp_law_take⟩ := ok_law_take (P := P) (w := w) (base := base) T
  obtain ⟨fd, F⟩ := T.f_law_mixed
  refine ⟨fd, fn_ok (k := cn K) F sc_law_mixed (by decide) fun cdv A outer s H E hr => ?_, F.bindsN fun _ _ _ _ _ _ us hl => match us, hl with | [_, _], _ => rfl, F.kp⟩
  have tk : Takes (cxOf (L2.CX P w) P w K mg base ["_law_bag_here", "_law_things", "_law_found", "_law_thing"] "_law_mixed" (defScope s_law_mixed) (a_law_mixed K) cdv A outer s H E) (fun c d _ H => E c d H) := takes_of rfl rfl rfl rfl
  exact (dss_cons (ds_set (i := 2) sc_law_mixed.nd rfl (Or.inl rfl) (de_lst true da_nil))
  (dss_cons (ds_for (passes_of rfl) rfl (di_seq rfl (dv 1)) (tg_nm (i := 3) sc_law_mixed.nd rfl (Or.inl rfl)) (dss_one (ds_expr (de_insert rfl (dv 2) (de_call tk F_law_take ar_law_take (hr.mono (by decide)) (by rfl) T.g_law_take kp_law_take B_law_take .nil (fun _ _ _ => .nil) (da_cons (dv 0) (da_cons (de_op op_add d_add (de_callB call_len_seq d_len (by rfl) T.n_len (by decide +kernel) (da_cons (dv 2) da_nil)) de_int) da_nil))) (dv 3)))))
  (dss_one (ds_ret (dv 2)))))
theorem sc_law_pairs : FnScope ["_law_size", "_law_found", "_law_u", "_law_v"] ["_law_size"] (defScope s_law_pairs) := ⟨rfl, rfl, rfl, by decide +kernel, rfl, by decide +kernel, by decide +kernel⟩
def b_law_pairs_0 : MS := (sAsg (mAp (oLst false) mNil) (gN 1))
def b_law_pairs_1b_0 : MS := (sAsg (mOp (oCat false) (mVar 1) (mLc false (mRng2 (mOp oAdd (mVar 2) (mC (.int 1))) (mVar 0)) (Tgt.nm 3).M tYesM (mAp oTup (mCons (mVar 2) (mCons (mVar 3) mNil))) [3])) (gN 1))
def b_law_pairs_1 : MS := (sFor (mRng1 (mVar 0)) (Tgt.nm 2).M b_law_pairs_1b_0)
def b_law_pairs_2 : MS := (sRet (mVar 1))
def b_law_pairs : MS := (sSeq b_law_pairs_0 (sSeq b_law_pairs_1 b_law_pairs_2))
def m_law_pairs : MF := mDef 1 4 b_law_pairs
theorem e_law_pairs (x0 : D) (C : Store) : m_law_pairs [x0] C = finS C.length (b_law_pairs ⟨C.length, [some x0, none, none, none]⟩ C) := mDef_e rfl rfl
theorem ar_law_pairs : Ar 1 m_law_pairs := mDef_ar
theorem ok_law_pairs (T : Txt K mg) : ∃ fd, FnG P w K mg base 1 (a_law_pairs K) fd ["_law_size"] (SpD (cn K) 1 m_law_pairs) ∧ Binds K fd ["_law_size"] [] ∧ PySem.W.keepIn K (.ref (a_law_pairs K)) = true := by
  obtain ⟨fd, F⟩ := T.f_law_pairs
  refine ⟨fd, fn_ok (k := cn K) F sc_law_pairs (by decide) fun cdv A outer s H E hr => ?_, F.bindsN fun _ _ _ _ _ _ us hl => match us, hl with | [_], _ => rfl, F.kp⟩
  have tk : Takes (cxOf (L2.CX P w) P w K mg base ["_law_size", "_law_found", "_law_u", "_law_v"] "_law_pairs" (defScope s_law_pairs) (a_law_pairs K) cdv A outer s H E) (fun c d _ H => E c d H) := takes_of rfl rfl rfl rfl
  exact (dss_cons (ds_set (i := 1) sc_law_pairs.nd rfl (Or.inl rfl) (de_lst false da_nil))
  (dss_cons (ds_for (passes_of rfl) rfl (di_rng1 (by rfl) T.n_range (dv 0)) (tg_nm (i := 2) sc_law_pairs.nd rfl (Or.inr rfl)) (dss_one (ds_set (i := 1) sc_law_pairs.nd rfl (Or.inl rfl) (de_op op_cat (d_cat false) (dv 1) (de_lc (own := [("_law_v", 3)]) false rfl rfl sc_law_pairs.nd (di_rng2 (by rfl) T.n_range (de_op op_add d_add (dv 2) de_int) (dv 0)) (blkOk_by (own := [("_law_v", 3)]) rfl) (by decide) (fun _ _ _ _ _ => (tg_nm (i := 3) sc_law_pairs.nd rfl (by first | exact Or.inl rfl | exact Or.inr rfl))) (fun _ _ _ _ _ => dts_nil) (fun _ _ _ _ _ => (de_tup (da_cons (dv 2) (da_cons (dv 3) da_nil)))))))))
  (dss_one (ds_ret (dv 1)))))
theorem sc_law_light : FnScope ["_law_bag_here", "_law_size", "_law_cap", "_law_found", "_law_left", "_law_u", "_law_v", "_law_menu", "_law_number"] ["_law_bag_here", "_law_size", "_law_cap"] (defScope s_law_light) := ⟨rfl, rfl, rfl, by decide +kernel, rfl, by decide +kernel, by decide +kernel⟩
def b_law_light_0 : MS := (sPar [3, 4] (mCons (mAp (oLst true) mNil) (mCons (mVar 2) mNil)))
def b_law_light_1b_0 : MS := (sAsg (mAp (oLst false) (mCons (mC (.int 0)) (mCons (mC (.int 1)) (mCons (mC (.int 1)) (mCons (mC (.int 2)) (mCons (mC (.int 3)) (mCons (mCall m_law_take [] (mCons (mVar 0) (mCons (mVar 4) mNil))) mNil))))))) (gN 7))
def b_law_light_1b_1 : MS := (sAsg (mAp oMin2 (mCons (mOp oSub (mVar 4) (mC (.int 1))) (mCons (mCall m_law_one [] (mCons (mVar 0) (mCons (mVar 7) mNil))) mNil))) (gN 8))
def b_law_light_1b_2t_0 : MS := (sDrop (mAppend (mVar 3) (mIf (mTst (mOp oGt (mCall m_law_take [] (mCons (mVar 0) (mCons (mC (.int 4)) mNil))) (mC (.int 0)))) (mAp oTup (mCons (mVar 5) (mCons (mVar 6) (mCons (mVar 8) mNil)))) (mAp oTup (mCons (mVar 6) (mCons (mVar 5) (mCons (mVar 8) mNil)))))))
def b_law_light_1b_2t_1 : MS := (sAsg (mOp oDiv (mVar 4) (mOp oAdd (mVar 8) (mC (.int 1)))) (gN 4))
def b_law_light_1b_2 : MS := (sIf (mTst (mOp oGt (mVar 8) (mC (.int 0)))) (sSeq b_law_light_1b_2t_0 b_law_light_1b_2t_1) sNext)
def b_law_light_1 : MS := (sFor (mSeq (mCall m_law_mixed [] (mCons (mVar 0) (mCons (mCall m_law_pairs [] (mCons (mVar 1) mNil)) mNil)))) (Tgt.tp [5, 6]).M (sSeq b_law_light_1b_0 (sSeq b_law_light_1b_1 b_law_light_1b_2)))
def b_law_light_2 : MS := (sRet (mVar 3))
def b_law_light : MS := (sSeq b_law_light_0 (sSeq b_law_light_1 b_law_light_2))
def m_law_light : MF := mDef 3 9 b_law_light
theorem e_law_light (x0 x1 x2 : D) (C : Store) : m_law_light [x0, x1, x2] C = finS C.length (b_law_light ⟨C.length, [some x0, some x1, some x2, none, none, none, none, none, none]⟩ C) := mDef_e rfl rfl
theorem ar_law_light : Ar 3 m_law_light := mDef_ar
theorem ok_law_light (T : Txt K mg) : ∃ fd, FnG P w K mg base 3 (a_law_light K) fd ["_law_bag_here", "_law_size", "_law_cap"] (SpD (cn K) 3 m_law_light) ∧ Binds K fd ["_law_bag_here", "_law_size", "_law_cap"] [] ∧ PySem.W.keepIn K (.ref (a_law_light K)) = true := by
  obtain ⟨fd_law_mixed, F_law_mixed, B_law_mixed, kp_law_mixed⟩ := ok_law_mixed (P := P) (w := w) (base := base) T
  obtain ⟨fd_law_pairs, F_law_pairs, B_law_pairs, kp_law_pairs⟩ := ok_law_pairs (P := P) (w := w) (base := base) T
  obtain ⟨fd_law_take, F_law_take, B_law_take, kp_law_take⟩ := ok_law_take (P := P) (w := w) (base := base) T
  obtain ⟨fd_law_one, F_law_one, B_law_one, kp_law_one⟩ := ok_law_one (P := P) (w := w) (base := base) T
  obtain ⟨fd, F⟩ := T.f_law_light
  refine ⟨fd, fn_ok (k := cn K) F sc_law_light (by decide) fun cdv A outer s H E hr => ?_, F.bindsN fun _ _ _ _ _ _ us hl => match us, hl with | [_, _, _], _ => rfl, F.kp⟩
  have tk : Takes (cxOf (L2.CX P w) P w K mg base ["_law_bag_here", "_law_size", "_law_cap", "_law_found", "_law_left", "_law_u", "_law_v", "_law_menu", "_law_number"] "_law_light" (defScope s_law_light) (a_law_light K) cdv A outer s H E) (fun c d _ H => E c d H) := takes_of rfl rfl rfl rfl
  exact (dss_cons (ds_par (i := 3) (j := 4) rfl sc_law_light.nd rfl rfl (by decide) rfl rfl (da_cons (de_lst true da_nil) (da_cons (dv 2) da_nil)))
  (dss_cons (ds_for (passes_of rfl) rfl (di_seq rfl (de_call tk F_law_mixed ar_law_mixed (hr.mono (by decide)) (by rfl) T.g_law_mixed kp_law_mixed B_law_mixed .nil (fun _ _ _ => .nil) (da_cons (dv 0) (da_cons (de_call tk F_law_pairs ar_law_pairs (hr.mono (by decide)) (by rfl) T.g_law_pairs kp_law_pairs B_law_pairs .nil (fun _ _ _ => .nil) (da_cons (dv 1) da_nil)) da_nil)))) (tg_tp [5, 6] rfl rfl (pgs_cons (pg_name (i := 5) sc_law_light.nd rfl (Or.inl rfl)) (pgs_cons (pg_name (i := 6) sc_law_light.nd rfl (Or.inl rfl)) pgs_nil))) (dss_cons (ds_set (i := 7) sc_law_light.nd rfl (Or.inl rfl) (de_lst false (da_cons de_int (da_cons de_int (da_cons de_int (da_cons de_int (da_cons de_int (da_cons (de_call tk F_law_take ar_law_take (hr.mono (by decide)) (by rfl) T.g_law_take kp_law_take B_law_take .nil (fun _ _ _ => .nil) (da_cons (dv 0) (da_cons (dv 4) da_nil))) da_nil))))))))
  (dss_cons (ds_set (i := 8) sc_law_light.nd rfl (Or.inl rfl) (de_callB (call_min2 rfl) d_min2 (by rfl) T.n_min (by decide +kernel) (da_cons (de_op op_sub d_sub (dv 4) de_int) (da_cons (de_call tk F_law_one ar_law_one (hr.mono (by decide)) (by rfl) T.g_law_one kp_law_one B_law_one .nil (fun _ _ _ => .nil) (da_cons (dv 0) (da_cons (dv 7) da_nil))) da_nil))))
  (dss_one (ds_if (dt_cmp op_gt d_gt (dv 8) de_int (nomark _)) (dss_cons (ds_expr (de_append rfl (dv 3) (de_if (dt_cmp op_gt d_gt (de_call tk F_law_take ar_law_take (hr.mono (by decide)) (by rfl) T.g_law_take kp_law_take B_law_take .nil (fun _ _ _ => .nil) (da_cons (dv 0) (da_cons de_int da_nil))) de_int (nomark _)) (de_tup (da_cons (dv 5) (da_cons (dv 6) (da_cons (dv 8) da_nil)))) (de_tup (da_cons (dv 6) (da_cons (dv 5) (da_cons (dv 8) da_nil)))))))
  (dss_one (ds_set (i := 4) sc_law_light.nd rfl (Or.inl rfl) (de_op op_fdivW d_div (dv 4) (de_op op_add d_add (dv 8) de_int))))) dss_nil)))))
  (dss_one (ds_ret (dv 3)))))
theorem sc_law_grid : FnScope ["_law_size", "_law_ties", "_law_grid_here", "_law_u", "_law_v", "_law_number"] ["_law_size", "_law_ties"] (defScope s_law_grid) := ⟨rfl, rfl, rfl, by decide +kernel, rfl, by decide +kernel, by decide +kernel⟩
def b_law_grid_0 : MS := (sAsg (mLc true (mRng1 (mVar 0)) (Tgt.nm 4).M tYesM (mOp (oRep true) (mAp (oLst false) (mCons (mC (.int 0)) mNil)) (mVar 0)) [4]) (gN 2))
def b_law_grid_1b_0 : MS := (sAugL (· + ·) (mOp oIx (mVar 2) (mVar 3)) (mVar 4) (mVar 5))
def b_law_grid_1b_1 : MS := (sAugL (· + ·) (mOp oIx (mVar 2) (mVar 4)) (mVar 3) (mVar 5))
def b_law_grid_1 : MS := (sFor (mSeq (mVar 1)) (Tgt.tp [3, 4, 5]).M (sSeq b_law_grid_1b_0 b_law_grid_1b_1))
def b_law_grid_2 : MS := (sRet (mVar 2))
def b_law_grid : MS := (sSeq b_law_grid_0 (sSeq b_law_grid_1 b_law_grid_2))
def m_law_grid : MF := mDefN 2 6 b_law_grid
theorem e_law_grid (x0 x1 : D) (C : Store) : m_law_grid [x0, x1] C = finNS C.length (b_law_grid ⟨C.length, [some x0, some x1, none, none, none, none]⟩ C) := mDefN_e rfl rfl
theorem ar_law_grid : Ar 2 m_law_grid := mDefN_ar
theorem ok_law_grid (T : Txt K mg) : ∃ fd, FnG P w K mg base 1 (a_law_grid K) fd ["_law_size", "_law_ties"] (SpD (cn K) 2 m_law_grid) ∧ Binds K fd ["_law_size", "_law_ties"] [] ∧ PySem.W.keepIn K (.ref (a_law_grid K)) = true := by
  obtain ⟨fd, F⟩ := T.f_law_grid
  refine ⟨fd, fn_okN (k := cn K) F sc_law_grid (by decide) fun cdv A outer s H E hr => ?_, F.bindsN fun _ _ _ _ _ _ us hl => match us, hl with | [_, _], _ => rfl, F.kp⟩
  have tk : Takes (cxOf (L2.CX P w) P w K mg base ["_law_size", "_law_ties", "_law_grid_here", "_law_u", "_law_v", "_law_number"] "_law_grid" (defScope s_law_grid) (a_law_grid K) cdv A outer s H E) (fun c d _ H => E c d H) := takes_of rfl rfl rfl rfl
  exact (dss_cons (ds_setLc (i := 2) (own := [("_law_v", 4)]) true rfl rfl sc_law_grid.nd rfl rfl (sw_true rfl rfl rfl (by decide +kernel)) (di_rng1 (by rfl) T.n_range (dv 0)) (blkOk_by (own := [("_law_v", 4)]) rfl) (by decide) (fun _ _ _ _ _ => (tg_nm (i := 4) sc_law_grid.nd rfl (by first | exact Or.inl rfl | exact Or.inr rfl))) (fun _ _ _ _ _ => dts_nil) (fun _ _ _ _ _ => (de_op op_rep (d_rep true) (de_lst false (da_cons de_int da_nil)) (dv 0))))
  (dss_cons (ds_for (passes_of rfl) rfl (di_seq rfl (dv 1)) (tg_tp [3, 4, 5] rfl rfl (pgs_cons (pg_name (i := 3) sc_law_grid.nd rfl (Or.inl rfl)) (pgs_cons (pg_name (i := 4) sc_law_grid.nd rfl (Or.inl rfl)) (pgs_cons (pg_name (i := 5) sc_law_grid.nd rfl (Or.inl rfl)) pgs_nil)))) (dss_cons (ds_augL ip_add (de_ix ix_seq d_ix (dv 2) (dv 3)) (dv 4) (dv 5))
  (dss_one (ds_augL ip_add (de_ix ix_seq d_ix (dv 2) (dv 4)) (dv 3) (dv 5)))))
  (dss_one (ds_ret (dv 2)))))
theorem sc_law_alike : FnScope ["_law_found", "_law_due"] ["_law_found", "_law_due"] (defScope s_law_alike) := ⟨rfl, rfl, rfl, by decide +kernel, rfl, by decide +kernel, by decide +kernel⟩
def b_law_alike : MS := (sRet (mAnd (mOp (oEqA false) (mVar 0) (mVar 1)) (mOp (oEqA false) (mAp oRepr (mCons (mVar 0) mNil)) (mAp oRepr (mCons (mVar 1) mNil)))))
def m_law_alike : MF := mDef 2 2 b_law_alike
theorem e_law_alike (x0 x1 : D) (C : Store) : m_law_alike [x0, x1] C = finS C.length (b_law_alike ⟨C.length, [some x0, some x1]⟩ C) := mDef_e rfl rfl
theorem ar_law_alike : Ar 2 m_law_alike := mDef_ar
theorem ok_law_alike (T : Txt K mg) : ∃ fd, FnG P w K mg base 1 (a_law_alike K) fd ["_law_found", "_law_due"] (SpD (cn K) 2 m_law_alike) ∧ Binds K fd ["_law_found", "_law_due"] [] ∧ PySem.W.keepIn K (.ref (a_law_alike K)) = true := by
  obtain ⟨fd, F⟩ := T.f_law_alike
  refine ⟨fd, fn_ok (k := cn K) F sc_law_alike (by decide) fun cdv A outer s H E hr => ?_, F.bindsN fun _ _ _ _ _ _ us hl => match us, hl with | [_, _], _ => rfl, F.kp⟩
  have tk : Takes (cxOf (L2.CX P w) P w K mg base ["_law_found", "_law_due"] "_law_alike" (defScope s_law_alike) (a_law_alike K) cdv A outer s H E) (fun c d _ H => E c d H) := takes_of rfl rfl rfl rfl
  exact (dss_one (ds_ret (de_and (de_cmp (op_eq.or (op_eqD hr.room.units)) d_eqA (dv 0) (dv 1) (nomark _)) (de_one (de_cmp (op_eq.or (op_eqD hr.room.units)) d_eqA (de_callB (call_reprD (hr.mono (by decide))) d_repr (by rfl) T.n_repr (by decide +kernel) (da_cons (dv 0) da_nil)) (de_callB (call_reprD (hr.mono (by decide))) d_repr (by rfl) T.n_repr (by decide +kernel) (da_cons (dv 1) da_nil)) (nomark _))))))
theorem sc_law_is_whole : FnScope ["_law_thing"] ["_law_thing"] (defScope s_law_is_whole) := ⟨rfl, rfl, rfl, by decide +kernel, rfl, by decide +kernel, by decide +kernel⟩
def b_law_is_whole : MS := (sRet (mAnd (mIsi [0] (.ty .int) (mVar 0)) (mNot (mIsi [0] (.ty .bool) (mVar 0)))))
def m_law_is_whole : MF := mDef 1 1 b_law_is_whole
theorem ar_law_is_whole : Ar 1 m_law_is_whole := mDef_ar
theorem ok_law_is_whole (T : Txt K mg) : ∃ fd, FnG P w K mg base 1 (a_law_is_whole K) fd ["_law_thing"] (SpD (cn K) 1 m_law_is_whole) ∧ Binds K fd ["_law_thing"] [] ∧ PySem.W.keepIn K (.ref (a_law_is_whole K)) = true := by
  obtain ⟨fd, F⟩ := T.f_law_is_whole
  refine ⟨fd, fn_ok (k := cn K) F sc_law_is_whole (by decide) fun cdv A outer s H E hr => ?_, F.bindsN fun _ _ _ _ _ _ us hl => match us, hl with | [_], _ => rfl, F.kp⟩
  have tk : Takes (cxOf (L2.CX P w) P w K mg base ["_law_thing"] "_law_is_whole" (defScope s_law_is_whole) (a_law_is_whole K) cdv A outer s H E) (fun c d _ H => E c d H) := takes_of rfl rfl rfl rfl
  exact (dss_one (ds_ret (de_and (de_isi (by rfl) T.n_isinstance T.isa rfl rfl (dv 0) (pe_bltn (v := .ty "int") (by rfl) T.n_int (by decide +kernel) rfl)) (de_one (de_not (de_isi (by rfl) T.n_isinstance T.isa rfl rfl (dv 0) (pe_bltn (v := .ty "bool") (by rfl) T.n_bool (by decide +kernel) rfl)))))))
theorem sc_law_table : FnScope ["_law_bag_here", "_law_most", "_law_wide", "_law_gaps", "_law_found", "_law_gap", "_law_k"] ["_law_bag_here", "_law_most"] (defScope s_law_table) := ⟨rfl, rfl, rfl, by decide +kernel, rfl, by decide +kernel, by decide +kernel⟩
def b_law_table_0 : MS := (sAsg (mCall m_law_one [] (mCons (mVar 0) (mCons (mAp (oLst false) (mCons (mC (.int 1)) (mCons (mC (.int 3)) (mCons (mC (.int 10)) (mCons (mC (.int 1000000)) mNil))))) mNil))) (gN 2))
def b_law_table_1 : MS := (sAsg (mAp (oSortL false) (mCons (mLc false (mRng1 (mVar 1)) (Tgt.nm 6).M tYesM (mOp oSub (mCall m_law_take [] (mCons (mVar 0) (mCons (mOp oAdd (mOp oMul (mC (.int 2)) (mVar 2)) (mC (.int 1))) mNil))) (mVar 2)) [6]) mNil)) (gN 3))
def b_law_table_2 : MS := (sAsg (mAp (oLst true) (mCons (mOp oSub (mCall m_law_take [] (mCons (mVar 0) (mCons (mC (.int 21)) mNil))) (mC (.int 10))) mNil)) (gN 4))
def b_law_table_3b_0 : MS := (sDrop (mAppend (mVar 4) (mOp oAdd (mOp oIx (mVar 4) (mUn oNeg (mC (.int 1)))) (mVar 5))))
def b_law_table_3 : MS := (sFor (mSeq (mVar 3)) (Tgt.nm 5).M b_law_table_3b_0)
def b_law_table_4 : MS := (sRet (mAp oTupOf (mCons (mVar 4) mNil)))
def b_law_table : MS := (sSeq b_law_table_0 (sSeq b_law_table_1 (sSeq b_law_table_2 (sSeq b_law_table_3 b_law_table_4))))
def m_law_table : MF := mDef 2 7 b_law_table
theorem e_law_table (x0 x1 : D) (C : Store) : m_law_table [x0, x1] C = finS C.length (b_law_table ⟨C.length, [some x0, some x1, none, none, none, none, none]⟩ C) := mDef_e rfl rfl
theorem ar_law_table : Ar 2 m_law_table := mDef_ar
theorem ok_law_table (T : Txt K mg) : ∃ fd, FnG P w K mg base 3 (a_law_table K) fd ["_law_bag_here", "_law_most"] (SpD (cn K) 2 m_law_table) ∧ Binds K fd ["_law_bag_here", "_law_most"] [] ∧ PySem.W.keepIn K (.ref (a_law_table K)) = true := by
  obtain ⟨fd_law_one, F_law_one, B_law_one, kp_law_one⟩ := ok_law_one (P := P) (w := w) (base := base) T
  obtain ⟨fd_law_take, F_law_take, B_law_take, kp_law_take⟩ := ok_law_take (P := P) (w := w) (base := base) T
  obtain ⟨fd, F⟩ := T.f_law_table
  refine ⟨fd, fn_ok (k := cn K) F sc_law_table (by decide) fun cdv A outer s H E hr => ?_, F.bindsN fun _ _ _ _ _ _ us hl => match us, hl with | [_, _], _ => rfl, F.kp⟩
  have tk : Takes (cxOf (L2.CX P w) P w K mg base ["_law_bag_here", "_law_most", "_law_wide", "_law_gaps", "_law_found", "_law_gap", "_law_k"] "_law_table" (defScope s_law_table) (a_law_table K) cdv A outer s H E) (fun c d _ H => E c d H) := takes_of rfl rfl rfl rfl
  exact (dss_cons (ds_set (i := 2) sc_law_table.nd rfl (Or.inr rfl) (de_call tk F_law_one ar_law_one (hr.mono (by decide)) (by rfl) T.g_law_one kp_law_one B_law_one .nil (fun _ _ _ => .nil) (da_cons (dv 0) (da_cons (de_lst false (da_cons de_int (da_cons de_int (da_cons de_int (da_cons de_int da_nil))))) da_nil))))
  (dss_cons (ds_set (i := 3) sc_law_table.nd rfl (Or.inl rfl) (de_callB (cr_sortA hr.u200) d_sortL (by rfl) T.n_sorted (by decide +kernel) (da_cons (de_lc (own := [("_law_k", 6)]) false rfl rfl sc_law_table.nd (di_rng1 (by rfl) T.n_range (dv 1)) (blkOk_by (own := [("_law_k", 6)]) rfl) (by decide) (fun _ _ _ _ _ => (tg_nm (i := 6) sc_law_table.nd rfl (by first | exact Or.inl rfl | exact Or.inr rfl))) (fun _ _ _ _ _ => dts_nil) (fun _ _ _ _ _ => (de_op op_sub d_sub (de_call takes0 F_law_take ar_law_take (hr.mono (by decide)) (by rfl) T.g_law_take kp_law_take B_law_take .nil (fun _ _ _ => .nil) (da_cons (dv 0) (da_cons (de_op op_add d_add (de_op op_mul d_mul de_int (dv 2)) de_int) da_nil))) (dv 2)))) da_nil)))
  (dss_cons (ds_set (i := 4) sc_law_table.nd rfl (Or.inl rfl) (de_lst true (da_cons (de_op op_sub d_sub (de_call tk F_law_take ar_law_take (hr.mono (by decide)) (by rfl) T.g_law_take kp_law_take B_law_take .nil (fun _ _ _ => .nil) (da_cons (dv 0) (da_cons de_int da_nil))) de_int) da_nil)))
  (dss_cons (ds_for (passes_of rfl) rfl (di_seq rfl (dv 3)) (tg_nm (i := 5) sc_law_table.nd rfl (Or.inl rfl)) (dss_one (ds_expr (de_append rfl (dv 4) (de_op op_add d_add (de_ix ix_seq d_ix (dv 4) (de_un un_neg d_neg de_int)) (dv 5))))))
  (dss_one (ds_ret (de_callTy call_tuple_of d_tupOf (by rfl) T.n_tuple (by decide +kernel) (da_cons (dv 4) da_nil))))))))
theorem sc_law_cost : FnScope ["_law_tables", "_law_row", "_law_table_here", "_law_x"] ["_law_tables", "_law_row"] (defScope s_law_cost) := ⟨rfl, rfl, rfl, by decide +kernel, rfl, by decide +kernel, by decide +kernel⟩
def b_law_cost : MS := (sRet (mAp oSum (mCons (mLc false (mZipX (mCons (mVar 0) (mCons (mVar 1) mNil))) (Tgt.tp [2, 3]).M tYesM (mOp oIx (mVar 2) (mVar 3)) [2, 3]) mNil)))
def m_law_cost : MF := mDef 2 4 b_law_cost
theorem e_law_cost (x0 x1 : D) (C : Store) : m_law_cost [x0, x1] C = finS C.length (b_law_cost ⟨C.length, [some x0, some x1, none, none]⟩ C) := mDef_e rfl rfl
theorem ar_law_cost : Ar 2 m_law_cost := mDef_ar
theorem ok_law_cost (T : Txt K mg) : ∃ fd, FnG P w K mg base 1 (a_law_cost K) fd ["_law_tables", "_law_row"] (SpD (cn K) 2 m_law_cost) ∧ Binds K fd ["_law_tables", "_law_row"] [] ∧ PySem.W.keepIn K (.ref (a_law_cost K)) = true := by
  obtain ⟨fd, F⟩ := T.f_law_cost
  refine ⟨fd, fn_ok (k := cn K) F sc_law_cost (by decide) fun cdv A outer s H E hr => ?_, F.bindsN fun _ _ _ _ _ _ us hl => match us, hl with | [_, _], _ => rfl, F.kp⟩
  have tk : Takes (cxOf (L2.CX P w) P w K mg base ["_law_tables", "_law_row", "_law_table_here", "_law_x"] "_law_cost" (defScope s_law_cost) (a_law_cost K) cdv A outer s H E) (fun c d _ H => E c d H) := takes_of rfl rfl rfl rfl
  exact (dss_one (ds_ret (de_callB (cr_sum rfl) d_sum (by rfl) T.n_sum (by decide +kernel) (da_cons (de_lc (own := [("_law_table_here", 2), ("_law_x", 3)]) false rfl rfl sc_law_cost.nd (di_zipX (by rfl) T.n_zip rfl (da_cons (dv 0) (da_cons (dv 1) da_nil))) (blkOk_by (own := [("_law_table_here", 2), ("_law_x", 3)]) rfl) (by decide) (fun _ _ _ _ _ => (tg_tp [2, 3] rfl rfl (pgs_cons (pg_name (i := 2) sc_law_cost.nd rfl (by first | exact Or.inl rfl | exact Or.inr rfl)) (pgs_cons (pg_name (i := 3) sc_law_cost.nd rfl (by first | exact Or.inl rfl | exact Or.inr rfl)) pgs_nil)))) (fun _ _ _ _ _ => dts_nil) (fun _ _ _ _ _ => (de_ix ix_seq d_ix (dv 2) (dv 3)))) da_nil))))
theorem sc_law_tables_right : FnScope ["_law_limits", "_law_thing", "_law_limit", "_law_table_here", "_law_gaps", "_law_x", "_law_k"] ["_law_limits", "_law_thing"] (defScope s_law_tables_right) := ⟨rfl, rfl, rfl, by decide +kernel, rfl, by decide +kernel, by decide +kernel⟩
def b_law_tables_right_0 : MS := (sIf (tOrM (tNotM (mTst (mIsi [0] (.ty .tuple) (mVar 1)))) (mTst (mOp (oEqA true) (mAp oLen (mCons (mVar 1) mNil)) (mAp oLen (mCons (mVar 0) mNil))))) (sRet (mC (.bl false))) sNext)
def b_law_tables_right_1b_0 : MS := (sIf (tOrM (tNotM (mTst (mIsi [0] (.ty .tuple) (mVar 3)))) (mTst (mOp (oEqA true) (mAp oLen (mCons (mVar 3) mNil)) (mOp oAdd (mVar 2) (mC (.int 1)))))) (sRet (mC (.bl false))) sNext)
def b_law_tables_right_1b_1 : MS := (sIf (mTst (mOp (oEqA true) (mLc false (mSeq (mVar 3)) (Tgt.nm 5).M (tNotM (mTst (mCall m_law_is_whole [] (mCons (mVar 5) mNil)))) (mVar 5) [5]) (mAp (oLst false) mNil))) (sRet (mC (.bl false))) sNext)
def b_law_tables_right_1b_2 : MS := (sIf (mTst (mOp (oEqA true) (mLc false (mSeq (mVar 3)) (Tgt.nm 5).M (tNotM (mTst (mChain oLe oLe (mUn oNeg (mC (.int 1000000000))) (mVar 5) (mC (.int 1000000000))))) (mVar 5) [5]) (mAp (oLst false) mNil))) (sRet (mC (.bl false))) sNext)
def b_law_tables_right_1b_3 : MS := (sAsg (mLc false (mRng1 (mVar 2)) (Tgt.nm 6).M tYesM (mOp oSub (mOp oIx (mVar 3) (mOp oAdd (mVar 6) (mC (.int 1)))) (mOp oIx (mVar 3) (mVar 6))) [6]) (gN 4))
def b_law_tables_right_1b_4 : MS := (sIf (mTst (mOp (oEqA true) (mVar 4) (mAp (oSortL false) (mCons (mVar 4) mNil)))) (sRet (mC (.bl false))) sNext)
def b_law_tables_right_1 : MS := (sFor (mZipX (mCons (mVar 0) (mCons (mVar 1) mNil))) (Tgt.tp [2, 3]).M (sSeq b_law_tables_right_1b_0 (sSeq b_law_tables_right_1b_1 (sSeq b_law_tables_right_1b_2 (sSeq b_law_tables_right_1b_3 b_law_tables_right_1b_4)))))
def b_law_tables_right_2 : MS := (sRet (mC (.bl true)))
def b_law_tables_right : MS := (sSeq b_law_tables_right_0 (sSeq b_law_tables_right_1 b_law_tables_right_2))
def m_law_tables_right : MF := mDef 2 7 b_law_tables_right
theorem e_law_tables_right (x0 x1 : D) (C : Store) : m_law_tables_right [x0, x1] C = finS C.length (b_law_tables_right ⟨C.length, [some x0, some x1, none, none, none, none, none]⟩ C) := mDef_e rfl rfl
theorem ar_law_tables_right : Ar 2 m_law_tables_right := mDef_ar
theorem ok_law_tables_right (T : Txt K mg) : ∃ fd, FnG P w K mg base 2 (a_law_tables_right K) fd ["_law_limits", "_law_thing"] (SpD (cn K) 2 m_law_tables_right) ∧ Binds K fd ["_law_limits", "_law_thing"] [] ∧ PySem.W.keepIn K (.ref (a_law_tables_right K)) = true := by
  obtain ⟨fd_law_is_whole, F_law_is_whole, B_law_is_whole, kp_law_is_whole⟩ := ok_law_is_whole (P := P) (w := w) (base := base) T
  obtain ⟨fd, F⟩ := T.f_law_tables_right
  refine ⟨fd, fn_ok (k := cn K) F sc_law_tables_right (by decide) fun cdv A outer s H E hr => ?_, F.bindsN fun _ _ _ _ _ _ us hl => match us, hl with | [_, _], _ => rfl, F.kp⟩
  have tk : Takes (cxOf (L2.CX P w) P w K mg base ["_law_limits", "_law_thing", "_law_limit", "_law_table_here", "_law_gaps", "_law_x", "_law_k"] "_law_tables_right" (defScope s_law_tables_right) (a_law_tables_right K) cdv A outer s H E) (fun c d _ H => E c d H) := takes_of rfl rfl rfl rfl
  exact (dss_cons (ds_if (PW.pt (dw_or (dt_not (dt_val (de_isi (by rfl) T.n_isinstance T.isa rfl rfl (dv 1) (pe_bltn (v := .ty "tuple") (by rfl) T.n_tuple (by decide +kernel) rfl)))) (dw_or1 (dt_cmp (op_ne.or (op_neD hr.room.units)) d_neA (de_callB call_len_seq d_len (by rfl) T.n_len (by decide +kernel) (da_cons (dv 1) da_nil)) (de_callB call_len_seq d_len (by rfl) T.n_len (by decide +kernel) (da_cons (dv 0) da_nil)) (nomark _))))) (dss_one (ds_ret de_bl)) dss_nil)
  (dss_cons (ds_for (passes_of rfl) rfl (di_zipX (by rfl) T.n_zip rfl (da_cons (dv 0) (da_cons (dv 1) da_nil))) (tg_tp [2, 3] rfl rfl (pgs_cons (pg_name (i := 2) sc_law_tables_right.nd rfl (Or.inl rfl)) (pgs_cons (pg_name (i := 3) sc_law_tables_right.nd rfl (Or.inr rfl)) pgs_nil))) (dss_cons (ds_if (PW.pt (dw_or (dt_not (dt_val (de_isi (by rfl) T.n_isinstance T.isa rfl rfl (dv 3) (pe_bltn (v := .ty "tuple") (by rfl) T.n_tuple (by decide +kernel) rfl)))) (dw_or1 (dt_cmp (op_ne.or (op_neD hr.room.units)) d_neA (de_callB call_len_seq d_len (by rfl) T.n_len (by decide +kernel) (da_cons (dv 3) da_nil)) (de_op op_add d_add (dv 2) de_int) (nomark _))))) (dss_one (ds_ret de_bl)) dss_nil)
  (dss_cons (ds_if (dt_cmp (op_ne.or (op_neD hr.room.units)) d_neA (de_lc (own := [("_law_x", 5)]) false rfl rfl sc_law_tables_right.nd (di_seq rfl (dv 3)) (blkOk_by (own := [("_law_x", 5)]) rfl) (by decide) (fun _ _ _ _ _ => (tg_nm (i := 5) sc_law_tables_right.nd rfl (by first | exact Or.inl rfl | exact Or.inr rfl))) (fun _ _ _ _ _ => (pts_one (dt_not (dt_val (de_call takes0 F_law_is_whole ar_law_is_whole (hr.mono (by decide)) (by rfl) T.g_law_is_whole kp_law_is_whole B_law_is_whole .nil (fun _ _ _ => .nil) (da_cons (dv 5) da_nil)))))) (fun _ _ _ _ _ => (dv 5))) (de_lst false da_nil) (nomark _)) (dss_one (ds_ret de_bl)) dss_nil)
  (dss_cons (ds_if (dt_cmp (op_ne.or (op_neD hr.room.units)) d_neA (de_lc (own := [("_law_x", 5)]) false rfl rfl sc_law_tables_right.nd (di_seq rfl (dv 3)) (blkOk_by (own := [("_law_x", 5)]) rfl) (by decide) (fun _ _ _ _ _ => (tg_nm (i := 5) sc_law_tables_right.nd rfl (by first | exact Or.inl rfl | exact Or.inr rfl))) (fun _ _ _ _ _ => (pts_one (dt_not (dt_chain op_le d_le op_le d_le (de_un un_neg d_neg de_int) (dv 5) de_int)))) (fun _ _ _ _ _ => (dv 5))) (de_lst false da_nil) (nomark _)) (dss_one (ds_ret de_bl)) dss_nil)
  (dss_cons (ds_setLc (i := 4) (own := [("_law_k", 6)]) false rfl rfl sc_law_tables_right.nd rfl rfl (sw_true rfl rfl rfl (by decide +kernel)) (di_rng1 (by rfl) T.n_range (dv 2)) (blkOk_by (own := [("_law_k", 6)]) rfl) (by decide) (fun _ _ _ _ _ => (tg_nm (i := 6) sc_law_tables_right.nd rfl (by first | exact Or.inl rfl | exact Or.inr rfl))) (fun _ _ _ _ _ => dts_nil) (fun _ _ _ _ _ => (de_op op_sub d_sub (de_ix ix_seq d_ix (dv 3) (de_op op_add d_add (dv 6) de_int)) (de_ix ix_seq d_ix (dv 3) (dv 6)))))
  (dss_one (ds_if (dt_cmp (op_ne.or (op_neD hr.room.units)) d_neA (dv 4) (de_callB (cr_sortA hr.u200) d_sortL (by rfl) T.n_sorted (by decide +kernel) (da_cons (dv 4) da_nil)) (nomark _)) (dss_one (ds_ret de_bl)) dss_nil)))))))
  (dss_one (ds_ret de_bl))))
theorem sc_law_bent : FnScope ["_law_bag_here", "_law_tables", "_law_menu", "_law_odd", "_law_spot", "_law_table_here", "_law_at", "_law_worth", "_law_x"] ["_law_bag_here", "_law_tables"] (defScope s_law_bent) := ⟨rfl, rfl, rfl, by decide +kernel, rfl, by decide +kernel, by decide +kernel⟩
def b_law_bent_0 : MS := (sAsg (mCall m_law_take [] (mCons (mVar 0) (mCons (mC (.int 7)) mNil))) (gN 2))
def b_law_bent_1t_0 : MS := (sAsg (mAp (oLst false) (mCons (mC .non) (mCons (mAp (oLst false) mNil) (mCons (mAp (oListOf false) (mCons (mVar 1) mNil)) (mCons (mOp oCatT (mVar 1) (mAp oTup (mCons (mAp oTup (mCons (mC (.int 0)) mNil)) mNil))) (mCons (mSlA (mVar 1) mNoPart (mPart (mUn oNeg (mC (.int 1))))) (mCons (mC (.str "")) (mCons (mC (.int 0)) (mCons (mAp oTup (mCons (mAp oTup mNil) mNil)) mNil))))))))) (gN 3))
def b_law_bent_1t_1 : MS := (sRet (mCall m_law_one [] (mCons (mVar 0) (mCons (mVar 3) mNil))))
def b_law_bent_1 : MS := (sIf (tOrM (mTst (mOp (oEqA false) (mVar 1) (mAp oTup mNil))) (mTst (mOp (oEqA false) (mVar 2) (mC (.int 0))))) (sSeq b_law_bent_1t_0 b_law_bent_1t_1) sNext)
def b_law_bent_2 : MS := (sAsg (mCall m_law_take [] (mCons (mVar 0) (mCons (mAp oLen (mCons (mVar 1) mNil)) mNil))) (gN 4))
def b_law_bent_3 : MS := (sAsg (mOp oIx (mVar 1) (mVar 4)) (gN 5))
def b_law_bent_4 : MS := (sAsg (mCall m_law_take [] (mCons (mVar 0) (mCons (mAp oLen (mCons (mVar 5) mNil)) mNil))) (gN 6))
def b_law_bent_5t_0 : MS := (sAsg (mOp oAdd (mOp oIx (mVar 5) (mVar 6)) (mCall m_law_one [] (mCons (mVar 0) (mCons (mAp (oLst false) (mCons (mC (.int 1)) (mCons (mUn oNeg (mC (.int 1))) (mCons (mC (.int 2)) (mCons (mOp oPow (mC (.int 10)) (mC (.int 9))) mNil))))) mNil)))) (gN 7))
def b_law_bent_5t_1 : MS := (sAsg (mOp oCatT (mOp oCatT (mSlA (mVar 5) mNoPart (mPart (mVar 6))) (mAp oTup (mCons (mVar 7) mNil))) (mSlA (mVar 5) (mPart (mOp oAdd (mVar 6) (mC (.int 1)))) mNoPart)) (gN 5))
def b_law_bent_5et_0 : MS := (sAsg (mCall m_law_one [] (mCons (mVar 0) (mCons (mAp (oLst false) (mCons (mOp oPow (mC (.int 10)) (mC (.int 9))) (mCons (mOp oAdd (mOp oPow (mC (.int 10)) (mC (.int 9))) (mC (.int 1))) (mCons (mUn oNeg (mOp oPow (mC (.int 10)) (mC (.int 9)))) (mCons (mOp oSub (mUn oNeg (mOp oPow (mC (.int 10)) (mC (.int 9)))) (mC (.int 1))) mNil))))) mNil))) (gN 7))
def b_law_bent_5et_1 : MS := (sAsg (mAp oTupOf (mCons (mLc false (mSeq (mVar 5)) (Tgt.nm 8).M tYesM (mVar 7) [8]) mNil)) (gN 5))
def b_law_bent_5eeet_0 : MS := (sAsg (mAp (oLst false) (mCons (mC (.bl true)) (mCons (mC (.bl false)) (mCons (mC .non) (mCons (mC (.str "0")) (mCons (mAp oTup (mCons (mC (.int 0)) mNil)) (mCons (mAp oStrI (mCons (mOp oIx (mVar 5) (mVar 6)) mNil)) mNil))))))) (gN 3))
def b_law_bent_5eeet_1 : MS := (sAsg (mOp oCatT (mOp oCatT (mSlA (mVar 5) mNoPart (mPart (mVar 6))) (mAp oTup (mCons (mCall m_law_one [] (mCons (mVar 0) (mCons (mVar 3) mNil))) mNil))) (mSlA (mVar 5) (mPart (mOp oAdd (mVar 6) (mC (.int 1)))) mNoPart)) (gN 5))
def b_law_bent_5eeee_0 : MS := (sAsg (mAp (oLst false) (mCons (mAp (oListOf false) (mCons (mVar 5) mNil)) (mCons (mSlA (mVar 5) (mPart (mC (.int 1))) mNoPart) (mCons (mSlA (mVar 5) mNoPart (mPart (mUn oNeg (mC (.int 1))))) (mCons (mOp oCatT (mVar 5) (mAp oTup (mCons (mOp oIx (mVar 5) (mUn oNeg (mC (.int 1)))) mNil))) mNil))))) (gN 3))
def b_law_bent_5eeee_1 : MS := (sAsg (mCall m_law_one [] (mCons (mVar 0) (mCons (mOp (oCat false) (mVar 3) (mAp (oLst false) (mCons (mC .non) (mCons (mVar 5) mNil)))) mNil))) (gN 5))
def b_law_bent_5 : MS := (sIf (mTst (mOp (oEqA false) (mVar 2) (mC (.int 1)))) (sSeq b_law_bent_5t_0 b_law_bent_5t_1) (sIf (mTst (mOp (oEqA false) (mVar 2) (mC (.int 2)))) (sSeq b_law_bent_5et_0 b_law_bent_5et_1) (sIf (mTst (mOp (oEqA false) (mVar 2) (mC (.int 6)))) (sAsg (mOp oCatT (mOp oCatT (mSlA (mVar 5) mNoPart (mPart (mVar 6))) (mAp oTup (mCons (mOp oSub (mUn oNeg (mOp oPow (mC (.int 10)) (mC (.int 9)))) (mC (.int 1))) mNil))) (mSlA (mVar 5) (mPart (mOp oAdd (mVar 6) (mC (.int 1)))) mNoPart)) (gN 5)) (sIf (mTst (mOp (oEqA false) (mVar 2) (mC (.int 3)))) (sSeq b_law_bent_5eeet_0 b_law_bent_5eeet_1) (sSeq b_law_bent_5eeee_0 b_law_bent_5eeee_1)))))
def b_law_bent_6 : MS := (sRet (mOp oCatT (mOp oCatT (mSlA (mVar 1) mNoPart (mPart (mVar 4))) (mAp oTup (mCons (mVar 5) mNil))) (mSlA (mVar 1) (mPart (mOp oAdd (mVar 4) (mC (.int 1)))) mNoPart)))
def b_law_bent : MS := (sSeq b_law_bent_0 (sSeq b_law_bent_1 (sSeq b_law_bent_2 (sSeq b_law_bent_3 (sSeq b_law_bent_4 (sSeq b_law_bent_5 b_law_bent_6))))))
def m_law_bent : MF := mDef 2 9 b_law_bent
theorem e_law_bent (x0 x1 : D) (C : Store) : m_law_bent [x0, x1] C = finS C.length (b_law_bent ⟨C.length, [some x0, some x1, none, none, none, none, none, none, none]⟩ C) := mDef_e rfl rfl
theorem ar_law_bent : Ar 2 m_law_bent := mDef_ar
theorem ok_law_bent (T : Txt K mg) : ∃ fd, FnG P w K mg base 3 (a_law_bent K) fd ["_law_bag_here", "_law_tables"] (SpD (cn K) 2 m_law_bent) ∧ Binds K fd ["_law_bag_here", "_law_tables"] [] ∧ PySem.W.keepIn K (.ref (a_law_bent K)) = true := by
  obtain ⟨fd_law_take, F_law_take, B_law_take, kp_law_take⟩ := ok_law_take (P := P) (w := w) (base := base) T
  obtain ⟨fd_law_one, F_law_one, B_law_one, kp_law_one⟩ := ok_law_one (P := P) (w := w) (base := base) T
  obtain ⟨fd, F⟩ := T.f_law_bent
  refine ⟨fd, fn_ok (k := cn K) F sc_law_bent (by decide) fun cdv A outer s H E hr => ?_, F.bindsN fun _ _ _ _ _ _ us hl => match us, hl with | [_, _], _ => rfl, F.kp⟩
  have tk : Takes (cxOf (L2.CX P w) P w K mg base ["_law_bag_here", "_law_tables", "_law_menu", "_law_odd", "_law_spot", "_law_table_here", "_law_at", "_law_worth", "_law_x"] "_law_bent" (defScope s_law_bent) (a_law_bent K) cdv A outer s H E) (fun c d _ H => E c d H) := takes_of rfl rfl rfl rfl
  exact (dss_cons (ds_set (i := 2) sc_law_bent.nd rfl (Or.inl rfl) (de_call tk F_law_take ar_law_take (hr.mono (by decide)) (by rfl) T.g_law_take kp_law_take B_law_take .nil (fun _ _ _ => .nil) (da_cons (dv 0) (da_cons de_int da_nil))))
  (dss_cons (ds_if (PW.pt (dw_or (dt_cmp (op_eq.or (op_eqD hr.room.units)) d_eqA (dv 1) (de_tup da_nil) (nomark _)) (dw_or1 (dt_cmp (op_eq.or (op_eqD hr.room.units)) d_eqA (dv 2) de_int (nomark _))))) (dss_cons (ds_set (i := 3) sc_law_bent.nd rfl (Or.inl rfl) (de_lst false (da_cons de_non (da_cons (de_lst false da_nil) (da_cons (de_callTy call_list_of (d_listOf false) (by rfl) T.n_list (by decide +kernel) (da_cons (dv 1) da_nil)) (da_cons (de_op op_catA d_catT (dv 1) (de_tup (da_cons (de_tup (da_cons de_int da_nil)) da_nil))) (da_cons (de_slA rfl (dv 1) do_none (do_some (de_un un_neg d_neg de_int))) (da_cons de_str (da_cons de_int (da_cons (de_tup (da_cons (de_tup da_nil) da_nil)) da_nil))))))))))
  (dss_one (ds_ret (de_call tk F_law_one ar_law_one (hr.mono (by decide)) (by rfl) T.g_law_one kp_law_one B_law_one .nil (fun _ _ _ => .nil) (da_cons (dv 0) (da_cons (dv 3) da_nil)))))) dss_nil)
  (dss_cons (ds_set (i := 4) sc_law_bent.nd rfl (Or.inl rfl) (de_call tk F_law_take ar_law_take (hr.mono (by decide)) (by rfl) T.g_law_take kp_law_take B_law_take .nil (fun _ _ _ => .nil) (da_cons (dv 0) (da_cons (de_callB call_len_seq d_len (by rfl) T.n_len (by decide +kernel) (da_cons (dv 1) da_nil)) da_nil))))
  (dss_cons (ds_set (i := 5) sc_law_bent.nd rfl (Or.inl rfl) (de_ix ix_seq d_ix (dv 1) (dv 4)))
  (dss_cons (ds_set (i := 6) sc_law_bent.nd rfl (Or.inl rfl) (de_call tk F_law_take ar_law_take (hr.mono (by decide)) (by rfl) T.g_law_take kp_law_take B_law_take .nil (fun _ _ _ => .nil) (da_cons (dv 0) (da_cons (de_callB call_len_seq d_len (by rfl) T.n_len (by decide +kernel) (da_cons (dv 5) da_nil)) da_nil))))
  (dss_cons (ds_if (dt_cmp (op_eq.or (op_eqD hr.room.units)) d_eqA (dv 2) de_int (nomark _)) (dss_cons (ds_set (i := 7) sc_law_bent.nd rfl (Or.inr rfl) (de_op op_add d_add (de_ix ix_seq d_ix (dv 5) (dv 6)) (de_call tk F_law_one ar_law_one (hr.mono (by decide)) (by rfl) T.g_law_one kp_law_one B_law_one .nil (fun _ _ _ => .nil) (da_cons (dv 0) (da_cons (de_lst false (da_cons de_int (da_cons (de_un un_neg d_neg de_int) (da_cons de_int (da_cons (de_op op_pow d_pow de_int de_int) da_nil))))) da_nil)))))
  (dss_one (ds_set (i := 5) sc_law_bent.nd rfl (Or.inl rfl) (de_op op_catA d_catT (de_op op_catA d_catT (de_slA rfl (dv 5) do_none (do_some (dv 6))) (de_tup (da_cons (dv 7) da_nil))) (de_slA rfl (dv 5) (do_some (de_op op_add d_add (dv 6) de_int)) do_none))))) (dss_one (ds_if (dt_cmp (op_eq.or (op_eqD hr.room.units)) d_eqA (dv 2) de_int (nomark _)) (dss_cons (ds_set (i := 7) sc_law_bent.nd rfl (Or.inr rfl) (de_call tk F_law_one ar_law_one (hr.mono (by decide)) (by rfl) T.g_law_one kp_law_one B_law_one .nil (fun _ _ _ => .nil) (da_cons (dv 0) (da_cons (de_lst false (da_cons (de_op op_pow d_pow de_int de_int) (da_cons (de_op op_add d_add (de_op op_pow d_pow de_int de_int) de_int) (da_cons (de_un un_neg d_neg (de_op op_pow d_pow de_int de_int)) (da_cons (de_op op_sub d_sub (de_un un_neg d_neg (de_op op_pow d_pow de_int de_int)) de_int) da_nil))))) da_nil))))
  (dss_one (ds_set (i := 5) sc_law_bent.nd rfl (Or.inl rfl) (de_callTy call_tuple_of d_tupOf (by rfl) T.n_tuple (by decide +kernel) (da_cons (de_lc (own := [("_law_x", 8)]) false rfl rfl sc_law_bent.nd (di_seq rfl (dv 5)) (blkOk_by (own := [("_law_x", 8)]) rfl) (by decide) (fun _ _ _ _ _ => (tg_nm (i := 8) sc_law_bent.nd rfl (by first | exact Or.inl rfl | exact Or.inr rfl))) (fun _ _ _ _ _ => dts_nil) (fun _ _ _ _ _ => (dv 7))) da_nil))))) (dss_one (ds_if (dt_cmp (op_eq.or (op_eqD hr.room.units)) d_eqA (dv 2) de_int (nomark _)) (dss_one (ds_set (i := 5) sc_law_bent.nd rfl (Or.inl rfl) (de_op op_catA d_catT (de_op op_catA d_catT (de_slA rfl (dv 5) do_none (do_some (dv 6))) (de_tup (da_cons (de_op op_sub d_sub (de_un un_neg d_neg (de_op op_pow d_pow de_int de_int)) de_int) da_nil))) (de_slA rfl (dv 5) (do_some (de_op op_add d_add (dv 6) de_int)) do_none)))) (dss_one (ds_if (dt_cmp (op_eq.or (op_eqD hr.room.units)) d_eqA (dv 2) de_int (nomark _)) (dss_cons (ds_set (i := 3) sc_law_bent.nd rfl (Or.inl rfl) (de_lst false (da_cons de_bl (da_cons de_bl (da_cons de_non (da_cons de_str (da_cons (de_tup (da_cons de_int da_nil)) (da_cons (de_callTy call_str_int d_strI (by rfl) T.n_str (by decide +kernel) (da_cons (de_ix ix_seq d_ix (dv 5) (dv 6)) da_nil)) da_nil))))))))
  (dss_one (ds_set (i := 5) sc_law_bent.nd rfl (Or.inl rfl) (de_op op_catA d_catT (de_op op_catA d_catT (de_slA rfl (dv 5) do_none (do_some (dv 6))) (de_tup (da_cons (de_call tk F_law_one ar_law_one (hr.mono (by decide)) (by rfl) T.g_law_one kp_law_one B_law_one .nil (fun _ _ _ => .nil) (da_cons (dv 0) (da_cons (dv 3) da_nil))) da_nil))) (de_slA rfl (dv 5) (do_some (de_op op_add d_add (dv 6) de_int)) do_none))))) (dss_cons (ds_set (i := 3) sc_law_bent.nd rfl (Or.inl rfl) (de_lst false (da_cons (de_callTy call_list_of (d_listOf false) (by rfl) T.n_list (by decide +kernel) (da_cons (dv 5) da_nil)) (da_cons (de_slA rfl (dv 5) (do_some de_int) do_none) (da_cons (de_slA rfl (dv 5) do_none (do_some (de_un un_neg d_neg de_int))) (da_cons (de_op op_catA d_catT (dv 5) (de_tup (da_cons (de_ix ix_seq d_ix (dv 5) (de_un un_neg d_neg de_int)) da_nil))) da_nil))))))
  (dss_one (ds_set (i := 5) sc_law_bent.nd rfl (Or.inl rfl) (de_call tk F_law_one ar_law_one (hr.mono (by decide)) (by rfl) T.g_law_one kp_law_one B_law_one .nil (fun _ _ _ => .nil) (da_cons (dv 0) (da_cons (de_op op_cat (d_cat false) (dv 3) (de_lst false (da_cons de_non (da_cons (dv 5) da_nil)))) da_nil)))))))))))))
  (dss_one (ds_ret (de_op op_catA d_catT (de_op op_catA d_catT (de_slA rfl (dv 1) do_none (do_some (dv 4))) (de_tup (da_cons (dv 5) da_nil))) (de_slA rfl (dv 1) (do_some (de_op op_add d_add (dv 4) de_int)) do_none))))))))))
theorem sc_law_door : FnScope ["_law_first", "_law_size", "_law_ties", "_law_found", "e"] ["_law_first", "_law_size", "_law_ties"] (defScope s_law_door) := ⟨rfl, rfl, rfl, by decide +kernel, rfl, by decide +kernel, by decide +kernel⟩
def b_law_door_0t_ : MS := (sIf (mTst (mVar 0)) (sAsg (mCall m_distances [] (mCons (mMake false 0 3 m_Web__init [] (mCons (mVar 1) (mCons (mVar 2) mNil))) (mCons (mOp oRepU (mAp oTup (mCons (mC (.int 0)) mNil)) (mVar 1)) mNil))) (gN 3)) (sAsg (mCall m_squares [] (mCons (mMake false 0 3 m_Web__init [] (mCons (mVar 1) (mCons (mVar 2) mNil))) (mCons (mOp oRepU (mAp oTup (mCons (mC (.int 0)) mNil)) (mVar 1)) mNil))) (gN 3)))
def b_law_door_0x_ : MS := (sRet (mAp oTup (mCons (mC (.str "TooMany")) (mCons (mUn (oXf 1 0) (mVar 4)) mNil))))
def b_law_door_0 : MS := (sTry 4 [1] [] b_law_door_0t_ b_law_door_0x_)
def b_law_door_1 : MS := (sRet (mAp oTup (mCons (mC (.str "let")) (mCons (mAp oLen (mCons (mVar 3) mNil)) mNil))))
def b_law_door : MS := (sSeq b_law_door_0 b_law_door_1)
def m_law_door : MF := mDef 3 5 b_law_door
theorem e_law_door (x0 x1 x2 : D) (C : Store) : m_law_door [x0, x1, x2] C = finS C.length (b_law_door ⟨C.length, [some x0, some x1, some x2, none, none]⟩ C) := mDef_e rfl rfl
theorem ar_law_door : Ar 3 m_law_door := mDef_ar
theorem ok_law_door (T : Txt K mg) : ∃ fd, FnG P w K mg base 6 (a_law_door K) fd ["_law_first", "_law_size", "_law_ties"] (SpD (cn K) 3 m_law_door) ∧ Binds K fd ["_law_first", "_law_size", "_law_ties"] [] ∧ PySem.W.keepIn K (.ref (a_law_door K)) = true := by
  obtain ⟨fd_distances, F_distances, B_distances, kp_distances⟩ := ok_distances (P := P) (w := w) (base := base) T
  obtain ⟨fd_Web__init, F_Web__init, B_Web__init, kp_Web__init, ds_Web__init, vd_Web__init, Bd_Web__init⟩ := ok_Web__init (P := P) (w := w) (base := base) T
  obtain ⟨fd_squares, F_squares, B_squares, kp_squares⟩ := ok_squares (P := P) (w := w) (base := base) T
  obtain ⟨fd, F⟩ := T.f_law_door
  refine ⟨fd, fn_ok (k := cn K) F sc_law_door (by decide) fun cdv A outer s H E hr => ?_, F.bindsN fun _ _ _ _ _ _ us hl => match us, hl with | [_, _, _], _ => rfl, F.kp⟩
  have tk : Takes (cxOf (L2.CX P w) P w K mg base ["_law_first", "_law_size", "_law_ties", "_law_found", "e"] "_law_door" (defScope s_law_door) (a_law_door K) cdv A outer s H E) (fun c d _ H => E c d H) := takes_of rfl rfl rfl rfl
  exact (dss_cons (ds_try (i := 4) (cs := [1]) (ds := []) rfl rfl sc_law_door.nd rfl rfl ⟨by rfl, by decide, .inl T.g_TooMany⟩ tk rfl rfl T.exm_TooMany.yes T.exm_TooMany.no
  (fun W pn xe tk1 po1 => (dss_one (ds_if (dt_val (dv 0)) (dss_one (ds_set (i := 3) sc_law_door.nd rfl (Or.inl rfl) (de_call tk1 F_distances ar_distances (hr.mono (by decide)) (by rfl) T.g_distances kp_distances B_distances .nil (fun _ _ _ => .nil) (da_cons (de_make false 0 3 tk1 rfl T.mk_Web F_Web__init ar_Web__init rfl (hr.mono (by decide)) (by rfl) T.g_Web B_Web__init .nil (fun _ _ _ => .nil) (da_cons (dv 1) (da_cons (dv 2) da_nil))) (da_cons (de_op (op_repU.or op_rep1T) d_repU (de_tup (da_cons de_int da_nil)) (dv 1)) da_nil))))) (dss_one (ds_set (i := 3) sc_law_door.nd rfl (Or.inl rfl) (de_call tk1 F_squares ar_squares (hr.mono (by decide)) (by rfl) T.g_squares kp_squares B_squares .nil (fun _ _ _ => .nil) (da_cons (de_make false 0 3 tk1 rfl T.mk_Web F_Web__init ar_Web__init rfl (hr.mono (by decide)) (by rfl) T.g_Web B_Web__init .nil (fun _ _ _ => .nil) (da_cons (dv 1) (da_cons (dv 2) da_nil))) (da_cons (de_op (op_repU.or op_rep1T) d_repU (de_tup (da_cons de_int da_nil)) (dv 1)) da_nil))))))))
  (fun a oe c dd pn hcc hz hv => (dss_one (ds_ret (de_tup (da_cons de_str (da_cons (de_xf 1 0 rfl (T.xs.exc 1 (by decide)).xf T.nox_TooMany_limit nd_TooMany rfl hz hv (dv 4)) da_nil)))))))
  (dss_one (ds_ret (de_tup (da_cons de_str (da_cons (de_callB call_len_seq d_len (by rfl) T.n_len (by decide +kernel) (da_cons (dv 3) da_nil)) da_nil))))))
theorem sc_law_wish : FnScope ["_law_bag_here", "_law_limits", "_law_wish_here", "_law_limit", "_law_menu"] ["_law_bag_here", "_law_limits"] (defScope s_law_wish) := ⟨rfl, rfl, rfl, by decide +kernel, rfl, by decide +kernel, by decide +kernel⟩
def b_law_wish_0 : MS := (sAsg (mAp (oLst true) mNil) (gN 2))
def b_law_wish_1b_0 : MS := (sAsg (mAp (oLst false) (mCons (mC (.int 0)) (mCons (mC (.int 1)) (mCons (mC (.int 2)) (mCons (mVar 3) (mCons (mUn oNeg (mC (.int 1))) (mCons (mC (.int 1000)) (mCons (mUn oNeg (mC (.int 1000))) (mCons (mOp oSub (mCall m_law_take [] (mCons (mVar 0) (mCons (mC (.int 2001)) mNil))) (mC (.int 1000))) mNil))))))))) (gN 4))
def b_law_wish_1b_1 : MS := (sDrop (mAppend (mVar 2) (mCall m_law_one [] (mCons (mVar 0) (mCons (mVar 4) mNil)))))
def b_law_wish_1 : MS := (sFor (mSeq (mVar 1)) (Tgt.nm 3).M (sSeq b_law_wish_1b_0 b_law_wish_1b_1))
def b_law_wish_2 : MS := (sRet (mAp oTupOf (mCons (mVar 2) mNil)))
def b_law_wish : MS := (sSeq b_law_wish_0 (sSeq b_law_wish_1 b_law_wish_2))
def m_law_wish : MF := mDef 2 5 b_law_wish
theorem e_law_wish (x0 x1 : D) (C : Store) : m_law_wish [x0, x1] C = finS C.length (b_law_wish ⟨C.length, [some x0, some x1, none, none, none]⟩ C) := mDef_e rfl rfl
theorem ar_law_wish : Ar 2 m_law_wish := mDef_ar
theorem ok_law_wish (T : Txt K mg) : ∃ fd, FnG P w K mg base 3 (a_law_wish K) fd ["_law_bag_here", "_law_limits"] (SpD (cn K) 2 m_law_wish) ∧ Binds K fd ["_law_bag_here", "_law_limits"] [] ∧ PySem.W.keepIn K (.ref (a_law_wish K)) = true := by
  obtain ⟨fd_law_take, F_law_take, B_law_take, kp_law_take⟩ := ok_law_take (P := P) (w := w) (base := base) T
  obtain ⟨fd_law_one, F_law_one, B_law_one, kp_law_one⟩ := ok_law_one (P := P) (w := w) (base := base) T
  obtain ⟨fd, F⟩ := T.f_law_wish
  refine ⟨fd, fn_ok (k := cn K) F sc_law_wish (by decide) fun cdv A outer s H E hr => ?_, F.bindsN fun _ _ _ _ _ _ us hl => match us, hl with | [_, _], _ => rfl, F.kp⟩
  have tk : Takes (cxOf (L2.CX P w) P w K mg base ["_law_bag_here", "_law_limits", "_law_wish_here", "_law_limit", "_law_menu"] "_law_wish" (defScope s_law_wish) (a_law_wish K) cdv A outer s H E) (fun c d _ H => E c d H) := takes_of rfl rfl rfl rfl
  exact (dss_cons (ds_set (i := 2) sc_law_wish.nd rfl (Or.inl rfl) (de_lst true da_nil))
  (dss_cons (ds_for (passes_of rfl) rfl (di_seq rfl (dv 1)) (tg_nm (i := 3) sc_law_wish.nd rfl (Or.inl rfl)) (dss_cons (ds_set (i := 4) sc_law_wish.nd rfl (Or.inl rfl) (de_lst false (da_cons de_int (da_cons de_int (da_cons de_int (da_cons (dv 3) (da_cons (de_un un_neg d_neg de_int) (da_cons de_int (da_cons (de_un un_neg d_neg de_int) (da_cons (de_op op_sub d_sub (de_call tk F_law_take ar_law_take (hr.mono (by decide)) (by rfl) T.g_law_take kp_law_take B_law_take .nil (fun _ _ _ => .nil) (da_cons (dv 0) (da_cons de_int da_nil))) de_int) da_nil))))))))))
  (dss_one (ds_expr (de_append rfl (dv 2) (de_call tk F_law_one ar_law_one (hr.mono (by decide)) (by rfl) T.g_law_one kp_law_one B_law_one .nil (fun _ _ _ => .nil) (da_cons (dv 0) (da_cons (dv 4) da_nil))))))))
  (dss_one (ds_ret (de_callTy call_tuple_of d_tupOf (by rfl) T.n_tuple (by decide +kernel) (da_cons (dv 2) da_nil))))))
theorem sc_law_wide_right : FnScope ["_law_bag_here", "_law_ties", "_law_wide", "_law_far", "_law_good", "_law_long", "_law_told", "_law_limit"] ["_law_bag_here", "_law_ties"] (defScope s_law_wide_right) := ⟨rfl, rfl, rfl, by decide +kernel, rfl, by decide +kernel, by decide +kernel⟩
def b_law_wide_right_0 : MS := (sPar [2, 3] (mCons (mMake false 0 3 m_Web__init [] (mCons (mOp oAdd (mC (.int 6)) (mCall m_law_take [] (mCons (mVar 0) (mCons (mC (.int 55)) mNil)))) (mCons (mVar 1) mNil))) (mCons (mMake false 0 3 m_Web__init [] (mCons (mC (.int 2)) (mCons (mAp (oLst false) (mCons (mAp oTup (mCons (mC (.int 0)) (mCons (mC (.int 1)) (mCons (mC (.int 1024)) mNil)))) mNil)) mNil))) mNil)))
def b_law_wide_right_1 : MS := (sPar [4, 5] (mCons (mAp oTupOf (mCons (mLc false (mSeq (mProp 0 m_Web_degrees (mVar 2))) (Tgt.nm 7).M tYesM (mOp oRepU (mAp oTup (mCons (mC (.int 0)) mNil)) (mOp oAdd (mVar 7) (mC (.int 1)))) [7]) mNil)) (mCons (mAp oTup (mCons (mOp oRepU (mAp oTup (mCons (mC (.int 0)) mNil)) (mC (.int 1025))) (mCons (mOp oRepU (mAp oTup (mCons (mC (.int 0)) mNil)) (mC (.int 1025))) mNil))) mNil)))
def b_law_wide_right_2 : MS := (sAsg (mAp (oLst false) (mCons (mCall m_is_tables [] (mCons (mVar 2) (mCons (mVar 4) mNil))) (mCons (mCall m_is_tables [] (mCons (mVar 2) (mCons (mSlA (mVar 4) mNoPart (mPart (mUn oNeg (mC (.int 1))))) mNil))) (mCons (mCall m_is_tables [] (mCons (mVar 3) (mCons (mVar 5) mNil))) (mCons (mCall m_is_tables [] (mCons (mVar 3) (mCons (mSlA (mVar 5) mNoPart (mPart (mC (.int 1)))) mNil))) mNil))))) (gN 6))
def b_law_wide_right_3 : MS := (sRet (mOp (oEqA false) (mAp oRepr (mCons (mVar 6) mNil)) (mC (.str "[True, False, True, False]"))))
def b_law_wide_right : MS := (sSeq b_law_wide_right_0 (sSeq b_law_wide_right_1 (sSeq b_law_wide_right_2 b_law_wide_right_3)))
def m_law_wide_right : MF := mDef 2 8 b_law_wide_right
theorem e_law_wide_right (x0 x1 : D) (C : Store) : m_law_wide_right [x0, x1] C = finS C.length (b_law_wide_right ⟨C.length, [some x0, some x1, none, none, none, none, none, none]⟩ C) := mDef_e rfl rfl
theorem ar_law_wide_right : Ar 2 m_law_wide_right := mDef_ar
theorem ok_law_wide_right (T : Txt K mg) : ∃ fd, FnG P w K mg base 6 (a_law_wide_right K) fd ["_law_bag_here", "_law_ties"] (SpD (cn K) 2 m_law_wide_right) ∧ Binds K fd ["_law_bag_here", "_law_ties"] [] ∧ PySem.W.keepIn K (.ref (a_law_wide_right K)) = true := by
  obtain ⟨fd_Web__init, F_Web__init, B_Web__init, kp_Web__init, ds_Web__init, vd_Web__init, Bd_Web__init⟩ := ok_Web__init (P := P) (w := w) (base := base) T
  obtain ⟨fd_law_take, F_law_take, B_law_take, kp_law_take⟩ := ok_law_take (P := P) (w := w) (base := base) T
  obtain ⟨fd_Web_degrees, F_Web_degrees, B_Web_degrees, kp_Web_degrees⟩ := ok_Web_degrees (P := P) (w := w) (base := base) T
  obtain ⟨fd_is_tables, F_is_tables, B_is_tables, kp_is_tables⟩ := ok_is_tables (P := P) (w := w) (base := base) T
  obtain ⟨fd, F⟩ := T.f_law_wide_right
  refine ⟨fd, fn_ok (k := cn K) F sc_law_wide_right (by decide) fun cdv A outer s H E hr => ?_, F.bindsN fun _ _ _ _ _ _ us hl => match us, hl with | [_, _], _ => rfl, F.kp⟩
  have tk : Takes (cxOf (L2.CX P w) P w K mg base ["_law_bag_here", "_law_ties", "_law_wide", "_law_far", "_law_good", "_law_long", "_law_told", "_law_limit"] "_law_wide_right" (defScope s_law_wide_right) (a_law_wide_right K) cdv A outer s H E) (fun c d _ H => E c d H) := takes_of rfl rfl rfl rfl
  exact (dss_cons (ds_par (i := 2) (j := 3) rfl sc_law_wide_right.nd rfl rfl (by decide) rfl rfl (da_cons (de_make false 0 3 tk rfl T.mk_Web F_Web__init ar_Web__init rfl (hr.mono (by decide)) (by rfl) T.g_Web B_Web__init .nil (fun _ _ _ => .nil) (da_cons (de_op op_add d_add de_int (de_call tk F_law_take ar_law_take (hr.mono (by decide)) (by rfl) T.g_law_take kp_law_take B_law_take .nil (fun _ _ _ => .nil) (da_cons (dv 0) (da_cons de_int da_nil)))) (da_cons (dv 1) da_nil))) (da_cons (de_make false 0 3 tk rfl T.mk_Web F_Web__init ar_Web__init rfl (hr.mono (by decide)) (by rfl) T.g_Web B_Web__init .nil (fun _ _ _ => .nil) (da_cons de_int (da_cons (de_lst false (da_cons (de_tup (da_cons de_int (da_cons de_int (da_cons de_int da_nil)))) da_nil)) da_nil))) da_nil)))
  (dss_cons (ds_par (i := 4) (j := 5) rfl sc_law_wide_right.nd rfl rfl (by decide) rfl rfl (da_cons (de_callTy call_tuple_of d_tupOf (by rfl) T.n_tuple (by decide +kernel) (da_cons (de_lc (own := [("_law_limit", 7)]) false rfl rfl sc_law_wide_right.nd (di_seq rfl (de_prop 0 rfl (dv 2) T.cl_Web T.pr_degrees F_Web_degrees ar_Web_degrees (hr.mono (by decide)) B_Web_degrees)) (blkOk_by (own := [("_law_limit", 7)]) rfl) (by decide) (fun _ _ _ _ _ => (tg_nm (i := 7) sc_law_wide_right.nd rfl (by first | exact Or.inl rfl | exact Or.inr rfl))) (fun _ _ _ _ _ => dts_nil) (fun _ _ _ _ _ => (de_op (op_repU.or op_rep1T) d_repU (de_tup (da_cons de_int da_nil)) (de_op op_add d_add (dv 7) de_int)))) da_nil)) (da_cons (de_tup (da_cons (de_op (op_repU.or op_rep1T) d_repU (de_tup (da_cons de_int da_nil)) de_int) (da_cons (de_op (op_repU.or op_rep1T) d_repU (de_tup (da_cons de_int da_nil)) de_int) da_nil))) da_nil)))
  (dss_cons (ds_set (i := 6) sc_law_wide_right.nd rfl (Or.inl rfl) (de_lst false (da_cons (de_call tk F_is_tables ar_is_tables (hr.mono (by decide)) (by rfl) T.g_is_tables kp_is_tables B_is_tables .nil (fun _ _ _ => .nil) (da_cons (dv 2) (da_cons (dv 4) da_nil))) (da_cons (de_call tk F_is_tables ar_is_tables (hr.mono (by decide)) (by rfl) T.g_is_tables kp_is_tables B_is_tables .nil (fun _ _ _ => .nil) (da_cons (dv 2) (da_cons (de_slA rfl (dv 4) do_none (do_some (de_un un_neg d_neg de_int))) da_nil))) (da_cons (de_call tk F_is_tables ar_is_tables (hr.mono (by decide)) (by rfl) T.g_is_tables kp_is_tables B_is_tables .nil (fun _ _ _ => .nil) (da_cons (dv 3) (da_cons (dv 5) da_nil))) (da_cons (de_call tk F_is_tables ar_is_tables (hr.mono (by decide)) (by rfl) T.g_is_tables kp_is_tables B_is_tables .nil (fun _ _ _ => .nil) (da_cons (dv 3) (da_cons (de_slA rfl (dv 5) do_none (do_some de_int)) da_nil))) da_nil))))))
  (dss_one (ds_ret (de_cmp (op_eq.or (op_eqD hr.room.units)) d_eqA (de_callB (call_reprD (hr.mono (by decide))) d_repr (by rfl) T.n_repr (by decide +kernel) (da_cons (dv 6) da_nil)) de_str (nomark _)))))))
theorem sc_law : FnScope ["_law_script", "_law_bag_here", "_law_trip", "_law_size", "_law_ties", "_law_web", "_law_grid_here", "_law_limits", "_law_tables", "_law_other", "_law_thing", "_law_row", "_law_wish_here", "_law_far", "_law_deep", "_law_both", "_law_v", "_law_first", "_law_doors", "_law_lane", "_law_limit", "_law_k", "_law_x", "_law_y"] ["_law_script"] (defScope s_law) := ⟨rfl, rfl, rfl, by decide +kernel, rfl, by decide +kernel, by decide +kernel⟩
def b_law_0 : MS := (sAsg (mCall m_law_bag [] (mCons (mVar 0) mNil)) (gN 1))
def b_law_1b_0 : MS := (sAsg (mCall m_law_one [] (mCons (mVar 1) (mCons (mAp (oLst false) (mCons (mC (.int 3)) (mCons (mC (.int 4)) (mCons (mC (.int 2)) (mCons (mC (.int 5)) (mCons (mC (.int 1)) (mCons (mC (.int 0)) mNil))))))) mNil))) (gN 3))
def b_law_1b_1 : MS := (sAsg (mCall m_law_light [] (mCons (mVar 1) (mCons (mVar 3) (mCons (mCall m_law_one [] (mCons (mVar 1) (mCons (mAp (oLst false) (mCons (mC (.int 30)) (mCons (mC (.int 8)) (mCons (mC (.int 150)) mNil)))) mNil))) mNil)))) (gN 4))
def b_law_1b_2 : MS := (sPar [5, 6] (mCons (mMake false 0 3 m_Web__init [] (mCons (mVar 3) (mCons (mVar 4) mNil))) (mCons (mCall m_law_grid [] (mCons (mVar 3) (mCons (mVar 4) mNil))) mNil)))
def b_law_1b_3 : MS := (sAsg (mLc false (mSeq (mVar 6)) (Tgt.nm 19).M tYesM (mAp oSum (mCons (mVar 19) mNil)) [19]) (gN 7))
def b_law_1b_4 : MS := (sAsg (mAp oTupOf (mCons (mLc false (mSeq (mVar 7)) (Tgt.nm 20).M tYesM (mCall m_law_table [] (mCons (mVar 1) (mCons (mVar 20) mNil))) [20]) mNil)) (gN 8))
def b_law_1b_5 : MS := (sAsg (mAp oTupOf (mCons (mLc false (mSeq (mVar 7)) (Tgt.nm 20).M tYesM (mCall m_law_table [] (mCons (mVar 1) (mCons (mVar 20) mNil))) [20]) mNil)) (gN 9))
def b_law_1b_6b_0 : MS := (sIf (mTst (mOp (oEqA true) (mAp oRepr (mCons (mCall m_is_tables [] (mCons (mVar 5) (mCons (mVar 10) mNil))) mNil)) (mAp oRepr (mCons (mCall m_law_tables_right [] (mCons (mVar 7) (mCons (mVar 10) mNil))) mNil)))) (sRet (mC (.bl false))) sNext)
def b_law_1b_6 : MS := (sFor (mSeq (mAp (oLst false) (mCons (mVar 8) (mCons (mCall m_law_bent [] (mCons (mVar 1) (mCons (mVar 8) mNil))) (mCons (mCall m_law_bent [] (mCons (mVar 1) (mCons (mVar 8) mNil))) (mCons (mCall m_law_bent [] (mCons (mVar 1) (mCons (mVar 9) mNil))) mNil)))))) (Tgt.nm 10).M b_law_1b_6b_0)
def b_law_1b_7 : MS := (sAsg (mAp oTupOf (mCons (mLc false (mSeq (mVar 7)) (Tgt.nm 20).M tYesM (mCall m_law_take [] (mCons (mVar 1) (mCons (mOp oAdd (mVar 20) (mC (.int 1))) mNil))) [20]) mNil)) (gN 11))
def b_law_1b_8 : MS := (sIf (tNotM (mTst (mCall m_law_alike [] (mCons (mCall m_displeasure [] (mCons (mVar 8) (mCons (mVar 11) mNil))) (mCons (mCall m_law_cost [] (mCons (mVar 8) (mCons (mVar 11) mNil))) mNil))))) (sRet (mC (.bl false))) sNext)
def b_law_1b_9 : MS := (sAsg (mAp oTup (mCons (mCall m_law_wish [] (mCons (mVar 1) (mCons (mVar 7) mNil))) (mCons (mAp (oLst true) mNil) (mCons (mAp (oLst true) mNil) (mCons (mAp (oLst true) mNil) mNil))))) (Tgt.tp [12, 13, 14, 15]).M)
def b_law_1b_10b_0 : MS := (sDrop (mAppend (mVar 13) (mAp oTupOf (mCons (mLc false (mRng1 (mOp oAdd (mOp oIx (mVar 7) (mVar 16)) (mC (.int 1)))) (Tgt.nm 21).M tYesM (mAp oAbs (mCons (mOp oSub (mVar 21) (mOp oIx (mVar 12) (mVar 16))) mNil)) [21]) mNil))))
def b_law_1b_10b_1 : MS := (sDrop (mAppend (mVar 14) (mAp oTupOf (mCons (mLc false (mRng1 (mOp oAdd (mOp oIx (mVar 7) (mVar 16)) (mC (.int 1)))) (Tgt.nm 21).M tYesM (mOp oMul (mOp oSub (mVar 21) (mOp oIx (mVar 12) (mVar 16))) (mOp oSub (mVar 21) (mOp oIx (mVar 12) (mVar 16)))) [21]) mNil))))
def b_law_1b_10b_2 : MS := (sDrop (mAppend (mVar 15) (mAp oTupOf (mCons (mLc false (mZipX (mCons (mOp oIx (mVar 8) (mVar 16)) (mCons (mOp oIx (mVar 9) (mVar 16)) mNil))) (Tgt.tp [22, 23]).M tYesM (mOp oAdd (mVar 22) (mVar 23)) [22, 23]) mNil))))
def b_law_1b_10 : MS := (sFor (mRng1 (mVar 3)) (Tgt.nm 16).M (sSeq b_law_1b_10b_0 (sSeq b_law_1b_10b_1 b_law_1b_10b_2)))
def b_law_1b_11 : MS := (sIf (tNotM (mTst (mCall m_law_alike [] (mCons (mCall m_distances [] (mCons (mVar 5) (mCons (mVar 12) mNil))) (mCons (mAp oTupOf (mCons (mVar 13) mNil)) mNil))))) (sRet (mC (.bl false))) sNext)
def b_law_1b_12 : MS := (sIf (tNotM (mTst (mCall m_law_alike [] (mCons (mCall m_squares [] (mCons (mVar 5) (mCons (mVar 12) mNil))) (mCons (mAp oTupOf (mCons (mVar 14) mNil)) mNil))))) (sRet (mC (.bl false))) sNext)
def b_law_1b_13 : MS := (sIf (tNotM (mTst (mCall m_law_alike [] (mCons (mCall m_added [] (mCons (mVar 8) (mCons (mVar 9) mNil))) (mCons (mAp oTupOf (mCons (mVar 15) mNil)) mNil))))) (sRet (mC (.bl false))) sNext)
def b_law_1b_14 : MS := (sIf (tOrM (mTst (mOp (oIsB true) (mCall m_is_tables [] (mCons (mVar 5) (mCons (mCall m_squares [] (mCons (mVar 5) (mCons (mVar 12) mNil))) mNil))) (mC (.bl true)))) (tNotM (mTst (mCall m_law_wide_right [] (mCons (mVar 1) (mCons (mVar 4) mNil)))))) (sRet (mC (.bl false))) sNext)
def b_law_1b_15 : MS := (sAsg (mOp (oEqA false) (mCall m_law_take [] (mCons (mVar 1) (mCons (mC (.int 2)) mNil))) (mC (.int 0))) (gN 17))
def b_law_1b_16 : MS := (sAsg (mAp (oLst false) (mCons (mCall m_law_door [] (mCons (mVar 17) (mCons (mC (.int 6)) (mCons (mVar 4) mNil)))) (mCons (mCall m_law_door [] (mCons (mVar 17) (mCons (mC (.int 6)) (mCons (mAp (oLst false) (mCons (mAp oTup (mCons (mC (.int 0)) (mCons (mC (.int 1)) (mCons (mC (.int 1024)) mNil)))) mNil)) mNil)))) mNil))) (gN 18))
def b_law_1b_17 : MS := (sAsg (mOp (oCat false) (mVar 18) (mAp (oLst false) (mCons (mCall m_law_door [] (mCons (mVar 17) (mCons (mC (.int 5)) (mCons (mAp (oLst false) (mCons (mAp oTup (mCons (mC (.int 0)) (mCons (mC (.int 3)) (mCons (mC (.int 1024)) mNil)))) mNil)) mNil)))) (mCons (mCall m_law_door [] (mCons (mVar 17) (mCons (mC (.int 2)) (mCons (mAp (oLst false) (mCons (mAp oTup (mCons (mC (.int 0)) (mCons (mC (.int 1)) (mCons (mC (.int 1023)) mNil)))) mNil)) mNil)))) mNil)))) (gN 18))
def b_law_1b_18 : MS := (sIf (mTst (mOp (oEqA true) (mVar 18) (mAp (oLst false) (mCons (mAp oTup (mCons (mC (.str "TooMany")) (mCons (mC (.int 5)) mNil))) (mCons (mAp oTup (mCons (mC (.str "TooMany")) (mCons (mC (.int 5)) mNil))) (mCons (mAp oTup (mCons (mC (.str "TooMany")) (mCons (mC (.int 1024)) mNil))) (mCons (mAp oTup (mCons (mC (.str "let")) (mCons (mC (.int 2)) mNil))) mNil))))))) (sRet (mC (.bl false))) sNext)
def b_law_1 : MS := (sFor (mRng1 (mC (.int 3))) (Tgt.nm 2).M (sSeq b_law_1b_0 (sSeq b_law_1b_1 (sSeq b_law_1b_2 (sSeq b_law_1b_3 (sSeq b_law_1b_4 (sSeq b_law_1b_5 (sSeq b_law_1b_6 (sSeq b_law_1b_7 (sSeq b_law_1b_8 (sSeq b_law_1b_9 (sSeq b_law_1b_10 (sSeq b_law_1b_11 (sSeq b_law_1b_12 (sSeq b_law_1b_13 (sSeq b_law_1b_14 (sSeq b_law_1b_15 (sSeq b_law_1b_16 (sSeq b_law_1b_17 b_law_1b_18)))))))))))))))))))
def b_law_2 : MS := (sRet (mC (.bl true)))
def b_law : MS := (sSeq b_law_0 (sSeq b_law_1 b_law_2))
def m_law : MF := mDef 1 24 b_law
theorem e_law (x0 : D) (C : Store) : m_law [x0] C = finS C.length (b_law ⟨C.length, [some x0, none, none, none, none, none, none, none, none, none, none, none, none, none, none, none, none, none, none, none, none, none, none, none]⟩ C) := mDef_e rfl rfl
theorem ok_law (T : Txt K mg) : ∃ fd, FnG P w K mg base 7 (a_law K) fd ["_law_script"] (SpD (cn K) 1 m_law) ∧ Binds K fd ["_law_script"] [] ∧ PySem.W.keepIn K (.ref (a_law K)) = true := by
  obtain ⟨fd_law_bag, F_law_bag, B_law_bag, kp_law_bag⟩ := ok_law_bag (P := P) (w := w) (base := base) T
  obtain ⟨fd_law_one, F_law_one, B_law_one, kp_law_one⟩ := ok_law_one (P := P) (w := w) (base := base) T
  obtain ⟨fd_law_light, F_law_light, B_law_light, kp_law_light⟩ := ok_law_light (P := P) (w := w) (base := base) T
  obtain ⟨fd_law_grid, F_law_grid, B_law_grid, kp_law_grid⟩ := ok_law_grid (P := P) (w := w) (base := base) T
  obtain ⟨fd_Web__init, F_Web__init, B_Web__init, kp_Web__init, ds_Web__init, vd_Web__init, Bd_Web__init⟩ := ok_Web__init (P := P) (w := w) (base := base) T
  obtain ⟨fd_law_table, F_law_table, B_law_table, kp_law_table⟩ := ok_law_table (P := P) (w := w) (base := base) T
  obtain ⟨fd_law_bent, F_law_bent, B_law_bent, kp_law_bent⟩ := ok_law_bent (P := P) (w := w) (base := base) T
  obtain ⟨fd_is_tables, F_is_tables, B_is_tables, kp_is_tables⟩ := ok_is_tables (P := P) (w := w) (base := base) T
  obtain ⟨fd_law_tables_right, F_law_tables_right, B_law_tables_right, kp_law_tables_right⟩ := ok_law_tables_right (P := P) (w := w) (base := base) T
  obtain ⟨fd_law_take, F_law_take, B_law_take, kp_law_take⟩ := ok_law_take (P := P) (w := w) (base := base) T
  obtain ⟨fd_law_alike, F_law_alike, B_law_alike, kp_law_alike⟩ := ok_law_alike (P := P) (w := w) (base := base) T
  obtain ⟨fd_law_cost, F_law_cost, B_law_cost, kp_law_cost⟩ := ok_law_cost (P := P) (w := w) (base := base) T
  obtain ⟨fd_displeasure, F_displeasure, B_displeasure, kp_displeasure⟩ := ok_displeasure (P := P) (w := w) (base := base) T
  obtain ⟨fd_law_wish, F_law_wish, B_law_wish, kp_law_wish⟩ := ok_law_wish (P := P) (w := w) (base := base) T
  obtain ⟨fd_distances, F_distances, B_distances, kp_distances⟩ := ok_distances (P := P) (w := w) (base := base) T
  obtain ⟨fd_squares, F_squares, B_squares, kp_squares⟩ := ok_squares (P := P) (w := w) (base := base) T
  obtain ⟨fd_added, F_added, B_added, kp_added⟩ := ok_added (P := P) (w := w) (base := base) T
  obtain ⟨fd_law_wide_right, F_law_wide_right, B_law_wide_right, kp_law_wide_right⟩ := ok_law_wide_right (P := P) (w := w) (base := base) T
  obtain ⟨fd_law_door, F_law_door, B_law_door, kp_law_door⟩ := ok_law_door (P := P) (w := w) (base := base) T
  obtain ⟨fd, F⟩ := T.f_law
  refine ⟨fd, fn_ok (k := cn K) F sc_law (by decide) fun cdv A outer s H E hr => ?_, F.bindsN fun _ _ _ _ _ _ us hl => match us, hl with | [_], _ => rfl, F.kp⟩
  have tk : Takes (cxOf (L2.CX P w) P w K mg base ["_law_script", "_law_bag_here", "_law_trip", "_law_size", "_law_ties", "_law_web", "_law_grid_here", "_law_limits", "_law_tables", "_law_other", "_law_thing", "_law_row", "_law_wish_here", "_law_far", "_law_deep", "_law_both", "_law_v", "_law_first", "_law_doors", "_law_lane", "_law_limit", "_law_k", "_law_x", "_law_y"] "law" (defScope s_law) (a_law K) cdv A outer s H E) (fun c d _ H => E c d H) := takes_of rfl rfl rfl rfl
  exact (dss_cons (ds_set (i := 1) sc_law.nd rfl (Or.inr rfl) (de_call tk F_law_bag ar_law_bag (hr.mono (by decide)) (by rfl) T.g_law_bag kp_law_bag B_law_bag .nil (fun _ _ _ => .nil) (da_cons (dv 0) da_nil)))
  (dss_cons (ds_for (passes_of rfl) rfl (di_rng1 (by rfl) T.n_range de_int) (tg_nm (i := 2) sc_law.nd rfl (Or.inl rfl)) (dss_cons (ds_set (i := 3) sc_law.nd rfl (Or.inl rfl) (de_call tk F_law_one ar_law_one (hr.mono (by decide)) (by rfl) T.g_law_one kp_law_one B_law_one .nil (fun _ _ _ => .nil) (da_cons (dv 1) (da_cons (de_lst false (da_cons de_int (da_cons de_int (da_cons de_int (da_cons de_int (da_cons de_int (da_cons de_int da_nil))))))) da_nil))))
  (dss_cons (ds_set (i := 4) sc_law.nd rfl (Or.inl rfl) (de_call tk F_law_light ar_law_light (hr.mono (by decide)) (by rfl) T.g_law_light kp_law_light B_law_light .nil (fun _ _ _ => .nil) (da_cons (dv 1) (da_cons (dv 3) (da_cons (de_call tk F_law_one ar_law_one (hr.mono (by decide)) (by rfl) T.g_law_one kp_law_one B_law_one .nil (fun _ _ _ => .nil) (da_cons (dv 1) (da_cons (de_lst false (da_cons de_int (da_cons de_int (da_cons de_int da_nil)))) da_nil))) da_nil)))))
  (dss_cons (ds_par (i := 5) (j := 6) rfl sc_law.nd rfl rfl (by decide) rfl rfl (da_cons (de_make false 0 3 tk rfl T.mk_Web F_Web__init ar_Web__init rfl (hr.mono (by decide)) (by rfl) T.g_Web B_Web__init .nil (fun _ _ _ => .nil) (da_cons (dv 3) (da_cons (dv 4) da_nil))) (da_cons (de_call tk F_law_grid ar_law_grid (hr.mono (by decide)) (by rfl) T.g_law_grid kp_law_grid B_law_grid .nil (fun _ _ _ => .nil) (da_cons (dv 3) (da_cons (dv 4) da_nil))) da_nil)))
  (dss_cons (ds_setLc (i := 7) (own := [("_law_lane", 19)]) false rfl rfl sc_law.nd rfl rfl (sw_true rfl rfl rfl (by decide +kernel)) (di_seq rfl (dv 6)) (blkOk_by (own := [("_law_lane", 19)]) rfl) (by decide) (fun _ _ _ _ _ => (tg_nm (i := 19) sc_law.nd rfl (by first | exact Or.inl rfl | exact Or.inr rfl))) (fun _ _ _ _ _ => dts_nil) (fun _ _ _ _ _ => (de_callB (cr_sum rfl) d_sum (by rfl) T.n_sum (by decide +kernel) (da_cons (dv 19) da_nil))))
  (dss_cons (ds_set (i := 8) sc_law.nd rfl (Or.inl rfl) (de_callTy call_tuple_of d_tupOf (by rfl) T.n_tuple (by decide +kernel) (da_cons (de_lc (own := [("_law_limit", 20)]) false rfl rfl sc_law.nd (di_seq rfl (dv 7)) (blkOk_by (own := [("_law_limit", 20)]) rfl) (by decide) (fun _ _ _ _ _ => (tg_nm (i := 20) sc_law.nd rfl (by first | exact Or.inl rfl | exact Or.inr rfl))) (fun _ _ _ _ _ => dts_nil) (fun _ _ _ _ _ => (de_call takes0 F_law_table ar_law_table (hr.mono (by decide)) (by rfl) T.g_law_table kp_law_table B_law_table .nil (fun _ _ _ => .nil) (da_cons (dv 1) (da_cons (dv 20) da_nil))))) da_nil)))
  (dss_cons (ds_set (i := 9) sc_law.nd rfl (Or.inl rfl) (de_callTy call_tuple_of d_tupOf (by rfl) T.n_tuple (by decide +kernel) (da_cons (de_lc (own := [("_law_limit", 20)]) false rfl rfl sc_law.nd (di_seq rfl (dv 7)) (blkOk_by (own := [("_law_limit", 20)]) rfl) (by decide) (fun _ _ _ _ _ => (tg_nm (i := 20) sc_law.nd rfl (by first | exact Or.inl rfl | exact Or.inr rfl))) (fun _ _ _ _ _ => dts_nil) (fun _ _ _ _ _ => (de_call takes0 F_law_table ar_law_table (hr.mono (by decide)) (by rfl) T.g_law_table kp_law_table B_law_table .nil (fun _ _ _ => .nil) (da_cons (dv 1) (da_cons (dv 20) da_nil))))) da_nil)))
  (dss_cons (ds_for (passes_of rfl) rfl (di_seq rfl (de_lst false (da_cons (dv 8) (da_cons (de_call tk F_law_bent ar_law_bent (hr.mono (by decide)) (by rfl) T.g_law_bent kp_law_bent B_law_bent .nil (fun _ _ _ => .nil) (da_cons (dv 1) (da_cons (dv 8) da_nil))) (da_cons (de_call tk F_law_bent ar_law_bent (hr.mono (by decide)) (by rfl) T.g_law_bent kp_law_bent B_law_bent .nil (fun _ _ _ => .nil) (da_cons (dv 1) (da_cons (dv 8) da_nil))) (da_cons (de_call tk F_law_bent ar_law_bent (hr.mono (by decide)) (by rfl) T.g_law_bent kp_law_bent B_law_bent .nil (fun _ _ _ => .nil) (da_cons (dv 1) (da_cons (dv 9) da_nil))) da_nil)))))) (tg_nm (i := 10) sc_law.nd rfl (Or.inl rfl)) (dss_one (ds_if (dt_cmp (op_ne.or (op_neD hr.room.units)) d_neA (de_callB (call_reprD (hr.mono (by decide))) d_repr (by rfl) T.n_repr (by decide +kernel) (da_cons (de_call tk F_is_tables ar_is_tables (hr.mono (by decide)) (by rfl) T.g_is_tables kp_is_tables B_is_tables .nil (fun _ _ _ => .nil) (da_cons (dv 5) (da_cons (dv 10) da_nil))) da_nil)) (de_callB (call_reprD (hr.mono (by decide))) d_repr (by rfl) T.n_repr (by decide +kernel) (da_cons (de_call tk F_law_tables_right ar_law_tables_right (hr.mono (by decide)) (by rfl) T.g_law_tables_right kp_law_tables_right B_law_tables_right .nil (fun _ _ _ => .nil) (da_cons (dv 7) (da_cons (dv 10) da_nil))) da_nil)) (nomark _)) (dss_one (ds_ret de_bl)) dss_nil)))
  (dss_cons (ds_set (i := 11) sc_law.nd rfl (Or.inl rfl) (de_callTy call_tuple_of d_tupOf (by rfl) T.n_tuple (by decide +kernel) (da_cons (de_lc (own := [("_law_limit", 20)]) false rfl rfl sc_law.nd (di_seq rfl (dv 7)) (blkOk_by (own := [("_law_limit", 20)]) rfl) (by decide) (fun _ _ _ _ _ => (tg_nm (i := 20) sc_law.nd rfl (by first | exact Or.inl rfl | exact Or.inr rfl))) (fun _ _ _ _ _ => dts_nil) (fun _ _ _ _ _ => (de_call takes0 F_law_take ar_law_take (hr.mono (by decide)) (by rfl) T.g_law_take kp_law_take B_law_take .nil (fun _ _ _ => .nil) (da_cons (dv 1) (da_cons (de_op op_add d_add (dv 20) de_int) da_nil))))) da_nil)))
  (dss_cons (ds_if (dt_not (dt_val (de_call tk F_law_alike ar_law_alike (hr.mono (by decide)) (by rfl) T.g_law_alike kp_law_alike B_law_alike .nil (fun _ _ _ => .nil) (da_cons (de_call tk F_displeasure ar_displeasure (hr.mono (by decide)) (by rfl) T.g_displeasure kp_displeasure B_displeasure .nil (fun _ _ _ => .nil) (da_cons (dv 8) (da_cons (dv 11) da_nil))) (da_cons (de_call tk F_law_cost ar_law_cost (hr.mono (by decide)) (by rfl) T.g_law_cost kp_law_cost B_law_cost .nil (fun _ _ _ => .nil) (da_cons (dv 8) (da_cons (dv 11) da_nil))) da_nil))))) (dss_one (ds_ret de_bl)) dss_nil)
  (dss_cons (ds_asgT (de_tup (da_cons (de_call tk F_law_wish ar_law_wish (hr.mono (by decide)) (by rfl) T.g_law_wish kp_law_wish B_law_wish .nil (fun _ _ _ => .nil) (da_cons (dv 1) (da_cons (dv 7) da_nil))) (da_cons (de_lst true da_nil) (da_cons (de_lst true da_nil) (da_cons (de_lst true da_nil) da_nil))))) (tg_tp [12, 13, 14, 15] rfl rfl (pgs_cons (pg_name (i := 12) sc_law.nd rfl (Or.inr rfl)) (pgs_cons (pg_name (i := 13) sc_law.nd rfl (Or.inl rfl)) (pgs_cons (pg_name (i := 14) sc_law.nd rfl (Or.inl rfl)) (pgs_cons (pg_name (i := 15) sc_law.nd rfl (Or.inl rfl)) pgs_nil))))))
  (dss_cons (ds_for (passes_of rfl) rfl (di_rng1 (by rfl) T.n_range (dv 3)) (tg_nm (i := 16) sc_law.nd rfl (Or.inr rfl)) (dss_cons (ds_expr (de_append rfl (dv 13) (de_callTy call_tuple_of d_tupOf (by rfl) T.n_tuple (by decide +kernel) (da_cons (de_lc (own := [("_law_k", 21)]) false rfl rfl sc_law.nd (di_rng1 (by rfl) T.n_range (de_op op_add d_add (de_ix ix_seq d_ix (dv 7) (dv 16)) de_int)) (blkOk_by (own := [("_law_k", 21)]) rfl) (by decide) (fun _ _ _ _ _ => (tg_nm (i := 21) sc_law.nd rfl (by first | exact Or.inl rfl | exact Or.inr rfl))) (fun _ _ _ _ _ => dts_nil) (fun _ _ _ _ _ => (de_callB call_abs d_abs (by rfl) T.n_abs (by decide +kernel) (da_cons (de_op op_sub d_sub (dv 21) (de_ix ix_seq d_ix (dv 12) (dv 16))) da_nil)))) da_nil))))
  (dss_cons (ds_expr (de_append rfl (dv 14) (de_callTy call_tuple_of d_tupOf (by rfl) T.n_tuple (by decide +kernel) (da_cons (de_lc (own := [("_law_k", 21)]) false rfl rfl sc_law.nd (di_rng1 (by rfl) T.n_range (de_op op_add d_add (de_ix ix_seq d_ix (dv 7) (dv 16)) de_int)) (blkOk_by (own := [("_law_k", 21)]) rfl) (by decide) (fun _ _ _ _ _ => (tg_nm (i := 21) sc_law.nd rfl (by first | exact Or.inl rfl | exact Or.inr rfl))) (fun _ _ _ _ _ => dts_nil) (fun _ _ _ _ _ => (de_op op_mul d_mul (de_op op_sub d_sub (dv 21) (de_ix ix_seq d_ix (dv 12) (dv 16))) (de_op op_sub d_sub (dv 21) (de_ix ix_seq d_ix (dv 12) (dv 16)))))) da_nil))))
  (dss_one (ds_expr (de_append rfl (dv 15) (de_callTy call_tuple_of d_tupOf (by rfl) T.n_tuple (by decide +kernel) (da_cons (de_lc (own := [("_law_x", 22), ("_law_y", 23)]) false rfl rfl sc_law.nd (di_zipX (by rfl) T.n_zip rfl (da_cons (de_ix ix_seq d_ix (dv 8) (dv 16)) (da_cons (de_ix ix_seq d_ix (dv 9) (dv 16)) da_nil))) (blkOk_by (own := [("_law_x", 22), ("_law_y", 23)]) rfl) (by decide) (fun _ _ _ _ _ => (tg_tp [22, 23] rfl rfl (pgs_cons (pg_name (i := 22) sc_law.nd rfl (by first | exact Or.inl rfl | exact Or.inr rfl)) (pgs_cons (pg_name (i := 23) sc_law.nd rfl (by first | exact Or.inl rfl | exact Or.inr rfl)) pgs_nil)))) (fun _ _ _ _ _ => dts_nil) (fun _ _ _ _ _ => (de_op op_add d_add (dv 22) (dv 23)))) da_nil))))))))
  (dss_cons (ds_if (dt_not (dt_val (de_call tk F_law_alike ar_law_alike (hr.mono (by decide)) (by rfl) T.g_law_alike kp_law_alike B_law_alike .nil (fun _ _ _ => .nil) (da_cons (de_call tk F_distances ar_distances (hr.mono (by decide)) (by rfl) T.g_distances kp_distances B_distances .nil (fun _ _ _ => .nil) (da_cons (dv 5) (da_cons (dv 12) da_nil))) (da_cons (de_callTy call_tuple_of d_tupOf (by rfl) T.n_tuple (by decide +kernel) (da_cons (dv 13) da_nil)) da_nil))))) (dss_one (ds_ret de_bl)) dss_nil)
  (dss_cons (ds_if (dt_not (dt_val (de_call tk F_law_alike ar_law_alike (hr.mono (by decide)) (by rfl) T.g_law_alike kp_law_alike B_law_alike .nil (fun _ _ _ => .nil) (da_cons (de_call tk F_squares ar_squares (hr.mono (by decide)) (by rfl) T.g_squares kp_squares B_squares .nil (fun _ _ _ => .nil) (da_cons (dv 5) (da_cons (dv 12) da_nil))) (da_cons (de_callTy call_tuple_of d_tupOf (by rfl) T.n_tuple (by decide +kernel) (da_cons (dv 14) da_nil)) da_nil))))) (dss_one (ds_ret de_bl)) dss_nil)
  (dss_cons (ds_if (dt_not (dt_val (de_call tk F_law_alike ar_law_alike (hr.mono (by decide)) (by rfl) T.g_law_alike kp_law_alike B_law_alike .nil (fun _ _ _ => .nil) (da_cons (de_call tk F_added ar_added (hr.mono (by decide)) (by rfl) T.g_added kp_added B_added .nil (fun _ _ _ => .nil) (da_cons (dv 8) (da_cons (dv 9) da_nil))) (da_cons (de_callTy call_tuple_of d_tupOf (by rfl) T.n_tuple (by decide +kernel) (da_cons (dv 15) da_nil)) da_nil))))) (dss_one (ds_ret de_bl)) dss_nil)
  (dss_cons (ds_if (PW.pt (dw_or (dt_cmp op_notB d_notB (de_call tk F_is_tables ar_is_tables (hr.mono (by decide)) (by rfl) T.g_is_tables kp_is_tables B_is_tables .nil (fun _ _ _ => .nil) (da_cons (dv 5) (da_cons (de_call tk F_squares ar_squares (hr.mono (by decide)) (by rfl) T.g_squares kp_squares B_squares .nil (fun _ _ _ => .nil) (da_cons (dv 5) (da_cons (dv 12) da_nil))) da_nil))) de_bl (nomark _)) (dw_or1 (dt_not (dt_val (de_call tk F_law_wide_right ar_law_wide_right (hr.mono (by decide)) (by rfl) T.g_law_wide_right kp_law_wide_right B_law_wide_right .nil (fun _ _ _ => .nil) (da_cons (dv 1) (da_cons (dv 4) da_nil)))))))) (dss_one (ds_ret de_bl)) dss_nil)
  (dss_cons (ds_set (i := 17) sc_law.nd rfl (Or.inl rfl) (de_cmp (op_eq.or (op_eqD hr.room.units)) d_eqA (de_call tk F_law_take ar_law_take (hr.mono (by decide)) (by rfl) T.g_law_take kp_law_take B_law_take .nil (fun _ _ _ => .nil) (da_cons (dv 1) (da_cons de_int da_nil))) de_int (nomark _)))
  (dss_cons (ds_set (i := 18) sc_law.nd rfl (Or.inl rfl) (de_lst false (da_cons (de_call tk F_law_door ar_law_door (hr.mono (by decide)) (by rfl) T.g_law_door kp_law_door B_law_door .nil (fun _ _ _ => .nil) (da_cons (dv 17) (da_cons de_int (da_cons (dv 4) da_nil)))) (da_cons (de_call tk F_law_door ar_law_door (hr.mono (by decide)) (by rfl) T.g_law_door kp_law_door B_law_door .nil (fun _ _ _ => .nil) (da_cons (dv 17) (da_cons de_int (da_cons (de_lst false (da_cons (de_tup (da_cons de_int (da_cons de_int (da_cons de_int da_nil)))) da_nil)) da_nil)))) da_nil))))
  (dss_cons (ds_set (i := 18) sc_law.nd rfl (Or.inl rfl) (de_op op_cat (d_cat false) (dv 18) (de_lst false (da_cons (de_call tk F_law_door ar_law_door (hr.mono (by decide)) (by rfl) T.g_law_door kp_law_door B_law_door .nil (fun _ _ _ => .nil) (da_cons (dv 17) (da_cons de_int (da_cons (de_lst false (da_cons (de_tup (da_cons de_int (da_cons de_int (da_cons de_int da_nil)))) da_nil)) da_nil)))) (da_cons (de_call tk F_law_door ar_law_door (hr.mono (by decide)) (by rfl) T.g_law_door kp_law_door B_law_door .nil (fun _ _ _ => .nil) (da_cons (dv 17) (da_cons de_int (da_cons (de_lst false (da_cons (de_tup (da_cons de_int (da_cons de_int (da_cons de_int da_nil)))) da_nil)) da_nil)))) da_nil)))))
  (dss_one (ds_if (dt_cmp (op_ne.or (op_neD hr.room.units)) d_neA (dv 18) (de_lst false (da_cons (de_tup (da_cons de_str (da_cons de_int da_nil))) (da_cons (de_tup (da_cons de_str (da_cons de_int da_nil))) (da_cons (de_tup (da_cons de_str (da_cons de_int da_nil))) (da_cons (de_tup (da_cons de_str (da_cons de_int da_nil))) da_nil))))) (nomark _)) (dss_one (ds_ret de_bl)) dss_nil)))))))))))))))))))))
  (dss_one (ds_ret de_bl))))
end
end
end CL
set_option maxHeartbeats 0
namespace CL
open PySem L2 PySem.Spec PyProof.Rows CT
theorem room0 : RoomG 7 callerA := ⟨⟨rfl, by decide, by decide⟩, rfl⟩
def LT : Prop := ∀ ns : List Int, ns.length ≤ 63 → ∃ C, m_law [scrD ns] [] = .ok (.bl true) C
theorem law_sp (lt : LT) {K : PySem.W.Frag} {H : Hp} {a : Addr} {ns : List Int} (hl : ns.length ≤ 63) (hO : Only H) (h : SqL K H a (ns.map V.int)) : SpD (cn K) 1 m_law [.ref a] H (fun v _ => v = .bl true) fun _ _ _ => False := by
  obtain ⟨C, e⟩ := lt ns hl
  refine ⟨rfl, fun _ => 0, [], [scrD ns], ⟨fun i c z => (nomatch z), fun i j c e z => (nomatch z)⟩, .cons (rep_scr hO h) .nil, ?_⟩
  rw [e]
  intro A' H' v _ _ r
  cases r
  rfl
theorem ob_eq (s : PySem.W.SharedT) : ob s = hk.obs s.abs := obGb_eq s
end CL
section
open PySem PySem.W PySem.Calls PyProof.Rows
theorem CL.holds_of (lt : CL.LT) : PySem.Challenge.rw_contentties_k81_tables.Holds := by
  w_on; o_law
  refine HandSHeadRun.head_any (r := OpenLaw.row PySem.Challenge.rw_contentties_k81_tables) (q := view (OpenLaw.row PySem.Challenge.rw_contentties_k81_tables).prog [48]) (H := CL.hk) (ob := CL.ob) (M := 20000) (loose := CL.loose) (d := HandSHeadRun.topDef (OpenLaw.row PySem.Challenge.rw_contentties_k81_tables).prog 48) (kwd := []) CL.ob_eq
    (by kernel_rfl) (fun s => by kernel_rfl) CL.run (by kernel_rfl) (by kernel_rfl) (by kernel_rfl) (by rfl) (by first | assumption | decide +kernel) (by decide +kernel) ⟨rfl, rfl, rfl, rfl, rfl, by decide +kernel⟩ ?hw ?hc
  case hw => w_witness2
  case hc =>
    refine Att.attach_callB (l := PySem.Challenge.rw_contentties_k81_tables) (n := 63) rfl (by kernel_rfl) fun w s₀ s₁ mg mb fa o pm cd doc a vs ns G Y ho hd hcd hmg0 hobj hints hlen hbits hg => ?_
    obtain ⟨K, KX, c⟩ := Y
    have hmg : mg ("law" : PySem.Str) = some (.ref fa) := by
      have e : (HandSHeadRun.topDef (OpenLaw.row PySem.Challenge.rw_contentties_k81_tables).prog 48).name = ("law" : PySem.Str) := by kernel_rfl
      rw [← e]
      exact hmg0
    have T := CL.txt KX G.T.g c
    have e := hmg.symm.trans T.g_law
    cases e
    exact CT.law_core KX G.T.g G.T.b G.T.builtins G.T.nolimit hg hobj hints (Nat.le_trans hlen (by decide)) (fun base h1 h2 s H e0 q => by
      obtain ⟨fd, F, B, _⟩ := CL.ok_law (P := (PySem.Challenge.rw_contentties_k81_tables).prog) (w := w) (base := base) T
      exact F.run callerA [] s H ⟨[.ref a], []⟩ [.ref a] [.ref a] _ _ CL.room0 e0 (B s [.ref a] (fun b o e => (e0.bs b o (h1 b o e)).1) rfl) (.cons rfl .nil) q) (fun H hO hS => CL.law_sp lt hlen hO hS)
end
set_option maxHeartbeats 4000000
/-! E2: loops, comprehensions, dicts worked out. -/
namespace CT
open PySem L2
@[simp] theorem tgt_nm (i : Nat) (d : D) (sl : List (Option D)) : (Tgt.nm i).M d sl = some (sl.set i (some d)) := rfl
@[simp] theorem tgt_tp (is : List Nat) (ds : List D) (sl : List (Option D)) : (Tgt.tp is).M (.tup ds) sl = setAll is ds sl := rfl
@[simp] theorem wipe0 (sl : List (Option D)) : wipeD sl [] = sl := rfl
@[simp] theorem wipe1 (sl : List (Option D)) (v : Nat) (vs : List Nat) : wipeD sl (v :: vs) = (wipeD sl vs).set v none := rfl
/-- what is walked stays: these items -/
structure PureIt (it : ItD) (xs : List D) : Prop where
  n : it.n = xs.length
  item : ∀ j C, j < xs.length → it.item j C = xs[j]?
  fin : ∀ C, it.fin C = true
theorem pure_C (xs : List D) : PureIt (itC xs) xs := ⟨rfl, fun _ _ _ => rfl, fun _ => rfl⟩
def rngI (lo : Int) (n : Nat) : List D := (List.range n).map fun i => D.int (lo + (i : Nat))
theorem pure_R (lo : Int) (n : Nat) : PureIt (itR lo n) (rngI lo n) := ⟨by simp [itR, rngI], fun j C hj => by
  have : j < n := by simpa [rngI] using hj
  simp [itR, rngI, this], fun _ => rfl⟩
/-- a loop that runs through -/
theorem loop_inv {it : ItD} {g : MG} {body : MS} {fl : Nat} (I : Nat → List (Option D) → Store → Prop)
    (step : ∀ j sl C, j < it.n → I j sl C → ∃ d sl1 sl2 C2, it.item j C = some d ∧ g d sl = some sl1 ∧ body ⟨fl, sl1⟩ C = .nx sl2 C2 ∧ I (j + 1) sl2 C2) (fin : ∀ sl C, I it.n sl C → it.fin C = true) :
    ∀ r j sl C, r + j = it.n → I j sl C → ∃ sl' C', loopN it g body fl r j sl C = .nx sl' C' ∧ I it.n sl' C'
  | 0, j, sl, C, h, i => by
    have e : j = it.n := by omega
    subst e
    exact ⟨sl, C, by unfold loopN; rw [if_pos (fin sl C i)], i⟩
  | r + 1, j, sl, C, h, i => by
    obtain ⟨d, sl1, sl2, C2, h1, h2, h3, h4⟩ := step j sl C (by omega) i
    obtain ⟨sl', C', h5, h6⟩ := loop_inv I step fin r (j + 1) sl2 C2 (by omega) h4
    refine ⟨sl', C', ?_, h6⟩
    unfold loopN
    simp only [h1, h2, h3, h5]
/-! ### comprehensions that change nothing -/
theorem lc_go {it : ItD} {xs : List D} (p : PureIt it xs) {g : MG} {tt : MT} {te : ME} {C : Store} {sl : List (Option D)} {f : D → Bool} {h : D → D} (sz : xs.length ≤ 16777215)
    (st : ∀ x ∈ xs, ∃ sl1, g x sl = some sl1 ∧ ∀ acc, tt ⟨C.length, sl1⟩ (C ++ [some (.lst acc)]) = .ok (f x) (C ++ [some (.lst acc)]) ∧ (f x = true → te ⟨C.length, sl1⟩ (C ++ [some (.lst acc)]) = .ok (h x) (C ++ [some (.lst acc)]))) :
    ∀ r j, r + j = xs.length → lcN it g tt te C.length sl r j (C ++ [some (.lst (((xs.take j).filter f).map h))]) = .ok () (C ++ [some (.lst ((xs.filter f).map h))])
  | 0, j, e => by
    have ej : j = xs.length := by omega
    subst ej
    unfold lcN
    rw [if_pos (p.fin _), List.take_length]
  | r + 1, j, e => by
    have hj : j < xs.length := by omega
    obtain ⟨sl1, h1, h2⟩ := st xs[j] (List.getElem_mem hj)
    have ih := lc_go p sz st r (j + 1) (by omega)
    have tk : xs.take (j + 1) = xs.take j ++ [xs[j]] := (List.take_append_getElem hj).symm
    rw [tk, List.filter_append, List.map_append] at ih
    unfold lcN
    rw [p.item j _ hj, List.getElem?_eq_getElem hj]
    simp only [h1]
    obtain ⟨e1, e2⟩ := h2 (((xs.take j).filter f).map h)
    rw [e1]
    simp only [bn0_ok]
    cases hf : f xs[j] with
    | true =>
      rw [if_pos rfl, e2 hf]
      simp only [bn0_ok]
      have at_n : (C ++ [some (Cell.lst (((xs.take j).filter f).map h))])[C.length]? = some (some (.lst (((xs.take j).filter f).map h))) := by simp
      have hz : szN ((((xs.take j).filter f).map h).length + 1) = true := by
        have l1 : ((xs.take j).filter f).length ≤ (xs.take j).length := List.length_filter_le _ _
        have l2 : (xs.take j).length ≤ j := by simp; omega
        simp only [szN, List.length_map, decide_eq_true_eq]
        omega
      rw [at_n]
      simp only [hz, if_true]
      have es : (C ++ [some (Cell.lst (((xs.take j).filter f).map h))]).set C.length (some (.lst (((xs.take j).filter f).map h ++ [h xs[j]]))) = C ++ [some (.lst (((xs.take j).filter f).map h ++ [h xs[j]]))] := by simp
      rw [es]
      simpa [List.filter_cons, hf] using ih
    | false =>
      rw [if_neg (by decide)]
      simpa [List.filter_cons, hf] using ih
/-- [e for t in it if c], nothing changed: plain data -/
theorem ev_lc {mi : MI} {it : ItD} {xs : List D} (p : PureIt it xs) {g : MG} {tt : MT} {te : ME} {vs : List Nat} {F : Fr} {C : Store} (f : D → Bool) (h : D → D) (hi : mi F C = .ok it C) (sz : xs.length ≤ 16777215)
    (st : ∀ x ∈ xs, ∃ sl1, g x (wipeD F.sl vs) = some sl1 ∧ ∀ acc, tt ⟨C.length, sl1⟩ (C ++ [some (.lst acc)]) = .ok (f x) (C ++ [some (.lst acc)]) ∧ (f x = true → te ⟨C.length, sl1⟩ (C ++ [some (.lst acc)]) = .ok (h x) (C ++ [some (.lst acc)])))
    (hc : ∀ x ∈ xs, f x = true → cb C.length (h x) = true) : mLc false mi g tt te vs F C = .ok (.lst ((xs.filter f).map h)) C := by
  have e := lc_go p sz st it.n 0 (by rw [p.n]; omega)
  unfold mLc
  rw [hi]
  simp only [bnd_ok]
  simp only [List.take_zero, List.filter_nil, List.map_nil] at e
  rw [e]
  simp only [bn0_ok]
  have at_n : (C ++ [some (Cell.lst ((xs.filter f).map h))])[C.length]? = some (some (.lst ((xs.filter f).map h))) := by simp
  have hb : cbL C.length ((xs.filter f).map h) = true := by
    have : ∀ l : List D, (∀ x ∈ l, f x = true → cb C.length (h x) = true) → cbL C.length ((l.filter f).map h) = true := by
      intro l
      induction l with
      | nil => intro _; rfl
      | cons x l ih =>
        intro hl
        rw [List.filter_cons]
        split
        · rename_i hx
          show (cb C.length (h x) && cbL C.length ((l.filter f).map h)) = true
          rw [hl x (List.mem_cons_self ..) hx, ih fun y hy => hl y (List.mem_cons_of_mem _ hy)]
          rfl
        · exact ih fun y hy => hl y (List.mem_cons_of_mem _ hy)
    exact this xs hc
  unfold lcEnd
  rw [if_neg (by decide), at_n]
  simp [hb]
theorem ev_rng1 {m : ME} {F : Fr} {C : Store} {j : Int} (h : m F C = .ok (.int j) C) (hj : inR j = true) : mRng1 m F C = .ok (itR 0 j.toNat) C := by
  unfold mRng1
  rw [h]
  simp [hj]
theorem ev_rng2 {m m2 : ME} {F : Fr} {C : Store} {i j : Int} (h : m F C = .ok (.int i) C) (h2 : m2 F C = .ok (.int j) C) (hi : inR i = true) (hj : inR j = true) : mRng2 m m2 F C = .ok (itR i (j - i).toNat) C := by
  unfold mRng2
  rw [h]
  simp [h2, hi, hj]
theorem ev_seqI {m : ME} {F : Fr} {C : Store} {d : D} {it : ItD} (h : m F C = .ok d C) (hi : itS d C = some it) : mSeq m F C = .ok it C := by
  unfold mSeq
  rw [h]
  simp [hi]
theorem ev_enum {m : ME} {F : Fr} {C : Store} {d : D} {it : ItD} (h : m F C = .ok d C) (hi : itS d C = some it) : mEnum m F C = .ok (prI it) C := by
  unfold mEnum
  rw [h]
  simp [hi]
/-! ### two clauses -/
theorem lc_from {it : ItD} {xs : List D} (p : PureIt it xs) {g : MG} {tt : MT} {te : ME} {C : Store} {sl : List (Option D)} {f : D → Bool} {h : D → D} {a0 : List D} (sz : a0.length + xs.length ≤ 16777215)
    (st : ∀ x ∈ xs, ∃ sl1, g x sl = some sl1 ∧ ∀ acc, tt ⟨C.length, sl1⟩ (C ++ [some (.lst acc)]) = .ok (f x) (C ++ [some (.lst acc)]) ∧ (f x = true → te ⟨C.length, sl1⟩ (C ++ [some (.lst acc)]) = .ok (h x) (C ++ [some (.lst acc)]))) :
    ∀ r j, r + j = xs.length → lcN it g tt te C.length sl r j (C ++ [some (.lst (a0 ++ ((xs.take j).filter f).map h))]) = .ok () (C ++ [some (.lst (a0 ++ (xs.filter f).map h))])
  | 0, j, e => by
    have ej : j = xs.length := by omega
    subst ej
    unfold lcN
    rw [if_pos (p.fin _), List.take_length]
  | r + 1, j, e => by
    have hj : j < xs.length := by omega
    obtain ⟨sl1, h1, h2⟩ := st xs[j] (List.getElem_mem hj)
    have ih := lc_from p sz st r (j + 1) (by omega)
    have tk : xs.take (j + 1) = xs.take j ++ [xs[j]] := (List.take_append_getElem hj).symm
    rw [tk, List.filter_append, List.map_append] at ih
    unfold lcN
    rw [p.item j _ hj, List.getElem?_eq_getElem hj]
    simp only [h1]
    obtain ⟨e1, e2⟩ := h2 (a0 ++ ((xs.take j).filter f).map h)
    rw [e1]
    simp only [bn0_ok]
    cases hf : f xs[j] with
    | true =>
      rw [if_pos rfl, e2 hf]
      simp only [bn0_ok]
      have at_n : (C ++ [some (Cell.lst (a0 ++ ((xs.take j).filter f).map h))])[C.length]? = some (some (.lst (a0 ++ ((xs.take j).filter f).map h))) := by simp
      have hz : szN ((a0 ++ ((xs.take j).filter f).map h).length + 1) = true := by
        have l1 : ((xs.take j).filter f).length ≤ (xs.take j).length := List.length_filter_le _ _
        have l2 : (xs.take j).length ≤ j := by simp; omega
        simp only [szN, List.length_append, List.length_map, decide_eq_true_eq]
        omega
      rw [at_n]
      simp only [hz, if_true]
      have es : (C ++ [some (Cell.lst (a0 ++ ((xs.take j).filter f).map h))]).set C.length (some (.lst (a0 ++ ((xs.take j).filter f).map h ++ [h xs[j]]))) = C ++ [some (.lst (a0 ++ ((xs.take j).filter f).map h ++ [h xs[j]]))] := by simp
      rw [es]
      simpa [List.filter_cons, hf] using ih
    | false =>
      rw [if_neg (by decide)]
      simpa [List.filter_cons, hf] using ih
/-- what the two clauses make -/
def flat2 (xs : List D) (ys : D → List D) (f : D → D → Bool) (h : D → D → D) : List D := xs.flatMap fun x => ((ys x).filter (f x)).map (h x)
theorem flat2_len (xs : List D) (ys : D → List D) (f : D → D → Bool) (h : D → D → D) {m : Nat} (hy : ∀ x ∈ xs, (ys x).length ≤ m) : (flat2 xs ys f h).length ≤ xs.length * m := by
  unfold flat2
  induction xs with
  | nil => simp
  | cons x xs ih =>
    have h1 := ih fun y hy' => hy y (List.mem_cons_of_mem _ hy')
    have h2 : (((ys x).filter (f x)).map (h x)).length ≤ m := by
      rw [List.length_map]
      exact Nat.le_trans (List.length_filter_le _ _) (hy x (List.mem_cons_self ..))
    rw [List.flatMap_cons, List.length_append, List.length_cons, Nat.succ_mul]
    omega
theorem lc2_go {it : ItD} {xs : List D} (p : PureIt it xs) {g g1 : MG} {mi1 : MI} {tt1 : MT} {te : ME} {C : Store} {sl : List (Option D)} {vs1 : List Nat} {ys : D → List D} {f : D → D → Bool} {h : D → D → D} {m : Nat} (hy : ∀ x ∈ xs, (ys x).length ≤ m) (sz : xs.length * m ≤ 16000000) (sm : m ≤ 700000)
    (st : ∀ x ∈ xs, ∃ sl1, g x sl = some sl1 ∧ ∀ acc, (∃ it1, PureIt it1 (ys x) ∧ mi1 ⟨C.length, sl1⟩ (C ++ [some (.lst acc)]) = .ok it1 (C ++ [some (.lst acc)])) ∧
      ∀ y ∈ ys x, ∃ sl2, g1 y (wipeD sl1 vs1) = some sl2 ∧ ∀ acc, tt1 ⟨C.length, sl2⟩ (C ++ [some (.lst acc)]) = .ok (f x y) (C ++ [some (.lst acc)]) ∧ (f x y = true → te ⟨C.length, sl2⟩ (C ++ [some (.lst acc)]) = .ok (h x y) (C ++ [some (.lst acc)]))) :
    ∀ r j, r + j = xs.length → lc2N it g tYesM mi1 g1 tt1 te C.length sl vs1 r j (C ++ [some (.lst (flat2 (xs.take j) ys f h))]) = .ok () (C ++ [some (.lst (flat2 xs ys f h))])
  | 0, j, e => by
    have ej : j = xs.length := by omega
    subst ej
    unfold lc2N
    rw [if_pos (p.fin _), List.take_length]
  | r + 1, j, e => by
    have hj : j < xs.length := by omega
    obtain ⟨sl1, h1, h2⟩ := st xs[j] (List.getElem_mem hj)
    have ih := lc2_go p hy sz sm st r (j + 1) (by omega)
    have tk : xs.take (j + 1) = xs.take j ++ [xs[j]] := (List.take_append_getElem hj).symm
    have fl : flat2 (xs.take (j + 1)) ys f h = flat2 (xs.take j) ys f h ++ ((ys xs[j]).filter (f xs[j])).map (h xs[j]) := by
      rw [tk]
      unfold flat2
      rw [List.flatMap_append]
      simp only [List.flatMap_cons, List.flatMap_nil, List.append_nil]
    rw [fl] at ih
    unfold lc2N
    rw [p.item j _ hj, List.getElem?_eq_getElem hj]
    simp only [h1]
    obtain ⟨⟨it1, p1, em⟩, h3⟩ := h2 (flat2 (xs.take j) ys f h)
    show bn0 (R.ok true (C ++ [some (.lst (flat2 (xs.take j) ys f h))])) _ = _
    simp only [bn0_ok, if_true]
    rw [em]
    simp only [bn0_ok]
    have hl : (flat2 (xs.take j) ys f h).length ≤ j * m := by
      have := flat2_len (xs.take j) ys f h (m := m) fun x hx => hy x (List.mem_of_mem_take hx)
      have e2 : (xs.take j).length = j := by simp; omega
      rw [e2] at this
      exact this
    have hl2 : (ys xs[j]).length ≤ m := hy _ (List.getElem_mem hj)
    have hjm : j * m ≤ xs.length * m := Nat.mul_le_mul_right _ (Nat.le_of_lt hj)
    have ein := lc_from p1 (g := g1) (tt := tt1) (te := te) (C := C) (sl := wipeD sl1 vs1) (f := f xs[j]) (h := h xs[j]) (a0 := flat2 (xs.take j) ys f h) (by omega) h3 it1.n 0 (by rw [p1.n]; omega)
    simp only [List.take_zero, List.filter_nil, List.map_nil, List.append_nil] at ein
    rw [ein]
    simp only [bn0_ok]
    exact ih
theorem ev_lc2 {mi mi1 : MI} {it : ItD} {xs : List D} (p : PureIt it xs) {g g1 : MG} {tt1 : MT} {te : ME} {vs vs1 : List Nat} {F : Fr} {C : Store} (ys : D → List D) (f : D → D → Bool) (h : D → D → D) (m : Nat) (hi : mi F C = .ok it C) (hy : ∀ x ∈ xs, (ys x).length ≤ m) (sz : xs.length * m ≤ 16000000) (sm : m ≤ 700000)
    (st : ∀ x ∈ xs, ∃ sl1, g x (wipeD F.sl vs) = some sl1 ∧ ∀ acc, (∃ it1, PureIt it1 (ys x) ∧ mi1 ⟨C.length, sl1⟩ (C ++ [some (.lst acc)]) = .ok it1 (C ++ [some (.lst acc)])) ∧
      ∀ y ∈ ys x, ∃ sl2, g1 y (wipeD sl1 vs1) = some sl2 ∧ ∀ acc, tt1 ⟨C.length, sl2⟩ (C ++ [some (.lst acc)]) = .ok (f x y) (C ++ [some (.lst acc)]) ∧ (f x y = true → te ⟨C.length, sl2⟩ (C ++ [some (.lst acc)]) = .ok (h x y) (C ++ [some (.lst acc)])))
    (hc : ∀ x ∈ xs, ∀ y ∈ ys x, f x y = true → cb C.length (h x y) = true) : mLc2 false mi g tYesM mi1 g1 tt1 te vs vs1 F C = .ok (.lst (flat2 xs ys f h)) C := by
  have e := lc2_go p hy sz sm st it.n 0 (by rw [p.n]; omega)
  unfold mLc2
  rw [hi]
  simp only [bnd_ok]
  have e0 : flat2 (xs.take 0) ys f h = [] := by simp [flat2]
  rw [e0] at e
  rw [e]
  simp only [bn0_ok]
  have at_n : (C ++ [some (Cell.lst (flat2 xs ys f h))])[C.length]? = some (some (.lst (flat2 xs ys f h))) := by simp
  have all : ∀ l : List D, (∀ d ∈ l, cb C.length d = true) → cbL C.length l = true := by
    intro l
    induction l with
    | nil => intro _; rfl
    | cons d l ih =>
      intro hl
      show (cb C.length d && cbL C.length l) = true
      rw [hl d (List.mem_cons_self ..), ih fun x hx => hl x (List.mem_cons_of_mem _ hx)]
      rfl
  have hb : cbL C.length (flat2 xs ys f h) = true := by
    refine all _ fun d hd => ?_
    unfold flat2 at hd
    obtain ⟨x, hx, hd⟩ := List.mem_flatMap.mp hd
    obtain ⟨y, hy', rfl⟩ := List.mem_map.mp hd
    obtain ⟨hy1, hy2⟩ := List.mem_filter.mp hy'
    exact hc x hx y hy1 hy2
  unfold lcEnd
  rw [if_neg (by decide), at_n]
  simp [hb]
/-! ### dicts from pairs to numbers -/
abbrev Dc := List ((Int × Int) × Int)
def dcK (d : Dc) : List (List Key) := d.map fun p => [.inl p.1.1, .inl p.1.2]
def dcV (d : Dc) : List D := d.map fun p => .int p.2
def dg : Dc → Int × Int → Option Int
  | [], _ => none
  | p :: r, k => if p.1 = k then some p.2 else dg r k
def dg0 (d : Dc) (k : Int × Int) : Int := (dg d k).getD 0
def dp (d : Dc) (k : Int × Int) (n : Int) : Dc := if d.any (fun p => decide (p.1 = k)) = true then d.map fun p => if p.1 = k then (p.1, n) else p else d ++ [(k, n)]
theorem key_eq (a b : Int × Int) : ([Sum.inl a.1, Sum.inl a.2] : List Key) = [.inl b.1, .inl b.2] ↔ a = b := by
  constructor
  · intro h
    simp only [List.cons.injEq, Sum.inl.injEq, and_true] at h
    exact Prod.ext h.1 h.2
  · rintro rfl
    rfl
theorem look_dc (k : Int × Int) : ∀ d : Dc, lookT (dcK d) (dcV d) [.inl k.1, .inl k.2] = (dg d k).map .int
  | [] => rfl
  | p :: r => by
    show (if ([.inl p.1.1, .inl p.1.2] : List Key) = [.inl k.1, .inl k.2] then some (D.int p.2) else lookT (dcK r) (dcV r) [.inl k.1, .inl k.2]) = _
    unfold dg
    by_cases h : p.1 = k
    · rw [if_pos ((key_eq _ _).mpr h), if_pos h]
      rfl
    · rw [if_neg (fun e => h ((key_eq _ _).mp e)), if_neg h, look_dc k r]
theorem any_dc (k : Int × Int) (d : Dc) : ((dcK d).any fun x => decide (x = [.inl k.1, .inl k.2])) = d.any fun p => decide (p.1 = k) := by
  unfold dcK
  rw [List.any_map]
  congr 1
  funext p
  exact decide_eq_decide.mpr (key_eq _ _)
theorem set_dc (k : Int × Int) (n : Int) : ∀ d : Dc, setT (dcK d) (dcV d) [.inl k.1, .inl k.2] (.int n) = dcV (d.map fun p => if p.1 = k then (p.1, n) else p)
  | [] => rfl
  | p :: r => by
    show (if ([.inl p.1.1, .inl p.1.2] : List Key) = [.inl k.1, .inl k.2] then D.int n else D.int p.2) :: setT (dcK r) (dcV r) [.inl k.1, .inl k.2] (.int n) = _
    rw [set_dc k n r]
    by_cases h : p.1 = k
    · rw [if_pos ((key_eq _ _).mpr h)]
      simp [dcV, h]
    · rw [if_neg (fun e => h ((key_eq _ _).mp e))]
      simp [dcV, h]
theorem put_dc (d : Dc) (k : Int × Int) (n : Int) : putT (dcK d) (dcV d) [.inl k.1, .inl k.2] (.int n) = (dcK (dp d k n), dcV (dp d k n)) := by
  unfold putT dp
  rw [any_dc]
  split
  · rw [set_dc]
    congr 1
    simp only [dcK, List.map_map]
    apply List.map_congr_left
    intro p _
    simp only [Function.comp]
    split <;> rfl
  · simp [dcK, dcV]
theorem dg_none {k : Int × Int} : ∀ {d : Dc}, d.any (fun p => decide (p.1 = k)) = false → dg d k = none
  | [], _ => rfl
  | p :: r, h => by
    rw [List.any_cons, Bool.or_eq_false_iff] at h
    unfold dg
    rw [if_neg (of_decide_eq_false h.1)]
    exact dg_none h.2
theorem dg_app {k k' : Int × Int} {n : Int} : ∀ d : Dc, dg (d ++ [(k, n)]) k' = match dg d k' with
    | some x => some x
    | none => if k = k' then some n else none
  | [] => rfl
  | p :: r => by
    have e1 : dg ((p :: r) ++ [(k, n)]) k' = if p.1 = k' then some p.2 else dg (r ++ [(k, n)]) k' := rfl
    have e2 : dg (p :: r) k' = if p.1 = k' then some p.2 else dg r k' := rfl
    rw [e1, e2]
    by_cases h : p.1 = k'
    · rw [if_pos h, if_pos h]
    · rw [if_neg h, if_neg h]
      exact dg_app r
theorem dg_map {k k' : Int × Int} {n : Int} : ∀ d : Dc, dg (d.map fun p => if p.1 = k then (p.1, n) else p) k' = if k' = k then (dg d k').map fun _ => n else dg d k'
  | [] => by simp [dg]
  | p :: r => by
    show dg ((if p.1 = k then (p.1, n) else p) :: r.map fun p => if p.1 = k then (p.1, n) else p) k' = _
    by_cases h1 : p.1 = k
    · rw [if_pos h1]
      unfold dg
      by_cases h2 : p.1 = k'
      · have e : k' = k := by rw [← h2, h1]
        simp [h2, e]
      · simp only [if_neg h2]
        exact dg_map r
    · rw [if_neg h1]
      unfold dg
      by_cases h2 : p.1 = k'
      · have e : ¬ k' = k := fun e => h1 (by rw [h2, e])
        simp [h2, e]
      · simp only [if_neg h2]
        exact dg_map r
theorem dg_some_of_any {k : Int × Int} : ∀ {d : Dc}, d.any (fun p => decide (p.1 = k)) = true → ∃ x, dg d k = some x
  | [], h => by cases h
  | p :: r, h => by
    unfold dg
    by_cases e : p.1 = k
    · exact ⟨p.2, if_pos e⟩
    · rw [List.any_cons, decide_eq_false e, Bool.false_or] at h
      obtain ⟨x, hx⟩ := dg_some_of_any h
      exact ⟨x, by rw [if_neg e]; exact hx⟩
theorem dg_dp (d : Dc) (k k' : Int × Int) (n : Int) : dg (dp d k n) k' = if k' = k then some n else dg d k' := by
  unfold dp
  split
  · rename_i h
    rw [dg_map]
    by_cases e : k' = k
    · subst e
      obtain ⟨x, hx⟩ := dg_some_of_any h
      simp [hx]
    · simp [e]
  · rename_i h
    rw [dg_app]
    by_cases e : k' = k
    · subst e
      rw [dg_none (Bool.not_eq_true _ ▸ h : d.any (fun p => decide (p.1 = k')) = false)]
    · have e' : ¬ k = k' := fun z => e z.symm
      cases dg d k' <;> simp [e, e']
theorem dg0_dp (d : Dc) (k k' : Int × Int) (n : Int) : dg0 (dp d k n) k' = if k' = k then n else dg0 d k' := by
  unfold dg0
  rw [dg_dp]
  split <;> rfl
theorem dp_len (d : Dc) (k : Int × Int) (n : Int) : (dp d k n).length ≤ d.length + 1 := by
  unfold dp
  split
  · simp
  · simp
end CT
set_option maxHeartbeats 4000000
/-! E3: walks over cells; own operators worked out. -/
namespace CT
open PySem L2
/-- what is walked stays while P holds: these items -/
structure ItOn (P : Store → Prop) (it : ItD) (xs : List D) : Prop where
  n : it.n = xs.length
  item : ∀ j C, P C → j < xs.length → it.item j C = xs[j]?
  fin : ∀ C, P C → it.fin C = true
theorem PureIt.on {it : ItD} {xs : List D} (h : PureIt it xs) (P : Store → Prop) : ItOn P it xs := ⟨h.n, fun j C _ => h.item j C, fun C _ => h.fin C⟩
theorem ItOn.imp {P P' : Store → Prop} {it : ItD} {xs : List D} (h : ItOn P it xs) (q : ∀ C, P' C → P C) : ItOn P' it xs := ⟨h.n, fun j C p => h.item j C (q C p), fun C p => h.fin C (q C p)⟩
theorem ItOn.pairs {P : Store → Prop} {it : ItD} {xs : List D} (h : ItOn P it xs) : ItOn P (prI it) ((List.range xs.length).zip xs |>.map fun p => D.tup [.int (p.1 : Nat), p.2]) := by
  refine ⟨by simp [prI, h.n], fun j C hp hj => ?_, fun C hp => h.fin C hp⟩
  have hj' : j < xs.length := by simpa using hj
  show (it.item j C).map _ = _
  rw [h.item j C hp hj', List.getElem?_map, List.getElem?_eq_getElem hj']
  simp [List.getElem?_zip_eq_some, hj']
theorem loop_on {P : Store → Prop} {it : ItD} {xs : List D} (p : ItOn P it xs) {g : MG} {body : MS} {fl : Nat} (I : Nat → List (Option D) → Store → Prop) (hP : ∀ j sl C, I j sl C → P C)
    (step : ∀ j x sl C, xs[j]? = some x → I j sl C → ∃ sl1 sl2 C2, g x sl = some sl1 ∧ body ⟨fl, sl1⟩ C = .nx sl2 C2 ∧ I (j + 1) sl2 C2) {sl : List (Option D)} {C : Store} (i : I 0 sl C) :
    ∃ sl' C', loopN it g body fl it.n 0 sl C = .nx sl' C' ∧ I xs.length sl' C' := by
  obtain ⟨sl', C', h1, h2⟩ := loop_inv I (fun j sl C hj i => by
    have hj' : j < xs.length := by rw [← p.n]; exact hj
    obtain ⟨sl1, sl2, C2, h1, h2, h3⟩ := step j xs[j] sl C (List.getElem?_eq_getElem hj') i
    exact ⟨xs[j], sl1, sl2, C2, by rw [p.item j C (hP _ _ _ i) hj', List.getElem?_eq_getElem hj'], h1, h2, h3⟩) (fun sl C i => p.fin C (hP _ _ _ i)) it.n 0 sl C (by omega) i
  exact ⟨sl', C', h1, by rw [← p.n]; exact h2⟩
/-- d is walked as xs wherever the store begins by C -/
def SeqIn (d : D) (xs : List D) (C : Store) : Prop := ∃ it, (∀ Y, itS d (C ++ Y) = some it) ∧ ItOn (fun S => ∃ Y, S = C ++ Y) it xs
theorem SeqIn.app {d : D} {xs : List D} {C : Store} (h : SeqIn d xs C) (Z : Store) : SeqIn d xs (C ++ Z) := by
  obtain ⟨it, h1, h2⟩ := h
  exact ⟨it, fun Y => by rw [List.append_assoc]; exact h1 _, h2.imp fun S ⟨Y, e⟩ => ⟨Z ++ Y, by rw [e, List.append_assoc]⟩⟩
theorem SeqIn.at0 {d : D} {xs : List D} {C : Store} (h : SeqIn d xs C) : ∃ it, itS d C = some it ∧ ItOn (fun S => ∃ Y, S = C ++ Y) it xs := by
  obtain ⟨it, h1, h2⟩ := h
  have := h1 []
  rw [List.append_nil] at this
  exact ⟨it, this, h2⟩
theorem seq_of {d : D} {xs : List D} (h : ∀ C, itS d C = some (itC xs)) (C : Store) : SeqIn d xs C := ⟨itC xs, fun Y => h _, (pure_C xs).on _⟩
theorem seq_cell {i : Nat} {xs : List D} {C : Store} (h : C[i]? = some (some (.lst xs))) : SeqIn (.cell i) xs C := by
  have hi : i < C.length := (List.getElem?_eq_some_iff.mp h).1
  have at_ : ∀ Y : Store, (C ++ Y)[i]? = some (some (.lst xs)) := fun Y => by rw [List.getElem?_append_left hi]; exact h
  refine ⟨itV i xs.length, fun Y => ?_, rfl, ?_, ?_⟩
  · show (match (C ++ Y)[i]? with
      | some (some (.lst ys)) => some (itV i ys.length)
      | _ => none) = _
    rw [at_]
  · rintro j S ⟨Y, rfl⟩ hj
    simp [itV, at_]
  · rintro S ⟨Y, rfl⟩
    simp [itV, at_]
/-! ### own operators -/
@[simp] theorem ev_revT {m : ME} {F : Fr} {C C1 : Store} {xs : List D} (h : m F C = .ok (.tup xs) C1) : mRevT m F C = .ok (.tup xs.reverse) C1 := by
  unfold mRevT
  rw [h]
  rfl
end CT
set_option maxHeartbeats 4000000
/-! E4: what a run must lead to, told backwards. -/
namespace CT
open PySem L2
/-! ### results -/
def wR0 {α : Type} (r : R α) (Q : α → Store → Prop) (E : Exc → Store → Prop) : Prop := match r with
  | .ok a C => Q a C
  | .exc e C => E e C
  | .stuck => False
/-- kept shut, so that no goal is worked out by chance -/
structure wR {α : Type} (r : R α) (Q : α → Store → Prop) (E : Exc → Store → Prop) : Prop where
  h : wR0 r Q E
structure wO (o : Option (D × Store)) (Q : D → Store → Prop) : Prop where
  h : ∃ d C, o = some (d, C) ∧ Q d C
structure wS (r : RS) (P : RS → Prop) : Prop where
  h : P r
structure wI (b : Bool) (p q : Prop) : Prop where
  h : if b = true then p else q
abbrev noX : Exc → Store → Prop := fun _ _ => False
section
variable {α β : Type} {Q : α → Store → Prop} {E : Exc → Store → Prop} {P : RS → Prop} {F : Fr} {C : Store}
theorem w_ok {a : α} (h : Q a C) : wR (.ok a C) Q E := ⟨h⟩
theorem w_exc {e : Exc} (h : E e C) : wR (.exc e C) Q E := ⟨h⟩
theorem w_of {r : R α} {a : α} {C' : Store} (e : r = .ok a C') (h : Q a C') : wR r Q E := by rw [e]; exact ⟨h⟩
theorem w_mono {r : R α} {Q' : α → Store → Prop} {E' : Exc → Store → Prop} (h : wR r Q' E') (q : ∀ a C, Q' a C → Q a C) (x : ∀ a C, E' a C → E a C) : wR r Q E := by
  cases r with
  | ok a C => exact ⟨q a C h.h⟩
  | exc e C => exact ⟨x e C h.h⟩
  | stuck => exact ⟨h.h⟩
theorem w_eqv {r : R α} {a : α} {C : Store} (h : wR r (fun d C' => d = a ∧ C' = C) noX) : r = .ok a C := by
  cases r with
  | ok a C => obtain ⟨h1, h2⟩ := h.h; rw [h1, h2]
  | exc e C => exact h.h.elim
  | stuck => exact h.h.elim
theorem w_out {r : R α} (h : wR r Q noX) : ∃ a C, r = .ok a C ∧ Q a C := by
  cases r with
  | ok a C => exact ⟨a, C, rfl, h.h⟩
  | exc e C => exact h.h.elim
  | stuck => exact h.h.elim
theorem w_bnd {m : R α} {f : α → Store → R β} {Q : β → Store → Prop} (h : wR m (fun a C => wR (f a C) Q E) E) : wR (bnd m f) Q E := by
  cases m with
  | ok a C => exact h.h
  | exc e C => exact ⟨h.h⟩
  | stuck => exact ⟨h.h⟩
theorem w_bndS {m : R α} {sl : List (Option D)} {f : α → Store → RS} (h : wR m (fun a C => wS (f a C) P) (fun e C => P (.xc e sl C))) : wS (bndS sl m f) P := by
  cases m with
  | ok a C => exact h.h
  | exc e C => exact ⟨h.h⟩
  | stuck => exact h.h.elim
theorem wo_of {o : Option (D × Store)} {d : D} {C' : Store} {Q : D → Store → Prop} (e : o = some (d, C')) (h : Q d C') : wO o Q := ⟨d, C', e, h⟩
theorem w_ofO {o : Option (D × Store)} {Q : D → Store → Prop} (h : wO o Q) : wR (ofO o) Q E := by
  obtain ⟨d, C', e, q⟩ := h.h
  rw [e]
  exact ⟨q⟩
theorem gR {r : R α} (h : wR r Q E) : wR r Q E := h
theorem gO {o : Option (D × Store)} {Q : D → Store → Prop} (h : wO o Q) : wO o Q := h
theorem gS {r : RS} (h : wS r P) : wS r P := h
theorem gI {b : Bool} {p q : Prop} (h : wI b p q) : wI b p q := h
theorem wI_t {p q : Prop} (h : p) : wI true p q := ⟨h⟩
theorem wI_f {p q : Prop} (h : q) : wI false p q := ⟨h⟩
theorem wI_d {b : Prop} [Decidable b] {p q : Prop} (h : b → p) (g : ¬ b → q) : wI (decide b) p q := by
  by_cases hb : b
  · rw [decide_eq_true hb]; exact ⟨h hb⟩
  · rw [decide_eq_false hb]; exact ⟨g hb⟩
theorem wI_dt {b : Prop} [Decidable b] {p q : Prop} (hb : b) (h : p) : wI (decide b) p q := by rw [decide_eq_true hb]; exact ⟨h⟩
theorem wI_df {b : Prop} [Decidable b] {p q : Prop} (hb : ¬ b) (h : q) : wI (decide b) p q := by rw [decide_eq_false hb]; exact ⟨h⟩
theorem wI_not {b : Bool} {p q : Prop} (h : wI b q p) : wI (!b) p q := by cases b <;> exact ⟨h.h⟩
end
/-! ### expressions -/
section
variable {Q : D → Store → Prop} {E : Exc → Store → Prop} {F : Fr} {C : Store}
theorem w_var {i : Nat} {fl : Nat} {sl : List (Option D)} {d : D} (e : sl[i]? = some (some d)) (h : Q d C) : wR (mVar i ⟨fl, sl⟩ C) Q E := by
  refine w_of (a := d) (C' := C) ?_ h
  show (match sl[i]? with
    | some (some d) => R.ok d C
    | _ => R.stuck) = _
  rw [e]
theorem w_c {d : D} (h : Q d C) : wR (mC d F C) Q E := ⟨h⟩
theorem w_op {o : O2} {a b : ME} (h : wR (a F C) (fun x C1 => wR (b F C1) (fun y C2 => wO (o x y C2) Q) E) E) : wR (mOp o a b F C) Q E :=
  w_bnd (w_mono h (fun _ _ g => w_bnd (w_mono g (fun _ _ g => w_ofO g) fun _ _ z => z)) fun _ _ z => z)
theorem w_un {o : O1} {a : ME} (h : wR (a F C) (fun x C1 => wO (o x C1) Q) E) : wR (mUn o a F C) Q E :=
  w_bnd (w_mono h (fun _ _ g => w_ofO g) fun _ _ z => z)
theorem w_ap {o : OA} {a : MA} (h : wR (a F C) (fun x C1 => wO (o x C1) Q) E) : wR (mAp o a F C) Q E :=
  w_bnd (w_mono h (fun _ _ g => w_ofO g) fun _ _ z => z)
theorem w_nil {Q : List D → Store → Prop} (h : Q [] C) : wR (mNil F C) Q E := ⟨h⟩
theorem w_cons {a : ME} {r : MA} {Q : List D → Store → Prop} (h : wR (a F C) (fun x C1 => wR (r F C1) (fun xs C2 => Q (x :: xs) C2) E) E) : wR (mCons a r F C) Q E :=
  w_bnd (w_mono h (fun _ _ g => w_bnd (w_mono g (fun _ _ g => w_ok g) fun _ _ z => z)) fun _ _ z => z)
theorem w_call {m : MF} {dds : List D} {a : MA} (h : wR (a F C) (fun xs C1 => wR (m (xs ++ dds) C1) Q E) E) : wR (mCall m dds a F C) Q E := w_bnd h
theorem w_tst {a : ME} {Q : Bool → Store → Prop} (h : wR (a F C) (fun d C1 => ∃ b, d = .bl b ∧ Q b C1) E) : wR (mTst a F C) Q E :=
  w_bnd (w_mono h (fun d C1 g => by obtain ⟨b, rfl, q⟩ := g; exact w_ok q) fun _ _ z => z)
theorem w_bl {b : Bool} {q : Bool → Prop} (h : q b) : ∃ b', D.bl b = .bl b' ∧ q b' := ⟨b, rfl, h⟩
theorem w_tand {a b : MT} {Q : Bool → Store → Prop} (h : wR (a F C) (fun x C1 => wI x (wR (b F C1) Q E) (Q false C1)) E) : wR (tAndM a b F C) Q E :=
  w_bnd (w_mono h (fun x C1 g => by
    cases x
    · exact w_ok g.h
    · exact g.h) fun _ _ z => z)
theorem w_tor {a b : MT} {Q : Bool → Store → Prop} (h : wR (a F C) (fun x C1 => wI x (Q true C1) (wR (b F C1) Q E)) E) : wR (tOrM a b F C) Q E :=
  w_bnd (w_mono h (fun x C1 g => by
    cases x
    · exact g.h
    · exact w_ok g.h) fun _ _ z => z)
theorem w_tnot {a : MT} {Q : Bool → Store → Prop} (h : wR (a F C) (fun x C1 => Q (!x) C1) E) : wR (tNotM a F C) Q E := w_bnd (w_mono h (fun _ _ g => w_ok g) fun _ _ z => z)
theorem w_yes {Q : Bool → Store → Prop} (h : Q true C) : wR (tYesM F C) Q E := ⟨h⟩
theorem w_and {a b : ME} (h : wR (a F C) (fun d C1 => ∃ x, d = .bl x ∧ wI x (wR (b F C1) Q E) (Q (.bl false) C1)) E) : wR (mAnd a b F C) Q E :=
  w_bnd (w_mono h (fun d C1 g => by
    obtain ⟨x, rfl, q⟩ := g
    cases x
    · exact w_ok q.h
    · exact q.h) fun _ _ z => z)
theorem w_or {a b : ME} (h : wR (a F C) (fun d C1 => ∃ x, d = .bl x ∧ wI x (Q (.bl true) C1) (wR (b F C1) Q E)) E) : wR (mOr a b F C) Q E :=
  w_bnd (w_mono h (fun d C1 g => by
    obtain ⟨x, rfl, q⟩ := g
    cases x
    · exact q.h
    · exact w_ok q.h) fun _ _ z => z)
theorem w_not {a : ME} (h : wR (a F C) (fun d C1 => ∃ x, d = .bl x ∧ Q (.bl (!x)) C1) E) : wR (mNot a F C) Q E :=
  w_bnd (w_mono h (fun d C1 g => by obtain ⟨x, rfl, q⟩ := g; exact w_ok q) fun _ _ z => z)
theorem w_if {t : MT} {a b : ME} (h : wR (t F C) (fun x C1 => wI x (wR (a F C1) Q E) (wR (b F C1) Q E)) E) : wR (mIf t a b F C) Q E :=
  w_bnd (w_mono h (fun x C1 g => by cases x <;> exact g.h) fun _ _ z => z)
theorem w_chain {o o' : O2} {a b c : ME} (h : wR (a F C) (fun x C1 => wR (b F C1) (fun y C2 => wO (o x y C2) fun z C3 => ∃ t, z = .bl t ∧ wI t (wR (c F C3) (fun w C4 => wO (o' y w C4) Q) E) (Q (.bl false) C3)) E) E) : wR (mChain o o' a b c F C) Q E :=
  w_bnd (w_mono h (fun x C1 g => w_bnd (w_mono g (fun y C2 g => w_bnd (w_ofO (by
    obtain ⟨d, C3, e, t, rfl, q⟩ := g.h
    refine wo_of e ?_
    cases t
    · exact w_ok q.h
    · exact w_bnd (w_mono q.h (fun _ _ g => w_ofO g) fun _ _ z => z)))) fun _ _ z => z)) fun _ _ z => z)
theorem w_prop {c : Nat} {m : MF} {mo : ME} (h : wR (mo F C) (fun d C1 => ∃ fs, d = .obj c fs ∧ wR (m [d] C1) Q noX) E) : wR (mProp c m mo F C) Q E :=
  w_bnd (w_mono h (fun d C1 g => by
    obtain ⟨fs, rfl, q⟩ := g
    show wR (if c = c then (match m [.obj c fs] C1 with
      | .ok d C2 => R.ok d C2
      | _ => R.stuck) else R.stuck) Q E
    rw [if_pos rfl]
    obtain ⟨a, C2, e, q⟩ := w_out q
    rw [e]
    exact w_ok q) fun _ _ z => z)
theorem w_meth {c : Nat} {m : MF} {dds : List D} {mo : ME} {a : MA} (h : wR (mo F C) (fun d C1 => ∃ fs, d = .obj c fs ∧ wR (a F C1) (fun xs C2 => wR (m (d :: (xs ++ dds)) C2) Q E) E) E) : wR (mMeth c m dds mo a F C) Q E :=
  w_bnd (w_mono h (fun d C1 g => by
    obtain ⟨fs, rfl, q⟩ := g
    simp only [vO, if_true]
    exact w_bnd q) fun _ _ z => z)
theorem w_obj {c : Nat} {fs : List D} {q : Prop} (h : q) : ∃ gs, D.obj c fs = .obj c gs ∧ q := ⟨fs, rfl, h⟩
theorem w_dget {a b c : ME} (h : wR (a F C) (fun x C1 => (vD x C1).isSome = true ∧ wR (b F C1) (fun y C2 => wR (c F C2) (fun z C3 => wO (oDGet x y z C3) Q) E) E) E) : wR (mDGet a b c F C) Q E :=
  w_bnd (w_mono h (fun x C1 g => by
    rw [if_pos g.1]
    exact w_bnd (w_mono g.2 (fun _ _ g => w_bnd (w_mono g (fun _ _ g => w_ofO g) fun _ _ z => z)) fun _ _ z => z)) fun _ _ z => z)
theorem w_isi {kn : List Nat} {t : Cc} {m : ME} (h : wR (m F C) (fun d C1 => ∃ b, isi kn d C1 t = some b ∧ Q (.bl b) C1) E) : wR (mIsi kn t m F C) Q E :=
  w_bnd (w_mono h (fun d C1 g => by obtain ⟨b, e, q⟩ := g; rw [e]; exact w_ok q) fun _ _ z => z)
theorem w_isi2 {kn : List Nat} {t u : Cc} {m : ME} (h : wR (m F C) (fun d C1 => ∃ b b', isi kn d C1 t = some b ∧ isi kn d C1 u = some b' ∧ Q (.bl (b || b')) C1) E) : wR (mIsi2 kn t u m F C) Q E :=
  w_bnd (w_mono h (fun d C1 g => by obtain ⟨b, b', e, e', q⟩ := g; rw [e, e']; exact w_ok q) fun _ _ z => z)
theorem w_part {m : ME} {Q : Option Int → Store → Prop} (h : wR (m F C) (fun d C1 => ∃ i, d = .int i ∧ Q (some i) C1) E) : wR (mPart m F C) Q E :=
  w_bnd (w_mono h (fun d C1 g => by obtain ⟨b, rfl, q⟩ := g; exact w_ok q) fun _ _ z => z)
theorem w_noPart {Q : Option Int → Store → Prop} (h : Q none C) : wR (mNoPart F C) Q E := ⟨h⟩
theorem w_slL {own : Bool} {a : ME} {l u : Fr → Store → R (Option Int)} (h : wR (a F C) (fun x C1 => wR (l F C1) (fun lo C2 => wR (u F C2) (fun hi C3 => ∃ xs, vLs x C3 = some xs ∧ Q (mkL own (cutD xs lo hi) C3).1 (mkL own (cutD xs lo hi) C3).2) E) E) E) : wR (mSlL own a l u F C) Q E :=
  w_bnd (w_mono h (fun _ _ g => w_bnd (w_mono g (fun _ _ g => w_bnd (w_mono g (fun _ _ g => by obtain ⟨xs, e, q⟩ := g; simp only [e]; exact w_ok q) fun _ _ z => z)) fun _ _ z => z)) fun _ _ z => z)
theorem w_slA {a : ME} {l u : Fr → Store → R (Option Int)} (h : wR (a F C) (fun x C1 => wR (l F C1) (fun lo C2 => wR (u F C2) (fun hi C3 => ∃ xs, x = .tup xs ∧ Q (.tup (cutD xs lo hi)) C3) E) E) E) : wR (mSlA a l u F C) Q E :=
  w_bnd (w_mono h (fun _ _ g => w_bnd (w_mono g (fun lo _ g => w_bnd (w_mono g (fun hi _ g => by
    obtain ⟨xs, rfl, q⟩ := g
    simp only [vT]
    split
    · rename_i hh
      have e : cutD xs lo hi = xs := by
        unfold cutD
        rw [hh.1, hh.2]
        simp
      rw [e] at q
      exact w_ok q
    · exact w_ok q) fun _ _ z => z)) fun _ _ z => z)) fun _ _ z => z)
theorem w_int {i : Int} {q : Int → Prop} (h : q i) : ∃ j, D.int i = .int j ∧ q j := ⟨i, rfl, h⟩
end
/-! ### operators -/
section
variable {Q : D → Store → Prop} {C : Store}
theorem wo_add {a b : Int} (h : Q (.int (a + b)) C) : wO (oAdd (.int a) (.int b) C) Q := wo_of rfl h
theorem wo_sub {a b : Int} (h : Q (.int (a - b)) C) : wO (oSub (.int a) (.int b) C) Q := wo_of rfl h
theorem wo_neg {a : Int} (h : Q (.int (-a)) C) : wO (oNeg (.int a) C) Q := wo_of rfl h
theorem wo_lt {a b : Int} (h : Q (.bl (decide (a < b))) C) : wO (oLt (.int a) (.int b) C) Q := wo_of rfl h
theorem wo_le {a b : Int} (h : Q (.bl (decide (a ≤ b))) C) : wO (oLe (.int a) (.int b) C) Q := wo_of rfl h
theorem wo_gt {a b : Int} (h : Q (.bl (decide (b < a))) C) : wO (oGt (.int a) (.int b) C) Q := wo_of rfl h
theorem wo_ge {a b : Int} (h : Q (.bl (decide (b ≤ a))) C) : wO (oGe (.int a) (.int b) C) Q := wo_of rfl h
theorem wo_eq {a b : Int} (h : Q (.bl (decide (a = b))) C) : wO (oEqA false (.int a) (.int b) C) Q := wo_of rfl h
theorem wo_ne {a b : Int} (h : Q (.bl (!decide (a = b))) C) : wO (oEqA true (.int a) (.int b) C) Q := wo_of rfl h
theorem wo_eqS {a b : Str} (h : Q (.bl (decide (a = b))) C) : wO (oEqA false (.str a) (.str b) C) Q := wo_of rfl h
theorem wo_neS {a b : Str} (h : Q (.bl (!decide (a = b))) C) : wO (oEqA true (.str a) (.str b) C) Q := wo_of rfl h
theorem wo_mul {a b : Int} (e : cMul a b = true) (h : Q (.int (a * b)) C) : wO (oMul (.int a) (.int b) C) Q := wo_of (ev_mul C e) h
theorem wo_div {a b : Int} (e : 0 < b) (e2 : b < 4611686018427387904) (h : Q (.int (a / b)) C) : wO (oDiv (.int a) (.int b) C) Q := wo_of (ev_div C e e2) h
theorem wo_min {a b : Int} (h : Q (.int (min a b)) C) : wO (oMin2 [.int a, .int b] C) Q := wo_of (ev_min C a b) h
theorem wo_max {a b : Int} (h : Q (.int (max a b)) C) : wO (oMax2 [.int a, .int b] C) Q := wo_of (ev_max C a b) h
theorem wo_int {a : Int} (h : Q (.int a) C) : wO (oInt [.int a] C) Q := wo_of rfl h
theorem wo_abs {a : Int} (h : Q (.int (a.natAbs : Int)) C) : wO (oAbs [.int a] C) Q := wo_of (ev_abs C a) h
theorem wo_lst {own : Bool} {xs : List D} (e : szN xs.length = true) (h : Q (mkL own xs C).1 (mkL own xs C).2) : wO (oLst own xs C) Q := by
  refine wo_of ?_ h
  unfold oLst
  rw [if_pos e]
theorem wo_lstF {xs : List D} (e : szN xs.length = true) (h : Q (.lst xs) C) : wO (oLst false xs C) Q := wo_lst e h
theorem wo_lstT {xs : List D} (e : szN xs.length = true) (h : Q (.cell C.length) (C ++ [some (.lst xs)])) : wO (oLst true xs C) Q := wo_lst e h
theorem w_dnewF {E : Exc → Store → Prop} {F : Fr} (h : Q (.dT [] []) C) : wR (mDNew false F C) Q E := ⟨h⟩
theorem w_dnewT {E : Exc → Store → Prop} {F : Fr} (h : Q (.cell C.length) (C ++ [some (.dT [] [])])) : wR (mDNew true F C) Q E := ⟨h⟩
theorem w_slLF {E : Exc → Store → Prop} {F : Fr} {a : ME} {l u : Fr → Store → R (Option Int)} (h : wR (a F C) (fun x C1 => wR (l F C1) (fun lo C2 => wR (u F C2) (fun hi C3 => ∃ xs, vLs x C3 = some xs ∧ Q (.lst (cutD xs lo hi)) C3) E) E) E) : wR (mSlL false a l u F C) Q E := w_slL h
theorem wo_tup {xs : List D} (e : szN xs.length = true) (h : Q (.tup xs) C) : wO (oTup xs C) Q := by
  refine wo_of ?_ h
  unfold oTup
  rw [if_pos e]
theorem wo_fld {c n : Nat} {fs : List D} {d : D} (e : fs[n]? = some d) (h : Q d C) : wO (oFld c n (.obj c fs) C) Q := by
  refine wo_of ?_ h
  rw [ev_fld, e]
  rfl
theorem wo_len {x : D} {xs : List D} (e : vS x C = some xs) (h : Q (.int xs.length) C) : wO (oLen [x] C) Q := by
  refine wo_of (d := .int xs.length) (C' := C) ?_ h
  simp only [oLen, e, Option.map_some]
theorem wo_ix {x : D} {xs : List D} {i : Int} {k : Nat} {d : D} (e : vS x C = some xs) (hi : i = k) (hk : xs[k]? = some d) (h : Q d C) : wO (oIx x (.int i) C) Q := by
  subst hi
  have hl : k < xs.length := (List.getElem?_eq_some_iff.mp hk).1
  have e2 : atI xs (k : Int) = some d := by
    unfold atI ixN
    have h0 : (0 : Int) ≤ k := by omega
    simp [hl]
    exact (List.getElem?_eq_some_iff.mp hk).2
  refine wo_of (d := d) (C' := C) ?_ h
  unfold oIx
  rw [e]
  simp only [Option.bind_some, e2, Option.map_some]
end
/-! ### statements -/
def thn (b : MS) (fl : Nat) (P : RS → Prop) : RS → Prop := fun r => match r with
  | .nx sl C => wS (b ⟨fl, sl⟩ C) P
  | r => P r
section
variable {P : RS → Prop} {F : Fr} {C : Store} {E : Exc → Store → Prop}
theorem w_seq {a b : MS} {fl : Nat} {sl : List (Option D)} (h : wS (a ⟨fl, sl⟩ C) (thn b fl P)) : wS (sSeq a b ⟨fl, sl⟩ C) P := by
  have h := h.h
  unfold sSeq
  cases e : a ⟨fl, sl⟩ C with
  | nx sl C1 => rw [e] at h; exact h
  | rt d C1 => rw [e] at h; exact ⟨h⟩
  | bk d C1 => rw [e] at h; exact ⟨h⟩
  | ct d C1 => rw [e] at h; exact ⟨h⟩
  | xc x d C1 => rw [e] at h; exact ⟨h⟩
  | stuck => rw [e] at h; exact ⟨h⟩
theorem thn_nx {b : MS} {fl : Nat} {sl : List (Option D)} (h : wS (b ⟨fl, sl⟩ C) P) : thn b fl P (.nx sl C) := h
theorem thn_rt {b : MS} {fl : Nat} {d : D} (h : P (.rt d C)) : thn b fl P (.rt d C) := h
theorem thn_bk {b : MS} {fl : Nat} {sl : List (Option D)} (h : P (.bk sl C)) : thn b fl P (.bk sl C) := h
theorem thn_ct {b : MS} {fl : Nat} {sl : List (Option D)} (h : P (.ct sl C)) : thn b fl P (.ct sl C) := h
theorem thn_xc {b : MS} {fl : Nat} {e : Exc} {sl : List (Option D)} (h : P (.xc e sl C)) : thn b fl P (.xc e sl C) := h
theorem w_next {fl : Nat} {sl : List (Option D)} (h : P (.nx sl C)) : wS (sNext ⟨fl, sl⟩ C) P := ⟨h⟩
theorem w_brk {fl : Nat} {sl : List (Option D)} (h : P (.bk sl C)) : wS (sBrk ⟨fl, sl⟩ C) P := ⟨h⟩
theorem w_cnt {fl : Nat} {sl : List (Option D)} (h : P (.ct sl C)) : wS (sCnt ⟨fl, sl⟩ C) P := ⟨h⟩
theorem w_drop {m : ME} {fl : Nat} {sl : List (Option D)} (h : wR (m ⟨fl, sl⟩ C) (fun _ C1 => P (.nx sl C1)) (fun e C1 => P (.xc e sl C1))) : wS (sDrop m ⟨fl, sl⟩ C) P := w_bndS (w_mono h (fun _ _ g => ⟨g⟩) fun _ _ z => z)
theorem w_ret {m : ME} {fl : Nat} {sl : List (Option D)} (h : wR (m ⟨fl, sl⟩ C) (fun d C1 => P (.rt d C1)) (fun e C1 => P (.xc e sl C1))) : wS (sRet m ⟨fl, sl⟩ C) P := w_bndS (w_mono h (fun _ _ g => ⟨g⟩) fun _ _ z => z)
theorem w_retN (h : P (.rt .non C)) : wS (sRetN F C) P := ⟨h⟩
theorem w_sif {t : MT} {a b : MS} {fl : Nat} {sl : List (Option D)} (h : wR (t ⟨fl, sl⟩ C) (fun x C1 => wI x (wS (a ⟨fl, sl⟩ C1) P) (wS (b ⟨fl, sl⟩ C1) P)) (fun e C1 => P (.xc e sl C1))) : wS (sIf t a b ⟨fl, sl⟩ C) P :=
  w_bndS (w_mono h (fun x C1 g => by cases x <;> exact g.h) fun _ _ z => z)
theorem w_asg {m : ME} {i fl : Nat} {sl : List (Option D)} (h : wR (m ⟨fl, sl⟩ C) (fun d C1 => P (.nx (sl.set i (some d)) C1)) (fun e C1 => P (.xc e sl C1))) : wS (sAsg m (gN i) ⟨fl, sl⟩ C) P := w_bndS (w_mono h (fun _ _ g => ⟨g⟩) fun _ _ z => z)
theorem w_asgT {m : ME} {is : List Nat} {fl : Nat} {sl : List (Option D)} (h : wR (m ⟨fl, sl⟩ C) (fun d C1 => ∃ ds sl', d = .tup ds ∧ setAll is ds sl = some sl' ∧ P (.nx sl' C1)) (fun e C1 => P (.xc e sl C1))) : wS (sAsg m (gT is) ⟨fl, sl⟩ C) P :=
  w_bndS (w_mono h (fun x C1 g => by obtain ⟨ds, sl', rfl, e, q⟩ := g; show wS (asgS (setAll is ds sl) C1) P; rw [e]; exact ⟨q⟩) fun _ _ z => z)
theorem w_par {m : MA} {is : List Nat} {fl : Nat} {sl : List (Option D)} (h : wR (m ⟨fl, sl⟩ C) (fun ds C1 => ∃ sl', setAll is ds sl = some sl' ∧ P (.nx sl' C1)) (fun e C1 => P (.xc e sl C1))) : wS (sPar is m ⟨fl, sl⟩ C) P :=
  w_bndS (w_mono h (fun x C1 g => by obtain ⟨sl', e, q⟩ := g; show wS (asgS (setAll is x sl) C1) P; rw [e]; exact ⟨q⟩) fun _ _ z => z)
theorem w_raise {c n : Nat} {ma : MA} {fl : Nat} {sl : List (Option D)} (h : wR (ma ⟨fl, sl⟩ C) (fun ds C1 => ds.length = n ∧ P (.xc ⟨c, ds.reverse⟩ sl C1)) (fun e C1 => P (.xc e sl C1))) : wS (sRaise c n ma ⟨fl, sl⟩ C) P :=
  w_bndS (w_mono h (fun x C1 g => by rw [if_pos g.1]; exact ⟨g.2⟩) fun _ _ z => z)
/-- what stands behind a def's body -/
def fnl (n : Nat) (Q : D → Store → Prop) (E : Exc → Store → Prop) : RS → Prop := fun r => wR (finS n r) Q E
theorem w_fin {n : Nat} {r : RS} {Q : D → Store → Prop} (h : wS r (fnl n Q E)) : wR (finS n r) Q E := h.h
theorem fnl_int {n : Nat} {Q : D → Store → Prop} {i : Int} (h : Q (.int i) (C.take n)) : fnl n Q E (.rt (.int i) C) := w_ok h
theorem fnl_bl {n : Nat} {Q : D → Store → Prop} {i : Bool} (h : Q (.bl i) (C.take n)) : fnl n Q E (.rt (.bl i) C) := w_ok h
theorem fnl_non {n : Nat} {Q : D → Store → Prop} (h : Q .non (C.take n)) : fnl n Q E (.rt .non C) := w_ok h
theorem fnl_str {n : Nat} {Q : D → Store → Prop} {i : Str} (h : Q (.str i) (C.take n)) : fnl n Q E (.rt (.str i) C) := w_ok h
theorem fnl_nx {n : Nat} {Q : D → Store → Prop} {sl : List (Option D)} (h : Q .non (C.take n)) : fnl n Q E (.nx sl C) := w_ok h
theorem fnl_d {n : Nat} {Q : D → Store → Prop} {d : D} (e : ∀ i, d ≠ .cell i) (hc : cb n d = true) (h : Q d (C.take n)) : fnl n Q E (.rt d C) := by
  have z : fz n d C = d := by
    unfold fz
    split
    · exact absurd rfl (e _)
    · rfl
  show wR (fin n d C) Q E
  unfold fin
  rw [z, if_pos hc]
  exact w_ok h
theorem fnl_xc {n : Nat} {Q : D → Store → Prop} {x : Exc} {sl : List (Option D)} (hc : cbL n x.fs = true) (h : E x (C.take n)) : fnl n Q E (.xc x sl C) := by
  show wR (if cbL n x.fs = true then R.exc x (C.take n) else R.stuck) Q E
  rw [if_pos hc]
  exact w_exc h
end
/-! ### loops -/
def lpP (I : Nat → List (Option D) → Store → Prop) (j : Nat) (P : RS → Prop) : RS → Prop := fun r => match r with
  | .nx sl C => I j sl C
  | .ct sl C => I j sl C
  | .bk sl C => P (.nx sl C)
  | .rt d C => P (.rt d C)
  | .xc e sl C => P (.xc e sl C)
  | .stuck => False
theorem lp_nx {I : Nat → List (Option D) → Store → Prop} {j : Nat} {P : RS → Prop} {sl : List (Option D)} {C : Store} (h : I j sl C) : lpP I j P (.nx sl C) := h
theorem lp_rt {I : Nat → List (Option D) → Store → Prop} {j : Nat} {P : RS → Prop} {d : D} {C : Store} (h : P (.rt d C)) : lpP I j P (.rt d C) := h
theorem lp_bk {I : Nat → List (Option D) → Store → Prop} {j : Nat} {P : RS → Prop} {sl : List (Option D)} {C : Store} (h : P (.nx sl C)) : lpP I j P (.bk sl C) := h
theorem lp_xc {I : Nat → List (Option D) → Store → Prop} {j : Nat} {P : RS → Prop} {e : Exc} {sl : List (Option D)} {C : Store} (h : P (.xc e sl C)) : lpP I j P (.xc e sl C) := h
theorem loop_w {S : Store → Prop} {it : ItD} {xs : List D} (p : ItOn S it xs) {g : MG} {body : MS} {fl : Nat} {P : RS → Prop} (I : Nat → List (Option D) → Store → Prop) (hS : ∀ j sl C, I j sl C → S C)
    (step : ∀ j x sl C, xs[j]? = some x → I j sl C → ∃ sl1, g x sl = some sl1 ∧ wS (body ⟨fl, sl1⟩ C) (lpP I (j + 1) P)) (fin : ∀ sl C, I xs.length sl C → P (.nx sl C)) :
    ∀ r j sl C, r + j = xs.length → I j sl C → wS (loopN it g body fl r j sl C) P
  | 0, j, sl, C, h, i => by
    have e : j = xs.length := by omega
    subst e
    unfold loopN
    rw [if_pos (p.fin C (hS _ _ _ i))]
    exact ⟨fin sl C i⟩
  | r + 1, j, sl, C, h, i => by
    have hj : j < xs.length := by omega
    obtain ⟨sl1, h1, h2⟩ := step j xs[j] sl C (List.getElem?_eq_getElem hj) i
    unfold loopN
    rw [p.item j C (hS _ _ _ i) hj, List.getElem?_eq_getElem hj]
    simp only [h1]
    have h2 := h2.h
    unfold lpP at h2
    cases e : body ⟨fl, sl1⟩ C with
    | nx sl2 C2 => rw [e] at h2; exact loop_w p I hS step fin r (j + 1) sl2 C2 (by omega) h2
    | ct sl2 C2 => rw [e] at h2; exact loop_w p I hS step fin r (j + 1) sl2 C2 (by omega) h2
    | bk sl2 C2 => rw [e] at h2; exact ⟨h2⟩
    | rt d C2 => rw [e] at h2; exact ⟨h2⟩
    | xc x sl2 C2 => rw [e] at h2; exact ⟨h2⟩
    | stuck => rw [e] at h2; exact h2.elim
/-! ### comprehensions -/
theorem lc_w {S : Store → Prop} {it : ItD} {xs : List D} (p : ItOn S it xs) {g : MG} {tt : MT} {te : ME} {n : Nat} {sl : List (Option D)} (J : Nat → List D → Store → Prop) (hS : ∀ j acc C, J j acc C → S C) (hz : ∀ j acc C, J j acc C → acc.length < 16777216)
    (step : ∀ j x acc C, xs[j]? = some x → C[n]? = some (some (.lst acc)) → J j acc C → ∃ sl1, g x sl = some sl1 ∧ wR (tt ⟨n, sl1⟩ C) (fun b C1 => wI b (wR (te ⟨n, sl1⟩ C1) (fun y C2 => ∃ acc', C2[n]? = some (some (.lst acc')) ∧ acc'.length < 16777216 ∧ J (j + 1) (acc' ++ [y]) (C2.set n (some (.lst (acc' ++ [y])))) ∧ n < C2.length) noX) (∃ acc', C1[n]? = some (some (.lst acc')) ∧ J (j + 1) acc' C1)) noX) :
    ∀ r j acc C, r + j = xs.length → C[n]? = some (some (.lst acc)) → J j acc C → ∃ acc' C', lcN it g tt te n sl r j C = .ok () C' ∧ C'[n]? = some (some (.lst acc')) ∧ J xs.length acc' C'
  | 0, j, acc, C, h, c, i => by
    have e : j = xs.length := by omega
    subst e
    unfold lcN
    rw [if_pos (p.fin C (hS _ _ _ i))]
    exact ⟨acc, C, rfl, c, i⟩
  | r + 1, j, acc, C, h, c, i => by
    have hj : j < xs.length := by omega
    obtain ⟨sl1, h1, h2⟩ := step j xs[j] acc C (List.getElem?_eq_getElem hj) c i
    unfold lcN
    rw [p.item j C (hS _ _ _ i) hj, List.getElem?_eq_getElem hj]
    simp only [h1]
    obtain ⟨b, C1, e1, h3⟩ := w_out h2
    rw [e1]
    simp only [bn0_ok]
    cases b with
    | false =>
      obtain ⟨acc', c1, i1⟩ := h3.h
      rw [if_neg (by decide)]
      exact lc_w p J hS hz step r (j + 1) acc' C1 (by omega) c1 i1
    | true =>
      obtain ⟨y, C2, e2, acc', c2, z, i2, hn⟩ := w_out h3.h
      rw [if_pos rfl, e2]
      simp only [bn0_ok]
      rw [c2]
      have hs : szN (acc'.length + 1) = true := by simp only [szN, decide_eq_true_eq]; omega
      simp only [hs, if_true]
      exact lc_w p J hS hz step r (j + 1) (acc' ++ [y]) _ (by omega) (List.getElem?_set_self hn) i2
/-- [e for t in it if c], that may draw -/
theorem w_lc {mi : MI} {g : MG} {tt : MT} {te : ME} {vs : List Nat} {F : Fr} {C C1 : Store} {it : ItD} {xs : List D} {S : Store → Prop} {Q : D → Store → Prop} {E : Exc → Store → Prop} (hi : mi F C = .ok it C1) (p : ItOn S it xs) (J : Nat → List D → Store → Prop) (hS : ∀ j acc C, J j acc C → S C) (hz : ∀ j acc C, J j acc C → acc.length < 16777216)
    (i0 : J 0 [] (C1 ++ [some (.lst [])]))
    (step : ∀ j x acc C, xs[j]? = some x → C[C1.length]? = some (some (.lst acc)) → J j acc C → ∃ sl1, g x (wipeD F.sl vs) = some sl1 ∧ wR (tt ⟨C1.length, sl1⟩ C) (fun b C2 => wI b (wR (te ⟨C1.length, sl1⟩ C2) (fun y C3 => ∃ acc', C3[C1.length]? = some (some (.lst acc')) ∧ acc'.length < 16777216 ∧ J (j + 1) (acc' ++ [y]) (C3.set C1.length (some (.lst (acc' ++ [y])))) ∧ C1.length < C3.length) noX) (∃ acc', C2[C1.length]? = some (some (.lst acc')) ∧ J (j + 1) acc' C2)) noX)
    (fin : ∀ acc C, C[C1.length]? = some (some (.lst acc)) → J xs.length acc C → cbL C1.length acc = true ∧ Q (.lst acc) (C.take C1.length)) : wR (mLc false mi g tt te vs F C) Q E := by
  obtain ⟨acc, C', e, c, i⟩ := lc_w p J hS hz step it.n 0 [] (C1 ++ [some (.lst [])]) (by rw [p.n]; omega) (by simp) i0
  obtain ⟨f1, f2⟩ := fin acc C' c i
  unfold mLc
  rw [hi]
  simp only [bnd_ok]
  rw [e]
  simp only [bn0_ok]
  unfold lcEnd
  rw [if_neg (by decide), c]
  simp only [f1, if_true]
  exact w_ok f2
end CT
set_option maxHeartbeats 4000000
/-! E5: more steps told backwards. -/
namespace CT
open PySem L2
abbrev accS (C : Store) (acc : List D) : Store := C ++ [some (.lst acc)]
theorem fnl_p {n : Nat} {Q : D → Store → Prop} {E : Exc → Store → Prop} {d : D} {C : Store} (hc : cb 0 d = true) (h : Q d (C.take n)) : fnl n Q E (.rt d C) :=
  fnl_d (fun i e => by subst e; simp [cb] at hc) (cb_mono (Nat.zero_le _) hc) h
/-- an own list becomes plain data -/
theorem fnl_own {n : Nat} {Q : D → Store → Prop} {E : Exc → Store → Prop} {i : Nat} {xs : List D} {C : Store} (hi : n ≤ i) (hC : C[i]? = some (some (.lst xs))) (hc : cbL n xs = true) (h : Q (.lst xs) (C.take n)) : fnl n Q E (.rt (.cell i) C) := by
  show wR (fin n (.cell i) C) Q E
  have z : fz n (.cell i) C = .lst xs := by
    unfold fz
    simp [hC, hi]
  unfold fin
  rw [z, if_pos (by simpa [cb] using hc)]
  exact w_ok h
theorem w_mkT {Q : D → Store → Prop} {E : Exc → Store → Prop} {F : Fr} {C : Store} {own : Bool} {c nf : Nat} {m : MF} {dds : List D} {a : MA} (h : wR (a F C) (fun ds C1 => wR (mMake own c nf m dds (fun _ _ => .ok ds C1) F C1) Q E) E) : wR (mMake own c nf m dds a F C) Q E := by
  unfold mMake at h ⊢
  exact w_bnd h
/-- a list of cells' store that has one cell more -/
theorem take_app {C Y : Store} {n : Nat} (h : C.length = n) : (C ++ Y).take n = C := by subst h; simp
theorem wo_tupL {xs : List D} {C : Store} {Q : D → Store → Prop} (h : Q (.tup xs) C) : wO (oTupOf [.lst xs] C) Q := wo_of rfl h
theorem wo_tupT {xs : List D} {C : Store} {Q : D → Store → Prop} (h : Q (.tup xs) C) : wO (oTupOf [.tup xs] C) Q := wo_of rfl h
theorem wo_tupC {xs : List D} {C : Store} {Q : D → Store → Prop} {i : Nat} (e : C[i]? = some (some (.lst xs))) (h : Q (.tup xs) C) : wO (oTupOf [.cell i] C) Q := wo_of (by simp [oTupOf, vL, e]) h
theorem wo_catF {xs ys : List D} {C : Store} {Q : D → Store → Prop} (e : xs.length + ys.length ≤ 16777216) (h : Q (.lst (xs ++ ys)) C) : wO (oCat false (.lst xs) (.lst ys) C) Q := wo_of (by simp [oCat, vL, szN, e, mkL]) h
theorem wo_listF {x : D} {xs : List D} {C : Store} {Q : D → Store → Prop} (e : vS x C = some xs) (h : Q (.lst xs) C) : wO (oListOf false [x] C) Q := wo_of (by simp [oListOf, e, mkL]) h
theorem cut_mem {xs : List D} {lo hi : Option Int} {x : D} (h : x ∈ cutD xs lo hi) : x ∈ xs := List.mem_of_mem_drop (List.mem_of_mem_take h)
theorem cut_len (xs : List D) (lo hi : Option Int) : (cutD xs lo hi).length ≤ xs.length := by
  unfold cutD
  simp only [List.length_take, List.length_drop]
  omega
theorem get_new {C Y : Store} {c : Option Cell} : (C ++ c :: Y)[C.length]? = some c := by simp
/-! ### writing -/
theorem w_augL {o : Int → Int → Int} {mo mi me : ME} {fl : Nat} {sl : List (Option D)} {C : Store} {P : RS → Prop} (h : wR (mo ⟨fl, sl⟩ C) (fun l C1 => wR (mi ⟨fl, sl⟩ C1) (fun x C2 => ∃ (n : Nat) (i : Nat) (ds : List D) (a : Int), x = .int n ∧ cL l C2 = some (i, ds) ∧ ds[n]? = some (.int a) ∧ wR (me ⟨fl, sl⟩ C2) (fun v C3 => ∃ b es C4, v = .int b ∧ cL l C3 = some (i, es) ∧ n < es.length ∧ wr fl i (.lst (es.set n (.int (o a b)))) C3 = some C4 ∧ P (.nx sl C4)) (fun e C => P (.xc e sl C))) (fun e C => P (.xc e sl C))) (fun e C => P (.xc e sl C))) : wS (sAugL o mo mi me ⟨fl, sl⟩ C) P :=
  w_bndS (w_mono h (fun l C1 g => w_bndS (w_mono g (fun x C2 g => by
    obtain ⟨n, i, ds, a, rfl, e1, e2, g⟩ := g
    have h0 : (0 : Int) ≤ (n : Int) := by omega
    have h1 : ((n : Nat) : Int).toNat = n := by omega
    simp only [e1, h0, if_true, h1, e2]
    refine w_bndS (w_mono g (fun v C3 g => ?_) fun _ _ z => z)
    obtain ⟨b, es, C4, rfl, e3, e4, e5, q⟩ := g
    have e6 : ixN es.length (n : Int) = some n := by
      unfold ixN
      simp [e4]
    simp only [e3, e6, e5]
    exact ⟨q⟩) fun _ _ z => z)) fun _ _ z => z)
theorem wr_hi {fl i : Nat} {c : Cell} {C : Store} (h : fl ≤ i) : wr fl i c C = some (C.set i (some c)) := by
  unfold wr
  rw [if_neg (fun z => by omega)]
theorem w_append {mo me : ME} {F : Fr} {C : Store} {Q : D → Store → Prop} {E : Exc → Store → Prop} (h : wR (mo F C) (fun o C1 => (vL o C1).isSome = true ∧ wR (me F C1) (fun v C2 => ∃ i ds, cL o C2 = some (i, ds) ∧ F.fl ≤ i ∧ ds.length < 16777216 ∧ Q .non (C2.set i (some (.lst (ds ++ [v]))))) E) E) : wR (mAppend mo me F C) Q E := by
  unfold mAppend
  refine w_bnd (w_mono h (fun o C1 g => ?_) fun _ _ z => z)
  rw [if_pos g.1]
  refine w_bnd (w_mono g.2 (fun v C2 g => ?_) fun _ _ z => z)
  obtain ⟨i, ds, e, hi, hz, q⟩ := g
  have hs : szN (ds.length + 1) = true := by simp only [szN, decide_eq_true_eq]; omega
  simp only [e, hs, if_true, wr_hi hi]
  exact w_ok q
end CT
set_option maxHeartbeats 4000000
/-! E6: walks and comprehensions, step by step. -/
namespace CT
open PySem L2
section
variable {E : Exc → Store → Prop} {F : Fr} {C : Store} {P : RS → Prop}
theorem w_forI {mi : MI} {g : MG} {body : MS} {fl : Nat} {sl : List (Option D)} (h : wR (mi ⟨fl, sl⟩ C) (fun it C1 => wS (loopN it g body fl it.n 0 sl C1) P) (fun e C1 => P (.xc e sl C1))) : wS (sFor mi g body ⟨fl, sl⟩ C) P := w_bndS h
theorem w_seqI {m : ME} {Q : ItD → Store → Prop} (h : wR (m F C) (fun d C1 => ∃ it, itS d C1 = some it ∧ Q it C1) E) : wR (mSeq m F C) Q E :=
  w_bnd (w_mono h (fun d C1 g => by obtain ⟨it, e, q⟩ := g; simp only [e]; exact w_ok q) fun _ _ z => z)
theorem w_enum {m : ME} {Q : ItD → Store → Prop} (h : wR (m F C) (fun d C1 => ∃ it, itS d C1 = some it ∧ Q (prI it) C1) E) : wR (mEnum m F C) Q E :=
  w_bnd (w_mono h (fun d C1 g => by obtain ⟨it, e, q⟩ := g; simp only [e]; exact w_ok q) fun _ _ z => z)
theorem w_itL {xs : List D} {q : ItD → Prop} (h : q (itC xs)) : ∃ it, itS (.lst xs) C = some it ∧ q it := ⟨_, rfl, h⟩
theorem w_itT {xs : List D} {q : ItD → Prop} (h : q (itC xs)) : ∃ it, itS (.tup xs) C = some it ∧ q it := ⟨_, rfl, h⟩
theorem w_itK {xs : List D} {q : ItD → Prop} (h : q (itC xs)) : ∃ it, itS (.kt xs) C = some it ∧ q it := ⟨_, rfl, h⟩
theorem w_rng1 {m : ME} {Q : ItD → Store → Prop} (h : wR (m F C) (fun d C1 => ∃ j, d = .int j ∧ inR j = true ∧ Q (itR 0 j.toNat) C1) E) : wR (mRng1 m F C) Q E :=
  w_bnd (w_mono h (fun d C1 g => by obtain ⟨j, rfl, e, q⟩ := g; simp only [e, if_true]; exact w_ok q) fun _ _ z => z)
theorem w_rng2 {m m2 : ME} {Q : ItD → Store → Prop} (h : wR (m F C) (fun d C1 => wR (m2 F C1) (fun e C2 => ∃ i j, d = .int i ∧ e = .int j ∧ inR i = true ∧ inR j = true ∧ Q (itR i (j - i).toNat) C2) E) E) : wR (mRng2 m m2 F C) Q E :=
  w_bnd (w_mono h (fun d C1 g => w_bnd (w_mono g (fun e C2 g => by obtain ⟨i, j, rfl, rfl, e1, e2, q⟩ := g; simp only [e1, e2, Bool.and_self, if_true]; exact w_ok q) fun _ _ z => z)) fun _ _ z => z)
theorem inR_of {j : Int} (h : -1000000000000 ≤ j) (h2 : j ≤ 1000000000000) : inR j = true := by
  have e1 : decide (-(2 ^ 62) ≤ j) = true := decide_eq_true (by omega)
  have e2 : decide (j < 2 ^ 62) = true := decide_eq_true (by omega)
  simp only [inR, e1, e2, Bool.and_self]
theorem loop_p {it : ItD} {xs : List D} (p : PureIt it xs) {g : MG} {body : MS} {fl : Nat} {sl : List (Option D)} (I : Nat → List (Option D) → Store → Prop) (i0 : I 0 sl C)
    (step : ∀ j x sl C, xs[j]? = some x → I j sl C → ∃ sl1, g x sl = some sl1 ∧ wS (body ⟨fl, sl1⟩ C) (lpP I (j + 1) P)) (fin : ∀ sl C, I xs.length sl C → P (.nx sl C)) : wS (loopN it g body fl it.n 0 sl C) P :=
  loop_w (p.on fun _ => True) I (fun _ _ _ _ => trivial) step fin it.n 0 sl C (by rw [p.n]; omega) i0
theorem loop_o {S : Store → Prop} {it : ItD} {xs : List D} (p : ItOn S it xs) {g : MG} {body : MS} {fl : Nat} {sl : List (Option D)} (I : Nat → List (Option D) → Store → Prop) (hS : ∀ j sl C, I j sl C → S C) (i0 : I 0 sl C)
    (step : ∀ j x sl C, xs[j]? = some x → I j sl C → ∃ sl1, g x sl = some sl1 ∧ wS (body ⟨fl, sl1⟩ C) (lpP I (j + 1) P)) (fin : ∀ sl C, I xs.length sl C → P (.nx sl C)) : wS (loopN it g body fl it.n 0 sl C) P :=
  loop_w p I hS step fin it.n 0 sl C (by rw [p.n]; omega) i0
def lcR (it : ItD) (g : MG) (tt : MT) (te : ME) (vs : List Nat) (F : Fr) (C1 : Store) : R D := mLc false (fun _ C => .ok it C) g tt te vs F C1
theorem w_lcI {mi : MI} {g : MG} {tt : MT} {te : ME} {vs : List Nat} {Q : D → Store → Prop} (h : wR (mi F C) (fun it C1 => wR (lcR it g tt te vs F C1) Q E) E) : wR (mLc false mi g tt te vs F C) Q E := by
  unfold lcR mLc at h
  unfold mLc
  exact w_bnd h
/-- a comprehension that draws from the cell b and keeps all else; R tells of each item -/
theorem lc_d {it : ItD} {xs : List D} {g : MG} {te : ME} {vs : List Nat} {Q : D → Store → Prop} (p : PureIt it xs) (B : Store → Prop) (Rel : D → D → Prop) (sz : xs.length ≤ 16777215) (b0 : B C)
    (hb : ∀ x d n, x ∈ xs → Rel x d → cb n d = true)
    (st : ∀ x ∈ xs, ∃ sl1, g x (wipeD F.sl vs) = some sl1 ∧ ∀ C' acc, B C' → C'.length = C.length → wR (te ⟨C.length, sl1⟩ (accS C' acc)) (fun d S => ∃ C'', S = accS C'' acc ∧ B C'' ∧ C''.length = C.length ∧ Rel x d) noX)
    (q : ∀ (ys : List D) (C' : Store), ys.length = xs.length → (∀ (j : Nat) (x y : D), xs[j]? = some x → ys[j]? = some y → Rel x y) → B C' → C'.length = C.length → Q (.lst ys) C') : wR (lcR it g tYesM te vs F C) Q E := by
  refine w_lc (mi := fun _ C => .ok it C) rfl (p.on fun _ => True) (fun j acc S => ∃ C', S = accS C' acc ∧ B C' ∧ C'.length = C.length ∧ acc.length = j ∧ j ≤ xs.length ∧ ∀ (k : Nat) (x y : D), xs[k]? = some x → acc[k]? = some y → Rel x y) (fun _ _ _ _ => trivial)
    (fun j acc S h => by obtain ⟨_, _, _, _, e, e2, _⟩ := h; omega) ⟨C, rfl, b0, rfl, rfl, Nat.zero_le _, by simp⟩ (fun j x acc S hx hc h => ?_) (fun acc S hc h => ?_)
  · obtain ⟨C', rfl, b, l, hl, hj, hr⟩ := h
    obtain ⟨sl1, e, s⟩ := st x (List.mem_of_getElem? hx)
    have hjl : j < xs.length := (List.getElem?_eq_some_iff.mp hx).1
    refine ⟨sl1, e, w_yes (wI_t (w_mono (s C' acc b l) (fun d S g => ?_) fun _ _ z => z))⟩
    obtain ⟨C'', rfl, b2, l2, r⟩ := g
    refine ⟨acc, by rw [← l2]; exact get_new, by omega, ⟨C'', by simp [accS, ← l2], b2, l2, by simp [hl], by omega, fun k x' y hk hy => ?_⟩, by simp [accS, l2]⟩
    by_cases hkj : k < acc.length
    · rw [List.getElem?_append_left hkj] at hy
      exact hr k x' y hk hy
    · have hk2 : k < (acc ++ [d]).length := (List.getElem?_eq_some_iff.mp hy).1
      have : k = acc.length := by simp at hk2; omega
      subst this
      rw [hl, hx] at hk
      cases hk
      simp at hy
      subst hy
      exact r
  · obtain ⟨C', rfl, b, l, hl, hj, hr⟩ := h
    have tk : (accS C' acc).take C.length = C' := by rw [← l]; simp [accS]
    refine ⟨?_, ?_⟩
    · have : ∀ (l : List D), (∀ d ∈ l, cb C.length d = true) → cbL C.length l = true := by
        intro l
        induction l with
        | nil => intro _; rfl
        | cons d l ih => intro hl; simp only [cbL, hl d (List.mem_cons_self ..), ih fun x hx => hl x (List.mem_cons_of_mem _ hx), Bool.and_self]
      refine this acc fun d hd => ?_
      obtain ⟨k, hk, rfl⟩ := List.getElem_of_mem hd
      have hkx : k < xs.length := by omega
      exact hb xs[k] acc[k] _ (List.getElem_mem hkx) (hr k _ _ (List.getElem?_eq_getElem hkx) (List.getElem?_eq_getElem hk))
    · rw [tk]
      exact q acc C' hl hr b l
end
end CT
set_option maxHeartbeats 4000000
/-! E7: own operators with an int, list(range), extend, two writes, told backwards. -/
namespace CT
open PySem L2
/-! ### a comprehension whose list is an own one -/
section
variable {C : Store} {Q : D → Store → Prop} {X : Exc → Store → Prop} {F : Fr}
theorem w_lcO {mi : MI} {g : MG} {tt : MT} {te : ME} {vs : List Nat} (h : wR (mi F C) (fun it C1 => wR (mLc true (fun _ C => .ok it C) g tt te vs F C1) Q X) X) : wR (mLc true mi g tt te vs F C) Q X := by
  unfold mLc at h
  unfold mLc
  exact w_bnd h
end
/-! ### a def that hands back an own list -/
end CT
set_option maxHeartbeats 4000000
namespace CL
open PySem L2 CT
local macro_rules | `(tactic| walk_at "w") => `(tactic| first | ((with_reducible apply gR); first | with_reducible refine w_var rfl ?_ | with_reducible apply w_cons | with_reducible apply w_c | with_reducible apply w_nil | with_reducible apply w_op | with_reducible apply w_ap | with_reducible apply w_call | with_reducible apply w_tst | with_reducible apply w_un | with_reducible apply w_tand | with_reducible apply w_tor | with_reducible apply w_tnot | with_reducible apply w_yes | with_reducible apply w_and | with_reducible apply w_or | with_reducible apply w_not | with_reducible apply w_if | with_reducible apply w_chain | with_reducible apply w_isi | with_reducible apply w_isi2 | with_reducible apply w_prop | with_reducible apply w_meth | with_reducible apply w_dget | with_reducible apply w_dnewF | with_reducible apply w_dnewT | with_reducible apply w_part | with_reducible apply w_noPart | with_reducible apply w_slLF | with_reducible apply w_slA | with_reducible apply w_ok | with_reducible apply w_ofO | with_reducible apply w_lcI | with_reducible apply w_seqI | with_reducible apply w_rng1 | with_reducible apply w_rng2 | with_reducible apply w_enum) | ((with_reducible apply gO); first | with_reducible apply wo_add | with_reducible apply wo_sub | with_reducible apply wo_lt | with_reducible apply wo_gt | with_reducible apply wo_eq | with_reducible apply wo_ne | with_reducible apply wo_le | with_reducible apply wo_ge | with_reducible apply wo_neg | with_reducible apply wo_eqS | with_reducible apply wo_neS | with_reducible apply wo_min | with_reducible apply wo_max | with_reducible apply wo_int | with_reducible apply wo_abs | with_reducible apply wo_tupL | with_reducible apply wo_tupT | with_reducible refine wo_tup (by with_unfolding_all rfl) ?_ | with_reducible refine wo_lstF (by with_unfolding_all rfl) ?_ | with_reducible refine wo_lstT (by with_unfolding_all rfl) ?_ | with_reducible apply wo_fld0 | with_reducible apply wo_fldH0 | with_reducible apply wo_fld1 | with_reducible apply wo_fld2 | with_reducible apply wo_fldW0 | with_reducible apply wo_fldW1 | with_reducible apply wo_fldW2) | ((with_reducible apply gS); first | with_reducible apply w_seq | with_reducible apply w_asg | with_reducible apply w_sif | with_reducible apply w_next | with_reducible apply w_ret | with_reducible apply w_par | with_reducible apply w_drop | with_reducible apply w_asgT | with_reducible apply w_retN | with_reducible apply w_brk | with_reducible apply w_cnt | with_reducible apply w_raise | with_reducible apply w_forI) | ((with_reducible apply gI); first | with_reducible apply wI_t | with_reducible apply wI_f | with_reducible apply wI_not) | with_reducible apply w_bl | with_reducible apply thn_nx | with_reducible apply w_int | with_reducible apply w_obj | with_reducible apply thn_rt | with_reducible apply lp_nx | with_reducible apply fnl_int | with_reducible apply fnl_bl | with_reducible apply fnl_non | with_reducible apply fnl_str | with_reducible apply fnl_nx | with_reducible apply thn_bk | with_reducible apply thn_ct | with_reducible apply thn_xc | with_reducible apply lp_rt | with_reducible apply lp_bk | with_reducible apply lp_xc | with_reducible apply w_itL | with_reducible apply w_itT | with_reducible apply w_itK)
local macro_rules | `(tactic| walk_at "p") => `(tactic| repeat walk_at "w")
/-! RF: numbers of ties by places, rows by places. -/
abbrev fm (f : Int × Int → Int) (u v : Nat) : Int := f (min (u : Int) (v : Int), max (u : Int) (v : Int))
def rF (ns : List Int) : Nat → Int := fun v => ns.getD v 0
theorem snoc_ind {α : Type} {P : List α → Prop} (h0 : P []) (h1 : ∀ l t, P l → P (l ++ [t])) (l : List α) : P l := by
  have : ∀ m : List α, P m.reverse := by
    intro m
    induction m with
    | nil => exact h0
    | cons x m ih => rw [List.reverse_cons]; exact h1 _ _ ih
  have e := this l.reverse
  rw [List.reverse_reverse] at e
  exact e
theorem rF_getE {ns : List Int} {v : Nat} (h : v < ns.length) : ns[v]? = some (rF ns v) := by
  unfold rF
  rw [List.getD_eq_getElem?_getD, List.getElem?_eq_getElem h]
  rfl
/-! ### the bag -/
def bagC (a b c : Int) (cs : List Int) : Cell := .lst [.int a, .int b, .int c, .lst (cs.map .int)]
section
variable {a b c n : Int} {cs : List Int} {C : Store} {i : Nat}
theorem mul1 (x : Int) (C : Store) : oMul (.int x) (.int 48271) C = some (.int (x * 48271), C) := ev_mul C (by simp [cMul])
theorem mul2 (x : Int) (C : Store) : oMul (.int 7919) (.int x) C = some (.int (7919 * x), C) := ev_mul C (by simp [cMul])
theorem mul3 (x : Int) (C : Store) : oMul (.int x) (.int 39373) C = some (.int (x * 39373), C) := ev_mul C (by simp [cMul])
theorem mul4 (x : Int) (C : Store) : oMul (.int x) (.int 30011) C = some (.int (x * 30011), C) := ev_mul C (by simp [cMul])
theorem mod1 (x : Int) (C : Store) : oMod (.int x) (.int 2147483647) C = some (.int (x % 2147483647), C) := ev_mod C (by decide)
theorem mod2 (x : Int) (C : Store) : oMod (.int x) (.int 1000000007) C = some (.int (x % 1000000007), C) := ev_mod C (by decide)
theorem mod3 (x : Int) (C : Store) : oMod (.int x) (.int 998244353) C = some (.int (x % 998244353), C) := ev_mod C (by decide)
theorem div7 (x : Int) (C : Store) : oDiv (.int x) (.int 7) C = some (.int (x / 7), C) := ev_div C (by decide) (by decide)
theorem take_0 (hC : C[i]? = some (some (bagC 0 b c cs))) (hb : 0 ≤ b) (hb2 : b < 2147483647) (hc : 0 ≤ c) (hcs : ∀ x ∈ cs, 0 ≤ x) : ∃ a' b' s2 s3, 0 ≤ a' ∧ 0 ≤ b' ∧ b' < 2147483647 ∧
    b_law_take_0 ⟨C.length, [some (.cell i), some (.int n), none, none, none, none, none]⟩ C = .nx [some (.cell i), some (.int n), s2, s3, none, none, none] (C.set i (some (bagC a' b' (c + 1) cs))) := by
  have hi : i < C.length := (List.getElem?_eq_some_iff.mp hC).1
  have hC' : C[i]? = some (some (Cell.lst [.int 0, .int b, .int c, .lst (cs.map .int)])) := hC
  have gs : ∀ x : Option Cell, (C.set i x)[i]? = some x := fun x => List.getElem?_set_self hi
  by_cases h1 : c < cs.length
  · have h1' : c.toNat < cs.length := by omega
    have hcell : 0 ≤ cs[c.toNat] := hcs _ (List.getElem_mem h1')
    by_cases h2 : 1000000000000000000 ≤ cs[c.toNat]
    · refine ⟨cs[c.toNat], (b * 48271 + cs[c.toNat] % 2147483647 + 7919 * (c + 1)) % 2147483647, some (.int cs[c.toNat]), some (.int (b * 48271 + cs[c.toNat] % 2147483647 + 7919 * (c + 1))), hcell, ?_, ?_, ?e⟩
      case e => simp [b_law_take_0, b_law_take_0t_0, b_law_take_0t_1, b_law_take_0t_2, b_law_take_0t_3, b_law_take_0t_4, b_law_take_0t_5, oIx, vS, hC', atI, ixN, gs, oLen, h1, h1', hc, auK2, auK4, cL, wr, cbC, cbL, cb, stK4, h2, mul1, mul2, mod1, bagC]
      · exact Int.emod_nonneg _ (by decide)
      · exact Int.emod_lt_of_pos _ (by decide)
    · refine ⟨0, (b * 48271 + cs[c.toNat] % 2147483647 + 7919 * (c + 1)) % 2147483647, some (.int cs[c.toNat]), some (.int (b * 48271 + cs[c.toNat] % 2147483647 + 7919 * (c + 1))), by decide, ?_, ?_, ?e⟩
      case e => simp [b_law_take_0, b_law_take_0t_0, b_law_take_0t_1, b_law_take_0t_2, b_law_take_0t_3, b_law_take_0t_4, b_law_take_0t_5, oIx, vS, hC', atI, ixN, gs, oLen, h1, h1', hc, auK2, auK4, cL, wr, cbC, cbL, cb, stK4, h2, mul1, mul2, mod1, bagC]
      · exact Int.emod_nonneg _ (by decide)
      · exact Int.emod_lt_of_pos _ (by decide)
  · refine ⟨0, (b * 48271 + 0 % 2147483647 + 7919 * (c + 1)) % 2147483647, some (.int 0), some (.int (b * 48271 + 0 % 2147483647 + 7919 * (c + 1))), by decide, ?_, ?_, ?e⟩
    case e => simp [b_law_take_0, b_law_take_0t_0, b_law_take_0t_1, b_law_take_0t_2, b_law_take_0t_3, b_law_take_0t_4, b_law_take_0t_5, oIx, vS, hC', atI, ixN, gs, oLen, h1, hc, auK2, auK4, cL, wr, cbC, cbL, cb, stK4, mul1, mul2, mod1, bagC]
    · exact Int.emod_nonneg _ (by decide)
    · exact Int.emod_lt_of_pos _ (by decide)
theorem take_1 (hC : C[i]? = some (some (bagC a b c cs))) (ha : 0 < a) (hn : 0 < n) (hn2 : n < 4611686018427387904) {s2 s3 : Option D} :
    b_law_take_1 ⟨C.length, [some (.cell i), some (.int n), s2, s3, none, none, none]⟩ C = .rt (.int (a % n)) (C.set i (some (bagC (a / n) b c cs))) := by
  have hC' : C[i]? = some (some (Cell.lst [.int a, .int b, .int c, .lst (cs.map .int)])) := hC
  simp [b_law_take_1, b_law_take_1t_0, b_law_take_1t_1, b_law_take_1t_2, oIx, vS, hC', atI, ixN, ha, ev_mod C hn, ev_div C hn hn2, stK4, cL, wr, cbC, cbL, cb, bagC]
theorem take_1n (hC : C[i]? = some (some (bagC 0 b c cs))) {s2 s3 : Option D} :
    b_law_take_1 ⟨C.length, [some (.cell i), some (.int n), s2, s3, none, none, none]⟩ C = .nx [some (.cell i), some (.int n), s2, s3, none, none, none] C := by
  have hC' : C[i]? = some (some (Cell.lst [.int 0, .int b, .int c, .lst (cs.map .int)])) := hC
  simp [b_law_take_1, oIx, vS, hC', atI, ixN]
theorem mulB {x y : Int} (h1 : 0 ≤ x) (h2 : x < 1000000007) (C : Store) : oMul (.int x) (.int y) C = some (.int (x * y), C) := ev_mul C (by
  have e1 : decide (-(2 ^ 64) < x) = true := decide_eq_true (by omega)
  have e2 : decide (x < 2 ^ 64) = true := decide_eq_true (by omega)
  simp only [cMul, e1, e2, Bool.and_self, Bool.true_or])
theorem take_2 (hC : C[i]? = some (some (bagC a b c cs))) (hb : 0 ≤ b) (hn : 0 < n) {s2 s3 : Option D} : ∃ r, 0 ≤ r ∧ r < n ∧
    sSeq b_law_take_2 (sSeq b_law_take_3 b_law_take_4) ⟨C.length, [some (.cell i), some (.int n), s2, s3, none, none, none]⟩ C = .rt (.int r) C := by
  have hC' : C[i]? = some (some (Cell.lst [.int a, .int b, .int c, .lst (cs.map .int)])) := hC
  have e0 : 0 ≤ (b + 1) * 39373 % 1000000007 := Int.emod_nonneg _ (by decide)
  have e1 : (b + 1) * 39373 % 1000000007 < 1000000007 := Int.emod_lt_of_pos _ (by decide)
  refine ⟨((b + 1) * 39373 % 1000000007 * ((b + 1) * 39373 % 1000000007) % 998244353 * 30011 % 998244353 / 7) % n, Int.emod_nonneg _ (by omega), Int.emod_lt_of_pos _ hn, ?_⟩
  simp [b_law_take_2, b_law_take_3, b_law_take_4, oIx, vS, hC', atI, ixN, mul3, mod2, mulB e0 e1, mod3, mul4, div7, ev_mod C hn]
/-- a bag in the store -/
def Bag (i : Nat) (cs : List Int) (C : Store) : Prop := ∃ a b c, C[i]? = some (some (bagC a b c cs)) ∧ 0 ≤ a ∧ 0 ≤ b ∧ b < 2147483647 ∧ 0 ≤ c
theorem take_ok (hB : Bag i cs C) (hcs : ∀ x ∈ cs, 0 ≤ x) (hn : 0 < n) (hn2 : n < 4611686018427387904) : ∃ r x, m_law_take [.cell i, .int n] C = .ok (.int r) (C.set i (some x)) ∧ 0 ≤ r ∧ r < n ∧ Bag i cs (C.set i (some x)) := by
  obtain ⟨a, b, c, hC, ha, hb, hb2, hc⟩ := hB
  have hi : i < C.length := (List.getElem?_eq_some_iff.mp hC).1
  have gs : ∀ x : Option Cell, (C.set i x)[i]? = some x := fun x => List.getElem?_set_self hi
  have tk : ∀ x : Option Cell, (C.set i x).take C.length = C.set i x := fun x => List.take_of_length_le (by simp)
  have hC' : C[i]? = some (some (Cell.lst [.int a, .int b, .int c, .lst (cs.map .int)])) := hC
  have ld : ∀ x : Option Cell, (C.set i x).length = C.length := fun x => by simp
  by_cases h0 : a = 0
  · subst h0
    obtain ⟨a', b', s2, s3, h1, h2, h3, e⟩ := take_0 (n := n) hC hb hb2 hc hcs
    by_cases h4 : a' = 0
    · subst h4
      obtain ⟨r, r1, r2, e2⟩ := take_2 (n := n) (s2 := s2) (s3 := s3) (gs (some (bagC 0 b' (c + 1) cs))) h2 hn
      have e1 := take_1n (n := n) (s2 := s2) (s3 := s3) (gs (some (bagC 0 b' (c + 1) cs)))
      rw [ld] at e1 e2
      refine ⟨r, _, ?_, r1, r2, 0, b', c + 1, gs _, by decide, h2, h3, by omega⟩
      rw [e_law_take, b_law_take, ev_seq, e, seqK_nx, ev_seq, e1, seqK_nx, e2]
      simp [tk]
    · have e1 := take_1 (n := n) (s2 := s2) (s3 := s3) (gs (some (bagC a' b' (c + 1) cs))) (by omega) hn hn2
      rw [ld] at e1
      refine ⟨a' % n, bagC (a' / n) b' (c + 1) cs, ?_, Int.emod_nonneg _ (by omega), Int.emod_lt_of_pos _ hn, a' / n, b', c + 1, gs _, Int.ediv_nonneg h1 (by omega), h2, h3, by omega⟩
      rw [e_law_take, b_law_take, ev_seq, e, seqK_nx, ev_seq, e1]
      simp [tk]
  · have e1 := take_1 (n := n) (s2 := none) (s3 := none) hC (by omega) hn hn2
    refine ⟨a % n, bagC (a / n) b c cs, ?_, Int.emod_nonneg _ (by omega), Int.emod_lt_of_pos _ hn, a / n, b, c, gs _, Int.ediv_nonneg ha (by omega), hb, hb2, hc⟩
    have e : b_law_take_0 ⟨C.length, [some (.cell i), some (.int n), none, none, none, none, none]⟩ C = .nx [some (.cell i), some (.int n), none, none, none, none, none] C := by
      simp [b_law_take_0, oIx, vS, hC', atI, ixN, h0]
    rw [e_law_take, b_law_take, ev_seq, e, seqK_nx, ev_seq, e1]
    simp [tk]
end
end CL
set_option maxHeartbeats 4000000
/-! M22: the bag. -/
namespace CL
open PySem L2 CT
theorem filter_yes {α : Type} (l : List α) : l.filter (fun _ => true) = l := List.filter_eq_self.mpr fun _ _ => rfl
def absD : D → D
  | .int i => .int (i.natAbs : Int)
  | _ => .non
theorem bag_ok (ns : List Int) (hl : ns.length ≤ 63) : ∃ cs : List Int, (∀ c ∈ cs, 0 ≤ c) ∧ m_law_bag [scrD ns] [] = .ok (.cell 0) [some (bagC 0 1234567891 0 cs)] := by
  obtain ⟨ms, e, hm⟩ : ∃ ms : List Int, cutD (ns.map D.int) none (some 63) = ms.map D.int ∧ ms.length ≤ 63 := by
    refine ⟨(ns.drop (HT.sIx (ns.map D.int).length 0 none)).take (HT.sIx (ns.map D.int).length (ns.map D.int).length (some 63) - HT.sIx (ns.map D.int).length 0 none), ?_, ?_⟩
    · unfold cutD
      rw [List.map_take, List.map_drop]
    · rw [List.length_take, List.length_drop]
      omega
  refine ⟨ms.map fun i => (i.natAbs : Int), fun c hc => ?_, ?_⟩
  · obtain ⟨i, _, rfl⟩ := List.mem_map.mp hc
    omega
  have es : mSlL false (mVar 0) mNoPart (mPart (mC (.int 63))) ⟨0, [some (scrD ns), none]⟩ [] = .ok (.lst (ms.map D.int)) [] := by
    show ofO (some (mkL false (cutD (ns.map D.int) none (some 63)) [])) = _
    rw [e]
    rfl
  have el := ev_lc (pure_C (ms.map D.int)) (mi := mSeq (mSlL false (mVar 0) mNoPart (mPart (mC (.int 63))))) (g := (Tgt.nm 1).M) (tt := tYesM) (te := mAp oAbs (mCons (mVar 1) mNil)) (vs := [1]) (F := ⟨0, [some (scrD ns), none]⟩) (C := []) (fun _ => true) absD
    (ev_seqI (d := .lst (ms.map D.int)) es rfl) (by rw [List.length_map]; omega)
    (fun y hy => by
      obtain ⟨i, _, rfl⟩ := List.mem_map.mp hy
      exact ⟨[some (scrD ns), some (.int i)], by simp, fun acc => ⟨rfl, fun _ => by simp [absD]⟩⟩)
    (fun y hy _ => by
      obtain ⟨i, _, rfl⟩ := List.mem_map.mp hy
      rfl)
  rw [filter_yes, List.map_map] at el
  have eb : b_law_bag ⟨0, [some (scrD ns), none]⟩ [] = .rt (.cell 0) [some (bagC 0 1234567891 0 (ms.map fun i => (i.natAbs : Int)))] := by
    rw [b_law_bag, ev_sret, ev_ap, ev_cons, ev_c, consK_ok, ev_cons, ev_c, consK_ok, ev_cons, ev_c, consK_ok, ev_cons, el, consK_ok, ev_nil, consK2_ok, consK2_ok, consK2_ok, consK2_ok, apK_ok]
    have eo : ∀ x : D, oLst true [.int 0, .int 1234567891, .int 0, x] [] = some (.cell 0, [some (.lst [.int 0, .int 1234567891, .int 0, x])]) := fun x => by simp [oLst, szN, mkL]
    rw [eo, ev_ofO_some, retK_ok, bagC, List.map_map]
    rfl
  have ed : m_law_bag [scrD ns] [] = (match b_law_bag ⟨0, [some (scrD ns), none]⟩ [] with
    | .rt d C' => finO 0 d C'
    | .xc e _ C' => if cbL 0 e.fs = true then .exc e (C'.take 0) else .stuck
    | _ => .stuck) := rfl
  have cI := cbL_ints 0 (ms.map fun i => (i.natAbs : Int))
  rw [List.map_map] at cI
  rw [ed, eb]
  simp [finO, bagC, cbL, cb, cI]
theorem cbL_all {n : Nat} : ∀ {l : List D}, (∀ d ∈ l, cb n d = true) → cbL n l = true
  | [], _ => rfl
  | d :: l, h => by
    show (cb n d && cbL n l) = true
    rw [h d (List.mem_cons_self ..), cbL_all fun x hx => h x (List.mem_cons_of_mem _ hx)]
    rfl
theorem mem_rng {lo : Int} {N : Nat} {x : D} (h : x ∈ rngI lo N) : ∃ u : Nat, u < N ∧ x = .int (lo + u) := by
  unfold rngI at h
  obtain ⟨u, hu, rfl⟩ := List.mem_map.mp h
  exact ⟨u, List.mem_range.mp hu, rfl⟩
@[simp] theorem dBools_map : ∀ l : List Bool, dBools (l.map D.bl) = some l
  | [] => rfl
  | x :: l => by
    show (dBools (l.map D.bl)).map _ = _
    rw [dBools_map l]
    rfl
@[simp] theorem dInts_map : ∀ l : List Int, dInts (l.map D.int) = some l
  | [] => rfl
  | x :: l => by
    show (dInts (l.map D.int)).map _ = _
    rw [dInts_map l]
    rfl
/-- a bag at i -/
def Bg (i : Nat) (C : Store) : Prop := ∃ cs, (∀ x ∈ cs, 0 ≤ x) ∧ Bag i cs C
/-- the bag alone has changed -/
def To (i : Nat) (C C' : Store) : Prop := ∃ x, C' = C.set i (some x) ∧ Bg i C'
section
variable {i : Nat} {C C' C'' Y Z : Store} {n : Int}
theorem Bg.lt (h : Bg i C) : i < C.length := by
  obtain ⟨cs, _, a, b, c, e, _⟩ := h
  exact (List.getElem?_eq_some_iff.mp e).1
theorem Bg.app (h : Bg i C) (Y : Store) : Bg i (C ++ Y) := by
  have hi := h.lt
  obtain ⟨cs, hcs, a, b, c, e, q⟩ := h
  exact ⟨cs, hcs, a, b, c, by rw [List.getElem?_append_left hi]; exact e, q⟩
theorem Bg.cut (hi : i < C.length) (h : Bg i (C ++ Y)) : Bg i C := by
  obtain ⟨cs, hcs, a, b, c, e, q⟩ := h
  exact ⟨cs, hcs, a, b, c, by rw [List.getElem?_append_left hi] at e; exact e, q⟩
theorem To.bg (h : To i C C') : Bg i C' := by
  obtain ⟨x, _, b⟩ := h
  exact b
theorem To.len (h : To i C C') : C'.length = C.length := by
  obtain ⟨x, rfl, _⟩ := h
  simp
theorem To.trans (h : To i C C') (g : To i C' C'') : To i C C'' := by
  obtain ⟨x, rfl, _⟩ := h
  obtain ⟨y, rfl, b⟩ := g
  exact ⟨y, by simp, b⟩
theorem To.refl (h : Bg i C) : To i C C := by
  obtain ⟨cs, hcs, a, b, c, e, q⟩ := h
  refine ⟨bagC a b c cs, ?_, cs, hcs, a, b, c, e, q⟩
  obtain ⟨h1, h2⟩ := List.getElem?_eq_some_iff.mp e
  have z := List.set_getElem_self (as := C) (i := i) h1
  rw [h2] at z
  exact z.symm
theorem To.cut (hi : i < C.length) (h : To i (C ++ Y) Z) : ∃ C', Z = C' ++ Y ∧ To i C C' := by
  obtain ⟨x, rfl, b⟩ := h
  rw [List.set_append_left _ _ hi] at b ⊢
  exact ⟨_, rfl, x, rfl, b.cut (by simpa using hi)⟩
theorem take_to (hB : Bg i C) (hn : 0 < n) (hn2 : n < 4611686018427387904) (Y : Store) : ∃ r C', m_law_take [.cell i, .int n] (C ++ Y) = .ok (.int r) (C' ++ Y) ∧ 0 ≤ r ∧ r < n ∧ To i C C' := by
  have hi := hB.lt
  obtain ⟨cs, hcs, hB'⟩ := hB.app Y
  obtain ⟨r, x, e, h1, h2, h3⟩ := take_ok hB' hcs hn hn2
  obtain ⟨C', e2, t⟩ := To.cut hi (⟨x, rfl, cs, hcs, h3⟩ : To i (C ++ Y) ((C ++ Y).set i (some x)))
  exact ⟨r, C', by rw [e, e2], h1, h2, t⟩
end
theorem To.get {i j : Nat} {C C' : Store} (h : To i C C') (hj : j ≠ i) : C'[j]? = C[j]? := by
  obtain ⟨x, rfl, _⟩ := h
  rw [List.getElem?_set_ne (Ne.symm hj)]
theorem cb_of {n : Nat} : ∀ {l : List D} {d : D}, cbL n l = true → d ∈ l → cb n d = true
  | x :: l, d, h, hm => by
    simp only [cbL, Bool.and_eq_true] at h
    rcases List.mem_cons.mp hm with rfl | hm
    · exact h.1
    · exact cb_of h.2 hm
/-! TK3: data that can be shown and compared. -/
mutual
def sm : PyData → Bool
  | .none => true
  | .bool _ => true
  | .int i => decide (i.natAbs < 1000000000000)
  | .list xs => smA xs
  | .tuple xs => smA xs
  | .str _ => false
  | .dict _ => false
def smA : List PyData → Bool
  | [] => true
  | x :: xs => sm x && smA xs
end
mutual
theorem sm_ok : ∀ p : PyData, sm p = true → p.showable = true ∧ p.hasDict = false ∧ p.leavesShort 13 = true
  | .none, _ => ⟨rfl, rfl, rfl⟩
  | .bool _, _ => ⟨rfl, rfl, rfl⟩
  | .int i, h => by
    have h' : i.natAbs < 10 ^ 12 := by simpa [sm] using h
    refine ⟨?_, rfl, ?_⟩
    · show decide (i.natAbs.log2 < 1920) = true
      refine decide_eq_true ?_
      by_cases z : i.natAbs = 0
      · rw [z]
        decide
      · exact (Nat.log2_lt z).mpr (Nat.lt_trans h' (by decide))
    · show decide ((PyData.shown (.int i)).length ≤ 13) = true
      exact decide_eq_true (PyData.shown_int_le h')
  | .list xs, h => by
    have := smA_ok xs (by simpa [sm] using h)
    refine ⟨?_, ?_, ?_⟩
    · simpa [PyData.showable] using this.1
    · simpa [PyData.hasDict] using this.2.1
    · simpa [PyData.leavesShort] using this.2.2
  | .tuple xs, h => by
    have := smA_ok xs (by simpa [sm] using h)
    refine ⟨?_, ?_, ?_⟩
    · simpa [PyData.showable] using this.1
    · simpa [PyData.hasDict] using this.2.1
    · simpa [PyData.leavesShort] using this.2.2
  | .str _, h => by simp [sm] at h
  | .dict _, h => by simp [sm] at h
theorem smA_ok : ∀ xs : List PyData, smA xs = true → PyData.showableAll xs = true ∧ PyData.hasDictAll xs = false ∧ PyData.leavesShortAll 13 xs = true
  | [], _ => ⟨rfl, rfl, rfl⟩
  | x :: xs, h => by
    simp only [smA, Bool.and_eq_true] at h
    obtain ⟨a1, a2, a3⟩ := sm_ok x h.1
    obtain ⟨b1, b2, b3⟩ := smA_ok xs h.2
    simp [PyData.showableAll, PyData.hasDictAll, PyData.leavesShortAll, a1, a2, a3, b1, b2, b3]
end
theorem repr_of {x : D} {C : Store} {p : PyData} (e : toP C x = some p) (h : repOk p = true) : oRepr [x] C = some (.str p.shown, C) := by
  simp [oRepr, e, h]
theorem wt_int {i : Int} (h : i.natAbs < 1000000000000) : (PyData.int i).weight ≤ 40 := by
  simp only [PyData.weight]
  split
  · omega
  · rename_i z
    have z' : i.natAbs ≠ 0 := by
      intro e
      apply z
      have : i = 0 := by omega
      rw [this]
      rfl
    have : i.natAbs.log2 < 40 := (Nat.log2_lt z').mpr (Nat.lt_trans h (by decide))
    omega
structure Gd (w dp : Nat) (x : D) (p : PyData) : Prop where
  tp : ∀ C, toP C x = some p
  cl : p.canLay0 = true
  sh : p.showable = true
  nd : p.hasDict = false
  ls : p.leavesShort 40 = true
  dp : p.depth ≤ dp
  wt : p.weight ≤ w
structure GdL (w dp : Nat) (xs : List D) (ps : List PyData) : Prop where
  tp : ∀ C, toPs C xs = some ps
  cl : PyData.canLayAll0 ps = true
  sh : PyData.showableAll ps = true
  nd : PyData.hasDictAll ps = false
  ls : PyData.leavesShortAll 40 ps = true
  dp : PyData.depthAll ps ≤ dp
  wt : PyData.weightAll ps ≤ xs.length * (w + 1)
  len : ps.length = xs.length
theorem gdl_nil {w dp : Nat} : GdL w dp [] [] := ⟨fun _ => rfl, rfl, rfl, rfl, rfl, by simp [PyData.depthAll], by simp [PyData.weightAll], rfl⟩
theorem gdl_cons {w dp : Nat} {x : D} {p : PyData} {xs : List D} {ps : List PyData} (h : Gd w dp x p) (t : GdL w dp xs ps) : GdL w dp (x :: xs) (p :: ps) := by
  refine ⟨fun C => ?_, ?_, ?_, ?_, ?_, ?_, ?_, ?_⟩
  · simp only [toPs, h.tp, t.tp]
  · simp [PyData.canLayAll0, h.cl, t.cl]
  · simp [PyData.showableAll, h.sh, t.sh]
  · simp [PyData.hasDictAll, h.nd, t.nd]
  · simp [PyData.leavesShortAll, h.ls, t.ls]
  · have h1 := h.dp
    have h2 := t.dp
    simp only [PyData.depthAll]
    omega
  · have h1 := h.wt
    have h2 := t.wt
    simp only [PyData.weightAll, List.length_cons, Nat.succ_mul]
    omega
  · simp [t.len]
theorem gdl_all {w dp : Nat} : ∀ {xs : List D}, (∀ x ∈ xs, ∃ p, Gd w dp x p) → ∃ ps, GdL w dp xs ps
  | [], _ => ⟨[], gdl_nil⟩
  | x :: xs, h => by
    obtain ⟨p, hp⟩ := h x (List.mem_cons_self ..)
    obtain ⟨ps, ht⟩ := gdl_all fun y hy => h y (List.mem_cons_of_mem _ hy)
    exact ⟨p :: ps, gdl_cons hp ht⟩
theorem gd_tup {w dp n : Nat} {xs : List D} {ps : List PyData} (h : GdL w dp xs ps) (hn : xs.length ≤ n) : Gd (n * (w + 1)) (dp + 1) (.tup xs) (.tuple ps) := by
  refine ⟨fun C => ?_, ?_, ?_, ?_, ?_, ?_, ?_⟩
  · simp only [toP, h.tp, Option.map_some]
  · simpa [PyData.canLay0] using h.cl
  · simpa [PyData.showable] using h.sh
  · simpa [PyData.hasDict] using h.nd
  · simpa [PyData.leavesShort] using h.ls
  · have := h.dp
    simp only [PyData.depth]
    omega
  · have := h.wt
    have z : xs.length * (w + 1) ≤ n * (w + 1) := Nat.mul_le_mul_right _ hn
    simp only [PyData.weight]
    omega
theorem gd_lst {w dp n : Nat} {xs : List D} {ps : List PyData} (h : GdL w dp xs ps) (hn : xs.length ≤ n) : Gd (n * (w + 1)) (dp + 1) (.lst xs) (.list ps) := by
  refine ⟨fun C => ?_, ?_, ?_, ?_, ?_, ?_, ?_⟩
  · simp only [toP, h.tp, Option.map_some]
  · simpa [PyData.canLay0] using h.cl
  · simpa [PyData.showable] using h.sh
  · simpa [PyData.hasDict] using h.nd
  · simpa [PyData.leavesShort] using h.ls
  · have := h.dp
    simp only [PyData.depth]
    omega
  · have := h.wt
    have z : xs.length * (w + 1) ≤ n * (w + 1) := Nat.mul_le_mul_right _ hn
    simp only [PyData.weight]
    omega
theorem Gd.mono {w w' dp dp' : Nat} {x : D} {p : PyData} (h : Gd w dp x p) (hw : w ≤ w') (hd : dp ≤ dp') : Gd w' dp' x p := ⟨h.tp, h.cl, h.sh, h.nd, h.ls, Nat.le_trans h.dp hd, Nat.le_trans h.wt hw⟩
theorem Gd.ok {w dp : Nat} {x : D} {p : PyData} (h : Gd w dp x p) (hw : w ≤ 300000) (hd : dp ≤ 60) : repOk p = true := by
  have h4 := PyData.shown_le 40 (by decide) p h.ls
  have h5 := h.wt
  have h6 := h.dp
  have hz : p.shown.length ≤ 16777216 := by omega
  have hd' : p.depth ≤ 60 := by omega
  simp [repOk, h.sh, h.nd, hd', szN, hz]
theorem Gd.repr {w dp : Nat} {x : D} {p : PyData} (h : Gd w dp x p) (hw : w ≤ 300000) (hd : dp ≤ 60) (C : Store) : oRepr [x] C = some (.str p.shown, C) := repr_of (h.tp C) (h.ok hw hd)
theorem Gd.shp {w dp : Nat} {x : D} {p : PyData} (h : Gd w dp x p) (hd : dp ≤ 60) : SeqAt.shaped p = true := by
  have := h.dp
  have h64 : p.depth ≤ 64 := by omega
  simp [SeqAt.shaped, h.cl, h64]
theorem gd_non : Gd 0 0 .non .none := ⟨fun _ => rfl, rfl, rfl, rfl, rfl, by simp [PyData.depth], by simp [PyData.weight]⟩
theorem gd_bl (b : Bool) : Gd 0 0 (.bl b) (.bool b) := ⟨fun _ => rfl, rfl, rfl, rfl, rfl, by simp [PyData.depth], by simp [PyData.weight]⟩
theorem gd_int {i : Int} (h : i.natAbs < 1000000000000) : Gd 40 0 (.int i) (.int i) := by
  have h1 := sm_ok (.int i) (by simpa [sm] using h)
  have h' : i.natAbs < 10 ^ 12 := h
  refine ⟨fun _ => rfl, rfl, h1.1, rfl, ?_, by simp [PyData.depth], wt_int h⟩
  have := PyData.shown_int_le h'
  simp only [PyData.leavesShort, decide_eq_true_eq]
  omega
theorem is_integer_int (x : Int) (C : Store) : m_is_integer [.int x] C = .ok (.bl true) C := by
  simp [m_is_integer, b_is_integer, ev_def, isi, tyD, isaT]
theorem is_count_int (x a b : Int) (C : Store) : m_is_count [.int x, .int a, .int b] C = .ok (.bl (decide (a ≤ x) && decide (x ≤ b))) C := by
  simp [m_is_count, b_is_count, ev_def, is_integer_int]
  by_cases h : a ≤ x <;> simp [h]
end CL
set_option maxHeartbeats 4000000
/-! M2: sums of ties, grids, webs. -/
namespace CL
open PySem L2 CT
abbrev T3 := Int × Int × Int
def triD (t : T3) : D := .tup [.int t.1, .int t.2.1, .int t.2.2]
def pr (t : T3) : Int × Int := (min t.1 t.2.1, max t.1 t.2.1)
def addT (d : Dc) (t : T3) : Dc := dp d (pr t) (dg0 d (pr t) + t.2.2)
def sums (L : List T3) : Dc := L.foldl addT []
def IsSeq (d : D) (xs : List D) : Prop := ∀ C, itS d C = some (itC xs)
theorem seq_lst (xs : List D) : IsSeq (.lst xs) xs := fun _ => rfl
theorem seq_tup (xs : List D) : IsSeq (.tup xs) xs := fun _ => rfl
theorem seq_kt (xs : List D) : IsSeq (.kt xs) xs := fun _ => rfl
/-! ### d[k] = v -/
def puK4 (F : Fr) (v o x : D) (C3 : Store) : RS := match x, cD o C3 with
  | .tup ds, some (i, ks, vs) => match keyL ds with
    | some key => if szN (ks.length + 1) = true then match wr F.fl i (.dT (putT ks vs key v).1 (putT ks vs key v).2) C3 with
      | some C4 => .nx F.sl C4
      | none => .stuck
      else .stuck
    | none => .stuck
  | _, _ => .stuck
def puK3 (F : Fr) (v o : D) (m : R D) : RS := bndS F.sl m fun x C3 => puK4 F v o x C3
@[simp] theorem puK3_ok (F : Fr) (v o x : D) (C : Store) : puK3 F v o (.ok x C) = puK4 F v o x C := rfl
def puK2 (mi : ME) (F : Fr) (v : D) (m : R D) : RS := bndS F.sl m fun o C2 => puK3 F v o (mi F C2)
@[simp] theorem puK2_ok (mi : ME) (F : Fr) (v o : D) (C : Store) : puK2 mi F v (.ok o C) = puK3 F v o (mi F C) := rfl
def puK (mo mi : ME) (F : Fr) (m : R D) : RS := bndS F.sl m fun v C1 => puK2 mi F v (mo F C1)
@[simp] theorem puK_ok (mo mi : ME) (F : Fr) (v : D) (C : Store) : puK mo mi F (.ok v C) = puK2 mi F v (mo F C) := rfl
@[simp] theorem ev_put (me mo mi : ME) (F : Fr) (C : Store) : sPut me mo mi F C = puK mo mi F (me F C) := rfl
@[simp] theorem keyL2 (a b : Int) : keyL [.int a, .int b] = some [.inl a, .inl b] := rfl
theorem put_at {F : Fr} {C : Store} {i : Nat} {d : Dc} {a b v : Int} (hC : C[i]? = some (some (.dT (dcK d) (dcV d)))) (hz : d.length < 16777216) (hf : F.fl ≤ i ∨ True) :
    puK4 F (.int v) (.cell i) (.tup [.int a, .int b]) C = .nx F.sl (C.set i (some (.dT (dcK (dp d (a, b) v)) (dcV (dp d (a, b) v))))) := by
  have e := put_dc d (a, b) v
  have z : szN ((dcK d).length + 1) = true := by simp [szN, dcK]; omega
  have c0 : cbC 0 (.dT (dcK (dp d (a, b) v)) (dcV (dp d (a, b) v))) = true := by
    show cbL 0 (dcV (dp d (a, b) v)) = true
    unfold dcV
    have := cbL_ints 0 ((dp d (a, b) v).map (·.2))
    rw [List.map_map] at this
    exact this
  have w : wr F.fl i (.dT (dcK (dp d (a, b) v)) (dcV (dp d (a, b) v))) C = some (C.set i (some (.dT (dcK (dp d (a, b) v)) (dcV (dp d (a, b) v))))) := by
    unfold wr
    rw [if_neg (fun h => by rw [c0] at h; cases h.2)]
  simp only [puK4, cD, hC, keyL2, z, if_true]
  simp only at e
  rw [e]
  simp only [w]
theorem get_at {x : D} {C : Store} {d : Dc} {a b : Int} (h : vD x C = some (dcK d, dcV d)) : oDGet x (.tup [.int a, .int b]) (.int 0) C = some (.int (dg0 d (a, b)), C) := by
  have e := look_dc (a, b) d
  simp only at e
  simp only [oDGet, h, keyL2, Option.bind_some, Option.map_some]
  rw [e]
  unfold dg0
  cases dg d (a, b) <;> rfl
theorem sums_take (L : List T3) (j : Nat) (t : T3) (h : L[j]? = some t) : sums (L.take (j + 1)) = addT (sums (L.take j)) t := by
  have hj : j < L.length := (List.getElem?_eq_some_iff.mp h).1
  have e : L.take (j + 1) = L.take j ++ [t] := by
    rw [← (List.getElem?_eq_some_iff.mp h).2]
    exact (List.take_append_getElem hj).symm
  unfold sums
  rw [e, List.foldl_append]
  rfl
theorem sums_len : ∀ (L : List T3) (d : Dc), (L.foldl addT d).length ≤ d.length + L.length
  | [], d => by simp
  | t :: L, d => by
    have h1 := sums_len L (addT d t)
    have h2 : (addT d t).length ≤ d.length + 1 := dp_len _ _ _
    simp only [List.foldl_cons, List.length_cons]
    omega
theorem summed_ok {d : D} {L : List T3} {C : Store} (hd : SeqIn d (L.map triD) C) (hl : L.length ≤ 1000000) : m_summed [d] C = .ok (.dT (dcK (sums L)) (dcV (sums L))) C := by
  obtain ⟨it, hit, pit⟩ := hd
  rw [e_summed, b_summed, ev_seq]
  have e0 : b_summed_0 ⟨C.length, [some d, none, none, none, none, none]⟩ C = .nx [some d, some (.cell C.length), none, none, none, none] (C ++ [some (.dT [] [])]) := by
    simp [b_summed_0, mDNew, mkD]
  rw [e0, seqK_nx, ev_seq, b_summed_1, ev_for]
  rw [ev_seqI (d := d) (it := it) (by simp) (hit _), forK_ok]
  obtain ⟨sl', C', h1, h2⟩ := loop_on pit (g := (Tgt.tp [2, 3, 4]).M) (body := sSeq b_summed_1b_0 b_summed_1b_1) (fl := C.length)
    (fun j sl St => St = C ++ [some (.dT (dcK (sums (L.take j))) (dcV (sums (L.take j))))] ∧ ∃ s2 s3 s4 s5, sl = [some d, some (.cell C.length), s2, s3, s4, s5])
    (fun j sl St hi => ⟨_, hi.1⟩)
    (fun j x sl St hx hi => by
      obtain ⟨rfl, s2, s3, s4, s5, rfl⟩ := hi
      rw [List.getElem?_map, Option.map_eq_some_iff] at hx
      obtain ⟨t, ht, rfl⟩ := hx
      have at_n : ∀ c : Option Cell, (C ++ [c])[C.length]? = some c := fun c => by simp
      have hv : vD (.cell C.length) (C ++ [some (.dT (dcK (sums (L.take j))) (dcV (sums (L.take j))))]) = some (dcK (sums (L.take j)), dcV (sums (L.take j))) := by
        simp only [vD, at_n]
      have hz : (sums (L.take j)).length < 16777216 := by
        have h1 := sums_len (L.take j) []
        have h2 : (L.take j).length ≤ L.length := by simp; omega
        have h3 : (sums (L.take j)).length ≤ ([] : Dc).length + (L.take j).length := h1
        simp only [List.length_nil] at h3
        omega
      refine ⟨[some d, some (.cell C.length), some (.int t.1), some (.int t.2.1), some (.int t.2.2), s5], [some d, some (.cell C.length), some (.int t.1), some (.int t.2.1), some (.int t.2.2), some (.tup [.int (pr t).1, .int (pr t).2])], C ++ [some (.dT (dcK (addT (sums (L.take j)) t)) (dcV (addT (sums (L.take j)) t)))], by simp [triD], ?_, ?_, _, _, _, _, rfl⟩
      · rw [ev_seq]
        have eb : b_summed_1b_0 ⟨C.length, [some d, some (.cell C.length), some (.int t.1), some (.int t.2.1), some (.int t.2.2), s5]⟩ (C ++ [some (.dT (dcK (sums (L.take j))) (dcV (sums (L.take j))))]) =
            .nx [some d, some (.cell C.length), some (.int t.1), some (.int t.2.1), some (.int t.2.2), some (.tup [.int (pr t).1, .int (pr t).2])] (C ++ [some (.dT (dcK (sums (L.take j))) (dcV (sums (L.take j))))]) := by
          simp [b_summed_1b_0, oTup, szN, pr]
        rw [eb, seqK_nx]
        have hs : (vD (.cell C.length) (C ++ [some (.dT (dcK (sums (L.take j))) (dcV (sums (L.take j))))])).isSome = true := by rw [hv]; rfl
        simp only [b_summed_1b_1, ev_put, ev_op, ev_dget, ev_var, List.getElem?_cons_succ, List.getElem?_cons_zero, getV_some, getK_ok _ _ _ hs, getK2_ok, ev_c, getK3_ok, get_at hv, ev_ofO_some, opK_ok, opK2_ok, ev_add, puK_ok, puK2_ok, puK3_ok]
        rw [put_at (at_n _) hz (.inr trivial)]
        simp [addT]
      · rw [sums_take L j t ht])
    (sl := [some d, some (.cell C.length), none, none, none, none]) (C := C ++ [some (.dT [] [])]) ⟨rfl, _, _, _, _, rfl⟩
  rw [h1, seqK_nx]
  obtain ⟨rfl, s2, s3, s4, s5, rfl⟩ := h2
  have hL : L.take (L.map triD).length = L := by rw [List.length_map, List.take_length]
  rw [hL]
  have at_n : ∀ c : Option Cell, (C ++ [c])[C.length]? = some c := fun c => by simp
  have cv : cbL C.length (dcV (sums L)) = true := by
    unfold dcV
    have := cbL_ints C.length ((sums L).map (·.2))
    rw [List.map_map] at this
    exact this
  simp [b_summed_2, fin, fz, cb, cv]
end CL
set_option maxHeartbeats 4000000
/-! M3: a web is made. -/
namespace CL
open PySem L2 CT
@[simp] theorem getK_dT (b c : ME) (F : Fr) (ks : List (List Key)) (vs : List D) (C : Store) : getK b c F (.ok (.dT ks vs) C) = getK2 c F (.dT ks vs) (b F C) := rfl
def ValidT (N : Nat) (t : T3) : Prop := 0 ≤ t.1 ∧ t.1 < N ∧ 0 ≤ t.2.1 ∧ t.2.1 < N ∧ t.1 ≠ t.2.1 ∧ 0 ≤ t.2.2 ∧ t.2.2 ≤ 1000000000
theorem is_tie_true {N : Nat} {t : T3} (h : ValidT N t) (C : Store) : m_is_tie [.int N, triD t] C = .ok (.bl true) C := by
  obtain ⟨h1, h2, h3, h4, h5, h6, h7⟩ := h
  have a1 : t.1 ≤ (N : Int) - 1 := by omega
  have a2 : t.2.1 ≤ (N : Int) - 1 := by omega
  simp [e_is_tie, b_is_tie, b_is_tie_0, b_is_tie_1, b_is_tie_2, b_is_tie_3, isi, tyD, isaT, oLen, vS, triD, is_count_int, h1, h3, h5, h6, h7, a1, a2]
def rowsOf (N : Nat) (f : Int × Int → Int) : List (List Int) := (List.range N).map fun u : Nat => (List.range N).map fun v : Nat => f (min (u : Int) (v : Int), max (u : Int) (v : Int))
def gridD (G : List (List Int)) : D := .lst (G.map fun r => .lst (r.map .int))
def asI : D → Int
  | .int i => i
  | _ => 0
theorem rng_all (N : Nat) (h : D → D) : ((rngI 0 N).filter fun _ => true).map h = (List.range N).map fun u => h (.int (u : Nat)) := by
  rw [filter_yes, rngI, List.map_map]
  apply List.map_congr_left
  intro a _
  simp
theorem inR_nat {N : Nat} (h : N ≤ 1000) : inR (N : Int) = true := by
  simp only [inR, Bool.and_eq_true, decide_eq_true_eq]
  omega
theorem grid_of_ok {d : D} {L : List T3} {C : Store} {N : Nat} (hN : N ≤ 60) (hd : SeqIn d (L.map triD) C) (hl : L.length ≤ 1000000) : m_grid_of [.int N, d] C = .ok (gridD (rowsOf N (dg0 (sums L)))) C := by
  rw [e_grid_of, b_grid_of, ev_seq]
  have e0 : b_grid_of_0 ⟨C.length, [some (.int N), some d, none, none, none]⟩ C = .nx [some (.int N), some d, some (.dT (dcK (sums L)) (dcV (sums L))), none, none] C := by
    simp [b_grid_of_0, summed_ok hd hl]
  rw [e0, seqK_nx]
  have inner : ∀ (u : Int) (C' : Store), mLc false (mRng1 (mVar 0)) (Tgt.nm 4).M tYesM (mDGet (mVar 2) (mAp oTup (mCons (mAp oMin2 (mCons (mVar 3) (mCons (mVar 4) mNil))) (mCons (mAp oMax2 (mCons (mVar 3) (mCons (mVar 4) mNil))) mNil))) (mC (.int 0))) [4]
      ⟨C.length, [some (.int N), some d, some (.dT (dcK (sums L)) (dcV (sums L))), some (.int u), none]⟩ C' = .ok (.lst (((List.range N).map fun v : Nat => dg0 (sums L) (min u (v : Int), max u (v : Int))).map .int)) C' := fun u C' => by
    rw [ev_lc (pure_R 0 N) (fun _ => true) (fun x => .int (dg0 (sums L) (min u (asI x), max u (asI x)))) (by rw [ev_rng1 (j := (N : Int)) (by simp) (inR_nat (by omega))]; simp) (by simp [rngI]; omega)
      (fun x hx => by
        obtain ⟨v, hv, rfl⟩ := mem_rng hx
        refine ⟨[some (.int N), some d, some (.dT (dcK (sums L)) (dcV (sums L))), some (.int u), some (.int (0 + (v : Int)))], by simp, fun acc => ⟨rfl, fun _ => ?_⟩⟩
        simp [oTup, szN, asI, get_at (x := .dT (dcK (sums L)) (dcV (sums L))) rfl])
      (fun x hx _ => rfl)]
    rw [rng_all, List.map_map]
    rfl
  have e1 : mLc false (mRng1 (mVar 0)) (Tgt.nm 3).M tYesM (mLc false (mRng1 (mVar 0)) (Tgt.nm 4).M tYesM (mDGet (mVar 2) (mAp oTup (mCons (mAp oMin2 (mCons (mVar 3) (mCons (mVar 4) mNil))) (mCons (mAp oMax2 (mCons (mVar 3) (mCons (mVar 4) mNil))) mNil))) (mC (.int 0))) [4]) [3]
      ⟨C.length, [some (.int N), some d, some (.dT (dcK (sums L)) (dcV (sums L))), none, none]⟩ C = .ok (gridD (rowsOf N (dg0 (sums L)))) C := by
    rw [ev_lc (pure_R 0 N) (fun _ => true) (fun x => .lst (((List.range N).map fun v : Nat => dg0 (sums L) (min (asI x) (v : Int), max (asI x) (v : Int))).map .int)) (by rw [ev_rng1 (j := (N : Int)) (by simp) (inR_nat (by omega))]; simp) (by simp [rngI]; omega)
      (fun x hx => by
        obtain ⟨u, hu, rfl⟩ := mem_rng hx
        refine ⟨[some (.int N), some d, some (.dT (dcK (sums L)) (dcV (sums L))), some (.int (0 + (u : Int))), none], by simp, fun acc => ⟨rfl, fun _ => ?_⟩⟩
        exact inner (0 + (u : Int)) _)
      (fun x hx _ => cbL_ints _ _)]
    rw [rng_all]
    simp [gridD, rowsOf, asI, List.map_map]
  have cg : cb C.length (gridD (rowsOf N (dg0 (sums L)))) = true := by
    show cbL C.length _ = true
    refine cbL_all fun d hd => ?_
    obtain ⟨r, hr, rfl⟩ := List.mem_map.mp hd
    exact cbL_ints _ _
  rw [b_grid_of_1, ev_sret, e1, retK_ok, finS_rt]
  show (if cb C.length (gridD (rowsOf N (dg0 (sums L)))) = true then R.ok (gridD (rowsOf N (dg0 (sums L)))) (C.take C.length) else .stuck) = _
  rw [if_pos cg, List.take_length]
end CL
set_option maxHeartbeats 4000000
/-! M4: Web(size, ties). -/
namespace CL
open PySem L2 CT
def pairsL (N : Nat) : List (Int × Int) := (List.range N).flatMap fun u : Nat => (List.range (N - (u + 1))).map fun w : Nat => ((u : Int), ((u + 1 + w : Nat) : Int))
def tiesL (N : Nat) (f : Int × Int → Int) : List T3 := ((pairsL N).filter fun p => decide (0 < f p)).map fun p => (p.1, p.2, f p)
def webD (N : Nat) (f : Int × Int → Int) : D := .obj 0 [.int N, gridD (rowsOf N f), .tup ((tiesL N f).map triD)]
def pD (p : Int × Int) : D := .tup [.int p.1, .int p.2]
theorem mem_pairs {N : Nat} {p : Int × Int} : p ∈ pairsL N ↔ ∃ u v : Nat, u < v ∧ v < N ∧ p = ((u : Int), (v : Int)) := by
  unfold pairsL
  rw [List.mem_flatMap]
  constructor
  · rintro ⟨u, hu, hp⟩
    obtain ⟨w, hw, rfl⟩ := List.mem_map.mp hp
    have := List.mem_range.mp hu
    have := List.mem_range.mp hw
    exact ⟨u, u + 1 + w, by omega, by omega, rfl⟩
  · rintro ⟨u, v, h1, h2, rfl⟩
    refine ⟨u, List.mem_range.mpr (by omega), List.mem_map.mpr ⟨v - (u + 1), List.mem_range.mpr (by omega), ?_⟩⟩
    have e : u + 1 + (v - (u + 1)) = v := by omega
    rw [e]
theorem grid_ix {N : Nat} {f : Int × Int → Int} {u : Nat} (hu : u < N) (C : Store) : oIx (gridD (rowsOf N f)) (.int u) C = some (.lst (((List.range N).map fun v : Nat => f (min (u : Int) (v : Int), max (u : Int) (v : Int))).map .int), C) := by
  simp [oIx, vS, gridD, rowsOf, atI, ixN, hu]
theorem row_ix {N : Nat} {g : Nat → Int} {v : Nat} (hv : v < N) (C : Store) : oIx (.lst (((List.range N).map g).map .int)) (.int v) C = some (.int (g v), C) := by
  simp [oIx, vS, atI, ixN, hv]
theorem anyF {C : Store} {l : List D} (h : ∀ d ∈ l, d = .bl false) : oAny [.lst l] C = some (.bl false, C) := by
  have e : dBools l = some (l.map fun _ => false) := by
    induction l with
    | nil => rfl
    | cons d l ih =>
      have h1 := h d (List.mem_cons_self ..)
      subst h1
      simp [dBools, ih fun x hx => h x (List.mem_cons_of_mem _ hx)]
  simp [oAny, vL, e]
def big : D → Bool
  | .int n => decide (1000000000 < n)
  | _ => false
theorem flatMap_cg {α β : Type} {f g : α → List β} : ∀ {l : List α}, (∀ x ∈ l, f x = g x) → l.flatMap f = l.flatMap g
  | [], _ => rfl
  | x :: l, h => by rw [List.flatMap_cons, List.flatMap_cons, h x (List.mem_cons_self ..), flatMap_cg fun y hy => h y (List.mem_cons_of_mem _ hy)]
def itemsD : D → List D
  | .lst l => l
  | _ => []
theorem rows_len {N : Nat} {f : Int × Int → Int} {r : List Int} (h : r ∈ rowsOf N f) : r.length = N ∧ ∀ x ∈ r, ∃ u v : Nat, u < N ∧ v < N ∧ x = f (min (u : Int) (v : Int), max (u : Int) (v : Int)) := by
  unfold rowsOf at h
  obtain ⟨u, hu, rfl⟩ := List.mem_map.mp h
  refine ⟨by simp, fun x hx => ?_⟩
  obtain ⟨v, hv, rfl⟩ := List.mem_map.mp hx
  exact ⟨u, v, List.mem_range.mp hu, List.mem_range.mp hv, rfl⟩
/-- d is a list or a tuple of these items, perhaps a cell -/
def SeqD (d : D) (xs : List D) (C : Store) : Prop := d = .lst xs ∨ d = .tup xs ∨ d = .kt xs ∨ ∃ i, d = .cell i ∧ C[i]? = some (some (.lst xs))
theorem SeqD.app {d : D} {xs : List D} {C : Store} (h : SeqD d xs C) (Z : Store) : SeqD d xs (C ++ Z) := by
  rcases h with h | h | h | ⟨i, h, e⟩
  · exact .inl h
  · exact .inr (.inl h)
  · exact .inr (.inr (.inl h))
  · exact .inr (.inr (.inr ⟨i, h, by rw [List.getElem?_append_left (List.getElem?_eq_some_iff.mp e).1]; exact e⟩))
theorem SeqD.seq {d : D} {xs : List D} {C : Store} (h : SeqD d xs C) : SeqIn d xs C := by
  rcases h with rfl | rfl | rfl | ⟨i, rfl, e⟩
  · exact seq_of (seq_lst xs) C
  · exact seq_of (seq_tup xs) C
  · exact seq_of (seq_kt xs) C
  · exact seq_cell e
section
variable {N : Nat} {L : List T3} {C : Store} {d : D}
abbrev fL (L : List T3) : Int × Int → Int := dg0 (sums L)
theorem init_0 {sl : List (Option D)} {fl : Nat} (hN : N ≤ 60) (h : sl[1]? = some (some (.int N))) : b_Web__init_0 ⟨fl, sl⟩ C = .nx sl C := by
  have h60 : (N : Int) ≤ 60 := by omega
  simp [b_Web__init_0, h, is_count_int, h60]
theorem init_1 {sl : List (Option D)} {fl : Nat} {xs : List D} (h : sl[2]? = some (some d)) (hd : SeqD d xs C) : b_Web__init_1 ⟨fl, sl⟩ C = .nx sl C := by
  rcases hd with rfl | rfl | rfl | ⟨i, rfl, e⟩
  · simp [b_Web__init_1, h, mIsi2, isi, tyD, isaT]
  · simp [b_Web__init_1, h, mIsi2, isi, tyD, isaT]
  · simp [b_Web__init_1, h, mIsi2, isi, tyD, isaT]
  · simp [b_Web__init_1, h, mIsi2, isi, tyD, isaT, e]
theorem init_2 {fl i : Nat} (hs : SeqIn d (L.map triD) C) (hv : ∀ t ∈ L, ValidT N t) : ∃ s3 s4, b_Web__init_2 ⟨fl, [some (.cell i), some (.int N), some d, none, none, none, none, none, none, none, none]⟩ C = .nx [some (.cell i), some (.int N), some d, s3, s4, none, none, none, none, none, none] C := by
  obtain ⟨it, hit, pit⟩ := hs.at0
  rw [b_Web__init_2, ev_for, ev_enum (d := d) (it := it) (by simp) hit, forK_ok]
  obtain ⟨sl', C', h1, h2⟩ := loop_on pit.pairs (g := (Tgt.tp [3, 4]).M) (body := b_Web__init_2b_0) (fl := fl)
    (fun j sl St => St = C ∧ ∃ s3 s4, sl = [some (.cell i), some (.int N), some d, s3, s4, none, none, none, none, none, none])
    (fun j sl St hi => ⟨[], by rw [hi.1, List.append_nil]⟩)
    (fun j x sl St hx hi => by
      obtain ⟨rfl, s3, s4, rfl⟩ := hi
      rw [List.getElem?_map, Option.map_eq_some_iff] at hx
      obtain ⟨⟨a, y⟩, hy, rfl⟩ := hx
      obtain ⟨_, hy2⟩ := List.getElem?_zip_eq_some.mp hy
      rw [List.getElem?_map, Option.map_eq_some_iff] at hy2
      obtain ⟨t, ht, rfl⟩ := hy2
      refine ⟨[some (.cell i), some (.int N), some d, some (.int a), some (triD t), none, none, none, none, none, none], [some (.cell i), some (.int N), some d, some (.int a), some (triD t), none, none, none, none, none, none], St, by simp, ?_, rfl, _, _, rfl⟩
      simp [b_Web__init_2b_0, is_tie_true (hv t (List.mem_of_getElem? ht))])
    (sl := [some (.cell i), some (.int N), some d, none, none, none, none, none, none, none, none]) (C := C) ⟨rfl, _, _, rfl⟩
  obtain ⟨rfl, s3, s4, rfl⟩ := h2
  exact ⟨s3, s4, h1⟩
theorem init_3 {fl i : Nat} {s3 s4 : Option D} (hN : N ≤ 60) (hs : SeqIn d (L.map triD) C) (hl : L.length ≤ 1000000) : b_Web__init_3 ⟨fl, [some (.cell i), some (.int N), some d, s3, s4, none, none, none, none, none, none]⟩ C =
    .nx [some (.cell i), some (.int N), some d, s3, s4, some (gridD (rowsOf N (fL L))), none, none, none, none, none] C := by
  simp [b_Web__init_3, grid_of_ok hN hs hl]
theorem init_4 {fl i : Nat} {s3 s4 : Option D} {f : Int × Int → Int} (hN : N ≤ 60) (hf : ∀ u v : Nat, u < N → v < N → f (min (u : Int) (v : Int), max (u : Int) (v : Int)) ≤ 1000000000) :
    b_Web__init_4 ⟨fl, [some (.cell i), some (.int N), some d, s3, s4, some (gridD (rowsOf N f)), none, none, none, none, none]⟩ C = .nx [some (.cell i), some (.int N), some d, s3, s4, some (gridD (rowsOf N f)), none, none, none, none, none] C := by
  have e : mLc2 false (mSeq (mVar 5)) (Tgt.nm 7).M tYesM (mSeq (mVar 7)) (Tgt.nm 8).M tYesM (mOp oGt (mVar 8) (mC (.int 1000000000))) [7, 8] [8] ⟨fl, [some (.cell i), some (.int N), some d, s3, s4, some (gridD (rowsOf N f)), none, none, none, none, none]⟩ C =
      .ok (.lst (flat2 ((rowsOf N f).map fun r => .lst (r.map .int)) itemsD (fun _ _ => true) fun _ y => .bl (big y))) C := by
    refine ev_lc2 (pure_C ((rowsOf N f).map fun r => D.lst (r.map .int))) itemsD (fun _ _ => true) (fun _ y => .bl (big y)) 60 ?_ (fun x hx => ?_) ?_ (by omega) (fun x hx => ?_) (fun _ _ _ _ _ => rfl)
    · exact ev_seqI (d := gridD (rowsOf N f)) (by simp) rfl
    · obtain ⟨r, hr, rfl⟩ := List.mem_map.mp hx
      show (r.map D.int).length ≤ 60
      rw [List.length_map, (rows_len hr).1]
      exact hN
    · have : (rowsOf N f).length = N := by simp [rowsOf]
      rw [List.length_map, this]
      omega
    · obtain ⟨r, hr, rfl⟩ := List.mem_map.mp hx
      refine ⟨[some (.cell i), some (.int N), some d, s3, s4, some (gridD (rowsOf N f)), none, some (.lst (r.map .int)), none, none, none], by simp, fun acc => ⟨⟨itC (r.map .int), pure_C _, ev_seqI (d := .lst (r.map .int)) (by simp) rfl⟩, fun y hy => ?_⟩⟩
      obtain ⟨n, hn, rfl⟩ := List.mem_map.mp hy
      exact ⟨[some (.cell i), some (.int N), some d, s3, s4, some (gridD (rowsOf N f)), none, some (.lst (r.map .int)), some (.int n), none, none], by simp, fun acc => ⟨rfl, fun _ => by simp [big]⟩⟩
  have a := anyF (C := C) (l := flat2 ((rowsOf N f).map fun r => .lst (r.map .int)) itemsD (fun _ _ => true) fun _ y => .bl (big y)) fun x hx => by
    unfold flat2 at hx
    obtain ⟨row, hrow, hx⟩ := List.mem_flatMap.mp hx
    obtain ⟨r, hr, rfl⟩ := List.mem_map.mp hrow
    obtain ⟨y, hy, rfl⟩ := List.mem_map.mp hx
    have hy' := (List.mem_filter.mp hy).1
    obtain ⟨n, hn, rfl⟩ := List.mem_map.mp hy'
    obtain ⟨u, v, hu, hv, rfl⟩ := (rows_len hr).2 n hn
    have := hf u v hu hv
    simp only [big]
    rw [decide_eq_false (by omega)]
  simp only [b_Web__init_4, ev_sif, ev_tst, ev_ap, ev_cons, e, consK_ok, ev_nil, consK2_ok, apK_ok, a, ev_ofO_some, tstK_ok, sifK_f, ev_next]
theorem init_5 {fl i : Nat} {s3 s4 s5 : Option D} (hN : N ≤ 60) : b_Web__init_5 ⟨fl, [some (.cell i), some (.int N), some d, s3, s4, s5, none, none, none, none, none]⟩ C =
    .nx [some (.cell i), some (.int N), some d, s3, s4, s5, some (.lst ((pairsL N).map pD)), none, none, none, none] C := by
  have e : mLc2 false (mRng1 (mVar 1)) (Tgt.nm 9).M tYesM (mRng2 (mOp oAdd (mVar 9) (mC (.int 1))) (mVar 1)) (Tgt.nm 10).M tYesM (mAp oTup (mCons (mVar 9) (mCons (mVar 10) mNil))) [9, 10] [10] ⟨fl, [some (.cell i), some (.int N), some d, s3, s4, s5, none, none, none, none, none]⟩ C =
      .ok (.lst (flat2 (rngI 0 N) (fun x => rngI (asI x + 1) (N - (asI x + 1)).toNat) (fun _ _ => true) fun x y => .tup [x, y])) C := by
    refine ev_lc2 (pure_R 0 N) (fun x => rngI (asI x + 1) (N - (asI x + 1)).toNat) (fun _ _ => true) (fun x y => .tup [x, y]) 60 (by rw [ev_rng1 (j := (N : Int)) (by simp) (inR_nat (by omega))]; simp) (fun x hx => ?_) (by simp [rngI]; omega) (by omega) (fun x hx => ?_) (fun x hx y hy _ => ?_)
    · obtain ⟨u, hu, rfl⟩ := mem_rng hx
      simp [rngI, asI]
      omega
    · obtain ⟨u, hu, rfl⟩ := mem_rng hx
      refine ⟨[some (.cell i), some (.int N), some d, s3, s4, s5, none, none, none, some (.int (0 + (u : Int))), none], by simp, fun acc => ⟨⟨itR ((0 + (u : Int)) + 1) ((N : Int) - ((0 + (u : Int)) + 1)).toNat, pure_R _ _, ?_⟩, fun y hy => ?_⟩⟩
      · exact ev_rng2 (by simp) (by simp) (by have := inR_nat (N := u + 1) (by omega); simpa using this) (inR_nat (by omega))
      · obtain ⟨w, hw, rfl⟩ := mem_rng hy
        exact ⟨[some (.cell i), some (.int N), some d, s3, s4, s5, none, none, none, some (.int (0 + (u : Int))), some (.int (asI (.int (0 + (u : Int))) + 1 + (w : Int)))], by simp, fun acc => ⟨rfl, fun _ => by simp [oTup, szN]⟩⟩
    · obtain ⟨u, hu, rfl⟩ := mem_rng hx
      obtain ⟨w, hw, rfl⟩ := mem_rng hy
      rfl
  have ep : flat2 (rngI 0 N) (fun x => rngI (asI x + 1) (N - (asI x + 1)).toNat) (fun _ _ => true) (fun x y => .tup [x, y]) = (pairsL N).map pD := by
    unfold flat2 pairsL
    rw [List.map_flatMap]
    unfold rngI
    rw [List.flatMap_map]
    apply flatMap_cg
    intro u hu
    have hu' := List.mem_range.mp hu
    rw [filter_yes, List.map_map, List.map_map]
    have e1 : ((N : Int) - (asI (.int (0 + (u : Int))) + 1)).toNat = N - (u + 1) := by simp only [asI]; omega
    rw [e1]
    apply List.map_congr_left
    intro w hw
    simp [pD, asI]
  rw [b_Web__init_5, ev_asg, e, ep]
  simp
end
end CL
set_option maxHeartbeats 4000000
/-! M5: Web(size, ties), made. -/
namespace CL
open PySem L2 CT
theorem fld_ok {c n i : Nat} {me mo : ME} {F : Fr} {C : Store} {v : D} {fs : List D} (h1 : me F C = .ok v C) (h2 : mo F C = .ok (.cell i) C) (h3 : C[i]? = some (some (.ins c fs))) (h4 : n = fs.length) (h5 : cbL 0 (fs ++ [v]) = true) :
    sFldS c n me mo F C = .nx F.sl (C.set i (some (.ins c (fs ++ [v])))) := by
  have w : wr F.fl i (.ins c (fs ++ [v])) C = some (C.set i (some (.ins c (fs ++ [v])))) := by
    unfold wr
    rw [if_neg (fun h => by rw [show cbC 0 (.ins c (fs ++ [v])) = cbL 0 (fs ++ [v]) from rfl, h5] at h; cases h.2)]
  unfold sFldS
  rw [h1]
  simp only [bndS_ok]
  rw [h2]
  simp only [bndS_ok, h3]
  rw [if_pos ⟨trivial, Nat.le_of_eq h4⟩, if_neg (by omega), w]
theorem cbL_app {n : Nat} : ∀ {l m : List D}, cbL n (l ++ m) = (cbL n l && cbL n m)
  | [], m => by simp [cbL]
  | d :: l, m => by
    show (cb n d && cbL n (l ++ m)) = ((cb n d && cbL n l) && cbL n m)
    rw [cbL_app, Bool.and_assoc]
def rowD (N : Nat) (f : Int × Int → Int) (u : Nat) : D := .lst (((List.range N).map fun v : Nat => f (min (u : Int) (v : Int), max (u : Int) (v : Int))).map .int)
theorem gix {N : Nat} {f : Int × Int → Int} {u : Nat} (hu : u < N) (C : Store) : oIx (gridD (rowsOf N f)) (.int u) C = some (rowD N f u, C) := grid_ix hu C
theorem rix {N : Nat} {f : Int × Int → Int} {u v : Nat} (hv : v < N) (C : Store) : oIx (rowD N f u) (.int v) C = some (.int (f (min (u : Int) (v : Int), max (u : Int) (v : Int))), C) := row_ix (g := fun v : Nat => f (min (u : Int) (v : Int), max (u : Int) (v : Int))) hv C
def posB (f : Int × Int → Int) : D → Bool
  | .tup [.int a, .int b] => decide (0 < f (a, b))
  | _ => false
def triB (f : Int × Int → Int) : D → D
  | .tup [.int a, .int b] => triD (a, b, f (a, b))
  | _ => .non
theorem cb_grid (n : Nat) (G : List (List Int)) : cb n (gridD G) = true := by
  show cbL n _ = true
  refine cbL_all fun d hd => ?_
  obtain ⟨r, hr, rfl⟩ := List.mem_map.mp hd
  exact cbL_ints _ _
theorem cb_ties (n : Nat) (l : List T3) : cbL n (l.map triD) = true := cbL_all fun d hd => by
  obtain ⟨t, _, rfl⟩ := List.mem_map.mp hd
  rfl
section
variable {N : Nat} {L : List T3} {C : Store} {d : D}
theorem ties_lc {fl i : Nat} {s3 s4 : Option D} {f : Int × Int → Int} : mLc false (mSeq (mVar 6)) (Tgt.tp [9, 10]).M (mTst (mOp oGt (mOp oIx (mOp oIx (mVar 5) (mVar 9)) (mVar 10)) (mC (.int 0)))) (mAp oTup (mCons (mVar 9) (mCons (mVar 10) (mCons (mOp oIx (mOp oIx (mVar 5) (mVar 9)) (mVar 10)) mNil)))) [9, 10]
    ⟨fl, [some (.cell i), some (.int N), some d, s3, s4, some (gridD (rowsOf N f)), some (.lst ((pairsL N).map pD)), none, none, none, none]⟩ C = .ok (.lst ((tiesL N f).map triD)) C ∨ 3600 < (pairsL N).length := by
  by_cases hz : 3600 < (pairsL N).length
  · exact .inr hz
  refine .inl ?_
  have e := ev_lc (pure_C ((pairsL N).map pD)) (mi := mSeq (mVar 6)) (g := (Tgt.tp [9, 10]).M) (tt := mTst (mOp oGt (mOp oIx (mOp oIx (mVar 5) (mVar 9)) (mVar 10)) (mC (.int 0)))) (te := mAp oTup (mCons (mVar 9) (mCons (mVar 10) (mCons (mOp oIx (mOp oIx (mVar 5) (mVar 9)) (mVar 10)) mNil)))) (vs := [9, 10])
    (F := ⟨fl, [some (.cell i), some (.int N), some d, s3, s4, some (gridD (rowsOf N f)), some (.lst ((pairsL N).map pD)), none, none, none, none]⟩) (C := C) (posB f) (triB f) (ev_seqI (d := .lst ((pairsL N).map pD)) (by simp) rfl) (by rw [List.length_map]; omega)
    (fun x hx => by
      obtain ⟨p, hp, rfl⟩ := List.mem_map.mp hx
      obtain ⟨u, v, h1, h2, rfl⟩ := mem_pairs.mp hp
      have hu : u < N := by omega
      have e1 : min (u : Int) (v : Int) = u := by omega
      have e2 : max (u : Int) (v : Int) = v := by omega
      refine ⟨[some (.cell i), some (.int N), some d, s3, s4, some (gridD (rowsOf N f)), some (.lst ((pairsL N).map pD)), none, none, some (.int u), some (.int v)], by simp [pD], fun acc => ⟨?_, fun _ => ?_⟩⟩
      · simp [gix hu, rix h2, e1, e2, posB, pD]
      · simp [gix hu, rix h2, e1, e2, triB, pD, oTup, szN, triD])
    (fun x hx _ => by
      obtain ⟨p, hp, rfl⟩ := List.mem_map.mp hx
      rfl)
  rw [e]
  congr 2
  unfold tiesL
  rw [List.filter_map, List.map_map, List.map_map]
  rfl
theorem pairs_len (h : N ≤ 60) : (pairsL N).length ≤ 3600 := by
  have : ∀ l : List Nat, (l.flatMap fun u : Nat => (List.range (N - (u + 1))).map fun w : Nat => ((u : Int), ((u + 1 + w : Nat) : Int))).length ≤ l.length * 60 := by
    intro l
    induction l with
    | nil => simp
    | cons u l ih =>
      rw [List.flatMap_cons, List.length_append, List.length_cons, List.length_map, List.length_range, Nat.succ_mul]
      omega
  have h2 := this (List.range N)
  rw [List.length_range] at h2
  have h3 : N * 60 ≤ 3600 := by omega
  exact Nat.le_trans h2 h3
end
end CL
set_option maxHeartbeats 4000000
/-! M6: the instance. -/
namespace CL
open PySem L2 CT
section
variable {N : Nat} {L : List T3} {C : Store} {d : D}
/-- the ties fit into a web of N places -/
structure Fits (N : Nat) (L : List T3) : Prop where
  n : N ≤ 60
  v : ∀ t ∈ L, ValidT N t
  l : L.length ≤ 1000000
  s : ∀ u v : Nat, u < N → v < N → fL L (min (u : Int) (v : Int), max (u : Int) (v : Int)) ≤ 1000000000
theorem init_ok (h : Fits N L) (hd : SeqD d (L.map triD) C) : m_Web__init [.cell C.length, .int N, d] (C ++ [some (.ins 0 [])]) = .ok .non (C ++ [some (.ins 0 [.int N, gridD (rowsOf N (fL L)), .tup ((tiesL N (fL L)).map triD)])]) := by
  have st : ∀ x y : Option Cell, (C ++ [x]).set C.length y = C ++ [y] := fun x y => by simp
  have gt : ∀ x : Option Cell, (C ++ [x])[C.length]? = some x := fun x => by simp
  have hd1 := hd.app [some (.ins 0 [])]
  rw [e_Web__init, b_Web__init, ev_seq, init_0 h.n rfl, seqK_nx, ev_seq, init_1 rfl hd1, seqK_nx, ev_seq]
  obtain ⟨s3, s4, e2⟩ := init_2 (C := C ++ [some (.ins 0 [])]) (fl := (C ++ [some (Cell.ins 0 [])]).length) (i := C.length) hd1.seq h.v
  rw [e2, seqK_nx, ev_seq, init_3 h.n hd1.seq h.l, seqK_nx, ev_seq, init_4 h.n h.s, seqK_nx, ev_seq, init_5 h.n, seqK_nx, ev_seq]
  have e6 : ∀ fl sl, sl[0]? = some (some (D.cell C.length)) → sl[1]? = some (some (.int N)) → b_Web__init_6 ⟨fl, sl⟩ (C ++ [some (.ins 0 [])]) = .nx sl (C ++ [some (.ins 0 [.int N])]) := fun fl sl h0 h1 => by
    rw [b_Web__init_6, fld_ok (n := 0) (v := .int N) (i := C.length) (fs := []) (by simp [h1]) (by simp [h0]) (gt _) rfl rfl, st]
    rfl
  have e7 : ∀ fl sl, sl[0]? = some (some (D.cell C.length)) → sl[5]? = some (some (gridD (rowsOf N (fL L)))) → b_Web__init_7 ⟨fl, sl⟩ (C ++ [some (.ins 0 [.int N])]) = .nx sl (C ++ [some (.ins 0 [.int N, gridD (rowsOf N (fL L))])]) := fun fl sl h0 h1 => by
    rw [b_Web__init_7, fld_ok (n := 1) (v := gridD (rowsOf N (fL L))) (i := C.length) (fs := [.int N]) (by simp [h1]) (by simp [h0]) (gt _) rfl (by
      rw [cbL_app]
      show (true && (cb 0 (gridD (rowsOf N (fL L))) && true)) = true
      rw [cb_grid]
      rfl), st]
    rfl
  rw [e6 _ _ rfl rfl, seqK_nx, ev_seq, e7 _ _ rfl rfl, seqK_nx]
  have el : mLc false (mSeq (mVar 6)) (Tgt.tp [9, 10]).M (mTst (mOp oGt (mOp oIx (mOp oIx (mVar 5) (mVar 9)) (mVar 10)) (mC (.int 0)))) (mAp oTup (mCons (mVar 9) (mCons (mVar 10) (mCons (mOp oIx (mOp oIx (mVar 5) (mVar 9)) (mVar 10)) mNil)))) [9, 10]
      ⟨(C ++ [some (Cell.ins 0 [])]).length, [some (.cell C.length), some (.int N), some d, s3, s4, some (gridD (rowsOf N (fL L))), some (.lst ((pairsL N).map pD)), none, none, none, none]⟩ (C ++ [some (.ins 0 [.int N, gridD (rowsOf N (fL L))])]) = .ok (.lst ((tiesL N (fL L)).map triD)) (C ++ [some (.ins 0 [.int N, gridD (rowsOf N (fL L))])]) := by
    rcases ties_lc (N := N) (d := d) (C := C ++ [some (.ins 0 [.int N, gridD (rowsOf N (fL L))])]) (fl := (C ++ [some (Cell.ins 0 [])]).length) (i := C.length) (s3 := s3) (s4 := s4) (f := fL L) with e | e
    · exact e
    · have := pairs_len h.n
      omega
  rw [b_Web__init_8, fld_ok (n := 2) (v := .tup ((tiesL N (fL L)).map triD)) (i := C.length) (fs := [.int N, gridD (rowsOf N (fL L))]) (by
    rw [ev_ap, ev_cons]
    simp only [List.cons_append, List.nil_append]
    rw [el]
    simp [oTupOf, vL]) (by simp) (gt _) rfl (by
    show (true && (cb 0 (gridD (rowsOf N (fL L))) && (cbL 0 ((tiesL N (fL L)).map triD) && true))) = true
    rw [cb_grid, cb_ties]
    rfl), st, finS_nx, fin_non]
  congr 1
  exact List.take_of_length_le (by simp)
theorem make_ok {F : Fr} {a : MA} {dds ds : List D} (h : Fits N L) (hd : SeqD d (L.map triD) C) (ha : a F C = .ok ds C) (e : ds ++ dds = [.int N, d]) : mMake false 0 3 m_Web__init dds a F C = .ok (webD N (fL L)) C := by
  unfold mMake
  rw [ha]
  simp only [bnd_ok]
  rw [e, init_ok h hd]
  have gt : ∀ x : Option Cell, (C ++ [x])[C.length]? = some x := fun x => by simp
  simp only [gt]
  have c : cbL C.length [.int N, gridD (rowsOf N (fL L)), .tup ((tiesL N (fL L)).map triD)] = true := by
    show (true && (cb C.length (gridD (rowsOf N (fL L))) && (cbL C.length ((tiesL N (fL L)).map triD) && true))) = true
    rw [cb_grid, cb_ties]
    rfl
  simp [c, webD]
end
end CL
set_option maxHeartbeats 4000000
/-! M7: total, degrees, within, changed, crossing. -/
namespace CL
open PySem L2 CT
theorem sum_ints (l : List Int) (C : Store) : oSum [.lst (l.map .int)] C = some (.int l.sum, C) := by
  simp [oSum, vL]
end CL
set_option maxHeartbeats 4000000
/-! M9: plain facts on sums. -/
namespace CL
open PySem L2 CT
/-- what the items give a pair together -/
def tot (L : List T3) (k : Int × Int) : Int := (L.map fun t => if pr t = k then t.2.2 else 0).sum
theorem dg0_fold (k : Int × Int) : ∀ (L : List T3) (d : Dc), dg0 (L.foldl addT d) k = dg0 d k + tot L k
  | [], d => by simp [tot]
  | t :: L, d => by
    rw [List.foldl_cons, dg0_fold k L]
    unfold addT
    rw [dg0_dp]
    by_cases h : k = pr t
    · subst h
      simp [tot]
      omega
    · have h' : ¬ pr t = k := fun e => h e.symm
      simp [tot, h, h']
theorem dg0_sums (L : List T3) (k : Int × Int) : dg0 (sums L) k = tot L k := by
  have := dg0_fold k L []
  rw [show dg0 ([] : Dc) k = 0 from rfl, Int.zero_add] at this
  exact this
theorem tot_app (L M : List T3) (k : Int × Int) : tot (L ++ M) k = tot L k + tot M k := by
  simp [tot]
theorem tot_cons (t : T3) (L : List T3) (k : Int × Int) : tot (t :: L) k = (if pr t = k then t.2.2 else 0) + tot L k := by
  simp [tot]
theorem pairs_nodup (N : Nat) : (pairsL N).Nodup := by
  unfold pairsL
  have key : ∀ l : List Nat, l.Nodup → (l.flatMap fun u : Nat => (List.range (N - (u + 1))).map fun w : Nat => ((u : Int), ((u + 1 + w : Nat) : Int))).Nodup := by
    intro l
    induction l with
    | nil => intro _; simp
    | cons u l ih =>
      intro hl
      rw [List.nodup_cons] at hl
      rw [List.flatMap_cons, List.nodup_append]
      refine ⟨?_, ih hl.2, ?_⟩
      · apply nodup_map_on List.nodup_range
        intro x _ y _ e
        have := congrArg Prod.snd e
        simp only at this
        omega
      · intro a ha b hb e
        subst e
        obtain ⟨w, _, rfl⟩ := List.mem_map.mp ha
        obtain ⟨u', hu', hb'⟩ := List.mem_flatMap.mp hb
        obtain ⟨w', _, e⟩ := List.mem_map.mp hb'
        have := congrArg Prod.fst e
        simp only at this
        have eu : u' = u := by omega
        subst eu
        exact hl.1 hu'
  exact key _ List.nodup_range
local macro_rules | `(tactic| walk_at "w") => `(tactic| first | ((with_reducible apply gR); first | with_reducible refine w_var rfl ?_ | with_reducible apply w_cons | with_reducible apply w_c | with_reducible apply w_nil | with_reducible apply w_op | with_reducible apply w_ap | with_reducible apply w_call | with_reducible apply w_tst | with_reducible apply w_un | with_reducible apply w_tand | with_reducible apply w_tor | with_reducible apply w_tnot | with_reducible apply w_yes | with_reducible apply w_and | with_reducible apply w_or | with_reducible apply w_not | with_reducible apply w_if | with_reducible apply w_chain | with_reducible apply w_isi | with_reducible apply w_isi2 | with_reducible apply w_prop | with_reducible apply w_meth | with_reducible apply w_dget | with_reducible apply w_dnewF | with_reducible apply w_dnewT | with_reducible apply w_part | with_reducible apply w_noPart | with_reducible apply w_slLF | with_reducible apply w_slA | with_reducible apply w_ok | with_reducible apply w_ofO | with_reducible apply w_lcI | with_reducible apply w_seqI | with_reducible apply w_rng1 | with_reducible apply w_rng2 | with_reducible apply w_enum) | ((with_reducible apply gO); first | with_reducible apply wo_add | with_reducible apply wo_sub | with_reducible apply wo_lt | with_reducible apply wo_gt | with_reducible apply wo_eq | with_reducible apply wo_ne | with_reducible apply wo_le | with_reducible apply wo_ge | with_reducible apply wo_neg | with_reducible apply wo_eqS | with_reducible apply wo_neS | with_reducible apply wo_min | with_reducible apply wo_max | with_reducible apply wo_int | with_reducible apply wo_abs | with_reducible apply wo_tupL | with_reducible apply wo_tupT | with_reducible refine wo_tup (by with_unfolding_all rfl) ?_ | with_reducible refine wo_lstF (by with_unfolding_all rfl) ?_ | with_reducible refine wo_lstT (by with_unfolding_all rfl) ?_ | with_reducible apply wo_fld0 | with_reducible apply wo_fldH0 | with_reducible apply wo_fld1 | with_reducible apply wo_fld2 | with_reducible apply wo_fldW0 | with_reducible apply wo_fldW1 | with_reducible apply wo_fldW2) | ((with_reducible apply gS); first | with_reducible apply w_seq | with_reducible apply w_asg | with_reducible apply w_sif | with_reducible apply w_next | with_reducible apply w_ret | with_reducible apply w_par | with_reducible apply w_drop | with_reducible apply w_asgT | with_reducible apply w_retN | with_reducible apply w_brk | with_reducible apply w_cnt | with_reducible apply w_raise | with_reducible apply w_forI) | ((with_reducible apply gI); first | with_reducible apply wI_t | with_reducible apply wI_f | with_reducible apply wI_not) | with_reducible apply w_bl | with_reducible apply thn_nx | with_reducible apply w_int | with_reducible apply w_obj | with_reducible apply thn_rt | with_reducible apply lp_nx | with_reducible apply fnl_int | with_reducible apply fnl_bl | with_reducible apply fnl_non | with_reducible apply fnl_str | with_reducible apply fnl_nx | with_reducible apply thn_bk | with_reducible apply thn_ct | with_reducible apply thn_xc | with_reducible apply lp_rt | with_reducible apply lp_bk | with_reducible apply lp_xc | with_reducible apply w_itL | with_reducible apply w_itT | with_reducible apply w_itK)
local macro_rules | `(tactic| walk_at "p") => `(tactic| repeat walk_at "w")
/-! RA1q: functions of webs; plain, free of dicts. -/
structure FOk (N : Nat) (f : Int × Int → Int) : Prop where
  n : N ≤ 60
  b : ∀ p, 0 ≤ f p ∧ f p ≤ 1000000000
  z : ∀ p, p ∉ pairsL N → f p = 0
section
variable {N : Nat} {C : Store} {L : List T3} {u v n : Int} {f g : Int × Int → Int} {k : Int × Int}
theorem mem_pairsI {p : Int × Int} : p ∈ pairsL N ↔ 0 ≤ p.1 ∧ p.1 < p.2 ∧ p.2 < N := by
  rw [mem_pairs]
  constructor
  · rintro ⟨u, v, h1, h2, rfl⟩
    simp only
    omega
  · intro h
    exact ⟨p.1.toNat, p.2.toNat, by omega, by omega, Prod.ext (by simp only; omega) (by simp only; omega)⟩
end
end CL
set_option maxHeartbeats 1000000
/-! FF1: sums; sets of rows in which every step has a second step (jump systems); nearest rows. -/
namespace FF
def sm (N : Nat) (t : Nat → Int) : Int := ((List.range N).map t).sum
theorem sm_succ (N : Nat) (t : Nat → Int) : sm (N + 1) t = sm N t + t N := by simp [sm, List.range_succ]
theorem sm_zero (N : Nat) : sm N (fun _ => 0) = 0 := by
  induction N with
  | zero => rfl
  | succ n ih => rw [sm_succ, ih]; rfl
theorem sm_le {N : Nat} {s t : Nat → Int} (h : ∀ v, v < N → s v ≤ t v) : sm N s ≤ sm N t := by
  induction N with
  | zero => exact Int.le_refl _
  | succ n ih =>
    have := ih fun v hv => h v (by omega)
    have := h n (by omega)
    rw [sm_succ, sm_succ]
    omega
theorem sm_pos {N : Nat} {t : Nat → Int} (h : ∀ v, v < N → 0 ≤ t v) : 0 ≤ sm N t := by
  have := sm_le (s := fun _ => 0) h
  rw [sm_zero] at this
  exact this
def ab (x : Int) : Int := max x (-x)
theorem ab_pos (x : Int) : 0 ≤ ab x := by unfold ab; omega
def dd (N : Nat) (p a : Nat → Int) : Int := sm N fun v => ab (p v - a v)
def up (p : Nat → Int) (v : Nat) (s : Int) : Nat → Int := fun u => if u = v then p u + s else p u
theorem up_comm (p : Nat → Int) (u v : Nat) (s t : Int) : up (up p u s) v t = up (up p v t) u s := by
  funext w
  unfold up
  split <;> split <;> omega
theorem dd_pos (N : Nat) (p a : Nat → Int) : 0 ≤ dd N p a := sm_pos fun v _ => ab_pos _
/-- s is a step from x towards y -/
def Tw (s x y : Int) : Prop := (s = 1 ∧ x < y) ∨ (s = -1 ∧ y < x)
structure JS (N : Nat) (J : (Nat → Int) → Prop) : Prop where
  ext : ∀ x y, (∀ v, v < N → x v = y v) → J x → J y
  two : ∀ p q v s, J p → J q → v < N → Tw s (p v) (q v) → ∃ w t, w < N ∧ Tw t (up p v s w) (q w) ∧ J (up (up p v s) w t)
  par : ∀ p q, J p → J q → (sm N p - sm N q) % 2 = 0
  ne : ∃ p, J p
section
variable {N : Nat} {J : (Nat → Int) → Prop}
theorem least_ex (hJ : JS N J) (h : Nat → Int) : ∃ p, J p ∧ ∀ q, J q → dd N p h ≤ dd N q h := by
  obtain ⟨p0, h0⟩ := hJ.ne
  have key : ∀ n : Nat, ∀ p, J p → dd N p h ≤ n → ∃ p, J p ∧ ∀ q, J q → dd N p h ≤ dd N q h := by
    intro n
    induction n with
    | zero =>
      intro p hp e
      refine ⟨p, hp, fun q _ => ?_⟩
      have := dd_pos N q h
      omega
    | succ n ih =>
      intro p hp e
      by_cases z : ∃ q, J q ∧ dd N q h < dd N p h
      · obtain ⟨q, hq, lt⟩ := z
        exact ih q hq (by omega)
      · refine ⟨p, hp, fun q hq => ?_⟩
        have : ¬ dd N q h < dd N p h := fun lt => z ⟨q, hq, lt⟩
        omega
  have := dd_pos N p0 h
  exact key (dd N p0 h).toNat p0 h0 (by omega)
noncomputable def Ds (hJ : JS N J) (h : Nat → Int) : Int := dd N (Classical.choose (least_ex hJ h)) h
/-! ### sums over all places but one, two, three -/
end
end FF
set_option maxHeartbeats 4000000
/-! FF2: least distances along one, two, three places. -/
set_option maxHeartbeats 4000000
/-! FF3: what a tie between two places does to the least distances. -/
namespace FF
section
variable {f : Int → Int → Int} {D : Int}
/-- f with the tie or without -/
def gT (f : Int → Int → Int) (x y : Int) : Int := min (f x y) (f (x - 1) (y - 1))
structure MM (f : Int → Int → Int) (D : Int) : Prop where
  o : gT f 0 0 = D
  u1 : gT f 1 0 = D - 1
  u2 : gT f (-1) 0 = D - 1
  w1 : gT f 0 1 = D - 1
  w2 : gT f 0 (-1) = D - 1
theorem MM.ne (h : MM f D) : (f (-1) 0 ≤ D - 1 ∨ f (-2) (-1) ≤ D - 1) ∧ (f (-1) 0 ≤ D - 1 ∨ f 0 1 ≤ D - 1) := by
  have a := h.u2
  have b := h.w1
  unfold gT at a b
  rw [show (-1 : Int) - 1 = -2 by omega, show (0 : Int) - 1 = -1 by omega] at a
  rw [show (1 : Int) - 1 = 0 by omega, show (0 : Int) - 1 = -1 by omega] at b
  omega
end
section
variable {N : Nat} {J : (Nat → Int) → Prop}
/-- no two steps at both places -/
def Rel (hJ : JS N J) (h : Nat → Int) (u w : Nat) : Prop := ∀ s t : Int, (s = 1 ∨ s = -1) → (t = 1 ∨ t = -1) → Ds hJ h ≤ Ds hJ (up (up h u s) w t)
theorem Rel.symm {hJ : JS N J} {h : Nat → Int} {u w : Nat} (r : Rel hJ h u w) : Rel hJ h w u := fun s t hs ht => by
  rw [up_comm]
  exact r t s ht hs
end
end FF
set_option maxHeartbeats 4000000
/-! FF4: the rows of the webs within a web. -/
namespace FF
abbrev Gr := Nat → Nat → Int
def dgr (N : Nat) (w : Gr) (v : Nat) : Int := sm N (w v)
end FF
set_option maxHeartbeats 4000000
/-! FF8: both rows change at once (the exchange of two webs within a web). -/
set_option maxHeartbeats 4000000
namespace CL
open PySem L2 CT
local macro_rules | `(tactic| walk_at "w") => `(tactic| first | ((with_reducible apply gR); first | with_reducible refine w_var rfl ?_ | with_reducible apply w_cons | with_reducible apply w_c | with_reducible apply w_nil | with_reducible apply w_op | with_reducible apply w_ap | with_reducible apply w_call | with_reducible apply w_tst | with_reducible apply w_un | with_reducible apply w_tand | with_reducible apply w_tor | with_reducible apply w_tnot | with_reducible apply w_yes | with_reducible apply w_and | with_reducible apply w_or | with_reducible apply w_not | with_reducible apply w_if | with_reducible apply w_chain | with_reducible apply w_isi | with_reducible apply w_isi2 | with_reducible apply w_prop | with_reducible apply w_meth | with_reducible apply w_dget | with_reducible apply w_dnewF | with_reducible apply w_dnewT | with_reducible apply w_part | with_reducible apply w_noPart | with_reducible apply w_slLF | with_reducible apply w_slA | with_reducible apply w_ok | with_reducible apply w_ofO | with_reducible apply w_lcI | with_reducible apply w_seqI | with_reducible apply w_rng1 | with_reducible apply w_rng2 | with_reducible apply w_enum) | ((with_reducible apply gO); first | with_reducible apply wo_add | with_reducible apply wo_sub | with_reducible apply wo_lt | with_reducible apply wo_gt | with_reducible apply wo_eq | with_reducible apply wo_ne | with_reducible apply wo_le | with_reducible apply wo_ge | with_reducible apply wo_neg | with_reducible apply wo_eqS | with_reducible apply wo_neS | with_reducible apply wo_min | with_reducible apply wo_max | with_reducible apply wo_int | with_reducible apply wo_abs | with_reducible apply wo_tupL | with_reducible apply wo_tupT | with_reducible refine wo_tup (by with_unfolding_all rfl) ?_ | with_reducible refine wo_lstF (by with_unfolding_all rfl) ?_ | with_reducible refine wo_lstT (by with_unfolding_all rfl) ?_ | with_reducible apply wo_fld0 | with_reducible apply wo_fldH0 | with_reducible apply wo_fld1 | with_reducible apply wo_fld2 | with_reducible apply wo_fldW0 | with_reducible apply wo_fldW1 | with_reducible apply wo_fldW2) | ((with_reducible apply gS); first | with_reducible apply w_seq | with_reducible apply w_asg | with_reducible apply w_sif | with_reducible apply w_next | with_reducible apply w_ret | with_reducible apply w_par | with_reducible apply w_drop | with_reducible apply w_asgT | with_reducible apply w_retN | with_reducible apply w_brk | with_reducible apply w_cnt | with_reducible apply w_raise | with_reducible apply w_forI) | ((with_reducible apply gI); first | with_reducible apply wI_t | with_reducible apply wI_f | with_reducible apply wI_not) | with_reducible apply w_bl | with_reducible apply thn_nx | with_reducible apply w_int | with_reducible apply w_obj | with_reducible apply thn_rt | with_reducible apply lp_nx | with_reducible apply fnl_int | with_reducible apply fnl_bl | with_reducible apply fnl_non | with_reducible apply fnl_str | with_reducible apply fnl_nx | with_reducible apply thn_bk | with_reducible apply thn_ct | with_reducible apply thn_xc | with_reducible apply lp_rt | with_reducible apply lp_bk | with_reducible apply lp_xc | with_reducible apply w_itL | with_reducible apply w_itT | with_reducible apply w_itK)
local macro_rules | `(tactic| walk_at "p") => `(tactic| repeat walk_at "w")
/-! LST1: the choices of a web as lists of numbers; their rows (plain law). -/
def numsL (N : Nat) (f : Int × Int → Int) : List Int := (pairsL N).map f
/-- the web as a graph -/
def grO (f : Int × Int → Int) : FF.Gr := fun u v => fm f u v
/-! CVX: convex tables (split from BR2). -/
/-- a convex table -/
def Cvx (t : List Int) : Prop := ∀ i, i + 2 < t.length → 2 * rF t (i + 1) ≤ rF t i + rF t (i + 2)
def cst (T : List (List Int)) (r : List Int) : Int := ((T.zip r).map fun p => rF p.1 p.2.toNat).sum
end CL
set_option maxHeartbeats 4000000
/-! E9: comprehensions and walks over lists of values that are written as data. -/
namespace CT
open PySem L2
theorem cbL_allM {n : Nat} : ∀ {l : List D}, (∀ d ∈ l, cb n d = true) → cbL n l = true
  | [], _ => rfl
  | d :: l, h => by
    show (cb n d && cbL n l) = true
    rw [h d (List.mem_cons_self ..), cbL_allM fun x hx => h x (List.mem_cons_of_mem _ hx)]
    rfl
theorem take_s1 {α : Type} {l : List α} {j : Nat} {x : α} (h : l[j]? = some x) : l.take (j + 1) = l.take j ++ [x] := by
  obtain ⟨hj, e⟩ := List.getElem?_eq_some_iff.mp h
  rw [← e]
  exact (List.take_append_getElem hj).symm
section
variable {α β : Type} {l : List α} {enc : α → D} {g g1 : MG} {tt tt1 : MT} {te : ME} {vs vs1 : List Nat} {F : Fr} {C : Store} {Q : D → Store → Prop} {E : Exc → Store → Prop} {it : ItD} {S : Store → Prop} {n : Nat} {sl : List (Option D)} {P : RS → Prop} {fl : Nat} {body : MS}
theorem acc_new (acc : List D) : (accS C acc)[C.length]? = some (some (.lst acc)) := by simp [accS]
theorem acc_set (acc acc' : List D) : (accS C acc).set C.length (some (.lst acc')) = accS C acc' := by simp [accS]
theorem lcN_M (p : ItOn S it (l.map enc)) (hS : ∀ acc, S (accS C acc)) (a0 : List D) (f : α → Bool) (h : α → D) (sz : a0.length + l.length ≤ 16777215)
    (st : ∀ a ∈ l, ∃ sl1, g (enc a) sl = some sl1 ∧ ∀ acc, wR (tt ⟨C.length, sl1⟩ (accS C acc)) (fun b C' => b = f a ∧ C' = accS C acc) noX ∧ (f a = true → wR (te ⟨C.length, sl1⟩ (accS C acc)) (fun d C' => d = h a ∧ C' = accS C acc) noX)) :
    lcN it g tt te C.length sl it.n 0 (accS C a0) = .ok () (accS C (a0 ++ (l.filter f).map h)) := by
  have len : ∀ j, (a0 ++ ((l.take j).filter f).map h).length ≤ a0.length + l.length := fun j => by
    have h1 := List.length_filter_le f (l.take j)
    rw [List.length_take] at h1
    rw [List.length_append, List.length_map]
    omega
  obtain ⟨acc', C', e, c, hC, ha⟩ := lc_w (tt := tt) (te := te) (g := g) (n := C.length) (sl := sl) p (fun j acc S => S = accS C acc ∧ acc = a0 ++ ((l.take j).filter f).map h) (fun j acc S z => z.1 ▸ hS acc) (fun j acc S z => by
    have := len j
    rw [z.2]
    omega) (fun j x acc S hx hc z => by
      obtain ⟨rfl, hacc⟩ := z
      rw [List.getElem?_map] at hx
      obtain ⟨a, ha, rfl⟩ := Option.map_eq_some_iff.mp hx
      obtain ⟨sl1, e, s⟩ := st a (List.mem_of_getElem? ha)
      have l1 := len j
      refine ⟨sl1, e, w_mono (s acc).1 (fun b S z => ?_) fun _ _ z => z⟩
      obtain ⟨rfl, rfl⟩ := z
      cases hf : f a with
      | true =>
        refine wI_t (w_mono ((s acc).2 hf) (fun d S z => ?_) fun _ _ z => z)
        obtain ⟨rfl, rfl⟩ := z
        refine ⟨acc, acc_new acc, by rw [hacc]; omega, ⟨acc_set _ _, ?_⟩, by simp [accS]⟩
        rw [hacc, take_s1 ha, List.filter_append]
        simp [hf]
      | false =>
        refine wI_f ⟨acc, acc_new acc, rfl, ?_⟩
        rw [hacc, take_s1 ha, List.filter_append]
        simp [hf]) it.n 0 a0 (accS C a0) (by rw [p.n]; omega) (acc_new a0) ⟨rfl, by simp⟩
  subst hC
  rw [e, ha, List.length_map, List.take_length]
theorem lcMo (p : ItOn S it (l.map enc)) (hS : ∀ acc, S (accS C acc)) (f : α → Bool) (h : α → D) (sz : l.length ≤ 16777215)
    (st : ∀ a ∈ l, ∃ sl1, g (enc a) (wipeD F.sl vs) = some sl1 ∧ ∀ acc, wR (tt ⟨C.length, sl1⟩ (accS C acc)) (fun b C' => b = f a ∧ C' = accS C acc) noX ∧ (f a = true → wR (te ⟨C.length, sl1⟩ (accS C acc)) (fun d C' => d = h a ∧ C' = accS C acc) noX))
    (hc : ∀ a ∈ l, f a = true → cb C.length (h a) = true) (q : Q (.lst ((l.filter f).map h)) C) : wR (lcR it g tt te vs F C) Q E := by
  have e := lcN_M (C := C) p hS [] f h (by simp only [List.length_nil]; omega) st
  unfold lcR mLc
  simp only [bnd_ok]
  rw [show C ++ [some (Cell.lst [])] = accS C [] from rfl, e]
  simp only [bn0_ok, List.nil_append]
  unfold lcEnd
  rw [if_neg (by decide), acc_new]
  have hb : cbL C.length ((l.filter f).map h) = true := cbL_allM fun d hd => by
    obtain ⟨a, ha, rfl⟩ := List.mem_map.mp hd
    obtain ⟨a1, a2⟩ := List.mem_filter.mp ha
    exact hc a a1 a2
  simp only [hb, if_true]
  rw [show (accS C ((l.filter f).map h)).take C.length = C from by simp [accS]]
  exact w_ok q
theorem lcM (p : PureIt it (l.map enc)) (f : α → Bool) (h : α → D) (sz : l.length ≤ 16777215)
    (st : ∀ a ∈ l, ∃ sl1, g (enc a) (wipeD F.sl vs) = some sl1 ∧ ∀ acc, wR (tt ⟨C.length, sl1⟩ (accS C acc)) (fun b C' => b = f a ∧ C' = accS C acc) noX ∧ (f a = true → wR (te ⟨C.length, sl1⟩ (accS C acc)) (fun d C' => d = h a ∧ C' = accS C acc) noX))
    (hc : ∀ a ∈ l, f a = true → cb C.length (h a) = true) (q : Q (.lst ((l.filter f).map h)) C) : wR (lcR it g tt te vs F C) Q E :=
  lcMo (p.on fun _ => True) (fun _ => trivial) f h sz st hc q
/-- without a test -/
theorem lcY (p : PureIt it (l.map enc)) (h : α → D) (sz : l.length ≤ 16777215)
    (st : ∀ a ∈ l, ∃ sl1, g (enc a) (wipeD F.sl vs) = some sl1 ∧ ∀ acc, wR (te ⟨C.length, sl1⟩ (accS C acc)) (fun d C' => d = h a ∧ C' = accS C acc) noX)
    (hc : ∀ a ∈ l, cb C.length (h a) = true) (q : Q (.lst (l.map h)) C) : wR (lcR it g tYesM te vs F C) Q E := by
  refine lcM p (fun _ => true) h sz (fun a ha => ?_) (fun a ha _ => hc a ha) ?_
  · obtain ⟨sl1, e, s⟩ := st a ha
    exact ⟨sl1, e, fun acc => ⟨w_yes ⟨rfl, rfl⟩, fun _ => s acc⟩⟩
  · rw [List.filter_eq_self.mpr fun _ _ => rfl]
    exact q
/-! ### two clauses -/
theorem fm_len {ys : α → List β} {m : Nat} : ∀ {l : List α}, (∀ a ∈ l, (ys a).length ≤ m) → (l.flatMap ys).length ≤ l.length * m
  | [], _ => by simp
  | a :: l, h => by
    have h1 := fm_len (l := l) fun x hx => h x (List.mem_cons_of_mem _ hx)
    have h2 := h a (List.mem_cons_self ..)
    rw [List.flatMap_cons, List.length_append, List.length_cons, Nat.succ_mul]
    omega
def fl2 (ys : α → List β) (f : α → β → Bool) (h : α → β → D) (l : List α) : List D := l.flatMap fun a => ((ys a).filter (f a)).map (h a)
theorem lc2N_M {enc2 : β → D} {ys : α → List β} {f : α → β → Bool} {h : α → β → D} {mi1 : MI} {m : Nat} (p : PureIt it (l.map enc)) (hm : ∀ a ∈ l, (ys a).length ≤ m) (sz : l.length * m ≤ 16000000) (sm : m ≤ 700000)
    (st : ∀ a ∈ l, ∃ sl1, g (enc a) sl = some sl1 ∧ (∀ acc, wR (mi1 ⟨C.length, sl1⟩ (accS C acc)) (fun it1 C' => C' = accS C acc ∧ PureIt it1 ((ys a).map enc2)) noX) ∧
      ∀ b ∈ ys a, ∃ sl2, g1 (enc2 b) (wipeD sl1 vs1) = some sl2 ∧ ∀ acc, wR (tt1 ⟨C.length, sl2⟩ (accS C acc)) (fun t C' => t = f a b ∧ C' = accS C acc) noX ∧ (f a b = true → wR (te ⟨C.length, sl2⟩ (accS C acc)) (fun d C' => d = h a b ∧ C' = accS C acc) noX)) :
    ∀ r j, r + j = l.length → lc2N it g tYesM mi1 g1 tt1 te C.length sl vs1 r j (accS C (fl2 ys f h (l.take j))) = .ok () (accS C (fl2 ys f h l))
  | 0, j, e => by
    have ej : j = l.length := by omega
    subst ej
    unfold lc2N
    have := p.fin (accS C (fl2 ys f h (l.take l.length)))
    rw [if_pos this, List.take_length]
  | r + 1, j, e => by
    have hj : j < l.length := by omega
    obtain ⟨sl1, h1, h2, h3⟩ := st l[j] (List.getElem_mem hj)
    have ih := lc2N_M (enc2 := enc2) (f := f) (h := h) p hm sz sm st r (j + 1) (by omega)
    have tk := take_s1 (List.getElem?_eq_getElem hj)
    have fl : fl2 ys f h (l.take (j + 1)) = fl2 ys f h (l.take j) ++ ((ys l[j]).filter (f l[j])).map (h l[j]) := by
      rw [tk]
      unfold fl2
      rw [List.flatMap_append]
      simp only [List.flatMap_cons, List.flatMap_nil, List.append_nil]
    rw [fl] at ih
    unfold lc2N
    have hj2 : j < (l.map enc).length := by rw [List.length_map]; exact hj
    rw [p.item j _ hj2, List.getElem?_eq_getElem hj2, List.getElem_map]
    simp only [h1]
    obtain ⟨it1, C', em, rfl, p1⟩ := w_out (h2 (fl2 ys f h (l.take j)))
    show bn0 (R.ok true (accS C (fl2 ys f h (l.take j)))) _ = _
    simp only [bn0_ok, if_true]
    rw [em]
    simp only [bn0_ok]
    have hl : (fl2 ys f h (l.take j)).length ≤ j * m := by
      have := fm_len (ys := fun a => ((ys a).filter (f a)).map (h a)) (l := l.take j) (m := m) fun a ha => by
        rw [List.length_map]
        exact Nat.le_trans (List.length_filter_le _ _) (hm a (List.mem_of_mem_take ha))
      have e2 : (l.take j).length = j := by simp; omega
      rw [e2] at this
      exact this
    have hl2 : (ys l[j]).length ≤ m := hm _ (List.getElem_mem hj)
    have hjm : j * m ≤ l.length * m := Nat.mul_le_mul_right _ (Nat.le_of_lt hj)
    have ein := lcN_M (S := fun _ => True) (g := g1) (tt := tt1) (te := te) (C := C) (sl := wipeD sl1 vs1) (p1.on fun _ => True) (fun _ => trivial) (fl2 ys f h (l.take j)) (f l[j]) (h l[j]) (by omega) h3
    rw [ein]
    simp only [bn0_ok]
    exact ih
theorem w_lc2i {mi : MI} {mi1 : MI} (h : wR (mi F C) (fun it C1 => wR (mLc2 false (fun _ C => .ok it C) g tt mi1 g1 tt1 te vs vs1 F C1) Q E) E) : wR (mLc2 false mi g tt mi1 g1 tt1 te vs vs1 F C) Q E := by
  unfold mLc2 at h
  unfold mLc2
  exact w_bnd h
theorem lc2M {enc2 : β → D} {mi1 : MI} (ys : α → List β) (f : α → β → Bool) (h : α → β → D) (m : Nat) (p : PureIt it (l.map enc)) (hm : ∀ a ∈ l, (ys a).length ≤ m) (sz : l.length * m ≤ 16000000) (sm : m ≤ 700000)
    (st : ∀ a ∈ l, ∃ sl1, g (enc a) (wipeD F.sl vs) = some sl1 ∧ (∀ acc, wR (mi1 ⟨C.length, sl1⟩ (accS C acc)) (fun it1 C' => C' = accS C acc ∧ PureIt it1 ((ys a).map enc2)) noX) ∧
      ∀ b ∈ ys a, ∃ sl2, g1 (enc2 b) (wipeD sl1 vs1) = some sl2 ∧ ∀ acc, wR (tt1 ⟨C.length, sl2⟩ (accS C acc)) (fun t C' => t = f a b ∧ C' = accS C acc) noX ∧ (f a b = true → wR (te ⟨C.length, sl2⟩ (accS C acc)) (fun d C' => d = h a b ∧ C' = accS C acc) noX))
    (hc : ∀ a ∈ l, ∀ b ∈ ys a, f a b = true → cb C.length (h a b) = true) (q : Q (.lst (fl2 ys f h l)) C) : wR (mLc2 false (fun _ C => .ok it C) g tYesM mi1 g1 tt1 te vs vs1 F C) Q E := by
  have e := lc2N_M (C := C) (enc2 := enc2) (f := f) (h := h) p hm sz sm st it.n 0 (by rw [p.n, List.length_map]; omega)
  unfold mLc2
  simp only [bnd_ok]
  rw [show C ++ [some (Cell.lst [])] = accS C (fl2 ys f h (l.take 0)) from rfl, e]
  simp only [bn0_ok]
  unfold lcEnd
  rw [if_neg (by decide), acc_new]
  have hb : cbL C.length (fl2 ys f h l) = true := cbL_allM fun d hd => by
    obtain ⟨a, ha, hd⟩ := List.mem_flatMap.mp hd
    obtain ⟨b, hb, rfl⟩ := List.mem_map.mp hd
    obtain ⟨b1, b2⟩ := List.mem_filter.mp hb
    exact hc a ha b b1 b2
  simp only [hb, if_true]
  rw [show (accS C (fl2 ys f h l)).take C.length = C from by simp [accS]]
  exact w_ok q
/-- without a test -/
theorem lc2Y {enc2 : β → D} {mi1 : MI} (ys : α → List β) (h : α → β → D) (m : Nat) (p : PureIt it (l.map enc)) (hm : ∀ a ∈ l, (ys a).length ≤ m) (sz : l.length * m ≤ 16000000) (sm : m ≤ 700000)
    (st : ∀ a ∈ l, ∃ sl1, g (enc a) (wipeD F.sl vs) = some sl1 ∧ (∀ acc, wR (mi1 ⟨C.length, sl1⟩ (accS C acc)) (fun it1 C' => C' = accS C acc ∧ PureIt it1 ((ys a).map enc2)) noX) ∧
      ∀ b ∈ ys a, ∃ sl2, g1 (enc2 b) (wipeD sl1 vs1) = some sl2 ∧ ∀ acc, wR (te ⟨C.length, sl2⟩ (accS C acc)) (fun d C' => d = h a b ∧ C' = accS C acc) noX)
    (hc : ∀ a ∈ l, ∀ b ∈ ys a, cb C.length (h a b) = true) (q : Q (.lst (l.flatMap fun a => (ys a).map (h a))) C) : wR (mLc2 false (fun _ C => .ok it C) g tYesM mi1 g1 tYesM te vs vs1 F C) Q E := by
  refine lc2M (enc2 := enc2) ys (fun _ _ => true) h m p hm sz sm (fun a ha => ?_) (fun a ha b hb _ => hc a ha b hb) ?_
  · obtain ⟨sl1, e, s1, s2⟩ := st a ha
    refine ⟨sl1, e, s1, fun b hb => ?_⟩
    obtain ⟨sl2, e2, s3⟩ := s2 b hb
    exact ⟨sl2, e2, fun acc => ⟨w_yes ⟨rfl, rfl⟩, fun _ => s3 acc⟩⟩
  · have : fl2 ys (fun _ _ => true) h l = l.flatMap fun a => (ys a).map (h a) := by
      unfold fl2
      congr 1
      funext a
      rw [List.filter_eq_self.mpr fun _ _ => rfl]
    rw [this]
    exact q
/-! ### walks -/
theorem loopM (p : PureIt it (l.map enc)) (I : Nat → List (Option D) → Store → Prop) (i0 : I 0 sl C)
    (step : ∀ j a sl C, l[j]? = some a → I j sl C → ∃ sl1, g (enc a) sl = some sl1 ∧ wS (body ⟨fl, sl1⟩ C) (lpP I (j + 1) P)) (fin : ∀ sl C, I l.length sl C → P (.nx sl C)) : wS (loopN it g body fl it.n 0 sl C) P := by
  refine loop_p p I i0 (fun j x sl C hx i => ?_) (fun sl C i => fin sl C (by rw [List.length_map] at i; exact i))
  rw [List.getElem?_map] at hx
  obtain ⟨a, ha, rfl⟩ := Option.map_eq_some_iff.mp hx
  exact step j a sl C ha i
/-- a range as a list of numbers -/
theorem rngI_M (n : Nat) : rngI 0 n = (List.range n).map fun k : Nat => D.int (k : Int) := by
  unfold rngI
  exact List.map_congr_left fun k _ => by rw [Int.zero_add]
theorem pureR0 (n : Nat) : PureIt (itR 0 n) ((List.range n).map fun k : Nat => D.int (k : Int)) := rngI_M n ▸ pure_R 0 n
end
/-! ### x *= e, d[k] += e -/
section
variable {C : Store} {P : RS → Prop}
theorem w_augM {i : Nat} {me : ME} {fl : Nat} {sl : List (Option D)} {a : Int} (e : sl[i]? = some (some (.int a))) (h : wR (me ⟨fl, sl⟩ C) (fun v C1 => ∃ b, v = .int b ∧ cMul a b = true ∧ P (.nx (sl.set i (some (.int (a * b)))) C1)) (fun e C => P (.xc e sl C))) : wS (sAugM i me ⟨fl, sl⟩ C) P := by
  unfold sAugM
  simp only [e]
  refine w_bndS (w_mono h (fun v C1 g => ?_) fun _ _ z => z)
  obtain ⟨b, rfl, c, q⟩ := g
  simp only [c, if_true]
  exact ⟨q⟩
end
section
variable {C : Store} {X : Exc → Store → Prop}
theorem w_zipX {m : MA} {F : Fr} {Q : ItD → Store → Prop} (h : wR (m F C) (fun ds C1 => ∃ x y p q, ds = [x, y] ∧ sqOf x C1 = some p ∧ sqOf y C1 = some q ∧ Q (itC (zipD p.2 q.2)) C1) X) : wR (mZipX m F C) Q X := by
  unfold mZipX
  refine w_bnd (w_mono h (fun ds C1 g => ?_) fun _ _ z => z)
  obtain ⟨x, y, p, q, rfl, e1, e2, g⟩ := g
  simp only [e1, e2]
  exact w_ok g
end
end CT
set_option maxHeartbeats 4000000
namespace CL
open PySem L2 CT
local macro_rules | `(tactic| walk_at "w") => `(tactic| first | ((with_reducible apply gR); first | with_reducible refine w_var rfl ?_ | with_reducible apply w_cons | with_reducible apply w_c | with_reducible apply w_nil | with_reducible apply w_op | with_reducible apply w_ap | with_reducible apply w_call | with_reducible apply w_tst | with_reducible apply w_un | with_reducible apply w_tand | with_reducible apply w_tor | with_reducible apply w_tnot | with_reducible apply w_yes | with_reducible apply w_and | with_reducible apply w_or | with_reducible apply w_not | with_reducible apply w_if | with_reducible apply w_chain | with_reducible apply w_isi | with_reducible apply w_isi2 | with_reducible apply w_prop | with_reducible apply w_meth | with_reducible apply w_dget | with_reducible apply w_dnewF | with_reducible apply w_dnewT | with_reducible apply w_part | with_reducible apply w_noPart | with_reducible apply w_slLF | with_reducible apply w_slA | with_reducible apply w_ok | with_reducible apply w_ofO | with_reducible apply w_lcI | with_reducible apply w_seqI | with_reducible apply w_rng1 | with_reducible apply w_rng2 | with_reducible apply w_enum) | ((with_reducible apply gO); first | with_reducible apply wo_add | with_reducible apply wo_sub | with_reducible apply wo_lt | with_reducible apply wo_gt | with_reducible apply wo_eq | with_reducible apply wo_ne | with_reducible apply wo_le | with_reducible apply wo_ge | with_reducible apply wo_neg | with_reducible apply wo_eqS | with_reducible apply wo_neS | with_reducible apply wo_min | with_reducible apply wo_max | with_reducible apply wo_int | with_reducible apply wo_abs | with_reducible apply wo_tupL | with_reducible apply wo_tupT | with_reducible refine wo_tup (by with_unfolding_all rfl) ?_ | with_reducible refine wo_lstF (by with_unfolding_all rfl) ?_ | with_reducible refine wo_lstT (by with_unfolding_all rfl) ?_ | with_reducible apply wo_fld0 | with_reducible apply wo_fldH0 | with_reducible apply wo_fld1 | with_reducible apply wo_fld2 | with_reducible apply wo_fldW0 | with_reducible apply wo_fldW1 | with_reducible apply wo_fldW2) | ((with_reducible apply gS); first | with_reducible apply w_seq | with_reducible apply w_asg | with_reducible apply w_sif | with_reducible apply w_next | with_reducible apply w_ret | with_reducible apply w_par | with_reducible apply w_drop | with_reducible apply w_asgT | with_reducible apply w_retN | with_reducible apply w_brk | with_reducible apply w_cnt | with_reducible apply w_raise | with_reducible apply w_forI) | ((with_reducible apply gI); first | with_reducible apply wI_t | with_reducible apply wI_f | with_reducible apply wI_not) | with_reducible apply w_bl | with_reducible apply thn_nx | with_reducible apply w_int | with_reducible apply w_obj | with_reducible apply thn_rt | with_reducible apply lp_nx | with_reducible apply fnl_int | with_reducible apply fnl_bl | with_reducible apply fnl_non | with_reducible apply fnl_str | with_reducible apply fnl_nx | with_reducible apply thn_bk | with_reducible apply thn_ct | with_reducible apply thn_xc | with_reducible apply lp_rt | with_reducible apply lp_bk | with_reducible apply lp_xc | with_reducible apply w_itL | with_reducible apply w_itT | with_reducible apply w_itK)
local macro_rules | `(tactic| walk_at "p") => `(tactic| repeat walk_at "w")
/-! RDC: dicts whose keys are tuples of ints. -/
def tI (r : List Int) : D := .tup (r.map .int)
theorem cb_tI (n : Nat) (r : List Int) : cb n (tI r) = true := cbL_ints _ _
theorem cb_tIs (n : Nat) (l : List (List Int)) : cbL n (l.map tI) = true := cbL_allM fun d hd => by
  obtain ⟨r, _, rfl⟩ := List.mem_map.mp hd
  exact cb_tI _ _
/-! ### the keys in order -/
/-! BR4: tables drawn. -/
/-- the table of these gaps -/
def runT (x : Int) (gs : List Int) : List Int := gs.foldl (fun acc g => acc ++ [rF acc (acc.length - 1) + g]) [x]
section
variable {N i : Nat} {C : Store} {Q : D → Store → Prop} {X : Exc → Store → Prop}
theorem run_snoc (x : Int) (gs : List Int) (g : Int) : runT x (gs ++ [g]) = runT x gs ++ [rF (runT x gs) ((runT x gs).length - 1) + g] := by
  unfold runT
  rw [List.foldl_append]
  rfl
theorem run_len (x : Int) (gs : List Int) : (runT x gs).length = gs.length + 1 := by
  induction gs using snoc_ind with
  | h0 => rfl
  | h1 gs g ih => rw [run_snoc, List.length_append, ih, List.length_append]; rfl
theorem rF_l {a b : List Int} {k : Nat} (h : k < a.length) : rF (a ++ b) k = rF a k := by
  unfold rF
  rw [List.getD_eq_getElem?_getD, List.getD_eq_getElem?_getD, List.getElem?_append_left h]
theorem rF_e {a : List Int} {x : Int} : rF (a ++ [x]) a.length = x := by
  unfold rF
  rw [List.getD_eq_getElem?_getD, List.getElem?_append_right (Nat.le_refl _), Nat.sub_self]
  rfl
theorem run_gap (x : Int) (gs : List Int) : ∀ k, k < gs.length → rF (runT x gs) (k + 1) = rF (runT x gs) k + rF gs k := by
  induction gs using snoc_ind with
  | h0 => intro k h; cases h
  | h1 gs g ih =>
    intro k hk
    have l := run_len x gs
    rw [List.length_append] at hk
    rw [run_snoc]
    by_cases e : k = gs.length
    · subst e
      have e1 := rF_e (a := runT x gs) (x := rF (runT x gs) ((runT x gs).length - 1) + g)
      rw [l] at e1
      rw [l, e1, rF_l (by omega), rF_e]
      rfl
    · have : k < gs.length := by simp at hk; omega
      rw [rF_l (by omega), rF_l (by omega), rF_l this, ih k this]
theorem run_cvx (x : Int) {gs : List Int} (h : ∀ k, k + 1 < gs.length → rF gs k ≤ rF gs (k + 1)) : Cvx (runT x gs) := fun k hk => by
  have l := run_len x gs
  have a := run_gap x gs k (by omega)
  have b := run_gap x gs (k + 1) (by omega)
  have c := h k (by omega)
  rw [show k + 2 = k + 1 + 1 from rfl, b, a]
  omega
end
/-! APP (split from LST3). -/
section
variable {N : Nat} {C : Store} {Q : D → Store → Prop} {X : Exc → Store → Prop} {f : Int × Int → Int} {fl : Nat} {sl : List (Option D)} {P : RS → Prop}
theorem app_set {S : Store} {a b : Option Cell} : (S ++ [a]).set S.length b = S ++ [b] := by simp
theorem app_at {S : Store} {a : Option Cell} : (S ++ [a])[S.length]? = some a := by simp
end
end CL
set_option maxHeartbeats 4000000
/-! O2g: web[u, v]. -/
namespace CL
open PySem L2 CT
section
variable {N M : Nat} {f g : Int × Int → Int} {C : Store}
theorem getitem_ok {u v : Nat} (hu : u < N) (hv : v < N) : m_Web__getitem [webD N f, .tup [.int u, .int v]] C = .ok (.int (f (min (u : Int) (v : Int), max (u : Int) (v : Int)))) C := by
  rw [e_Web__getitem, b_Web__getitem, ev_seq]
  have e0 : b_Web__getitem_0 ⟨C.length, [some (webD N f), some (.tup [.int u, .int v]), none, none]⟩ C = .nx [some (webD N f), some (.tup [.int u, .int v]), some (.int u), some (.int v)] C := by
    simp [b_Web__getitem_0]
  rw [e0, seqK_nx]
  simp [b_Web__getitem_1, webD, gix hu, rix hv]
end
local macro_rules | `(tactic| walk_at "w") => `(tactic| first | ((with_reducible apply gR); first | with_reducible refine w_var rfl ?_ | with_reducible apply w_cons | with_reducible apply w_c | with_reducible apply w_nil | with_reducible apply w_op | with_reducible apply w_ap | with_reducible apply w_call | with_reducible apply w_tst | with_reducible apply w_un | with_reducible apply w_tand | with_reducible apply w_tor | with_reducible apply w_tnot | with_reducible apply w_yes | with_reducible apply w_and | with_reducible apply w_or | with_reducible apply w_not | with_reducible apply w_if | with_reducible apply w_chain | with_reducible apply w_isi | with_reducible apply w_isi2 | with_reducible apply w_prop | with_reducible apply w_meth | with_reducible apply w_dget | with_reducible apply w_dnewF | with_reducible apply w_dnewT | with_reducible apply w_part | with_reducible apply w_noPart | with_reducible apply w_slLF | with_reducible apply w_slA | with_reducible apply w_ok | with_reducible apply w_ofO | with_reducible apply w_lcI | with_reducible apply w_seqI | with_reducible apply w_rng1 | with_reducible apply w_rng2 | with_reducible apply w_enum) | ((with_reducible apply gO); first | with_reducible apply wo_add | with_reducible apply wo_sub | with_reducible apply wo_lt | with_reducible apply wo_gt | with_reducible apply wo_eq | with_reducible apply wo_ne | with_reducible apply wo_le | with_reducible apply wo_ge | with_reducible apply wo_neg | with_reducible apply wo_eqS | with_reducible apply wo_neS | with_reducible apply wo_min | with_reducible apply wo_max | with_reducible apply wo_int | with_reducible apply wo_abs | with_reducible apply wo_tupL | with_reducible apply wo_tupT | with_reducible refine wo_tup (by with_unfolding_all rfl) ?_ | with_reducible refine wo_lstF (by with_unfolding_all rfl) ?_ | with_reducible refine wo_lstT (by with_unfolding_all rfl) ?_ | with_reducible apply wo_fld0 | with_reducible apply wo_fldH0 | with_reducible apply wo_fld1 | with_reducible apply wo_fld2 | with_reducible apply wo_fldW0 | with_reducible apply wo_fldW1 | with_reducible apply wo_fldW2) | ((with_reducible apply gS); first | with_reducible apply w_seq | with_reducible apply w_asg | with_reducible apply w_sif | with_reducible apply w_next | with_reducible apply w_ret | with_reducible apply w_par | with_reducible apply w_drop | with_reducible apply w_asgT | with_reducible apply w_retN | with_reducible apply w_brk | with_reducible apply w_cnt | with_reducible apply w_raise | with_reducible apply w_forI) | ((with_reducible apply gI); first | with_reducible apply wI_t | with_reducible apply wI_f | with_reducible apply wI_not) | with_reducible apply w_bl | with_reducible apply thn_nx | with_reducible apply w_int | with_reducible apply w_obj | with_reducible apply thn_rt | with_reducible apply lp_nx | with_reducible apply fnl_int | with_reducible apply fnl_bl | with_reducible apply fnl_non | with_reducible apply fnl_str | with_reducible apply fnl_nx | with_reducible apply thn_bk | with_reducible apply thn_ct | with_reducible apply thn_xc | with_reducible apply lp_rt | with_reducible apply lp_bk | with_reducible apply lp_xc | with_reducible apply w_itL | with_reducible apply w_itT | with_reducible apply w_itK)
local macro_rules | `(tactic| walk_at "p") => `(tactic| repeat walk_at "w")
local macro_rules | `(tactic| walk_at "w") => `(tactic| first | ((with_reducible apply gR); first | with_reducible refine w_var rfl ?_ | with_reducible apply w_cons | with_reducible apply w_c | with_reducible apply w_nil | with_reducible apply w_op | with_reducible apply w_ap | with_reducible apply w_call | with_reducible apply w_tst | with_reducible apply w_un | with_reducible apply w_tand | with_reducible apply w_tor | with_reducible apply w_tnot | with_reducible apply w_yes | with_reducible apply w_and | with_reducible apply w_or | with_reducible apply w_not | with_reducible apply w_if | with_reducible apply w_chain | with_reducible apply w_isi | with_reducible apply w_isi2 | with_reducible apply w_prop | with_reducible apply w_meth | with_reducible apply w_dget | with_reducible apply w_dnewF | with_reducible apply w_dnewT | with_reducible apply w_part | with_reducible apply w_noPart | with_reducible apply w_slLF | with_reducible apply w_slA | with_reducible apply w_ok | with_reducible apply w_ofO | with_reducible apply w_lcI | with_reducible apply w_seqI | with_reducible apply w_rng1 | with_reducible apply w_rng2 | with_reducible apply w_enum) | ((with_reducible apply gO); first | with_reducible apply wo_add | with_reducible apply wo_sub | with_reducible apply wo_lt | with_reducible apply wo_gt | with_reducible apply wo_eq | with_reducible apply wo_ne | with_reducible apply wo_le | with_reducible apply wo_ge | with_reducible apply wo_neg | with_reducible apply wo_eqS | with_reducible apply wo_neS | with_reducible apply wo_min | with_reducible apply wo_max | with_reducible apply wo_int | with_reducible apply wo_abs | with_reducible apply wo_tupL | with_reducible apply wo_tupT | with_reducible refine wo_tup (by with_unfolding_all rfl) ?_ | with_reducible refine wo_lstF (by with_unfolding_all rfl) ?_ | with_reducible refine wo_lstT (by with_unfolding_all rfl) ?_ | with_reducible apply wo_fld0 | with_reducible apply wo_fldH0 | with_reducible apply wo_fld1 | with_reducible apply wo_fld2 | with_reducible apply wo_fldW0 | with_reducible apply wo_fldW1 | with_reducible apply wo_fldW2) | ((with_reducible apply gS); first | with_reducible apply w_seq | with_reducible apply w_asg | with_reducible apply w_sif | with_reducible apply w_next | with_reducible apply w_ret | with_reducible apply w_par | with_reducible apply w_drop | with_reducible apply w_asgT | with_reducible apply w_retN | with_reducible apply w_brk | with_reducible apply w_cnt | with_reducible apply w_raise | with_reducible apply w_forI) | ((with_reducible apply gI); first | with_reducible apply wI_t | with_reducible apply wI_f | with_reducible apply wI_not) | with_reducible apply w_bl | with_reducible apply thn_nx | with_reducible apply w_int | with_reducible apply w_obj | with_reducible apply thn_rt | with_reducible apply lp_nx | with_reducible apply fnl_int | with_reducible apply fnl_bl | with_reducible apply fnl_non | with_reducible apply fnl_str | with_reducible apply fnl_nx | with_reducible apply thn_bk | with_reducible apply thn_ct | with_reducible apply thn_xc | with_reducible apply lp_rt | with_reducible apply lp_bk | with_reducible apply lp_xc | with_reducible apply w_itL | with_reducible apply w_itT | with_reducible apply w_itK)
local macro_rules | `(tactic| walk_at "p") => `(tactic| repeat walk_at "w")
/-! LST2n (split from LST2). -/
section
variable {N : Nat} {C : Store} {Q : D → Store → Prop} {X : Exc → Store → Prop} {f : Int × Int → Int}
theorem cat_t (xs ys : List D) (h : xs.length + ys.length ≤ 10000) : oCatT (.tup xs) (.tup ys) C = some (.tup (xs ++ ys), C) := by
  have hz : szN (xs.length + ys.length) = true := by
    simp [szN]
    omega
  simp only [oCatT, vT, hz, if_true]
  cases xs with
  | nil => rfl
  | cons a A =>
    cases ys with
    | nil => simp
    | cons b B => rfl
end
/-! LST2: pairs, numbers, all numbers, degrees: walked. -/
def prodN (ns : List Int) : Int := ns.foldl (fun a n => a * (n + 1)) 1
structure Light (ns : List Int) : Prop where
  nn : ∀ n ∈ ns, 0 ≤ n
  p : prodN ns ≤ 1024
theorem prod_snoc (ns : List Int) (n : Int) : prodN (ns ++ [n]) = prodN ns * (n + 1) := by
  unfold prodN
  rw [List.foldl_append]
  rfl
theorem prod_pos {ns : List Int} (h : ∀ n ∈ ns, 0 ≤ n) : 1 ≤ prodN ns := by
  induction ns using snoc_ind with
  | h0 => decide
  | h1 ns n ih =>
    rw [prod_snoc]
    have a := ih fun x hx => h x (List.mem_append_left _ hx)
    have b := h n (by simp)
    have : 1 * 1 ≤ prodN ns * (n + 1) := Int.mul_le_mul a (by omega) (by omega) (by omega)
    omega
theorem prod_le {ns : List Int} {n : Int} (h : ∀ x ∈ ns ++ [n], 0 ≤ x) : prodN ns ≤ prodN (ns ++ [n]) ∧ n + 1 ≤ prodN (ns ++ [n]) := by
  rw [prod_snoc]
  have a := prod_pos fun x hx => h x (List.mem_append_left _ hx)
  have b := h n (by simp)
  constructor
  · have : prodN ns * 1 ≤ prodN ns * (n + 1) := Int.mul_le_mul_of_nonneg_left (by omega) (by omega)
    omega
  · have : 1 * (n + 1) ≤ prodN ns * (n + 1) := Int.mul_le_mul_of_nonneg_right a (by omega)
    omega
theorem Light.snoc {ns : List Int} {n : Int} (h : Light (ns ++ [n])) : Light ns ∧ 0 ≤ n ∧ n + 1 ≤ 1024 := by
  have k := prod_le h.nn
  have := h.p
  exact ⟨⟨fun x hx => h.nn x (List.mem_append_left _ hx), by omega⟩, h.nn n (by simp), by omega⟩
theorem Light.take {ns : List Int} (h : Light ns) (j : Nat) : Light (ns.take j) := by
  induction ns using snoc_ind with
  | h0 => simpa using h
  | h1 ns n ih =>
    by_cases e : j ≤ ns.length
    · rw [List.take_append_of_le_length e]
      exact ih h.snoc.1
    · rw [List.take_of_length_le (by simp; omega)]
      exact h
section
variable {N : Nat} {C : Store} {Q : D → Store → Prop} {X : Exc → Store → Prop} {f : Int × Int → Int}
theorem num_pos (h : FOk N f) : ∀ n ∈ numsL N f, 0 ≤ n := fun n hn => by
  obtain ⟨p, _, rfl⟩ := List.mem_map.mp hn
  exact (h.b p).1
theorem pairs_nat : pairsL N = (List.range N).flatMap fun u : Nat => ((List.range (N - (u + 1))).map fun w : Nat => u + 1 + w).map fun v : Nat => ((u : Int), (v : Int)) := by
  unfold pairsL
  congr 1
  funext u
  rw [List.map_map]
  rfl
theorem pairs_of_w (hN : N ≤ 60) (q : Q (.lst ((pairsL N).map pD)) C) : wR (m_pairs_of [.int N] C) Q X := by
  rw [e_pairs_of]
  apply w_fin
  unfold b_pairs_of
  walk_at "w"
  refine w_lc2i ?_
  walk_at "p"
  refine ⟨inR_of (by omega) (by omega), ?_⟩
  refine lc2Y (l := List.range N) (enc := fun k : Nat => .int (k : Int)) (enc2 := fun v : Nat => .int (v : Int)) (fun u : Nat => (List.range (N - (u + 1))).map fun w : Nat => u + 1 + w) (fun u v : Nat => .tup [.int (u : Int), .int (v : Int)]) 60 (pureR0 N) (fun u hu => by simp; omega) (by simp; omega) (by omega) (fun u hu => ?_) (fun u hu v hv => rfl) ?_
  · have hu := List.mem_range.mp hu
    refine ⟨_, rfl, fun acc => ?_, fun v hv => ⟨_, rfl, fun acc => ?_⟩⟩
    · walk_at "p"
      refine ⟨_, _, rfl, rfl, inR_of (by omega) (by omega), inR_of (by omega) (by omega), rfl, ?_⟩
      have e : rngI ((u : Int) + 1) ((N : Int) - ((u : Int) + 1)).toNat = ((List.range (N - (u + 1))).map fun w : Nat => u + 1 + w).map fun v : Nat => D.int (v : Int) := by
        unfold rngI
        rw [List.map_map, show ((N : Int) - ((u : Int) + 1)).toNat = N - (u + 1) by omega]
        refine List.map_congr_left fun w _ => ?_
        show D.int ((u : Int) + 1 + (w : Int)) = D.int ((u + 1 + w : Nat) : Int)
        congr 1
      rw [← e]
      exact pure_R _ _
    · walk_at "p"
      exact ⟨rfl, rfl⟩
  · have e : ((List.range N).flatMap fun a => ((List.range (N - (a + 1))).map fun w => a + 1 + w).map fun v : Nat => D.tup [.int (a : Int), .int (v : Int)]) = (pairsL N).map pD := by
      rw [pairs_nat, List.map_flatMap]
      refine flatMap_cg fun u _ => ?_
      simp only [List.map_map]
      rfl
    walk_at "p"
    rw [e]
    refine fnl_p (by simp only [cb]; exact cbL_allM fun d hd => by obtain ⟨p, _, rfl⟩ := List.mem_map.mp hd; rfl) ?_
    rw [List.take_length]
    exact q
theorem pD_at {p : Int × Int} (hp : p ∈ pairsL N) : ∃ u v : Nat, u < v ∧ v < N ∧ p = ((u : Int), (v : Int)) := mem_pairs.mp hp
theorem item_f {u v : Nat} (hu : u < v) (hv : v < N) : m_Web__getitem [webD N f, .tup [.int u, .int v]] C = .ok (.int (f ((u : Int), (v : Int)))) C := by
  rw [getitem_ok (by omega) hv, show min (u : Int) (v : Int) = u by omega, show max (u : Int) (v : Int) = v by omega]
theorem isC_webL : isC 0 (webD N f) C = true := rfl
theorem w_ixOL {c : Nat} {m : MF} {mo me : ME} {F : Fr} (h : wR (mo F C) (fun x C1 => wR (me F C1) (fun y C2 => isC c x C2 = true ∧ wR (m [x, y] C2) Q X) X) X) : wR (mIxO c m mo me F C) Q X := by
  unfold mIxO
  refine w_bnd (w_mono h (fun x C1 g => w_bnd (w_mono g (fun y C2 g => ?_) fun _ _ z => z)) fun _ _ z => z)
  rw [if_pos g.1]
  exact g.2
theorem pairs_lenL : (pairsL N).length ≤ N * N := by
  unfold pairsL
  have := fm_len (ys := fun u : Nat => (List.range (N - (u + 1))).map fun w : Nat => ((u : Int), ((u + 1 + w : Nat) : Int))) (l := List.range N) (m := N) fun u hu => by simp
  rw [List.length_range] at this
  exact this
theorem numbers_w (hN : N ≤ 60) (q : Q (tI (numsL N f)) C) : wR (m_numbers [webD N f] C) Q X := by
  rw [e_numbers]
  apply w_fin
  unfold b_numbers
  walk_at "p"
  try (refine wo_fld (d := .int N) rfl ?_; walk_at "p")
  refine pairs_of_w hN ?_
  walk_at "p"
  have pl := pairs_lenL (N := N)
  have nn : N * N ≤ 60 * 60 := Nat.mul_le_mul hN hN
  refine lcY (l := pairsL N) (enc := pD) (pure_C _) (fun p => .int (f p)) (by omega) (fun p hp => ?_) (fun p hp => rfl) ?_
  · obtain ⟨u, v, uv, vN, rfl⟩ := pD_at hp
    refine ⟨_, rfl, fun acc => ?_⟩
    refine w_ixOL ?_
    walk_at "p"
    refine ⟨isC_webL, w_of (item_f uv vN) ⟨rfl, rfl⟩⟩
  · walk_at "p"
    have e : (pairsL N).map (fun p => D.int (f p)) = (numsL N f).map .int := by
      unfold numsL
      rw [List.map_map]
      rfl
    rw [e]
    refine fnl_p (cb_tI 0 _) ?_
    rw [List.take_length]
    exact q
theorem check_size_w (h : N ≤ 5) (q : Q .non C) : wR (m_check_size [webD N f] C) Q X := by
  rw [e_check_size]
  apply w_fin
  unfold b_check_size
  walk_at "p"
  try (refine wo_fld (d := .int N) rfl ?_; walk_at "p")
  refine wI_df (by omega) ?_
  walk_at "p"
  rw [List.take_length]
  exact q
theorem take_nm {l : List Int} {j : Nat} {n : Int} (h : l[j]? = some n) : l.take (j + 1) = l.take j ++ [n] := take_s1 h
theorem check_light_w (h : N ≤ 5) (hf : FOk N f) (hl : Light (numsL N f)) (q : Q .non C) : wR (m_check_light [webD N f] C) Q X := by
  rw [e_check_light]
  apply w_fin
  unfold b_check_light b_check_light_0
  walk_at "p"
  refine check_size_w h ?_
  walk_at "p"
  unfold b_check_light_1
  walk_at "p"
  unfold b_check_light_2
  walk_at "p"
  refine numbers_w (by omega) ?_
  refine ⟨_, rfl, ?_⟩
  refine loopM (l := numsL N f) (enc := .int) (pure_C _) (fun j sl S => S = C ∧ ∃ t2, sl = [some (webD N f), some (.int (prodN ((numsL N f).take j))), t2]) ⟨rfl, none, rfl⟩ ?_ ?_
  · rintro j n sl S hj ⟨rfl, t2, rfl⟩
    refine ⟨_, rfl, ?_⟩
    unfold b_check_light_2b_0
    have n0 := num_pos hf n (List.mem_of_getElem? hj)
    have nl := (hl.take (j + 1))
    rw [take_nm hj] at nl
    have n1 := nl.snoc.2.2
    refine w_augM (a := prodN ((numsL N f).take j)) rfl ?_
    walk_at "p"
    have cm : cMul (prodN ((numsL N f).take j)) (n + 1) = true := by
      simp only [cMul, Bool.or_eq_true, Bool.and_eq_true, decide_eq_true_eq]
      right
      omega
    refine ⟨cm, ?_⟩
    rw [← prod_snoc, ← take_nm hj]
    exact lp_nx ⟨rfl, _, rfl⟩
  · rintro sl S ⟨rfl, t2, rfl⟩
    have lp := hl.p
    rw [List.take_length]
    walk_at "p"
    unfold b_check_light_3
    walk_at "p"
    refine wI_df (by omega) ?_
    walk_at "p"
    rw [List.take_length]
    exact q
end
/-! WINS: xs.insert(i, v). -/
theorem w_insert {mo mi me : ME} {F : Fr} {C : Store} {Q : D → Store → Prop} {E : Exc → Store → Prop} (h : wR (mo F C) (fun o C1 => (vL o C1).isSome = true ∧ wR (mi F C1) (fun x C2 => wR (me F C2) (fun v C3 => ∃ (n : Nat) (i : Nat) (ds : List D), x = .int n ∧ cL o C3 = some (i, ds) ∧ F.fl ≤ i ∧ n ≤ 1000 ∧ ds.length < 16777216 ∧ Q .non (C3.set i (some (.lst (ds.take n ++ [v] ++ ds.drop n))))) E) E) E) : wR (mInsert mo mi me F C) Q E := by
  unfold mInsert
  refine w_bnd (w_mono h (fun o C1 g => ?_) fun _ _ z => z)
  rw [if_pos g.1]
  refine w_bnd (w_mono g.2 (fun x C2 g => w_bnd (w_mono g (fun v C3 g => ?_) fun _ _ z => z)) fun _ _ z => z)
  obtain ⟨n, i, ds, rfl, e, hi, hn, hz, q⟩ := g
  have hs : szN (ds.length + 1) = true := by simp only [szN, decide_eq_true_eq]; omega
  have c : szN (ds.length + 1) = true ∧ 0 ≤ (n : Int) ∧ (n : Int) < 2 ^ 63 := ⟨hs, by omega, by omega⟩
  have en : (n : Int).toNat = n := by omega
  simp only [e, c, and_self, if_true, en, wr_hi hi]
  exact w_ok q
/-! LSTa: one of a list, a list mixed, pairs, light webs: drawn. -/
theorem flat_snocP {N u : Nat} (hu : u < N) : ((List.range (u + 1)).flatMap fun u : Nat => (List.range (N - (u + 1))).map fun w : Nat => ((u : Int), ((u + 1 + w : Nat) : Int))) = ((List.range u).flatMap fun u : Nat => (List.range (N - (u + 1))).map fun w : Nat => ((u : Int), ((u + 1 + w : Nat) : Int))) ++ ((List.range (N - (u + 1))).map fun w : Nat => ((u : Int), ((u + 1 + w : Nat) : Int))) := by
  rw [List.range_succ, List.flatMap_append]
  simp
section
variable {N i : Nat} {C : Store} {Q : D → Store → Prop} {X : Exc → Store → Prop}
theorem take_L {n : Int} (hB : Bg i C) (hn : 0 < n) (hn2 : n < 4611686018427387904) (Y : Store) (h : ∀ r C', 0 ≤ r → r < n → To i C C' → Q (.int r) (C' ++ Y)) : wR (m_law_take [.cell i, .int n] (C ++ Y)) Q X := by
  obtain ⟨r, C', e, r0, r1, t⟩ := take_to hB hn hn2 Y
  exact w_of e (h r C' r0 r1 t)
/-- one of a list of plain data -/
theorem one_L {xs : List D} (hB : Bg i C) (ne : xs ≠ []) (hl : xs.length ≤ 1000000) (hc : cbL 0 xs = true) (Y : Store) (h : ∀ x C', x ∈ xs → To i C C' → Q x (C' ++ Y)) : wR (m_law_one [.cell i, .lst xs] (C ++ Y)) Q X := by
  have l0 : 0 < xs.length := List.length_pos_iff.mpr ne
  rw [e_law_one]
  apply w_fin
  unfold b_law_one
  walk_at "p"
  refine wo_of (show oLen [.lst xs] (C ++ Y) = some (.int xs.length, C ++ Y) from rfl) ?_
  walk_at "p"
  refine take_L hB (by omega) (by omega) Y fun r C' r0 r1 t => ?_
  walk_at "p"
  have hr : r.toNat < xs.length := by omega
  refine wo_ix (xs := xs) (k := r.toNat) rfl (by omega) (List.getElem?_eq_getElem hr) ?_
  have hm : xs[r.toNat] ∈ xs := List.getElem_mem hr
  have cb0 : cb 0 xs[r.toNat] = true := cb_of hc hm
  refine fnl_p cb0 ?_
  rw [show (C' ++ Y).take (C ++ Y).length = C' ++ Y from by rw [← (show (C' ++ Y).length = (C ++ Y).length by rw [List.length_append, List.length_append, t.len]), List.take_length]]
  exact h _ C' hm t
theorem ins_perm {α : Type} (l : List α) (n : Nat) (x : α) : (l.take n ++ [x] ++ l.drop n).Perm (l ++ [x]) := by
  have h1 : (l.take n ++ [x] ++ l.drop n).Perm (l.take n ++ (l.drop n ++ [x])) := by
    rw [List.append_assoc]
    exact List.Perm.append_left _ List.perm_append_comm
  rw [← List.append_assoc, List.take_append_drop] at h1
  exact h1
theorem mixed_L {α : Type} {l : List α} {enc : α → D} (hB : Bg i C) (hl : l.length ≤ 1000) (hc : ∀ a, cb 0 (enc a) = true) (h : ∀ (zs : List α) C', To i C C' → zs.Perm l → Q (.lst (zs.map enc)) C') : wR (m_law_mixed [.cell i, .lst (l.map enc)] C) Q X := by
  have il := hB.lt
  rw [e_law_mixed]
  apply w_fin
  unfold b_law_mixed b_law_mixed_0
  walk_at "p"
  unfold b_law_mixed_1
  walk_at "p"
  refine loopM (l := l) (enc := enc) (pure_C _) (fun j sl S => ∃ (C' : Store) (zs : List α) (t3 : Option D), S = C' ++ [some (.lst (zs.map enc))] ∧ To i C C' ∧ zs.Perm (l.take j) ∧ sl = [some (.cell i), some (.lst (l.map enc)), some (.cell C.length), t3]) ⟨C, [], none, rfl, To.refl hB, List.Perm.refl _, rfl⟩ ?_ ?_
  · rintro j a sl S hj ⟨C', zs, t3, rfl, t, pm, rfl⟩
    have zl : zs.length ≤ 1000 := by
      have := pm.length_eq
      rw [List.length_take] at this
      omega
    refine ⟨[some (.cell i), some (.lst (l.map enc)), some (.cell C.length), some (enc a)], rfl, ?_⟩
    unfold b_law_mixed_1b_0
    have at_n : ∀ Z : Store, Z.length = C.length → (Z ++ [some (Cell.lst (zs.map enc))])[C.length]? = some (some (.lst (zs.map enc))) := fun Z hZ => by rw [← hZ]; exact app_at
    walk_at "w"
    refine w_insert ?_
    walk_at "p"
    refine ⟨by simp only [vL, at_n C' t.len]; rfl, ?_⟩
    walk_at "p"
    refine wo_of (show oLen [.cell C.length] (C' ++ [some (Cell.lst (zs.map enc))]) = some (.int zs.length, C' ++ [some (Cell.lst (zs.map enc))]) from by simp [oLen, vS, at_n C' t.len]) ?_
    walk_at "p"
    refine take_L t.bg (by omega) (by omega) _ fun r C2 r0 r1 t2 => ?_
    have t3 := t.trans t2
    walk_at "p"
    refine ⟨r.toNat, C.length, zs.map enc, by rw [show ((r.toNat : Nat) : Int) = r by omega], by simp only [cL, at_n C2 t3.len], Nat.le_refl _, by omega, by rw [List.length_map]; omega, ?_⟩
    refine lp_nx ⟨C2, zs.take r.toNat ++ [a] ++ zs.drop r.toNat, _, ?_, t3, ?_, rfl⟩
    · rw [← t3.len, app_set, List.map_append, List.map_append, List.map_take, List.map_drop]
      rfl
    · refine (ins_perm zs _ a).trans ?_
      rw [take_s1 hj]
      exact pm.append_right _
  · rintro sl S ⟨C', zs, t3, rfl, t, pm, rfl⟩
    rw [List.take_length] at pm
    walk_at "p"
    unfold b_law_mixed_2
    walk_at "p"
    refine fnl_own (xs := zs.map enc) (Nat.le_refl _) (by rw [← t.len]; exact app_at) (cbL_allM fun d hd => by obtain ⟨a, _, rfl⟩ := List.mem_map.mp hd; exact cb_mono (Nat.zero_le _) (hc a)) ?_
    rw [take_app t.len]
    exact h zs C' t pm
theorem law_pairs_w (hN : N ≤ 60) (q : Q (.lst ((pairsL N).map pD)) C) : wR (m_law_pairs [.int N] C) Q X := by
  have pl := pairs_lenL (N := N)
  have nn : N * N ≤ 60 * 60 := Nat.mul_le_mul hN hN
  rw [e_law_pairs]
  apply w_fin
  unfold b_law_pairs b_law_pairs_0
  walk_at "p"
  unfold b_law_pairs_1
  walk_at "p"
  refine ⟨inR_of (by omega) (by omega), ?_⟩
  refine loopM (l := List.range N) (enc := fun k : Nat => .int (k : Int)) (pureR0 N) (fun j sl S => S = C ∧ ∃ t2 t3, sl = [some (.int N), some (.lst (((List.range j).flatMap fun u : Nat => (List.range (N - (u + 1))).map fun w : Nat => ((u : Int), ((u + 1 + w : Nat) : Int))).map pD)), t2, t3]) ⟨rfl, none, none, rfl⟩ ?_ ?_
  · rintro j u sl S hj ⟨rfl, t2, t3, rfl⟩
    have hu : u < N := List.mem_range.mp (List.mem_of_getElem? hj)
    have ju : j = u := by
      have := (List.getElem?_eq_some_iff.mp hj).2
      simpa using this
    subst ju
    refine ⟨_, rfl, ?_⟩
    unfold b_law_pairs_1b_0
    walk_at "p"
    refine ⟨_, _, rfl, rfl, inR_of (by omega) (by omega), inR_of (by omega) (by omega), ?_⟩
    have e : rngI ((j : Int) + 1) ((N : Int) - ((j : Int) + 1)).toNat = (List.range (N - (j + 1))).map fun w : Nat => D.int ((j + 1 + w : Nat) : Int) := by
      unfold rngI
      rw [show ((N : Int) - ((j : Int) + 1)).toNat = N - (j + 1) by omega]
      refine List.map_congr_left fun w _ => ?_
      show D.int ((j : Int) + 1 + (w : Int)) = D.int ((j + 1 + w : Nat) : Int)
      congr 1
    refine lcY (l := List.range (N - (j + 1))) (enc := fun w : Nat => .int ((j + 1 + w : Nat) : Int)) (e ▸ pure_R _ _) (fun w : Nat => pD ((j : Int), ((j + 1 + w : Nat) : Int))) (by simp; omega) (fun w hw => ⟨_, rfl, fun acc => ?_⟩) (fun w _ => rfl) ?_
    · walk_at "p"
      exact ⟨rfl, rfl⟩
    · walk_at "p"
      have fl : (((List.range j).flatMap fun u : Nat => (List.range (N - (u + 1))).map fun w : Nat => ((u : Int), ((u + 1 + w : Nat) : Int))).map pD).length ≤ 3600 := by
        have := fm_len (ys := fun u : Nat => (List.range (N - (u + 1))).map fun w : Nat => ((u : Int), ((u + 1 + w : Nat) : Int))) (l := List.range j) (m := 60) fun u _ => by simp; omega
        rw [List.length_map]
        rw [List.length_range] at this
        have : j * 60 ≤ 60 * 60 := Nat.mul_le_mul_right _ (by omega)
        omega
      refine wo_catF (by simp only [List.length_map, List.length_range] at fl ⊢; omega) ?_
      have e2 : (((List.range j).flatMap fun u : Nat => (List.range (N - (u + 1))).map fun w : Nat => ((u : Int), ((u + 1 + w : Nat) : Int))).map pD) ++ ((List.range (N - (j + 1))).map fun w : Nat => pD ((j : Int), ((j + 1 + w : Nat) : Int))) = ((List.range (j + 1)).flatMap fun u : Nat => (List.range (N - (u + 1))).map fun w : Nat => ((u : Int), ((u + 1 + w : Nat) : Int))).map pD := by
        rw [flat_snocP hu, List.map_append, List.map_map]
        rfl
      rw [e2]
      exact ⟨rfl, _, _, rfl⟩
  · rintro sl S ⟨rfl, t2, t3, rfl⟩
    walk_at "p"
    unfold b_law_pairs_2
    walk_at "p"
    have e : (((List.range (List.range N).length).flatMap fun u : Nat => (List.range (N - (u + 1))).map fun w : Nat => ((u : Int), ((u + 1 + w : Nat) : Int))).map pD) = (pairsL N).map pD := by
      rw [List.length_range]
      rfl
    rw [e]
    refine fnl_p (by simp only [cb]; exact cbL_allM fun d hd => by obtain ⟨p, _, rfl⟩ := List.mem_map.mp hd; rfl) ?_
    rw [List.take_length]
    exact q
theorem one_0 {xs : List D} (hB : Bg i C) (ne : xs ≠ []) (hl : xs.length ≤ 1000000) (hc : cbL 0 xs = true) (h : ∀ x C', x ∈ xs → To i C C' → Q x C') : wR (m_law_one [.cell i, .lst xs] C) Q X := by
  have := one_L (X := X) (Q := Q) hB ne hl hc [] (fun x C' hx t => by rw [List.append_nil]; exact h x C' hx t)
  rw [List.append_nil] at this
  exact this
end
/-! BR5: a table drawn: walked. -/
def leI (a b : Int) : Bool := decide (a ≤ b)
section
variable {N i : Nat} {C : Store} {Q : D → Store → Prop} {X : Exc → Store → Prop}
theorem wo_last {x : D} {xs : List D} {d : D} {Q : D → Store → Prop} (e : vS x C = some xs) (hk : xs[xs.length - 1]? = some d) (h : Q d C) : wO (oIx x (.int (-1)) C) Q := by
  have hl : xs.length - 1 < xs.length := (List.getElem?_eq_some_iff.mp hk).1
  have e2 : atI xs (-1) = some d := by
    unfold atI ixN
    rw [if_neg (by omega), if_pos (by omega)]
    show xs[((xs.length : Int) + -1).toNat]? = _
    rw [show ((xs.length : Int) + -1).toNat = xs.length - 1 by omega]
    exact hk
  refine wo_of (show oIx x (.int (-1)) C = some (d, C) from ?_) h
  simp only [oIx, e, Option.bind_some, e2]
  rfl
theorem le_int (C : Store) (a b : Int) : PySem.W.dataLe false (encD C) (.int a) (.int b) = leI a b := by
  rw [PySem.W.dataLe_eq]
  show (!PySem.W.dataLt (.int b) (.int a)) = _
  rw [PySem.W.dataLt_int]
  unfold leI
  by_cases h : b < a
  · rw [decide_eq_true h, decide_eq_false (by omega)]
    rfl
  · rw [decide_eq_false h, decide_eq_true (by omega)]
    rfl
theorem sort_int (gs : List Int) (C : Store) : oSortL false [.lst (gs.map .int)] C = some (.lst ((gs.mergeSort leI).map .int), C) := by
  have ok : ((gs.map D.int).all (fun d => (toP C d).isSome && decide ((encD C d).depth ≤ 60)) && srtb ((gs.map D.int).map (encD C))) = true := by
    have e : ∀ p ∈ (gs.map D.int).map (encD C), ∃ g : Int, p = .int g := fun p hp => by
      obtain ⟨d, hd, rfl⟩ := List.mem_map.mp hp
      obtain ⟨g, _, rfl⟩ := List.mem_map.mp hd
      exact ⟨g, rfl⟩
    simp only [Bool.and_eq_true, srtb, Bool.or_eq_true, List.all_eq_true]
    refine ⟨fun d hd => ?_, fun x hx y hy => ?_, .inr fun x hx => ?_⟩
    · obtain ⟨t, _, rfl⟩ := List.mem_map.mp hd
      refine ⟨rfl, decide_eq_true ?_⟩
      show (PyData.int t).depth ≤ 60
      simp [PyData.depth]
    · obtain ⟨a, rfl⟩ := e x hx
      obtain ⟨b, rfl⟩ := e y hy
      rfl
    · obtain ⟨a, rfl⟩ := e x hx
      rfl
  have em := List.map_mergeSort (r := leI) (s := PySem.W.dataLe false (encD C)) (f := D.int) (l := gs) (fun a _ b _ => (le_int C a b).symm)
  simp only [oSortL, vL, ok, if_true, mkL, Bool.false_eq_true, if_false]
  rw [← em]
theorem sorted_at (gs : List Int) : ∀ k, k + 1 < (gs.mergeSort leI).length → rF (gs.mergeSort leI) k ≤ rF (gs.mergeSort leI) (k + 1) := fun k hk => by
  have p := List.pairwise_mergeSort (le := leI) (fun a b c h1 h2 => by unfold leI at *; simp at *; omega) (fun a b => by unfold leI; simp; omega) gs
  have := List.pairwise_iff_getElem.mp p k (k + 1) (by omega) hk (by omega)
  have a := rF_getE (ns := gs.mergeSort leI) (v := k) (by omega)
  have b := rF_getE (ns := gs.mergeSort leI) (v := k + 1) hk
  rw [List.getElem?_eq_getElem (by omega)] at a
  rw [List.getElem?_eq_getElem hk] at b
  rw [Option.some.inj a, Option.some.inj b] at this
  unfold leI at this
  exact of_decide_eq_true this
theorem ints_of : ∀ {ys : List D}, (∀ y ∈ ys, ∃ g : Int, y = .int g) → ∃ gs : List Int, ys = gs.map .int ∧ gs.length = ys.length
  | [], _ => ⟨[], rfl, rfl⟩
  | y :: ys, h => by
    obtain ⟨g, rfl⟩ := h y (List.mem_cons_self ..)
    obtain ⟨gs, rfl, e⟩ := ints_of fun z hz => h z (List.mem_cons_of_mem _ hz)
    exact ⟨g :: gs, rfl, by simp⟩
theorem take_n0 {n : Int} (hB : Bg i C) (hn : 0 < n) (hn2 : n < 4611686018427387904) (h : ∀ r C', 0 ≤ r → r < n → To i C C' → Q (.int r) C') : wR (m_law_take [.cell i, .int n] C) Q X := by
  have := take_L (X := X) (Q := Q) hB hn hn2 [] fun r C' r0 r1 t => by
    rw [List.append_nil]
    exact h r C' r0 r1 t
  rw [List.append_nil] at this
  exact this
theorem wide_int : ∀ x : Int, x ∈ ([1, 3, 10, 1000000] : List Int) → 1 ≤ x ∧ x ≤ 1000000 := by
  intro x h
  simp only [List.mem_cons, List.not_mem_nil, or_false] at h
  omega
theorem ints_ofB {p : Int → Prop} : ∀ {ys : List D}, (∀ y ∈ ys, ∃ g : Int, y = .int g ∧ p g) → ∃ gs : List Int, ys = gs.map .int ∧ gs.length = ys.length ∧ ∀ g ∈ gs, p g
  | [], _ => ⟨[], rfl, rfl, by simp⟩
  | y :: ys, h => by
    obtain ⟨g, rfl, pg⟩ := h y (List.mem_cons_self ..)
    obtain ⟨gs, rfl, e, pl⟩ := ints_ofB fun z hz => h z (List.mem_cons_of_mem _ hz)
    exact ⟨g :: gs, rfl, by simp, fun z hz => by
      rcases List.mem_cons.mp hz with rfl | hz
      · exact pg
      · exact pl z hz⟩
theorem run_bd (x : Int) (h0 : -10 ≤ x ∧ x ≤ 10) (gs : List Int) : (∀ g ∈ gs, -1000000 ≤ g ∧ g ≤ 1000000) → ∀ y ∈ runT x gs, -(10 + 1000000 * (gs.length : Int)) ≤ y ∧ y ≤ 10 + 1000000 * (gs.length : Int) := by
  induction gs using snoc_ind with
  | h0 => intro _ y hy; rw [List.mem_singleton.mp hy]; simp; omega
  | h1 gs g ih =>
    intro hg y hy
    have ih := ih fun z hz => hg z (List.mem_append_left _ hz)
    have gb := hg g (by simp)
    have ln : (((gs ++ [g]).length : Nat) : Int) = gs.length + 1 := by simp
    rw [ln]
    rw [run_snoc] at hy
    have l := run_len x gs
    have last := ih (rF (runT x gs) ((runT x gs).length - 1)) (by
      have := rF_getE (ns := runT x gs) (v := (runT x gs).length - 1) (by omega)
      exact List.mem_of_getElem? this)
    rcases List.mem_append.mp hy with h | h
    · have := ih y h
      omega
    · rw [List.mem_singleton.mp h]
      omega
theorem law_table_b {m : Nat} (hB : Bg i C) (hm : m ≤ 10000) (h : ∀ (t : List Int) C', Cvx t → t.length = m + 1 → (∀ y ∈ t, -100000000000 ≤ y ∧ y ≤ 100000000000) → To i C C' → Q (tI t) C') : wR (m_law_table [.cell i, .int m] C) Q X := by
  rw [e_law_table]
  apply w_fin
  unfold b_law_table b_law_table_0
  walk_at "p"
  refine one_0 (xs := ([1, 3, 10, 1000000] : List Int).map .int) hB (by simp) (by simp) (cbL_ints _ _) fun d C1 hd u1 => ?_
  obtain ⟨w, hw, rfl⟩ := List.mem_map.mp hd
  obtain ⟨w0, w1⟩ := wide_int w hw
  walk_at "p"
  unfold b_law_table_1
  walk_at "p"
  refine ⟨inR_of (by omega) (by omega), ?_⟩
  refine lc_d (pure_R 0 _) (fun C' => To i C1 C') (fun _ d => ∃ g : Int, d = .int g ∧ -1000000 ≤ g ∧ g ≤ 1000000) (by simp [rngI]; omega) (To.refl u1.bg) (fun x d n _ hd => by obtain ⟨g, rfl, _⟩ := hd; rfl) (fun x hx => ⟨_, rfl, fun C2 acc t2 l2 => ?_⟩) fun ds C2 hdl hr t2 hl => ?_
  · walk_at "p"
    refine wo_of (show oMul (.int 2) (.int w) (accS C2 acc) = some (.int (2 * w), accS C2 acc) by simp [oMul, oI, cMul]) ?_
    walk_at "p"
    refine take_L (n := 2 * w + 1) t2.bg (by omega) (by omega) [some (.lst acc)] fun r C3 r0 r1 t3 => ?_
    walk_at "p"
    exact ⟨C3, rfl, t2.trans t3, by rw [t3.len, l2], _, rfl, by omega, by omega⟩
  obtain ⟨gs, rfl, gl, gb⟩ := ints_ofB (ys := ds) (p := fun g => -1000000 ≤ g ∧ g ≤ 1000000) fun y hy => by
    obtain ⟨k, hk⟩ := List.mem_iff_getElem?.mp hy
    have k1 := (List.getElem?_eq_some_iff.mp hk).1
    obtain ⟨x, hx⟩ : ∃ x, (rngI 0 (m : Int).toNat)[k]? = some x := ⟨_, List.getElem?_eq_getElem (by omega)⟩
    exact hr k x y hx hk
  have gm : gs.length = m := by
    rw [gl, hdl]
    simp [rngI]
  walk_at "p"
  refine wo_of (sort_int gs C2) ?_
  walk_at "p"
  have sl := List.length_mergeSort (le := leI) gs
  have cv := sorted_at gs
  have sb : ∀ g ∈ gs.mergeSort leI, -1000000 ≤ g ∧ g ≤ 1000000 := fun g hg => gb g (List.mem_mergeSort.mp hg)
  generalize gs.mergeSort leI = ss at sl cv sb
  unfold b_law_table_2
  walk_at "p"
  refine take_n0 t2.bg (by decide) (by decide) fun x0 C3 x1 x2 t3 => ?_
  walk_at "p"
  unfold b_law_table_3
  walk_at "p"
  refine loopM (l := ss) (enc := D.int) (pure_C _) (fun j sl S => ∃ t5, S = C3 ++ [some (.lst ((runT (x0 - 10) (ss.take j)).map .int))] ∧ sl = [some (.cell i), some (.int m), some (.int w), some (.lst (ss.map .int)), some (.cell C3.length), t5, none]) ⟨none, rfl, rfl⟩ ?_ ?_
  · rintro j g sl S hj ⟨t5, rfl, rfl⟩
    have j1 := (List.getElem?_eq_some_iff.mp hj).1
    have rl := run_len (x0 - 10) (ss.take j)
    rw [List.length_take] at rl
    have nx : runT (x0 - 10) (ss.take (j + 1)) = runT (x0 - 10) (ss.take j) ++ [rF (runT (x0 - 10) (ss.take j)) ((runT (x0 - 10) (ss.take j)).length - 1) + g] := by
      rw [take_s1 hj, run_snoc]
    generalize runT (x0 - 10) (ss.take j) = acc at rl nx
    refine ⟨_, rfl, ?_⟩
    unfold b_law_table_3b_0
    walk_at "w"
    refine w_append ?_
    walk_at "p"
    refine ⟨by simp only [vL, app_at]; rfl, ?_⟩
    walk_at "p"
    refine wo_last (xs := acc.map .int) (d := .int (rF acc (acc.length - 1))) (by simp only [vS, app_at]) (by rw [List.length_map, List.getElem?_map, rF_getE (by omega)]; rfl) ?_
    walk_at "p"
    refine ⟨C3.length, acc.map .int, by simp only [cL, app_at], by simp only [List.length_append, List.length_singleton, t3.len, hl, u1.len]; omega, by rw [List.length_map]; omega, ?_⟩
    refine lp_nx ⟨_, ?_, rfl⟩
    rw [app_set, nx, List.map_append]
    rfl
  · rintro sl S ⟨t5, rfl, rfl⟩
    rw [List.take_length]
    walk_at "p"
    unfold b_law_table_4
    walk_at "p"
    refine wo_of (show oTupOf [.cell C3.length] (C3 ++ [some (.lst ((runT (x0 - 10) ss).map .int))]) = some (tI (runT (x0 - 10) ss), C3 ++ [some (.lst ((runT (x0 - 10) ss).map .int))]) by simp only [oTupOf, vL, app_at]; rfl) ?_
    refine fnl_p (cb_tI 0 _) ?_
    have el : C3.length = C.length := by rw [t3.len, hl, u1.len]
    rw [take_app el]
    exact h _ C3 (run_cvx _ cv) (by rw [run_len]; omega) (fun y hy => by have := run_bd (x0 - 10) (by omega) ss sb y hy; omega) ((u1.trans t2).trans t3)
end
/-! TBJ: tables made one after another (split from BR7). -/
/-! SMK (split from RGD). -/
theorem sm_k (N : Nat) (c : Int) : (FF.sm N fun _ => c) = N * c := by
  induction N with
  | zero => simp [FF.sm]
  | succ N ih => rw [FF.sm_succ, ih, Int.natCast_succ, Int.add_mul, Int.one_mul]
/-! DGG: the degrees of a web (split from BR7). -/
/-- the degrees of a web -/
def degG (N : Nat) (f : Int × Int → Int) : List Int := (rowsOf N f).map List.sum
section
variable {N i : Nat} {f : Int × Int → Int}
theorem degG_at {v : Nat} (hv : v < N) : (degG N f)[v]? = some (FF.dgr N (grO f) v) := by
  unfold degG rowsOf
  rw [List.map_map, List.getElem?_map, List.getElem?_range hv]
  rfl
theorem degG_len : (degG N f).length = N := by simp [degG, rowsOf]
end
/-! LTBp (split from LTB). -/
section
variable {N i : Nat} {C : Store} {Q : D → Store → Prop} {X : Exc → Store → Prop} {f : Int × Int → Int} {T : List (List Int)}
theorem tI_one {a b : List Int} (h : tI a = tI b) : a = b := by
  have h := D.tup.inj h
  have inj : ∀ a b : List Int, a.map D.int = b.map D.int → a = b := by
    intro a
    induction a with
    | nil => intro b h; cases b with
      | nil => rfl
      | cons _ _ => cases h
    | cons x a ih => intro b h; cases b with
      | nil => cases h
      | cons y b =>
        simp only [List.map_cons, List.cons.injEq, D.int.injEq] at h
        rw [h.1, ih b h.2]
  exact inj a b h
theorem tIs_of : ∀ {ys : List D}, (∀ y ∈ ys, ∃ t : List Int, y = tI t) → ∃ T : List (List Int), ys = T.map tI
  | [], _ => ⟨[], rfl⟩
  | y :: ys, h => by
    obtain ⟨t, rfl⟩ := h y (List.mem_cons_self ..)
    obtain ⟨T, rfl⟩ := tIs_of fun z hz => h z (List.mem_cons_of_mem _ hz)
    exact ⟨t :: T, rfl⟩
theorem cb_tabs (n : Nat) (T : List (List Int)) : cbL n (T.map tI) = true := cb_tIs n T
end
/-! DGW: degrees walked (split from NR1). -/
section
variable {N i : Nat} {C : Store} {Q : D → Store → Prop} {X : Exc → Store → Prop} {f : Int × Int → Int} {r : List Int}
theorem degrees_w (hN : N ≤ 60) (q : Q (tI (degG N f)) C) : wR (m_Web_degrees [webD N f] C) Q X := by
  rw [e_Web_degrees]
  apply w_fin
  unfold b_Web_degrees
  walk_at "p"
  try (refine wo_fld (d := gridD (rowsOf N f)) rfl ?_)
  refine ⟨_, rfl, ?_⟩
  refine lcY (l := rowsOf N f) (enc := fun r => .lst (r.map .int)) (pure_C _) (fun r => .int r.sum) (by simp [rowsOf]; omega) (fun r hr => ⟨_, rfl, fun acc => ?_⟩) (fun _ _ => rfl) ?_
  · walk_at "p"
    refine wo_of (show oSum [.lst (r.map .int)] (accS C acc) = some (.int r.sum, accS C acc) by simp [oSum, vL]) ?_
    exact ⟨rfl, rfl⟩
  have et : D.tup ((rowsOf N f).map fun r => D.int r.sum) = tI (degG N f) := by
    unfold tI degG
    rw [List.map_map]
    rfl
  walk_at "p"
  rw [et]
  refine fnl_p (cb_tI 0 _) ?_
  rw [List.take_length]
  exact q
theorem zip_i2 (r q : List Int) : zipD (r.map .int) (q.map .int) = (r.zip q).map fun p => D.tup [.int p.1, .int p.2] := by
  unfold zipD
  rw [List.zip_map, List.map_map]
  rfl
theorem all_bz (l : List Bool) (C : Store) : oAll [.lst (l.map .bl)] C = some (.bl (l.all id), C) := by
  simp [oAll, vL]
end
/-! BT1: what a table is (k81): plain; is_table and is_tables walked. -/
def numK : D → Bool
  | .int x => decide (-1000000000 ≤ x) && decide (x ≤ 1000000000)
  | _ => false
def toI : D → Int
  | .int x => x
  | _ => 0
theorem wI_dR {b : Prop} [Decidable b] {p q : Prop} (h : ¬ b → q) (g : b → p) : wI (decide b) p q := wI_d g h
/-- no object and no cell -/
def flatK : D → Bool
  | .non => true | .bl _ => true | .int _ => true | .str _ => true | .lst _ => true | .tup _ => true
  | _ => false
def flat2K : D → Bool
  | .tup xs => xs.all flatK
  | d => flatK d
def flat3K : D → Bool
  | .tup xs => xs.all flat2K
  | d => flatK d
def cvxB (t : List Int) : Bool := (List.range (t.length - 2)).all fun k => decide (2 * rF t (k + 1) ≤ rF t k + rF t (k + 2))
/-- a table for integers up to n -/
def tabK (n : Int) : D → Bool
  | .tup xs => decide ((xs.length : Int) = n + 1) && (xs.all numK && cvxB (xs.map toI))
  | _ => false
def tabsK (lim : List Int) : D → Bool
  | .tup xs => decide (xs.length = lim.length) && (lim.zip xs).all fun p => tabK p.1 p.2
  | _ => false
section
variable {N : Nat} {C : Store} {Q : D → Store → Prop} {X : Exc → Store → Prop} {f : Int × Int → Int} {d x : D} {xs : List D} {t : List Int} {n : Int}
theorem cvxB_iff : cvxB t = true ↔ Cvx t := by
  unfold cvxB Cvx
  rw [List.all_eq_true]
  constructor
  · intro h i hi
    exact of_decide_eq_true (h i (List.mem_range.mpr (by omega)))
  · intro h k hk
    exact decide_eq_true (h k (by have := List.mem_range.mp hk; omega))
theorem nums_of (h : xs.all numK = true) : xs = (xs.map toI).map .int := by
  rw [List.map_map]
  refine ((List.map_congr_left (g := id) fun d hd => ?_).trans (List.map_id _)).symm
  have := List.all_eq_true.mp h d hd
  cases d with
  | int x => rfl
  | _ => cases this
theorem num_bd (h : xs.all numK = true) : ∀ k, -1000000000 ≤ rF (xs.map toI) k ∧ rF (xs.map toI) k ≤ 1000000000 := fun k => by
  unfold rF
  rw [List.getD_eq_getElem?_getD]
  cases e : (xs.map toI)[k]? with
  | none => simp
  | some y =>
    obtain ⟨d, hd, rfl⟩ := List.mem_map.mp (List.mem_of_getElem? e)
    have := List.all_eq_true.mp h d hd
    cases d with
    | int x =>
      have := Bool.and_eq_true_iff.mp this
      have a := of_decide_eq_true this.1
      have b := of_decide_eq_true this.2
      exact ⟨a, b⟩
    | _ => cases this
def isI : D → Bool
  | .int _ => true
  | _ => false
theorem integer_any (h : flatK x = true) : m_is_integer [x] C = .ok (.bl (isI x)) C := by
  cases x with
  | int i => exact is_integer_int i C
  | non => simp [m_is_integer, b_is_integer, ev_def, isi, tyD, isaT, isI]
  | bl t => simp [m_is_integer, b_is_integer, ev_def, isi, tyD, isaT, isI]
  | str s => simp [m_is_integer, b_is_integer, ev_def, isi, tyD, isaT, isI]
  | lst xs => simp [m_is_integer, b_is_integer, ev_def, isi, tyD, isaT, isI]
  | tup xs => simp [m_is_integer, b_is_integer, ev_def, isi, tyD, isaT, isI]
  | _ => cases h
theorem is_number_any (h : flatK x = true) (q : Q (.bl (numK x)) C) : wR (m_is_number [x] C) Q X := by
  rw [e_is_number]
  apply w_fin
  unfold b_is_number
  walk_at "p"
  refine w_of (integer_any h) ?_
  by_cases hi : ∃ z, x = .int z
  · obtain ⟨z, rfl⟩ := hi
    rw [show isI (.int z) = true from rfl]
    walk_at "p"
    refine wI_d (fun h1 => ?_) fun h1 => ?_
    · walk_at "p"
      rw [List.take_length]
      have e : numK (.int z) = decide (z ≤ 1000000000) := by
        show (decide (-1000000000 ≤ z) && _) = _
        rw [decide_eq_true h1, Bool.true_and]
      rwa [e] at q
    · walk_at "p"
      rw [List.take_length]
      have e : numK (.int z) = false := by
        show (decide (-1000000000 ≤ z) && _) = _
        rw [decide_eq_false h1, Bool.false_and]
      rwa [e] at q
  · have e : isI x = false := by cases x <;> first | rfl | exact absurd ⟨_, rfl⟩ hi
    have e2 : numK x = false := by cases x <;> first | rfl | exact absurd ⟨_, rfl⟩ hi
    rw [e]
    rw [e2] at q
    walk_at "p"
    rw [List.take_length]
    exact q
/-- what is no tuple -/
theorem not_tup (h : flatK d = true) (hn : ∀ xs, d ≠ .tup xs) (C : Store) : isi [0] d C (.ty .tuple) = some false := by
  cases d <;> first | (cases h; done) | rfl | exact absurd rfl (hn _)
theorem tab_ix {k : Nat} {i : Int} {P : D → Store → Prop} (e : xs = t.map .int) (hi : i = k) (hk : k < t.length) (h : P (.int (rF t k)) C) : wO (oIx (.tup xs) (.int i) C) P := by
  subst e
  refine wo_ix (xs := t.map .int) (k := k) rfl hi ?_ h
  rw [List.getElem?_map, List.getElem?_eq_getElem hk]
  unfold rF
  rw [List.getD_eq_getElem?_getD, List.getElem?_eq_getElem hk]
  rfl
theorem is_table_w (h : flat2K d = true) (hl : ∀ xs, d = .tup xs → xs.length ≤ 100000) (q : Q (.bl (tabK n d)) C) : wR (m_is_table [.int n, d] C) Q X := by
  rw [e_is_table]
  apply w_fin
  unfold b_is_table b_is_table_0
  walk_at "p"
  by_cases ht : ∃ xs, d = .tup xs
  · obtain ⟨xs, rfl⟩ := ht
    have hl := hl xs rfl
    refine ⟨true, rfl, ?_⟩
    walk_at "p"
    refine wo_len (xs := xs) rfl ?_
    walk_at "p"
    refine wI_dR (fun h1 => ?_) fun h1 => ?_
    · walk_at "p"
      rw [List.take_length]
      have e : tabK n (.tup xs) = false := by
        show (decide ((xs.length : Int) = n + 1) && _) = false
        rw [decide_eq_false h1]
        rfl
      rwa [e] at q
    · walk_at "p"
      unfold b_is_table_1
      walk_at "p"
      have fl : ∀ x ∈ xs, flatK x = true := List.all_eq_true.mp h
      refine lcY (l := xs) (enc := id) (by rw [List.map_id]; exact pure_C _) (fun x => .bl (numK x)) (by omega) (fun x hx => ⟨_, rfl, fun acc => ?_⟩) (fun _ _ => rfl) ?_
      · walk_at "p"
        exact is_number_any (fl x hx) ⟨rfl, rfl⟩
      walk_at "p"
      rw [show (xs.map fun x => D.bl (numK x)) = (xs.map numK).map .bl by rw [List.map_map]; rfl]
      refine wo_of (all_bz _ _) ?_
      rw [show (xs.map numK).all id = xs.all numK by rw [List.all_map]; rfl]
      cases hn : xs.all numK with
      | false =>
        walk_at "p"
        rw [List.take_length]
        have e : tabK n (.tup xs) = false := by
          show (decide ((xs.length : Int) = n + 1) && (xs.all numK && _)) = false
          rw [hn, Bool.false_and, Bool.and_false]
        rwa [e] at q
      | true =>
        walk_at "p"
        unfold b_is_table_2
        walk_at "p"
        refine wo_len (xs := xs) rfl ?_
        walk_at "p"
        refine ⟨inR_of (by omega) (by omega), ?_⟩
        rw [show ((xs.length : Int) - 2).toNat = xs.length - 2 by omega]
        have ei := nums_of hn
        have bd := num_bd hn
        have lx : (xs.map toI).length = xs.length := by simp
        have et : tabK n (.tup xs) = cvxB (xs.map toI) := by
          show (decide ((xs.length : Int) = n + 1) && (xs.all numK && _)) = _
          rw [decide_eq_true h1, hn]
          rfl
        rw [et] at q
        generalize xs.map toI = t at ei bd lx q
        refine lcY (l := List.range (xs.length - 2)) (enc := fun k : Nat => .int (k : Int)) (pureR0 _) (fun k : Nat => .bl (decide (2 * rF t (k + 1) ≤ rF t k + rF t (k + 2)))) (by simp; omega) (fun k hk => ⟨_, rfl, fun acc => ?_⟩) (fun _ _ => rfl) ?_
        · have hk := List.mem_range.mp hk
          walk_at "p"
          refine tab_ix (k := k + 1) ei (by omega) (by omega) ?_
          walk_at "p"
          refine wo_mul (by simp [cMul]) ?_
          walk_at "p"
          refine tab_ix (k := k) ei rfl (by omega) ?_
          walk_at "p"
          refine tab_ix (k := k + 2) ei (by omega) (by omega) ?_
          walk_at "p"
          exact ⟨rfl, rfl⟩
        walk_at "p"
        rw [show ((List.range (xs.length - 2)).map fun k : Nat => D.bl (decide (2 * rF t (k + 1) ≤ rF t k + rF t (k + 2)))) = ((List.range (xs.length - 2)).map fun k : Nat => decide (2 * rF t (k + 1) ≤ rF t k + rF t (k + 2))).map .bl by rw [List.map_map]; rfl]
        refine wo_of (all_bz _ _) ?_
        refine fnl_p rfl ?_
        rw [List.take_length, List.all_map]
        unfold cvxB at q
        rw [lx] at q
        exact q
  · have nt : ∀ xs, d ≠ .tup xs := fun xs e => ht ⟨xs, e⟩
    have fk : flatK d = true := by
      cases d <;> first | exact h | exact absurd rfl (nt _)
    refine ⟨false, not_tup fk nt C, ?_⟩
    walk_at "p"
    rw [List.take_length]
    have e : tabK n d = false := by
      cases d <;> first | rfl | exact absurd rfl (nt _)
    rwa [e] at q
end
/-! BT2: is_tables and the law's _law_tables_right: walked (k81). -/
section
variable {N : Nat} {C : Store} {Q : D → Store → Prop} {X : Exc → Store → Prop} {f : Int × Int → Int} {d x : D} {xs : List D} {t : List Int} {n : Int} {lim : List Int}
theorem flat3_2 (h : flat3K (.tup xs) = true) : ∀ x ∈ xs, flat2K x = true := List.all_eq_true.mp h
/-- what is at most so long -/
structure Short (d : D) : Prop where
  a : ∀ xs, d = .tup xs → xs.length ≤ 1000 ∧ ∀ x ∈ xs, ∀ ys, x = .tup ys → ys.length ≤ 100000
theorem zip_ii {α : Type} {l : List Int} {xs : List D} : zipD (l.map .int) xs = (l.zip xs).map fun p => D.tup [.int p.1, p.2] := by
  unfold zipD
  rw [List.zip_map_left, List.map_map]
  rfl
theorem is_tables_w (hN : N ≤ 60) (h : flat3K d = true) (sh : Short d) (q : Q (.bl (tabsK (degG N f) d)) C) : wR (m_is_tables [webD N f, d] C) Q X := by
  rw [e_is_tables]
  apply w_fin
  unfold b_is_tables b_is_tables_0
  walk_at "p"
  by_cases ht : ∃ xs, d = .tup xs
  · obtain ⟨xs, rfl⟩ := ht
    obtain ⟨l1, l2⟩ := sh.a xs rfl
    refine ⟨true, rfl, ?_⟩
    walk_at "p"
    refine wo_len (xs := xs) rfl ?_
    walk_at "p"
    try (refine wo_fld (d := .int N) rfl ?_; walk_at "p")
    refine wI_dR (fun h1 => ?_) fun h1 => ?_
    · walk_at "p"
      rw [List.take_length]
      have e : tabsK (degG N f) (.tup xs) = false := by
        show (decide (xs.length = (degG N f).length) && _) = false
        rw [degG_len, decide_eq_false (by omega)]
        rfl
      rwa [e] at q
    · walk_at "p"
      unfold b_is_tables_1
      walk_at "p"
      refine w_zipX ?_
      walk_at "p"
      refine ⟨_, rfl, degrees_w hN ?_⟩
      walk_at "p"
      refine ⟨_, _, _, _, rfl, rfl, rfl, ?_⟩
      have lg : (degG N f).length = N := degG_len
      have e1 : tabsK (degG N f) (.tup xs) = ((degG N f).zip xs).all fun p => tabK p.1 p.2 := by
        show (decide (xs.length = (degG N f).length) && _) = _
        rw [lg, decide_eq_true (by omega)]
        rfl
      rw [e1] at q
      generalize degG N f = L at lg q ⊢
      show wR (lcR (itC (zipD (L.map .int) xs)) _ _ _ _ _ _) _ _
      rw [zip_ii (α := Unit)]
      refine lcY (l := L.zip xs) (enc := fun p => D.tup [.int p.1, p.2]) (pure_C _) (fun p => .bl (tabK p.1 p.2)) (by rw [List.length_zip]; omega) (fun p hp => ⟨_, rfl, fun acc => ?_⟩) (fun _ _ => rfl) ?_
      · have m := List.of_mem_zip hp
        walk_at "p"
        exact is_table_w (flat3_2 h _ m.2) (l2 _ m.2) ⟨rfl, rfl⟩
      walk_at "p"
      rw [show ((L.zip xs).map fun p => D.bl (tabK p.1 p.2)) = ((L.zip xs).map fun p => tabK p.1 p.2).map .bl by rw [List.map_map]; rfl]
      refine wo_of (all_bz _ _) ?_
      refine fnl_p rfl ?_
      rw [List.take_length, List.all_map]
      exact q
  · have nt : ∀ xs, d ≠ .tup xs := fun xs e => ht ⟨xs, e⟩
    have fk : flatK d = true := by
      cases d <;> first | exact h | exact absurd rfl (nt _)
    refine ⟨false, not_tup fk nt C, ?_⟩
    walk_at "p"
    rw [List.take_length]
    have e : tabsK (degG N f) d = false := by
      cases d <;> first | rfl | exact absurd rfl (nt _)
    rwa [e] at q
/-! ### the law's -/
theorem whole_any (h : flatK x = true) : m_law_is_whole [x] C = .ok (.bl (isI x)) C := by
  cases x with
  | int i => simp [m_law_is_whole, b_law_is_whole, ev_def, isi, tyD, isaT, isI]
  | non => simp [m_law_is_whole, b_law_is_whole, ev_def, isi, tyD, isaT, isI]
  | bl t => simp [m_law_is_whole, b_law_is_whole, ev_def, isi, tyD, isaT, isI]
  | str s => simp [m_law_is_whole, b_law_is_whole, ev_def, isi, tyD, isaT, isI]
  | lst xs => simp [m_law_is_whole, b_law_is_whole, ev_def, isi, tyD, isaT, isI]
  | tup xs => simp [m_law_is_whole, b_law_is_whole, ev_def, isi, tyD, isaT, isI]
  | _ => cases h
def gapsK (t : List Int) (n : Nat) : List Int := (List.range n).map fun k => rF t (k + 1) - rF t k
theorem gaps_cvx {n : Nat} (h : t.length = n + 1) : Cvx t ↔ ∀ k, k + 1 < (gapsK t n).length → rF (gapsK t n) k ≤ rF (gapsK t n) (k + 1) := by
  have l : (gapsK t n).length = n := by simp [gapsK]
  have e : ∀ k, k < n → rF (gapsK t n) k = rF t (k + 1) - rF t k := fun k hk => by
    unfold gapsK
    show ((List.range n).map _).getD k 0 = _
    rw [List.getD_eq_getElem?_getD, List.getElem?_map, List.getElem?_range hk]
    rfl
  constructor
  · intro c k hk
    rw [e k (by omega), e (k + 1) (by omega)]
    have := c k (by omega)
    have z : k + 1 + 1 = k + 2 := rfl
    rw [z]
    omega
  · intro g i hi
    have := g i (by omega)
    rw [e i (by omega), e (i + 1) (by omega)] at this
    have z : i + 1 + 1 = i + 2 := rfl
    rw [z] at this
    omega
theorem up_pw {gs : List Int} (h : ∀ k, k + 1 < gs.length → rF gs k ≤ rF gs (k + 1)) : gs.Pairwise fun a b => leI a b = true := by
  have at_ : ∀ k (hk : k < gs.length), gs[k] = rF gs k := fun k hk => by
    unfold rF
    rw [List.getD_eq_getElem?_getD, List.getElem?_eq_getElem hk]
    rfl
  have mono : ∀ d i, i + d < gs.length → rF gs i ≤ rF gs (i + d) := fun d => by
    induction d with
    | zero => intro i _; exact Int.le_refl _
    | succ d ih =>
      intro i hi
      have a := ih i (by omega)
      have b := h (i + d) (by omega)
      rw [show i + (d + 1) = i + d + 1 by omega]
      omega
  rw [List.pairwise_iff_getElem]
  intro i j hi hj ij
  rw [at_ i hi, at_ j hj]
  have := mono (j - i) i (by omega)
  rw [show i + (j - i) = j by omega] at this
  unfold leI
  exact decide_eq_true this
theorem sort_same {gs : List Int} : gs = gs.mergeSort leI ↔ ∀ k, k + 1 < gs.length → rF gs k ≤ rF gs (k + 1) := by
  constructor
  · intro e k hk
    have := sorted_at gs k (by rw [← e]; exact hk)
    rwa [← e] at this
  · intro h
    exact (List.mergeSort_of_pairwise (up_pw h)).symm
theorem sort_eq {n : Nat} (h : t.length = n + 1) : decide (gapsK t n = (gapsK t n).mergeSort leI) = cvxB t := by
  rw [Bool.eq_iff_iff, decide_eq_true_eq, sort_same, ← gaps_cvx h, cvxB_iff]
end
/-! EQV: data that are equal to themselves. -/
mutual
theorem eqv_refl : ∀ p : PyData, p.canLay0 = true → p.eqv p = true
  | .none, _ => by simp [PyData.eqv]
  | .bool _, _ => by simp [PyData.eqv]
  | .int _, _ => by simp [PyData.eqv]
  | .str _, _ => by simp [PyData.eqv]
  | .list xs, h => by
    simp only [PyData.eqv]
    exact eqvAll_refl xs (by simpa only [PyData.canLay0] using h)
  | .tuple xs, h => by
    simp only [PyData.eqv]
    exact eqvAll_refl xs (by simpa only [PyData.canLay0] using h)
  | .dict _, h => by simp [PyData.canLay0] at h
theorem eqvAll_refl : ∀ xs : List PyData, PyData.canLayAll0 xs = true → PyData.eqvAll xs xs = true
  | [], _ => by simp [PyData.eqvAll]
  | x :: xs, h => by
    simp only [PyData.canLayAll0, Bool.and_eq_true] at h
    simp only [PyData.eqvAll, eqv_refl x h.1, eqvAll_refl xs h.2, Bool.and_self]
end
/-! ALKp: own lists beside lists of plain data: alike. -/
section
variable {C : Store} {Q : D → Store → Prop} {X : Exc → Store → Prop} {k w dp n : Nat} {xs : List D} {ps : List PyData}
theorem eqD_same {x y : D} {p : PyData} (hx : toP C x = some p) (hy : toP C y = some p) (hc : p.canLay0 = true) (hs : SeqAt.shaped p = true) (neg : Bool) : oEqD neg x y C = some (.bl (!neg), C) := by
  simp only [oEqD, hx, hy, hs, Bool.and_self, if_true, eqv_refl _ hc]
  cases neg <;> rfl
end
/-! L1: lists of ints as data: ==, in. -/
theorem toPs_is (C : Store) : ∀ l : List Int, toPs C (l.map D.int) = some (l.map .int)
  | [] => rfl
  | x :: l => by
    have e := toPs_is C l
    show (match toP C (.int x), toPs C (l.map D.int) with | some p, some ps => some (p :: ps) | _, _ => none) = _
    rw [e]
    rfl
theorem eqv_is : ∀ as bs : List Int, PyData.eqvAll (as.map .int) (bs.map .int) = decide (as = bs)
  | [], [] => rfl
  | [], b :: bs => rfl
  | a :: as, [] => rfl
  | a :: as, b :: bs => by
    show (PyData.eqv (.int a) (.int b) && PyData.eqvAll (as.map .int) (bs.map .int)) = _
    rw [eqv_is as bs, Bool.eq_iff_iff]
    simp [PyData.eqv]
theorem lay_is : ∀ l : List Int, PyData.canLayAll0 (l.map .int) = true
  | [] => rfl
  | a :: l => by simp [PyData.canLayAll0, PyData.canLay0, lay_is l]
theorem dep_is : ∀ l : List Int, PyData.depthAll (l.map .int) ≤ 0
  | [] => by simp [PyData.depthAll]
  | a :: l => by
    have := dep_is l
    simp only [List.map_cons, PyData.depthAll, PyData.depth]
    omega
theorem shp_li (l : List Int) : SeqAt.shaped (.list (l.map .int)) = true := by
  have h3 := dep_is l
  have h4 : (PyData.list (l.map .int)).depth ≤ 64 := by simp only [PyData.depth]; omega
  simp [SeqAt.shaped, PyData.canLay0, lay_is, h4]
theorem toP_li (C : Store) (l : List Int) : toP C (.lst (l.map .int)) = some (.list (l.map .int)) := by
  show (toPs C (l.map D.int)).map PyData.list = _
  rw [toPs_is]
  rfl
/-! BT3: the law's _law_tables_right: walked (k81). -/
mutual
theorem cb_tp {n : Nat} : ∀ {d : D} {p : PyData}, toP [] d = some p → cb n d = true
  | .non, _, _ => rfl
  | .bl _, _, _ => rfl
  | .int _, _, _ => rfl
  | .str _, _, _ => rfl
  | .lst xs, _, e => by
    simp only [toP] at e
    obtain ⟨ps, e1, _⟩ := Option.map_eq_some_iff.mp e
    exact cb_tps e1
  | .tup xs, _, e => by
    simp only [toP] at e
    obtain ⟨ps, e1, _⟩ := Option.map_eq_some_iff.mp e
    exact cb_tps e1
  | .kt xs, _, e => by
    simp only [toP] at e
    obtain ⟨ps, e1, _⟩ := Option.map_eq_some_iff.mp e
    exact cb_tps e1
  | .scr _, _, e => by simp [toP] at e
  | .obj _ _, _, e => by simp [toP] at e
  | .dT _ _, _, e => by simp [toP] at e
  | .exn _ _, _, e => by simp [toP] at e
  | .cls _, _, _ => rfl
  | .cell _, _, e => by simp [toP] at e
theorem cb_tps {n : Nat} : ∀ {xs : List D} {ps : List PyData}, toPs [] xs = some ps → cbL n xs = true
  | [], _, _ => rfl
  | d :: ds, ps, e => by
    simp only [toPs] at e
    split at e
    · rename_i p qs e1 e2
      show (cb n d && cbL n ds) = true
      rw [cb_tp e1, cb_tps e2]
      rfl
    · cases e
end
/-- what may be handed to is_tables -/
structure Th (d : D) : Prop where
  f3 : flat3K d = true
  a : ∀ xs, d = .tup xs → xs.length ≤ 20 ∧ ∀ x ∈ xs, ∀ ys, x = .tup ys → ys.length ≤ 5000 ∧ ∀ y ∈ ys, ∃ p, Gd 200 3 y p
  c : ∀ n, cb n d = true
section
variable {N : Nat} {C : Store} {Q : D → Store → Prop} {X : Exc → Store → Prop} {P : RS → Prop} {f : Int × Int → Int} {d x : D} {xs ys : List D} {t : List Int} {n : Int} {lim : List Int}
theorem Th.short (h : Th d) : Short d := ⟨fun xs e => ⟨by have := (h.a xs e).1; omega, fun x hx ys ey => by have := ((h.a xs e).2 x hx ys ey).1; omega⟩⟩
theorem ne_nilK {w dp : Nat} (h : ∀ y ∈ ys, ∃ p, Gd w dp y p) (hd : dp + 1 ≤ 60) (C : Store) : oEqA true (.lst ys) (.lst []) C = some (.bl (!ys.isEmpty), C) := by
  obtain ⟨ps, g⟩ := gdl_all h
  have gd := gd_lst g (Nat.le_refl _)
  have e : toP C (.lst ys) = some (.list ps) := gd.tp C
  have e2 : toP C (.lst []) = some (.list []) := rfl
  have s1 : SeqAt.shaped (.list ps) = true := gd.shp hd
  have s2 : SeqAt.shaped (.list []) = true := rfl
  show oEqD true _ _ C = _
  simp only [oEqD, e, e2, s1, s2, Bool.and_self, if_true]
  have l := g.len
  cases ys with
  | nil =>
    have : ps = [] := List.length_eq_zero_iff.mp (by simpa using l)
    subst this
    rfl
  | cons y ys =>
    cases ps with
    | nil => simp at l
    | cons p ps => rfl
theorem all_filt {α : Type} {g : α → Bool} : ∀ {l : List α}, (l.filter fun x => !g x).isEmpty = l.all g
  | [] => rfl
  | x :: l => by
    cases h : g x with
    | true => simp [h, all_filt (g := g) (l := l)]
    | false => simp [h]
theorem nums_split : xs.all numK = (xs.all isI && xs.all numK) := by
  cases h : xs.all numK with
  | false => rw [Bool.and_false]
  | true =>
    have : xs.all isI = true := List.all_eq_true.mpr fun x hx => by
      have := List.all_eq_true.mp h x hx
      cases x <;> first | rfl | (cases this; done)
    rw [this]
    rfl
theorem ne_ints (a b : List Int) (C : Store) : oEqA true (.lst (a.map .int)) (.lst (b.map .int)) C = some (.bl (!decide (a = b)), C) := by
  show oEqD true _ _ C = _
  simp only [oEqD, toP_li, shp_li, Bool.and_self, if_true, PyData.eqv, eqv_is]
/-- one table judged -/
theorem one_tab {s0 s1 s4 : Option D} {fl : Nat} (h : flat2K d = true) (hs : ∀ ys, d = .tup ys → ys.length ≤ 5000 ∧ ∀ y ∈ ys, ∃ p, Gd 200 3 y p) (n0 : 0 ≤ n) (n1 : n ≤ 100000)
    (qt : tabK n d = true → ∀ s4, P (.nx [s0, s1, some (.int n), some d, s4, none, none] C)) (qf : tabK n d = false → P (.rt (.bl false) C)) :
    wS ((sSeq b_law_tables_right_1b_0 (sSeq b_law_tables_right_1b_1 (sSeq b_law_tables_right_1b_2 (sSeq b_law_tables_right_1b_3 b_law_tables_right_1b_4)))) ⟨fl, [s0, s1, some (.int n), some d, s4, none, none]⟩ C) P := by
  walk_at "p"
  unfold b_law_tables_right_1b_0
  walk_at "p"
  by_cases ht : ∃ xs, d = .tup xs
  · obtain ⟨xs, rfl⟩ := ht
    obtain ⟨l1, gd⟩ := hs xs rfl
    have fl1 : ∀ x ∈ xs, flatK x = true := List.all_eq_true.mp h
    refine ⟨true, rfl, ?_⟩
    walk_at "p"
    refine wo_len (xs := xs) rfl ?_
    walk_at "p"
    refine wI_dR (fun h1 => ?_) fun h1 => ?_
    · walk_at "p"
      refine qf ?_
      show (decide ((xs.length : Int) = n + 1) && _) = false
      rw [decide_eq_false h1]
      rfl
    · have et : tabK n (.tup xs) = (xs.all numK && cvxB (xs.map toI)) := by
        show (decide ((xs.length : Int) = n + 1) && _) = _
        rw [decide_eq_true h1, Bool.true_and]
      rw [et] at qt qf
      walk_at "p"
      unfold b_law_tables_right_1b_1
      walk_at "p"
      have cbx : ∀ x ∈ xs, cb C.length x = true := fun x hx => by
        obtain ⟨p, g⟩ := gd x hx
        exact cb_tp (g.tp [])
      refine lcM (l := xs) (enc := id) (by rw [List.map_id]; exact pure_C _) (fun x => !isI x) id (by omega) (fun x hx => ⟨_, rfl, fun acc => ⟨?_, fun _ => ?_⟩⟩) (fun x hx _ => cbx x hx) ?_
      · walk_at "p"
        refine w_of (whole_any (fl1 x hx)) ?_
        walk_at "p"
        exact ⟨rfl, rfl⟩
      · walk_at "p"
        exact ⟨rfl, rfl⟩
      rw [List.map_id]
      walk_at "p"
      refine wo_of (ne_nilK (w := 200) (dp := 3) (fun y hy => gd y (List.mem_filter.mp hy).1) (by decide) _) ?_
      rw [all_filt]
      cases hI : xs.all isI with
      | false =>
        walk_at "p"
        refine qf ?_
        rw [nums_split, hI]
        rfl
      | true =>
        walk_at "p"
        unfold b_law_tables_right_1b_2
        walk_at "p"
        refine lcM (l := xs) (enc := id) (by rw [List.map_id]; exact pure_C _) (fun x => !numK x) id (by omega) (fun x hx => ⟨_, rfl, fun acc => ⟨?_, fun _ => ?_⟩⟩) (fun x hx _ => cbx x hx) ?_
        · have := List.all_eq_true.mp hI x hx
          obtain ⟨z, rfl⟩ : ∃ z, x = .int z := by cases x <;> first | exact ⟨_, rfl⟩ | (cases this; done)
          have ez : numK (.int z) = (decide (-1000000000 ≤ z) && decide (z ≤ 1000000000)) := rfl
          rw [ez]
          simp only [id_eq]
          walk_at "p"
          refine wI_d (fun h2 => ?_) fun h2 => ?_
          · walk_at "p"
            rw [decide_eq_true h2, Bool.true_and]
            exact ⟨rfl, rfl⟩
          · walk_at "p"
            rw [decide_eq_false h2, Bool.false_and]
            exact ⟨rfl, rfl⟩
        · walk_at "p"
          exact ⟨rfl, rfl⟩
        rw [List.map_id]
        walk_at "p"
        refine wo_of (ne_nilK (w := 200) (dp := 3) (fun y hy => gd y (List.mem_filter.mp hy).1) (by decide) _) ?_
        rw [all_filt]
        cases hN : xs.all numK with
        | false =>
          walk_at "p"
          refine qf ?_
          rw [hN]
          rfl
        | true =>
          rw [hN, Bool.true_and] at qt qf
          walk_at "p"
          unfold b_law_tables_right_1b_3
          walk_at "p"
          refine ⟨inR_of (by omega) (by omega), ?_⟩
          obtain ⟨m, rfl⟩ : ∃ m : Nat, n = (m : Int) := ⟨n.toNat, by omega⟩
          rw [show (m : Int).toNat = m by omega]
          have ei := nums_of hN
          have lt : (xs.map toI).length = m + 1 := by rw [List.length_map]; omega
          generalize xs.map toI = t at ei lt qt qf
          refine lcY (l := List.range m) (enc := fun k : Nat => .int (k : Int)) (pureR0 _) (fun k : Nat => .int (rF t (k + 1) - rF t k)) (by simp; omega) (fun k hk => ⟨_, rfl, fun acc => ?_⟩) (fun _ _ => rfl) ?_
          · have hk := List.mem_range.mp hk
            walk_at "p"
            refine tab_ix (k := k + 1) ei (by omega) (by omega) ?_
            walk_at "p"
            refine tab_ix (k := k) ei rfl (by omega) ?_
            walk_at "p"
            exact ⟨rfl, rfl⟩
          rw [show ((List.range m).map fun k : Nat => D.int (rF t (k + 1) - rF t k)) = (gapsK t m).map .int by unfold gapsK; rw [List.map_map]; rfl]
          walk_at "p"
          unfold b_law_tables_right_1b_4
          walk_at "p"
          refine wo_of (sort_int _ _) ?_
          refine wo_of (ne_ints _ _ _) ?_
          rw [sort_eq lt]
          cases hc : cvxB t with
          | true =>
            walk_at "p"
            exact qt hc _
          | false =>
            walk_at "p"
            exact qf hc
  · have nt : ∀ xs, d ≠ .tup xs := fun xs e => ht ⟨xs, e⟩
    have fk : flatK d = true := by
      cases d <;> first | exact h | exact absurd rfl (nt _)
    refine ⟨false, not_tup fk nt C, ?_⟩
    walk_at "p"
    refine qf ?_
    cases d <;> first | rfl | exact absurd rfl (nt _)
theorem tables_right_w (h : Th d) (hl : lim.length ≤ 10) (hb : ∀ x ∈ lim, 0 ≤ x ∧ x ≤ 100000) (q : Q (.bl (tabsK lim d)) C) : wR (m_law_tables_right [.lst (lim.map .int), d] C) Q X := by
  rw [e_law_tables_right]
  apply w_fin
  unfold b_law_tables_right b_law_tables_right_0
  walk_at "p"
  by_cases ht : ∃ xs, d = .tup xs
  · obtain ⟨xs, rfl⟩ := ht
    obtain ⟨l1, l2⟩ := h.a xs rfl
    refine ⟨true, rfl, ?_⟩
    walk_at "p"
    refine wo_len (xs := xs) rfl ?_
    walk_at "p"
    refine wo_len (xs := lim.map .int) rfl ?_
    rw [List.length_map]
    walk_at "p"
    refine wI_dR (fun h1 => ?_) fun h1 => ?_
    · walk_at "p"
      rw [List.take_length]
      have e : tabsK lim (.tup xs) = false := by
        show (decide (xs.length = lim.length) && _) = false
        rw [decide_eq_false (by omega)]
        rfl
      rwa [e] at q
    · walk_at "p"
      have e1 : tabsK lim (.tup xs) = (lim.zip xs).all fun p => tabK p.1 p.2 := by
        show (decide (xs.length = lim.length) && _) = _
        rw [decide_eq_true (by omega)]
        rfl
      rw [e1] at q
      unfold b_law_tables_right_1
      walk_at "p"
      refine w_zipX ?_
      walk_at "p"
      refine ⟨_, _, _, _, rfl, rfl, rfl, ?_⟩
      show wS (loopN (itC (zipD (lim.map .int) xs)) _ _ _ _ _ _ _) _
      rw [zip_ii (α := Unit)]
      refine loopM (l := lim.zip xs) (enc := fun p => D.tup [.int p.1, p.2]) (pure_C _) (fun j sl S => S = C ∧ (∀ i p, i < j → (lim.zip xs)[i]? = some p → tabK p.1 p.2 = true) ∧ ∃ s2 s3 s4, sl = [some (.lst (lim.map .int)), some (.tup xs), s2, s3, s4, none, none]) ⟨rfl, fun i p hi => by omega, _, _, _, rfl⟩ ?_ ?_
      · rintro j p sl S hp ⟨rfl, ok, s2, s3, s4, rfl⟩
        have m := List.of_mem_zip (List.mem_of_getElem? hp)
        have b := hb _ m.1
        refine ⟨_, rfl, ?_⟩
        refine one_tab (flat3_2 h.f3 _ m.2) (l2 _ m.2) b.1 b.2 (fun ht s4 => ?_) fun hf => ?_
        · walk_at "p"
          refine ⟨rfl, fun i p' hi hp' => ?_, _, _, _, rfl⟩
          by_cases e : i = j
          · subst e
            rw [hp] at hp'
            cases hp'
            exact ht
          · exact ok i p' (by omega) hp'
        · walk_at "p"
          rw [List.take_length]
          have e : ((lim.zip xs).all fun p => tabK p.1 p.2) = false := by
            rw [List.all_eq_false]
            exact ⟨p, List.mem_of_getElem? hp, by rw [hf]; decide⟩
          rwa [e] at q
      · rintro sl S ⟨rfl, ok, s2, s3, s4, rfl⟩
        walk_at "p"
        unfold b_law_tables_right_2
        walk_at "p"
        rw [List.take_length]
        have e : ((lim.zip xs).all fun p => tabK p.1 p.2) = true := List.all_eq_true.mpr fun p hp => by
          obtain ⟨i, hi⟩ := List.mem_iff_getElem?.mp hp
          exact ok i p (List.getElem?_eq_some_iff.mp hi).1 hi
        rwa [e] at q
  · have nt : ∀ xs, d ≠ .tup xs := fun xs e => ht ⟨xs, e⟩
    have fk : flatK d = true := by
      have := h.f3
      cases d <;> first | exact this | exact absurd rfl (nt _)
    refine ⟨false, not_tup fk nt C, ?_⟩
    walk_at "p"
    rw [List.take_length]
    have e : tabsK lim d = false := by
      cases d <;> first | rfl | exact absurd rfl (nt _)
    rwa [e] at q
end
/-! CUTT: the two parts of a tuple about a place. -/
/-! BT4: _law_bent: walked (k81). -/
/-- an item of a table -/
structure It8 (y : D) : Prop where
  f : flatK y = true
  g : ∃ p, Gd 200 3 y p
/-- a thing in the place of a table -/
structure Tb (x : D) : Prop where
  f2 : flat2K x = true
  a : ∀ ys, x = .tup ys → ys.length ≤ 5000 ∧ ∀ y ∈ ys, ∃ p, Gd 200 3 y p
  c : ∀ n, cb n x = true
/-- tables of the law -/
structure Tl (T : List (List Int)) : Prop where
  l : T.length ≤ 5
  n : ∀ t ∈ T, t ≠ [] ∧ t.length ≤ 1500 ∧ ∀ y ∈ t, -100000000000 ≤ y ∧ y ≤ 100000000000
def tbD (T : List (List Int)) : D := .tup (T.map tI)
section
variable {N i fl : Nat} {C : Store} {Q : D → Store → Prop} {X : Exc → Store → Prop} {P : RS → Prop} {d x : D} {xs ys : List D} {t : List Int} {T : List (List Int)} {n : Int}
theorem It8.cb (h : It8 x) (n : Nat) : CT.cb n x = true := by
  obtain ⟨p, g⟩ := h.g
  exact cb_tp (g.tp [])
theorem it_int {y : Int} (h : -999999999999 ≤ y ∧ y ≤ 999999999999) : It8 (.int y) := ⟨rfl, _, (gd_int (by omega)).mono (by decide) (by decide)⟩
theorem tb_tup (l : ys.length ≤ 5000) (h : ∀ y ∈ ys, It8 y) : Tb (.tup ys) := ⟨List.all_eq_true.mpr fun y hy => (h y hy).f, fun zs e => by
  obtain rfl : ys = zs := D.tup.inj e
  exact ⟨l, fun y hy => (h y hy).g⟩, fun n => by
  simp only [CT.cb]
  exact cbL_all fun y hy => (h y hy).cb n⟩
theorem tb_flat (f : flatK x = true) (n : ∀ ys, x ≠ .tup ys) (c : ∀ n, cb n x = true) : Tb x := ⟨by cases x <;> first | exact f | exact absurd rfl (n _), fun ys e => absurd e (n ys), c⟩
theorem th_tup (l : xs.length ≤ 20) (h : ∀ x ∈ xs, Tb x) : Th (.tup xs) := ⟨List.all_eq_true.mpr fun x hx => (h x hx).f2, fun zs e => by
  obtain rfl : xs = zs := D.tup.inj e
  exact ⟨l, fun x hx => (h x hx).a⟩, fun n => by
  simp only [CT.cb]
  exact cbL_all fun y hy => (h y hy).c n⟩
theorem th_flat (f : flatK x = true) (n : ∀ ys, x ≠ .tup ys) (c : ∀ n, cb n x = true) : Th x := ⟨by cases x <;> first | exact f | exact absurd rfl (n _), fun ys e => absurd e (n ys), c⟩
theorem tb_ints (l : t.length ≤ 5000) (h : ∀ y ∈ t, -999999999999 ≤ y ∧ y ≤ 999999999999) : Tb (tI t) := tb_tup (by rw [List.length_map]; exact l) fun y hy => by
  obtain ⟨z, hz, rfl⟩ := List.mem_map.mp hy
  exact it_int (h z hz)
theorem Tl.tb (h : Tl T) : ∀ x ∈ T.map tI, Tb x := fun x hx => by
  obtain ⟨t, ht, rfl⟩ := List.mem_map.mp hx
  obtain ⟨_, l, b⟩ := h.n t ht
  exact tb_ints (by omega) fun y hy => by have := b y hy; omega
theorem eq_nilK {w dp : Nat} (h : ∀ y ∈ ys, ∃ p, Gd w dp y p) (hd : dp + 1 ≤ 60) (C : Store) : oEqA false (.tup ys) (.tup []) C = some (.bl ys.isEmpty, C) := by
  obtain ⟨ps, g⟩ := gdl_all h
  have gd := gd_tup g (Nat.le_refl _)
  have e : toP C (.tup ys) = some (.tuple ps) := gd.tp C
  have e2 : toP C (.tup []) = some (.tuple []) := rfl
  have s1 : SeqAt.shaped (.tuple ps) = true := gd.shp hd
  have s2 : SeqAt.shaped (.tuple []) = true := rfl
  show oEqD false _ _ C = _
  simp only [oEqD, e, e2, s1, s2, Bool.and_self, if_true]
  have l := g.len
  cases ys with
  | nil =>
    have : ps = [] := List.length_eq_zero_iff.mp (by simpa using l)
    subst this
    rfl
  | cons y ys =>
    cases ps with
    | nil => simp at l
    | cons p ps => rfl
theorem Tl.gd (h : Tl T) : ∀ x ∈ T.map tI, ∃ p, Gd (1500 * 41) 1 x p := fun x hx => by
  obtain ⟨t, ht, rfl⟩ := List.mem_map.mp hx
  obtain ⟨_, l, b⟩ := h.n t ht
  obtain ⟨ps, g⟩ := gdl_all (w := 40) (dp := 0) (xs := t.map .int) fun y hy => by
    obtain ⟨z, hz, rfl⟩ := List.mem_map.mp hy
    have := b z hz
    exact ⟨_, gd_int (by omega)⟩
  exact ⟨_, gd_tup g (by rw [List.length_map]; exact l)⟩
/-- the last row: the table is put back -/
theorem bent_6 {s0 s2 s3 s6 s7 s8 : Option D} (h : Tl T) {spot : Nat} (hs : spot < T.length) (hx : Tb x) (q : ∀ d, Th d → P (.rt d C)) :
    wS (b_law_bent_6 ⟨fl, [s0, some (tbD T), s2, s3, some (.int spot), some x, s6, s7, s8]⟩ C) P := by
  unfold b_law_bent_6
  walk_at "p"
  refine ⟨_, rfl, ?_⟩
  have l := h.l
  have ml := List.length_map (f := tI) (as := T)
  have c1 := cut_len (T.map tI) none (some (spot : Int))
  have c2 := cut_len (T.map tI) (some ((spot : Int) + 1)) none
  walk_at "p"
  refine wo_of (cat_t _ _ (by simp only [List.length_cons, List.length_nil]; omega)) ?_
  walk_at "p"
  refine ⟨_, rfl, ?_⟩
  refine wo_of (cat_t _ _ (by simp only [List.length_append, List.length_cons, List.length_nil]; omega)) ?_
  refine q _ (th_tup (by simp only [List.length_append, List.length_cons, List.length_nil]; omega) fun y hy => ?_)
  rcases List.mem_append.mp hy with hy | hy
  · rcases List.mem_append.mp hy with hy | hy
    · exact h.tb y (cut_mem hy)
    · rw [List.mem_singleton.mp hy]
      exact hx
  · exact h.tb y (cut_mem hy)
theorem sok8 (s : String) : PyData.strOk (Str.ofString s) = true := by
  rw [Str.ofString_eq_toList]
  unfold PyData.strOk
  rw [Array.all_eq_true']
  intro n hn
  simp only [List.mem_toArray, List.mem_map] at hn
  obtain ⟨c, _, rfl⟩ := hn
  have h := c.valid
  simp only [UInt32.isValidChar, Nat.isValidChar] at h
  have ht : c.toNat = c.val.toNat := rfl
  rw [decide_eq_true_eq, ht]
  omega
theorem gd_st8 {s : Str} (h : PyData.strOk s = true) (l : s.cps.size ≤ 200) : Gd 200 0 (.str s) (.str s) := ⟨fun _ => rfl, h, rfl, rfl, by
  show (s.cps.toList.all fun c => decide (c < 16 ^ 8)) = true
  rw [List.all_eq_true]
  intro c hc
  unfold PyData.strOk at h
  have := (Array.all_eq_true'.mp h) c (by simpa using hc)
  have := of_decide_eq_true this
  exact decide_eq_true (by omega), by simp [PyData.depth], l⟩
theorem it_strz {z : Int} (h : -999999999999 ≤ z ∧ z ≤ 999999999999) : It8 (.str (toString z)) := by
  have g := gd_int (i := z) (by omega)
  have l : (PyData.shown (.int z)).length ≤ 40 := of_decide_eq_true g.ls
  exact ⟨rfl, _, (gd_st8 (sok8 _) (Nat.le_trans (show (toString z : Str).cps.size ≤ 40 from l) (by decide))).mono (Nat.le_refl _) (by decide)⟩
theorem it_bl (b : Bool) : It8 (.bl b) := ⟨rfl, _, (gd_bl b).mono (by decide) (by decide)⟩
theorem it_non : It8 .non := ⟨rfl, _, gd_non.mono (by decide) (by decide)⟩
theorem it_s0 : It8 (.str "0") := ⟨rfl, _, (gd_st8 (sok8 _) (by decide)).mono (Nat.le_refl _) (by decide)⟩
theorem it_t0 : It8 (.tup [.int 0]) := ⟨rfl, _, (gd_tup (n := 1) (gdl_cons (gd_int (i := 0) (by decide)) gdl_nil) (by decide)).mono (by decide) (by decide)⟩
section
variable (l : t.length ≤ 1500) (h : ∀ y ∈ t, -100000000000 ≤ y ∧ y ≤ 100000000000)
include h
theorem it_all : ∀ y ∈ t.map D.int, It8 y := fun y hy => by
  obtain ⟨z, hz, rfl⟩ := List.mem_map.mp hy
  have := h z hz
  exact it_int (by omega)
include l
/-- an item of a table exchanged -/
theorem put_item (hx : It8 x) {lo hi : Option Int} : Tb (.tup (cutD (t.map .int) none lo ++ [x] ++ cutD (t.map .int) hi none)) := by
  have ml := List.length_map (f := D.int) (as := t)
  have c1 := cut_len (t.map .int) none lo
  have c2 := cut_len (t.map .int) hi none
  have it := it_all h
  refine tb_tup (by simp only [List.length_append, List.length_cons, List.length_nil]; omega) fun y hy => ?_
  rcases List.mem_append.mp hy with hy | hy
  · rcases List.mem_append.mp hy with hy | hy
    · exact it y (cut_mem hy)
    · rw [List.mem_singleton.mp hy]
      exact hx
  · exact it y (cut_mem hy)
end
end
/-! BT5: _law_bent: walked (k81). -/
section
variable {N i fl : Nat} {C : Store} {Q : D → Store → Prop} {X : Exc → Store → Prop} {P : RS → Prop} {d x : D} {xs ys : List D} {t : List Int} {T : List (List Int)} {n : Int} {s0 s2 s3 s4 s5 s6 s7 s8 : Option D}
theorem Tl.cut (h : Tl T) {lo hi : Option Int} : Th (.tup (cutD (T.map tI) lo hi)) := by
  have c := cut_len (T.map tI) lo hi
  have l := h.l
  have ml := List.length_map (f := tI) (as := T)
  exact th_tup (by omega) fun y hy => h.tb y (cut_mem hy)
theorem bent_A (hB : Bg i C) (h : Tl T) (q : ∀ d C', Th d → To i C C' → P (.rt d C')) :
    wS (b_law_bent_1t_0 ⟨fl, [some (.cell i), some (tbD T), s2, s3, s4, s5, s6, s7, s8]⟩ C) (CT.thn b_law_bent_1t_1 fl P) := by
  have l := h.l
  have ml := List.length_map (f := tI) (as := T)
  unfold b_law_bent_1t_0
  walk_at "p"
  refine wo_listF (xs := T.map tI) rfl ?_
  walk_at "p"
  refine wo_of (cat_t (T.map tI) _ (by simp only [List.length_cons, List.length_nil]; omega)) ?_
  walk_at "p"
  refine ⟨_, rfl, ?_⟩
  walk_at "p"
  unfold b_law_bent_1t_1
  walk_at "p"
  have all : ∀ x ∈ [D.non, .lst [], .lst (T.map tI), .tup (T.map tI ++ [.tup [.int 0]]), .tup (cutD (T.map tI) none (some (-1))), .str "", .int 0, .tup [.tup []]], Th x := fun x hx => by
    simp only [List.mem_cons, List.not_mem_nil, or_false] at hx
    rcases hx with rfl | rfl | rfl | rfl | rfl | rfl | rfl | rfl
    · exact th_flat rfl (fun _ e => by cases e) fun _ => rfl
    · exact th_flat rfl (fun _ e => by cases e) fun _ => rfl
    · exact th_flat rfl (fun _ e => by cases e) fun n => by
        simp only [CT.cb]
        exact cbL_all fun y hy => (h.tb y hy).c n
    · refine th_tup (by simp only [List.length_append, List.length_cons, List.length_nil]; omega) fun y hy => ?_
      rcases List.mem_append.mp hy with hy | hy
      · exact h.tb y hy
      · rw [List.mem_singleton.mp hy]
        exact tb_tup (by decide) fun z hz => by rw [List.mem_singleton.mp hz]; exact it_int (by decide)
    · exact h.cut
    · exact th_flat rfl (fun _ e => by cases e) fun _ => rfl
    · exact th_flat rfl (fun _ e => by cases e) fun _ => rfl
    · exact th_tup (by decide) fun y hy => by
        rw [List.mem_singleton.mp hy]
        exact tb_tup (by decide) fun z hz => by cases hz
  refine one_0 hB (by simp) (by simp) (cbL_all fun y hy => (all y hy).c 0) fun d C1 hd t1 => ?_
  exact q d C1 (all d hd) t1
theorem cat_LL (a b : List D) (h : a.length + b.length ≤ 1000) (C : Store) : oCat false (.lst a) (.lst b) C = some (.lst (a ++ b), C) := by
  have hz : szN (a.length + b.length) = true := by
    simp only [szN]
    exact decide_eq_true (by omega)
  simp only [oCat, vL]
  show (if szN (a.length + b.length) = true then _ else none) = _
  rw [if_pos hz]
  rfl
theorem pow9 (C : Store) : oPow (.int 10) (.int 9) C = some (.int 1000000000, C) := by
  simp [oPow, oI, cPow]
theorem rF_mem {k : Nat} (hk : k < t.length) : rF t k ∈ t := by
  unfold rF
  rw [List.getD_eq_getElem?_getD, List.getElem?_eq_getElem hk]
  exact List.getElem_mem hk
section
variable (l : t.length ≤ 1500) (hb : ∀ y ∈ t, -100000000000 ≤ y ∧ y ≤ 100000000000) {k : Nat} (hk : k < t.length)
include l hb
theorem cut2 {lo hi : Option Int} : (cutD (t.map .int) none lo ++ [x]).length + (cutD (t.map .int) hi none).length ≤ 10000 ∧ (cutD (t.map .int) none lo).length + [x].length ≤ 10000 := by
  have ml := List.length_map (f := D.int) (as := t)
  have c1 := cut_len (t.map .int) none lo
  have c2 := cut_len (t.map .int) hi none
  simp only [List.length_append, List.length_cons, List.length_nil]
  omega
include hk
theorem bent_5 (hB : Bg i C) {menu : Int} (q : ∀ x C' s3 s7 s8, Tb x → To i C C' → P (.nx [some (.cell i), s0, some (.int menu), s3, s4, some x, some (.int k), s7, s8] C')) :
    wS (b_law_bent_5 ⟨fl, [some (.cell i), s0, some (.int menu), s3, s4, some (tI t), some (.int k), s7, s8]⟩ C) P := by
  have fm := hb _ (rF_mem hk)
  have ix : ∀ {R : D → Store → Prop} {S : Store}, R (.int (rF t k)) S → wO (oIx (tI t) (.int k) S) R := fun r => tab_ix (k := k) rfl rfl hk r
  unfold b_law_bent_5
  walk_at "p"
  refine wI_d (fun m1 => ?_) fun m1 => ?_
  · walk_at "p"
    unfold b_law_bent_5t_0
    walk_at "p"
    refine ix ?_
    walk_at "p"
    refine wo_of (pow9 _) ?_
    walk_at "p"
    refine one_0 (xs := ([1, -1, 2, 1000000000] : List Int).map .int) hB (by simp) (by simp) (cbL_ints _ _) fun d C1 hd t1 => ?_
    obtain ⟨w, hw, rfl⟩ := List.mem_map.mp hd
    have wb : -1 ≤ w ∧ w ≤ 1000000000 := by
      simp only [List.mem_cons, List.not_mem_nil, or_false] at hw
      omega
    walk_at "p"
    unfold b_law_bent_5t_1
    walk_at "p"
    refine ⟨_, rfl, ?_⟩
    walk_at "p"
    refine wo_of (cat_t _ _ (cut2 (hi := none) l hb).2) ?_
    walk_at "p"
    refine ⟨_, rfl, ?_⟩
    refine wo_of (cat_t _ _ (cut2 l hb).1) ?_
    walk_at "p"
    exact q _ _ _ _ _ (put_item l hb (it_int (by omega))) t1
  · walk_at "p"
    refine wI_d (fun m2 => ?_) fun m2 => ?_
    · walk_at "p"
      unfold b_law_bent_5et_0
      walk_at "p"
      refine wo_of (pow9 _) ?_
      walk_at "p"
      refine wo_of (pow9 _) ?_
      walk_at "p"
      refine wo_of (pow9 _) ?_
      walk_at "p"
      refine wo_of (pow9 _) ?_
      walk_at "p"
      refine one_0 (xs := ([1000000000, 1000000001, -1000000000, -1000000001] : List Int).map .int) hB (by simp) (by simp) (cbL_ints _ _) fun d C1 hd t1 => ?_
      obtain ⟨w, hw, rfl⟩ := List.mem_map.mp hd
      have wb : -1000000001 ≤ w ∧ w ≤ 1000000001 := by
        simp only [List.mem_cons, List.not_mem_nil, or_false] at hw
        omega
      walk_at "p"
      unfold b_law_bent_5et_1
      walk_at "p"
      refine ⟨_, rfl, ?_⟩
      refine lcY (l := t) (enc := D.int) (pure_C _) (fun _ => .int w) (by omega) (fun x hx => ⟨_, rfl, fun acc => ?_⟩) (fun _ _ => rfl) ?_
      · walk_at "p"
        exact ⟨rfl, rfl⟩
      walk_at "p"
      exact q _ _ _ _ _ (tb_tup (by rw [List.length_map]; omega) fun y hy => by
        obtain ⟨z, _, rfl⟩ := List.mem_map.mp hy
        exact it_int (by omega)) t1
    · walk_at "p"
      refine wI_d (fun m3 => ?_) fun m3 => ?_
      · walk_at "p"
        refine ⟨_, rfl, ?_⟩
        walk_at "p"
        refine wo_of (pow9 _) ?_
        walk_at "p"
        refine wo_of (cat_t _ _ (cut2 (hi := none) l hb).2) ?_
        walk_at "p"
        refine ⟨_, rfl, ?_⟩
        refine wo_of (cat_t _ _ (cut2 l hb).1) ?_
        walk_at "p"
        exact q _ _ _ _ _ (put_item l hb (it_int (by decide))) (To.refl hB)
      · walk_at "p"
        refine wI_d (fun m4 => ?_) fun m4 => ?_
        · walk_at "p"
          unfold b_law_bent_5eeet_0
          walk_at "p"
          refine ix ?_
          walk_at "p"
          refine wo_of (show oStrI [.int (rF t k)] C = some (.str (toString (rF t k)), C) by
            have lg : (rF t k).natAbs.log2 < 1920 := by
              have : (rF t k).natAbs < 2 ^ 40 := by omega
              have := Nat.log2_lt (n := (rF t k).natAbs) (k := 40)
              by_cases z : (rF t k).natAbs = 0
              · rw [z]; decide
              · have := (this z).mpr (by omega)
                omega
            simp only [oStrI, lg, if_true]) ?_
          walk_at "p"
          unfold b_law_bent_5eeet_1
          walk_at "p"
          refine ⟨_, rfl, ?_⟩
          walk_at "p"
          have all : ∀ x ∈ [D.bl true, .bl false, .non, .str "0", .tup [.int 0], .str (toString (rF t k))], It8 x := fun x hx => by
            simp only [List.mem_cons, List.not_mem_nil, or_false] at hx
            rcases hx with rfl | rfl | rfl | rfl | rfl | rfl
            · exact it_bl _
            · exact it_bl _
            · exact it_non
            · exact it_s0
            · exact it_t0
            · exact it_strz (by omega)
          refine one_0 hB (by simp) (by simp) (cbL_all fun y hy => (all y hy).cb 0) fun d C1 hd t1 => ?_
          have hd := all d hd
          walk_at "p"
          refine wo_of (cat_t _ _ (cut2 (hi := none) l hb).2) ?_
          walk_at "p"
          refine ⟨_, rfl, ?_⟩
          refine wo_of (cat_t _ _ (cut2 l hb).1) ?_
          walk_at "p"
          exact q _ _ _ _ _ (put_item l hb hd) t1
        · walk_at "p"
          unfold b_law_bent_5eeee_0
          walk_at "p"
          refine wo_listF (xs := t.map .int) rfl ?_
          walk_at "p"
          refine ⟨_, rfl, ?_⟩
          walk_at "p"
          refine ⟨_, rfl, ?_⟩
          walk_at "p"
          have ne : t ≠ [] := fun e => by rw [e] at hk; cases hk
          have tl : t.length ≠ 0 := fun e => ne (List.length_eq_zero_iff.mp e)
          refine wo_last (xs := t.map .int) (d := .int (rF t (t.length - 1))) rfl (by
            rw [List.length_map, List.getElem?_map, rF_getE (by omega)]
            rfl) ?_
          walk_at "p"
          have ml := List.length_map (f := D.int) (as := t)
          refine wo_of (cat_t _ _ (by simp only [List.length_cons, List.length_nil]; omega)) ?_
          walk_at "p"
          unfold b_law_bent_5eeee_1
          walk_at "p"
          refine wo_of (cat_LL [_, _, _, _] [_, _] (by simp) _) ?_
          walk_at "p"
          have it := it_all hb
          have last := hb _ (rF_mem (t := t) (k := t.length - 1) (by omega))
          have cuts : ∀ lo hi, Tb (.tup (cutD (t.map .int) lo hi)) := fun lo hi => by
            have c := cut_len (t.map .int) lo hi
            exact tb_tup (by omega) fun y hy => it y (cut_mem hy)
          have all : ∀ x ∈ [D.lst (t.map .int), .tup (cutD (t.map .int) (some 1) none), .tup (cutD (t.map .int) none (some (-1))), .tup (t.map .int ++ [.int (rF t (t.length - 1))]), .non, tI t], Tb x := fun x hx => by
            simp only [List.mem_cons, List.not_mem_nil, or_false] at hx
            rcases hx with rfl | rfl | rfl | rfl | rfl | rfl
            · exact tb_flat rfl (fun _ e => by cases e) fun n => by
                simp only [CT.cb]
                exact cbL_all fun y hy => (it y hy).cb n
            · exact cuts _ _
            · exact cuts _ _
            · refine tb_tup (by simp only [List.length_append, List.length_cons, List.length_nil]; omega) fun y hy => ?_
              rcases List.mem_append.mp hy with hy | hy
              · exact it y hy
              · rw [List.mem_singleton.mp hy]
                exact it_int (by omega)
            · exact tb_flat rfl (fun _ e => by cases e) fun _ => rfl
            · exact tb_ints (by omega) fun y hy => by have := hb y hy; omega
          refine one_0 hB (by simp) (by simp) (cbL_all fun y hy => (all y hy).c 0) fun d C1 hd t1 => ?_
          have hd := all d hd
          walk_at "p"
          exact q _ _ _ _ _ hd t1
end
theorem law_bent_w (hB : Bg i C) (h : Tl T) (q : ∀ d C', Th d → To i C C' → Q d C') : wR (m_law_bent [.cell i, tbD T] C) Q X := by
  have ml := List.length_map (f := tI) (as := T)
  have tl := h.l
  rw [e_law_bent]
  apply w_fin
  unfold b_law_bent b_law_bent_0
  walk_at "p"
  refine take_n0 hB (by decide) (by decide) fun m C1 m0 m1 t1 => ?_
  walk_at "p"
  unfold b_law_bent_1
  walk_at "p"
  have A : ∀ {P : RS → Prop} {s3 s4 s5 s6 s7 s8 : Option D}, (∀ d C', Th d → To i C C' → P (.rt d C')) → wS (b_law_bent_1t_0 ⟨C.length, [some (.cell i), some (tbD T), some (.int m), s3, s4, s5, s6, s7, s8]⟩ C1) (CT.thn b_law_bent_1t_1 C.length P) := fun r => bent_A t1.bg h fun d C' hd t2 => r d C' hd (t1.trans t2)
  refine wo_of (eq_nilK (ys := T.map tI) h.gd (by decide) _) ?_
  cases T with
  | nil =>
    refine ⟨true, rfl, wI_t ?_⟩
    walk_at "p"
    refine A fun d C' hd t => ?_
    refine thn_rt (fnl_p (hd.c _) ?_)
    rw [← t.len, List.take_length]
    exact q d C' hd t
  | cons t0 T0 =>
    refine ⟨false, rfl, wI_f ?_⟩
    walk_at "p"
    refine wI_d (fun h0 => ?_) fun h0 => ?_
    · walk_at "p"
      refine A fun d C' hd t => ?_
      refine thn_rt (fnl_p (hd.c _) ?_)
      rw [← t.len, List.take_length]
      exact q d C' hd t
    · walk_at "p"
      unfold b_law_bent_2
      walk_at "p"
      refine wo_len (xs := (t0 :: T0).map tI) rfl ?_
      walk_at "p"
      refine take_n0 t1.bg (by simp) (by rw [List.length_map]; omega) fun sp C2 p0 p1 t2 => ?_
      rw [List.length_map] at p1
      obtain ⟨spot, rfl⟩ : ∃ k : Nat, sp = (k : Int) := ⟨sp.toNat, by omega⟩
      have hs : spot < (t0 :: T0).length := by omega
      walk_at "p"
      unfold b_law_bent_3
      walk_at "p"
      have ht := h.n _ (List.getElem_mem hs)
      refine wo_ix (xs := (t0 :: T0).map tI) (k := spot) (d := tI (t0 :: T0)[spot]) rfl rfl (by rw [List.getElem?_map, List.getElem?_eq_getElem hs]; rfl) ?_
      generalize (t0 :: T0)[spot] = t at ht
      obtain ⟨tn, tl2, tb⟩ := ht
      have tpos : 0 < t.length := List.length_pos_iff.mpr tn
      walk_at "p"
      unfold b_law_bent_4
      walk_at "p"
      refine wo_len (xs := t.map .int) rfl ?_
      walk_at "p"
      refine take_n0 t2.bg (by rw [List.length_map]; omega) (by rw [List.length_map]; omega) fun at_ C3 a0 a1 t3 => ?_
      rw [List.length_map] at a1
      obtain ⟨k, rfl⟩ : ∃ k : Nat, at_ = (k : Int) := ⟨at_.toNat, by omega⟩
      walk_at "p"
      refine bent_5 tl2 tb (k := k) (by omega) t3.bg fun x C4 s3 s7 s8 hx t4 => ?_
      refine thn_nx ?_
      refine bent_6 h hs hx fun d hd => ?_
      have t := ((t1.trans t2).trans t3).trans t4
      refine fnl_p (hd.c _) ?_
      rw [← t.len, List.take_length]
      exact q d C4 hd t
end
/-! BT6: distances, squares, added; what is alike (k81). -/
def absR (lim x : Int) : List Int := (List.range (lim + 1).toNat).map fun k : Nat => (((k : Int) - x).natAbs : Int)
def sqrR (lim x : Int) : List Int := (List.range (lim + 1).toNat).map fun k : Nat => ((k : Int) - x) * ((k : Int) - x)
def addR (a b : List Int) : List Int := (a.zip b).map fun p => p.1 + p.2
def two8 (g : Int → Int → List Int) (lim wish : List Int) : List (List Int) := (lim.zip wish).map fun p => g p.1 p.2
section
variable {N i fl : Nat} {C : Store} {Q : D → Store → Prop} {X : Exc → Store → Prop} {P : RS → Prop} {f : Int × Int → Int} {d x : D} {xs ys : List D} {t : List Int} {T T2 : List (List Int)} {n : Int} {wish lim : List Int}
theorem alike_same {w dp : Nat} {p : PyData} (g : Gd w dp d p) (hw : w ≤ 300000) (hd : dp ≤ 60) (q : Q (.bl true) C) : wR (m_law_alike [d, d] C) Q X := by
  rw [e_law_alike]
  apply w_fin
  unfold b_law_alike
  walk_at "p"
  refine wo_of (show oEqA false d d C = some (.bl true, C) from by
    have := eqD_same (C := C) (g.tp C) (g.tp C) g.cl (g.shp hd) false
    cases d <;> first | exact this | (simp [oEqA]; done)) ?_
  refine ⟨_, rfl, wI_t ?_⟩
  walk_at "p"
  refine wo_of (repr_of (g.tp C) (g.ok hw hd)) ?_
  walk_at "p"
  refine wo_of (repr_of (g.tp C) (g.ok hw hd)) ?_
  walk_at "p"
  rw [decide_eq_true rfl]
  rw [List.take_length]
  exact q
/-- what may be told alike -/
structure Sml8 (T : List (List Int)) : Prop where
  l : T.length ≤ 5
  n : ∀ t ∈ T, t.length ≤ 750 ∧ ∀ y ∈ t, -999999999999 ≤ y ∧ y ≤ 999999999999
theorem Sml8.gd (h : Sml8 T) : ∃ p, Gd (5 * (750 * 41 + 1)) 2 (tbD T) p := by
  obtain ⟨ps, g⟩ := gdl_all (w := 750 * 41) (dp := 1) (xs := T.map tI) fun x hx => by
    obtain ⟨t, ht, rfl⟩ := List.mem_map.mp hx
    obtain ⟨l, b⟩ := h.n t ht
    obtain ⟨qs, g⟩ := gdl_all (w := 40) (dp := 0) (xs := t.map .int) fun y hy => by
      obtain ⟨z, hz, rfl⟩ := List.mem_map.mp hy
      have := b z hz
      exact ⟨_, gd_int (by omega)⟩
    exact ⟨_, gd_tup g (by rw [List.length_map]; exact l)⟩
  exact ⟨_, gd_tup g (by rw [List.length_map]; exact h.l)⟩
theorem alike_tb (h : Sml8 T) (q : Q (.bl true) C) : wR (m_law_alike [tbD T, tbD T] C) Q X := by
  obtain ⟨p, g⟩ := h.gd
  exact alike_same g (by decide) (by decide) q
theorem cb_tb8 (n : Nat) (T : List (List Int)) : cb n (tbD T) = true := by
  show cbL n (T.map tI) = true
  exact cb_tabs n T
theorem distances_w (h : N ≤ 5) (hf : FOk N f) (hl : Light (numsL N f)) (hb : ∀ p, 0 ≤ f p ∧ f p ≤ 1023) (hw : ∀ x ∈ wish, -10000 ≤ x ∧ x ≤ 10000) (q : Q (tbD (two8 absR (degG N f) wish)) C) : wR (m_distances [webD N f, tI wish] C) Q X := by
  have dg : ∀ x ∈ degG N f, 0 ≤ x ∧ x ≤ 10000 := fun x hx => by
    obtain ⟨v, hv⟩ := List.mem_iff_getElem?.mp hx
    have v1 := (List.getElem?_eq_some_iff.mp hv).1
    rw [degG_len] at v1
    rw [degG_at v1] at hv
    obtain rfl := Option.some.inj hv
    have a : FF.dgr N (grO f) v ≤ FF.sm N fun _ => 1023 := FF.sm_le fun u _ => (hb _).2
    rw [sm_k] at a
    exact ⟨FF.sm_pos fun u _ => (hb _).1, by omega⟩
  have ld : (degG N f).length = N := degG_len
  rw [e_distances]
  apply w_fin
  unfold b_distances b_distances_0
  walk_at "p"
  refine check_light_w h hf hl ?_
  walk_at "p"
  unfold b_distances_1
  walk_at "p"
  refine w_zipX ?_
  walk_at "p"
  refine ⟨_, rfl, degrees_w (by omega) ?_⟩
  walk_at "p"
  refine ⟨_, _, _, _, rfl, rfl, rfl, ?_⟩
  generalize degG N f = L at dg ld q ⊢
  show wR (lcR (itC (zipD (L.map .int) (wish.map .int))) _ _ _ _ _ _) _ _
  rw [zip_i2]
  refine lcY (l := L.zip wish) (enc := fun p => D.tup [.int p.1, .int p.2]) (pure_C _) (fun p => tI (absR p.1 p.2)) (by rw [List.length_zip]; omega) (fun p hp => ⟨_, rfl, fun acc => ?_⟩) (fun p _ => cb_tI _ _) ?_
  · have m := List.of_mem_zip hp
    have a := dg _ m.1
    walk_at "p"
    refine ⟨inR_of (by omega) (by omega), ?_⟩
    refine lcY (l := List.range (p.1 + 1).toNat) (enc := fun k : Nat => .int (k : Int)) (pureR0 _) (fun k : Nat => .int (((k : Int) - p.2).natAbs : Int)) (by simp; omega) (fun k hk => ⟨_, rfl, fun acc => ?_⟩) (fun _ _ => rfl) ?_
    · walk_at "p"
      exact ⟨rfl, rfl⟩
    walk_at "p"
    refine ⟨?_, rfl⟩
    unfold absR tI
    rw [List.map_map]
    rfl
  walk_at "p"
  rw [show D.tup ((L.zip wish).map fun p => tI (absR p.1 p.2)) = tbD (two8 absR L wish) by unfold tbD two8; rw [List.map_map]; rfl]
  refine fnl_p (cb_tb8 _ _) ?_
  rw [List.take_length]
  exact q
end
/-! BT7: squares, added, displeasure, wishes (k81). -/
section
variable {N i fl : Nat} {C : Store} {Q : D → Store → Prop} {X : Exc → Store → Prop} {P : RS → Prop} {f : Int × Int → Int} {d x : D} {xs ys : List D} {t : List Int} {T T2 : List (List Int)} {n : Int} {wish lim r : List Int}
theorem deg_rg (h : N ≤ 5) (hb : ∀ p, 0 ≤ f p ∧ f p ≤ 1023) : ∀ x ∈ degG N f, 0 ≤ x ∧ x ≤ 10000 := fun x hx => by
  obtain ⟨v, hv⟩ := List.mem_iff_getElem?.mp hx
  have v1 := (List.getElem?_eq_some_iff.mp hv).1
  rw [degG_len] at v1
  rw [degG_at v1] at hv
  obtain rfl := Option.some.inj hv
  have a : FF.dgr N (grO f) v ≤ FF.sm N fun _ => 1023 := FF.sm_le fun u _ => (hb _).2
  rw [sm_k] at a
  exact ⟨FF.sm_pos fun u _ => (hb _).1, by omega⟩
theorem mul8 {a b : Int} (h : -1000000 ≤ a ∧ a ≤ 1000000) : cMul a b = true := by
  have e1 : decide (-(2 ^ 64) < a) = true := decide_eq_true (by omega)
  have e2 : decide (a < 2 ^ 64) = true := decide_eq_true (by omega)
  unfold cMul
  rw [e1, e2]
  rfl
theorem squares_w (h : N ≤ 5) (hf : FOk N f) (hl : Light (numsL N f)) (hb : ∀ p, 0 ≤ f p ∧ f p ≤ 1023) (hw : ∀ x ∈ wish, -10000 ≤ x ∧ x ≤ 10000) (q : Q (tbD (two8 sqrR (degG N f) wish)) C) : wR (m_squares [webD N f, tI wish] C) Q X := by
  have dg := deg_rg h hb
  have ld : (degG N f).length = N := degG_len
  rw [e_squares]
  apply w_fin
  unfold b_squares b_squares_0
  walk_at "p"
  refine check_light_w h hf hl ?_
  walk_at "p"
  unfold b_squares_1
  walk_at "p"
  refine w_zipX ?_
  walk_at "p"
  refine ⟨_, rfl, degrees_w (by omega) ?_⟩
  walk_at "p"
  refine ⟨_, _, _, _, rfl, rfl, rfl, ?_⟩
  generalize degG N f = L at dg ld q ⊢
  show wR (lcR (itC (zipD (L.map .int) (wish.map .int))) _ _ _ _ _ _) _ _
  rw [zip_i2]
  refine lcY (l := L.zip wish) (enc := fun p => D.tup [.int p.1, .int p.2]) (pure_C _) (fun p => tI (sqrR p.1 p.2)) (by rw [List.length_zip]; omega) (fun p hp => ⟨_, rfl, fun acc => ?_⟩) (fun p _ => cb_tI _ _) ?_
  · have m := List.of_mem_zip hp
    have a := dg _ m.1
    have wb := hw _ m.2
    walk_at "p"
    refine ⟨inR_of (by omega) (by omega), ?_⟩
    refine lcY (l := List.range (p.1 + 1).toNat) (enc := fun k : Nat => .int (k : Int)) (pureR0 _) (fun k : Nat => .int (((k : Int) - p.2) * ((k : Int) - p.2))) (by simp; omega) (fun k hk => ⟨_, rfl, fun acc => ?_⟩) (fun _ _ => rfl) ?_
    · have hk := List.mem_range.mp hk
      walk_at "p"
      refine wo_mul (mul8 (by omega)) ?_
      exact ⟨rfl, rfl⟩
    walk_at "p"
    refine ⟨?_, rfl⟩
    unfold sqrR tI
    rw [List.map_map]
    rfl
  walk_at "p"
  rw [show D.tup ((L.zip wish).map fun p => tI (sqrR p.1 p.2)) = tbD (two8 sqrR L wish) by unfold tbD two8; rw [List.map_map]; rfl]
  refine fnl_p (cb_tb8 _ _) ?_
  rw [List.take_length]
  exact q
theorem zip_tt (A B : List (List Int)) : zipD (A.map tI) (B.map tI) = (A.zip B).map fun p => D.tup [tI p.1, tI p.2] := by
  unfold zipD
  rw [List.zip_map, List.map_map]
  rfl
theorem added_w (h1 : T.length ≤ 100) (h3 : ∀ t ∈ T, t.length ≤ 10000) (q : Q (tbD ((T.zip T2).map fun p => addR p.1 p.2)) C) : wR (m_added [tbD T, tbD T2] C) Q X := by
  rw [e_added]
  apply w_fin
  unfold b_added
  walk_at "p"
  refine w_zipX ?_
  walk_at "p"
  refine ⟨_, _, _, _, rfl, rfl, rfl, ?_⟩
  show wR (lcR (itC (zipD (T.map tI) (T2.map tI))) _ _ _ _ _ _) _ _
  rw [zip_tt]
  refine lcY (l := T.zip T2) (enc := fun p => D.tup [tI p.1, tI p.2]) (pure_C _) (fun p => tI (addR p.1 p.2)) (by rw [List.length_zip]; omega) (fun p hp => ⟨_, rfl, fun acc => ?_⟩) (fun p _ => cb_tI _ _) ?_
  · have m := List.of_mem_zip hp
    have a := h3 _ m.1
    walk_at "p"
    refine w_zipX ?_
    walk_at "p"
    refine ⟨_, _, _, _, rfl, rfl, rfl, ?_⟩
    show wR (lcR (itC (zipD (p.1.map .int) (p.2.map .int))) _ _ _ _ _ _) _ _
    rw [zip_i2]
    refine lcY (l := p.1.zip p.2) (enc := fun p => D.tup [.int p.1, .int p.2]) (pure_C _) (fun p => .int (p.1 + p.2)) (by rw [List.length_zip]; omega) (fun p hp => ⟨_, rfl, fun acc => ?_⟩) (fun _ _ => rfl) ?_
    · walk_at "p"
      exact ⟨rfl, rfl⟩
    walk_at "p"
    refine ⟨?_, rfl⟩
    unfold addR tI
    rw [List.map_map]
    rfl
  walk_at "p"
  rw [show D.tup ((T.zip T2).map fun p => tI (addR p.1 p.2)) = tbD ((T.zip T2).map fun p => addR p.1 p.2) by unfold tbD; rw [List.map_map]; rfl]
  refine fnl_p (cb_tb8 _ _) ?_
  rw [List.take_length]
  exact q
/-- a row that the tables know -/
def Row8 (T : List (List Int)) (r : List Int) : Prop := ∀ p ∈ T.zip r, 0 ≤ p.2 ∧ p.2 < p.1.length
theorem zip_ti (A : List (List Int)) (r : List Int) : zipD (A.map tI) (r.map .int) = (A.zip r).map fun p => D.tup [tI p.1, .int p.2] := by
  unfold zipD
  rw [List.zip_map, List.map_map]
  rfl
theorem cst8 (T : List (List Int)) (r : List Int) (S : Store) : oSum [.lst ((T.zip r).map fun p => D.int (rF p.1 p.2.toNat))] S = some (.int (cst T r), S) := by
  have e : ((T.zip r).map fun p => D.int (rF p.1 p.2.toNat)) = ((T.zip r).map fun p => rF p.1 p.2.toNat).map .int := by rw [List.map_map]; rfl
  rw [e]
  exact sum_ints _ _
theorem ix8 {p : List Int × Int} (h : 0 ≤ p.2 ∧ p.2 < p.1.length) {R : D → Store → Prop} {S : Store} (r : R (.int (rF p.1 p.2.toNat)) S) : wO (oIx (tI p.1) (.int p.2) S) R := by
  refine tab_ix (k := p.2.toNat) rfl (by omega) (by omega) r
theorem displeasure_8 (hl : T.length ≤ 100) (hr : Row8 T r) (q : Q (.int (cst T r)) C) : wR (m_displeasure [tbD T, tI r] C) Q X := by
  rw [e_displeasure]
  apply w_fin
  unfold b_displeasure
  walk_at "p"
  refine w_zipX ?_
  walk_at "p"
  refine ⟨_, _, _, _, rfl, rfl, rfl, ?_⟩
  show wR (lcR (itC (zipD (T.map tI) (r.map .int))) _ _ _ _ _ _) _ _
  rw [zip_ti]
  refine lcY (l := T.zip r) (enc := fun p => D.tup [tI p.1, .int p.2]) (pure_C _) (fun p => .int (rF p.1 p.2.toNat)) (by rw [List.length_zip]; omega) (fun p hp => ⟨_, rfl, fun acc => ?_⟩) (fun _ _ => rfl) ?_
  · walk_at "p"
    refine ix8 (hr p hp) ?_
    exact ⟨rfl, rfl⟩
  walk_at "p"
  refine wo_of (cst8 _ _ _) ?_
  walk_at "p"
  rw [List.take_length]
  exact q
theorem law_cost_8 (hl : T.length ≤ 100) (hr : Row8 T r) (q : Q (.int (cst T r)) C) : wR (m_law_cost [tbD T, tI r] C) Q X := by
  rw [e_law_cost]
  apply w_fin
  unfold b_law_cost
  walk_at "p"
  refine w_zipX ?_
  walk_at "p"
  refine ⟨_, _, _, _, rfl, rfl, rfl, ?_⟩
  show wR (lcR (itC (zipD (T.map tI) (r.map .int))) _ _ _ _ _ _) _ _
  rw [zip_ti]
  refine lcY (l := T.zip r) (enc := fun p => D.tup [tI p.1, .int p.2]) (pure_C _) (fun p => .int (rF p.1 p.2.toNat)) (by rw [List.length_zip]; omega) (fun p hp => ⟨_, rfl, fun acc => ?_⟩) (fun _ _ => rfl) ?_
  · walk_at "p"
    refine ix8 (hr p hp) ?_
    exact ⟨rfl, rfl⟩
  walk_at "p"
  refine wo_of (cst8 _ _ _) ?_
  walk_at "p"
  rw [List.take_length]
  exact q
theorem law_wish_w (hB : Bg i C) (hl : lim.length ≤ 10) (hb : ∀ x ∈ lim, 0 ≤ x ∧ x ≤ 10000) (q : ∀ wish C', wish.length = lim.length → (∀ x ∈ wish, -10000 ≤ x ∧ x ≤ 10000) → To i C C' → Q (tI wish) C') : wR (m_law_wish [.cell i, .lst (lim.map .int)] C) Q X := by
  rw [e_law_wish]
  apply w_fin
  unfold b_law_wish b_law_wish_0
  walk_at "p"
  unfold b_law_wish_1
  walk_at "p"
  refine loopM (l := lim) (enc := D.int) (pure_C _) (fun j sl S => ∃ wish C' s3 s4, S = C' ++ [some (.lst (wish.map .int))] ∧ To i C C' ∧ wish.length = j ∧ (∀ x ∈ wish, -10000 ≤ x ∧ x ≤ 10000) ∧ sl = [some (.cell i), some (.lst (lim.map .int)), some (.cell C.length), s3, s4]) ⟨[], C, none, none, rfl, To.refl hB, rfl, by simp, rfl⟩ ?_ ?_
  · rintro j x sl S hj ⟨wish, C1, s3, s4, rfl, t1, wl, wb, rfl⟩
    have hx := hb x (List.mem_of_getElem? hj)
    have j1 := (List.getElem?_eq_some_iff.mp hj).1
    refine ⟨_, rfl, ?_⟩
    walk_at "w"
    unfold b_law_wish_1b_0
    walk_at "p"
    refine take_L t1.bg (by decide) (by decide) _ fun r C2 r0 r1 t2 => ?_
    walk_at "p"
    unfold b_law_wish_1b_1
    walk_at "p"
    have t12 := t1.trans t2
    refine w_append ?_
    walk_at "p"
    refine ⟨by simp only [vL, ← t12.len, app_at]; rfl, ?_⟩
    walk_at "p"
    refine one_L (xs := ([0, 1, 2, x, -1, 1000, -1000, r - 1000] : List Int).map .int) t2.bg (by simp) (by simp) (cbL_ints _ _) _ fun d C3 hd t3 => ?_
    obtain ⟨w, hw, rfl⟩ := List.mem_map.mp hd
    have hwb : -10000 ≤ w ∧ w ≤ 10000 := by
      simp only [List.mem_cons, List.not_mem_nil, or_false] at hw
      omega
    have t13 := t12.trans t3
    refine ⟨C.length, wish.map .int, by simp only [cL, ← t13.len, app_at], Nat.le_refl _, by rw [List.length_map]; omega, ?_⟩
    refine lp_nx ⟨wish ++ [w], C3, _, _, ?_, t13, by simp [wl], fun y hy => ?_, rfl⟩
    · rw [← t13.len, app_set, List.map_append]
      rfl
    · rcases List.mem_append.mp hy with h | h
      · exact wb y h
      · rw [List.mem_singleton.mp h]
        exact hwb
  · rintro sl S ⟨wish, C1, s3, s4, rfl, t1, wl, wb, rfl⟩
    walk_at "p"
    unfold b_law_wish_2
    walk_at "p"
    refine wo_tupC (xs := wish.map .int) (by rw [← t1.len, app_at]) ?_
    refine fnl_p (cb_tI _ _) ?_
    rw [take_app t1.len]
    exact q wish C1 wl wb t1
end
/-! TRYN: try with one named clause. -/
section
variable {C : Store} {Q : D → Store → Prop} {X : Exc → Store → Prop} {F : Fr} {P : RS → Prop}
theorem w_tryN {v : Nat} {cs ds : List Nat} {mb mh : MS} (h : wS (mb F C) (fun r => match r with
      | .xc e sl C' => e.c ∈ cs ∧ wS (mh ⟨F.fl, sl.set v (some (.exn e.c e.fs))⟩ C') (fun r => ∃ d, r = .rt d C' ∧ nx d = true ∧ P (.rt d C'))
      | r => P r)) : wS (sTry v cs ds mb mh F C) P := by
  refine ⟨?_⟩
  have h := h.h
  unfold sTry
  cases em : mb F C with
  | xc e sl C' =>
    rw [em] at h
    simp only at h ⊢
    obtain ⟨a, g⟩ := h
    obtain ⟨d, er, nd, p⟩ := g.h
    rw [if_pos a, er]
    simp only [nd, and_self, if_true]
    exact p
  | _ => rw [em] at h; exact h
end
/-! BT8: doors (k81). -/
section
variable {N i fl : Nat} {C : Store} {Q : D → Store → Prop} {X : Exc → Store → Prop} {P : RS → Prop} {f : Int × Int → Int} {d x : D} {xs ys : List D} {t : List Int} {T T2 : List (List Int)} {n : Int} {wish lim r : List Int} {L : List T3}
theorem size_big8 (hN : 6 ≤ N) (q : X ⟨1, [.int 5]⟩ C) : wR (m_check_size [webD N f] C) Q X := by
  rw [e_check_size]
  apply w_fin
  unfold b_check_size
  walk_at "p"
  try (refine wo_fld (d := .int N) rfl ?_; walk_at "p")
  refine wI_dt (by omega) ?_
  walk_at "p"
  refine ⟨rfl, ?_⟩
  refine fnl_xc rfl ?_
  rw [List.take_length]
  exact q
theorem light_big (hN : 6 ≤ N) (q : X ⟨1, [.int 5]⟩ C) : wR (m_check_light [webD N f] C) Q X := by
  rw [e_check_light]
  apply w_fin
  unfold b_check_light b_check_light_0
  walk_at "p"
  refine size_big8 hN ?_
  walk_at "p"
  refine fnl_xc rfl ?_
  rw [List.take_length]
  exact q
theorem light_heavy (h : N ≤ 5) (hf : FOk N f) (hp : 1024 < prodN (numsL N f)) (q : X ⟨1, [.int 1024]⟩ C) : wR (m_check_light [webD N f] C) Q X := by
  rw [e_check_light]
  apply w_fin
  unfold b_check_light b_check_light_0
  walk_at "p"
  refine check_size_w h ?_
  walk_at "p"
  unfold b_check_light_1
  walk_at "p"
  unfold b_check_light_2
  walk_at "p"
  refine numbers_w (by omega) ?_
  refine ⟨_, rfl, ?_⟩
  refine loopM (l := numsL N f) (enc := .int) (pure_C _) (fun j sl S => S = C ∧ ∃ t2, sl = [some (webD N f), some (.int (prodN ((numsL N f).take j))), t2]) ⟨rfl, none, rfl⟩ ?_ ?_
  · rintro j n sl S hj ⟨rfl, t2, rfl⟩
    refine ⟨_, rfl, ?_⟩
    unfold b_check_light_2b_0
    have n0 : 0 ≤ n ∧ n ≤ 1000000000 := by
      obtain ⟨p, _, rfl⟩ := List.mem_map.mp (List.mem_of_getElem? hj)
      exact hf.b p
    refine w_augM (a := prodN ((numsL N f).take j)) rfl ?_
    walk_at "p"
    have cm : cMul (prodN ((numsL N f).take j)) (n + 1) = true := by
      simp only [cMul, Bool.or_eq_true, Bool.and_eq_true, decide_eq_true_eq]
      right
      omega
    refine ⟨cm, ?_⟩
    rw [← prod_snoc, ← take_nm hj]
    exact lp_nx ⟨rfl, _, rfl⟩
  · rintro sl S ⟨rfl, t2, rfl⟩
    rw [List.take_length]
    walk_at "p"
    unfold b_check_light_3
    walk_at "p"
    refine wI_dt (by omega) ?_
    walk_at "p"
    refine ⟨rfl, ?_⟩
    refine fnl_xc rfl ?_
    rw [List.take_length]
    exact q
/-- what check_light raises, distances and squares raise -/
theorem dist_raise {x : D} {e : Exc} (he : cbL C.length e.fs = true) (h : wR (m_check_light [webD N f] C) (fun _ _ => False) (fun e' C' => e' = e ∧ C' = C)) (q : X e C) : wR (m_distances [webD N f, x] C) Q X := by
  rw [e_distances]
  apply w_fin
  unfold b_distances b_distances_0
  walk_at "p"
  refine w_mono h (fun _ _ z => z.elim) fun e' C' z => ?_
  obtain ⟨rfl, rfl⟩ := z
  walk_at "p"
  refine fnl_xc he ?_
  rw [List.take_length]
  exact q
theorem sqr_raise {x : D} {e : Exc} (he : cbL C.length e.fs = true) (h : wR (m_check_light [webD N f] C) (fun _ _ => False) (fun e' C' => e' = e ∧ C' = C)) (q : X e C) : wR (m_squares [webD N f, x] C) Q X := by
  rw [e_squares]
  apply w_fin
  unfold b_squares b_squares_0
  walk_at "p"
  refine w_mono h (fun _ _ z => z.elim) fun e' C' z => ?_
  obtain ⟨rfl, rfl⟩ := z
  walk_at "p"
  refine fnl_xc he ?_
  rw [List.take_length]
  exact q
theorem rep_0 (n : Nat) (h1 : 1 ≤ n) (h2 : n ≤ 10000) (S : Store) : oRepU (.tup [.int 0]) (.int n) S = some (tI (List.replicate n 0), S) := by
  have e : ∀ n : Nat, (List.replicate n [D.int 0]).flatten = (List.replicate n (0 : Int)).map .int := fun n => by
    induction n with
    | zero => rfl
    | succ n ih =>
      rw [List.replicate_succ, List.flatten_cons, ih, List.replicate_succ]
      rfl
  by_cases k : n = 1
  · subst k
    rfl
  · have a1 : decide (2 ≤ (n : Int)) = true := decide_eq_true (by omega)
    have a2 : decide ((n : Int) ≤ 10000) = true := decide_eq_true (by omega)
    have eN : (n : Int).toNat = n := by omega
    show (if (n : Int) = 1 then some (D.tup [.int 0], S) else if (decide (2 ≤ (n : Int)) && (decide ((n : Int) ≤ 10000) && (true && true))) = true then some (D.tup (List.replicate (n : Int).toNat [D.int 0]).flatten, S) else none) = _
    rw [if_neg (by omega), a1, a2, eN, e]
    rfl
theorem door_raise {b : Bool} {n : Int} (hF : Fits N L) (h1 : 1 ≤ N) (h : ∀ S, wR (m_check_light [webD N (fL L)] S) (fun _ _ => False) (fun e' C' => e' = ⟨1, [.int n]⟩ ∧ C' = S)) (q : Q (.tup [.str "TooMany", .int n]) C) : wR (m_law_door [.bl b, .int N, .lst (L.map triD)] C) Q X := by
  have hn := hF.n
  rw [e_law_door]
  apply w_fin
  unfold b_law_door b_law_door_0
  walk_at "p"
  refine w_tryN ?_
  unfold b_law_door_0t_
  walk_at "p"
  have tail : wS (b_law_door_0x_ ⟨C.length, [some (.bl b), some (.int N), some (.lst (L.map triD)), none, some (.exn 1 [.int n])]⟩ C) (fun r => ∃ d, r = .rt d C ∧ nx d = true ∧ CT.thn b_law_door_1 C.length (fnl C.length Q X) (.rt d C)) := by
    unfold b_law_door_0x_
    walk_at "p"
    refine wo_of (show oXf 1 0 (.exn 1 [.int n]) C = some (.int n, C) from rfl) ?_
    walk_at "p"
    refine ⟨_, rfl, rfl, ?_⟩
    refine thn_rt (fnl_p rfl ?_)
    rw [List.take_length]
    exact q
  cases b with
  | true =>
    walk_at "p"
    refine w_mkT ?_
    walk_at "p"
    refine w_of (make_ok (L := L) (d := .lst (L.map triD)) (ds := [.int N, .lst (L.map triD)]) hF (.inl rfl) rfl rfl) ?_
    walk_at "p"
    refine wo_of (rep_0 N h1 (by omega) _) ?_
    walk_at "p"
    refine dist_raise rfl (h _) ?_
    exact ⟨List.mem_singleton.mpr rfl, tail⟩
  | false =>
    walk_at "p"
    refine w_mkT ?_
    walk_at "p"
    refine w_of (make_ok (L := L) (d := .lst (L.map triD)) (ds := [.int N, .lst (L.map triD)]) hF (.inl rfl) rfl rfl) ?_
    walk_at "p"
    refine wo_of (rep_0 N h1 (by omega) _) ?_
    walk_at "p"
    refine sqr_raise rfl (h _) ?_
    exact ⟨List.mem_singleton.mpr rfl, tail⟩
theorem door_let {b : Bool} (hN : N ≤ 5) (hF : Fits N L) (h1 : 1 ≤ N) (hf : FOk N (fL L)) (hl : Light (numsL N (fL L))) (hb : ∀ p, 0 ≤ fL L p ∧ fL L p ≤ 1023) (q : Q (.tup [.str "let", .int N]) C) : wR (m_law_door [.bl b, .int N, .lst (L.map triD)] C) Q X := by
  have wz : ∀ x ∈ List.replicate N (0 : Int), -10000 ≤ x ∧ x ≤ 10000 := fun x hx => by rw [(List.mem_replicate.mp hx).2]; decide
  have ln : ∀ g, (two8 g (degG N (fL L)) (List.replicate N 0)).length = N := fun g => by
    unfold two8
    rw [List.length_map, List.length_zip, degG_len, List.length_replicate]
    omega
  rw [e_law_door]
  apply w_fin
  unfold b_law_door b_law_door_0
  walk_at "p"
  refine w_tryN ?_
  unfold b_law_door_0t_
  walk_at "p"
  have tail : ∀ T : List (List Int), T.length = N → CT.thn b_law_door_1 C.length (fnl C.length Q X) (.nx [some (.bl b), some (.int N), some (.lst (L.map triD)), some (tbD T), none] C) := fun T hT => by
    unfold b_law_door_1
    walk_at "p"
    refine wo_len (xs := T.map tI) rfl ?_
    rw [List.length_map, hT]
    walk_at "p"
    refine fnl_p rfl ?_
    rw [List.take_length]
    exact q
  cases b with
  | true =>
    walk_at "p"
    refine w_mkT ?_
    walk_at "p"
    refine w_of (make_ok (L := L) (d := .lst (L.map triD)) (ds := [.int N, .lst (L.map triD)]) hF (.inl rfl) rfl rfl) ?_
    walk_at "p"
    refine wo_of (rep_0 N h1 (by omega) _) ?_
    walk_at "p"
    refine distances_w hN hf hl hb wz ?_
    walk_at "p"
    exact tail _ (ln _)
  | false =>
    walk_at "p"
    refine w_mkT ?_
    walk_at "p"
    refine w_of (make_ok (L := L) (d := .lst (L.map triD)) (ds := [.int N, .lst (L.map triD)]) hF (.inl rfl) rfl rfl) ?_
    walk_at "p"
    refine wo_of (rep_0 N h1 (by omega) _) ?_
    walk_at "p"
    refine squares_w hN hf hl hb wz ?_
    walk_at "p"
    exact tail _ (ln _)
end
/-! LSTp: light ties (plain law). -/
section
variable {N : Nat} {L : List T3} {t : T3} {p : Int × Int} {zs : List (Int × Int)} {cap left n : Int} {j : Nat}
theorem fL_is (L : List T3) (p : Int × Int) : fL L p = tot L p := dg0_sums L p
theorem fL_app (L : List T3) (t : T3) (p : Int × Int) : fL (L ++ [t]) p = fL L p + if pr t = p then t.2.2 else 0 := by
  rw [fL_is, fL_is]
  unfold tot
  rw [List.map_append, List.sum_append]
  simp
theorem fL_no : ∀ {L : List T3}, (∀ s ∈ L, pr s ≠ p) → fL L p = 0 := by
  intro L h
  rw [fL_is]
  induction L with
  | nil => rfl
  | cons s L ih =>
    rw [tot_cons, ih fun x hx => h x (List.mem_cons_of_mem _ hx), if_neg (h s (List.mem_cons_self ..))]
    rfl
theorem fL_nn {L : List T3} (h : ∀ s ∈ L, 0 ≤ s.2.2) (p : Int × Int) : 0 ≤ fL L p := by
  rw [fL_is]
  induction L with
  | nil => exact Int.le_refl _
  | cons s L ih =>
    rw [tot_cons]
    have a := h s (List.mem_cons_self ..)
    have b := ih fun x hx => h x (List.mem_cons_of_mem _ hx)
    split <;> omega
theorem fold_mul : ∀ (l : List Int) (a : Int), l.foldl (fun a n => a * (n + 1)) a = a * prodN l
  | [], a => by simp [prodN]
  | n :: l, a => by
    show l.foldl (fun a n => a * (n + 1)) (a * (n + 1)) = a * l.foldl (fun a n => a * (n + 1)) (1 * (n + 1))
    rw [fold_mul l (a * (n + 1)), fold_mul l (1 * (n + 1)), Int.one_mul, Int.mul_assoc]
theorem prod_cons (n : Int) (l : List Int) : prodN (n :: l) = (n + 1) * prodN l := by
  show l.foldl (fun a n => a * (n + 1)) (1 * (n + 1)) = _
  rw [fold_mul, Int.one_mul]
theorem prod_perm {l m : List Int} (h : l.Perm m) : prodN l = prodN m := by
  induction h with
  | nil => rfl
  | cons x _ ih => rw [prod_cons, prod_cons, ih]
  | swap x y l => rw [prod_cons, prod_cons, prod_cons, prod_cons, ← Int.mul_assoc, ← Int.mul_assoc, Int.mul_comm (y + 1)]
  | trans _ _ i1 i2 => exact i1.trans i2
theorem prod_each {l : List Int} (h : ∀ n ∈ l, 0 ≤ n) : ∀ n ∈ l, n + 1 ≤ prodN l := by
  induction l using snoc_ind with
  | h0 => simp
  | h1 l x ih =>
    intro n hn
    have k := prod_le h
    rcases List.mem_append.mp hn with hn | hn
    · have := ih (fun y hy => h y (List.mem_append_left _ hy)) n hn
      omega
    · rw [List.mem_singleton.mp hn]
      exact k.2
/-- ties that leave room for so many choices -/
structure LI (N : Nat) (cap : Int) (zs : List (Int × Int)) (j : Nat) (L : List T3) (left : Int) : Prop where
  v : ∀ t ∈ L, ValidT N t ∧ 0 < t.2.2
  m : ∀ t ∈ L, pr t ∈ zs.take j
  p : prodN ((zs.take j).map (fL L)) * left ≤ cap
  l : 1 ≤ left
  n : L.length ≤ j
theorem li_0 (h : 1 ≤ cap) : LI N cap zs 0 [] cap := ⟨by simp, by simp, by simp [prodN], h, Nat.le_refl _⟩
theorem pairs_up (hp : p ∈ pairsL N) : 0 ≤ p.1 ∧ p.1 < p.2 ∧ p.2 < N := by
  obtain ⟨u, v, h1, h2, rfl⟩ := mem_pairs.mp hp
  simp only
  omega
theorem not_take {α : Type} {zs : List α} {j : Nat} {p : α} (nd : zs.Nodup) (hj : zs[j]? = some p) : p ∉ zs.take j := by
  have h := nd.sublist (List.take_sublist (j + 1) zs)
  rw [take_s1 hj, List.nodup_append] at h
  exact fun hm => h.2.2 p hm p (List.mem_singleton.mpr rfl) rfl
theorem li_new (h : LI N cap zs j L left) (nd : zs.Nodup) (hj : zs[j]? = some p) : ∀ s ∈ L, pr s ≠ p := fun s hs e => not_take nd hj (e ▸ h.m s hs)
theorem li_map (h : LI N cap zs j L left) (nd : zs.Nodup) (hj : zs[j]? = some p) (e : pr t = p) : (zs.take (j + 1)).map (fL (L ++ [t])) = (zs.take j).map (fL L) ++ [t.2.2] := by
  rw [take_s1 hj, List.map_append, List.map_cons, List.map_nil]
  congr 1
  · refine List.map_congr_left fun q hq => ?_
    rw [fL_app, if_neg, Int.add_zero]
    exact fun z => not_take nd hj (e ▸ z ▸ hq)
  · rw [fL_app, if_pos e, fL_no (li_new h nd hj), Int.zero_add]
theorem li_add (h : LI N cap zs j L left) (nd : zs.Nodup) (hj : zs[j]? = some p) (e : pr t = p) (ht : ValidT N t) (h0 : 0 < t.2.2) (h1 : t.2.2 ≤ left - 1) : LI N cap zs (j + 1) (L ++ [t]) (left / (t.2.2 + 1)) := by
  refine ⟨fun s hs => ?_, fun s hs => ?_, ?_, ?_, by rw [List.length_append]; have := h.n; simp; omega⟩
  · rcases List.mem_append.mp hs with hs | hs
    · exact h.v s hs
    · rw [List.mem_singleton.mp hs]
      exact ⟨ht, h0⟩
  · rw [take_s1 hj, List.mem_append]
    rcases List.mem_append.mp hs with hs | hs
    · exact .inl (h.m s hs)
    · rw [List.mem_singleton.mp hs, e]
      exact .inr (List.mem_singleton.mpr rfl)
  · rw [li_map h nd hj e, prod_snoc, Int.mul_assoc]
    have nn : ∀ x ∈ (zs.take j).map (fL L), 0 ≤ x := fun x hx => by
      obtain ⟨q, _, rfl⟩ := List.mem_map.mp hx
      exact fL_nn (fun s hs => Int.le_of_lt (h.v s hs).2) q
    have pp := prod_pos nn
    have d1 : (t.2.2 + 1) * (left / (t.2.2 + 1)) ≤ left := Int.mul_ediv_self_le (by omega)
    have d2 := Int.mul_le_mul_of_nonneg_left d1 (show 0 ≤ prodN ((zs.take j).map (fL L)) by omega)
    have := h.p
    omega
  · have : (1 : Int) * (t.2.2 + 1) ≤ left := by omega
    exact (Int.le_ediv_iff_mul_le (by omega)).mpr this
theorem li_skip (h : LI N cap zs j L left) (nd : zs.Nodup) (hj : zs[j]? = some p) : LI N cap zs (j + 1) L left := by
  refine ⟨h.v, fun s hs => ?_, ?_, h.l, Nat.le_succ_of_le h.n⟩
  · rw [take_s1 hj]
    exact List.mem_append_left _ (h.m s hs)
  · rw [take_s1 hj, List.map_append, List.map_cons, List.map_nil, prod_snoc, fL_no (li_new h nd hj)]
    have := h.p
    rw [Int.zero_add, Int.mul_one]
    exact this
/-- ties of a light web -/
structure LiT (N : Nat) (cap : Int) (L : List T3) : Prop where
  v : ∀ t ∈ L, ValidT N t ∧ 0 < t.2.2
  p : prodN (numsL N (fL L)) ≤ cap
  l : L.length ≤ N * N
theorem lt_of (h : LI N cap zs zs.length L left) (pm : zs.Perm (pairsL N)) : LiT N cap L := by
  have e : prodN (numsL N (fL L)) = prodN (zs.map (fL L)) := (prod_perm (pm.map (fL L))).symm
  have nn : ∀ x ∈ zs.map (fL L), 0 ≤ x := fun x hx => by
    obtain ⟨q, _, rfl⟩ := List.mem_map.mp hx
    exact fL_nn (fun s hs => Int.le_of_lt (h.v s hs).2) q
  have pp := prod_pos nn
  have hp := h.p
  have hl := h.l
  rw [List.take_length] at hp
  have : prodN (zs.map (fL L)) * 1 ≤ prodN (zs.map (fL L)) * left := Int.mul_le_mul_of_nonneg_left hl (by omega)
  have pl := pairs_lenL (N := N)
  have := pm.length_eq
  exact ⟨h.v, by rw [e]; omega, by have := h.n; omega⟩
theorem LiT.nn (h : LiT N cap L) : ∀ p, 0 ≤ fL L p := fL_nn fun s hs => Int.le_of_lt (h.v s hs).2
theorem LiT.out (h : LiT N cap L) (hp : p ∉ pairsL N) : fL L p = 0 := fL_no fun s hs e => by
  obtain ⟨⟨v1, v2, v3, v4, v5, v6, v7⟩, _⟩ := h.v s hs
  refine hp (e ▸ mem_pairs.mpr ⟨(min s.1 s.2.1).toNat, (max s.1 s.2.1).toNat, by omega, by omega, ?_⟩)
  show (min s.1 s.2.1, max s.1 s.2.1) = _
  rw [show (((min s.1 s.2.1).toNat : Nat) : Int) = min s.1 s.2.1 by omega, show (((max s.1 s.2.1).toNat : Nat) : Int) = max s.1 s.2.1 by omega]
theorem LiT.le (h : LiT N cap L) (c1 : 1 ≤ cap) (p : Int × Int) : fL L p ≤ cap - 1 := by
  by_cases hp : p ∈ pairsL N
  · have nn : ∀ x ∈ numsL N (fL L), 0 ≤ x := fun x hx => by
      obtain ⟨q, _, rfl⟩ := List.mem_map.mp hx
      exact h.nn q
    have := prod_each nn (fL L p) (List.mem_map.mpr ⟨p, hp, rfl⟩)
    have := h.p
    omega
  · rw [h.out hp]
    omega
theorem LiT.fok (h : LiT N cap L) (hN : N ≤ 60) (c1 : 1 ≤ cap) (c2 : cap ≤ 1000000000) : FOk N (fL L) := ⟨hN, fun p => ⟨h.nn p, by have := h.le c1 p; omega⟩, fun p hp => h.out hp⟩
theorem LiT.fits (h : LiT N cap L) (hN : N ≤ 60) (c1 : 1 ≤ cap) (c2 : cap ≤ 1000000000) : Fits N L := by
  have := h.l
  have nn : N * N ≤ 60 * 60 := Nat.mul_le_mul hN hN
  exact ⟨hN, fun t ht => (h.v t ht).1, by omega, fun u v _ _ => by have := h.le c1 (min (u : Int) (v : Int), max (u : Int) (v : Int)); omega⟩
theorem LiT.light (h : LiT N cap L) (c2 : cap ≤ 1024) : Light (numsL N (fL L)) := ⟨fun x hx => by
  obtain ⟨q, _, rfl⟩ := List.mem_map.mp hx
  exact h.nn q, by have := h.p; omega⟩
end
/-! BT9: wide webs (k81). -/
section
variable {N i fl : Nat} {C : Store} {Q : D → Store → Prop} {X : Exc → Store → Prop} {P : RS → Prop} {f : Int × Int → Int} {d x : D} {xs ys : List D} {t : List Int} {T T2 : List (List Int)} {n cap : Int} {wish lim r : List Int} {L : List T3}
def zeroT (lim : List Int) : List (List Int) := lim.map fun l => List.replicate (l + 1).toNat 0
theorem zero_tab {l : Int} (h : 0 ≤ l) : tabK l (tI (List.replicate (l + 1).toNat 0)) = true := by
  have e : (tI (List.replicate (l + 1).toNat 0)) = .tup ((List.replicate (l + 1).toNat (0 : Int)).map .int) := rfl
  rw [e]
  have e0 : ((List.replicate (l + 1).toNat (0 : Int)).map D.int).map toI = List.replicate (l + 1).toNat 0 := by
    rw [List.map_map, List.map_replicate]
    rfl
  show (decide ((((List.replicate (l + 1).toNat (0 : Int)).map D.int).length : Int) = l + 1) && (((List.replicate (l + 1).toNat (0 : Int)).map D.int).all numK && cvxB (((List.replicate (l + 1).toNat (0 : Int)).map D.int).map toI))) = true
  rw [e0, decide_eq_true (by simp; omega), Bool.true_and, Bool.and_eq_true]
  refine ⟨List.all_eq_true.mpr fun y hy => ?_, cvxB_iff.mpr fun k hk => ?_⟩
  · obtain ⟨z, hz, rfl⟩ := List.mem_map.mp hy
    rw [(List.mem_replicate.mp hz).2]
    rfl
  · have z : ∀ k, rF (List.replicate (l + 1).toNat 0) k = 0 := fun k => by
      unfold rF
      rw [List.getD_eq_getElem?_getD]
      cases e : (List.replicate (l + 1).toNat (0 : Int))[k]? with
      | none => rfl
      | some y => exact (List.mem_replicate.mp (List.mem_of_getElem? e)).2
    rw [z, z, z]
    decide
theorem zero_tabs (h : ∀ l ∈ lim, 0 ≤ l) : tabsK lim (tbD (zeroT lim)) = true := by
  show (decide (((zeroT lim).map tI).length = lim.length) && (lim.zip ((zeroT lim).map tI)).all fun p => tabK p.1 p.2) = true
  have e : lim.zip ((zeroT lim).map tI) = lim.map fun l => (l, tI (List.replicate (l + 1).toNat 0)) := by
    unfold zeroT
    rw [List.map_map]
    clear h
    induction lim with
    | nil => rfl
    | cons l lim ih => rw [List.map_cons, List.zip_cons_cons, ih]; rfl
  rw [e, List.length_map, decide_eq_true (by unfold zeroT; rw [List.length_map]), Bool.true_and]
  refine List.all_eq_true.mpr fun p hp => ?_
  obtain ⟨l, hl, rfl⟩ := List.mem_map.mp hp
  exact zero_tab (h l hl)
theorem short_tabs {xs : List D} (h : xs.length ≠ lim.length) : tabsK lim (.tup xs) = false := by
  show (decide (xs.length = lim.length) && _) = false
  rw [decide_eq_false h]
  rfl
theorem cut_initK {xs : List D} (h : xs ≠ []) : (cutD xs none (some (-1))).length ≠ xs.length := by
  have : 0 < xs.length := List.length_pos_iff.mpr h
  unfold cutD
  have e1 : HT.sIx xs.length xs.length (some (-1)) = xs.length - 1 := by
    show (if (-1 : Int) < 0 then ((-1 : Int) + (xs.length : Int)).toNat else min (-1 : Int).toNat xs.length) = _
    rw [if_pos (by decide)]
    omega
  have e2 : HT.sIx xs.length 0 none = 0 := rfl
  rw [e1, e2, List.length_take, List.length_drop]
  omega
theorem deg_wide (hN : N ≤ 60) (hb : ∀ p, 0 ≤ f p ∧ f p ≤ 149) : ∀ x ∈ degG N f, 0 ≤ x ∧ x ≤ 8940 := fun x hx => by
  obtain ⟨v, hv⟩ := List.mem_iff_getElem?.mp hx
  have v1 := (List.getElem?_eq_some_iff.mp hv).1
  rw [degG_len] at v1
  rw [degG_at v1] at hv
  obtain rfl := Option.some.inj hv
  have a : FF.dgr N (grO f) v ≤ FF.sm N fun _ => 149 := FF.sm_le fun u _ => (hb _).2
  rw [sm_k] at a
  exact ⟨FF.sm_pos fun u _ => (hb _).1, by omega⟩
theorem flat_tb (T : List (List Int)) : flat3K (tbD T) = true := List.all_eq_true.mpr fun x hx => by
  obtain ⟨t, _, rfl⟩ := List.mem_map.mp hx
  exact List.all_eq_true.mpr fun y hy => by
    obtain ⟨z, _, rfl⟩ := List.mem_map.mp hy
    rfl
theorem flat_cut {xs : List D} {lo hi : Option Int} (h : flat3K (.tup xs) = true) : flat3K (.tup (cutD xs lo hi)) = true := List.all_eq_true.mpr fun x hx => flat3_2 h x (cut_mem hx)
theorem short_tb (hl : T.length ≤ 1000) (h : ∀ t ∈ T, t.length ≤ 100000) : Short (tbD T) := ⟨fun xs e => by
  obtain rfl : T.map tI = xs := D.tup.inj e
  exact ⟨by rw [List.length_map]; exact hl, fun x hx ys ey => by
    obtain ⟨t, ht, rfl⟩ := List.mem_map.mp hx
    obtain rfl : t.map D.int = ys := D.tup.inj ey
    rw [List.length_map]
    exact h t ht⟩⟩
theorem short_cut {xs : List D} {lo hi : Option Int} (h : Short (.tup xs)) : Short (.tup (cutD xs lo hi)) := ⟨fun ys e => by
  obtain rfl : cutD xs lo hi = ys := D.tup.inj e
  obtain ⟨a, b⟩ := h.a xs rfl
  have := cut_len xs lo hi
  exact ⟨by omega, fun x hx => b x (cut_mem hx)⟩⟩
theorem repT4 (C : Store) : oRepr [.lst [.bl true, .bl false, .bl true, .bl false]] C = some (.str "[True, False, True, False]", C) := by
  have g := gd_lst (n := 4) (gdl_cons (gd_bl true) (gdl_cons (gd_bl false) (gdl_cons (gd_bl true) (gdl_cons (gd_bl false) gdl_nil)))) (by decide)
  rw [g.repr (by decide) (by decide)]
  have e : (PyData.list [.bool true, .bool false, .bool true, .bool false]).shown = ("[True, False, True, False]" : Str) := by decide +kernel
  rw [e]
def farL : List T3 := [(0, 1, 1024)]
theorem far_fits : Fits 2 farL := ⟨by decide, fun t ht => by rw [List.mem_singleton.mp ht]; exact ⟨by decide, by decide, by decide, by decide, by decide, by decide, by decide⟩, by decide, fun u v _ _ => by
  show dg0 (sums farL) _ ≤ _
  rw [dg0_sums]
  show (if pr (0, 1, 1024) = _ then (1024 : Int) else 0) + 0 ≤ 1000000000
  split <;> omega⟩
theorem far_deg : degG 2 (fL farL) = [1024, 1024] := by decide +kernel
theorem wide_right_w (hB : Bg i C) (hN : N ≤ 5) (lt : LiT N cap L) (c1 : 1 ≤ cap) (c2 : cap ≤ 150) (q : ∀ C', To i C C' → Q (.bl true) C') : wR (m_law_wide_right [.cell i, .lst (L.map triD)] C) Q X := by
  have n25 : N * N ≤ 5 * 5 := Nat.mul_le_mul hN hN
  have lL := lt.l
  have fb : ∀ p, 0 ≤ fL L p ∧ fL L p ≤ 149 := fun p => ⟨lt.nn p, by have := lt.le c1 p; omega⟩
  rw [e_law_wide_right]
  apply w_fin
  unfold b_law_wide_right b_law_wide_right_0
  walk_at "p"
  refine w_mkT ?_
  walk_at "p"
  refine take_n0 hB (by decide) (by decide) fun r C1 r0 r1 t1 => ?_
  walk_at "p"
  obtain ⟨W, hW⟩ : ∃ W : Nat, 6 + r = (W : Int) := ⟨(6 + r).toNat, by omega⟩
  rw [hW]
  have W60 : W ≤ 60 := by omega
  have fitW : Fits W L := ⟨W60, fun t ht => by
    obtain ⟨a1, a2, a3, a4, a5⟩ := (lt.v t ht).1
    exact ⟨a1, by omega, a3, by omega, a5⟩, by omega, fun u v _ _ => by have := fb (min (u : Int) v, max (u : Int) v); omega⟩
  refine w_of (make_ok (L := L) (d := .lst (L.map triD)) (ds := [.int W, .lst (L.map triD)]) fitW (.inl rfl) rfl rfl) ?_
  walk_at "p"
  refine w_mkT ?_
  walk_at "p"
  refine w_of (make_ok (L := farL) (d := .lst (farL.map triD)) (ds := [.int (2 : Nat), .lst (farL.map triD)]) far_fits (.inl rfl) rfl rfl) ?_
  walk_at "p"
  refine ⟨_, rfl, ?_⟩
  walk_at "p"
  have dw := deg_wide W60 fb
  unfold b_law_wide_right_1
  walk_at "p"
  refine ⟨_, rfl, degrees_w W60 ?_⟩
  walk_at "p"
  have ld : (degG W (fL L)).length = W := degG_len
  have tw : ∀ {S : Store} {Q : D → Store → Prop} {X : Exc → Store → Prop} {d : D}, flat3K d = true → Short d → Q (.bl (tabsK (degG W (fL L)) d)) S → wR (m_is_tables [webD W (fL L), d] S) Q X := fun a b c => is_tables_w W60 a b c
  generalize degG W (fL L) = G at dw ld tw ⊢
  refine ⟨_, rfl, ?_⟩
  refine lcY (l := G) (enc := D.int) (pure_C _) (fun l => tI (List.replicate (l + 1).toNat 0)) (by omega) (fun l hl => ⟨_, rfl, fun acc => ?_⟩) (fun l _ => cb_tI _ _) ?_
  · have b := dw l hl
    walk_at "p"
    have e : l + 1 = (((l + 1).toNat : Nat) : Int) := by omega
    refine wo_of (show oRepU (.tup [.int 0]) (.int (l + 1)) _ = some (tI (List.replicate (l + 1).toNat 0), _) by
      conv => lhs; rw [e]
      exact rep_0 _ (by omega) (by omega) _) ?_
    exact ⟨rfl, rfl⟩
  walk_at "p"
  rw [show D.tup (G.map fun l => tI (List.replicate (l + 1).toNat 0)) = tbD (zeroT G) by unfold tbD zeroT; rw [List.map_map]; rfl]
  refine wo_of (rep_0 1025 (by decide) (by decide) _) ?_
  walk_at "p"
  refine wo_of (rep_0 1025 (by decide) (by decide) _) ?_
  walk_at "p"
  refine ⟨_, rfl, ?_⟩
  rw [show D.tup [tI (List.replicate 1025 0), tI (List.replicate 1025 0)] = tbD (zeroT [1024, 1024]) from rfl]
  walk_at "p"
  unfold b_law_wide_right_2
  walk_at "p"
  have s1 : Short (tbD (zeroT G)) := short_tb (by unfold zeroT; rw [List.length_map]; omega) fun t ht => by
    obtain ⟨l, hl, rfl⟩ := List.mem_map.mp ht
    have := dw l hl
    rw [List.length_replicate]
    omega
  have s2 : Short (tbD (zeroT [1024, 1024])) := short_tb (by decide) fun t ht => by
    obtain ⟨l, hl, rfl⟩ := List.mem_map.mp ht
    simp only [List.mem_cons, List.not_mem_nil, or_false] at hl
    rw [List.length_replicate]
    omega
  refine tw (flat_tb _) s1 ?_
  rw [zero_tabs fun l hl => (dw l hl).1]
  walk_at "p"
  refine ⟨_, rfl, ?_⟩
  walk_at "p"
  refine tw (flat_cut (flat_tb _)) (short_cut s1) ?_
  rw [short_tabs (by
    have ne : (zeroT G).map tI ≠ [] := fun e => by
      have := congrArg List.length e
      unfold zeroT at this
      simp only [List.length_map, List.length_nil] at this
      omega
    have := cut_initK ne
    unfold zeroT at this ⊢
    simp only [List.length_map] at this ⊢
    exact this)]
  walk_at "p"
  refine is_tables_w (by decide) (flat_tb _) s2 ?_
  rw [far_deg, zero_tabs (by decide)]
  walk_at "p"
  refine ⟨_, rfl, ?_⟩
  walk_at "p"
  refine is_tables_w (by decide) (flat_cut (flat_tb _)) (short_cut s2) ?_
  rw [far_deg, short_tabs (by decide)]
  walk_at "p"
  unfold b_law_wide_right_3
  walk_at "p"
  refine wo_of (repT4 _) ?_
  walk_at "p"
  rw [decide_eq_true rfl, ← t1.len, List.take_length]
  exact q C1 t1
end
/-! GRS: the law's grid: its store (split off TU5). -/
def rowG (N : Nat) (G : Nat → Nat → Int) (u : Nat) : List Int := (List.range N).map fun v => G u v
def gridS (C : Store) (N : Nat) (G : Nat → Nat → Int) : Store := C ++ [some (.lst ((List.range N).map fun u => D.cell (C.length + 1 + u)))] ++ (List.range N).map fun u => some (Cell.lst ((rowG N G u).map .int))
theorem gridS_out {C : Store} {N : Nat} {G : Nat → Nat → Int} : (gridS C N G)[C.length]? = some (some (.lst ((List.range N).map fun u => D.cell (C.length + 1 + u)))) := by
  unfold gridS
  simp
theorem gridS_in {C : Store} {N u : Nat} {G : Nat → Nat → Int} (hu : u < N) : (gridS C N G)[C.length + 1 + u]? = some (some (.lst ((rowG N G u).map .int))) := by
  unfold gridS
  rw [List.getElem?_append_right (by simp)]
  have e : C.length + 1 + u - (C ++ [some (Cell.lst ((List.range N).map fun u => D.cell (C.length + 1 + u)))]).length = u := by simp
  rw [e, List.getElem?_map, List.getElem?_range hu]
  rfl
def bump (G : Nat → Nat → Int) (u v : Nat) (x : Int) : Nat → Nat → Int := fun a b => if a = u ∧ b = v then G a b + x else G a b
theorem rowG_bump {N : Nat} {G : Nat → Nat → Int} {u v : Nat} {x : Int} (hv : v < N) : (rowG N G u).set v (G u v + x) = rowG N (bump G u v x) u := by
  unfold rowG
  refine List.ext_getElem? fun k => ?_
  by_cases hk : k < N
  · by_cases e : v = k
    · subst e
      rw [List.getElem?_set_self (by simpa using hk), List.getElem?_map, List.getElem?_range hk]
      simp [bump]
    · rw [List.getElem?_set_ne e, List.getElem?_map, List.getElem?_map, List.getElem?_range hk]
      simp [bump, Ne.symm e]
  · rw [List.getElem?_eq_none (by simp; omega), List.getElem?_eq_none (by simp; omega)]
theorem gridS_set {C : Store} {N u v : Nat} {G : Nat → Nat → Int} {x : Int} (hu : u < N) (hv : v < N) : (gridS C N G).set (C.length + 1 + u) (some (.lst (((rowG N G u).map D.int).set v (.int (G u v + x))))) = gridS C N (bump G u v x) := by
  unfold gridS
  rw [List.set_append_right _ _ (by simp)]
  have e : C.length + 1 + u - (C ++ [some (Cell.lst ((List.range N).map fun u => D.cell (C.length + 1 + u)))]).length = u := by simp
  rw [e]
  congr 1
  refine List.ext_getElem? fun k => ?_
  by_cases hk : k < N
  · by_cases e : u = k
    · subst e
      rw [List.getElem?_set_self (by simpa using hk), List.getElem?_map, List.getElem?_range hk, ← List.map_set, rowG_bump hv]
      rfl
    · rw [List.getElem?_set_ne e, List.getElem?_map, List.getElem?_map, List.getElem?_range hk]
      have : rowG N G k = rowG N (bump G u v x) k := by
        unfold rowG
        refine List.map_congr_left fun w _ => ?_
        unfold bump
        rw [if_neg fun z => e z.1.symm]
      show some (some (Cell.lst ((rowG N G k).map .int))) = some (some (Cell.lst ((rowG N (bump G u v x) k).map .int)))
      rw [this]
  · rw [List.getElem?_eq_none (by simp; omega), List.getElem?_eq_none (by simp; omega)]
section
variable {C S : Store} {Q : D → Store → Prop} {X : Exc → Store → Prop} {N fl : Nat} {P : RS → Prop} {L : List T3} {s0 s1 s3 s4 s5 : Option D}
/-- one place of the grid is raised -/
theorem bump_w {io iv ia : Nat} {sl : List (Option D)} {G : Nat → Nat → Int} {u v : Nat} {x : Int} (h2 : sl[2]? = some (some (.cell C.length))) (hu' : sl[io]? = some (some (.int u))) (hv' : sl[iv]? = some (some (.int v))) (ha : sl[ia]? = some (some (.int x))) (hu : u < N) (hv : v < N)
    (q : P (.nx sl (gridS C N (bump G u v x)))) : wS (sAugL (· + ·) (mOp oIx (mVar 2) (mVar io)) (mVar iv) (mVar ia) ⟨C.length, sl⟩ (gridS C N G)) P := by
  refine w_augL (w_op (w_var h2 (w_var hu' ?_)))
  refine wo_ix (x := .cell C.length) (xs := (List.range N).map fun u => D.cell (C.length + 1 + u)) (k := u) (d := .cell (C.length + 1 + u)) (by simp only [vS, gridS_out]) rfl (by rw [List.getElem?_map, List.getElem?_range hu]; rfl) ?_
  refine w_var hv' ⟨v, C.length + 1 + u, (rowG N G u).map .int, G u v, rfl, by simp only [cL, gridS_in hu], ?_, ?_⟩
  · rw [List.getElem?_map, rowG, List.getElem?_map, List.getElem?_range hv]
    rfl
  · refine w_var ha ⟨x, (rowG N G u).map .int, gridS C N (bump G u v x), rfl, by simp only [cL, gridS_in hu], by simpa [rowG] using hv, ?_, q⟩
    rw [wr_hi (by omega), gridS_set hu hv]
theorem grid0_w {sl : List (Option D)} {fl0 : Nat} (hN : N ≤ 60) (h0 : sl[0]? = some (some (.int N))) (q : Q (.cell C.length) (gridS C N fun _ _ => 0)) :
    wR (mLc true (mRng1 (mVar 0)) (Tgt.nm 4).M tYesM (mOp (oRep true) (mAp (oLst false) (mCons (mC (.int 0)) mNil)) (mVar 0)) [4] ⟨fl0, sl⟩ C) Q X := by
  refine w_lcO (w_rng1 (w_var h0 ⟨(N : Int), rfl, inR_of (by omega) (by omega), ?_⟩))
  have eN : (N : Int).toNat = N := by omega
  rw [eN]
  have zr : ∀ S : Store, oRep true (.lst [.int 0]) (.int N) S = some (.cell S.length, S ++ [some (.lst ((rowG N (fun _ _ => 0) 0).map .int))]) := fun S => by
    have s1 : decide ((N : Int) < 2 ^ 63) = true := decide_eq_true (by omega)
    have s2 : decide (-(2 ^ 63) ≤ (N : Int)) = true := decide_eq_true (by omega)
    have s3 : szN ([D.int 0].length * N) = true := by simp [szN]; omega
    have e : ∀ n : Nat, (List.replicate n [D.int 0]).flatten = ((List.range n).map fun _ => (0 : Int)).map .int := fun n => by
      induction n with
      | zero => rfl
      | succ n ih =>
        rw [List.replicate_succ', List.flatten_append, ih, List.range_succ, List.map_append, List.map_append]
        rfl
    unfold oRep
    simp only [vL, eN, s1, s2, s3, Bool.and_self, if_true, e]
    rfl
  obtain ⟨acc, C', e, c, i⟩ := lc_w (tt := tYesM) (te := mOp (oRep true) (mAp (oLst false) (mCons (mC (.int 0)) mNil)) (mVar 0)) (g := (Tgt.nm 4).M) (n := C.length) (sl := wipeD sl [4]) ((pure_R 0 N).on fun _ => True)
    (fun j acc S => j ≤ N ∧ acc = (List.range j).map (fun u => D.cell (C.length + 1 + u)) ∧ S = C ++ [some (.lst ((List.range j).map fun u => D.cell (C.length + 1 + u)))] ++ (List.range j).map fun u => some (Cell.lst ((rowG N (fun _ _ => 0) u).map .int))) (fun _ _ _ _ => trivial)
    (fun j acc S z => by rw [z.2.1, List.length_map, List.length_range]; have := z.1; omega) (fun j x acc S hx hc z => by
      obtain ⟨hj, rfl, rfl⟩ := z
      have hj1 : j < N := by
        have := (List.getElem?_eq_some_iff.mp hx).1
        simpa [rngI] using this
      refine ⟨(wipeD sl [4]).set 4 (some x), rfl, w_yes (wI_t (w_op (w_ap (w_cons (w_c (w_nil (wo_lstF (by with_unfolding_all rfl) (w_var ?_ (wo_of (zr _) ?_)))))))))⟩
      · show ((sl.set 4 none).set 4 (some x))[0]? = _
        rw [List.getElem?_set_ne (by decide), List.getElem?_set_ne (by decide)]
        exact h0
      · have hlen : (C ++ [some (Cell.lst ((List.range j).map fun u => D.cell (C.length + 1 + u)))] ++ (List.range j).map fun u => some (Cell.lst ((rowG N (fun _ _ => 0) u).map D.int))).length = C.length + 1 + j := by simp; omega
        refine ⟨(List.range j).map fun u => D.cell (C.length + 1 + u), ?_, by rw [List.length_map, List.length_range]; omega, ⟨by omega, ?_, ?_⟩, by simp⟩
        · rw [List.getElem?_append_left (by rw [hlen]; omega)]
          exact hc
        · rw [hlen, List.range_succ, List.map_append]
          rfl
        · rw [hlen, List.range_succ, List.map_append, List.map_append]
          simp [rowG]) N 0 [] (C ++ [some (.lst [])]) (by simp [rngI]) (by simp) ⟨Nat.zero_le _, rfl, by simp⟩
  obtain ⟨_, rfl, rfl⟩ := i
  unfold mLc
  simp only [bnd_ok]
  have e' := e
  have en : (itR 0 N).n = N := rfl
  rw [en, e']
  simp only [bn0_ok]
  unfold lcEnd
  rw [if_pos rfl]
  have er : (rngI 0 N).length = N := by simp [rngI]
  rw [er]
  exact w_ok q
theorem tot_snoc (L : List T3) (t : T3) (k : Int × Int) : tot (L ++ [t]) k = tot L k + (if pr t = k then t.2.2 else 0) := by
  rw [tot_app]
  congr 1
  rw [tot_cons]
  simp [tot]
theorem bump_two {L : List T3} {u v : Nat} {x : Int} (ne : u ≠ v) (a b : Nat) : bump (bump (fun a b => tot L (min (a : Int) b, max (a : Int) b)) u v x) v u x a b = tot (L ++ [((u : Int), (v : Int), x)]) (min (a : Int) b, max (a : Int) b) := by
  rw [tot_snoc]
  unfold bump pr
  by_cases h1 : a = u ∧ b = v
  · obtain ⟨rfl, rfl⟩ := h1
    rw [if_neg (by omega), if_pos ⟨rfl, rfl⟩, if_pos rfl]
  · by_cases h2 : a = v ∧ b = u
    · obtain ⟨rfl, rfl⟩ := h2
      rw [if_pos ⟨rfl, rfl⟩, if_neg (by omega), if_pos (by
        show (min (b : Int) (a : Int), max (b : Int) (a : Int)) = (min (a : Int) b, max (a : Int) b)
        rw [show min (b : Int) (a : Int) = min (a : Int) b by omega, show max (b : Int) (a : Int) = max (a : Int) b by omega])]
    · rw [if_neg h2, if_neg h1, if_neg]
      · exact (Int.add_zero _).symm
      · intro z
        have z : (min (u : Int) (v : Int), max (u : Int) (v : Int)) = (min (a : Int) b, max (a : Int) b) := z
        injection z with z1 z2
        omega
end
/-! BR1: the law's grid of ties told as a list. -/
section
variable {C S : Store} {Q : D → Store → Prop} {X : Exc → Store → Prop} {N fl : Nat} {P : RS → Prop} {L : List T3} {s0 s1 s3 s4 s5 : Option D}
theorem lgrid_g {d : D} (hd : d = .lst (L.map triD) ∨ d = .tup (L.map triD)) (hN : N ≤ 60) (hv : ∀ t ∈ L, ValidT N t) (q : Q (gridD (rowsOf N (fL L))) C) : wR (m_law_grid [.int N, d] C) Q X := by
  rw [e_law_grid]
  have fin : ∀ sl : List (Option D), sl[2]? = some (some (.cell C.length)) → wR (finNS C.length (b_law_grid_2 ⟨C.length, sl⟩ (gridS C N fun a b => tot L (min (a : Int) b, max (a : Int) b)))) Q X := fun sl h2 => by
    have e : b_law_grid_2 ⟨C.length, sl⟩ (gridS C N fun a b => tot L (min (a : Int) b, max (a : Int) b)) = .rt (.cell C.length) (gridS C N fun a b => tot L (min (a : Int) b, max (a : Int) b)) := by
      unfold b_law_grid_2
      show bndS _ (mVar 2 ⟨C.length, sl⟩ _) _ = _
      have : mVar 2 ⟨C.length, sl⟩ (gridS C N fun a b => tot L (min (a : Int) b, max (a : Int) b)) = .ok (.cell C.length) (gridS C N fun a b => tot L (min (a : Int) b, max (a : Int) b)) := by
        show (match sl[2]? with
          | some (some d) => R.ok d _
          | _ => R.stuck) = _
        rw [h2]
      rw [this]
      rfl
    rw [e]
    show wR (finN C.length (.cell C.length) _) Q X
    generalize hG : (fun a b : Nat => tot L (min (a : Int) b, max (a : Int) b)) = G
    have intz : ∀ (k : Nat) (l : List Int), (l.map D.int).map (fzF k C.length (gridS C N G)) = l.map D.int := fun k l => by
      rw [List.map_map]
      refine List.map_congr_left fun x _ => ?_
      cases k <;> rfl
    have inner : ∀ u, u < N → fzF 2 C.length (gridS C N G) (.cell (C.length + 1 + u)) = .lst ((rowG N G u).map .int) := fun u hu => by
      unfold fzF
      simp only [if_neg (show ¬ C.length + 1 + u < C.length by omega), gridS_in hu, intz]
    have outer : fzF 3 C.length (gridS C N G) (.cell C.length) = .lst (((List.range N).map fun u => rowG N G u).map fun r => .lst (r.map .int)) := by
      unfold fzF
      simp only [if_neg (Nat.lt_irrefl C.length), gridS_out]
      rw [List.map_map, List.map_map]
      congr 1
      exact List.map_congr_left fun u hu => inner u (List.mem_range.mp hu)
    unfold finN
    have cg := cb_grid C.length ((List.range N).map fun u => rowG N G u)
    unfold gridD at cg
    rw [outer, if_pos cg]
    have tk : (gridS C N G).take C.length = C := by
      unfold gridS
      rw [List.append_assoc, take_app rfl]
    rw [tk]
    refine w_ok ?_
    have e2 : ((List.range N).map fun u => rowG N G u) = rowsOf N (fL L) := by
      unfold rowsOf rowG fL
      refine List.map_congr_left fun u _ => List.map_congr_left fun v _ => ?_
      rw [← hG, dg0_sums]
    have q2 := q
    unfold gridD at q2
    rw [← e2] at q2
    exact q2
  have body : wS (b_law_grid ⟨C.length, [some (.int N), some d, none, none, none, none]⟩ C) (fun r => wR (finNS C.length r) Q X) := by
    unfold b_law_grid b_law_grid_0
    refine w_seq (w_asg (grid0_w hN rfl ?_))
    refine thn_nx (w_seq ?_)
    unfold b_law_grid_1
    walk_at "p"
    refine ⟨itC (L.map triD), by rcases hd with rfl | rfl <;> rfl, ?_⟩
    refine loop_o ((pure_C (L.map triD)).on fun _ => True) (fun j sl S => S = gridS C N (fun a b => tot (L.take j) (min (a : Int) b, max (a : Int) b)) ∧ ∃ t3 t4 t5, sl = [some (.int N), some d, some (.cell C.length), t3, t4, t5]) (fun _ _ _ _ => trivial) ⟨by
      congr 1, none, none, none, rfl⟩ ?_ ?_
    · rintro j y sl S hy ⟨rfl, t3, t4, t5, rfl⟩
      rw [List.getElem?_map] at hy
      obtain ⟨t, ht, rfl⟩ := Option.map_eq_some_iff.mp hy
      obtain ⟨a1, a2, a3, a4, a5, a6, a7⟩ := hv t (List.mem_of_getElem? ht)
      have tk := take_s1 ht
      obtain ⟨u0, v0, x⟩ := t
      simp only at a1 a2 a3 a4 a5 a6 a7
      obtain ⟨u, rfl⟩ : ∃ u : Nat, u0 = u := ⟨u0.toNat, by omega⟩
      obtain ⟨v, rfl⟩ : ∃ v : Nat, v0 = v := ⟨v0.toNat, by omega⟩
      refine ⟨_, rfl, ?_⟩
      unfold b_law_grid_1b_0 b_law_grid_1b_1
      refine w_seq (bump_w (u := u) (v := v) (x := x) rfl rfl rfl rfl (by omega) (by omega) ?_)
      refine thn_nx (bump_w (u := v) (v := u) (x := x) rfl rfl rfl rfl (by omega) (by omega) ?_)
      refine lp_nx ⟨?_, _, _, _, rfl⟩
      rw [tk]
      congr 1
      funext a b
      exact bump_two (by omega) a b
    · rintro sl S ⟨rfl, t3, t4, t5, rfl⟩
      rw [List.length_map, List.take_length]
      exact thn_nx ⟨fin _ rfl⟩
  exact body.h
theorem lgrid_w (hN : N ≤ 60) (hv : ∀ t ∈ L, ValidT N t) (q : Q (gridD (rowsOf N (fL L))) C) : wR (m_law_grid [.int N, .lst (L.map triD)] C) Q X := lgrid_g (.inl rfl) hN hv q
end
/-! LSTb: the ties of a light web, drawn. -/
section
variable {N i : Nat} {C : Store} {Q : D → Store → Prop} {X : Exc → Store → Prop}
theorem pD_nat {zs : List (Int × Int)} (pm : zs.Perm (pairsL N)) {j : Nat} {p : Int × Int} (hj : zs[j]? = some p) : 0 ≤ p.1 ∧ p.1 < p.2 ∧ p.2 < N := pairs_up (pm.mem_iff.mp (List.mem_of_getElem? hj))
theorem cb_triL (n : Nat) (l : List T3) : cbL n (l.map triD) = true := cbL_allM fun d hd => by
  obtain ⟨t, _, rfl⟩ := List.mem_map.mp hd
  rfl
theorem law_light_w {cap : Int} (hB : Bg i C) (hN : N ≤ 5) (c1 : 1 ≤ cap) (c2 : cap ≤ 1000000) (h : ∀ (L : List T3) C', To i C C' → LiT N cap L → Q (.lst (L.map triD)) C') : wR (m_law_light [.cell i, .int N, .int cap] C) Q X := by
  have il := hB.lt
  have pl := pairs_lenL (N := N)
  have nn : N * N ≤ 5 * 5 := Nat.mul_le_mul hN hN
  rw [e_law_light]
  apply w_fin
  unfold b_law_light b_law_light_0
  walk_at "p"
  refine ⟨_, rfl, ?_⟩
  walk_at "p"
  unfold b_law_light_1
  walk_at "p"
  refine law_pairs_w (by omega) ?_
  walk_at "p"
  refine mixed_L (l := pairsL N) (enc := pD) (hB.app _) (by omega) (fun p => rfl) fun zs Z tZ pm => ?_
  obtain ⟨C0, rfl, t0⟩ := tZ.cut il
  walk_at "p"
  have nd : zs.Nodup := pm.nodup_iff.mpr (pairs_nodup N)
  have zl : zs.length ≤ 25 := by rw [pm.length_eq]; omega
  refine loopM (l := zs) (enc := pD) (pure_C _) (fun j sl S => ∃ (C' : Store) (L : List T3) (left : Int) (t5 t6 t7 t8 : Option D), S = C' ++ [some (.lst (L.map triD))] ∧ To i C C' ∧ LI N cap zs j L left ∧ left ≤ cap ∧ sl = [some (.cell i), some (.int N), some (.int cap), some (.cell C.length), some (.int left), t5, t6, t7, t8]) ⟨C0, [], cap, none, none, none, none, rfl, t0, li_0 c1, Int.le_refl _, rfl⟩ ?_ ?_
  · rintro j p sl S hj ⟨C1, L, left, t5, t6, t7, t8, rfl, t1, li, ll, rfl⟩
    obtain ⟨p0, p1, p2⟩ := pD_nat pm hj
    have jl : j < zs.length := (List.getElem?_eq_some_iff.mp hj).1
    have l1 := li.l
    have ln := li.n
    refine ⟨[some (.cell i), some (.int N), some (.int cap), some (.cell C.length), some (.int left), some (.int p.1), some (.int p.2), t7, t8], rfl, ?_⟩
    walk_at "w"
    unfold b_law_light_1b_0
    walk_at "p"
    refine take_L t1.bg (by omega) (by omega) _ fun r C2 r0 r1 t2 => ?_
    have t12 := t1.trans t2
    walk_at "p"
    unfold b_law_light_1b_1
    walk_at "p"
    refine one_L (xs := ([0, 1, 1, 2, 3, r] : List Int).map .int) t12.bg (by simp) (by simp) (cbL_ints _ _) _ fun x C3 hx t3 => ?_
    have t13 := t12.trans t3
    obtain ⟨m, hm, rfl⟩ := List.mem_map.mp hx
    have m0 : 0 ≤ m := by
      simp only [List.mem_cons, List.not_mem_nil, or_false] at hm
      rcases hm with rfl | rfl | rfl | rfl | rfl | rfl <;> omega
    walk_at "p"
    unfold b_law_light_1b_2
    walk_at "p"
    refine wI_d (fun pos => ?_) fun neg => ?_
    · have at_n : ∀ Z : Store, Z.length = C.length → (Z ++ [some (Cell.lst (L.map triD))])[C.length]? = some (some (.lst (L.map triD))) := fun Z hZ => by rw [← hZ]; exact app_at
      have fin : ∀ (C4 : Store) (t : T3), To i C C4 → pr t = p → ValidT N t → t.2.2 = min (left - 1) m → wS (b_law_light_1b_2t_1 ⟨C.length, [some (.cell i), some (.int N), some (.int cap), some (.cell C.length), some (.int left), some (.int p.1), some (.int p.2), some (.lst (([0, 1, 1, 2, 3, r] : List Int).map .int)), some (.int (min (left - 1) m))]⟩ (C4 ++ [some (.lst ((L ++ [t]).map triD))])) (lpP (fun j sl S => ∃ (C' : Store) (L : List T3) (left : Int) (t5 t6 t7 t8 : Option D), S = C' ++ [some (.lst (L.map triD))] ∧ To i C C' ∧ LI N cap zs j L left ∧ left ≤ cap ∧ sl = [some (.cell i), some (.int N), some (.int cap), some (.cell C.length), some (.int left), t5, t6, t7, t8]) (j + 1) (CT.thn b_law_light_2 C.length (fnl C.length Q X))) := fun C4 t t4 ep vt en => by
        have n1 := li_add li nd hj ep vt (by omega) (by omega)
        rw [en] at n1
        unfold b_law_light_1b_2t_1
        walk_at "p"
        refine wo_div (by omega) (by omega) ?_
        have : left / (min (left - 1) m + 1) ≤ left := Int.ediv_le_self _ (by omega)
        exact ⟨C4, L ++ [t], _, _, _, _, _, rfl, t4, n1, by omega, rfl⟩
      walk_at "p"
      unfold b_law_light_1b_2t_0
      walk_at "p"
      refine w_append ?_
      walk_at "p"
      refine ⟨by simp only [vL, at_n C3 t13.len]; rfl, ?_⟩
      walk_at "p"
      refine take_L t13.bg (by omega) (by omega) _ fun r2 C4 r20 r21 t4 => ?_
      have t14 := t13.trans t4
      walk_at "p"
      refine wI_d (fun _ => ?_) fun _ => ?_
      · walk_at "p"
        refine ⟨C.length, L.map triD, by simp only [cL, at_n C4 t14.len], Nat.le_refl _, by rw [List.length_map]; omega, ?_⟩
        walk_at "p"
        rw [← t14.len, app_set]
        have := fin C4 (p.1, p.2, min (left - 1) m) t14 (by show (min p.1 p.2, max p.1 p.2) = p; rw [show min p.1 p.2 = p.1 by omega, show max p.1 p.2 = p.2 by omega]) (by refine ⟨?_, ?_, ?_, ?_, ?_, ?_, ?_⟩ <;> simp only <;> omega) rfl
        rw [List.map_append] at this
        rw [t14.len]
        exact this
      · walk_at "p"
        refine ⟨C.length, L.map triD, by simp only [cL, at_n C4 t14.len], Nat.le_refl _, by rw [List.length_map]; omega, ?_⟩
        walk_at "p"
        rw [← t14.len, app_set]
        have := fin C4 (p.2, p.1, min (left - 1) m) t14 (by show (min p.2 p.1, max p.2 p.1) = p; rw [show min p.2 p.1 = p.1 by omega, show max p.2 p.1 = p.2 by omega]) (by refine ⟨?_, ?_, ?_, ?_, ?_, ?_, ?_⟩ <;> simp only <;> omega) rfl
        rw [List.map_append] at this
        rw [t14.len]
        exact this
    · walk_at "p"
      exact ⟨C3, L, left, _, _, _, _, rfl, t13, li_skip li nd hj, ll, rfl⟩
  · rintro sl S ⟨C1, L, left, t5, t6, t7, t8, rfl, t1, li, ll, rfl⟩
    walk_at "p"
    unfold b_law_light_2
    walk_at "p"
    refine fnl_own (xs := L.map triD) (Nat.le_refl _) (by rw [← t1.len]; exact app_at) (cb_triL _ _) ?_
    rw [take_app t1.len]
    exact h L C1 t1 (lt_of li pm)
end
/-! BT10: the law k81. -/
section
variable {N i fl : Nat} {C : Store} {Q : D → Store → Prop} {X : Exc → Store → Prop} {P : RS → Prop} {f : Int × Int → Int} {d x : D} {xs ys : List D} {t : List Int} {T T1 T2 : List (List Int)} {n cap : Int} {wish lim r : List Int} {L : List T3} {s0 s1 s2 s3 s4 s5 s6 s7 s8 s9 s10 s11 s12 s13 s14 s15 s16 s17 s18 s19 s20 s21 s22 s23 : Option D}
/-- tables that fit the degrees -/
structure T8 (G : List Int) (T : List (List Int)) : Prop where
  len : T.length = G.length
  at_ : ∀ v, v < G.length → ((T.getD v []).length : Int) = rF G v + 1
  bd : ∀ t ∈ T, ∀ y ∈ t, -100000000000 ≤ y ∧ y ≤ 100000000000
/-- degrees of a small web -/
structure G8 (G : List Int) : Prop where
  len : G.length ≤ 5
  bd : ∀ x ∈ G, 0 ≤ x ∧ x ≤ 745
theorem G8.at (h : G8 lim) {v : Nat} (hv : v < lim.length) : 0 ≤ rF lim v ∧ rF lim v ≤ 745 := h.bd _ (List.mem_of_getElem? (rF_getE hv))
theorem T8.mem (h : T8 lim T) (g : G8 lim) : ∀ t ∈ T, ∃ v, v < lim.length ∧ (t.length : Int) = rF lim v + 1 := fun t ht => by
  obtain ⟨v, hv, rfl⟩ := List.mem_iff_getElem.mp ht
  have h2 := h.at_ v (by rw [← h.len]; exact hv)
  rw [List.getD_eq_getElem?_getD, List.getElem?_eq_getElem hv] at h2
  exact ⟨v, by rw [← h.len]; exact hv, h2⟩
theorem T8.tl (h : T8 lim T) (g : G8 lim) : Tl T := ⟨by rw [h.len]; exact g.len, fun t ht => by
  obtain ⟨v, hv, e⟩ := h.mem g t ht
  have b := g.at hv
  refine ⟨fun z => by rw [z] at e; simp at e; omega, by omega, h.bd t ht⟩⟩
theorem tabs_of8 {ys : List D} (hl : ys.length = lim.length) (hr : ∀ (j : Nat) (x y : D), (lim.map D.int)[j]? = some x → ys[j]? = some y → ∃ t : List Int, y = tI t ∧ x = .int ((t.length : Int) - 1) ∧ ∀ y ∈ t, -100000000000 ≤ y ∧ y ≤ 100000000000) : ∃ T, ys = T.map tI ∧ T8 lim T := by
  have key : ∀ j (hj : j < ys.length), ∃ t : List Int, ys[j] = tI t ∧ rF lim j = (t.length : Int) - 1 ∧ ∀ y ∈ t, -100000000000 ≤ y ∧ y ≤ 100000000000 := fun j hj => by
    have e : (lim.map D.int)[j]? = some (.int (rF lim j)) := by
      rw [List.getElem?_map, rF_getE (by omega)]
      rfl
    obtain ⟨t, h1, h2, h3⟩ := hr j _ _ e (List.getElem?_eq_getElem hj)
    exact ⟨t, h1, D.int.inj h2, h3⟩
  obtain ⟨T, rfl⟩ := tIs_of (ys := ys) fun y hy => by
    obtain ⟨j, hj, rfl⟩ := List.mem_iff_getElem.mp hy
    obtain ⟨t, h1, _⟩ := key j hj
    exact ⟨t, h1⟩
  rw [List.length_map] at hl
  have at_ : ∀ j (hj : j < T.length), rF lim j = (T[j].length : Int) - 1 ∧ ∀ y ∈ T[j], -100000000000 ≤ y ∧ y ≤ 100000000000 := fun j hj => by
    obtain ⟨t, h1, h2, h3⟩ := key j (by rw [List.length_map]; exact hj)
    rw [List.getElem_map] at h1
    have := tI_one h1
    rw [this]
    exact ⟨h2, h3⟩
  refine ⟨T, rfl, hl, fun v hv => ?_, fun t ht => ?_⟩
  · have := (at_ v (by omega)).1
    rw [List.getD_eq_getElem?_getD, List.getElem?_eq_getElem (by omega)]
    show ((T[v]'(by omega)).length : Int) = _
    omega
  · obtain ⟨j, hj, rfl⟩ := List.mem_iff_getElem.mp ht
    exact (at_ j hj).2
theorem tabs8_w (hB : Bg i C) (g : G8 lim) {E : Exc → Store → Prop} {s20 : Option D} (q : ∀ T C', T8 lim T → To i C C' → Q (.lst (T.map tI)) C') :
    wR (lcR (itC (lim.map .int)) (Tgt.nm 20).M tYesM (mCall m_law_table [] (mCons (mVar 1) (mCons (mVar 20) mNil))) [20] ⟨fl, [s0, some (.cell i), s2, s3, s4, s5, s6, s7, s8, s9, s10, s11, s12, s13, s14, s15, s16, s17, s18, s19, s20, s21, s22, s23]⟩ C) Q E := by
  refine lc_d (pure_C _) (fun C' => To i C C') (fun x d => ∃ t : List Int, d = tI t ∧ x = .int ((t.length : Int) - 1) ∧ ∀ y ∈ t, -100000000000 ≤ y ∧ y ≤ 100000000000) (by rw [List.length_map]; have := g.len; omega) (To.refl hB) (fun x d n _ hd => by obtain ⟨t, rfl, _⟩ := hd; exact cb_tI n t) (fun x hx => ?_) fun ds C2 hdl hr t2 hl => ?_
  · obtain ⟨z, hz, rfl⟩ := List.mem_map.mp hx
    have zb := g.bd z hz
    obtain ⟨m, rfl⟩ : ∃ m : Nat, z = (m : Int) := ⟨z.toNat, by omega⟩
    refine ⟨_, rfl, fun C2 acc t2 l2 => ?_⟩
    walk_at "p"
    refine law_table_b (t2.bg.app _) (by omega) fun t C3 ct lt tb u3 => ?_
    obtain ⟨C4, rfl, t4⟩ := To.cut t2.bg.lt u3
    exact ⟨C4, rfl, t2.trans t4, by rw [t4.len, l2], t, rfl, by rw [lt]; congr 1; omega, tb⟩
  · rw [List.length_map] at hdl
    obtain ⟨T, rfl, hT⟩ := tabs_of8 hdl hr
    exact q T C2 hT t2
/-- a row within the degrees -/
theorem row8_w (hB : Bg i C) (g : G8 lim) {E : Exc → Store → Prop} {s20 : Option D} (q : ∀ r C', r.length = lim.length → (∀ v, v < lim.length → 0 ≤ rF r v ∧ rF r v ≤ rF lim v) → To i C C' → Q (.lst (r.map .int)) C') :
    wR (lcR (itC (lim.map .int)) (Tgt.nm 20).M tYesM (mCall m_law_take [] (mCons (mVar 1) (mCons (mOp oAdd (mVar 20) (mC (.int 1))) mNil))) [20] ⟨fl, [s0, some (.cell i), s2, s3, s4, s5, s6, s7, s8, s9, s10, s11, s12, s13, s14, s15, s16, s17, s18, s19, s20, s21, s22, s23]⟩ C) Q E := by
  refine lc_d (pure_C _) (fun C' => To i C C') (fun x d => ∃ a z : Int, d = .int a ∧ x = .int z ∧ 0 ≤ a ∧ a ≤ z) (by rw [List.length_map]; have := g.len; omega) (To.refl hB) (fun x d n _ hd => by obtain ⟨a, z, rfl, _⟩ := hd; rfl) (fun x hx => ?_) fun ds C2 hdl hr t2 hl => ?_
  · obtain ⟨z, hz, rfl⟩ := List.mem_map.mp hx
    have zb := g.bd z hz
    refine ⟨_, rfl, fun C2 acc t2 l2 => ?_⟩
    walk_at "p"
    refine take_L t2.bg (by omega) (by omega) [some (.lst acc)] fun a C3 a0 a1 t3 => ?_
    exact ⟨C3, rfl, t2.trans t3, by rw [t3.len, l2], a, z, rfl, rfl, a0, by omega⟩
  · rw [List.length_map] at hdl
    obtain ⟨r, rfl, rl⟩ := ints_of (ys := ds) fun y hy => by
      obtain ⟨j, hj⟩ := List.mem_iff_getElem?.mp hy
      have j1 := (List.getElem?_eq_some_iff.mp hj).1
      obtain ⟨a, z, e, _⟩ := hr j _ y (List.getElem?_eq_getElem (by rw [List.length_map]; omega)) hj
      exact ⟨a, e⟩
    rw [List.length_map] at hdl
    refine q r C2 hdl (fun v hv => ?_) t2
    obtain ⟨a, z, e1, e2, h0, h1⟩ := hr v (.int (rF lim v)) (.int (rF r v)) (by rw [List.getElem?_map, rF_getE hv]; rfl) (by rw [List.getElem?_map, rF_getE (by omega)]; rfl)
    have := D.int.inj e1
    have := D.int.inj e2
    omega
theorem row8_of (h : T8 lim T) (hr : r.length = lim.length) (hb : ∀ v, v < lim.length → 0 ≤ rF r v ∧ rF r v ≤ rF lim v) : Row8 T r := fun p hp => by
  obtain ⟨k, hk, rfl⟩ := List.mem_iff_getElem.mp hp
  rw [List.length_zip] at hk
  have k1 : k < T.length := by omega
  have k2 : k < r.length := by omega
  rw [List.getElem_zip]
  have a := hb k (by omega)
  have b := h.at_ k (by omega)
  rw [List.getD_eq_getElem?_getD, List.getElem?_eq_getElem k1] at b
  have c : r[k] = rF r k := by
    have := rF_getE k2
    rw [List.getElem?_eq_getElem k2] at this
    exact Option.some.inj this
  have b : (T[k].length : Int) = rF lim k + 1 := b
  show 0 ≤ r[k] ∧ r[k] < T[k].length
  omega
end
/-! BT11: the law k81: its turns. -/
section
variable {N i fl : Nat} {C : Store} {Q : D → Store → Prop} {X : Exc → Store → Prop} {P : RS → Prop} {f : Int × Int → Int} {d x : D} {xs ys : List D} {t : List Int} {T T1 T2 : List (List Int)} {n cap : Int} {wish lim r : List Int} {L : List T3} {z0 z1 z2 z3 z4 z5 z6 z7 z8 z9 z10 z11 z12 z13 z14 z15 z16 z17 z18 z19 z20 z21 z22 z23 : Option D}
theorem Tl.th (h : Tl T) : Th (tbD T) := th_tup (by rw [List.length_map]; have := h.l; omega) h.tb
theorem things_w (hN : N ≤ 5) (hB : Bg 0 C) (g : G8 (degG N f)) (h1 : Tl T1) (h2 : Tl T2)
    (q : ∀ C' z10, Bg 0 C' → P (.nx [z0, some (.cell 0), z2, z3, z4, some (webD N f), z6, some (.lst ((degG N f).map .int)), some (tbD T1), some (tbD T2), z10, z11, z12, z13, z14, z15, z16, z17, z18, z19, z20, z21, z22, z23] C')) :
    wS (b_law_1b_6 ⟨0, [z0, some (.cell 0), z2, z3, z4, some (webD N f), z6, some (.lst ((degG N f).map .int)), some (tbD T1), some (tbD T2), z10, z11, z12, z13, z14, z15, z16, z17, z18, z19, z20, z21, z22, z23]⟩ C) P := by
  unfold b_law_1b_6
  walk_at "p"
  refine law_bent_w hB h1 fun d1 C1 t1 u1 => ?_
  walk_at "p"
  refine law_bent_w u1.bg h1 fun d2 C2 t2 u2 => ?_
  walk_at "p"
  refine law_bent_w u2.bg h2 fun d3 C3 t3 u3 => ?_
  walk_at "p"
  have all : ∀ d ∈ [tbD T1, d1, d2, d3], Th d := fun d hd => by
    simp only [List.mem_cons, List.not_mem_nil, or_false] at hd
    rcases hd with rfl | rfl | rfl | rfl
    · exact h1.th
    · exact t1
    · exact t2
    · exact t3
  refine loopM (l := [tbD T1, d1, d2, d3]) (enc := id) (by rw [List.map_id]; exact pure_C _) (fun j sl S => S = C3 ∧ ∃ z10, sl = [z0, some (.cell 0), z2, z3, z4, some (webD N f), z6, some (.lst ((degG N f).map .int)), some (tbD T1), some (tbD T2), z10, z11, z12, z13, z14, z15, z16, z17, z18, z19, z20, z21, z22, z23]) ⟨rfl, _, rfl⟩ ?_ ?_
  · rintro j d sl S hd ⟨rfl, z10, rfl⟩
    have th := all d (List.mem_of_getElem? hd)
    refine ⟨_, rfl, ?_⟩
    unfold b_law_1b_6b_0
    walk_at "p"
    refine is_tables_w (by omega) th.f3 th.short ?_
    walk_at "p"
    refine wo_of ((gd_bl _).repr (by decide) (by decide) _) ?_
    walk_at "p"
    refine tables_right_w th (by have := g.len; omega) (fun x hx => by have := g.bd x hx; omega) ?_
    walk_at "p"
    refine wo_of ((gd_bl _).repr (by decide) (by decide) _) ?_
    walk_at "p"
    refine wI_dt rfl ?_
    walk_at "p"
    exact ⟨rfl, _, rfl⟩
  · rintro sl S ⟨rfl, z10, rfl⟩
    exact q _ _ u3.bg
theorem cst_bd : ∀ {T : List (List Int)} {r : List Int}, (∀ t ∈ T, ∀ y ∈ t, -100000000000 ≤ y ∧ y ≤ 100000000000) → -(100000000000 * (T.length : Int)) ≤ cst T r ∧ cst T r ≤ 100000000000 * (T.length : Int)
  | [], r, _ => by simp [cst]
  | t :: T, [], _ => by simp [cst]; omega
  | t :: T, x :: r, h => by
    have ih := cst_bd (T := T) (r := r) (fun s hs => h s (List.mem_cons_of_mem _ hs))
    have e : cst (t :: T) (x :: r) = rF t x.toNat + cst T r := by simp [cst]
    have b : -100000000000 ≤ rF t x.toNat ∧ rF t x.toNat ≤ 100000000000 := by
      by_cases k : x.toNat < t.length
      · exact h t (List.mem_cons_self ..) _ (List.mem_of_getElem? (rF_getE k))
      · unfold rF
        rw [List.getD_eq_getElem?_getD, List.getElem?_eq_none (by omega)]
        decide
    have l : (((t :: T).length : Nat) : Int) = T.length + 1 := by simp
    rw [e, l]
    omega
def nxt (g : Nat → List Int) (j : Nat) : List (List Int) := (List.range j).map g
theorem nxt_succ (g : Nat → List Int) (j : Nat) : nxt g (j + 1) = nxt g j ++ [g j] := by
  unfold nxt
  rw [List.range_succ, List.map_append]
  rfl
def dL (far : List (List Int)) : Option Cell := some (.lst (far.map tI))
theorem two8_at (g : Int → Int → List Int) (hw : wish.length = lim.length) : two8 g lim wish = (List.range lim.length).map fun v => g (rF lim v) (rF wish v) := by
  unfold two8
  refine List.ext_getElem (by simp [hw]) fun k h1 h2 => ?_
  have hk : k < lim.length := by simpa using h2
  simp only [List.getElem_map, List.getElem_zip, List.getElem_range]
  have a := rF_getE hk
  have b := rF_getE (ns := wish) (v := k) (by omega)
  rw [List.getElem?_eq_getElem hk] at a
  rw [List.getElem?_eq_getElem (by omega)] at b
  rw [Option.some.inj a, Option.some.inj b]
theorem zip_add8 (h1 : T1.length = lim.length) (h2 : T2.length = lim.length) : ((T1.zip T2).map fun p => addR p.1 p.2) = (List.range lim.length).map fun v => addR (T1.getD v []) (T2.getD v []) := by
  refine List.ext_getElem (by simp [h1, h2]) fun k k1 k2 => ?_
  have hk : k < lim.length := by simpa using k2
  simp only [List.getElem_map, List.getElem_zip, List.getElem_range]
  rw [List.getD_eq_getElem?_getD, List.getD_eq_getElem?_getD, List.getElem?_eq_getElem (by omega), List.getElem?_eq_getElem (by omega)]
  rfl
section
variable {a b c a' : List (List Int)}
theorem g3_0 : (C ++ [dL a, dL b, dL c])[C.length]? = some (dL a) := by simp
theorem g3_1 : (C ++ [dL a, dL b, dL c])[C.length + 1]? = some (dL b) := by
  rw [List.getElem?_append_right (by omega)]
  simp
theorem g3_2 : (C ++ [dL a, dL b, dL c])[C.length + 2]? = some (dL c) := by
  rw [List.getElem?_append_right (by omega)]
  simp
theorem e3_0 {o : Option Cell} (h : o = dL a') : (C ++ [dL a, dL b, dL c]).set C.length o = C ++ [dL a', dL b, dL c] := by
  subst h
  simp
theorem e3_1 {o : Option Cell} (h : o = dL a') : (C ++ [dL a, dL b, dL c]).set (C.length + 1) o = C ++ [dL a, dL a', dL c] := by
  subst h
  rw [List.set_append_right _ _ (by omega)]
  simp
theorem e3_2 {o : Option Cell} (h : o = dL a') : (C ++ [dL a, dL b, dL c]).set (C.length + 2) o = C ++ [dL a, dL b, dL a'] := by
  subst h
  rw [List.set_append_right _ _ (by omega)]
  simp
end
theorem snoc_dL (a : List (List Int)) (t : List Int) : (some (.lst (a.map tI ++ [tI t])) : Option Cell) = dL (a ++ [t]) := by
  unfold dL
  rw [List.map_append]
  rfl
theorem lists_w (hN : lim.length = N) (g : G8 lim) (h1 : T8 lim T1) (h2 : T8 lim T2) (hw : wish.length = lim.length) (wb : ∀ x ∈ wish, -10000 ≤ x ∧ x ≤ 10000)
    (q : ∀ z16, P (.nx [z0, z1, z2, some (.int N), z4, z5, z6, some (.lst (lim.map .int)), some (tbD T1), some (tbD T2), z10, z11, some (tI wish), some (.cell C.length), some (.cell (C.length + 1)), some (.cell (C.length + 2)), z16, z17, z18, z19, z20, z21, z22, z23] (C ++ [dL (nxt (fun v => absR (rF lim v) (rF wish v)) N), dL (nxt (fun v => sqrR (rF lim v) (rF wish v)) N), dL (nxt (fun v => addR (T1.getD v []) (T2.getD v [])) N)]))) :
    wS (b_law_1b_10 ⟨0, [z0, z1, z2, some (.int N), z4, z5, z6, some (.lst (lim.map .int)), some (tbD T1), some (tbD T2), z10, z11, some (tI wish), some (.cell C.length), some (.cell (C.length + 1)), some (.cell (C.length + 2)), z16, z17, z18, z19, z20, z21, z22, z23]⟩ (C ++ [dL [], dL [], dL []])) P := by
  have g5 := g.len
  unfold b_law_1b_10
  walk_at "p"
  refine ⟨inR_of (by omega) (by omega), ?_⟩
  rw [show (N : Int).toNat = N by omega]
  refine loopM (l := List.range N) (enc := fun k : Nat => .int (k : Int)) (pureR0 N) (fun j sl S => ∃ z16, S = C ++ [dL (nxt (fun v => absR (rF lim v) (rF wish v)) j), dL (nxt (fun v => sqrR (rF lim v) (rF wish v)) j), dL (nxt (fun v => addR (T1.getD v []) (T2.getD v [])) j)] ∧ sl = [z0, z1, z2, some (.int N), z4, z5, z6, some (.lst (lim.map .int)), some (tbD T1), some (tbD T2), z10, z11, some (tI wish), some (.cell C.length), some (.cell (C.length + 1)), some (.cell (C.length + 2)), z16, z17, z18, z19, z20, z21, z22, z23]) ⟨_, rfl, rfl⟩ ?_ ?_
  · rintro j v sl S hj ⟨z16, rfl, rfl⟩
    have hv : v < N := List.mem_range.mp (List.mem_of_getElem? hj)
    have jv : j = v := by
      have := (List.getElem?_eq_some_iff.mp hj).2
      simpa using this
    subst jv
    have gb := g.at (v := j) (by omega)
    have wj : -10000 ≤ rF wish j ∧ rF wish j ≤ 10000 := wb _ (List.mem_of_getElem? (rF_getE (by omega)))
    have i7 : ∀ {R : D → Store → Prop} {S : Store}, R (.int (rF lim j)) S → wO (oIx (.lst (lim.map .int)) (.int j) S) R := fun r => wo_ix (xs := lim.map .int) (k := j) rfl rfl (by rw [List.getElem?_map, rF_getE (by omega)]; rfl) r
    have i12 : ∀ {R : D → Store → Prop} {S : Store}, R (.int (rF wish j)) S → wO (oIx (tI wish) (.int j) S) R := fun r => tab_ix (k := j) rfl rfl (by omega) r
    have i8 : ∀ {R : D → Store → Prop} {S : Store}, R (tI (T1.getD j [])) S → wO (oIx (tbD T1) (.int j) S) R := fun r => wo_ix (xs := T1.map tI) (k := j) rfl rfl (by
      have := h1.len
      rw [List.getElem?_map, List.getD_eq_getElem?_getD, List.getElem?_eq_getElem (by omega)]
      rfl) r
    have i9 : ∀ {R : D → Store → Prop} {S : Store}, R (tI (T2.getD j [])) S → wO (oIx (tbD T2) (.int j) S) R := fun r => wo_ix (xs := T2.map tI) (k := j) rfl rfl (by
      have := h2.len
      rw [List.getElem?_map, List.getD_eq_getElem?_getD, List.getElem?_eq_getElem (by omega)]
      rfl) r
    refine ⟨_, rfl, ?_⟩
    walk_at "w"
    unfold b_law_1b_10b_0
    walk_at "p"
    refine w_append ?_
    walk_at "p"
    refine ⟨by simp only [vL, g3_0]; rfl, ?_⟩
    walk_at "p"
    refine i7 ?_
    walk_at "p"
    refine ⟨inR_of (by omega) (by omega), ?_⟩
    refine lcY (l := List.range (rF lim j + 1).toNat) (enc := fun k : Nat => .int (k : Int)) (pureR0 _) (fun k : Nat => .int (((k : Int) - rF wish j).natAbs : Int)) (by simp; omega) (fun k hk => ⟨_, rfl, fun acc => ?_⟩) (fun _ _ => rfl) ?_
    · walk_at "p"
      refine i12 ?_
      walk_at "p"
      exact ⟨rfl, rfl⟩
    walk_at "p"
    refine ⟨C.length, (nxt (fun v => absR (rF lim v) (rF wish v)) j).map tI, by simp only [cL, g3_0]; rfl, Nat.zero_le _, by rw [List.length_map]; unfold nxt; simp; omega, ?_⟩
    rw [show D.tup ((List.range (rF lim j + 1).toNat).map fun k : Nat => D.int (((k : Int) - rF wish j).natAbs : Int)) = tI (absR (rF lim j) (rF wish j)) by unfold absR tI; rw [List.map_map]; rfl]
    rw [e3_0 (snoc_dL _ _)]
    walk_at "p"
    unfold b_law_1b_10b_1
    walk_at "p"
    refine w_append ?_
    walk_at "p"
    refine ⟨by simp only [vL, g3_1]; rfl, ?_⟩
    walk_at "p"
    refine i7 ?_
    walk_at "p"
    refine ⟨inR_of (by omega) (by omega), ?_⟩
    refine lcY (l := List.range (rF lim j + 1).toNat) (enc := fun k : Nat => .int (k : Int)) (pureR0 _) (fun k : Nat => .int (((k : Int) - rF wish j) * ((k : Int) - rF wish j))) (by simp; omega) (fun k hk => ⟨_, rfl, fun acc => ?_⟩) (fun _ _ => rfl) ?_
    · have hk := List.mem_range.mp hk
      walk_at "p"
      refine i12 ?_
      walk_at "p"
      refine i12 ?_
      walk_at "p"
      refine wo_mul (mul8 (by omega)) ?_
      exact ⟨rfl, rfl⟩
    walk_at "p"
    refine ⟨C.length + 1, (nxt (fun v => sqrR (rF lim v) (rF wish v)) j).map tI, by simp only [cL, g3_1]; rfl, Nat.zero_le _, by rw [List.length_map]; unfold nxt; simp; omega, ?_⟩
    rw [show D.tup ((List.range (rF lim j + 1).toNat).map fun k : Nat => D.int (((k : Int) - rF wish j) * ((k : Int) - rF wish j))) = tI (sqrR (rF lim j) (rF wish j)) by unfold sqrR tI; rw [List.map_map]; rfl]
    rw [e3_1 (snoc_dL _ _)]
    walk_at "p"
    unfold b_law_1b_10b_2
    walk_at "p"
    refine w_append ?_
    walk_at "p"
    refine ⟨by simp only [vL, g3_2]; rfl, ?_⟩
    walk_at "p"
    refine w_zipX ?_
    walk_at "p"
    refine i8 ?_
    walk_at "p"
    refine i9 ?_
    walk_at "p"
    refine ⟨_, _, _, _, rfl, rfl, rfl, ?_⟩
    show wR (lcR (itC (zipD ((T1.getD j []).map .int) ((T2.getD j []).map .int))) _ _ _ _ _ _) _ _
    rw [zip_i2]
    have tl1 := h1.at_ j (by omega)
    refine lcY (l := (T1.getD j []).zip (T2.getD j [])) (enc := fun p => D.tup [.int p.1, .int p.2]) (pure_C _) (fun p => .int (p.1 + p.2)) (by rw [List.length_zip]; omega) (fun p hp => ⟨_, rfl, fun acc => ?_⟩) (fun _ _ => rfl) ?_
    · walk_at "p"
      exact ⟨rfl, rfl⟩
    walk_at "p"
    refine ⟨C.length + 2, (nxt (fun v => addR (T1.getD v []) (T2.getD v [])) j).map tI, by simp only [cL, g3_2]; rfl, Nat.zero_le _, by rw [List.length_map]; unfold nxt; simp; omega, ?_⟩
    rw [show D.tup (((T1.getD j []).zip (T2.getD j [])).map fun p => D.int (p.1 + p.2)) = tI (addR (T1.getD j []) (T2.getD j [])) by unfold addR tI; rw [List.map_map]; rfl]
    rw [e3_2 (snoc_dL _ _), ← nxt_succ, ← nxt_succ, ← nxt_succ]
    exact lp_nx ⟨_, rfl, rfl⟩
  · rintro sl S ⟨z16, rfl, rfl⟩
    rw [List.length_range]
    exact q _
end
/-! BT12: the law k81. -/
section
variable {N i fl : Nat} {C : Store} {Q : D → Store → Prop} {X : Exc → Store → Prop} {P : RS → Prop} {f : Int × Int → Int} {d x : D} {xs ys : List D} {t : List Int} {T T1 T2 : List (List Int)} {n cap : Int} {wish lim r : List Int} {L : List T3} {z0 z1 z2 z3 z4 z5 z6 z7 z8 z9 z10 z11 z12 z13 z14 z15 z16 z17 z18 z19 z20 z21 z22 z23 : Option D}
theorem g8_of (hN : N ≤ 5) (hb : ∀ p, 0 ≤ f p ∧ f p ≤ 149) : G8 (degG N f) := ⟨by rw [degG_len]; exact hN, fun x hx => by
  obtain ⟨v, hv⟩ := List.mem_iff_getElem?.mp hx
  have v1 := (List.getElem?_eq_some_iff.mp hv).1
  rw [degG_len] at v1
  rw [degG_at v1] at hv
  obtain rfl := Option.some.inj hv
  have a : FF.dgr N (grO f) v ≤ FF.sm N fun _ => 149 := FF.sm_le fun u _ => (hb _).2
  rw [sm_k] at a
  exact ⟨FF.sm_pos fun u _ => (hb _).1, by omega⟩⟩
theorem mem_nxt {g : Nat → List Int} {j : Nat} (h : t ∈ nxt g j) : ∃ v, v < j ∧ t = g v := by
  obtain ⟨v, hv, rfl⟩ := List.mem_map.mp h
  exact ⟨v, List.mem_range.mp hv, rfl⟩
theorem sml_nxt {g : Nat → List Int} (hN : N ≤ 5) (h : ∀ v, v < N → (g v).length ≤ 750 ∧ ∀ y ∈ g v, -999999999999 ≤ y ∧ y ≤ 999999999999) : Sml8 (nxt g N) := ⟨by unfold nxt; simpa using hN, fun t ht => by
  obtain ⟨v, hv, rfl⟩ := mem_nxt ht
  exact h v hv⟩
theorem sqr_bd {k x : Int} (h0 : 0 ≤ k ∧ k ≤ 745) (hx : -10000 ≤ x ∧ x ≤ 10000) : 0 ≤ (k - x) * (k - x) ∧ (k - x) * (k - x) ≤ 1000000000 := by
  have a : 0 ≤ (k - x) * (k - x) := by
    rcases Int.le_total 0 (k - x) with h | h
    · exact Int.mul_nonneg h h
    · exact Int.mul_nonneg_of_nonpos_of_nonpos h h
  have b : (k - x) * (k - x) = (k - x).natAbs * (k - x).natAbs := by
    rw [Int.natAbs_mul_self']
  have c : (k - x).natAbs * (k - x).natAbs ≤ 10745 * 10745 := Nat.mul_le_mul (by omega) (by omega)
  refine ⟨a, ?_⟩
  rw [b]
  have d : (((k - x).natAbs : Nat) : Int) * ((k - x).natAbs : Nat) = (((k - x).natAbs * (k - x).natAbs : Nat) : Int) := by simp
  rw [d]
  omega
theorem sqr_cvx (l x : Int) : Cvx (sqrR l x) := fun k hk => by
  have e : ∀ j, j < (l + 1).toNat → rF (sqrR l x) j = ((j : Int) - x) * ((j : Int) - x) := fun j hj => by
    unfold rF sqrR
    rw [List.getD_eq_getElem?_getD, List.getElem?_map, List.getElem?_range hj]
    rfl
  have hl : (sqrR l x).length = (l + 1).toNat := by simp [sqrR]
  rw [hl] at hk
  rw [e k (by omega), e (k + 1) (by omega), e (k + 2) (by omega)]
  have z1 : (((k + 1 : Nat) : Int) - x) = ((k : Int) - x) + 1 := by omega
  have z2 : (((k + 2 : Nat) : Int) - x) = ((k : Int) - x) + 2 := by omega
  rw [z1, z2]
  generalize (k : Int) - x = a
  have e1 : (a + 1) * (a + 1) = a * a + 2 * a + 1 := by
    rw [Int.add_mul, Int.mul_add]
    omega
  have e2 : (a + 2) * (a + 2) = a * a + 4 * a + 4 := by
    rw [Int.add_mul, Int.mul_add]
    omega
  rw [e1, e2]
  omega
theorem tabs_sqr (g : G8 lim) (hw : wish.length = lim.length) (wb : ∀ x ∈ wish, -10000 ≤ x ∧ x ≤ 10000) : tabsK lim (tbD (two8 sqrR lim wish)) = true := by
  have l0 : (two8 sqrR lim wish).length = lim.length := by
    unfold two8
    rw [List.length_map, List.length_zip]
    omega
  show (decide (((two8 sqrR lim wish).map tI).length = lim.length) && (lim.zip ((two8 sqrR lim wish).map tI)).all fun p => tabK p.1 p.2) = true
  rw [List.length_map, l0, decide_eq_true rfl, Bool.true_and]
  refine List.all_eq_true.mpr fun p hp => ?_
  obtain ⟨k, hk, rfl⟩ := List.mem_iff_getElem.mp hp
  rw [List.length_zip] at hk
  have k1 : k < lim.length := by omega
  rw [List.getElem_zip]
  have e : ((two8 sqrR lim wish).map tI)[k]'(by rw [List.length_map, l0]; exact k1) = tI (sqrR (rF lim k) (rF wish k)) := by
    rw [List.getElem_map]
    have := two8_at sqrR hw
    have e2 : (two8 sqrR lim wish)[k]? = some (sqrR (rF lim k) (rF wish k)) := by
      rw [this, List.getElem?_map, List.getElem?_range k1]
      rfl
    rw [List.getElem?_eq_getElem (by omega)] at e2
    rw [Option.some.inj e2]
  have el : lim[k] = rF lim k := by
    have := rF_getE k1
    rw [List.getElem?_eq_getElem k1] at this
    exact Option.some.inj this
  have gb := g.at k1
  have wk : -10000 ≤ rF wish k ∧ rF wish k ≤ 10000 := wb _ (List.mem_of_getElem? (rF_getE (by omega)))
  show tabK lim[k] _ = true
  rw [e, el]
  have ei : ((sqrR (rF lim k) (rF wish k)).map D.int).map toI = sqrR (rF lim k) (rF wish k) := by
    rw [List.map_map]
    exact List.map_id _
  show (decide ((((sqrR (rF lim k) (rF wish k)).map D.int).length : Int) = rF lim k + 1) && (((sqrR (rF lim k) (rF wish k)).map D.int).all numK && cvxB (((sqrR (rF lim k) (rF wish k)).map D.int).map toI))) = true
  rw [ei, List.length_map, decide_eq_true (by unfold sqrR; simp; omega), Bool.true_and, Bool.and_eq_true]
  refine ⟨List.all_eq_true.mpr fun y hy => ?_, cvxB_iff.mpr (sqr_cvx _ _)⟩
  obtain ⟨z, hz, rfl⟩ := List.mem_map.mp hy
  obtain ⟨j, hj, rfl⟩ := List.mem_map.mp hz
  have hj := List.mem_range.mp hj
  have := sqr_bd (k := (j : Int)) (x := rF wish k) (by omega) wk
  show (decide _ && decide _) = true
  rw [decide_eq_true (by omega), decide_eq_true (by omega)]
  rfl
/-! ### doors -/
theorem fit6 (lt : LiT N cap L) (hN : N ≤ 5) (c1 : 1 ≤ cap) (c2 : cap ≤ 150) : Fits 6 L := by
  have n25 : N * N ≤ 5 * 5 := Nat.mul_le_mul hN hN
  have lL := lt.l
  exact ⟨by decide, fun t ht => by
    obtain ⟨a1, a2, a3, a4, a5⟩ := (lt.v t ht).1
    exact ⟨a1, by omega, a3, by omega, a5⟩, by omega, fun u v _ _ => by have := lt.le c1 (min (u : Int) v, max (u : Int) v); omega⟩
theorem fits_1 {u v n : Int} {M : Nat} (hM : M ≤ 60) (h : ValidT M (u, v, n)) : Fits M [(u, v, n)] := ⟨hM, fun t ht => by rw [List.mem_singleton.mp ht]; exact h, by simp, fun a b _ _ => by
  show dg0 (sums [(u, v, n)]) _ ≤ _
  rw [dg0_sums]
  have : n ≤ 1000000000 := h.2.2.2.2.2.2
  show (if pr (u, v, n) = _ then n else 0) + 0 ≤ 1000000000
  split <;> omega⟩
theorem one_bd {u v n : Int} (h : 0 ≤ n) (p : Int × Int) : 0 ≤ fL [(u, v, n)] p ∧ fL [(u, v, n)] p ≤ n := by
  show 0 ≤ dg0 (sums [(u, v, n)]) _ ∧ dg0 (sums [(u, v, n)]) _ ≤ _
  rw [dg0_sums]
  show 0 ≤ (if pr (u, v, n) = _ then n else 0) + 0 ∧ (if pr (u, v, n) = _ then n else 0) + 0 ≤ n
  split <;> omega
theorem one_fok {u v n : Int} {M : Nat} (hM : M ≤ 60) (h : ValidT M (u, v, n)) : FOk M (fL [(u, v, n)]) := by
  have := fits_1 hM h
  refine ⟨hM, fun p => ?_, fun p hp => ?_⟩
  · have n0 : 0 ≤ n := h.2.2.2.2.2.1
    have := one_bd (u := u) (v := v) n0 p
    have : n ≤ 1000000000 := h.2.2.2.2.2.2
    omega
  · show dg0 (sums [(u, v, n)]) p = 0
    rw [dg0_sums]
    show (if pr (u, v, n) = p then n else 0) + 0 = 0
    rw [if_neg fun e => hp (by
      have a1 : 0 ≤ u := h.1
      have a2 : u < M := h.2.1
      have a3 : 0 ≤ v := h.2.2.1
      have a4 : v < M := h.2.2.2.1
      have a5 : u ≠ v := h.2.2.2.2.1
      rw [← e]
      exact mem_pairsI.mpr ⟨by simp only [pr]; omega, by simp only [pr]; omega, by simp only [pr]; omega⟩)]
    rfl
end
/-! BT13: the law k81 (law_true). -/
section
variable {N i fl : Nat} {C : Store} {Q : D → Store → Prop} {X : Exc → Store → Prop} {P : RS → Prop} {f : Int × Int → Int} {d x : D} {xs ys : List D} {t : List Int} {T T1 T2 : List (List Int)} {n cap : Int} {wish lim r : List Int} {L : List T3} {z0 z1 z2 z3 z4 z5 z6 z7 z8 z9 z10 z11 z12 z13 z14 z15 z16 z17 z18 z19 z20 z21 z22 z23 : Option D}
theorem size8_int : ∀ x : Int, x ∈ ([3, 4, 2, 5, 1, 0] : List Int) → 0 ≤ x ∧ x ≤ 5 := by
  intro x h
  simp only [List.mem_cons, List.not_mem_nil, or_false] at h
  omega
theorem cap8_int : ∀ x : Int, x ∈ ([30, 8, 150] : List Int) → 1 ≤ x ∧ x ≤ 150 := by
  intro x h
  simp only [List.mem_cons, List.not_mem_nil, or_false] at h
  omega
def doorsQ : PyData := .list [.tuple [.str "TooMany", .int 5], .tuple [.str "TooMany", .int 5], .tuple [.str "TooMany", .int 1024], .tuple [.str "let", .int 2]]
theorem ne_doors (C : Store) : oEqA true (.lst [.tup [.str "TooMany", .int 5], .tup [.str "TooMany", .int 5], .tup [.str "TooMany", .int 1024], .tup [.str "let", .int 2]]) (.lst [.tup [.str "TooMany", .int 5], .tup [.str "TooMany", .int 5], .tup [.str "TooMany", .int 1024], .tup [.str "let", .int 2]]) C = some (.bl false, C) := by
  have e : ∀ a b : List D, oEqA true (.lst a) (.lst b) C = oEqD true (.lst a) (.lst b) C := fun a b => rfl
  rw [e]
  exact eqD_same (p := doorsQ) rfl rfl (by decide +kernel) (by decide +kernel) true
theorem doors_w (hN : N ≤ 5) (lt : LiT N cap L) (c1 : 1 ≤ cap) (c2 : cap ≤ 150) {b : Bool} (q : ∀ z18, P (.nx [z0, z1, z2, z3, some (.lst (L.map triD)), z5, z6, z7, z8, z9, z10, z11, z12, z13, z14, z15, z16, some (.bl b), z18, z19, z20, z21, z22, z23] C)) :
    wS (b_law_1b_16 ⟨0, [z0, z1, z2, z3, some (.lst (L.map triD)), z5, z6, z7, z8, z9, z10, z11, z12, z13, z14, z15, z16, some (.bl b), z18, z19, z20, z21, z22, z23]⟩ C) (CT.thn (sSeq b_law_1b_17 b_law_1b_18) 0 P) := by
  unfold b_law_1b_16
  walk_at "p"
  refine door_raise (n := 5) (N := 6) (fit6 lt hN c1 c2) (by decide) (fun S => light_big (by decide) ⟨rfl, rfl⟩) ?_
  walk_at "p"
  refine door_raise (n := 5) (N := 6) (L := [(0, 1, 1024)]) (fits_1 (by decide) ⟨by decide, by decide, by decide, by decide, by decide, by decide, by decide⟩) (by decide) (fun S => light_big (by decide) ⟨rfl, rfl⟩) ?_
  walk_at "p"
  unfold b_law_1b_17
  walk_at "p"
  have v5 : ValidT 5 (0, 3, 1024) := ⟨by decide, by decide, by decide, by decide, by decide, by decide, by decide⟩
  have v2 : ValidT 2 (0, 1, 1023) := ⟨by decide, by decide, by decide, by decide, by decide, by decide, by decide⟩
  refine door_raise (n := 1024) (N := 5) (L := [(0, 3, 1024)]) (fits_1 (by decide) v5) (by decide) (fun S => light_heavy (by decide) (one_fok (by decide) v5) (by decide +kernel) ⟨rfl, rfl⟩) ?_
  walk_at "p"
  refine door_let (N := 2) (L := [(0, 1, 1023)]) (by decide) (fits_1 (by decide) v2) (by decide) (one_fok (by decide) v2) ⟨by decide +kernel, by decide +kernel⟩ (one_bd (by decide)) ?_
  walk_at "p"
  refine wo_of (cat_LL [_, _] [_, _] (by simp) _) ?_
  walk_at "p"
  unfold b_law_1b_18
  walk_at "p"
  refine wo_of (ne_doors _) ?_
  walk_at "p"
  exact q _
theorem turn_w (hB : Bg 0 C) (q : ∀ C' sl, Bg 0 C' → (∃ z2 z3 z4 z5 z6 z7 z8 z9 z10 z11 z12 z13 z14 z15 z16 z17 z18 z19 z20 z21 z22 z23, sl = [z0, some (.cell 0), z2, z3, z4, z5, z6, z7, z8, z9, z10, z11, z12, z13, z14, z15, z16, z17, z18, z19, z20, z21, z22, z23]) → P (.nx sl C')) :
    wS ((sSeq b_law_1b_0 (sSeq b_law_1b_1 (sSeq b_law_1b_2 (sSeq b_law_1b_3 (sSeq b_law_1b_4 (sSeq b_law_1b_5 (sSeq b_law_1b_6 (sSeq b_law_1b_7 (sSeq b_law_1b_8 (sSeq b_law_1b_9 (sSeq b_law_1b_10 (sSeq b_law_1b_11 (sSeq b_law_1b_12 (sSeq b_law_1b_13 (sSeq b_law_1b_14 (sSeq b_law_1b_15 (sSeq b_law_1b_16 (sSeq b_law_1b_17 b_law_1b_18)))))))))))))))))) ⟨0, [z0, some (.cell 0), z2, z3, z4, z5, z6, z7, z8, z9, z10, z11, z12, z13, z14, z15, z16, z17, z18, z19, z20, z21, z22, z23]⟩ C) P := by
  walk_at "p"
  unfold b_law_1b_0
  walk_at "p"
  refine one_0 (xs := ([3, 4, 2, 5, 1, 0] : List Int).map .int) hB (by simp) (by simp) (cbL_ints _ _) fun d C1 hd u1 => ?_
  obtain ⟨n, hn, rfl⟩ := List.mem_map.mp hd
  obtain ⟨n0, n1⟩ := size8_int n hn
  obtain ⟨N, rfl⟩ : ∃ N : Nat, n = (N : Int) := ⟨n.toNat, by omega⟩
  have hN : N ≤ 5 := by omega
  walk_at "p"
  unfold b_law_1b_1
  walk_at "p"
  refine one_0 (xs := ([30, 8, 150] : List Int).map .int) u1.bg (by simp) (by simp) (cbL_ints _ _) fun d C2 hd u2 => ?_
  obtain ⟨cap, hc, rfl⟩ := List.mem_map.mp hd
  obtain ⟨c1, c2⟩ := cap8_int cap hc
  walk_at "p"
  refine law_light_w u2.bg hN (by omega) (by omega) fun L C3 u3 lt => ?_
  have hf := lt.fok (by omega) c1 (by omega)
  have hli := lt.light (by omega)
  have fits := lt.fits (by omega) c1 (by omega)
  have n25 : N * N ≤ 5 * 5 := Nat.mul_le_mul hN hN
  have lL := lt.l
  have fb : ∀ p, 0 ≤ fL L p ∧ fL L p ≤ 149 := fun p => ⟨lt.nn p, by have := lt.le c1 p; omega⟩
  walk_at "p"
  unfold b_law_1b_2
  walk_at "p"
  refine w_mkT ?_
  walk_at "p"
  refine w_of (make_ok (L := L) (d := .lst (L.map triD)) (ds := [.int N, .lst (L.map triD)]) fits (.inl rfl) rfl rfl) ?_
  walk_at "p"
  refine lgrid_w (by omega) (fun t ht => (lt.v t ht).1) ?_
  walk_at "p"
  refine ⟨_, rfl, ?_⟩
  walk_at "p"
  unfold b_law_1b_3
  walk_at "p"
  refine ⟨_, rfl, ?_⟩
  refine lcY (l := rowsOf N (fL L)) (enc := fun r => .lst (r.map .int)) (pure_C _) (fun r => .int r.sum) (by simp [rowsOf]; omega) (fun r hr => ⟨_, rfl, fun acc => ?_⟩) (fun _ _ => rfl) ?_
  · walk_at "p"
    refine wo_of (sum_ints r _) ?_
    exact ⟨rfl, rfl⟩
  rw [show ((rowsOf N (fL L)).map fun r => D.int r.sum) = (degG N (fL L)).map .int by unfold degG; rw [List.map_map]; rfl]
  have g8 := g8_of (f := fL L) hN fb
  have dl : (degG N (fL L)).length = N := degG_len
  walk_at "p"
  unfold b_law_1b_4
  walk_at "p"
  refine tabs8_w u3.bg g8 fun T1 C4 h1 u4 => ?_
  walk_at "p"
  unfold b_law_1b_5
  walk_at "p"
  refine tabs8_w u4.bg g8 fun T2 C5 h2 u5 => ?_
  walk_at "p"
  have tl1 := h1.tl g8
  have tl2 := h2.tl g8
  rw [show D.tup (T1.map tI) = tbD T1 from rfl, show D.tup (T2.map tI) = tbD T2 from rfl]
  refine things_w hN u5.bg g8 tl1 tl2 fun C6 z10 b6 => ?_
  walk_at "p"
  unfold b_law_1b_7
  walk_at "p"
  refine row8_w b6 g8 fun r C7 rl rb u7 => ?_
  walk_at "p"
  have r1 := row8_of h1 rl rb
  unfold b_law_1b_8
  walk_at "p"
  rw [show D.tup (r.map D.int) = tI r from rfl]
  have l1 := tl1.l
  refine displeasure_8 (by omega) r1 ?_
  walk_at "p"
  refine law_cost_8 (by omega) r1 ?_
  have cb := cst_bd (T := T1) (r := r) h1.bd
  walk_at "p"
  refine alike_same (gd_int (i := cst T1 r) (by omega)) (by decide) (by decide) ?_
  refine ⟨true, rfl, wI_f ?_⟩
  walk_at "p"
  unfold b_law_1b_9
  refine w_asgT ?_
  walk_at "p"
  refine law_wish_w (lim := degG N (fL L)) u7.bg (by omega) (fun x hx => by have := g8.bd x hx; omega) fun wish C8 wl wb u8 => ?_
  walk_at "p"
  rw [show (C8 ++ [some (Cell.lst [])]).length = C8.length + 1 by simp, show (C8 ++ [some (Cell.lst [])] ++ [some (Cell.lst [])]).length = C8.length + 2 by simp, show C8 ++ [some (Cell.lst [])] ++ [some (Cell.lst [])] ++ [some (Cell.lst [])] = C8 ++ [dL [], dL [], dL []] by simp [dL]]
  refine ⟨_, _, rfl, rfl, ?_⟩
  walk_at "p"
  refine lists_w (N := N) dl g8 h1 h2 wl wb fun z16 => ?_
  have sa : Sml8 (nxt (fun v => absR (rF (degG N (fL L)) v) (rF wish v)) N) := sml_nxt hN fun v hv => by
    have gb := g8.at (v := v) (by omega)
    have wv : -10000 ≤ rF wish v ∧ rF wish v ≤ 10000 := wb _ (List.mem_of_getElem? (rF_getE (by omega)))
    refine ⟨by unfold absR; simp; omega, fun y hy => ?_⟩
    obtain ⟨k, hk, rfl⟩ := List.mem_map.mp hy
    have := List.mem_range.mp hk
    omega
  have ss : Sml8 (nxt (fun v => sqrR (rF (degG N (fL L)) v) (rF wish v)) N) := sml_nxt hN fun v hv => by
    have gb := g8.at (v := v) (by omega)
    have wv : -10000 ≤ rF wish v ∧ rF wish v ≤ 10000 := wb _ (List.mem_of_getElem? (rF_getE (by omega)))
    refine ⟨by unfold sqrR; simp; omega, fun y hy => ?_⟩
    obtain ⟨k, hk, rfl⟩ := List.mem_map.mp hy
    have := List.mem_range.mp hk
    have := sqr_bd (k := (k : Int)) (x := rF wish v) (by omega) wv
    omega
  have sd : Sml8 (nxt (fun v => addR (T1.getD v []) (T2.getD v [])) N) := sml_nxt hN fun v hv => by
    have gb := g8.at (v := v) (by omega)
    have a1 := h1.at_ v (by omega)
    have in1 : T1.getD v [] ∈ T1 := by
      have := h1.len
      rw [List.getD_eq_getElem?_getD, List.getElem?_eq_getElem (by omega)]
      exact List.getElem_mem _
    have in2 : T2.getD v [] ∈ T2 := by
      have := h2.len
      rw [List.getD_eq_getElem?_getD, List.getElem?_eq_getElem (by omega)]
      exact List.getElem_mem _
    refine ⟨by unfold addR; rw [List.length_map, List.length_zip]; omega, fun y hy => ?_⟩
    obtain ⟨p, hp, rfl⟩ := List.mem_map.mp hy
    have m := List.of_mem_zip hp
    have b1 := h1.bd _ in1 _ m.1
    have b2 := h2.bd _ in2 _ m.2
    omega
  have e1 : two8 absR (degG N (fL L)) wish = nxt (fun v => absR (rF (degG N (fL L)) v) (rF wish v)) N := by
    rw [two8_at _ wl, dl]
    rfl
  have e2 : two8 sqrR (degG N (fL L)) wish = nxt (fun v => sqrR (rF (degG N (fL L)) v) (rF wish v)) N := by
    rw [two8_at _ wl, dl]
    rfl
  have e3 : ((T1.zip T2).map fun p => addR p.1 p.2) = nxt (fun v => addR (T1.getD v []) (T2.getD v [])) N := by
    rw [zip_add8 h1.len h2.len, dl]
    rfl
  have tq := tabs_sqr g8 wl wb
  have fb2 : ∀ p, 0 ≤ fL L p ∧ fL L p ≤ 1023 := fun p => by have := fb p; omega
  have dw := fun {Q : D → Store → Prop} {X : Exc → Store → Prop} {S : Store} h => distances_w (Q := Q) (X := X) (C := S) hN hf hli fb2 wb h
  have sw := fun {Q : D → Store → Prop} {X : Exc → Store → Prop} {S : Store} h => squares_w (Q := Q) (X := X) (C := S) hN hf hli fb2 wb h
  rw [e1] at dw
  rw [e2] at sw tq
  have ad := fun {Q : D → Store → Prop} {X : Exc → Store → Prop} {S : Store} h => added_w (T := T1) (T2 := T2) (Q := Q) (X := X) (C := S) (by omega) (fun t ht => by have := (tl1.n t ht).2.1; omega) h
  rw [e3] at ad
  generalize nxt (fun v => absR (rF (degG N (fL L)) v) (rF wish v)) N = A at sa dw ⊢
  generalize nxt (fun v => sqrR (rF (degG N (fL L)) v) (rF wish v)) N = B at ss sw tq ⊢
  generalize nxt (fun v => addR (T1.getD v []) (T2.getD v [])) N = D3 at sd ad ⊢
  walk_at "p"
  unfold b_law_1b_11
  walk_at "p"
  refine dw ?_
  walk_at "p"
  refine wo_tupC (xs := A.map tI) (by rw [g3_0]; rfl) ?_
  walk_at "p"
  rw [show D.tup (A.map tI) = tbD A from rfl]
  refine alike_tb sa ?_
  refine ⟨true, rfl, wI_f ?_⟩
  walk_at "p"
  unfold b_law_1b_12
  walk_at "p"
  refine sw ?_
  walk_at "p"
  refine wo_tupC (xs := B.map tI) (by rw [g3_1]; rfl) ?_
  walk_at "p"
  rw [show D.tup (B.map tI) = tbD B from rfl]
  refine alike_tb ss ?_
  refine ⟨true, rfl, wI_f ?_⟩
  walk_at "p"
  unfold b_law_1b_13
  walk_at "p"
  refine ad ?_
  walk_at "p"
  refine wo_tupC (xs := D3.map tI) (by rw [g3_2]; rfl) ?_
  walk_at "p"
  rw [show D.tup (D3.map tI) = tbD D3 from rfl]
  refine alike_tb sd ?_
  refine ⟨true, rfl, wI_f ?_⟩
  walk_at "p"
  unfold b_law_1b_14
  walk_at "p"
  refine sw ?_
  walk_at "p"
  refine is_tables_w (by omega) (flat_tb _) (short_tb (by have := ss.l; omega) fun t ht => by have := (ss.n t ht).1; omega) ?_
  rw [tq]
  walk_at "p"
  refine wo_of (show oIsB true (.bl true) (.bl true) _ = some (.bl false, _) from rfl) ?_
  refine ⟨false, rfl, wI_f ?_⟩
  walk_at "p"
  refine wide_right_w (u8.bg.app _) hN lt c1 c2 fun C9 u9 => ?_
  refine ⟨true, rfl, wI_f ?_⟩
  walk_at "p"
  unfold b_law_1b_15
  walk_at "p"
  refine take_n0 u9.bg (by decide) (by decide) fun b C10 b0 b1 u10 => ?_
  walk_at "p"
  refine doors_w hN lt c1 c2 fun z18 => ?_
  exact q _ _ u10.bg ⟨_, _, _, _, _, _, _, _, _, _, _, _, _, _, _, _, _, _, _, _, _, _, rfl⟩
end
theorem law_true (ns : List Int) (hl : ns.length ≤ 63) : ∃ C, m_law [scrD ns] [] = .ok (.bl true) C := by
  obtain ⟨cs, hcs, eb⟩ := bag_ok ns hl
  have hB : Bg 0 [some (bagC 0 1234567891 0 cs)] := ⟨cs, hcs, 0, 1234567891, 0, rfl, by decide, by decide, by decide, by decide⟩
  refine ⟨[], w_eqv ?_⟩
  rw [e_law]
  apply w_fin
  unfold b_law b_law_0
  walk_at "p"
  refine w_of eb ?_
  walk_at "p"
  unfold b_law_1
  walk_at "p"
  refine ⟨inR_of (by decide) (by decide), ?_⟩
  refine loopM (l := List.range 3) (enc := fun k : Nat => .int (k : Int)) (pureR0 3) (fun j sl S => Bg 0 S ∧ ∃ z2 z3 z4 z5 z6 z7 z8 z9 z10 z11 z12 z13 z14 z15 z16 z17 z18 z19 z20 z21 z22 z23, sl = [some (scrD ns), some (.cell 0), z2, z3, z4, z5, z6, z7, z8, z9, z10, z11, z12, z13, z14, z15, z16, z17, z18, z19, z20, z21, z22, z23]) ⟨hB, _, _, _, _, _, _, _, _, _, _, _, _, _, _, _, _, _, _, _, _, _, _, rfl⟩ ?_ ?_
  · rintro j k sl S _ ⟨hB, z2, z3, z4, z5, z6, z7, z8, z9, z10, z11, z12, z13, z14, z15, z16, z17, z18, z19, z20, z21, z22, z23, rfl⟩
    refine ⟨_, rfl, ?_⟩
    refine turn_w hB fun C' sl b h => ?_
    obtain ⟨z2, z3, z4, z5, z6, z7, z8, z9, z10, z11, z12, z13, z14, z15, z16, z17, z18, z19, z20, z21, z22, z23, rfl⟩ := h
    exact lp_nx ⟨b, _, _, _, _, _, _, _, _, _, _, _, _, _, _, _, _, _, _, _, _, _, _, rfl⟩
  · rintro sl S ⟨hB, z2, z3, z4, z5, z6, z7, z8, z9, z10, z11, z12, z13, z14, z15, z16, z17, z18, z19, z20, z21, z22, z23, rfl⟩
    walk_at "p"
    unfold b_law_2
    walk_at "p"
    exact ⟨rfl, rfl⟩
end CL
theorem PySem.Challenge.cw_contentties_k81_tables_holds : PySem.Challenge.rw_contentties_k81_tables.Holds :=
  CL.holds_of fun ns hl => CL.law_true ns hl
