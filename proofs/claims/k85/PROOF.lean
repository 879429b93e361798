import PyProof.Rows.All
import Wide.All
import OpenK.AllK
import Wide.FinOn
import HandS.ForMost
import HandS.Exc
import HandS.CallSlots
import HandS.Wide
import HandS.Style
import HandS.More
import HandS.Defaults
import HandS.WordsExc
import HandS.Property
import PyProof.ReprRoads
import HandS.TupAny
import HandS.RaiseMore
import HandS.IsInst
import HandS.Codes
import HandS.Conv
import KE.SortData
import KE.KDictSum
import KE.KDictCopyH
import KE.GoesMore
import HandS.Iter
import HandS.Words
import HandS.Head0
import HandS.Head1
import HandS.Head2
import HandS.HeadEnd
import HandS.HeadHook1
import HandS.HeadHook2
import HandS.EndBits
import OpenK.KMeth
import HandS.SlotsOwn
import KE.KRevSl
import HandS.ExcInit
import HandS.ExcField
import HandS.ExcIs
import HandS.SetFor
import HandS.TupSets
import HandS.Strs
import KE.DataFind
import HandS.MakeKwOnly
import HandS.FStr
import HandS.Text
import KE.KCallOwn
import HandS.ClsMeth
import HandS.CallLocal
import HandS.HeadNt
import HandS.Small
import HandS.Flow
import HandS.TupMul
import HandS.Zip
import KE.DataMinMax
import HandS.SortKw
import KE.KOpsOwn
import HandS.SetBool
import HandS.OwnEq
import HandS.GenList
import KE.GoesEnum
import HandS.TupLen
import HandS.Flt
import PySem.Challenge.RW_contentties_k85_whole_best_rows
set_option Elab.async false
set_option linter.all false
set_option maxRecDepth 100000
set_option maxHeartbeats 4000000
/-! DL1: plain data, a store of changing cells, how they lie in the abstract heap; expressions. -/
namespace CT
open PySem L2
/-! ### the domain -/
inductive D where
  | non | bl (b : Bool) | int (i : Int) | str (s : Str)
  | lst (xs : List D) | tup (xs : List D) | scr (xs : List D) | kt (xs : List D)
  | obj (c : Nat) (fs : List D)
  | dT (ks : List (List Key)) (vs : List D)
  | cell (i : Nat)
  | exn (c : Nat) (fs : List D)
  | cls (c : Nat)
inductive Cell where
  | lst (xs : List D)
  | dT (ks : List (List Key)) (vs : List D)
  | ins (c : Nat) (fs : List D)
abbrev Store := List (Option Cell)
structure Exc where
  c : Nat
  fs : List D
inductive R (α : Type) where
  | ok (a : α) (C : Store)
  | exc (e : Exc) (C : Store)
  | stuck
/-- a def's frame: the cells below fl are its callers'; the slots -/
structure Fr where
  fl : Nat
  sl : List (Option D)
abbrev ME := Fr → Store → R D
def ofO : Option (D × Store) → R D
  | some (d, C) => .ok d C
  | none => .stuck
def bnd {α β : Type} (m : R α) (f : α → Store → R β) : R β := match m with
  | .ok a C => f a C
  | .exc e C => .exc e C
  | .stuck => .stuck
@[simp] theorem bnd_ok {α β : Type} (a : α) (C : Store) (f : α → Store → R β) : bnd (.ok a C) f = f a C := rfl
@[simp] theorem bnd_exc {α β : Type} (e : Exc) (C : Store) (f : α → Store → R β) : bnd (.exc e C) f = .exc e C := rfl
@[simp] theorem bnd_stuck {α β : Type} (f : α → Store → R β) : bnd .stuck f = .stuck := rfl
mutual
def cb (n : Nat) : D → Bool
  | .lst xs => cbL n xs
  | .tup xs => cbL n xs
  | .scr xs => cbL n xs
  | .kt xs => cbL n xs
  | .obj _ fs => cbL n fs
  | .exn _ fs => cbL n fs
  | .cls _ => true
  | .dT _ vs => cbL n vs
  | .cell i => decide (i < n)
  | .non => true | .bl _ => true | .int _ => true | .str _ => true
def cbL (n : Nat) : List D → Bool
  | [] => true
  | d :: ds => cb n d && cbL n ds
end
/-! ### how data lie in the heap -/
structure Cn where
  K : PySem.W.Frag
  cl : Nat → Addr
  fn : Nat → List Str
  /-- the error that is held: its place, its class, its dict -/
  ex : Option (Addr × Nat × Addr) := none
def Live (A : Nat → Addr) (C : Store) (a : Addr) : Prop := ∃ i c, C[i]? = some (some c) ∧ A i = a
/-- the written part's list -/
def KL (K : PySem.W.Frag) (a : Addr) (xs : List V) : Prop := ∃ (o : Obj) (its : Array Value) (n : Nat), List.lookup a K = some o ∧ o.cls = Value.type "list" ∧ o.dict = none ∧ o.data = Data.seq its n ∧ its.size ≤ sizeLine ∧ Vals xs its.toList
/-- the written part's tuple -/
def KT (K : PySem.W.Frag) (a : Addr) (xs : List V) : Prop := ∃ o its n, List.lookup a K = some o ∧ o.cls = Value.type "tuple" ∧ o.data = Data.seq its n ∧ its.size ≤ sizeLine ∧ Vals xs its.toList
mutual
inductive Rep (k : Cn) (A : Nat → Addr) (C : Store) (H : Hp) : V → D → Prop where
  | non : Rep k A C H .non .non
  | bl (b : Bool) : Rep k A C H (.bl b) (.bl b)
  | int (i : Int) : Rep k A C H (.int i) (.int i)
  | str (s : Str) : Rep k A C H (.str s) (.str s)
  | lst {a : Addr} {vs : List V} {ds : List D} : ¬ Live A C a → H a = some (.lst vs) → RepL k A C H vs ds → Rep k A C H (.ref a) (.lst ds)
  | tup {a : Addr} {vs : List V} {ds : List D} : ¬ Live A C a → H a = some (.tup vs) → RepL k A C H vs ds → Rep k A C H (.ref a) (.tup ds)
  | ktup {a : Addr} {vs : List V} {ds : List D} : KT k.K a vs → RepL k A C H vs ds → Rep k A C H (.ref a) (.kt ds)
  | scr {a : Addr} {vs : List V} {ds : List D} {o : Obj} : ¬ Live A C a → H a = some (.frz o (.lst vs)) → RepL k A C H vs ds → Rep k A C H (.ref a) (.scr ds)
  | kscr {a : Addr} {vs : List V} {ds : List D} : KL k.K a vs → RepL k A C H vs ds → Rep k A C H (.ref a) (.scr ds)
  | obj {a dx : Addr} {c : Nat} {vs : List V} {ds : List D} : ¬ Live A C a → H a = some (.ins (k.cl c) dx ((k.fn c).zip vs)) → vs.length = (k.fn c).length → RepL k A C H vs ds → Rep k A C H (.ref a) (.obj c ds)
  | dT {a : Addr} {kvs : List (List Key × V)} {ds : List D} : ¬ Live A C a → H a = some (.dT kvs) → RepL k A C H (kvs.map (·.2)) ds → Rep k A C H (.ref a) (.dT (kvs.map (·.1)) ds)
  | cell {i : Nat} : i < C.length → Rep k A C H (.ref (A i)) (.cell i)
  | cls (c : Nat) : Rep k A C H (.ref (k.cl c)) (.cls c)
  | exn {a dd : Addr} {c : Nat} {vs : List V} {ds : List D} : k.ex = some (a, c, dd) → ¬ Live A C dd → H dd = some (.xd ((k.fn c).zip vs)) → vs.length = (k.fn c).length → RepL k A C H vs ds → Rep k A C H (.ref a) (.exn c ds)
inductive RepL (k : Cn) (A : Nat → Addr) (C : Store) (H : Hp) : List V → List D → Prop where
  | nil : RepL k A C H [] []
  | cons {v : V} {d : D} {vs : List V} {ds : List D} : Rep k A C H v d → RepL k A C H vs ds → RepL k A C H (v :: vs) (d :: ds)
end
section
variable {k : Cn} {A A' : Nat → Addr} {C C' : Store} {H H' : Hp} {v : V} {d : D} {vs : List V} {ds : List D}
theorem RepL.length : ∀ {vs : List V} {ds : List D}, RepL k A C H vs ds → vs.length = ds.length
  | _, _, .nil => rfl
  | _, _, .cons _ t => by simp [RepL.length t]
theorem RepL.append : ∀ {vs ws : List V} {ds es : List D}, RepL k A C H vs ds → RepL k A C H ws es → RepL k A C H (vs ++ ws) (ds ++ es)
  | _, _, _, _, .nil, t => t
  | _, _, _, _, .cons r s, t => .cons r (RepL.append s t)
theorem RepL.take : ∀ {vs : List V} {ds : List D} (n : Nat), RepL k A C H vs ds → RepL k A C H (vs.take n) (ds.take n)
  | _, _, 0, _ => by simp; exact .nil
  | _, _, _ + 1, .nil => .nil
  | _, _, n + 1, .cons r t => .cons r (RepL.take n t)
theorem RepL.drop : ∀ {vs : List V} {ds : List D} (n : Nat), RepL k A C H vs ds → RepL k A C H (vs.drop n) (ds.drop n)
  | _, _, 0, r => r
  | _, _, _ + 1, .nil => .nil
  | _, _, n + 1, .cons _ t => RepL.drop n t
theorem RepL.set {v : V} {d : D} (r : Rep k A C H v d) : ∀ {vs : List V} {ds : List D} (i : Nat), RepL k A C H vs ds → RepL k A C H (vs.set i v) (ds.set i d)
  | _, _, _, .nil => .nil
  | _, _, 0, .cons _ t => .cons r t
  | _, _, i + 1, .cons q t => .cons q (RepL.set r i t)
theorem RepL.rep : ∀ {vs : List V} {ds : List D} (n : Nat), RepL k A C H vs ds → RepL k A C H (List.replicate n vs).flatten (List.replicate n ds).flatten
  | _, _, 0, _ => by simp; exact .nil
  | _, _, n + 1, r => by
    rw [List.replicate_succ, List.replicate_succ, List.flatten_cons, List.flatten_cons]
    exact r.append (RepL.rep n r)
/-- every reading stays if the not-live objects stay and the live ones are the old ones, or new -/
structure Kp (A : Nat → Addr) (C : Store) (H : Hp) (A' : Nat → Addr) (C' : Store) (H' : Hp) : Prop where
  at_ : ∀ a o, ¬ Live A C a → H a = some o → ¬ Live A' C' a ∧ H' a = some o
  ix : ∀ i, i < C.length → A' i = A i
  len : C.length ≤ C'.length
mutual
theorem Rep.kp (q : Kp A C H A' C' H') : ∀ {v : V} {d : D}, Rep k A C H v d → Rep k A' C' H' v d
  | _, _, .non => .non
  | _, _, .bl b => .bl b
  | _, _, .int i => .int i
  | _, _, .str s => .str s
  | _, _, .lst l h r => .lst (q.at_ _ _ l h).1 (q.at_ _ _ l h).2 (r.kp q)
  | _, _, .tup l h r => .tup (q.at_ _ _ l h).1 (q.at_ _ _ l h).2 (r.kp q)
  | _, _, .ktup h r => .ktup h (r.kp q)
  | _, _, .scr l h r => .scr (q.at_ _ _ l h).1 (q.at_ _ _ l h).2 (r.kp q)
  | _, _, .kscr h r => .kscr h (r.kp q)
  | _, _, .obj l h z r => .obj (q.at_ _ _ l h).1 (q.at_ _ _ l h).2 z (r.kp q)
  | _, _, .dT l h r => .dT (q.at_ _ _ l h).1 (q.at_ _ _ l h).2 (r.kp q)
  | _, _, .cell (i := i) hi => by
    rw [← q.ix i hi]
    exact .cell (Nat.lt_of_lt_of_le hi q.len)
  | _, _, .exn x l h z r => .exn x (q.at_ _ _ l h).1 (q.at_ _ _ l h).2 z (r.kp q)
  | _, _, .cls c => .cls c
theorem RepL.kp (q : Kp A C H A' C' H') : ∀ {vs : List V} {ds : List D}, RepL k A C H vs ds → RepL k A' C' H' vs ds
  | _, _, .nil => .nil
  | _, _, .cons r t => .cons (r.kp q) (t.kp q)
end
mutual
theorem Rep.cb : ∀ {v : V} {d : D}, Rep k A C H v d → cb C.length d = true
  | _, _, .non => rfl
  | _, _, .bl b => rfl
  | _, _, .int i => rfl
  | _, _, .str s => rfl
  | _, _, .lst l h r => by simpa [CT.cb] using r.cb
  | _, _, .tup l h r => by simpa [CT.cb] using r.cb
  | _, _, .ktup h r => by simpa [CT.cb] using r.cb
  | _, _, .scr l h r => by simpa [CT.cb] using r.cb
  | _, _, .kscr h r => by simpa [CT.cb] using r.cb
  | _, _, .obj l h z r => by simpa [CT.cb] using r.cb
  | _, _, .dT l h r => by simpa [CT.cb] using r.cb
  | _, _, .cell (i := i) hi => by simpa [CT.cb] using hi
  | _, _, .exn x l h z r => by simpa [CT.cb] using r.cb
  | _, _, .cls c => rfl
theorem RepL.cb : ∀ {vs : List V} {ds : List D}, RepL k A C H vs ds → cbL C.length ds = true
  | _, _, .nil => rfl
  | _, _, .cons r t => by simp [CT.cbL, r.cb, t.cb]
end
/-- fewer live cells, all that is named still there -/
structure Fw (A : Nat → Addr) (C C' : Store) : Prop where
  lv : ∀ a, Live A C' a → Live A C a
mutual
theorem Rep.fw (q : Fw A C C') : ∀ {v : V} {d : D}, Rep k A C H v d → CT.cb C'.length d = true → Rep k A C' H v d
  | _, _, .non, _ => .non
  | _, _, .bl b, _ => .bl b
  | _, _, .int i, _ => .int i
  | _, _, .str s, _ => .str s
  | _, _, .lst l h r, z => .lst (fun y => l (q.lv _ y)) h (r.fw q (by simpa [CT.cb] using z))
  | _, _, .tup l h r, z => .tup (fun y => l (q.lv _ y)) h (r.fw q (by simpa [CT.cb] using z))
  | _, _, .ktup h r, z => .ktup h (r.fw q (by simpa [CT.cb] using z))
  | _, _, .scr l h r, z => .scr (fun y => l (q.lv _ y)) h (r.fw q (by simpa [CT.cb] using z))
  | _, _, .kscr h r, z => .kscr h (r.fw q (by simpa [CT.cb] using z))
  | _, _, .obj l h e r, z => .obj (fun y => l (q.lv _ y)) h e (r.fw q (by simpa [CT.cb] using z))
  | _, _, .dT l h r, z => .dT (fun y => l (q.lv _ y)) h (r.fw q (by simpa [CT.cb] using z))
  | _, _, .cell (i := i) hi, z => .cell (by simpa [CT.cb] using z)
  | _, _, .exn x l h e r, z => .exn x (fun y => l (q.lv _ y)) h e (r.fw q (by simpa [CT.cb] using z))
  | _, _, .cls c, _ => .cls c
theorem RepL.fw (q : Fw A C C') : ∀ {vs : List V} {ds : List D}, RepL k A C H vs ds → CT.cbL C'.length ds = true → RepL k A C' H vs ds
  | _, _, .nil, _ => .nil
  | _, _, .cons r t, z => by
    simp [CT.cbL] at z
    exact .cons (r.fw q z.1) (t.fw q z.2)
end
end
/-! ### the store -/
def CellAt (k : Cn) (A : Nat → Addr) (C : Store) (H : Hp) (a : Addr) : Cell → Prop
  | .lst ds => ∃ vs, H a = some (.lst vs) ∧ RepL k A C H vs ds
  | .dT ks ds => ∃ kvs : List (List Key × V), H a = some (.dT kvs) ∧ kvs.map (·.1) = ks ∧ RepL k A C H (kvs.map (·.2)) ds
  | .ins c ds => ∃ dx vs, H a = some (.ins (k.cl c) dx (((k.fn c).take ds.length).zip vs)) ∧ ds.length ≤ (k.fn c).length ∧ RepL k A C H vs ds
structure StOk (k : Cn) (A : Nat → Addr) (C : Store) (H : Hp) : Prop where
  at_ : ∀ i c, C[i]? = some (some c) → CellAt k A C H (A i) c
  inj : ∀ i j c e, C[i]? = some (some c) → C[j]? = some (some e) → A i = A j → i = j
def cbC (n : Nat) : Cell → Bool
  | .lst ds => cbL n ds
  | .dT _ ds => cbL n ds
  | .ins _ ds => cbL n ds
def LowC (f : Nat) (C : Store) : Prop := ∀ i c, i < f → C[i]? = some (some c) → cbC f c = true
/-- what held of values holds on; the callers' cells name the callers' cells alone -/
structure Stp (k : Cn) (fl : Nat) (A : Nat → Addr) (C : Store) (H : Hp) (A' : Nat → Addr) (C' : Store) (H' : Hp) : Prop where
  rep : ∀ v d, Rep k A C H v d → Rep k A' C' H' v d
  len : C.length ≤ C'.length
  low : ∀ f, f ≤ fl → f ≤ C.length → LowC f C → LowC f C'
section
variable {k : Cn} {fl : Nat} {A A' A'' : Nat → Addr} {C C' C'' : Store} {H H' H'' : Hp} {v : V} {d : D} {vs : List V} {ds : List D}
theorem Stp.trans (a : Stp k fl A C H A' C' H') (b : Stp k fl A' C' H' A'' C'' H'') : Stp k fl A C H A'' C'' H'' :=
  ⟨fun v d h => b.rep v d (a.rep v d h), Nat.le_trans a.len b.len, fun f h1 h2 h => b.low f h1 (Nat.le_trans h2 a.len) (a.low f h1 h2 h)⟩
theorem CellAt.kp {c : Cell} {a : Addr} (q : Kp A C H A' C' H') (h : H' a = H a) (x : CellAt k A C H a c) : CellAt k A' C' H' a c := by
  cases c with
  | lst ds => obtain ⟨vs, e, r⟩ := x; exact ⟨vs, by rw [h]; exact e, r.kp q⟩
  | dT ks ds => obtain ⟨kvs, e, z, r⟩ := x; exact ⟨kvs, by rw [h]; exact e, z, r.kp q⟩
  | ins c ds => obtain ⟨dx, vs, e, z, r⟩ := x; exact ⟨dx, vs, by rw [h]; exact e, z, r.kp q⟩
theorem CellAt.there {c : Cell} {a : Addr} (x : CellAt k A C H a c) : ∃ o, H a = some o := by
  cases c with
  | lst ds => obtain ⟨vs, e, r⟩ := x; exact ⟨_, e⟩
  | dT ks ds => obtain ⟨kvs, e, z, r⟩ := x; exact ⟨_, e⟩
  | ins c ds => obtain ⟨dx, vs, e, z, r⟩ := x; exact ⟨_, e⟩
/-- a new object, not live -/
theorem kp_new {p : Addr} {o : HO} (h : H p = none) : Kp A C H A C (upd H p o) :=
  ⟨fun a u l e => ⟨l, by rw [upd_ne (ne_of_none e h)]; exact e⟩, fun _ _ => rfl, Nat.le_refl _⟩
theorem StOk.new {p : Addr} {o : HO} (x : StOk k A C H) (h : H p = none) : StOk k A C (upd H p o) :=
  ⟨fun i c e => by
    have y := x.at_ i c e
    obtain ⟨u, hu⟩ := y.there
    exact y.kp (kp_new h) (upd_ne (ne_of_none hu h)), x.inj⟩
/-- a new object that becomes a cell -/
def ext (A : Nat → Addr) (n : Nat) (p : Addr) : Nat → Addr := fun j => if j = n then p else A j
theorem live_ext {p : Addr} {c : Cell} {a : Addr} (l : Live (ext A C.length p) (C ++ [some c]) a) : Live A C a ∨ a = p := by
  obtain ⟨i, c', e, rfl⟩ := l
  by_cases hi : i < C.length
  · rw [List.getElem?_append_left hi] at e
    refine .inl ⟨i, c', e, ?_⟩
    unfold ext
    rw [if_neg (Nat.ne_of_lt hi)]
  · have hl : i < (C ++ [some c]).length := (List.getElem?_eq_some_iff.mp e).1
    rw [List.length_append] at hl
    have : i = C.length := by simp at hl; omega
    subst this
    refine .inr ?_
    unfold ext
    rw [if_pos rfl]
theorem kp_cell {p : Addr} {o : HO} {c : Cell} (x : StOk k A C H) (h : H p = none) : Kp A C H (ext A C.length p) (C ++ [some c]) (upd H p o) :=
  ⟨fun a u l e => ⟨fun y => (live_ext y).elim l (fun z => by rw [z, h] at e; cases e), by rw [upd_ne (ne_of_none e h)]; exact e⟩, fun i hi => by unfold ext; rw [if_neg (Nat.ne_of_lt hi)], by simp⟩
theorem StOk.cell {p : Addr} {o : HO} {c : Cell} (x : StOk k A C H) (h : H p = none) (y : CellAt k (ext A C.length p) (C ++ [some c]) (upd H p o) p c) : StOk k (ext A C.length p) (C ++ [some c]) (upd H p o) := by
  have old : ∀ i c', (C ++ [some c])[i]? = some (some c') → i < C.length → C[i]? = some (some c') ∧ ext A C.length p i = A i := fun i c' e hi => by
    rw [List.getElem?_append_left hi] at e
    exact ⟨e, by unfold ext; rw [if_neg (Nat.ne_of_lt hi)]⟩
  have new : ∀ i c', (C ++ [some c])[i]? = some (some c') → ¬ i < C.length → i = C.length ∧ c' = c := fun i c' e hi => by
    have hl : i < (C ++ [some c]).length := (List.getElem?_eq_some_iff.mp e).1
    rw [List.length_append] at hl
    have : i = C.length := by simp at hl; omega
    subst this
    simp at e
    exact ⟨rfl, e.symm⟩
  have pos : ext A C.length p C.length = p := by unfold ext; rw [if_pos rfl]
  refine ⟨fun i c' e => ?_, fun i j c1 c2 e1 e2 z => ?_⟩
  · by_cases hi : i < C.length
    · obtain ⟨e', ea⟩ := old i c' e hi
      rw [ea]
      have w := x.at_ i c' e'
      obtain ⟨u, hu⟩ := w.there
      exact w.kp (kp_cell x h) (upd_ne (ne_of_none hu h))
    · obtain ⟨rfl, rfl⟩ := new i c' e hi
      rw [pos]
      exact y
  · have far : ∀ i c', C[i]? = some (some c') → A i ≠ p := fun i c' e z => by
      obtain ⟨u, hu⟩ := (x.at_ i c' e).there
      rw [z, h] at hu
      cases hu
    by_cases hi : i < C.length
    · obtain ⟨f1, a1⟩ := old i c1 e1 hi
      by_cases hj : j < C.length
      · obtain ⟨f2, a2⟩ := old j c2 e2 hj
        rw [a1, a2] at z
        exact x.inj i j _ _ f1 f2 z
      · obtain ⟨rfl, rfl⟩ := new j c2 e2 hj
        rw [a1, pos] at z
        exact absurd z (far i _ f1)
    · obtain ⟨rfl, rfl⟩ := new i c1 e1 hi
      by_cases hj : j < C.length
      · obtain ⟨f2, a2⟩ := old j c2 e2 hj
        rw [pos, a2] at z
        exact absurd z.symm (far j _ f2)
      · obtain ⟨rfl, _⟩ := new j c2 e2 hj
        rfl
/-- the store's end is forgotten -/
theorem fw_take (n : Nat) : Fw A C (C.take n) := ⟨fun a ⟨i, c, e, z⟩ => by
  by_cases hi : i < n
  · rw [List.getElem?_take_of_lt hi] at e
    exact ⟨i, c, e, z⟩
  · rw [List.getElem?_eq_none (by simp; omega)] at e
    cases e⟩
theorem CellAt.fw {c : Cell} {a : Addr} (q : Fw A C C') (x : CellAt k A C H a c) (z : cbC C'.length c = true) : CellAt k A C' H a c := by
  cases c with
  | lst ds => obtain ⟨vs, e, r⟩ := x; exact ⟨vs, e, r.fw q z⟩
  | dT ks ds => obtain ⟨kvs, e, y, r⟩ := x; exact ⟨kvs, e, y, r.fw q z⟩
  | ins c ds => obtain ⟨dx, vs, e, y, r⟩ := x; exact ⟨dx, vs, e, y, r.fw q z⟩
theorem CellAt.cb {c : Cell} {a : Addr} (x : CellAt k A C H a c) : cbC C.length c = true := by
  cases c with
  | lst ds => obtain ⟨vs, e, r⟩ := x; exact r.cb
  | dT ks ds => obtain ⟨kvs, e, y, r⟩ := x; exact r.cb
  | ins c ds => obtain ⟨dx, vs, e, y, r⟩ := x; exact r.cb
/-- at a call every cell is below the floor -/
theorem StOk.low (x : StOk k A C H) : LowC C.length C := fun i c _ e => (x.at_ i c e).cb
theorem StOk.take {n : Nat} (x : StOk k A C H) (hn : n ≤ C.length) (h : LowC n C) : StOk k A (C.take n) H := by
  have get : ∀ i c, (C.take n)[i]? = some (some c) → i < n ∧ C[i]? = some (some c) := fun i c e => by
    by_cases hi : i < n
    · rw [List.getElem?_take_of_lt hi] at e
      exact ⟨hi, e⟩
    · rw [List.getElem?_eq_none (by simp; omega)] at e
      cases e
  have ln : (C.take n).length = n := by rw [List.length_take]; omega
  refine ⟨fun i c e => ?_, fun i j c e h1 h2 z => x.inj i j c e (get i c h1).2 (get j e h2).2 z⟩
  obtain ⟨hi, e'⟩ := get i c e
  exact (x.at_ i c e').fw (fw_take n) (by rw [ln]; exact h i c hi e')
end
/-! ### frames -/
structure SR (k : Cn) (A : Nat → Addr) (F : Fr) (C : Store) (σ : L2.St) (H : Hp) : Prop where
  st : StOk k A C H
  low : LowC F.fl C
  fl : F.fl ≤ C.length
  len : F.sl.length = σ.length
  sl : ∀ (i : Nat) (d : D), F.sl[i]? = some (some d) → ∃ v : V, σ[i]? = some (some v) ∧ Rep k A C H v d
section
variable {k : Cn} {A A' A1 : Nat → Addr} {F : Fr} {C C' C1 : Store} {H H' H1 : Hp} {σ : L2.St} {fl : Nat}
theorem SR.set {i : Nat} {v : V} {d : D} (s : SR k A F C σ H) (r : Rep k A C H v d) : SR k A ⟨F.fl, F.sl.set i (some d)⟩ C (σ.set i (some v)) H :=
  ⟨s.st, s.low, s.fl, by simp [s.len], fun j e h => by
    have h' : (F.sl.set i (some d))[j]? = some (some e) := h
    by_cases hij : i = j
    · subst hij
      by_cases hl : i < F.sl.length
      · rw [List.getElem?_set_self hl] at h'
        refine ⟨v, List.getElem?_set_self (by rw [← s.len]; exact hl), ?_⟩
        rw [← Option.some.inj (Option.some.inj h')]
        exact r
      · rw [List.getElem?_eq_none (by simp; omega)] at h'
        cases h'
    · rw [List.getElem?_set_ne hij] at h'
      obtain ⟨u, h1, h2⟩ := s.sl j e h'
      exact ⟨u, by rw [List.getElem?_set_ne hij]; exact h1, h2⟩⟩
variable {α β γ δ : Type} {rel : (Nat → Addr) → Store → Hp → β → α → Prop} {rel2 : (Nat → Addr) → Store → Hp → δ → γ → Prop} {m : R α} {Q : α → Store → (Nat → Addr) → Hp → β → Prop} {W : XK}
end
abbrev MA := Fr → Store → R (List D)
abbrev MT := Fr → Store → R Bool
end CT
set_option maxHeartbeats 4000000
/-! DL2: expressions over data: names, constants, operators, displays, subscripts, calls of built-ins. -/
namespace CT
open PySem L2
/-! ### names, constants -/
def mVar (i : Nat) : ME := fun F C => match F.sl[i]? with
  | some (some d) => .ok d C
  | _ => .stuck
def mC (d : D) : ME := fun _ C => .ok d C
/-! ### operators -/
abbrev O2 := D → D → Store → Option (D × Store)
abbrev O1 := D → Store → Option (D × Store)
abbrev OA := List D → Store → Option (D × Store)
def mOp (o : O2) (a b : ME) : ME := fun F C => bnd (a F C) fun x C1 => bnd (b F C1) fun y C2 => ofO (o x y C2)
def mUn (o : O1) (a : ME) : ME := fun F C => bnd (a F C) fun x C1 => ofO (o x C1)
def mNil : MA := fun _ C => .ok [] C
def mCons (a : ME) (r : MA) : MA := fun F C => bnd (a F C) fun x C1 => bnd (r F C1) fun xs C2 => .ok (x :: xs) C2
def mAp (o : OA) (a : MA) : ME := fun F C => bnd (a F C) fun xs C1 => ofO (o xs C1)
/-! ### tests, and, or, not -/
def mTst (a : ME) : MT := fun F C => bnd (a F C) fun x C1 => match x with
  | .bl b => .ok b C1
  | _ => .stuck
def tAndM (a b : MT) : MT := fun F C => bnd (a F C) fun x C1 => if x = true then b F C1 else .ok false C1
def tOrM (a b : MT) : MT := fun F C => bnd (a F C) fun x C1 => if x = true then .ok true C1 else b F C1
def tNotM (a : MT) : MT := fun F C => bnd (a F C) fun x C1 => .ok (!x) C1
def mAnd (a b : ME) : ME := fun F C => bnd (a F C) fun x C1 => match x with
  | .bl true => b F C1
  | .bl false => .ok (.bl false) C1
  | _ => .stuck
def mOr (a b : ME) : ME := fun F C => bnd (a F C) fun x C1 => match x with
  | .bl true => .ok (.bl true) C1
  | .bl false => b F C1
  | _ => .stuck
def mNot (a : ME) : ME := fun F C => bnd (a F C) fun x C1 => match x with
  | .bl b => .ok (.bl (!b)) C1
  | _ => .stuck
def mIf (t : MT) (a b : ME) : ME := fun F C => bnd (t F C) fun x C1 => if x = true then a F C1 else b F C1
/-! ### numbers -/
def oI0 (g : Int → Int → D) : O2 := fun x y C => match x, y with
  | .int i, .int j => some (g i j, C)
  | _, _ => none
def oAdd : O2 := oI0 fun i j => .int (i + j)
def oSub : O2 := oI0 fun i j => .int (i - j)
def oLt : O2 := oI0 fun i j => .bl (decide (i < j))
def oLe : O2 := oI0 fun i j => .bl (decide (i ≤ j))
def oGt : O2 := oI0 fun i j => .bl (decide (j < i))
def oGe : O2 := oI0 fun i j => .bl (decide (j ≤ i))
def oNeg : O1 := fun x C => match x with
  | .int i => some (.int (-i), C)
  | _ => none
/-! ### a chain of two comparisons -/
def mChain (o o' : O2) (a b c : ME) : ME := fun F C => bnd (a F C) fun x C1 => bnd (b F C1) fun y C2 => bnd (ofO (o x y C2)) fun z C3 => match z with
  | .bl true => bnd (c F C3) fun w C4 => ofO (o' y w C4)
  | .bl false => .ok (.bl false) C3
  | _ => .stuck
end CT
set_option maxHeartbeats 4000000
/-! DL3: lists, tuples, dicts over data. -/
namespace CT
open PySem L2
/-! ### what a datum is as a list, a tuple, a dict -/
def vL (d : D) (C : Store) : Option (List D) := match d with
  | .lst xs => some xs
  | .cell i => match C[i]? with
    | some (some (.lst xs)) => some xs
    | _ => none
  | _ => none
def vT : D → Option (List D)
  | .tup xs => some xs
  | .kt xs => some xs
  | _ => none
def vD (d : D) (C : Store) : Option (List (List Key) × List D) := match d with
  | .dT ks vs => some (ks, vs)
  | .cell i => match C[i]? with
    | some (some (.dT ks vs)) => some (ks, vs)
    | _ => none
  | _ => none
section
variable {k : Cn} {A : Nat → Addr} {C : Store} {H : Hp} {v : V} {d : D} {ds : List D}
/-! ### new lists, tuples, dicts: own cells or plain data -/
def mkL (own : Bool) (ds : List D) (C : Store) : D × Store := if own = true then (.cell C.length, C ++ [some (.lst ds)]) else (.lst ds, C)
def mkD (own : Bool) (ks : List (List Key)) (ds : List D) (C : Store) : D × Store := if own = true then (.cell C.length, C ++ [some (.dT ks ds)]) else (.dT ks ds, C)
end
/-! ### displays -/
def szN (n : Nat) : Bool := decide (n ≤ 16777216)
def oLst (own : Bool) : OA := fun xs C => if szN xs.length = true then some (mkL own xs C) else none
def oTup : OA := fun xs C => if szN xs.length = true then some (.tup xs, C) else none
section
variable {X : Cx} {k : Cn} {W : WX} {es : List Expr} {ma : MA} {pos : Pos}
/-- {} whose keys will be tuples -/
def mDNew (own : Bool) : ME := fun _ C => .ok (mkD own [] [] C).1 (mkD own [] [] C).2
end
/-! ### subscripts -/
/-! ### dicts with tuple keys -/
def keyL : List D → Option (List Key)
  | [] => some []
  | .int i :: r => (keyL r).map fun l => .inl i :: l
  | .str s :: r => (keyL r).map fun l => .inr s :: l
  | _ :: _ => none
def lookT : List (List Key) → List D → List Key → Option D
  | k :: ks, d :: ds, key => if k = key then some d else lookT ks ds key
  | _, _, _ => none
def setT : List (List Key) → List D → List Key → D → List D
  | k :: ks, d :: ds, key, x => (if k = key then x else d) :: setT ks ds key x
  | _, _, _, _ => []
def putT (ks : List (List Key)) (ds : List D) (key : List Key) (x : D) : List (List Key) × List D := if (ks.any fun k => decide (k = key)) = true then (ks, setT ks ds key x) else (ks ++ [key], ds ++ [x])
def oDGet (x y z : D) (C : Store) : Option (D × Store) := match y with
  | .tup ds => (vD x C).bind fun p => (keyL ds).map fun key => ((lookT p.1 p.2 key).getD z, C)
  | _ => none
def mDGet (a b c : ME) : ME := fun F C => bnd (a F C) fun x C1 => if (vD x C1).isSome = true then bnd (b F C1) fun y C2 => bnd (c F C2) fun z C3 => ofO (oDGet x y z C3) else .stuck
end CT
set_option maxHeartbeats 4000000
/-! DL4: statements, defs over data. -/
namespace CT
open PySem L2
inductive RS where
  | nx (sl : List (Option D)) (C : Store)
  | rt (d : D) (C : Store)
  | bk (sl : List (Option D)) (C : Store)
  | ct (sl : List (Option D)) (C : Store)
  | xc (e : Exc) (sl : List (Option D)) (C : Store)
  | stuck
abbrev MS := Fr → Store → RS
/-! ### simple statements -/
def bndS {α : Type} (sl : List (Option D)) (m : R α) (f : α → Store → RS) : RS := match m with
  | .ok a C => f a C
  | .exc e C => .xc e sl C
  | .stuck => .stuck
@[simp] theorem bndS_ok {α : Type} (sl : List (Option D)) (a : α) (C : Store) (f : α → Store → RS) : bndS sl (.ok a C) f = f a C := rfl
@[simp] theorem bndS_exc {α : Type} (sl : List (Option D)) (e : Exc) (C : Store) (f : α → Store → RS) : bndS sl (.exc e C) f = .xc e sl C := rfl
@[simp] theorem bndS_stuck {α : Type} (sl : List (Option D)) (f : α → Store → RS) : bndS (α := α) sl .stuck f = .stuck := rfl
def sNext : MS := fun F C => .nx F.sl C
def sSeq (a b : MS) : MS := fun F C => match a F C with
  | .nx sl C1 => b ⟨F.fl, sl⟩ C1
  | r => r
def sBrk : MS := fun F C => .bk F.sl C
def sCnt : MS := fun F C => .ct F.sl C
def sDrop (m : ME) : MS := fun F C => bndS F.sl (m F C) fun _ C1 => .nx F.sl C1
def sRet (m : ME) : MS := fun F C => bndS F.sl (m F C) fun d C1 => .rt d C1
def sRetN : MS := fun F C => .rt .non C
def sIf (t : MT) (a b : MS) : MS := fun F C => bndS F.sl (t F C) fun x C1 => if x = true then a F C1 else b F C1
/-! ### targets -/
abbrev MG := D → List (Option D) → Option (List (Option D))
def gN (i : Nat) : MG := fun d sl => some (sl.set i (some d))
def setAll : List Nat → List D → List (Option D) → Option (List (Option D))
  | [], [], sl => some sl
  | i :: is, d :: ds, sl => setAll is ds (sl.set i (some d))
  | _, _, _ => none
def gT (is : List Nat) : MG := fun d sl => (vT d).bind fun ds => setAll is ds sl
end CT
set_option maxHeartbeats 4000000
/-! DL5: stores, loops over data. -/
namespace CT
open PySem L2
section
variable {X : Cx} {k : Cn} {W : WX} {E : Ends} {σ : L2.St} {H : Hp}
/-! ### assignments -/
def sAsg (m : ME) (g : MG) : MS := fun F C => bndS F.sl (m F C) fun d C1 => match g d F.sl with
  | some sl => .nx sl C1
  | none => .stuck
/-- a, b = x, y of plain local names -/
def sPar (is : List Nat) (m : MA) : MS := fun F C => bndS F.sl (m F C) fun ds C1 => match setAll is ds F.sl with
  | some sl => .nx sl C1
  | none => .stuck
end
/-! ### cells written -/
/-- the cell is written with c: below the floor c names no cells -/
def wr (fl : Nat) (i : Nat) (c : Cell) (C : Store) : Option Store := if i < fl ∧ cbC 0 c = false then none else some (C.set i (some c))
/-- the list cell's place and items -/
def cL (d : D) (C : Store) : Option (Nat × List D) := match d with
  | .cell i => match C[i]? with
    | some (some (.lst xs)) => some (i, xs)
    | _ => none
  | _ => none
def cD (d : D) (C : Store) : Option (Nat × List (List Key) × List D) := match d with
  | .cell i => match C[i]? with
    | some (some (.dT ks vs)) => some (i, ks, vs)
    | _ => none
  | _ => none
/-- xs[i] = e -/
def sSetL (me mo mi : ME) : MS := fun F C => bndS F.sl (me F C) fun v C1 => bndS F.sl (mo F C1) fun o C2 => bndS F.sl (mi F C2) fun x C3 => match x, cL o C3 with
  | .int n, some (i, ds) => match ixN ds.length n with
    | some j => match wr F.fl i (.lst (ds.set j v)) C3 with
      | some C4 => .nx F.sl C4
      | none => .stuck
    | none => .stuck
  | _, _ => .stuck
/-- d[k] = e -/
def sPut (me mo mi : ME) : MS := fun F C => bndS F.sl (me F C) fun v C1 => bndS F.sl (mo F C1) fun o C2 => bndS F.sl (mi F C2) fun x C3 => match x, cD o C3 with
  | .tup ds, some (i, ks, vs) => match keyL ds with
    | some key => if szN (ks.length + 1) = true then match wr F.fl i (.dT (putT ks vs key v).1 (putT ks vs key v).2) C3 with
      | some C4 => .nx F.sl C4
      | none => .stuck
      else .stuck
    | none => .stuck
  | _, _ => .stuck
/-! ### list methods that write -/
end CT
set_option maxHeartbeats 4000000
/-! DL6: targets, loops, comprehensions over data. -/
namespace CT
open PySem L2
/-! ### targets of names -/
inductive Tgt where
  | nm (i : Nat) | tp (is : List Nat)
  /-- (a, b, ..), c -/
  | np (is : List Nat) (l : Nat)
/-- (a, b, ..), c = .. -/
def gNP (is : List Nat) (l : Nat) : MG := fun d sl => match vT d with
  | some [a, b] => (gT is a sl).bind fun s => gN l b s
  | _ => none
def Tgt.M : Tgt → MG
  | .nm i => gN i
  | .tp is => gT is
  | .np is l => gNP is l
def Tgt.slots : Tgt → List Nat
  | .nm i => [i]
  | .tp is => is
  | .np is l => l :: is
def wipeD (sl : List (Option D)) : List Nat → List (Option D)
  | [] => sl
  | v :: vs => (wipeD sl vs).set v none
/-! ### what is walked -/
structure ItD where
  n : Nat
  item : Nat → Store → Option D
  fin : Store → Bool
abbrev MI := Fr → Store → R ItD
/-! ### for -/
def loopN (it : ItD) (g : MG) (body : MS) (fl : Nat) : Nat → Nat → List (Option D) → Store → RS
  | 0, _, sl, C => if it.fin C = true then .nx sl C else .stuck
  | r + 1, j, sl, C => match it.item j C with
    | none => .stuck
    | some d => match g d sl with
      | none => .stuck
      | some sl1 => match body ⟨fl, sl1⟩ C with
        | .nx sl2 C2 => loopN it g body fl r (j + 1) sl2 C2
        | .ct sl2 C2 => loopN it g body fl r (j + 1) sl2 C2
        | .bk sl2 C2 => .nx sl2 C2
        | .rt d C2 => .rt d C2
        | .xc e sl2 C2 => .xc e sl2 C2
        | .stuck => .stuck
def sFor (mi : MI) (g : MG) (body : MS) : MS := fun F C => bndS F.sl (mi F C) fun it C1 => loopN it g body F.fl it.n 0 F.sl C1
/-! ### list comprehensions -/
def bn0 {α β : Type} (m : R α) (f : α → Store → R β) : R β := match m with
  | .ok a C => f a C
  | _ => .stuck
@[simp] theorem bn0_ok {α β : Type} (a : α) (C : Store) (f : α → Store → R β) : bn0 (.ok a C) f = f a C := rfl
def lcN (it : ItD) (g : MG) (tt : MT) (te : ME) (n : Nat) (sl : List (Option D)) : Nat → Nat → Store → R Unit
  | 0, _, C => if it.fin C = true then .ok () C else .stuck
  | r + 1, j, C => match it.item j C with
    | none => .stuck
    | some d => match g d sl with
      | none => .stuck
      | some sl1 => bn0 (tt ⟨n, sl1⟩ C) fun b C1 => if b = true then bn0 (te ⟨n, sl1⟩ C1) fun y C2 => match C2[n]? with
          | some (some (.lst acc)) => if szN (acc.length + 1) = true then lcN it g tt te n sl r (j + 1) (C2.set n (some (.lst (acc ++ [y])))) else .stuck
          | _ => .stuck
        else lcN it g tt te n sl r (j + 1) C1
/-- behind the loop: an own list; or plain data, the cell forgotten -/
def lcEnd (own : Bool) (n : Nat) (C : Store) : R D := if own = true then .ok (.cell n) C else match C[n]? with
  | some (some (.lst acc)) => if cbL n acc = true then .ok (.lst acc) (C.take n) else .stuck
  | _ => .stuck
def mLc (own : Bool) (mi : MI) (g : MG) (tt : MT) (te : ME) (vs : List Nat) : ME := fun F C => bnd (mi F C) fun it C1 => bn0 (lcN it g tt te C1.length (wipeD F.sl vs) it.n 0 (C1 ++ [some (.lst [])])) fun _ C2 => lcEnd own C1.length C2
end CT
set_option maxHeartbeats 4000000
/-! DL7: what is walked; defs. -/
namespace CT
open PySem L2
section
variable {X : Cx} {k : Cn} {W : WX} {E : Ends} {σ : L2.St} {H : Hp}
/-! ### lists and tuples -/
def itC (xs : List D) : ItD := ⟨xs.length, fun j _ => xs[j]?, fun _ => true⟩
def itV (i n : Nat) : ItD := ⟨n, fun j C => match C[i]? with
    | some (some (.lst ys)) => if ys.length = n then ys[j]? else none
    | _ => none, fun C => match C[i]? with
    | some (some (.lst ys)) => decide (ys.length = n)
    | _ => false⟩
def itS (d : D) (C : Store) : Option ItD := match d with
  | .tup xs => some (itC xs)
  | .kt xs => some (itC xs)
  | .lst xs => some (itC xs)
  | .cell i => match C[i]? with
    | some (some (.lst ys)) => some (itV i ys.length)
    | _ => none
  | _ => none
def mSeq (m : ME) : MI := fun F C => bnd (m F C) fun d C1 => match itS d C1 with
  | some it => .ok it C1
  | none => .stuck
/-! ### ranges -/
def inR (i : Int) : Bool := decide (-(2 ^ 62) ≤ i) && decide (i < 2 ^ 62)
def itR (lo : Int) (n : Nat) : ItD := ⟨n, fun j _ => some (.int (lo + j)), fun _ => true⟩
def mRng1 (a : ME) : MI := fun F C => bnd (a F C) fun d C1 => match d with
  | .int j => if inR j = true then .ok (itR 0 j.toNat) C1 else .stuck
  | _ => .stuck
def mRng2 (a b : ME) : MI := fun F C => bnd (a F C) fun d C1 => bnd (b F C1) fun e C2 => match d, e with
  | .int i, .int j => if (inR i && inR j) = true then .ok (itR i (j - i).toNat) C2 else .stuck
  | _, _ => .stuck
end
/-! ### defs -/
abbrev MF := List D → Store → R D
/-- what a def hands back: an own list or dict that it made becomes plain data; its cells are forgotten -/
def fz (n : Nat) (d : D) (C : Store) : D := match d with
  | .cell i => if i < n then d else match C[i]? with
    | some (some (.lst xs)) => .lst xs
    | some (some (.dT ks vs)) => .dT ks vs
    | _ => d
  | _ => d
def fin (n : Nat) (d : D) (C : Store) : R D := if cb n (fz n d C) = true then .ok (fz n d C) (C.take n) else .stuck
end CT
set_option maxHeartbeats 4000000
/-! DL8: defs, calls, instances over data. -/
namespace CT
open PySem L2 PySem.Spec PyProof.Rows
/-! ### defs that know that no repr runs around them -/
structure RoomG (lev : Nat) (A : Around) : Prop where
  room : Room lev A
  gd : A.guards = some []
/-! ### calls -/
def mCall (m : MF) (dds : List D) (a : MA) : ME := fun F C => bnd (a F C) fun ds C1 => m (ds ++ dds) C1
section
variable {X : Cx} {k : Cn} {W : WX} {σ : L2.St} {H : Hp} {Q : VK} {lev : Nat} {f C p g : Addr} {fd : FuncData} {ps : List Str} {np : Nat} {m : MF} {dvs : List V} {dds : List D} {ds : List Value} {x nm : Str} {pn pos apos : Pos} {e o : Expr} {es : List Expr} {ma : MA} {mo : ME}
/-! ### instances -/
/-- the class and the attributes of an instance -/
def vO (d : D) (C : Store) : Option (Nat × List D) := match d with
  | .obj c fs => some (c, fs)
  | .cell i => match C[i]? with
    | some (some (.ins c fs)) => some (c, fs)
    | _ => none
  | _ => none
/-- o.f, the n-th attribute of the class c -/
def oFld (c n : Nat) : O1 := fun x C => match vO x C with
  | some (c', fs) => if c' = c then (fs[n]?).map fun d => (d, C) else none
  | none => none
/-! ### methods, properties -/
/-- the receiver is an instance of c -/
def mMeth (c : Nat) (m : MF) (dds : List D) (mo : ME) (a : MA) : ME := fun F C => bnd (mo F C) fun x C1 => match vO x C1 with
  | some (c', _) => if c' = c then bnd (a F C1) fun ds C2 => m (x :: (ds ++ dds)) C2 else .stuck
  | none => .stuck
end
end CT
set_option maxHeartbeats 4000000
/-! DL9: built-in functions over data. -/
namespace CT
open PySem L2 PySem.Spec PyProof.Rows
/-! ### data as the library's own -/
mutual
def toP0 : D → Option PyData
  | .non => some .none
  | .bl b => some (.bool b)
  | .int i => some (.int i)
  | .str s => some (.str s)
  | .lst xs => (toP0s xs).map .list
  | .tup xs => (toP0s xs).map .tuple
  | .kt xs => (toP0s xs).map .tuple
  | .scr _ => none | .obj _ _ => none | .dT _ _ => none | .cell _ => none | .exn _ _ => none | .cls _ => none
def toP0s : List D → Option (List PyData)
  | [] => some []
  | d :: ds => match toP0 d, toP0s ds with
    | some p, some ps => some (p :: ps)
    | _, _ => none
end
mutual
/-- cells are looked into, one deep -/
def toP (C : Store) : D → Option PyData
  | .non => some .none
  | .bl b => some (.bool b)
  | .int i => some (.int i)
  | .str s => some (.str s)
  | .lst xs => (toPs C xs).map .list
  | .tup xs => (toPs C xs).map .tuple
  | .kt xs => (toPs C xs).map .tuple
  | .cell i => match C[i]? with
    | some (some (.lst xs)) => (toP0s xs).map .list
    | _ => none
  | .scr _ => none | .obj _ _ => none | .dT _ _ => none | .exn _ _ => none | .cls _ => none
def toPs (C : Store) : List D → Option (List PyData)
  | [] => some []
  | d :: ds => match toP C d, toPs C ds with
    | some p, some ps => some (p :: ps)
    | _, _ => none
end
/-! ### == and != of data -/
def oEqD (neg : Bool) : O2 := fun x y C => match toP C x, toP C y with
  | some p, some q => if (SeqAt.shaped p && SeqAt.shaped q) = true then some (.bl (if neg = true then !PyData.eqv p q else PyData.eqv p q), C) else none
  | _, _ => none
/-! ### repr -/
def repOk (p : PyData) : Bool := p.showable && !p.hasDict && decide (p.depth ≤ 60) && szN p.shown.length
/-! ### len, sums, least, greatest, conversions -/
def dInts : List D → Option (List Int)
  | [] => some []
  | .int i :: r => (dInts r).map fun l => i :: l
  | _ :: _ => none
@[simp] theorem dInts_map (ns : List Int) : dInts (ns.map D.int) = some ns := by
  induction ns with
  | nil => rfl
  | cons n r ih => simp [dInts, ih]
def dBools : List D → Option (List Bool)
  | [] => some []
  | .bl i :: r => (dBools r).map fun l => i :: l
  | _ :: _ => none
@[simp] theorem dBools_map (ns : List Bool) : dBools (ns.map D.bl) = some ns := by
  induction ns with
  | nil => rfl
  | cons n r ih => simp [dBools, ih]
def o2I (g : Int → Int → Int) : OA := fun xs C => match xs with
  | [.int i, .int j] => some (.int (g i j), C)
  | _ => none
def oMax2 : OA := o2I fun i j => if j > i then j else i
def oMin2 : OA := o2I fun i j => if j < i then j else i
def oAbs : OA := fun xs C => match xs with
  | [.int i] => some (.int (if i < 0 then -i else i), C)
  | _ => none
def oInt : OA := fun xs C => match xs with
  | [.int i] => some (.int i, C)
  | [.bl b] => some (.int (if b then 1 else 0), C)
  | _ => none
/-- tuple(list), tuple(tuple) -/
def oTupOf : OA := fun xs C => match xs with
  | [.tup ys] => some (.tup ys, C)
  | [.kt ys] => some (.kt ys, C)
  | [d] => (vL d C).map fun ys => (.tup ys, C)
  | _ => none
/-! ### + and * of lists, + of tuples -/
/-! ### slices of lists -/
def mNoPart : Fr → Store → R (Option Int) := fun _ C => .ok none C
def mPart (m : ME) : Fr → Store → R (Option Int) := fun F C => bnd (m F C) fun d C1 => match d with
  | .int i => .ok (some i) C1
  | _ => .stuck
def cutD (xs : List D) (lo hi : Option Int) : List D := (xs.drop (HT.sIx xs.length 0 lo)).take (HT.sIx xs.length xs.length hi - HT.sIx xs.length 0 lo)
def vLs (d : D) (C : Store) : Option (List D) := match d with
  | .scr xs => some xs
  | _ => vL d C
/-- xs[lo:hi] of a list, a new list -/
def mSlL (own : Bool) (a : ME) (l h : Fr → Store → R (Option Int)) : ME := fun F C => bnd (a F C) fun x C1 => bnd (l F C1) fun lo C2 => bnd (h F C2) fun hi C3 => match vLs x C3 with
  | some xs => ofO (some (mkL own (cutD xs lo hi) C3))
  | none => .stuck
end CT
set_option maxHeartbeats 4000000
/-! DLA: instances made, attributes stored, properties, isinstance. -/
namespace CT
open PySem L2 PySem.Spec PyProof.Rows
/-! ### C(..) -/
end CT
set_option maxHeartbeats 4000000
/-! DLB: properties, isinstance, comprehensions as statements, two clauses. -/
namespace CT
open PySem L2 PySem.Spec PyProof.Rows
/-! ### o.f, a property -/
def mProp (c : Nat) (m : MF) (mo : ME) : ME := fun F C => bnd (mo F C) fun x C1 => match vO x C1 with
  | some (c', _) => if c' = c then (match m [x] C1 with
    | .ok d C2 => .ok d C2
    | _ => .stuck) else .stuck
  | none => .stuck
/-! ### isinstance -/
inductive Bt where
  | int | bool | str | list | tuple | dict | none
  deriving DecidableEq
def Bt.name : Bt → String
  | .int => "int" | .bool => "bool" | .str => "str" | .list => "list" | .tuple => "tuple" | .dict => "dict" | .none => "NoneType"
inductive Cc where
  | ty (b : Bt) | own (c : Nat)
def isaT : Bt → Bt → Bool
  | .bool, .int => true
  | a, b => decide (a = b)
def tyD (d : D) (C : Store) : Option Cc := match d with
  | .non => some (.ty .none) | .bl _ => some (.ty .bool) | .int _ => some (.ty .int) | .str _ => some (.ty .str)
  | .lst _ => some (.ty .list) | .tup _ => some (.ty .tuple) | .kt _ => some (.ty .tuple) | .dT _ _ => some (.ty .dict)
  | .obj c _ => some (.own c)
  | .scr _ => none
  | .exn _ _ => none
  | .cls _ => none
  | .cell i => match C[i]? with
    | some (some (.lst _)) => some (.ty .list)
    | some (some (.dT _ _)) => some (.ty .dict)
    | some (some (.ins c _)) => some (.own c)
    | _ => none
def isi (kn : List Nat) (d : D) (C : Store) (t : Cc) : Option Bool := match tyD d C with
  | some (.ty a) => (match t with
    | .ty b => some (isaT a b)
    | .own _ => some false)
  | some (.own c) => if c ∈ kn then (match t with
    | .ty _ => some false
    | .own c' => some (decide (c = c'))) else none
  | none => none
def mIsi (kn : List Nat) (t : Cc) (m : ME) : ME := fun F C => bnd (m F C) fun d C1 => match isi kn d C1 t with
  | some b => .ok (.bl b) C1
  | none => .stuck
def mIsi2 (kn : List Nat) (t u : Cc) (m : ME) : ME := fun F C => bnd (m F C) fun d C1 => match isi kn d C1 t, isi kn d C1 u with
  | some b, some b' => .ok (.bl (b || b')) C1
  | _, _ => .stuck
def Cc.val (k : Cn) : Cc → Value
  | .ty b => .type b.name
  | .own c => .ref (k.cl c)
def Cc.v (k : Cn) : Cc → V
  | .ty b => .ty b.name
  | .own c => .ref (k.cl c)
theorem Cc.cls {k : Cn} (t : Cc) : ClsV (t.v k) (t.val k) := by
  cases t with
  | ty b => exact .ty _
  | own c => exact .own _
end CT
set_option maxHeartbeats 4000000
/-! DLC: isinstance as an expression; comprehensions that are assigned, and of two clauses; xs[i] += e; membership; list(range(..)). -/
namespace CT
open PySem L2 PySem.Spec PyProof.Rows
section
variable {X : Cx} {k : Cn} {W : WX} {σ : L2.St} {H : Hp} {Q : VK} {E : Ends}
/-! ### tests of a clause -/
def tYesM : MT := fun _ C => .ok true C
/-! ### y = [..] -/
/-! ### two clauses -/
/-! ### xs[i] += e -/
def sAugL (o : Int → Int → Int) (mo mi me : ME) : MS := fun F C => bndS F.sl (mo F C) fun l C1 => bndS F.sl (mi F C1) fun x C2 => match x, cL l C2 with
  | .int n, some (_, ds) => if 0 ≤ n then (match ds[n.toNat]? with
    | some (.int a) => bndS F.sl (me F C2) fun v C3 => (match v, cL l C3 with
      | .int b, some (i, es) => (match ixN es.length n with
        | some j => (match wr F.fl i (.lst (es.set j (.int (o a b)))) C3 with
          | some C4 => .nx F.sl C4
          | none => .stuck)
        | none => .stuck)
      | _, _ => .stuck)
    | _ => .stuck) else .stuck
  | _, _ => .stuck
/-! ### x in a tuple or list of data -/
end
end CT
set_option maxHeartbeats 4000000
/-! DLD: list(range(..)), sorted(..), dict(..). -/
namespace CT
open PySem L2 PySem.Spec PyProof.Rows
/-! ### sorted -/
end CT
set_option maxHeartbeats 4000000
/-! DLE: sorted and dict(d) over data. -/
namespace CT
open PySem L2 PySem.Spec PyProof.Rows
/-! ### dict(d), keys that are tuples -/
end CT
set_option maxHeartbeats 4000000
/-! DLF: dict(d) over data; enumerate. -/
namespace CT
open PySem L2 PySem.Spec PyProof.Rows
/-! ### a list of unlike numbers -/
inductive BT where
  | lf | nd (l : BT) (x : Nat) (r : BT)
def BT.ins (x : Nat) : BT → Option BT
  | .lf => some (.nd .lf x .lf)
  | .nd l y r => bif Nat.blt x y then (match l.ins x with
      | some l' => some (.nd l' y r)
      | none => none) else bif Nat.blt y x then (match r.ins x with
      | some r' => some (.nd l y r')
      | none => none) else none
/-! ### enumerate(tuple) -/
def prI (it : ItD) : ItD := ⟨it.n, fun j C => (it.item j C).map fun x => .tup [.int (j : Nat), x], it.fin⟩
def mEnum (m : ME) : MI := fun F C => bnd (m F C) fun d C1 => match itS d C1 with
  | some it => .ok (prI it) C1
  | none => .stuck
end CT
set_option maxHeartbeats 4000000
/-! DLG: what the head tells (defs by addresses, checks), the law's end for data. -/
namespace CT
open PySem L2 PySem.Spec PyProof.Rows
/-! ### defs, by where they stand -/
structure DefX where
  adr : PySem.W.Frag → Addr
  name : Str
  qual : Str
  params : Arguments
  body : List Stmt
  scope : Scope
  dfl : PySem.W.Frag → List V := fun _ => []
def fnX (K : PySem.W.Frag) (a : Addr) : He.FnW := match K.lookup a with
  | some ⟨_, _, .func fd, _⟩ => some (fd.name, fd.qualname, fd.params, fd.body, fd.scope, fd.globals, fd.closure, fd.builtins)
  | _ => none
def DefX.val (d : DefX) : He.FnW := some (d.name, d.qual, d.params, .stmts d.body, d.scope, mainGlobals, [], builtinsNs)
def DefX.ok (K : PySem.W.Frag) (d : DefX) : Bool := PySem.W.keepIn K (.ref (d.adr K)) && (match K.lookup (d.adr K) with
  | some ⟨_, _, .func fd, _⟩ => PySem.W.codeIn K fd.code d.qual && He.dflB K fd.defaults (d.dfl K)
  | _ => false)
/-! ### the head's look -/
abbrev AlX : Type := Bool × List He.FnW
def obX (fs : List (PySem.W.Frag → Bool)) (fn : List DefX) (K : PySem.W.Frag) : AlX := ((fs.all fun f => f K) && fn.all fun d => d.ok K, fn.map fun d => fnX K (d.adr K))
def vlX (fn : List DefX) : AlX := (true, fn.map DefX.val)
def SaysX (fs : List (PySem.W.Frag → Bool)) (fn : List DefX) (K : PySem.W.Frag) : Prop := obX fs fn K = vlX fn
/-! ### checks -/
section
variable {K : PySem.W.Frag}
def allBt : List Bt := [.int, .bool, .str, .list, .tuple, .dict, .none]
def insB (C : Addr) (K : PySem.W.Frag) : Bool := PySem.W.plainGet K C Str.empty && (PySem.W.hasDictIn K C && (PySem.W.plainOver K C && (He.eqO (PySem.W.findIn K (.ref C) "__setattr__") (some (some (.builtin "object.__setattr__"))) &&
  (He.eqO (PySem.W.findIn K (.ref C) "__class__") (some (some (.builtin "object.__class__"))) && (He.eqO (PySem.W.specialIn K (.builtin "object.__class__") "__get__") (some (some (.builtin "getset_descriptor.__get__"))) &&
  (decide (PySem.W.takesIn K (.builtin "object.__class__") = some true) && (decide (PySem.W.mroIn K C (.type "object") = some true) && decide (PySem.W.kitOne K (.ref C) (.ref C) = some true))))))))
def isaB (cl : PySem.W.Frag → Nat → Addr) (kn : List Nat) (K : PySem.W.Frag) : Bool := (kn.all fun c => insB (cl K c) K) && ((kn.all fun c => kn.all fun c' => decide (PySem.W.kitOne K (.ref (cl K c)) (.ref (cl K c')) = some (decide (c = c')))) &&
  (kn.all fun c => allBt.all fun b => decide (PySem.W.kitOne K (.ref (cl K c)) (.type b.name) = some false) && decide (PySem.W.kitOne K (.type b.name) (.ref (cl K c)) = some false)))
/-- an empty tuple of the written part -/
def ktB (a : PySem.W.Frag → Addr) (K : PySem.W.Frag) : Bool := match K.lookup (a K) with
  | some ⟨.type c, _, .seq its _, _⟩ => decide (c = "tuple") && decide (its.size = 0)
  | _ => false
end
/-! ### the end -/
end CT
set_option maxHeartbeats 4000000
/-! DLH: a def that hands back a list of its own, to be changed by its caller. -/
namespace CT
open PySem L2 PySem.Spec PyProof.Rows
end CT
set_option maxHeartbeats 4000000
/-! DLI: comparisons as tests. -/
namespace CT
open PySem L2 PySem.Spec PyProof.Rows
/-! ### == and !=, scalars or data -/
def oEqA (neg : Bool) : O2 := fun x y C => match x, y with
  | .int a, .int b => some (.bl (if neg = true then !decide (a = b) else decide (a = b)), C)
  | .str a, .str b => some (.bl (if neg = true then !decide (a = b) else decide (a = b)), C)
  | x, y => oEqD neg x y C
end CT
set_option maxHeartbeats 4000000
/-! DLJ: operators that a class defines: ==, !=, +, in, []. -/
namespace CT
open PySem L2 PySem.Spec PyProof.Rows
end CT
set_option maxHeartbeats 4000000
/-! DLK: != by an own __eq__; x[i] by an own __getitem__. -/
namespace CT
open PySem L2 PySem.Spec PyProof.Rows
end CT
set_option maxHeartbeats 4000000
/-! DLL: own operators over data. -/
namespace CT
open PySem L2 PySem.Spec PyProof.Rows
/-! ### the terms -/
/-! ### readings -/
end CT
set_option maxHeartbeats 4000000
/-! DLM: what the head says of own operators. -/
namespace CT
open PySem L2 PySem.Spec PyProof.Rows
section
variable {K : PySem.W.Frag}
def dnB (x f : Str) (K : PySem.W.Frag) : Bool := He.eqO (PySem.W.findIn K (.ref (He.ga K x)) f) (some (some (.ref (He.ma K (He.ga K x) f)))) && (PySem.W.isFn K (.ref (He.ma K (He.ga K x) f)) && PySem.W.fnIn K (He.ma K (He.ga K x) f))
end
end CT
set_option maxHeartbeats 4000000
/-! DLN: t[::-1], xs[::-1], t[lo:hi]. -/
namespace CT
open PySem L2 PySem.Spec PyProof.Rows HT
def mRevT (m : ME) : ME := fun F C => bnd (m F C) fun x C1 => match vT x with
  | some xs => .ok (.tup xs.reverse) C1
  | none => .stuck
/-- t[lo:hi], the whole tuple too -/
def mSlA (a : ME) (l h : Fr → Store → R (Option Int)) : ME := fun F C => bnd (a F C) fun x C1 => bnd (l F C1) fun lo C2 => bnd (h F C2) fun hi C3 => match vT x with
  | some xs => if HT.sIx xs.length 0 lo = 0 ∧ HT.sIx xs.length xs.length hi = xs.length then .ok x C3 else .ok (.tup (cutD xs lo hi)) C3
  | none => .stuck
end CT
set_option maxHeartbeats 4000000
/-! DLO: errors of the program's own: made and raised. -/
namespace CT
open PySem L2 PySem.Spec PyProof.Rows
/-! ### what the head says of an error class -/
/-! ### __init__: one field, two fields -/
/-! ### raise C(e, ..) -/
def sRaise (c n : Nat) (ma : MA) : MS := fun F C => bndS F.sl (ma F C) fun ds C1 => if ds.length = n then .xc ⟨c, ds.reverse⟩ F.sl C1 else .stuck
end CT
set_option maxHeartbeats 4000000
/-! DLP: try: .. except C as n: .. return; the error is held as data. -/
namespace CT
open PySem L2 PySem.Spec PyProof.Rows
mutual
/-- no held error within -/
def nx : D → Bool
  | .lst xs => nxL xs
  | .tup xs => nxL xs
  | .scr xs => nxL xs
  | .kt xs => nxL xs
  | .obj _ fs => nxL fs
  | .dT _ vs => nxL vs
  | .exn _ _ => false
  | .cls _ => true
  | .cell _ => true | .non => true | .bl _ => true | .int _ => true | .str _ => true
def nxL : List D → Bool
  | [] => true
  | d :: ds => nx d && nxL ds
end
section
variable {k : Cn} {A A' : Nat → Addr} {C C' : Store} {H H' : Hp} {a dd : Addr} {c : Nat} {fl : Nat}
mutual
theorem Rep.nx (hk : k.ex = none) : ∀ {v : V} {d : D}, Rep k A C H v d → CT.nx d = true
  | _, _, .non => rfl
  | _, _, .bl b => rfl
  | _, _, .int i => rfl
  | _, _, .str s => rfl
  | _, _, .lst l h r => by simpa [CT.nx] using r.nx hk
  | _, _, .tup l h r => by simpa [CT.nx] using r.nx hk
  | _, _, .ktup h r => by simpa [CT.nx] using r.nx hk
  | _, _, .scr l h r => by simpa [CT.nx] using r.nx hk
  | _, _, .kscr h r => by simpa [CT.nx] using r.nx hk
  | _, _, .obj l h z r => by simpa [CT.nx] using r.nx hk
  | _, _, .dT l h r => by simpa [CT.nx] using r.nx hk
  | _, _, .cell hi => rfl
  | _, _, .cls c => rfl
  | _, _, .exn x l h z r => by rw [hk] at x; cases x
theorem RepL.nx (hk : k.ex = none) : ∀ {vs : List V} {ds : List D}, RepL k A C H vs ds → CT.nxL ds = true
  | _, _, .nil => rfl
  | _, _, .cons r t => by simp [CT.nxL, r.nx hk, t.nx hk]
end
end
end CT
set_option maxHeartbeats 4000000
/-! DLQ: isinstance of the held error. -/
namespace CT
open PySem L2 PySem.Spec PyProof.Rows PySem.W
end CT
set_option maxHeartbeats 4000000
/-! DLR: web * k. -/
namespace CT
open PySem L2 PySem.Spec PyProof.Rows PySem.W
/-! ### over data -/
end CT
set_option maxHeartbeats 4000000
/-! DLS: is None; sorted(set(xs)) of ints, len(set(xs)) of tuples of ints. -/
namespace CT
open PySem L2 PySem.Spec PyProof.Rows
/-! ### is None, is not None -/
/-! ### set(xs), xs a list of ints -/
end CT
set_option maxHeartbeats 4000000
/-! E1: how the terms of the layer are worked out. -/
namespace CT
open PySem L2
/-! ### named steps; simp looks at what is done first alone -/
def getV (o : Option (Option D)) (C : Store) : R D := match o with
  | some (some d) => .ok d C
  | _ => .stuck
@[simp] theorem getV_some (d : D) (C : Store) : getV (some (some d)) C = .ok d C := rfl
def thenS (r : RS) (f : List (Option D) → Store → RS) : RS := match r with
  | .nx sl C => f sl C
  | r => r
@[simp] theorem thenS_nx (sl : List (Option D)) (C : Store) (f : List (Option D) → Store → RS) : thenS (.nx sl C) f = f sl C := rfl
@[simp] theorem thenS_rt (d : D) (C : Store) (f : List (Option D) → Store → RS) : thenS (.rt d C) f = .rt d C := rfl
@[simp] theorem thenS_bk (sl : List (Option D)) (C : Store) (f : List (Option D) → Store → RS) : thenS (.bk sl C) f = .bk sl C := rfl
@[simp] theorem thenS_ct (sl : List (Option D)) (C : Store) (f : List (Option D) → Store → RS) : thenS (.ct sl C) f = .ct sl C := rfl
def asB (d : D) (C : Store) : R Bool := match d with
  | .bl b => .ok b C
  | _ => .stuck
@[simp] theorem asB_bl (b : Bool) (C : Store) : asB (.bl b) C = .ok b C := rfl
def asgS (o : Option (List (Option D))) (C : Store) : RS := match o with
  | some sl => .nx sl C
  | none => .stuck
@[simp] theorem asgS_some (sl : List (Option D)) (C : Store) : asgS (some sl) C = .nx sl C := rfl
def finS (n : Nat) (r : RS) : R D := match r with
  | .nx _ C' => fin n .non C'
  | .rt d C' => fin n d C'
  | .xc e _ C' => if cbL n e.fs = true then .exc e (C'.take n) else .stuck
  | _ => .stuck
@[simp] theorem finS_nx (n : Nat) (sl : List (Option D)) (C : Store) : finS n (.nx sl C) = fin n .non C := rfl
@[simp] theorem finS_rt (n : Nat) (d : D) (C : Store) : finS n (.rt d C) = fin n d C := rfl
@[simp] theorem fin_int (n : Nat) (i : Int) (C : Store) : fin n (.int i) C = .ok (.int i) (C.take n) := rfl
@[simp] theorem fin_bl (n : Nat) (i : Bool) (C : Store) : fin n (.bl i) C = .ok (.bl i) (C.take n) := rfl
@[simp] theorem fin_non (n : Nat) (C : Store) : fin n .non C = .ok .non (C.take n) := rfl
@[simp] theorem fin_str (n : Nat) (i : Str) (C : Store) : fin n (.str i) C = .ok (.str i) (C.take n) := rfl
section
variable (fl : Nat) (sl : List (Option D)) (C : Store) (F : Fr)
@[simp] theorem ev_var (i : Nat) : mVar i ⟨fl, sl⟩ C = getV sl[i]? C := rfl
@[simp] theorem ev_c (d : D) : mC d F C = .ok d C := rfl
@[simp] theorem ev_nil : mNil F C = .ok [] C := rfl
@[simp] theorem ev_next : sNext F C = .nx F.sl C := rfl
@[simp] theorem ev_yes : tYesM F C = .ok true C := rfl
@[simp] theorem ev_retN : sRetN F C = .rt .non C := rfl
@[simp] theorem ev_gN (i : Nat) (d : D) : gN i d sl = some (sl.set i (some d)) := rfl
@[simp] theorem ev_ofO_some (d : D) : ofO (some (d, C)) = .ok d C := rfl
@[simp] theorem ev_ofO_none : ofO none = .stuck := rfl
@[simp] theorem ev_add (a b : Int) : oAdd (.int a) (.int b) C = some (.int (a + b), C) := rfl
@[simp] theorem ev_sub (a b : Int) : oSub (.int a) (.int b) C = some (.int (a - b), C) := rfl
@[simp] theorem ev_lt (a b : Int) : oLt (.int a) (.int b) C = some (.bl (decide (a < b)), C) := rfl
@[simp] theorem ev_le (a b : Int) : oLe (.int a) (.int b) C = some (.bl (decide (a ≤ b)), C) := rfl
@[simp] theorem ev_gt (a b : Int) : oGt (.int a) (.int b) C = some (.bl (decide (b < a)), C) := rfl
@[simp] theorem ev_ge (a b : Int) : oGe (.int a) (.int b) C = some (.bl (decide (b ≤ a)), C) := rfl
@[simp] theorem ev_neg (a : Int) : oNeg (.int a) C = some (.int (-a), C) := rfl
@[simp] theorem ev_min (a b : Int) : oMin2 [.int a, .int b] C = some (.int (min a b), C) := by
  show some (D.int (if b < a then b else a), C) = _
  congr 3
  by_cases h : b < a
  · rw [if_pos h]; omega
  · rw [if_neg h]; omega
@[simp] theorem ev_max (a b : Int) : oMax2 [.int a, .int b] C = some (.int (max a b), C) := by
  show some (D.int (if b > a then b else a), C) = _
  congr 3
  by_cases h : b > a
  · rw [if_pos h]; omega
  · rw [if_neg h]; omega
@[simp] theorem ev_int (a : Int) : oInt [.int a] C = some (.int a, C) := rfl
@[simp] theorem ev_abs (a : Int) : oAbs [.int a] C = some (.int (a.natAbs : Int), C) := by
  show some (D.int (if a < 0 then -a else a), C) = _
  congr 3
  by_cases h : a < 0
  · rw [if_pos h]; omega
  · rw [if_neg h]; omega
@[simp] theorem ev_eq (a b : Int) : oEqA false (.int a) (.int b) C = some (.bl (decide (a = b)), C) := rfl
@[simp] theorem ev_ne (a b : Int) : oEqA true (.int a) (.int b) C = some (.bl (!decide (a = b)), C) := rfl
@[simp] theorem ev_eqS (a b : Str) : oEqA false (.str a) (.str b) C = some (.bl (decide (a = b)), C) := rfl
@[simp] theorem ev_neS (a b : Str) : oEqA true (.str a) (.str b) C = some (.bl (!decide (a = b)), C) := rfl
end
/-! ### what is done next, as constants -/
section
variable {α β : Type}
def opK2 (o : O2) (x : D) (m : R D) : R D := bnd m fun y C2 => ofO (o x y C2)
@[simp] theorem opK2_ok (o : O2) (x y : D) (C : Store) : opK2 o x (.ok y C) = ofO (o x y C) := rfl
def opK (o : O2) (b : ME) (F : Fr) (m : R D) : R D := bnd m fun x C1 => opK2 o x (b F C1)
@[simp] theorem opK_ok (o : O2) (b : ME) (F : Fr) (x : D) (C : Store) : opK o b F (.ok x C) = opK2 o x (b F C) := rfl
@[simp] theorem ev_op (o : O2) (a b : ME) (F : Fr) (C : Store) : mOp o a b F C = opK o b F (a F C) := rfl
def unK (o : O1) (m : R D) : R D := bnd m fun x C1 => ofO (o x C1)
@[simp] theorem unK_ok (o : O1) (x : D) (C : Store) : unK o (.ok x C) = ofO (o x C) := rfl
@[simp] theorem ev_un (o : O1) (a : ME) (F : Fr) (C : Store) : mUn o a F C = unK o (a F C) := rfl
def consK2 (x : D) (m : R (List D)) : R (List D) := bnd m fun xs C2 => .ok (x :: xs) C2
@[simp] theorem consK2_ok (x : D) (xs : List D) (C : Store) : consK2 x (.ok xs C) = .ok (x :: xs) C := rfl
def consK (r : MA) (F : Fr) (m : R D) : R (List D) := bnd m fun x C1 => consK2 x (r F C1)
@[simp] theorem consK_ok (r : MA) (F : Fr) (x : D) (C : Store) : consK r F (.ok x C) = consK2 x (r F C) := rfl
@[simp] theorem ev_cons (a : ME) (r : MA) (F : Fr) (C : Store) : mCons a r F C = consK r F (a F C) := rfl
def apK (o : OA) (m : R (List D)) : R D := bnd m fun xs C1 => ofO (o xs C1)
@[simp] theorem apK_ok (o : OA) (xs : List D) (C : Store) : apK o (.ok xs C) = ofO (o xs C) := rfl
@[simp] theorem ev_ap (o : OA) (a : MA) (F : Fr) (C : Store) : mAp o a F C = apK o (a F C) := rfl
def tstK (m : R D) : R Bool := bnd m asB
@[simp] theorem tstK_ok (b : Bool) (C : Store) : tstK (.ok (.bl b) C) = .ok b C := rfl
@[simp] theorem ev_tst (a : ME) (F : Fr) (C : Store) : mTst a F C = tstK (a F C) := rfl
def tandK (b : MT) (F : Fr) (m : R Bool) : R Bool := bnd m fun x C1 => if x = true then b F C1 else .ok false C1
@[simp] theorem tandK_t (b : MT) (F : Fr) (C : Store) : tandK b F (.ok true C) = b F C := rfl
@[simp] theorem tandK_f (b : MT) (F : Fr) (C : Store) : tandK b F (.ok false C) = .ok false C := rfl
@[simp] theorem ev_tand (a b : MT) (F : Fr) (C : Store) : tAndM a b F C = tandK b F (a F C) := rfl
def torK (b : MT) (F : Fr) (m : R Bool) : R Bool := bnd m fun x C1 => if x = true then .ok true C1 else b F C1
@[simp] theorem torK_t (b : MT) (F : Fr) (C : Store) : torK b F (.ok true C) = .ok true C := rfl
@[simp] theorem torK_f (b : MT) (F : Fr) (C : Store) : torK b F (.ok false C) = b F C := rfl
@[simp] theorem ev_tor (a b : MT) (F : Fr) (C : Store) : tOrM a b F C = torK b F (a F C) := rfl
def tnotK (m : R Bool) : R Bool := bnd m fun x C1 => .ok (!x) C1
@[simp] theorem tnotK_ok (x : Bool) (C : Store) : tnotK (.ok x C) = .ok (!x) C := rfl
@[simp] theorem ev_tnot (a : MT) (F : Fr) (C : Store) : tNotM a F C = tnotK (a F C) := rfl
def ifK (a b : ME) (F : Fr) (m : R Bool) : R D := bnd m fun x C1 => if x = true then a F C1 else b F C1
@[simp] theorem ifK_t (a b : ME) (F : Fr) (C : Store) : ifK a b F (.ok true C) = a F C := rfl
@[simp] theorem ifK_f (a b : ME) (F : Fr) (C : Store) : ifK a b F (.ok false C) = b F C := rfl
@[simp] theorem ev_if (t : MT) (a b : ME) (F : Fr) (C : Store) : mIf t a b F C = ifK a b F (t F C) := rfl
def andK (b : ME) (F : Fr) (m : R D) : R D := bnd m fun x C1 => match x with
  | .bl true => b F C1
  | .bl false => .ok (.bl false) C1
  | _ => .stuck
@[simp] theorem andK_t (b : ME) (F : Fr) (C : Store) : andK b F (.ok (.bl true) C) = b F C := rfl
@[simp] theorem andK_f (b : ME) (F : Fr) (C : Store) : andK b F (.ok (.bl false) C) = .ok (.bl false) C := rfl
@[simp] theorem ev_and (a b : ME) (F : Fr) (C : Store) : mAnd a b F C = andK b F (a F C) := rfl
def orK (b : ME) (F : Fr) (m : R D) : R D := bnd m fun x C1 => match x with
  | .bl true => .ok (.bl true) C1
  | .bl false => b F C1
  | _ => .stuck
@[simp] theorem orK_t (b : ME) (F : Fr) (C : Store) : orK b F (.ok (.bl true) C) = .ok (.bl true) C := rfl
@[simp] theorem orK_f (b : ME) (F : Fr) (C : Store) : orK b F (.ok (.bl false) C) = b F C := rfl
@[simp] theorem ev_or (a b : ME) (F : Fr) (C : Store) : mOr a b F C = orK b F (a F C) := rfl
def notK (m : R D) : R D := bnd m fun x C1 => match x with
  | .bl b => .ok (.bl (!b)) C1
  | _ => .stuck
@[simp] theorem notK_ok (b : Bool) (C : Store) : notK (.ok (.bl b) C) = .ok (.bl (!b)) C := rfl
@[simp] theorem ev_not (a : ME) (F : Fr) (C : Store) : mNot a F C = notK (a F C) := rfl
def chK4 (o' : O2) (y : D) (m : R D) : R D := bnd m fun w C4 => ofO (o' y w C4)
@[simp] theorem chK4_ok (o' : O2) (y w : D) (C : Store) : chK4 o' y (.ok w C) = ofO (o' y w C) := rfl
def chK3 (o' : O2) (c : ME) (F : Fr) (y : D) (m : R D) : R D := bnd m fun z C3 => match z with
  | .bl true => chK4 o' y (c F C3)
  | .bl false => .ok (.bl false) C3
  | _ => .stuck
@[simp] theorem chK3_t (o' : O2) (c : ME) (F : Fr) (y : D) (C : Store) : chK3 o' c F y (.ok (.bl true) C) = chK4 o' y (c F C) := rfl
@[simp] theorem chK3_f (o' : O2) (c : ME) (F : Fr) (y : D) (C : Store) : chK3 o' c F y (.ok (.bl false) C) = .ok (.bl false) C := rfl
def chK2 (o o' : O2) (c : ME) (F : Fr) (x : D) (m : R D) : R D := bnd m fun y C2 => chK3 o' c F y (ofO (o x y C2))
@[simp] theorem chK2_ok (o o' : O2) (c : ME) (F : Fr) (x y : D) (C : Store) : chK2 o o' c F x (.ok y C) = chK3 o' c F y (ofO (o x y C)) := rfl
def chK (o o' : O2) (b c : ME) (F : Fr) (m : R D) : R D := bnd m fun x C1 => chK2 o o' c F x (b F C1)
@[simp] theorem chK_ok (o o' : O2) (b c : ME) (F : Fr) (x : D) (C : Store) : chK o o' b c F (.ok x C) = chK2 o o' c F x (b F C) := rfl
@[simp] theorem ev_chain (o o' : O2) (a b c : ME) (F : Fr) (C : Store) : mChain o o' a b c F C = chK o o' b c F (a F C) := rfl
def seqK (b : MS) (fl : Nat) (r : RS) : RS := match r with
  | .nx sl C1 => b ⟨fl, sl⟩ C1
  | r => r
@[simp] theorem seqK_nx (b : MS) (fl : Nat) (sl : List (Option D)) (C : Store) : seqK b fl (.nx sl C) = b ⟨fl, sl⟩ C := rfl
@[simp] theorem seqK_rt (b : MS) (fl : Nat) (d : D) (C : Store) : seqK b fl (.rt d C) = .rt d C := rfl
@[simp] theorem ev_seq (a b : MS) (F : Fr) (C : Store) : sSeq a b F C = seqK b F.fl (a F C) := by
  unfold sSeq seqK
  cases a F C <;> rfl
def dropK (sl : List (Option D)) (m : R D) : RS := bndS sl m fun _ C1 => .nx sl C1
@[simp] theorem dropK_ok (sl : List (Option D)) (d : D) (C : Store) : dropK sl (.ok d C) = .nx sl C := rfl
@[simp] theorem ev_sdrop (m : ME) (F : Fr) (C : Store) : sDrop m F C = dropK F.sl (m F C) := rfl
def retK (sl : List (Option D)) (m : R D) : RS := bndS sl m fun d C1 => .rt d C1
@[simp] theorem retK_ok (sl : List (Option D)) (d : D) (C : Store) : retK sl (.ok d C) = .rt d C := rfl
@[simp] theorem ev_sret (m : ME) (F : Fr) (C : Store) : sRet m F C = retK F.sl (m F C) := rfl
def sifK (a b : MS) (F : Fr) (m : R Bool) : RS := bndS F.sl m fun x C1 => if x = true then a F C1 else b F C1
@[simp] theorem sifK_t (a b : MS) (F : Fr) (C : Store) : sifK a b F (.ok true C) = a F C := rfl
@[simp] theorem sifK_f (a b : MS) (F : Fr) (C : Store) : sifK a b F (.ok false C) = b F C := rfl
@[simp] theorem ev_sif (t : MT) (a b : MS) (F : Fr) (C : Store) : sIf t a b F C = sifK a b F (t F C) := rfl
def asgK (g : MG) (sl : List (Option D)) (m : R D) : RS := bndS sl m fun d C1 => asgS (g d sl) C1
@[simp] theorem asgK_ok (g : MG) (sl : List (Option D)) (d : D) (C : Store) : asgK g sl (.ok d C) = asgS (g d sl) C := rfl
@[simp] theorem ev_asg (m : ME) (g : MG) (F : Fr) (C : Store) : sAsg m g F C = asgK g F.sl (m F C) := rfl
def parK (is : List Nat) (sl : List (Option D)) (m : R (List D)) : RS := bndS sl m fun ds C1 => asgS (setAll is ds sl) C1
@[simp] theorem parK_ok (is : List Nat) (sl : List (Option D)) (ds : List D) (C : Store) : parK is sl (.ok ds C) = asgS (setAll is ds sl) C := rfl
@[simp] theorem ev_par (is : List Nat) (m : MA) (F : Fr) (C : Store) : sPar is m F C = parK is F.sl (m F C) := rfl
@[simp] theorem setAll_nil (sl : List (Option D)) : setAll [] [] sl = some sl := rfl
@[simp] theorem setAll_cons (i : Nat) (is : List Nat) (d : D) (ds : List D) (sl : List (Option D)) : setAll (i :: is) (d :: ds) sl = setAll is ds (sl.set i (some d)) := rfl
@[simp] theorem ev_gT (is : List Nat) (ds : List D) (sl : List (Option D)) : gT is (.tup ds) sl = setAll is ds sl := rfl
def callK (m : MF) (dds : List D) (r : R (List D)) : R D := bnd r fun ds C1 => m (ds ++ dds) C1
@[simp] theorem callK_ok (m : MF) (dds ds : List D) (C : Store) : callK m dds (.ok ds C) = m (ds ++ dds) C := rfl
@[simp] theorem ev_call (m : MF) (dds : List D) (a : MA) (F : Fr) (C : Store) : mCall m dds a F C = callK m dds (a F C) := rfl
def forK (g : MG) (body : MS) (F : Fr) (m : R ItD) : RS := bndS F.sl m fun it C1 => loopN it g body F.fl it.n 0 F.sl C1
@[simp] theorem forK_ok (g : MG) (body : MS) (F : Fr) (it : ItD) (C : Store) : forK g body F (.ok it C) = loopN it g body F.fl it.n 0 F.sl C := rfl
@[simp] theorem ev_for (mi : MI) (g : MG) (body : MS) (F : Fr) (C : Store) : sFor mi g body F C = forK g body F (mi F C) := rfl
/-! #### methods, properties, dicts -/
def mthK2 (m : MF) (dds : List D) (x : D) (r : R (List D)) : R D := bnd r fun ds C2 => m (x :: (ds ++ dds)) C2
@[simp] theorem mthK2_ok (m : MF) (dds ds : List D) (x : D) (C : Store) : mthK2 m dds x (.ok ds C) = m (x :: (ds ++ dds)) C := rfl
def mthK (c : Nat) (m : MF) (dds : List D) (a : MA) (F : Fr) (r : R D) : R D := bnd r fun x C1 => match vO x C1 with
  | some (c', _) => if c' = c then mthK2 m dds x (a F C1) else .stuck
  | none => .stuck
@[simp] theorem mthK_ok (c : Nat) (m : MF) (dds : List D) (a : MA) (F : Fr) (fs : List D) (C : Store) : mthK c m dds a F (.ok (.obj c fs) C) = mthK2 m dds (.obj c fs) (a F C) := by
  show (if c = c then mthK2 m dds (.obj c fs) (a F C) else .stuck) = _
  rw [if_pos rfl]
@[simp] theorem ev_meth (c : Nat) (m : MF) (dds : List D) (mo : ME) (a : MA) (F : Fr) (C : Store) : mMeth c m dds mo a F C = mthK c m dds a F (mo F C) := rfl
def prpK (c : Nat) (m : MF) (r : R D) : R D := bnd r fun x C1 => match vO x C1 with
  | some (c', _) => if c' = c then (match m [x] C1 with
    | .ok d C2 => .ok d C2
    | _ => .stuck) else .stuck
  | none => .stuck
@[simp] theorem ev_prop (c : Nat) (m : MF) (mo : ME) (F : Fr) (C : Store) : mProp c m mo F C = prpK c m (mo F C) := rfl
@[simp] theorem ev_fld (c n : Nat) (fs : List D) (C : Store) : oFld c n (.obj c fs) C = (fs[n]?).map fun d => (d, C) := by
  unfold oFld
  simp [vO]
def getK3 (x y : D) (m : R D) : R D := bnd m fun z C3 => ofO (oDGet x y z C3)
@[simp] theorem getK3_ok (x y z : D) (C : Store) : getK3 x y (.ok z C) = ofO (oDGet x y z C) := rfl
def getK2 (c : ME) (F : Fr) (x : D) (m : R D) : R D := bnd m fun y C2 => getK3 x y (c F C2)
@[simp] theorem getK2_ok (c : ME) (F : Fr) (x y : D) (C : Store) : getK2 c F x (.ok y C) = getK3 x y (c F C) := rfl
def getK (b c : ME) (F : Fr) (m : R D) : R D := bnd m fun x C1 => if (vD x C1).isSome = true then getK2 c F x (b F C1) else .stuck
@[simp] theorem ev_dget (a b c : ME) (F : Fr) (C : Store) : mDGet a b c F C = getK b c F (a F C) := rfl
def isiK (kn : List Nat) (t : Cc) (m : R D) : R D := bnd m fun d C1 => match isi kn d C1 t with
  | some b => .ok (.bl b) C1
  | none => .stuck
@[simp] theorem ev_isi (kn : List Nat) (t : Cc) (m : ME) (F : Fr) (C : Store) : mIsi kn t m F C = isiK kn t (m F C) := rfl
@[simp] theorem isiK_ok (kn : List Nat) (t : Cc) (d : D) (C : Store) : isiK kn t (.ok d C) = ofO ((isi kn d C t).map fun b => (.bl b, C)) := by
  show (match isi kn d C t with
    | some b => R.ok (D.bl b) C
    | none => R.stuck) = _
  cases isi kn d C t <;> rfl
/-! #### lists written -/
def stK4 (F : Fr) (v o : D) (x : D) (C3 : Store) : RS := match x, cL o C3 with
  | .int n, some (i, ds) => match ixN ds.length n with
    | some j => match wr F.fl i (.lst (ds.set j v)) C3 with
      | some C4 => .nx F.sl C4
      | none => .stuck
    | none => .stuck
  | _, _ => .stuck
def stK3 (F : Fr) (v o : D) (m : R D) : RS := bndS F.sl m fun x C3 => stK4 F v o x C3
@[simp] theorem stK3_ok (F : Fr) (v o x : D) (C : Store) : stK3 F v o (.ok x C) = stK4 F v o x C := rfl
def stK2 (mi : ME) (F : Fr) (v : D) (m : R D) : RS := bndS F.sl m fun o C2 => stK3 F v o (mi F C2)
@[simp] theorem stK2_ok (mi : ME) (F : Fr) (v o : D) (C : Store) : stK2 mi F v (.ok o C) = stK3 F v o (mi F C) := rfl
def stK (mo mi : ME) (F : Fr) (m : R D) : RS := bndS F.sl m fun v C1 => stK2 mi F v (mo F C1)
@[simp] theorem stK_ok (mo mi : ME) (F : Fr) (v : D) (C : Store) : stK mo mi F (.ok v C) = stK2 mi F v (mo F C) := rfl
@[simp] theorem ev_setL (me mo mi : ME) (F : Fr) (C : Store) : sSetL me mo mi F C = stK mo mi F (me F C) := rfl
def auK4 (o : Int → Int → Int) (F : Fr) (l : D) (n a : Int) (v : D) (C3 : Store) : RS := match v, cL l C3 with
  | .int b, some (i, es) => (match ixN es.length n with
    | some j => (match wr F.fl i (.lst (es.set j (.int (o a b)))) C3 with
      | some C4 => .nx F.sl C4
      | none => .stuck)
    | none => .stuck)
  | _, _ => .stuck
def auK3 (o : Int → Int → Int) (F : Fr) (l : D) (n a : Int) (m : R D) : RS := bndS F.sl m fun v C3 => auK4 o F l n a v C3
@[simp] theorem auK3_ok (o : Int → Int → Int) (F : Fr) (l : D) (n a : Int) (v : D) (C : Store) : auK3 o F l n a (.ok v C) = auK4 o F l n a v C := rfl
def auK2 (o : Int → Int → Int) (me : ME) (F : Fr) (l : D) (x : D) (C2 : Store) : RS := match x, cL l C2 with
  | .int n, some (_, ds) => if 0 ≤ n then (match ds[n.toNat]? with
    | some (.int a) => auK3 o F l n a (me F C2)
    | _ => .stuck) else .stuck
  | _, _ => .stuck
def auK1 (o : Int → Int → Int) (me : ME) (F : Fr) (l : D) (m : R D) : RS := bndS F.sl m fun x C2 => auK2 o me F l x C2
@[simp] theorem auK1_ok (o : Int → Int → Int) (me : ME) (F : Fr) (l x : D) (C : Store) : auK1 o me F l (.ok x C) = auK2 o me F l x C := rfl
def auK (o : Int → Int → Int) (mi me : ME) (F : Fr) (m : R D) : RS := bndS F.sl m fun l C1 => auK1 o me F l (mi F C1)
@[simp] theorem auK_ok (o : Int → Int → Int) (mi me : ME) (F : Fr) (l : D) (C : Store) : auK o mi me F (.ok l C) = auK1 o me F l (mi F C) := rfl
@[simp] theorem ev_augL (o : Int → Int → Int) (mo mi me : ME) (F : Fr) (C : Store) : sAugL o mo mi me F C = auK o mi me F (mo F C) := rfl
@[simp] theorem cbL_ints (n : Nat) : ∀ cs : List Int, cbL n (cs.map D.int) = true
  | [] => rfl
  | c :: cs => by
    show (cb n (.int c) && cbL n (cs.map D.int)) = true
    rw [cbL_ints n cs]
    rfl
end
end CT
set_option maxHeartbeats 4000000
/-! DLT: sorted(set(xs)) of ints, len(set(xs)) of tuples of ints. -/
namespace CT
open PySem L2 PySem.Spec PyProof.Rows
/-! ### unlike members, ascending -/
/-! ### unlike rows -/
/-! ### the calls -/
/-! ### over data -/
end CT
set_option maxHeartbeats 4000000
/-! DLU: repr of an empty dict. -/
namespace CT
open PySem L2 PySem.Spec PyProof.Rows
end CT
set_option maxHeartbeats 4000000
/-! DLV: l.count(x) over data. -/
namespace CT
open PySem L2 PySem.Spec PyProof.Rows
end CT
set_option maxHeartbeats 4000000
/-! DLW: a class whose __init__ takes *numbers and a keyword. -/
namespace CT
open PySem L2 PySem.Spec PyProof.Rows
abbrev tupO (its : List Value) : Obj := { cls := .type "tuple", data := .seq its.toArray }
abbrev pushT (s : Shared) (its : List Value) : Shared := { s with heap := s.heap.push (tupO its) }
/-- binding makes a tuple of the rest -/
def BindsW (s : Shared) (fd : FuncData) (args : Args) (binds : List (Str × Value)) (its : List Value) : Prop :=
  ∀ (M : Model) (A : Around) (E : Value → Shared → Prop) (Q : List (Str × Value) → Shared → Prop), Q binds (pushT s its) → wpAny M A (bindArgs fd args) Q E s
structure FnW (P : Program) (w : World) (K : PySem.W.Frag) (mg : Str → Option Value) (base : Heap) (lev : Nat) (f : Addr) (fd : FuncData) (ps : List Str) (sp : Sp) : Prop where
  len : ∀ vs H Q E, sp vs H Q E → vs.length = ps.length
  run : ∀ (A : Around) (outer : List Env) (s : Shared) (H : Hp) (args : Args) (us its : List Value) (vs ws : List V) (Q : VK) (E : XK), RoomG lev A → Env0 P w K mg base A outer s H → its.length ≤ sizeLine → Vals ws its → BindsW s fd args (ps.zip us) its → Vals vs us → sp vs (upd H s.heap.objs.size (.tup ws)) Q E →
    codeAny (model P w) A (.call (.ref f) args) (CR (L2.CX P w) outer P w H s Q E) s
/-! ### C(e, ..), C(k = e) -/
/-- what the call's arguments become: the keyword's value, the rest -/
inductive Vg where
  | pos | kw
def Vg.d : Vg → List D → D × List D
  | .pos, ds => (.non, ds)
  | .kw, ds => (ds.headD .non, [])
def Vg.v : Vg → List V → V × List V
  | .pos, ds => (.non, ds)
  | .kw, ds => (ds.headD .non, [])
section
variable {k : Cn} {A : Nat → Addr} {C : Store} {H : Hp}
theorem Vg.rep (g : Vg) {vs : List V} {ds : List D} (r : RepL k A C H vs ds) : Rep k A C H (g.v vs).1 (g.d ds).1 ∧ RepL k A C H (g.v vs).2 (g.d ds).2 := by
  cases g with
  | pos => exact ⟨.non, r⟩
  | kw => cases r with
    | nil => exact ⟨.non, .nil⟩
    | cons h t => exact ⟨h, .nil⟩
end
end CT
set_option maxHeartbeats 4000000
/-! DLX: len(set(t)) of a tuple of ints; sorted(t); str(n), f-strings, join. -/
namespace CT
open PySem L2 PySem.Spec PyProof.Rows
/-! ### len(set(t)) -/
/-! ### sorted(t) -/
end CT
set_option maxHeartbeats 4000000
/-! DLY: sorted of lists or tuples; str(n), f-strings, join; str(o) by the class's own __str__. -/
namespace CT
open PySem L2 PySem.Spec PyProof.Rows
end CT
set_option maxHeartbeats 4000000
/-! DLZ: binding of *numbers and a keyword that is None by itself. -/
namespace CT
open PySem L2 PySem.Spec PyProof.Rows
end CT
set_option maxHeartbeats 4000000
/-! DM1: classmethods (C.m(..), cls(k = e)); + of texts. -/
namespace CT
open PySem L2 PySem.Spec PyProof.Rows
end CT
set_option maxHeartbeats 4000000
/-! DM2: the head's Hook where attributes of classes are read. -/
namespace CT
open PySem L2 PySem.Spec PyProof.Rows
end CT
set_option maxHeartbeats 8000000
set_option pp.maxSteps 60
namespace CL
open PySem L2 PySem.Spec PyProof.Rows CT
def top (i : Nat) : Stmt := PySem.Challenge.pw_contentties_k85_whole_best_rows.main.body.getD i (.Pass ⟨0, 0, 0, 0⟩)
def mem (i j : Nat) : Stmt := match top i with
  | .ClassDef _ _ _ b _ _ _ _ _ _ _ => b.getD j (.Pass ⟨0, 0, 0, 0⟩)
  | s => s
def clA (K : PySem.W.Frag) (c : Nat) : Addr := match c with
  | 0 => He.ga K "Web"
  | _ => 0
abbrev s_is_integer : Stmt := top 3
abbrev a_is_integer (K : PySem.W.Frag) : Addr := He.ga K "is_integer"
abbrev s_is_count : Stmt := top 4
abbrev a_is_count (K : PySem.W.Frag) : Addr := He.ga K "is_count"
abbrev s_is_tie : Stmt := top 13
abbrev a_is_tie (K : PySem.W.Frag) : Addr := He.ga K "is_tie"
abbrev s_summed : Stmt := top 14
abbrev a_summed (K : PySem.W.Frag) : Addr := He.ga K "summed"
abbrev s_grid_of : Stmt := top 15
abbrev a_grid_of (K : PySem.W.Frag) : Addr := He.ga K "grid_of"
abbrev s_Web__init : Stmt := mem 16 0
abbrev a_Web__init (K : PySem.W.Frag) : Addr := He.ma K (He.ga K "Web") "__init__"
abbrev s_Web__getitem : Stmt := mem 16 3
abbrev a_Web__getitem (K : PySem.W.Frag) : Addr := He.ma K (He.ga K "Web") "__getitem__"
abbrev s_check_size : Stmt := top 18
abbrev a_check_size (K : PySem.W.Frag) : Addr := He.ga K "check_size"
abbrev s_pairs_of : Stmt := top 20
abbrev a_pairs_of (K : PySem.W.Frag) : Addr := He.ga K "pairs_of"
abbrev s_numbers : Stmt := top 21
abbrev a_numbers (K : PySem.W.Frag) : Addr := He.ga K "numbers"
abbrev s_check_light : Stmt := top 22
abbrev a_check_light (K : PySem.W.Frag) : Addr := He.ga K "check_light"
abbrev s_all_numbers : Stmt := top 23
abbrev a_all_numbers (K : PySem.W.Frag) : Addr := He.ga K "all_numbers"
abbrev s_degrees_of : Stmt := top 24
abbrev a_degrees_of (K : PySem.W.Frag) : Addr := He.ga K "degrees_of"
abbrev s_row_counts : Stmt := top 25
abbrev a_row_counts (K : PySem.W.Frag) : Addr := He.ga K "row_counts"
abbrev s_granted_rows : Stmt := top 26
abbrev a_granted_rows (K : PySem.W.Frag) : Addr := He.ga K "granted_rows"
abbrev s_moved_by : Stmt := top 28
abbrev a_moved_by (K : PySem.W.Frag) : Addr := He.ga K "moved_by"
abbrev s_opposite : Stmt := top 29
abbrev a_opposite (K : PySem.W.Frag) : Addr := He.ga K "opposite"
abbrev s_steps_towards : Stmt := top 30
abbrev a_steps_towards (K : PySem.W.Frag) : Addr := He.ga K "steps_towards"
abbrev s_second_steps : Stmt := top 31
abbrev a_second_steps (K : PySem.W.Frag) : Addr := He.ga K "second_steps"
abbrev s_displeasure : Stmt := top 33
abbrev a_displeasure (K : PySem.W.Frag) : Addr := He.ga K "displeasure"
abbrev s_best_rows : Stmt := top 35
abbrev a_best_rows (K : PySem.W.Frag) : Addr := He.ga K "best_rows"
abbrev s_law_bag : Stmt := top 37
abbrev a_law_bag (K : PySem.W.Frag) : Addr := He.ga K "_law_bag"
abbrev s_law_take : Stmt := top 38
abbrev a_law_take (K : PySem.W.Frag) : Addr := He.ga K "_law_take"
abbrev s_law_one : Stmt := top 39
abbrev a_law_one (K : PySem.W.Frag) : Addr := He.ga K "_law_one"
abbrev s_law_mixed : Stmt := top 40
abbrev a_law_mixed (K : PySem.W.Frag) : Addr := He.ga K "_law_mixed"
abbrev s_law_pairs : Stmt := top 41
abbrev a_law_pairs (K : PySem.W.Frag) : Addr := He.ga K "_law_pairs"
abbrev s_law_light : Stmt := top 42
abbrev a_law_light (K : PySem.W.Frag) : Addr := He.ga K "_law_light"
abbrev s_law_numbers : Stmt := top 43
abbrev a_law_numbers (K : PySem.W.Frag) : Addr := He.ga K "_law_numbers"
abbrev s_law_all : Stmt := top 44
abbrev a_law_all (K : PySem.W.Frag) : Addr := He.ga K "_law_all"
abbrev s_law_row_of : Stmt := top 45
abbrev a_law_row_of (K : PySem.W.Frag) : Addr := He.ga K "_law_row_of"
abbrev s_law_counts : Stmt := top 46
abbrev a_law_counts (K : PySem.W.Frag) : Addr := He.ga K "_law_counts"
abbrev s_law_grid : Stmt := top 47
abbrev a_law_grid (K : PySem.W.Frag) : Addr := He.ga K "_law_grid"
abbrev s_law_alike : Stmt := top 48
abbrev a_law_alike (K : PySem.W.Frag) : Addr := He.ga K "_law_alike"
abbrev s_law_moved : Stmt := top 49
abbrev a_law_moved (K : PySem.W.Frag) : Addr := He.ga K "_law_moved"
abbrev s_law_towards : Stmt := top 50
abbrev a_law_towards (K : PySem.W.Frag) : Addr := He.ga K "_law_towards"
abbrev s_law_table : Stmt := top 51
abbrev a_law_table (K : PySem.W.Frag) : Addr := He.ga K "_law_table"
abbrev s_law_cost : Stmt := top 52
abbrev a_law_cost (K : PySem.W.Frag) : Addr := He.ga K "_law_cost"
abbrev s_law_exchanged : Stmt := top 53
abbrev a_law_exchanged (K : PySem.W.Frag) : Addr := He.ga K "_law_exchanged"
abbrev s_law : Stmt := top 54
abbrev a_law (K : PySem.W.Frag) : Addr := He.ga K "law"
def d_Web__init (K : PySem.W.Frag) : Addr := He.dflAt ("Web", some "__init__") 0 K
def fs : List (PySem.W.Frag → Bool) := [(He.Fa.free "abs").ok,
  (He.Fa.free "any").ok,
  (He.Fa.free "bool").ok,
  (He.Fa.free "enumerate").ok,
  (He.Fa.free "int").ok,
  (He.Fa.free "isinstance").ok,
  (He.Fa.free "len").ok,
  (He.Fa.free "list").ok,
  (He.Fa.free "max").ok,
  (He.Fa.free "min").ok,
  (He.Fa.free "range").ok,
  (He.Fa.free "repr").ok,
  (He.Fa.free "sorted").ok,
  (He.Fa.free "sum").ok,
  (He.Fa.free "tuple").ok,
  (He.Fa.free "zip").ok,
  (He.Fa.int "MOST" 1000000000).ok,
  (He.Fa.glo "is_integer").ok,
  (He.Fa.glo "is_count").ok,
  (He.Fa.glo "is_tie").ok,
  (He.Fa.glo "summed").ok,
  (He.Fa.glo "grid_of").ok,
  (He.Fa.glo "check_size").ok,
  (He.Fa.glo "pairs_of").ok,
  (He.Fa.glo "numbers").ok,
  (He.Fa.glo "check_light").ok,
  (He.Fa.glo "all_numbers").ok,
  (He.Fa.glo "degrees_of").ok,
  (He.Fa.glo "row_counts").ok,
  (He.Fa.glo "granted_rows").ok,
  (He.Fa.glo "moved_by").ok,
  (He.Fa.glo "opposite").ok,
  (He.Fa.glo "steps_towards").ok,
  (He.Fa.glo "second_steps").ok,
  (He.Fa.glo "displeasure").ok,
  (He.Fa.glo "best_rows").ok,
  (He.Fa.glo "_law_bag").ok,
  (He.Fa.glo "_law_take").ok,
  (He.Fa.glo "_law_one").ok,
  (He.Fa.glo "_law_mixed").ok,
  (He.Fa.glo "_law_pairs").ok,
  (He.Fa.glo "_law_light").ok,
  (He.Fa.glo "_law_numbers").ok,
  (He.Fa.glo "_law_all").ok,
  (He.Fa.glo "_law_row_of").ok,
  (He.Fa.glo "_law_counts").ok,
  (He.Fa.glo "_law_grid").ok,
  (He.Fa.glo "_law_alike").ok,
  (He.Fa.glo "_law_moved").ok,
  (He.Fa.glo "_law_towards").ok,
  (He.Fa.glo "_law_table").ok,
  (He.Fa.glo "_law_cost").ok,
  (He.Fa.glo "_law_exchanged").ok,
  (He.Fa.glo "law").ok,
  (He.Fa.glo "Web").ok,
  (He.Fa.cls "Web").ok,
  (He.Fa.noat "Web" "size").ok,
  (He.Fa.noat "Web" "grid").ok,
  (He.Fa.noat "Web" "ties").ok,
  (He.Fa.mkr "Web").ok,
  ktB d_Web__init,
  dnB "Web" "__getitem__",
  isaB clA [0]]
def dx_is_integer : DefX := ⟨a_is_integer, "is_integer", "is_integer", defArgs s_is_integer, defBody s_is_integer, defScope s_is_integer, fun _ => []⟩
def dx_is_count : DefX := ⟨a_is_count, "is_count", "is_count", defArgs s_is_count, defBody s_is_count, defScope s_is_count, fun _ => []⟩
def dx_is_tie : DefX := ⟨a_is_tie, "is_tie", "is_tie", defArgs s_is_tie, defBody s_is_tie, defScope s_is_tie, fun _ => []⟩
def dx_summed : DefX := ⟨a_summed, "summed", "summed", defArgs s_summed, defBody s_summed, defScope s_summed, fun _ => []⟩
def dx_grid_of : DefX := ⟨a_grid_of, "grid_of", "grid_of", defArgs s_grid_of, defBody s_grid_of, defScope s_grid_of, fun _ => []⟩
def dx_Web__init : DefX := ⟨a_Web__init, "__init__", "Web.__init__", defArgs s_Web__init, defBody s_Web__init, defScope s_Web__init, fun K => [V.ref (d_Web__init K)]⟩
def dx_Web__getitem : DefX := ⟨a_Web__getitem, "__getitem__", "Web.__getitem__", defArgs s_Web__getitem, defBody s_Web__getitem, defScope s_Web__getitem, fun _ => []⟩
def dx_check_size : DefX := ⟨a_check_size, "check_size", "check_size", defArgs s_check_size, defBody s_check_size, defScope s_check_size, fun _ => []⟩
def dx_pairs_of : DefX := ⟨a_pairs_of, "pairs_of", "pairs_of", defArgs s_pairs_of, defBody s_pairs_of, defScope s_pairs_of, fun _ => []⟩
def dx_numbers : DefX := ⟨a_numbers, "numbers", "numbers", defArgs s_numbers, defBody s_numbers, defScope s_numbers, fun _ => []⟩
def dx_check_light : DefX := ⟨a_check_light, "check_light", "check_light", defArgs s_check_light, defBody s_check_light, defScope s_check_light, fun _ => []⟩
def dx_all_numbers : DefX := ⟨a_all_numbers, "all_numbers", "all_numbers", defArgs s_all_numbers, defBody s_all_numbers, defScope s_all_numbers, fun _ => []⟩
def dx_degrees_of : DefX := ⟨a_degrees_of, "degrees_of", "degrees_of", defArgs s_degrees_of, defBody s_degrees_of, defScope s_degrees_of, fun _ => []⟩
def dx_row_counts : DefX := ⟨a_row_counts, "row_counts", "row_counts", defArgs s_row_counts, defBody s_row_counts, defScope s_row_counts, fun _ => []⟩
def dx_granted_rows : DefX := ⟨a_granted_rows, "granted_rows", "granted_rows", defArgs s_granted_rows, defBody s_granted_rows, defScope s_granted_rows, fun _ => []⟩
def dx_moved_by : DefX := ⟨a_moved_by, "moved_by", "moved_by", defArgs s_moved_by, defBody s_moved_by, defScope s_moved_by, fun _ => []⟩
def dx_opposite : DefX := ⟨a_opposite, "opposite", "opposite", defArgs s_opposite, defBody s_opposite, defScope s_opposite, fun _ => []⟩
def dx_steps_towards : DefX := ⟨a_steps_towards, "steps_towards", "steps_towards", defArgs s_steps_towards, defBody s_steps_towards, defScope s_steps_towards, fun _ => []⟩
def dx_second_steps : DefX := ⟨a_second_steps, "second_steps", "second_steps", defArgs s_second_steps, defBody s_second_steps, defScope s_second_steps, fun _ => []⟩
def dx_displeasure : DefX := ⟨a_displeasure, "displeasure", "displeasure", defArgs s_displeasure, defBody s_displeasure, defScope s_displeasure, fun _ => []⟩
def dx_best_rows : DefX := ⟨a_best_rows, "best_rows", "best_rows", defArgs s_best_rows, defBody s_best_rows, defScope s_best_rows, fun _ => []⟩
def dx_law_bag : DefX := ⟨a_law_bag, "_law_bag", "_law_bag", defArgs s_law_bag, defBody s_law_bag, defScope s_law_bag, fun _ => []⟩
def dx_law_take : DefX := ⟨a_law_take, "_law_take", "_law_take", defArgs s_law_take, defBody s_law_take, defScope s_law_take, fun _ => []⟩
def dx_law_one : DefX := ⟨a_law_one, "_law_one", "_law_one", defArgs s_law_one, defBody s_law_one, defScope s_law_one, fun _ => []⟩
def dx_law_mixed : DefX := ⟨a_law_mixed, "_law_mixed", "_law_mixed", defArgs s_law_mixed, defBody s_law_mixed, defScope s_law_mixed, fun _ => []⟩
def dx_law_pairs : DefX := ⟨a_law_pairs, "_law_pairs", "_law_pairs", defArgs s_law_pairs, defBody s_law_pairs, defScope s_law_pairs, fun _ => []⟩
def dx_law_light : DefX := ⟨a_law_light, "_law_light", "_law_light", defArgs s_law_light, defBody s_law_light, defScope s_law_light, fun _ => []⟩
def dx_law_numbers : DefX := ⟨a_law_numbers, "_law_numbers", "_law_numbers", defArgs s_law_numbers, defBody s_law_numbers, defScope s_law_numbers, fun _ => []⟩
def dx_law_all : DefX := ⟨a_law_all, "_law_all", "_law_all", defArgs s_law_all, defBody s_law_all, defScope s_law_all, fun _ => []⟩
def dx_law_row_of : DefX := ⟨a_law_row_of, "_law_row_of", "_law_row_of", defArgs s_law_row_of, defBody s_law_row_of, defScope s_law_row_of, fun _ => []⟩
def dx_law_counts : DefX := ⟨a_law_counts, "_law_counts", "_law_counts", defArgs s_law_counts, defBody s_law_counts, defScope s_law_counts, fun _ => []⟩
def dx_law_grid : DefX := ⟨a_law_grid, "_law_grid", "_law_grid", defArgs s_law_grid, defBody s_law_grid, defScope s_law_grid, fun _ => []⟩
def dx_law_alike : DefX := ⟨a_law_alike, "_law_alike", "_law_alike", defArgs s_law_alike, defBody s_law_alike, defScope s_law_alike, fun _ => []⟩
def dx_law_moved : DefX := ⟨a_law_moved, "_law_moved", "_law_moved", defArgs s_law_moved, defBody s_law_moved, defScope s_law_moved, fun _ => []⟩
def dx_law_towards : DefX := ⟨a_law_towards, "_law_towards", "_law_towards", defArgs s_law_towards, defBody s_law_towards, defScope s_law_towards, fun _ => []⟩
def dx_law_table : DefX := ⟨a_law_table, "_law_table", "_law_table", defArgs s_law_table, defBody s_law_table, defScope s_law_table, fun _ => []⟩
def dx_law_cost : DefX := ⟨a_law_cost, "_law_cost", "_law_cost", defArgs s_law_cost, defBody s_law_cost, defScope s_law_cost, fun _ => []⟩
def dx_law_exchanged : DefX := ⟨a_law_exchanged, "_law_exchanged", "_law_exchanged", defArgs s_law_exchanged, defBody s_law_exchanged, defScope s_law_exchanged, fun _ => []⟩
def dx_law : DefX := ⟨a_law, "law", "law", defArgs s_law, defBody s_law, defScope s_law, fun _ => []⟩
def fn : List DefX := [dx_is_integer, dx_is_count, dx_is_tie, dx_summed, dx_grid_of, dx_Web__init, dx_Web__getitem, dx_check_size, dx_pairs_of, dx_numbers, dx_check_light, dx_all_numbers, dx_degrees_of, dx_row_counts, dx_granted_rows, dx_moved_by, dx_opposite, dx_steps_towards, dx_second_steps, dx_displeasure, dx_best_rows, dx_law_bag, dx_law_take, dx_law_one, dx_law_mixed, dx_law_pairs, dx_law_light, dx_law_numbers, dx_law_all, dx_law_row_of, dx_law_counts, dx_law_grid, dx_law_alike, dx_law_moved, dx_law_towards, dx_law_table, dx_law_cost, dx_law_exchanged, dx_law]
end CL
set_option maxHeartbeats 4000000
/-! DM28: the head's Hook, its objects gathered by a walk that marks what it has seen in one number. -/
namespace CT
open PySem L2 PySem.Spec PyProof.Rows
/-- the addresses that are not marked, each once -/
def erB : Nat → List Addr → List Addr
  | _, [] => []
  | seen, a :: r => match Nat.beq (Nat.land (Nat.shiftRight seen a) 1) 1 with
    | true => erB seen r
    | false => a :: erB (Nat.lor seen (Nat.shiftLeft 1 a)) r
def mkB : Nat → List Addr → Nat
  | seen, [] => seen
  | seen, a :: r => mkB (Nat.lor seen (Nat.shiftLeft 1 a)) r
def nxB (g : Addr → Option Obj) : List Addr → List Addr
  | [] => []
  | a :: r => (match g a with
    | some o => He.refsD o
    | none => []) ++ nxB g r
def digB (g : Addr → Option Obj) : Nat → Nat → List Addr → List Addr
  | 0, _, _ => []
  | n + 1, seen, f => (fun t => t ++ digB g n (mkB seen t) t) (erB seen (nxB g f))
def agB (g : Addr → Option Obj) (n : Nat) : List Addr := mainGlobals :: (digB g n (Nat.shiftLeft 1 mainGlobals) [mainGlobals] ++ [cStatics])
def obGb (n : Nat) (fs : List (PySem.W.Frag → Bool)) (fn : List DefX) (g : Addr → Option Obj) : AlX := obX fs fn (He.frG g (agB g n))
def hookXb (n : Nat) (fs : List (PySem.W.Frag → Bool)) (fn : List DefX) : PySem.W.Hook where
  α := AlX
  obs := fun s => obGb n fs fn s.heap.get?
  val := fun _ => vlX fn
  says := fun _ h => ∃ K : PySem.W.Frag, K.In h ∧ SaysX fs fn K
  of := fun _ _ e => ⟨_, He.frG_in, e⟩
  keeps := fun _ _ _ ⟨K, hK, c⟩ k => ⟨K, PySem.W.Frag.In.keeps hK k, c⟩
end CT
set_option maxHeartbeats 0
namespace CL
open PySem L2 PySem.Spec PyProof.Rows CT
abbrev RR : PySem.W.OpenRow := PySem.W.OpenLaw.row PySem.Challenge.rw_contentties_k85_whole_best_rows
abbrev hk : PySem.W.Hook := hookXb 6 fs fn
def ob (s : PySem.W.SharedT) : AlX := obGb 6 fs fn (HandSHeadRun.getT s)
def loose : List Str := (["_wall", "MOST", "is_integer", "is_count", "ContentError", "Wrong", "TooMany", "BadTie", "TooFew", "Unequal", "is_tie", "summed", "grid_of", "Web", "check_size", "pairs_of"] : List Str) ++ (["numbers", "check_light", "all_numbers", "degrees_of", "row_counts", "granted_rows", "moved_by", "opposite", "steps_towards", "second_steps", "displeasure", "best_rows", "_law_bag", "_law_take", "_law_one", "_law_mixed"] : List Str) ++ (["_law_pairs", "_law_light", "_law_numbers", "_law_all", "_law_row_of", "_law_counts", "_law_grid", "_law_alike", "_law_moved", "_law_towards", "_law_table", "_law_cost", "_law_exchanged"] : List Str)
section
open HandSHeadRun PySem.W PySem.Calls
theorem run_looks (w : World) (os : OsState) : (HandSHeadRun.endF (HandSHeadRun.stepQ (HandSHeadRun.denQ HandSHeadRun.tabQ) RR.prog w) 20000 RR.prog w os).map (fun s => HandSHeadRun.looksF RR.prog (boot_heap w.params) s.abs) = some (true) := by kernel_rfl
theorem run_seen (w : World) (os : OsState) : (HandSHeadRun.endF (HandSHeadRun.stepQ (HandSHeadRun.denQ HandSHeadRun.tabQ) RR.prog w) 20000 RR.prog w os).map (fun s => HandSHeadRun.seenQ (PySem.W.view RR.prog [54]) loose (importedModules RR.prog.main.body) (fun s => xlAt (PySem.W.view RR.prog [54]) [] s && recOk RR.toRowW.records s) s.abs) = some (openGood (PySem.W.view RR.prog [54]) loose) := by kernel_rfl
theorem run_ob (w : World) (os : OsState) : (HandSHeadRun.endF (HandSHeadRun.stepQ (HandSHeadRun.denQ HandSHeadRun.tabQ) RR.prog w) 20000 RR.prog w os).map (ob) = some (hk.val w) := by kernel_rfl
theorem opt3 {α β γ : Type _} {δ : Type _} {x : Option α} {f : α → β} {g : α → γ} {h : α → δ} {a : β} {b : γ} {c : δ} (h1 : x.map f = some a) (h2 : x.map g = some b) (h3 : x.map h = some c) : x.map (fun s => (f s, g s, h s)) = some (a, b, c) := by
  cases x with
  | none => cases h1
  | some s =>
    have e1 : f s = a := Option.some.inj h1
    have e2 : g s = b := Option.some.inj h2
    have e3 : h s = c := Option.some.inj h3
    show some (f s, g s, h s) = some (a, b, c)
    rw [e1, e2, e3]
end
theorem run (w : World) : HandSHeadRun.RunEq RR (PySem.W.view RR.prog [54]) hk ob 20000 loose w := by
  intro os
  have z := opt3 (run_looks w os) (run_seen w os) (run_ob w os)
  exact z
end CL
/-! DM3: is True; t * n; bool(o) by the class's own __bool__; a or b of tuples, bool(t). -/
namespace CT
/-! ### t * n -/
/-! ### a or b of tuples; bool(t) -/
end CT
/-! DM4: bool(o) by the class's own __bool__. -/
namespace CT
/-! ### bool(o) -/
end CT
/-! DM5: zip of two tuples; min and max of a list of ints with a default. -/
namespace CT
end CT
/-! DM6: min and max of a list of ints with a default. -/
namespace CT
end CT
/-! DM7: x + k, k + x, x - k, k - x, -x for an own x and an int k. -/
namespace CT
end CT
/-! DM8: list(range(a, b, 2)); sorted(set(xs)), len(set(xs)) of up to 4,000 ints. -/
namespace CT
/-! ### sets of more ints -/
end CT
/-! DM9: xs[i], ys[j] = e, f. -/
namespace CT
end CT
/-! DM10: a def that hands back an own list, as an equation. -/
namespace CT
end CT
/-! DM11: {x for u in a if .. for x in b if ..} of ints, two clauses; its members in a list beside the heap. -/
namespace CT
end CT
/-! DM12: sorted({x for u in a if .. for x in b if ..}) over data. -/
namespace CT
end CT
/-! DM13: min and max of one list of ints, not empty. -/
namespace CT
end CT
/-! DM14: in, not in by an own __contains__, as values and as tests. -/
namespace CT
end CT
/-! DM15: == and != of two lists of own objects that are equal item by item. -/
namespace CT
end CT
/-! DM16: an own object as a test, by the class's own __bool__. -/
namespace CT
end CT
/-! DM17: xs.reverse(). -/
namespace CT
end CT
/-! DM18: while, of at most so many turns. -/
namespace CT
end CT
/-! GN1: a run that wakes no sleeping generator runs alike whatever the sleepers hold. -/
namespace GV
end GV
/-! GN2: weakest preconditions under the veil. -/
namespace GV
end GV
/-! GN3: for over a generator: the rule of the consumer. -/
namespace GV
end GV
/-! GN4: for over a generator: the rule. -/
namespace GV
end GV
/-! GN5: next of a generator (it sleeps behind); for in a generator's own code. -/
namespace GV
/-! ### for, in a generator's code -/
end GV
/-! GN6: one stretch of a generator's run, whatever is wanted of its end. -/
namespace GV
/-! ### waking it -/
end GV
/-! GN7: a generator's code at work: its context anew at each waking. -/
namespace GV
/-! ### the heap as far as n -/
/-! ### a generator: its def, where it was made -/
end GV
/-! GN8: for x in range(..): .. ; yield e — all its stretches. -/
namespace GV
end GV
/-! GN9: a generator is made by a call. -/
namespace GV
end GV
/-! GN10: behind a generator's stretch: the consumer's state. -/
namespace GV
end GV
/-! GN11: a generator made by a call, walked by for. -/
namespace GV
/-! ### the call -/
end GV
/-! DG1: for over a generator, at data. -/
namespace CT
end CT
/-! DG2: for over a generator, at data. -/
namespace CT
/-! ### the generator's promise at data -/
end CT
/-! DG3: a generator def, by its parts over data. -/
namespace CT
end CT
/-! DG4a: a tuple of ints of the written part. -/
namespace CT
end CT
/-! DM26: t * 1. -/
namespace CT
end CT
/-! DM19: a def that hands back data with own lists and dicts inside: all become plain data. -/
namespace CT
end CT
/-! DM32: d[k] += e on a dict with tuple keys; x *= e of ints. -/
namespace CT
end CT
/-! DM33: zip of two sequences, each a list or a tuple. -/
namespace CT
end CT
/-! DM34: max of three integers; len of a dict keyed by tuples; sorted of a dict whose only key is the empty tuple. -/
namespace CT
/-! ### sorted: the empty tuple alone -/
end CT
/-! E2: loops, comprehensions, dicts worked out. -/
namespace CT
/-! ### comprehensions that change nothing -/
/-! ### two clauses -/
/-! ### dicts from pairs to numbers -/
end CT
/-! E3: walks over cells; own operators worked out. -/
namespace CT
/-! ### own operators -/
end CT
/-! E4: what a run must lead to, told backwards. -/
namespace CT
/-! ### results -/
/-! ### expressions -/
/-! ### operators -/
/-! ### statements -/
/-! ### loops -/
/-! ### comprehensions -/
end CT
/-! E5: more steps told backwards. -/
namespace CT
/-! ### writing -/
end CT
/-! E6: walks and comprehensions, step by step. -/
namespace CT
end CT
/-! E7: own operators with an int, list(range), extend, two writes, told backwards. -/
namespace CT
/-! ### a comprehension whose list is an own one -/
/-! ### a def that hands back an own list -/
end CT
/-! M22: the bag. -/
/-! M2: sums of ties, grids, webs. -/
/-! M3: a web is made. -/
/-! M4: Web(size, ties). -/
/-! M5: Web(size, ties), made. -/
/-! M6: the instance. -/
/-! M7: total, degrees, within, changed, crossing. -/
/-! M9: plain facts on sums. -/
/-! FF1: sums; sets of rows in which every step has a second step (jump systems); nearest rows. -/
/-! FF2: least distances along one, two, three places. -/
/-! FF3: what a tie between two places does to the least distances. -/
/-! FF4: the rows of the webs within a web. -/
/-! FF8: both rows change at once (the exchange of two webs within a web). -/
/-! E9: comprehensions and walks over lists of values that are written as data. -/
namespace CT
/-! ### x *= e, d[k] += e -/
end CT
/-! O2g: web[u, v]. -/
set_option Elab.async false
set_option linter.all false
set_option maxRecDepth 100000
set_option maxHeartbeats 4000000
/-! DL1: plain data, a store of changing cells, how they lie in the abstract heap; expressions. -/
namespace CT
open PySem L2
/-! ### the domain -/
/-! ### how data lie in the heap -/
section
variable {k : Cn} {A A' : Nat → Addr} {C C' : Store} {H H' : Hp} {v : V} {d : D} {vs : List V} {ds : List D}
theorem RepL.get : ∀ {vs : List V} {ds : List D} {i : Nat} {d : D}, RepL k A C H vs ds → ds[i]? = some d → ∃ v, vs[i]? = some v ∧ Rep k A C H v d
  | _, _, _, _, .nil, e => by simp at e
  | _, _, 0, _, .cons r _, e => by simp at e; subst e; exact ⟨_, rfl, r⟩
  | _, _, i + 1, d, .cons _ t, e => by
    obtain ⟨u, h1, h2⟩ := RepL.get (i := i) (d := d) t (by simpa using e)
    exact ⟨u, by simpa using h1, h2⟩
theorem RepL.rev : ∀ {vs : List V} {ds : List D}, RepL k A C H vs ds → RepL k A C H vs.reverse ds.reverse
  | _, _, .nil => .nil
  | _, _, .cons r t => by
    rw [List.reverse_cons, List.reverse_cons]
    exact (RepL.rev t).append (.cons r .nil)
theorem RepL.ints : ∀ {ns : List Int}, RepL k A C H (ns.map V.int) (ns.map D.int)
  | [] => .nil
  | n :: ns => .cons (.int n) RepL.ints
theorem RepL.ints_inv : ∀ {ns : List Int} {vs : List V}, RepL k A C H vs (ns.map D.int) → vs = ns.map V.int
  | [], _, .nil => rfl
  | n :: ns, _, .cons r t => by
    cases r
    rw [RepL.ints_inv t]
    rfl
theorem RepL.bls_inv : ∀ {ns : List Bool} {vs : List V}, RepL k A C H vs (ns.map D.bl) → vs = ns.map V.bl
  | [], _, .nil => rfl
  | n :: ns, _, .cons r t => by
    cases r
    rw [RepL.bls_inv t]
    rfl
end
/-! ### the store -/
section
variable {k : Cn} {fl : Nat} {A A' A'' : Nat → Addr} {C C' C'' : Store} {H H' H'' : Hp} {v : V} {d : D} {vs : List V} {ds : List D}
theorem Stp.refl : Stp k fl A C H A C H := ⟨fun _ _ h => h, Nat.le_refl _, fun _ _ _ h => h⟩
theorem Stp.reps (a : Stp k fl A C H A' C' H') : ∀ {vs : List V} {ds : List D}, RepL k A C H vs ds → RepL k A' C' H' vs ds
  | _, _, .nil => .nil
  | _, _, .cons r t => .cons (a.rep _ _ r) (a.reps t)
theorem Kp.stp (q : Kp A C H A' C' H') (h : ∀ f, f ≤ fl → f ≤ C.length → LowC f C → LowC f C') : Stp k fl A C H A' C' H' := ⟨fun _ _ r => r.kp q, q.len, h⟩
theorem Kp.stp0 (q : Kp A C H A' C H') : Stp k fl A C H A' C H' := q.stp fun _ _ _ h => h
theorem low_app {c : Option Cell} {f : Nat} (hf : f ≤ C.length) (h : LowC f C) : LowC f (C ++ [c]) := fun i e hi he => by
  rw [List.getElem?_append_left (Nat.lt_of_lt_of_le hi hf)] at he
  exact h i e hi he
mutual
theorem cb_mono {n m : Nat} (h : n ≤ m) : ∀ {d : D}, cb n d = true → cb m d = true
  | .non, _ => rfl
  | .bl _, _ => rfl
  | .int _, _ => rfl
  | .str _, _ => rfl
  | .lst xs, z => by simp only [cb] at z ⊢; exact cbL_mono h z
  | .tup xs, z => by simp only [cb] at z ⊢; exact cbL_mono h z
  | .scr xs, z => by simp only [cb] at z ⊢; exact cbL_mono h z
  | .kt xs, z => by simp only [cb] at z ⊢; exact cbL_mono h z
  | .obj _ xs, z => by simp only [cb] at z ⊢; exact cbL_mono h z
  | .exn _ xs, z => by simp only [cb] at z ⊢; exact cbL_mono h z
  | .cls _, _ => rfl
  | .dT _ xs, z => by simp only [cb] at z ⊢; exact cbL_mono h z
  | .cell i, z => by simp only [cb, decide_eq_true_eq] at z ⊢; omega
theorem cbL_mono {n m : Nat} (h : n ≤ m) : ∀ {ds : List D}, cbL n ds = true → cbL m ds = true
  | [], _ => rfl
  | d :: ds, z => by
    simp only [cbL, Bool.and_eq_true] at z ⊢
    exact ⟨cb_mono h z.1, cbL_mono h z.2⟩
end
theorem cbC_mono {n m : Nat} (h : n ≤ m) {c : Cell} (z : cbC n c = true) : cbC m c = true := by
  cases c <;> exact cbL_mono h z
/-- a write: below the floor no cells are named -/
theorem low_set {i : Nat} {c : Cell} (hc : i < fl → cbC 0 c = true) {f : Nat} (hf : f ≤ fl) (h : LowC f C) : LowC f (C.set i (some c)) := fun j e hj he => by
  by_cases hij : i = j
  · subst hij
    by_cases hl : i < C.length
    · rw [List.getElem?_set_self hl] at he
      rw [← Option.some.inj (Option.some.inj he)]
      exact cbC_mono (Nat.zero_le _) (hc (by omega))
    · rw [List.getElem?_eq_none (by simp; omega)] at he
      cases he
  · rw [List.getElem?_set_ne hij] at he
    exact h j e hj he
theorem low_take {f n : Nat} (h : LowC f C) : LowC f (C.take n) := fun j e hj he => by
  by_cases hn : j < n
  · rw [List.getElem?_take_of_lt hn] at he
    exact h j e hj he
  · rw [List.getElem?_eq_none (by simp; omega)] at he
    cases he
theorem StOk.live (x : StOk k A C H) {a : Addr} (l : Live A C a) : ∃ o, H a = some o := by
  obtain ⟨i, c, e, rfl⟩ := l
  exact (x.at_ i c e).there
theorem StOk.notLive (x : StOk k A C H) {a : Addr} (h : H a = none) : ¬ Live A C a := fun l => by
  obtain ⟨o, e⟩ := x.live l
  rw [h] at e
  cases e
/-- a cell changes -/
theorem live_set {i : Nat} {c c0 : Cell} {a : Addr} (hi : C[i]? = some (some c0)) (l : Live A (C.set i (some c)) a) : Live A C a := by
  obtain ⟨j, c', e, rfl⟩ := l
  by_cases hj : i = j
  · subst hj
    exact ⟨i, c0, hi, rfl⟩
  · rw [List.getElem?_set_ne hj] at e
    exact ⟨j, c', e, rfl⟩
theorem kp_write {i : Nat} {c c0 : Cell} {o : HO} (hi : C[i]? = some (some c0)) : Kp A C H A (C.set i (some c)) (upd H (A i) o) :=
  ⟨fun a u l e => ⟨fun y => l (live_set hi y), by rw [upd_ne (fun z => l ⟨i, c0, hi, z.symm⟩)]; exact e⟩, fun _ _ => rfl, by simp⟩
theorem StOk.write {i : Nat} {c c0 : Cell} {o : HO} (x : StOk k A C H) (hi : C[i]? = some (some c0)) (y : CellAt k A (C.set i (some c)) (upd H (A i) o) (A i) c) : StOk k A (C.set i (some c)) (upd H (A i) o) := by
  have get : ∀ j c', (C.set i (some c))[j]? = some (some c') → j ≠ i → C[j]? = some (some c') := fun j c' e hj => by
    rw [List.getElem?_set_ne (Ne.symm hj)] at e
    exact e
  have here : ∀ c', (C.set i (some c))[i]? = some (some c') → c' = c := fun c' e => by
    rw [List.getElem?_set_self (List.getElem?_eq_some_iff.mp hi).1] at e
    exact (Option.some.inj (Option.some.inj e)).symm
  have some_ : ∀ j c', (C.set i (some c))[j]? = some (some c') → ∃ c'', C[j]? = some (some c'') := fun j c' e => by
    by_cases hj : j = i
    · rw [hj]
      exact ⟨c0, hi⟩
    · exact ⟨c', get j c' e hj⟩
  refine ⟨fun j c' e => ?_, fun j l c1 c2 e1 e2 z => ?_⟩
  · by_cases hj : j = i
    · subst hj
      rw [here c' e]
      exact y
    · have e' := get j c' e hj
      exact (x.at_ j c' e').kp (kp_write hi) (upd_ne (fun z => hj (x.inj j i _ _ e' hi z)))
  · obtain ⟨d1, f1⟩ := some_ j c1 e1
    obtain ⟨d2, f2⟩ := some_ l c2 e2
    exact x.inj j l _ _ f1 f2 z
theorem Rep.cut {n : Nat} (hn : n ≤ C.length) (r : Rep k A C H v d) (h : CT.cb n d = true) : Rep k A (C.take n) H v d :=
  r.fw (fw_take n) (by rw [List.length_take, Nat.min_eq_left hn]; exact h)
theorem RepL.cut {n : Nat} (hn : n ≤ C.length) (r : RepL k A C H vs ds) (h : CT.cbL n ds = true) : RepL k A (C.take n) H vs ds :=
  r.fw (fw_take n) (by rw [List.length_take, Nat.min_eq_left hn]; exact h)
end
/-! ### frames -/
/-- behind a computation m that began at A, C, H -/
def Aft (k : Cn) (fl : Nat) (A : Nat → Addr) (C : Store) (H : Hp) {α β : Type} (rel : (Nat → Addr) → Store → Hp → β → α → Prop) (m : R α) (Q : α → Store → (Nat → Addr) → Hp → β → Prop) (W : XK) : Prop := match m with
  | .ok d C' => ∀ A' H' v, Stp k fl A C H A' C' H' → StOk k A' C' H' → rel A' C' H' v d → Q d C' A' H' v
  | .exc e C' => ∀ A' H' dd vs, Stp k fl A C H A' C' H' → StOk k A' C' H' → H' dd = some (.xd ((k.fn e.c).zip vs)) → vs.length = (k.fn e.c).length → RepL k A' C' H' vs e.fs → W (.ref (k.cl e.c)) (some dd) H'
  | .stuck => False
section
variable {k : Cn} {A A' A1 : Nat → Addr} {F : Fr} {C C' C1 : Store} {H H' H1 : Hp} {σ : L2.St} {fl : Nat}
theorem SR.step (s : SR k A F C σ H) (p : Stp k F.fl A C H A' C' H') (st : StOk k A' C' H') : SR k A' F C' σ H' :=
  ⟨st, p.low _ (Nat.le_refl _) s.fl s.low, Nat.le_trans s.fl p.len, s.len, fun i d e => let ⟨v, h1, h2⟩ := s.sl i d e; ⟨v, h1, p.rep v d h2⟩⟩
theorem SR.unset {i : Nat} (s : SR k A F C σ H) : SR k A ⟨F.fl, F.sl.set i none⟩ C (σ.set i none) H :=
  ⟨s.st, s.low, s.fl, by simp [s.len], fun j e h => by
    have h' : (F.sl.set i none)[j]? = some (some e) := h
    by_cases hij : i = j
    · subst hij
      by_cases hl : i < F.sl.length
      · rw [List.getElem?_set_self hl] at h'
        cases h'
      · rw [List.getElem?_eq_none (by simp; omega)] at h'
        cases h'
    · rw [List.getElem?_set_ne hij] at h'
      obtain ⟨u, h1, h2⟩ := s.sl j e h'
      exact ⟨u, by rw [List.getElem?_set_ne hij]; exact h1, h2⟩⟩
variable {α β γ δ : Type} {rel : (Nat → Addr) → Store → Hp → β → α → Prop} {rel2 : (Nat → Addr) → Store → Hp → δ → γ → Prop} {m : R α} {Q : α → Store → (Nat → Addr) → Hp → β → Prop} {W : XK}
theorem Aft.shift (s : Stp k fl A C H A1 C1 H1) (h : Aft k fl A C H rel m Q W) : Aft k fl A1 C1 H1 rel m Q W := by
  cases m with
  | ok d C' => exact fun A' H' v p st r => h A' H' v (s.trans p) st r
  | exc e C' => exact fun A' H' dd vs p st x l r => h A' H' dd vs (s.trans p) st x l r
  | stuck => exact h
theorem Aft.mono {Q' : α → Store → (Nat → Addr) → Hp → β → Prop} (h : Aft k fl A C H rel m Q W) (hq : ∀ d C' A' H' v, Stp k fl A C H A' C' H' → StOk k A' C' H' → rel A' C' H' v d → Q d C' A' H' v → Q' d C' A' H' v) : Aft k fl A C H rel m Q' W := by
  cases m with
  | ok d C' => exact fun A' H' v p st r => hq _ _ _ _ _ p st r (h A' H' v p st r)
  | exc e C' => exact h
  | stuck => exact h
theorem Aft.bnd {f : α → Store → R γ} {Q : γ → Store → (Nat → Addr) → Hp → δ → Prop} (h : Aft k fl A C H rel2 (bnd m f) Q W) :
    Aft k fl A C H rel m (fun d C1 A1 H1 v => Aft k fl A1 C1 H1 rel2 (f d C1) Q W) W := by
  cases m with
  | ok d C' => exact fun A' H' v p st r => Aft.shift p h
  | exc e C' => exact h
  | stuck => exact h
end
abbrev RepD (k : Cn) : (Nat → Addr) → Store → Hp → V → D → Prop := fun A C H v d => Rep k A C H v d
abbrev RepDs (k : Cn) : (Nat → Addr) → Store → Hp → List V → List D → Prop := fun A C H v d => RepL k A C H v d
/-- an expression's reading by data -/
def LE (k : Cn) (W : WX) (m : ME) : TE := fun σ H Q => ∃ A F C, SR k A F C σ H ∧ Aft k F.fl A C H (RepD k) (m F C) (fun _ _ _ H' v => Q v H') (fun c d H' => W c d σ H')
def LA (k : Cn) (W : WX) (m : MA) : TA := fun σ H Q => ∃ A F C, SR k A F C σ H ∧ Aft k F.fl A C H (RepDs k) (m F C) (fun _ _ _ H' v => Q v H') (fun c d H' => W c d σ H')
def LT (k : Cn) (W : WX) (m : MT) : TT := fun σ H Q => ∃ A F C, SR k A F C σ H ∧ Aft k F.fl A C H (fun _ _ _ (v d : Bool) => v = d) (m F C) (fun _ _ _ H' v => Q v H') (fun c d H' => W c d σ H')
end CT
set_option maxHeartbeats 4000000
/-! DL2: expressions over data: names, constants, operators, displays, subscripts, calls of built-ins. -/
namespace CT
open PySem L2
theorem _root_.L2.PE.cq {X : Cx} {e : Expr} {t t' : TE} (h : PE X e t) (c : ∀ σ H Q, t' σ H Q → t σ H Q) : PE X e t' := ⟨fun pins s σ H Q I q => h.run pins s σ H Q I (c σ H Q q)⟩
theorem _root_.L2.PT.cq {X : Cx} {e : Expr} {t t' : TT} (h : PT X e t) (c : ∀ σ H Q, t' σ H Q → t σ H Q) : PT X e t' := ⟨fun pins s σ H Q I q => h.run pins s σ H Q I (c σ H Q q)⟩
theorem _root_.L2.PW.cq {X : Cx} {e : Expr} {t t' : TT} (h : PW X e t) (c : ∀ σ H Q, t' σ H Q → t σ H Q) : PW X e t' := ⟨fun w pins s σ H Q I q => h.run w pins s σ H Q I (c σ H Q q)⟩
theorem _root_.L2.PA.cq {X : Cx} {e : List Expr} {t t' : TA} (h : PA X e t) (c : ∀ σ H Q, t' σ H Q → t σ H Q) : PA X e t' := ⟨fun p pins s σ H Q I q => h.run p pins s σ H Q I (c σ H Q q)⟩
theorem _root_.L2.PS.cq {X : Cx} {e : Stmt} {t t' : TS} (h : PS X e t) (c : ∀ D σ H, t' D σ H → t D σ H) : PS X e t' := ⟨fun pins s σ H Q I q => h.run pins s σ H Q I (c Q σ H q)⟩
theorem _root_.L2.PSs.cq {X : Cx} {e : List Stmt} {t t' : TS} (h : PSs X e t) (c : ∀ D σ H, t' D σ H → t D σ H) : PSs X e t' := ⟨fun pins s σ H Q I q => h.run pins s σ H Q I (c Q σ H q)⟩
/-! ### names, constants -/
section
variable {X : Cx} {k : Cn} {W : WX}
theorem le_var {i : Nat} {σ : L2.St} {H : Hp} {Q : VK} (h : LE k W (mVar i) σ H Q) : tVar i σ H Q := by
  obtain ⟨A, F, C, s, h⟩ := h
  unfold mVar at h
  split at h
  · rename_i d e
    obtain ⟨v, h1, h2⟩ := s.sl i d e
    exact ⟨v, h1, h A H v Stp.refl s.st h2⟩
  · exact h.elim
theorem dv (i : Nat) {x : Str} {pos : Pos} (hN : X.N[i]? = some x := by rfl) (hv : Vis X.env.scope x := by first | exact Or.inl rfl | exact Or.inr (Or.inl rfl) | exact Or.inr (Or.inr rfl)) (hd : (x == ("__debug__" : Str)) = false := by decide)
    (hcd : (x == ("__classdict__" : Str)) = false := by decide) : PE X (.Name x pos) (LE k W (mVar i)) := (pe_var hN hv hd hcd).cq fun _ _ _ h => le_var h
/-- a value that every heap reads as d -/
theorem le_c {v : V} {d : D} (hr : ∀ A C H, Rep k A C H v d) {σ : L2.St} {H : Hp} {Q : VK} (h : LE k W (mC d) σ H Q) : tC v σ H Q := by
  obtain ⟨A, F, C, s, h⟩ := h
  exact h A H v Stp.refl s.st (hr _ _ _)
theorem de_int {i j pos} : PE X (.Constant (.int i) j pos) (LE k W (mC (.int i))) := pe_int.cq fun _ _ _ h => le_c (fun _ _ _ => .int i) h
theorem de_bl {i j pos} : PE X (.Constant (.bool i) j pos) (LE k W (mC (.bl i))) := pe_bl.cq fun _ _ _ h => le_c (fun _ _ _ => .bl i) h
theorem de_glob {x : Str} {v : V} {d : D} {u : Value} {pos : Pos} (hr : ∀ A C H, Rep k A C H v d) (hg : Gl X x) (hm : X.mg x = some u) (r : RelV v u) (hd : (x == ("__debug__" : Str)) = false := by decide) : PE X (.Name x pos) (LE k W (mC d)) :=
  (pe_glob hg hm r hd).cq fun _ _ _ h => le_c hr h
end
/-! ### operators -/
/-- an operation on values that the data's operation o tells -/
def OpD (k : Cn) (r : R2) (o : O2) : Prop := ∀ fl A C H x y dx dy d C' (Q : VK), fl ≤ C.length → LowC fl C → StOk k A C H → Rep k A C H x dx → Rep k A C H y dy → o dx dy C = some (d, C') →
  (∀ A' H' v, Stp k fl A C H A' C' H' → StOk k A' C' H' → Rep k A' C' H' v d → Q v H') → r x y H Q
def UnD (k : Cn) (r : V → Hp → VK → Prop) (o : O1) : Prop := ∀ fl A C H x dx d C' (Q : VK), fl ≤ C.length → LowC fl C → StOk k A C H → Rep k A C H x dx → o dx C = some (d, C') →
  (∀ A' H' v, Stp k fl A C H A' C' H' → StOk k A' C' H' → Rep k A' C' H' v d → Q v H') → r x H Q
def ApD (k : Cn) (r : List V → Hp → VK → Prop) (o : OA) : Prop := ∀ fl A C H x dx d C' (Q : VK), fl ≤ C.length → LowC fl C → StOk k A C H → RepL k A C H x dx → o dx C = some (d, C') →
  (∀ A' H' v, Stp k fl A C H A' C' H' → StOk k A' C' H' → Rep k A' C' H' v d → Q v H') → r x H Q
theorem aft_ofO {k : Cn} {fl : Nat} {A : Nat → Addr} {C : Store} {H : Hp} {W : XK} {o : Option (D × Store)} {Q : D → Store → (Nat → Addr) → Hp → V → Prop} (h : Aft k fl A C H (RepD k) (ofO o) Q W) :
    ∃ d C', o = some (d, C') ∧ ∀ A' H' v, Stp k fl A C H A' C' H' → StOk k A' C' H' → Rep k A' C' H' v d → Q d C' A' H' v := by
  cases o with
  | none => exact h.elim
  | some p => exact ⟨p.1, p.2, rfl, h⟩
section
variable {X : Cx} {k : Cn} {W : WX} {σ : L2.St} {H : Hp} {Q : VK}
theorem le_op {r : R2} {o : O2} {ma mb : ME} (ho : OpD k r o) (h : LE k W (mOp o ma mb) σ H Q) : tOp r (LE k W ma) (LE k W mb) σ H Q := by
  obtain ⟨A, F, C, s, h⟩ := h
  refine ⟨A, F, C, s, (Aft.bnd (rel := RepD k) h).mono fun dx C1 A1 H1 x p1 st1 rx h1 => ?_⟩
  have s1 := s.step p1 st1
  refine ⟨A1, F, C1, s1, (Aft.bnd (rel := RepD k) h1).mono fun dy C2 A2 H2 y p2 st2 ry h2 => ?_⟩
  have s2 := s1.step p2 st2
  obtain ⟨d, C', e, q⟩ := aft_ofO h2
  exact ho F.fl A2 C2 H2 x y dx dy d C' Q s2.fl s2.low st2 (p2.rep _ _ rx) ry e q
theorem le_un {r : V → Hp → VK → Prop} {o : O1} {ma : ME} (ho : UnD k r o) (h : LE k W (mUn o ma) σ H Q) : tUn r (LE k W ma) σ H Q := by
  obtain ⟨A, F, C, s, h⟩ := h
  refine ⟨A, F, C, s, (Aft.bnd (rel := RepD k) h).mono fun dx C1 A1 H1 x p1 st1 rx h1 => ?_⟩
  have s1 := s.step p1 st1
  obtain ⟨d, C', e, q⟩ := aft_ofO h1
  exact ho F.fl A1 C1 H1 x dx d C' Q s1.fl s1.low st1 rx e q
theorem la_nil {Q : List V → Hp → Prop} (h : LA k W mNil σ H Q) : tNil σ H Q := by
  obtain ⟨A, F, C, s, h⟩ := h
  exact h A H [] Stp.refl s.st .nil
theorem la_cons {Q : List V → Hp → Prop} {ma : ME} {mr : MA} (h : LA k W (mCons ma mr) σ H Q) : tCons (LE k W ma) (LA k W mr) σ H Q := by
  obtain ⟨A, F, C, s, h⟩ := h
  refine ⟨A, F, C, s, (Aft.bnd (rel := RepD k) h).mono fun dx C1 A1 H1 x p1 st1 rx h1 => ?_⟩
  have s1 := s.step p1 st1
  refine ⟨A1, F, C1, s1, (Aft.bnd (rel := RepDs k) h1).mono fun dy C2 A2 H2 y p2 st2 ry h2 => ?_⟩
  exact h2 A2 H2 (x :: y) Stp.refl st2 (.cons (p2.rep _ _ rx) ry)
theorem le_ap {r : List V → Hp → VK → Prop} {o : OA} {ma : MA} (ho : ApD k r o) (h : LE k W (mAp o ma) σ H Q) : tCB r (LA k W ma) σ H Q := by
  obtain ⟨A, F, C, s, h⟩ := h
  refine ⟨A, F, C, s, (Aft.bnd (rel := RepDs k) h).mono fun dx C1 A1 H1 x p1 st1 rx h1 => ?_⟩
  have s1 := s.step p1 st1
  obtain ⟨d, C', e, q⟩ := aft_ofO h1
  exact ho F.fl A1 C1 H1 x dx d C' Q s1.fl s1.low st1 rx e q
theorem de_op {a b : Expr} {pos : Pos} {op : Operator} {r : R2} {o : O2} {ma mb : ME} (hR : OpR X (binaryOp op) r) (hD : OpD k r o) (ha : PE X a (LE k W ma)) (hb : PE X b (LE k W mb)) : PE X (.BinOp a op b pos) (LE k W (mOp o ma mb)) :=
  (pe_op hR ha hb).cq fun _ _ _ h => le_op hD h
theorem de_cmp {a b : Expr} {pos : Pos} {op : CmpOp} {r : R2} {o : O2} {ma mb : ME} (hR : OpR X (compareOp op) r) (hD : OpD k r o) (ha : PE X a (LE k W ma)) (hb : PE X b (LE k W mb)) (hm : behindInMarks op b = false) : PE X (.Compare a [op] [b] pos) (LE k W (mOp o ma mb)) :=
  (pe_cmpR hR ha hb hm).cq fun _ _ _ h => le_op hD h
theorem de_un {a : Expr} {pos : Pos} {op : UnaryOp} {r : V → Hp → VK → Prop} {o : O1} {ma : ME} (hR : UnR X (unaryOp op) r) (hD : UnD k r o) (ha : PE X a (LE k W ma)) : PE X (.UnaryOp op a pos) (LE k W (mUn o ma)) :=
  (pe_un hR ha).cq fun _ _ _ h => le_un hD h
theorem de_ix {a b : Expr} {pos : Pos} {r : R2} {o : O2} {ma mb : ME} (hR : IxR X r) (hD : OpD k r o) (ha : PE X a (LE k W ma)) (hb : PE X b (LE k W mb)) (hs : PlainIx b := by exact fun _ _ => rfl) : PE X (.Subscript a b pos) (LE k W (mOp o ma mb)) :=
  (pe_ix hR ha hb hs).cq fun _ _ _ h => le_op hD h
theorem da_nil : PA X [] (LA k W mNil) := pa_nil.cq fun _ _ _ h => la_nil h
theorem da_cons {e : Expr} {es : List Expr} {ma : ME} {mr : MA} (ha : PE X e (LE k W ma)) (hr : PA X es (LA k W mr)) (hs : starEach (e :: es) X.env = (false, eval e X.env) :: starEach es X.env := by rfl) : PA X (e :: es) (LA k W (mCons ma mr)) :=
  (pa_cons ha hr hs).cq fun _ _ _ h => la_cons h
theorem de_callB {x : Str} {id : String} {e : Expr} {es : List Expr} {p pos : Pos} {r : List V → Hp → VK → Prop} {o : OA} {ma : MA} (hc : CallR X (.builtin id) r) (hD : ApD k r o) (hg : Gl X x) (hm : X.mg x = none) (hv : bootBuiltins x = some (.builtin id))
    (ha : PA X (e :: es) (LA k W ma)) (hn : x ≠ "__name__" := by decide) (hdb : (x == ("__debug__" : Str)) = false := by decide) (he : starEach (e :: es) X.env = (false, eval e X.env) :: starEach es X.env := by rfl) (hpl : (backTo pos (starEach es X.env)).any (·.1) = false := by rfl) :
    PE X (.Call (.Name x p) (e :: es) [] pos) (LE k W (mAp o ma)) := (pe_callB hc hg hm hv ha hn hdb he hpl).cq fun _ _ _ h => le_ap hD h
theorem de_callTy {x : Str} {id : String} {e : Expr} {es : List Expr} {p pos : Pos} {r : List V → Hp → VK → Prop} {o : OA} {ma : MA} (hc : CallR X (.type id) r) (hD : ApD k r o) (hg : Gl X x) (hm : X.mg x = none) (hv : bootBuiltins x = some (.type id))
    (ha : PA X (e :: es) (LA k W ma)) (hn : x ≠ "__name__" := by decide) (hdb : (x == ("__debug__" : Str)) = false := by decide) (he : starEach (e :: es) X.env = (false, eval e X.env) :: starEach es X.env := by rfl) (hpl : (backTo pos (starEach es X.env)).any (·.1) = false := by rfl) :
    PE X (.Call (.Name x p) (e :: es) [] pos) (LE k W (mAp o ma)) := (pe_callTy hc hg hm hv ha hn hdb he hpl).cq fun _ _ _ h => le_ap hD h
end
/-! ### tests, and, or, not -/
abbrev RepB : (Nat → Addr) → Store → Hp → Bool → Bool → Prop := fun _ _ _ v d => v = d
section
variable {X : Cx} {k : Cn} {W : WX} {σ : L2.St} {H : Hp}
theorem lt_val {ma : ME} {Q : Bool → Hp → Prop} (h : LT k W (mTst ma) σ H Q) : tB (LE k W ma) σ H Q := by
  obtain ⟨A, F, C, s, h⟩ := h
  refine ⟨A, F, C, s, (Aft.bnd (rel := RepD k) h).mono fun dx C1 A1 H1 x p1 st1 rx h1 => ?_⟩
  cases rx with
  | bl b => exact ⟨b, rfl, h1 A1 H1 b Stp.refl st1 rfl⟩
  | _ => exact h1.elim
theorem dt_val {e : Expr} {ma : ME} (h : PE X e (LE k W ma)) (he : ∀ whole, isTrue e X.env whole = (do let v ← whole; standAt e.pos; holding [v] (truthy v)) := by intro _; rfl) : PT X e (LT k W (mTst ma)) :=
  (pt_val h he).cq fun _ _ _ h => lt_val h
theorem lt_and {a b : MT} {Q : Bool → Hp → Prop} (h : LT k W (tAndM a b) σ H Q) : tAnd (LT k W a) (LT k W b) σ H Q := by
  obtain ⟨A, F, C, s, h⟩ := h
  refine ⟨A, F, C, s, (Aft.bnd (rel := RepB) h).mono fun dx C1 A1 H1 x p1 st1 rx h1 => ?_⟩
  have rx : x = dx := rx
  subst rx
  cases x with
  | true => exact iteT ⟨A1, F, C1, s.step p1 st1, h1⟩
  | false => exact iteF (h1 A1 H1 false Stp.refl st1 rfl)
theorem lt_or {a b : MT} {Q : Bool → Hp → Prop} (h : LT k W (tOrM a b) σ H Q) : tOr (LT k W a) (LT k W b) σ H Q := by
  obtain ⟨A, F, C, s, h⟩ := h
  refine ⟨A, F, C, s, (Aft.bnd (rel := RepB) h).mono fun dx C1 A1 H1 x p1 st1 rx h1 => ?_⟩
  have rx : x = dx := rx
  subst rx
  cases x with
  | true => exact iteT (h1 A1 H1 true Stp.refl st1 rfl)
  | false => exact iteF ⟨A1, F, C1, s.step p1 st1, h1⟩
theorem lt_not {a : MT} {Q : Bool → Hp → Prop} (h : LT k W (tNotM a) σ H Q) : tNot (LT k W a) σ H Q := by
  obtain ⟨A, F, C, s, h⟩ := h
  refine ⟨A, F, C, s, (Aft.bnd (rel := RepB) h).mono fun dx C1 A1 H1 x p1 st1 rx h1 => ?_⟩
  have rx : x = dx := rx
  subst rx
  exact h1 A1 H1 (!x) Stp.refl st1 rfl
theorem dw_and1 {a : Expr} {pos : Pos} {m : MT} (ha : PT X a (LT k W m)) : PW X (.BoolOp .And [a] pos) (LT k W m) := pw_and1 ha
theorem dw_or1 {a : Expr} {pos : Pos} {m : MT} (ha : PT X a (LT k W m)) : PW X (.BoolOp .Or [a] pos) (LT k W m) := pw_or1 ha
theorem dw_and {a b : Expr} {rest : List Expr} {pos : Pos} {m n : MT} (ha : PT X a (LT k W m)) (hb : PW X (.BoolOp .And (b :: rest) pos) (LT k W n)) : PW X (.BoolOp .And (a :: b :: rest) pos) (LT k W (tAndM m n)) := (pw_and ha hb).cq fun _ _ _ h => lt_and h
theorem dw_or {a b : Expr} {rest : List Expr} {pos : Pos} {m n : MT} (ha : PT X a (LT k W m)) (hb : PW X (.BoolOp .Or (b :: rest) pos) (LT k W n)) : PW X (.BoolOp .Or (a :: b :: rest) pos) (LT k W (tOrM m n)) := (pw_or ha hb).cq fun _ _ _ h => lt_or h
theorem dt_not {a : Expr} {pos : Pos} {m : MT} (ha : PT X a (LT k W m)) : PT X (.UnaryOp .Not a pos) (LT k W (tNotM m)) := (pt_not ha).cq fun _ _ _ h => lt_not h
theorem le_and {a b : ME} {Q : VK} (h : LE k W (mAnd a b) σ H Q) : tAndV (LE k W a) (LE k W b) σ H Q := by
  obtain ⟨A, F, C, s, h⟩ := h
  refine ⟨A, F, C, s, (Aft.bnd (rel := RepD k) h).mono fun dx C1 A1 H1 x p1 st1 rx h1 => ?_⟩
  cases rx with
  | bl b =>
    refine ⟨b, rfl, ?_⟩
    cases b with
    | true => exact iteT ⟨A1, F, C1, s.step p1 st1, h1⟩
    | false => exact iteF (h1 A1 H1 (.bl false) Stp.refl st1 (.bl false))
  | _ => exact h1.elim
theorem le_not {a : ME} {Q : VK} (h : LE k W (mNot a) σ H Q) : tNotV (LE k W a) σ H Q := by
  obtain ⟨A, F, C, s, h⟩ := h
  refine ⟨A, F, C, s, (Aft.bnd (rel := RepD k) h).mono fun dx C1 A1 H1 x p1 st1 rx h1 => ?_⟩
  cases rx with
  | bl b => exact ⟨b, rfl, h1 A1 H1 (.bl (!b)) Stp.refl st1 (.bl _)⟩
  | _ => exact h1.elim
theorem le_if {t : MT} {a b : ME} {Q : VK} (h : LE k W (mIf t a b) σ H Q) : tIf (LT k W t) (LE k W a) (LE k W b) σ H Q := by
  obtain ⟨A, F, C, s, h⟩ := h
  refine ⟨A, F, C, s, (Aft.bnd (rel := RepB) h).mono fun dx C1 A1 H1 x p1 st1 rx h1 => ?_⟩
  have rx : x = dx := rx
  subst rx
  cases x with
  | true => exact iteT ⟨A1, F, C1, s.step p1 st1, h1⟩
  | false => exact iteF ⟨A1, F, C1, s.step p1 st1, h1⟩
theorem de_one {op} {a : Expr} {pos : Pos} {m : ME} (h : PE X a (LE k W m)) : PE X (.BoolOp op [a] pos) (LE k W m) := pe_one h
theorem de_and {a b : Expr} {rest : List Expr} {pos : Pos} {m n : ME} (ha : PE X a (LE k W m)) (hb : PE X (.BoolOp .And (b :: rest) pos) (LE k W n)) : PE X (.BoolOp .And (a :: b :: rest) pos) (LE k W (mAnd m n)) := (pe_and ha hb).cq fun _ _ _ h => le_and h
theorem de_not {a : Expr} {pos : Pos} {m : ME} (ha : PE X a (LE k W m)) : PE X (.UnaryOp .Not a pos) (LE k W (mNot m)) := (pe_not ha).cq fun _ _ _ h => le_not h
theorem de_if {c a b : Expr} {pos : Pos} {t : MT} {m n : ME} (hc : PT X c (LT k W t)) (ha : PE X a (LE k W m)) (hb : PE X b (LE k W n)) : PE X (.IfExp c a b pos) (LE k W (mIf t m n)) := (pe_ifExp hc ha hb).cq fun _ _ _ h => le_if h
end
/-! ### numbers -/
def oI (c : Int → Int → Bool) (g : Int → Int → D) : O2 := fun x y C => match x, y with
  | .int i, .int j => if c i j = true then some (g i j, C) else none
  | _, _ => none
theorem opD_I0 {k : Cn} {g : Int → Int → V} {g' : Int → Int → D} (hg : ∀ i j A C H, Rep k A C H (g i j) (g' i j)) : OpD k (rI0 g) (oI0 g') := by
  intro fl A C H x y dx dy d C' Q hf hl st rx ry e q
  unfold oI0 at e
  split at e
  · cases rx; cases ry; cases e
    exact ⟨_, _, rfl, rfl, q A H _ Stp.refl st (hg _ _ _ _ _)⟩
  · cases e
theorem opD_I {k : Cn} {P : Int → Int → Prop} {c : Int → Int → Bool} {g : Int → Int → V} {g' : Int → Int → D} (hc : ∀ i j, c i j = true → P i j) (hg : ∀ i j A C H, Rep k A C H (g i j) (g' i j)) : OpD k (rI P g) (oI c g') := by
  intro fl A C H x y dx dy d C' Q hf hl st rx ry e q
  unfold oI at e
  split at e
  · split at e
    · rename_i h
      cases rx; cases ry; cases e
      exact ⟨_, _, rfl, rfl, hc _ _ h, q A H _ Stp.refl st (hg _ _ _ _ _)⟩
    · cases e
  · cases e
def cMul (i j : Int) : Bool := (decide (-(2 ^ 64) < i) && decide (i < 2 ^ 64)) || (decide (-(2 ^ 64) < j) && decide (j < 2 ^ 64))
def oMul : O2 := oI cMul fun i j => .int (i * j)
def cDiv (i j : Int) : Bool := decide (0 < j) && decide (j < 4611686018427387904)
def oDiv : O2 := oI cDiv fun i j => .int (i / j)
def oMod : O2 := oI (fun _ j => decide (0 < j)) fun i j => .int (i % j)
section
variable {k : Cn}
theorem d_add : OpD k (rI0 fun i j => .int (i + j)) oAdd := opD_I0 fun i j _ _ _ => .int _
theorem d_sub : OpD k (rI0 fun i j => .int (i - j)) oSub := opD_I0 fun i j _ _ _ => .int _
theorem d_mul : OpD k (rI CMul fun i j => .int (i * j)) oMul := opD_I (fun i j h => by
  simp only [cMul, Bool.or_eq_true, Bool.and_eq_true, decide_eq_true_eq] at h
  exact h) fun i j _ _ _ => .int _
theorem d_div : OpD k (rI CDivW fun i j => .int (i / j)) oDiv := opD_I (fun i j h => by
  simp only [cDiv, Bool.and_eq_true, decide_eq_true_eq] at h
  refine ⟨h.1, Nat.lt_of_lt_of_le ((Nat.log2_lt (by omega)).mpr (show j.natAbs < 2 ^ 62 by omega)) (by decide)⟩) fun i j _ _ _ => .int _
theorem d_mod : OpD k (rI (fun _ j => 0 < j) fun i j => .int (i % j)) oMod := opD_I (fun i j h => by simpa using h) fun i j _ _ _ => .int _
theorem d_lt : OpD k (rI0 fun i j => .bl (decide (i < j))) oLt := opD_I0 fun i j _ _ _ => .bl _
theorem d_le : OpD k (rI0 fun i j => .bl (decide (i ≤ j))) oLe := opD_I0 fun i j _ _ _ => .bl _
theorem d_gt : OpD k (rI0 fun i j => .bl (decide (j < i))) oGt := opD_I0 fun i j _ _ _ => .bl _
theorem d_ge : OpD k (rI0 fun i j => .bl (decide (j ≤ i))) oGe := opD_I0 fun i j _ _ _ => .bl _
theorem d_neg : UnD k (rU fun i => .int (-i)) oNeg := by
  intro fl A C H x dx d C' Q hf hl st rx e q
  unfold oNeg at e
  split at e
  · cases rx; cases e
    exact ⟨_, rfl, q A H _ Stp.refl st (.int _)⟩
  · cases e
end
/-! ### a chain of two comparisons -/
theorem le_chain {k : Cn} {W : WX} {σ : L2.St} {H : Hp} {Q : VK} {r r' : R2} {o o' : O2} {ma mb mc : ME} (ho : OpD k r o) (ho' : OpD k r' o') (h : LE k W (mChain o o' ma mb mc) σ H Q) : tChain r r' (LE k W ma) (LE k W mb) (LE k W mc) σ H Q := by
  obtain ⟨A, F, C, s, h⟩ := h
  refine ⟨A, F, C, s, (Aft.bnd (rel := RepD k) h).mono fun dx C1 A1 H1 x p1 st1 rx h1 => ?_⟩
  have s1 := s.step p1 st1
  refine ⟨A1, F, C1, s1, (Aft.bnd (rel := RepD k) h1).mono fun dy C2 A2 H2 y p2 st2 ry h2 => ?_⟩
  have s2 := s1.step p2 st2
  obtain ⟨d, C', e, q⟩ := aft_ofO (Aft.bnd (rel := RepD k) h2)
  refine ho F.fl A2 C2 H2 x y dx dy d C' _ s2.fl s2.low st2 (p2.rep _ _ rx) ry e fun A3 H3 z p3 st3 rz => ?_
  have h3 := q A3 H3 z p3 st3 rz
  cases rz with
  | bl b =>
    refine ⟨b, rfl, ?_⟩
    cases b with
    | true =>
      have s3 := s2.step p3 st3
      refine iteT ⟨A3, F, C', s3, (Aft.bnd (rel := RepD k) h3).mono fun dw C4 A4 H4 w p4 st4 rw h4 => ?_⟩
      have s4 := s3.step p4 st4
      obtain ⟨d', C'', e', q'⟩ := aft_ofO h4
      exact ho' F.fl A4 C4 H4 y w dy dw d' C'' Q s4.fl s4.low st4 (p4.rep _ _ (p3.rep _ _ ry)) rw e' q'
    | false => exact iteF (h3 A3 H3 (.bl false) Stp.refl st3 (.bl false))
  | _ => exact h3.elim
theorem de_chain {X : Cx} {k : Cn} {W : WX} {a b c : Expr} {pos : Pos} {op op' : CmpOp} {r r' : R2} {o o' : O2} {ma mb mc : ME} (hR : OpR X (compareOp op) r) (hD : OpD k r o) (hR' : OpR X (compareOp op') r') (hD' : OpD k r' o') (ha : PE X a (LE k W ma)) (hb : PE X b (LE k W mb)) (hc : PE X c (LE k W mc))
    (hm : lastMarks [op, op'] [b, c] = false := by with_unfolding_all rfl) : PE X (.Compare a [op, op'] [b, c] pos) (LE k W (mChain o o' ma mb mc)) :=
  (pe_chain hR hR' ha hb hc hm).cq fun _ _ _ h => le_chain hD hD' h
end CT
set_option maxHeartbeats 4000000
/-! DL3: lists, tuples, dicts over data. -/
namespace CT
open PySem L2
/-! ### what a datum is as a list, a tuple, a dict -/
def vS (d : D) (C : Store) : Option (List D) := match d with
  | .tup xs => some xs
  | .kt xs => some xs
  | .lst xs => some xs
  | .cell i => match C[i]? with
    | some (some (.lst xs)) => some xs
    | _ => none
  | _ => none
section
variable {k : Cn} {A : Nat → Addr} {C : Store} {H : Hp} {v : V} {d : D} {ds : List D}
theorem vL_at (st : StOk k A C H) (r : Rep k A C H v d) (e : vL d C = some ds) : ∃ a vs, v = .ref a ∧ H a = some (.lst vs) ∧ RepL k A C H vs ds := by
  cases r with
  | lst l h q => cases e; exact ⟨_, _, rfl, h, q⟩
  | cell hi =>
    rename_i i
    simp only [vL] at e
    split at e
    · rename_i xs ec
      cases e
      obtain ⟨vs, h, q⟩ := st.at_ i _ ec
      exact ⟨_, vs, rfl, h, q⟩
    · cases e
  | _ => cases e
theorem vT_at (r : Rep k A C H v d) (e : vT d = some ds) : ∃ a vs, v = .ref a ∧ SqT k.K H a vs ∧ RepL k A C H vs ds := by
  cases r with
  | tup l h q => cases e; exact ⟨_, _, rfl, .inl (.inl h), q⟩
  | ktup h q => cases e; exact ⟨_, _, rfl, .inr h, q⟩
  | _ => cases e
theorem vS_at (st : StOk k A C H) (r : Rep k A C H v d) (e : vS d C = some ds) : ∃ a vs, v = .ref a ∧ (SqL k.K H a vs ∨ SqT k.K H a vs) ∧ RepL k A C H vs ds := by
  cases r with
  | lst l h q => cases e; exact ⟨_, _, rfl, .inl (.inl (.inl h)), q⟩
  | tup l h q => cases e; exact ⟨_, _, rfl, .inr (.inl (.inl h)), q⟩
  | ktup h q => cases e; exact ⟨_, _, rfl, .inr (.inr h), q⟩
  | cell hi =>
    rename_i i
    simp only [vS] at e
    split at e
    · rename_i xs ec
      cases e
      obtain ⟨vs, h, q⟩ := st.at_ i _ ec
      exact ⟨_, vs, rfl, .inl (.inl (.inl h)), q⟩
    · cases e
  | _ => cases e
theorem vD_at {ks : List (List Key)} (st : StOk k A C H) (r : Rep k A C H v d) (e : vD d C = some (ks, ds)) : ∃ a kvs, v = .ref a ∧ H a = some (.dT kvs) ∧ kvs.map (·.1) = ks ∧ RepL k A C H (kvs.map (·.2)) ds := by
  cases r with
  | dT l h q => cases e; exact ⟨_, _, rfl, h, rfl, q⟩
  | cell hi =>
    rename_i i
    simp only [vD] at e
    split at e
    · rename_i xs ec
      cases e
      obtain ⟨vs, h, z, q⟩ := st.at_ i _ ec
      exact ⟨_, vs, rfl, h, z, q⟩
    · cases e
  | _ => cases e
/-! ### new lists, tuples, dicts: own cells or plain data -/
theorem ext_at (A : Nat → Addr) (n : Nat) (p : Addr) : ext A n p n = p := if_pos rfl
theorem rep_new {p : Addr} (n : Nat) (c : Cell) {H : Hp} {C : Store} : Rep k (ext A C.length p) (C ++ [some c]) H (.ref p) (.cell C.length) := by
  have h : Rep k (ext A C.length p) (C ++ [some c]) H (.ref (ext A C.length p C.length)) (.cell C.length) := .cell (by simp)
  rw [ext_at] at h
  exact h
theorem fresh_L {fl : Nat} {own : Bool} {p : Addr} {vs : List V} (hf : fl ≤ C.length) (st : StOk k A C H) (r : RepL k A C H vs ds) (h : H p = none) :
    ∃ A', Stp k fl A C H A' (mkL own ds C).2 (upd H p (.lst vs)) ∧ StOk k A' (mkL own ds C).2 (upd H p (.lst vs)) ∧ Rep k A' (mkL own ds C).2 (upd H p (.lst vs)) (.ref p) (mkL own ds C).1 := by
  cases own with
  | true =>
    have q : Kp A C H (ext A C.length p) (C ++ [some (.lst ds)]) (upd H p (.lst vs)) := kp_cell (k := k) st h
    exact ⟨ext A C.length p, q.stp fun f h1 h2 l => low_app h2 l, st.cell h ⟨vs, upd_same, r.kp q⟩, rep_new C.length _⟩
  | false =>
    have q : Kp A C H A C (upd H p (.lst vs)) := kp_new h
    exact ⟨A, q.stp0, st.new h, .lst (st.notLive h) upd_same (r.kp q)⟩
theorem fresh_T {fl : Nat} {p : Addr} {vs : List V} (st : StOk k A C H) (r : RepL k A C H vs ds) (h : H p = none) :
    Stp k fl A C H A C (upd H p (.tup vs)) ∧ StOk k A C (upd H p (.tup vs)) ∧ Rep k A C (upd H p (.tup vs)) (.ref p) (.tup ds) := by
  have q : Kp A C H A C (upd H p (.tup vs)) := kp_new h
  exact ⟨q.stp0, st.new h, .tup (st.notLive h) upd_same (r.kp q)⟩
theorem fresh_D {fl : Nat} {own : Bool} {p : Addr} {kvs : List (List Key × V)} (hf : fl ≤ C.length) (st : StOk k A C H) (r : RepL k A C H (kvs.map (·.2)) ds) (h : H p = none) :
    ∃ A', Stp k fl A C H A' (mkD own (kvs.map (·.1)) ds C).2 (upd H p (.dT kvs)) ∧ StOk k A' (mkD own (kvs.map (·.1)) ds C).2 (upd H p (.dT kvs)) ∧ Rep k A' (mkD own (kvs.map (·.1)) ds C).2 (upd H p (.dT kvs)) (.ref p) (mkD own (kvs.map (·.1)) ds C).1 := by
  cases own with
  | true =>
    have q : Kp A C H (ext A C.length p) (C ++ [some (.dT (kvs.map (·.1)) ds)]) (upd H p (.dT kvs)) := kp_cell (k := k) st h
    exact ⟨ext A C.length p, q.stp fun f h1 h2 l => low_app h2 l, st.cell h ⟨kvs, upd_same, rfl, r.kp q⟩, rep_new C.length _⟩
  | false =>
    have q : Kp A C H A C (upd H p (.dT kvs)) := kp_new h
    exact ⟨A, q.stp0, st.new h, .dT (st.notLive h) upd_same (r.kp q)⟩
end
/-! ### displays -/
theorem szN_le {n : Nat} (h : szN n = true) : n ≤ sizeLine := by
  rw [sizeLine_eq]
  exact of_decide_eq_true h
section
variable {X : Cx} {k : Cn} {W : WX} {es : List Expr} {ma : MA} {pos : Pos}
theorem le_lst {own : Bool} {σ : L2.St} {H : Hp} {Q : VK} (h : LE k W (mAp (oLst own) ma) σ H Q) : tLst (LA k W ma) σ H Q := by
  obtain ⟨A, F, C, s, h⟩ := h
  refine ⟨A, F, C, s, (Aft.bnd (rel := RepDs k) h).mono fun dx C1 A1 H1 x p1 st1 rx h1 => ?_⟩
  have s1 := s.step p1 st1
  obtain ⟨d, C', e, q⟩ := aft_ofO h1
  unfold oLst at e
  split at e
  · rename_i hz
    refine ⟨by rw [rx.length]; exact szN_le hz, fun p hp => ?_⟩
    obtain ⟨A2, w1, w2, w3⟩ := fresh_L (own := own) s1.fl st1 rx hp
    have e1 := Option.some.inj e
    rw [e1] at w1 w2 w3
    exact q A2 _ _ w1 w2 w3
  · cases e
theorem de_lst (own : Bool) (h : PA X es (LA k W ma)) : PE X (.List es pos) (LE k W (mAp (oLst own) ma)) := (pe_lst h).cq fun _ _ _ h => le_lst h
theorem le_tup {σ : L2.St} {H : Hp} {Q : VK} (h : LE k W (mAp oTup ma) σ H Q) : tTup (LA k W ma) σ H Q := by
  obtain ⟨A, F, C, s, h⟩ := h
  refine ⟨A, F, C, s, (Aft.bnd (rel := RepDs k) h).mono fun dx C1 A1 H1 x p1 st1 rx h1 => ?_⟩
  obtain ⟨d, C', e, q⟩ := aft_ofO h1
  unfold oTup at e
  split at e
  · rename_i hz
    cases e
    refine ⟨by rw [rx.length]; exact szN_le hz, fun p hp => ?_⟩
    obtain ⟨w1, w2, w3⟩ := fresh_T st1 rx hp
    exact q A1 _ _ w1 w2 w3
  · cases e
theorem de_tup {x1} (h : PA X es (LA k W ma)) : PE X (.Tuple es x1 pos) (LE k W (mAp oTup ma)) := (pe_tup h).cq fun _ _ _ h => le_tup h
theorem de_dnew (own : Bool) : PE X (.Dict [] [] pos) (LE k W (mDNew own)) := pe_dnewT.cq fun σ H Q h => by
  obtain ⟨A, F, C, s, h⟩ := h
  intro p hp
  obtain ⟨A2, w1, w2, w3⟩ := fresh_D (own := own) (kvs := []) (ds := []) s.fl s.st .nil hp
  exact h A2 _ _ w1 w2 w3
end
/-! ### subscripts -/
def oIx : O2 := fun x y C => match y with
  | .int i => (vS x C).bind fun xs => (atI xs i).map fun d => (d, C)
  | _ => none
theorem atI_rep {k : Cn} {A : Nat → Addr} {C : Store} {H : Hp} {vs : List V} {ds : List D} {i : Int} {d : D} (r : RepL k A C H vs ds) (h : atI ds i = some d) : ∃ v, atI vs i = some v ∧ Rep k A C H v d := by
  unfold atI at h ⊢
  rw [r.length]
  cases e : ixN ds.length i with
  | none => rw [e] at h; cases h
  | some j =>
    rw [e] at h
    exact r.get h
theorem d_ix {k : Cn} : OpD k (rIx k.K) oIx := by
  intro fl A C H x y dx dy d C' Q hf hl st rx ry e q
  cases ry with
  | int i =>
    simp only [oIx] at e
    cases ev : vS dx C with
    | none => rw [ev] at e; cases e
    | some xs =>
      rw [ev] at e
      simp only [Option.bind_some, Option.map_eq_some_iff] at e
      obtain ⟨d', e1, e2⟩ := e
      cases e2
      obtain ⟨a, vs, rfl, hs, r⟩ := vS_at st rx ev
      obtain ⟨v, hv, rv⟩ := atI_rep r e1
      rcases hs with hs | hs
      · exact .inl ⟨a, vs, i, v, rfl, rfl, hs, hv, q A H v Stp.refl st rv⟩
      · exact .inr (.inl ⟨a, vs, i, v, rfl, rfl, hs, hv, q A H v Stp.refl st rv⟩)
  | _ => cases e
/-! ### dicts with tuple keys -/
theorem keyL_rep {k : Cn} {A : Nat → Addr} {C : Store} {H : Hp} : ∀ {vs : List V} {ds : List D} {ks : List Key}, RepL k A C H vs ds → keyL ds = some ks → vs = ks.map kV
  | _, _, _, .nil, e => by cases e; rfl
  | _, _, _, .cons r t, e => by
    cases r with
    | int i =>
      simp only [keyL, Option.map_eq_some_iff] at e
      obtain ⟨l, e1, e2⟩ := e
      cases e2
      rw [keyL_rep t e1]
      rfl
    | str s =>
      simp only [keyL, Option.map_eq_some_iff] at e
      obtain ⟨l, e1, e2⟩ := e
      cases e2
      rw [keyL_rep t e1]
      rfl
    | _ => cases e
theorem lookT_rep {k : Cn} {A : Nat → Addr} {C : Store} {H : Hp} (key : List Key) : ∀ {kvs : List (List Key × V)} {ds : List D}, RepL k A C H (kvs.map (·.2)) ds →
    (∀ d, lookT (kvs.map (·.1)) ds key = some d → ∃ v, valV kvs key = some v ∧ Rep k A C H v d) ∧ (lookT (kvs.map (·.1)) ds key = none → valV kvs key = none)
  | [], _, .nil => ⟨fun d h => (by cases h), fun _ => rfl⟩
  | p :: kvs, _, .cons r t => by
    have ih := lookT_rep key t
    by_cases e : p.1 = key
    · refine ⟨fun d h => ?_, fun h => ?_⟩
      · simp only [List.map_cons, lookT, if_pos e] at h
        cases h
        exact ⟨p.2, valV_pos e, r⟩
      · simp only [List.map_cons, lookT, if_pos e] at h
        cases h
    · refine ⟨fun d h => ?_, fun h => ?_⟩
      · simp only [List.map_cons, lookT, if_neg e] at h
        obtain ⟨v, h1, h2⟩ := ih.1 d h
        exact ⟨v, by rw [valV_neg e]; exact h1, h2⟩
      · simp only [List.map_cons, lookT, if_neg e] at h
        rw [valV_neg e]
        exact ih.2 h
theorem setT_rep {k : Cn} {A : Nat → Addr} {C : Store} {H : Hp} {v : V} {x : D} (key : List Key) (rx : Rep k A C H v x) : ∀ {kvs : List (List Key × V)} {ds : List D}, RepL k A C H (kvs.map (·.2)) ds →
    RepL k A C H ((kvs.map fun kv => if kv.1 = key then (kv.1, v) else kv).map (·.2)) (setT (kvs.map (·.1)) ds key x)
  | [], _, .nil => .nil
  | p :: kvs, _, .cons r t => by
    have ih := setT_rep key rx t
    by_cases e : p.1 = key
    · simp only [setT, List.map_cons, if_pos e]
      exact .cons rx ih
    · simp only [setT, List.map_cons, if_neg e]
      exact .cons r ih
theorem keys_map (key : List Key) (v : V) : ∀ kvs : List (List Key × V), (kvs.map fun kv => if kv.1 = key then (kv.1, v) else kv).map (·.1) = kvs.map (·.1)
  | [] => rfl
  | p :: kvs => by
    simp only [List.map_cons, keys_map key v kvs]
    split <;> rfl
theorem putK_rep {k : Cn} {A : Nat → Addr} {C : Store} {H : Hp} {v : V} {x : D} (key : List Key) (rx : Rep k A C H v x) {kvs : List (List Key × V)} {ds : List D} (r : RepL k A C H (kvs.map (·.2)) ds) :
    (putK kvs key v).map (·.1) = (putT (kvs.map (·.1)) ds key x).1 ∧ RepL k A C H ((putK kvs key v).map (·.2)) (putT (kvs.map (·.1)) ds key x).2 := by
  have ea : ((kvs.map (·.1)).any fun k => decide (k = key)) = (kvs.any fun kv => decide (kv.1 = key)) := by rw [List.any_map]; rfl
  unfold putK putT
  rw [ea]
  split
  · exact ⟨keys_map key v kvs, setT_rep key rx r⟩
  · rw [List.map_append, List.map_append]
    exact ⟨rfl, r.append (.cons rx .nil)⟩
/-- d[y] -/
def oDIx : O2 := fun x y C => match y with
  | .tup ds => (vD x C).bind fun p => (keyL ds).bind fun key => (lookT p.1 p.2 key).map fun d => (d, C)
  | _ => none
/-- a key that lies in the heap as a tuple -/
theorem key_at {k : Cn} {A : Nat → Addr} {C : Store} {H : Hp} {y : V} {ds : List D} {key : List Key} (r : Rep k A C H y (.tup ds)) (hk : keyL ds = some key) : ∃ b, y = .ref b ∧ H b = some (.tup (key.map kV)) := by
  cases r with
  | tup l h t =>
    have e := keyL_rep t hk
    subst e
    exact ⟨_, rfl, h⟩
def oDIn (neg : Bool) : O2 := fun y x C => match y with
  | .tup ds => (vD x C).bind fun p => (keyL ds).map fun key => (.bl (if neg = true then !(lookT p.1 p.2 key).isSome else (lookT p.1 p.2 key).isSome), C)
  | _ => none
section
variable {X : Cx} {k : Cn} {W : WX} {σ : L2.St} {H : Hp} {Q : VK}
theorem le_dix {ma mb : ME} (h : LE k W (mOp oDIx ma mb) σ H Q) : tDGet (LE k W ma) (LE k W mb) σ H Q := by
  obtain ⟨A, F, C, s, h⟩ := h
  refine ⟨A, F, C, s, (Aft.bnd (rel := RepD k) h).mono fun dx C1 A1 H1 x p1 st1 rx h1 => ?_⟩
  have s1 := s.step p1 st1
  refine ⟨A1, F, C1, s1, (Aft.bnd (rel := RepD k) h1).mono fun dy C2 A2 H2 y p2 st2 ry h2 => ?_⟩
  obtain ⟨d, C', e, q⟩ := aft_ofO h2
  unfold oDIx at e
  split at e
  · rename_i ds
    simp only [Option.bind_eq_some_iff, Option.map_eq_some_iff] at e
    obtain ⟨⟨ks, vs⟩, e1, key, e2, d', e3, e4⟩ := e
    cases e4
    obtain ⟨a, kvs, rfl, ha, hk, hr⟩ := vD_at st2 (p2.rep _ _ rx) e1
    obtain ⟨b, rfl, hb⟩ := key_at ry e2
    subst hk
    obtain ⟨v, hv, rv⟩ := (lookT_rep key hr).1 _ e3
    exact ⟨a, v, rfl, by rw [← hv]; exact DGet.t ha hb, q A2 H2 v Stp.refl st2 rv⟩
  · cases e
theorem le_dget {ma mb mc : ME} (h : LE k W (mDGet ma mb mc) σ H Q) : tDGet2 (LE k W ma) (LE k W mb) (LE k W mc) σ H Q := by
  obtain ⟨A, F, C, s, h⟩ := h
  refine ⟨A, F, C, s, (Aft.bnd (rel := RepD k) h).mono fun dx C1 A1 H1 x p1 st1 rx h1 => ?_⟩
  have s1 := s.step p1 st1
  have key1 : ∀ (A1 : Nat → Addr) (H1 : Hp) (x : V), StOk k A1 C1 H1 → Rep k A1 C1 H1 x dx → (vD dx C1).isSome = true → ∃ a, x = .ref a ∧ IsD H1 a := fun A1 H1 x st1 rx hs => by
    obtain ⟨⟨ks, vs⟩, e1⟩ := Option.isSome_iff_exists.mp hs
    obtain ⟨a, kvs, rfl, ha, _, _⟩ := vD_at st1 rx e1
    exact ⟨a, rfl, .inr ⟨kvs, .inl ha⟩⟩
  by_cases hs : (vD dx C1).isSome = true
  · obtain ⟨a, rfl, hd⟩ := key1 A1 H1 x st1 rx hs
    rw [if_pos hs] at h1
    refine ⟨a, rfl, hd, A1, F, C1, s1, (Aft.bnd (rel := RepD k) h1).mono fun dy C2 A2 H2 y p2 st2 ry h2 => ?_⟩
    have s2 := s1.step p2 st2
    refine ⟨A2, F, C2, s2, (Aft.bnd (rel := RepD k) h2).mono fun dz C3 A3 H3 z p3 st3 rz h3 => ?_⟩
    obtain ⟨d, C', e, q⟩ := aft_ofO h3
    unfold oDGet at e
    split at e
    · rename_i ds
      simp only [Option.bind_eq_some_iff, Option.map_eq_some_iff] at e
      obtain ⟨⟨ks, vs⟩, e1, key, e2, e4⟩ := e
      cases e4
      obtain ⟨a', kvs, ea, ha, hk, hr⟩ := vD_at st3 (p3.rep _ _ (p2.rep _ _ rx)) e1
      cases ea
      obtain ⟨b, rfl, hb⟩ := key_at (p3.rep _ _ ry) e2
      subst hk
      refine ⟨_, DGet.t ha hb, ?_⟩
      cases el : lookT (kvs.map (·.1)) vs key with
      | none =>
        rw [(lookT_rep key hr).2 el]
        rw [el] at q
        exact q A3 H3 z Stp.refl st3 rz
      | some d =>
        obtain ⟨v, hv, rv⟩ := (lookT_rep key hr).1 _ el
        rw [hv]
        rw [el] at q
        exact q A3 H3 v Stp.refl st3 rv
    · cases e
  · rw [if_neg hs] at h1
    exact h1.elim
theorem le_din {neg : Bool} {ma mb : ME} (h : LE k W (mOp (oDIn neg) ma mb) σ H Q) : (if neg = true then tDNotIn (LE k W ma) (LE k W mb) σ H Q else tDIn (LE k W ma) (LE k W mb) σ H Q) := by
  obtain ⟨A, F, C, s, h⟩ := h
  have main : LE k W ma σ H fun y H1 => LE k W mb σ H1 fun x H2 => ∃ a o, x = .ref a ∧ DGet H2 a y o ∧ Q (.bl (if neg = true then !o.isSome else o.isSome)) H2 := by
    refine ⟨A, F, C, s, (Aft.bnd (rel := RepD k) h).mono fun dy C1 A1 H1 y p1 st1 ry h1 => ?_⟩
    have s1 := s.step p1 st1
    refine ⟨A1, F, C1, s1, (Aft.bnd (rel := RepD k) h1).mono fun dx C2 A2 H2 x p2 st2 rx h2 => ?_⟩
    obtain ⟨d, C', e, q⟩ := aft_ofO h2
    unfold oDIn at e
    split at e
    · rename_i ds
      simp only [Option.bind_eq_some_iff, Option.map_eq_some_iff] at e
      obtain ⟨⟨ks, vs⟩, e1, key, e2, e4⟩ := e
      cases e4
      obtain ⟨a, kvs, rfl, ha, hk, hr⟩ := vD_at st2 rx e1
      obtain ⟨b, rfl, hb⟩ := key_at (p2.rep _ _ ry) e2
      subst hk
      refine ⟨a, _, rfl, DGet.t ha hb, ?_⟩
      have es : (valV kvs key).isSome = (lookT (kvs.map (·.1)) vs key).isSome := by
        cases el : lookT (kvs.map (·.1)) vs key with
        | none =>
          rw [(lookT_rep key hr).2 el]
          rfl
        | some d =>
          obtain ⟨v, hv, rv⟩ := (lookT_rep key hr).1 _ el
          rw [hv]
          rfl
      rw [es]
      exact q A2 H2 _ Stp.refl st2 (.bl _)
    · cases e
  cases neg with
  | true => exact main
  | false => exact main
theorem de_dix {a b : Expr} {pos : Pos} {ma mb : ME} (hu : X.A.units + 1 < cLine) (ha : PE X a (LE k W ma)) (hb : PE X b (LE k W mb)) (hs : NoSl b := by exact fun _ _ => rfl) : PE X (.Subscript a b pos) (LE k W (mOp oDIx ma mb)) := (pe_dget hu ha hb hs).cq fun _ _ _ h => le_dix h
theorem de_dget {o e f : Expr} {apos cpos : Pos} {ma mb mc : ME} (hu : X.A.units + 1 < cLine) (ho : PE X o (LE k W ma)) (he : PE X e (LE k W mb)) (hf : PE X f (LE k W mc)) (m : M2 X o "get" apos e f cpos := by exact ⟨rfl, rfl, rfl, rfl⟩) :
    PE X (.Call (.Attribute o "get" apos) [e, f] [] cpos) (LE k W (mDGet ma mb mc)) := (pe_dget2 hu ho he hf m).cq fun _ _ _ h => le_dget h
end
end CT
set_option maxHeartbeats 4000000
/-! DL4: statements, defs over data. -/
namespace CT
open PySem L2
def AftS (k : Cn) (W : WX) (fl : Nat) (A : Nat → Addr) (C : Store) (H : Hp) (m : RS) (E : Ends) : Prop := match m with
  | .nx sl C' => ∀ A' σ' H', Stp k fl A C H A' C' H' → SR k A' ⟨fl, sl⟩ C' σ' H' → E.nx σ' H'
  | .bk sl C' => ∀ A' σ' H', Stp k fl A C H A' C' H' → SR k A' ⟨fl, sl⟩ C' σ' H' → E.bk σ' H'
  | .ct sl C' => ∀ A' σ' H', Stp k fl A C H A' C' H' → SR k A' ⟨fl, sl⟩ C' σ' H' → E.ct σ' H'
  | .rt d C' => ∀ A' H' v, Stp k fl A C H A' C' H' → StOk k A' C' H' → Rep k A' C' H' v d → E.rt v H'
  | .xc e sl C' => ∀ A' σ' H' dd vs, Stp k fl A C H A' C' H' → SR k A' ⟨fl, sl⟩ C' σ' H' → H' dd = some (.xd ((k.fn e.c).zip vs)) → vs.length = (k.fn e.c).length → RepL k A' C' H' vs e.fs → W (.ref (k.cl e.c)) (some dd) σ' H'
  | .stuck => False
def LS (k : Cn) (W : WX) (m : MS) : TS := fun E σ H => ∃ A F C, SR k A F C σ H ∧ AftS k W F.fl A C H (m F C) E
section
variable {k : Cn} {W : WX} {fl : Nat} {A A1 : Nat → Addr} {C C1 : Store} {H H1 : Hp} {m : RS} {E E' : Ends}
theorem AftS.shift (s : Stp k fl A C H A1 C1 H1) (h : AftS k W fl A C H m E) : AftS k W fl A1 C1 H1 m E := by
  cases m with
  | nx sl C' => exact fun A' σ' H' p r => h A' σ' H' (s.trans p) r
  | bk sl C' => exact fun A' σ' H' p r => h A' σ' H' (s.trans p) r
  | ct sl C' => exact fun A' σ' H' p r => h A' σ' H' (s.trans p) r
  | rt d C' => exact fun A' H' v p st r => h A' H' v (s.trans p) st r
  | xc e sl C' => exact fun A' σ' H' dd vs p r x l t => h A' σ' H' dd vs (s.trans p) r x l t
  | stuck => exact h
end
/-! ### simple statements -/
theorem AftS.bnd {k : Cn} {W : WX} {F : Fr} {A : Nat → Addr} {C : Store} {σ : L2.St} {H : Hp} {E : Ends} {α β : Type} {rel : (Nat → Addr) → Store → Hp → β → α → Prop} {m : R α} {f : α → Store → RS} (s : SR k A F C σ H)
    (h : AftS k W F.fl A C H (bndS F.sl m f) E) : Aft k F.fl A C H rel m (fun d C1 A1 H1 v => AftS k W F.fl A1 C1 H1 (f d C1) E) (fun c d H' => W c d σ H') := by
  cases m with
  | ok d C' => exact fun A' H' v p st r => AftS.shift p h
  | exc e C' => exact fun A' H' dd vs p st x l r => h A' σ H' dd vs p (s.step p st) x l r
  | stuck => exact h
def sNever : MS := fun _ _ => .stuck
section
variable {X : Cx} {k : Cn} {W : WX} {E : Ends} {σ : L2.St} {H : Hp}
theorem ls_next (h : LS k W sNext E σ H) : tNext E σ H := by
  obtain ⟨A, F, C, s, h⟩ := h
  exact h A σ H Stp.refl s
theorem ls_seq {a b : MS} (h : LS k W (sSeq a b) E σ H) : tSeq (LS k W a) (LS k W b) E σ H := by
  obtain ⟨A, F, C, s, h⟩ := h
  refine ⟨A, F, C, s, ?_⟩
  unfold sSeq at h
  cases e : a F C with
  | nx sl C' =>
    rw [e] at h
    exact fun A' σ' H' p r => ⟨A', ⟨F.fl, sl⟩, C', r, AftS.shift p h⟩
  | bk sl C' => rw [e] at h; exact h
  | ct sl C' => rw [e] at h; exact h
  | rt d C' => rw [e] at h; exact h
  | xc x sl C' => rw [e] at h; exact h
  | stuck => rw [e] at h; exact h
theorem ls_drop {m : ME} (h : LS k W (sDrop m) E σ H) : tDrop (LE k W m) E σ H := by
  obtain ⟨A, F, C, s, h⟩ := h
  exact ⟨A, F, C, s, (AftS.bnd (rel := RepD k) s h).mono fun d C1 A1 H1 v p st r h1 => h1 A1 σ H1 Stp.refl (s.step p st)⟩
theorem ls_ret {m : ME} (h : LS k W (sRet m) E σ H) : tRet (LE k W m) E σ H := by
  obtain ⟨A, F, C, s, h⟩ := h
  exact ⟨A, F, C, s, (AftS.bnd (rel := RepD k) s h).mono fun d C1 A1 H1 v p st r h1 => h1 A1 H1 v Stp.refl st r⟩
theorem ls_if {t : MT} {a b : MS} (h : LS k W (sIf t a b) E σ H) : tIfS (LT k W t) (LS k W a) (LS k W b) E σ H := by
  obtain ⟨A, F, C, s, h⟩ := h
  refine ⟨A, F, C, s, (AftS.bnd (rel := RepB) s h).mono fun dx C1 A1 H1 x p st rx h1 => ?_⟩
  have rx : x = dx := rx
  subst rx
  cases x with
  | true => exact iteT ⟨A1, F, C1, s.step p st, h1⟩
  | false => exact iteF ⟨A1, F, C1, s.step p st, h1⟩
theorem dss_nil : PSs X [] (LS k W sNext) := pss_nil.cq fun _ _ _ h => ls_next h
theorem dss_cons {st : Stmt} {rest : List Stmt} {a b : MS} (h1 : PS X st (LS k W a)) (h2 : PSs X rest (LS k W b)) : PSs X (st :: rest) (LS k W (sSeq a b)) := (pss_cons h1 h2).cq fun _ _ _ h => ls_seq h
theorem dss_one {st : Stmt} {a : MS} (h1 : PS X st (LS k W a)) : PSs X [st] (LS k W a) := pss_one h1
theorem ds_expr {e : Expr} {pos : Pos} {m : ME} (he : PE X e (LE k W m)) (hs : swapsWith e none pos.line X.env = pure false := by rfl) : PS X (.Expr e pos) (LS k W (sDrop m)) := (ps_expr he hs).cq fun _ _ _ h => ls_drop h
theorem ds_ret {e : Expr} {pos : Pos} {m : ME} (he : PE X e (LE k W m)) : PS X (.Return (some e) pos) (LS k W (sRet m)) := (ps_ret he).cq fun _ _ _ h => ls_ret h
theorem ds_if {c : Expr} {a b : List Stmt} {pos : Pos} {t : MT} {m n : MS} (hc : PT X c (LT k W t)) (ha : PSs X a (LS k W m)) (hb : PSs X b (LS k W n)) : PS X (.If c a b pos) (LS k W (sIf t m n)) := (ps_if hc ha hb).cq fun _ _ _ h => ls_if h
theorem ds_never {st : Stmt} : PS X st (LS k W sNever) := ps_never.cq fun E σ H h => by
  obtain ⟨A, F, C, s, h⟩ := h
  exact h.elim
end
/-! ### targets -/
def gsN : List Nat → TGs
  | [] => gNil
  | i :: is => gCons (gName i) (gsN is)
section
variable {X : Cx} {k : Cn}
theorem setAll_len : ∀ {is : List Nat} {ds : List D} {sl sl' : List (Option D)}, setAll is ds sl = some sl' → ds.length = is.length
  | [], [], _, _, _ => rfl
  | _ :: is, _ :: ds, _, _, h => by
    have := setAll_len (is := is) (ds := ds) h
    simp [this]
  | [], _ :: _, _, _, h => by cases h
  | _ :: _, [], _, _, h => by cases h
theorem _root_.L2.PG.cq {X : Cx} {e : Expr} {t t' : TG} (h : PG X e t) (c : ∀ v σ H Q, t' v σ H Q → t v σ H Q) : PG X e t' := ⟨fun pins s σ H v u Q I r q => h.run pins s σ H v u Q I r (c v σ H Q q)⟩
end
end CT
set_option maxHeartbeats 4000000
/-! DL5: stores, loops over data. -/
namespace CT
open PySem L2
section
variable {X : Cx} {k : Cn} {W : WX} {E : Ends} {σ : L2.St} {H : Hp}
/-! ### assignments -/
theorem ls_set {m : ME} {i : Nat} (h : LS k W (sAsg m (gN i)) E σ H) : tAsg (LE k W m) (gName i) E σ H := by
  obtain ⟨A, F, C, s, h⟩ := h
  exact ⟨A, F, C, s, (AftS.bnd (rel := RepD k) s h).mono fun d C1 A1 H1 v p st r h1 => h1 A1 _ H1 Stp.refl ((s.step p st).set r)⟩
theorem ds_set {i : Nat} {x : Str} {e : Expr} {pos pos' : Pos} {m : ME} (hN : X.N.Nodup) (hi : X.N[i]? = some x) (hx : Loc X.env.scope x) (he : PE X e (LE k W m)) (hs : swapsWith e (some (.Name x pos')) pos.line X.env = pure false := by rfl) (hf : X.fn x = true ∨ X.env.scope.names.lookup x = some .local := by first | exact .inl rfl | exact .inr rfl | assumption) :
    PS X (.Assign [.Name x pos'] e pos) (LS k W (sAsg m (gN i))) := (ps_set hN hi hx he hs hf).cq fun _ _ _ h => ls_set h
theorem ls_par {i j : Nat} {m : MA} (h : LS k W (sPar [i, j] m) E σ H) : tPar i j (LA k W m) E σ H := by
  obtain ⟨A, F, C, s, h⟩ := h
  refine ⟨A, F, C, s, (AftS.bnd (rel := RepDs k) s h).mono fun d C1 A1 H1 vs p st r h1 => ?_⟩
  cases r with
  | nil => exact h1.elim
  | cons r1 t1 =>
    cases t1 with
    | nil => exact h1.elim
    | cons r2 t2 =>
      cases t2 with
      | nil => exact ⟨_, _, rfl, h1 A1 _ H1 Stp.refl (((s.step p st).set r1).set r2)⟩
      | cons r3 t3 => exact h1.elim
theorem ds_par {i j : Nat} {x y : Str} {a b : Expr} {px py pt pos : Pos} {kt k2 pt2} {m : MA} (hc : X.calm = true) (hN : X.N.Nodup) (hi : X.N[i]? = some x) (hj : X.N[j]? = some y) (hij : i ≠ j)
    (hx : X.env.scope.names.lookup x = some .local) (hy : X.env.scope.names.lookup y = some .local) (ha : PA X [a, b] (LA k W m))
    (hw : swappedStores [.Tuple [.Name x px, .Name y py] kt pt] (.Tuple [a, b] k2 pt2) X.env = pure (some [x, y]) := by rfl)
    (hs : swapsWithSole [.Tuple [.Name x px, .Name y py] kt pt] (.Tuple [a, b] k2 pt2) pos.line X.env = pure false := by rfl) :
    PS X (.Assign [.Tuple [.Name x px, .Name y py] kt pt] (.Tuple [a, b] k2 pt2) pos) (LS k W (sPar [i, j] m)) := (ps_par hc hN hi hj hij hx hy ha hw hs).cq fun _ _ _ h => ls_par h
end
/-! ### cells written -/
theorem wr_some {fl i : Nat} {c : Cell} {C C' : Store} (h : wr fl i c C = some C') : C' = C.set i (some c) ∧ (i < fl → cbC 0 c = true) := by
  unfold wr at h
  split at h
  · cases h
  · rename_i hn
    cases h
    refine ⟨rfl, fun hi => ?_⟩
    cases e : cbC 0 c with
    | true => rfl
    | false => exact absurd ⟨hi, e⟩ hn
section
variable {k : Cn} {A : Nat → Addr} {C C' : Store} {H : Hp} {fl i : Nat}
theorem write_L {c0 : Cell} {ds : List D} {vs : List V} (st : StOk k A C H) (hi : C[i]? = some (some c0)) (r : RepL k A C H vs ds) (h : wr fl i (.lst ds) C = some C') :
    Stp k fl A C H A C' (upd H (A i) (.lst vs)) ∧ StOk k A C' (upd H (A i) (.lst vs)) := by
  obtain ⟨rfl, hc⟩ := wr_some h
  have q : Kp A C H A (C.set i (some (.lst ds))) (upd H (A i) (.lst vs)) := kp_write hi
  exact ⟨q.stp fun f h1 h2 l => low_set hc h1 l, st.write hi ⟨vs, upd_same, r.kp q⟩⟩
theorem write_D {c0 : Cell} {ks : List (List Key)} {ds : List D} {kvs : List (List Key × V)} (st : StOk k A C H) (hi : C[i]? = some (some c0)) (hk : kvs.map (·.1) = ks) (r : RepL k A C H (kvs.map (·.2)) ds) (h : wr fl i (.dT ks ds) C = some C') :
    Stp k fl A C H A C' (upd H (A i) (.dT kvs)) ∧ StOk k A C' (upd H (A i) (.dT kvs)) := by
  obtain ⟨rfl, hc⟩ := wr_some h
  have q : Kp A C H A (C.set i (some (.dT ks ds))) (upd H (A i) (.dT kvs)) := kp_write hi
  exact ⟨q.stp fun f h1 h2 l => low_set hc h1 l, st.write hi ⟨kvs, upd_same, hk, r.kp q⟩⟩
end
section
variable {k : Cn} {A : Nat → Addr} {C : Store} {H : Hp} {v : V} {d : D} {i : Nat}
theorem cL_at {ds : List D} (st : StOk k A C H) (r : Rep k A C H v d) (e : cL d C = some (i, ds)) : d = .cell i ∧ v = .ref (A i) ∧ C[i]? = some (some (.lst ds)) ∧ ∃ vs, H (A i) = some (.lst vs) ∧ RepL k A C H vs ds := by
  cases r with
  | cell hi =>
    simp only [cL] at e
    split at e
    · rename_i xs ec
      cases e
      exact ⟨rfl, rfl, ec, st.at_ i _ ec⟩
    · cases e
  | _ => cases e
theorem cD_at {ks : List (List Key)} {ds : List D} (st : StOk k A C H) (r : Rep k A C H v d) (e : cD d C = some (i, ks, ds)) : d = .cell i ∧ v = .ref (A i) ∧ C[i]? = some (some (.dT ks ds)) ∧ ∃ kvs : List (List Key × V), H (A i) = some (.dT kvs) ∧ kvs.map (·.1) = ks ∧ RepL k A C H (kvs.map (·.2)) ds := by
  cases r with
  | cell hi =>
    simp only [cD] at e
    split at e
    · rename_i xs ec
      cases e
      exact ⟨rfl, rfl, ec, st.at_ i _ ec⟩
    · cases e
  | _ => cases e
end
section
variable {X : Cx} {k : Cn} {W : WX} {E : Ends} {σ : L2.St} {H : Hp}
theorem ls_setL {me mo mi : ME} (h : LS k W (sSetL me mo mi) E σ H) : tAsg (LE k W me) (gSub (LE k W mo) (LE k W mi) rSetL) E σ H := by
  obtain ⟨A, F, C, s, h⟩ := h
  refine ⟨A, F, C, s, (AftS.bnd (rel := RepD k) s h).mono fun dv C1 A1 H1 v p1 st1 rv h1 => ?_⟩
  have s1 := s.step p1 st1
  refine ⟨A1, F, C1, s1, (AftS.bnd (rel := RepD k) s1 h1).mono fun dO C2 A2 H2 o p2 st2 ro h2 => ?_⟩
  have s2 := s1.step p2 st2
  refine ⟨A2, F, C2, s2, (AftS.bnd (rel := RepD k) s2 h2).mono fun dx C3 A3 H3 x p3 st3 rx h3 => ?_⟩
  have s3 := s2.step p3 st3
  cases rx with
  | int n =>
    cases ec : cL dO C3 with
    | none => simp only [ec] at h3; exact h3.elim
    | some q =>
      obtain ⟨i, ds⟩ := q
      simp only [ec] at h3
      obtain ⟨rfl, rfl, hi, vs, hv, rvs⟩ := cL_at st3 (p3.rep _ _ ro) ec
      cases ej : ixN ds.length n with
      | none => simp only [ej] at h3; exact h3.elim
      | some j =>
        simp only [ej] at h3
        cases ew : wr F.fl i (.lst (ds.set j dv)) C3 with
        | none => simp only [ew] at h3; exact h3.elim
        | some C4 =>
          simp only [ew] at h3
          obtain ⟨q1, q2⟩ := write_L st3 hi (rvs.set (p3.rep _ _ (p2.rep _ _ rv)) j) ew
          exact ⟨A3 i, vs, n, j, rfl, rfl, hv, by rw [rvs.length]; exact ej, h3 A3 σ _ q1 (s3.step q1 q2)⟩
  | _ => exact h3.elim
theorem ls_put {me mo mi : ME} (h : LS k W (sPut me mo mi) E σ H) : sDPut (LE k W mo) (LE k W mi) (LE k W me) E σ H := by
  obtain ⟨A, F, C, s, h⟩ := h
  refine ⟨A, F, C, s, (AftS.bnd (rel := RepD k) s h).mono fun dv C1 A1 H1 v p1 st1 rv h1 => ?_⟩
  have s1 := s.step p1 st1
  refine ⟨A1, F, C1, s1, (AftS.bnd (rel := RepD k) s1 h1).mono fun dO C2 A2 H2 o p2 st2 ro h2 => ?_⟩
  have s2 := s1.step p2 st2
  refine ⟨A2, F, C2, s2, (AftS.bnd (rel := RepD k) s2 h2).mono fun dx C3 A3 H3 x p3 st3 rx h3 => ?_⟩
  have s3 := s2.step p3 st3
  cases dx with
  | tup ds =>
    cases ec : cD dO C3 with
    | none => simp only [ec] at h3; exact h3.elim
    | some q =>
      obtain ⟨i, ks, vs⟩ := q
      simp only [ec] at h3
      obtain ⟨rfl, rfl, hi, kvs, hv, hk, rvs⟩ := cD_at st3 (p3.rep _ _ ro) ec
      cases ej : keyL ds with
      | none => simp only [ej] at h3; exact h3.elim
      | some key =>
        simp only [ej] at h3
        split at h3
        · rename_i hz
          cases ew : wr F.fl i (.dT (putT ks vs key dv).1 (putT ks vs key dv).2) C3 with
          | none => simp only [ew] at h3; exact h3.elim
          | some C4 =>
            simp only [ew] at h3
            obtain ⟨b, rfl, hb⟩ := key_at rx ej
            subst hk
            have hz' : kvs.length < sizeLine := by
              have := szN_le hz
              rw [List.length_map] at this
              omega
            obtain ⟨k1, k2⟩ := putK_rep key (p3.rep _ _ (p2.rep _ _ rv)) rvs
            obtain ⟨q1, q2⟩ := write_D st3 hi k1 k2 ew
            exact ⟨A3 i, _, rfl, DPut.t hv hb hz', h3 A3 σ _ q1 (s3.step q1 q2)⟩
        · exact h3.elim
  | _ => exact h3.elim
theorem ds_setL {o i e : Expr} {pos pos' : Pos} {me mo mi : ME} (he : PE X e (LE k W me)) (hg : PG X (.Subscript o i pos') (gSub (LE k W mo) (LE k W mi) rSetL))
    (hs : swapsWithSole [.Subscript o i pos'] e pos.line X.env = pure false := by rfl) (hw : swappedStores [.Subscript o i pos'] e X.env = pure none := by rfl) (h1 : (assignEach [.Subscript o i pos'] X.env).map (·.2) = [assign (.Subscript o i pos') X.env] := by rfl) :
    PS X (.Assign [.Subscript o i pos'] e pos) (LS k W (sSetL me mo mi)) := (ps_asg he hg hs hw h1).cq fun _ _ _ h => ls_setL h
theorem ds_put {o i e : Expr} {pos pos' : Pos} {me mo mi : ME} (hu : X.A.units + 1 < cLine) (he : PE X e (LE k W me)) (ho : PE X o (LE k W mo)) (hi : PE X i (LE k W mi)) (hs : swapsWith e (some (.Subscript o i pos')) pos.line X.env = pure false := by rfl) :
    PS X (.Assign [.Subscript o i pos'] e pos) (LS k W (sPut me mo mi)) := (ps_dput hu ho hi he hs).cq fun _ _ _ h => ls_put h
end
/-! ### list methods that write -/
def mAppend (mo me : ME) : ME := fun F C => bnd (mo F C) fun o C1 => if (vL o C1).isSome = true then bnd (me F C1) fun v C2 => match cL o C2 with
    | some (i, ds) => if szN (ds.length + 1) = true then match wr F.fl i (.lst (ds ++ [v])) C2 with
      | some C3 => .ok .non C3
      | none => .stuck
      else .stuck
    | none => .stuck
  else .stuck
def mInsert (mo mi me : ME) : ME := fun F C => bnd (mo F C) fun o C1 => if (vL o C1).isSome = true then bnd (mi F C1) fun x C2 => bnd (me F C2) fun v C3 => match x, cL o C3 with
    | .int n, some (i, ds) => if szN (ds.length + 1) = true ∧ 0 ≤ n ∧ n < 2 ^ 63 then match wr F.fl i (.lst (ds.take n.toNat ++ [v] ++ ds.drop n.toNat)) C3 with
      | some C4 => .ok .non C4
      | none => .stuck
      else .stuck
    | _, _ => .stuck
  else .stuck
def mExtend (mo me : ME) : ME := fun F C => bnd (mo F C) fun o C1 => if (vL o C1).isSome = true then bnd (me F C1) fun v C2 => match cL o C2, vL v C2 with
    | some (i, ds), some es => if szN (ds.length + es.length) = true then match wr F.fl i (.lst (ds ++ es)) C2 with
      | some C3 => .ok .non C3
      | none => .stuck
      else .stuck
    | _, _ => .stuck
  else .stuck
section
variable {X : Cx} {k : Cn} {W : WX} {σ : L2.St} {H : Hp} {Q : VK}
theorem tyL {A : Nat → Addr} {C : Store} {v : V} {d : D} (st : StOk k A C H) (r : Rep k A C H v d) (h : (vL d C).isSome = true) : tyV k.K "list" v H := by
  obtain ⟨xs, e⟩ := Option.isSome_iff_exists.mp h
  obtain ⟨a, vs, rfl, ha, _⟩ := vL_at st r e
  exact Or.inl ⟨rfl, vs, .inl (.inl ha)⟩
theorem le_append {mo me : ME} (h : LE k W (mAppend mo me) σ H Q) : tBM k.K "list" rAppend (LE k W mo) (tCons (LE k W me) tNil) σ H Q := by
  obtain ⟨A, F, C, s, h⟩ := h
  refine ⟨A, F, C, s, (Aft.bnd (rel := RepD k) h).mono fun dO C1 A1 H1 o p1 st1 ro h1 => ?_⟩
  have s1 := s.step p1 st1
  split at h1
  · rename_i hs
    refine ⟨tyL st1 ro hs, A1, F, C1, s1, (Aft.bnd (rel := RepD k) h1).mono fun dv C2 A2 H2 v p2 st2 rv h2 => ?_⟩
    cases ec : cL dO C2 with
    | none => simp only [ec] at h2; exact h2.elim
    | some q =>
      obtain ⟨i, ds⟩ := q
      simp only [ec] at h2
      obtain ⟨rfl, rfl, hi, vs, hv, rvs⟩ := cL_at st2 (p2.rep _ _ ro) ec
      split at h2
      · rename_i hz
        cases ew : wr F.fl i (.lst (ds ++ [dv])) C2 with
        | none => simp only [ew] at h2; exact h2.elim
        | some C3 =>
          simp only [ew] at h2
          obtain ⟨q1, q2⟩ := write_L st2 hi (rvs.append (.cons rv .nil)) ew
          exact ⟨A2 i, vs, v, rfl, rfl, hv, by have := szN_le hz; rw [rvs.length]; omega, h2 A2 _ .non q1 q2 .non⟩
      · exact h2.elim
  · exact h1.elim
theorem le_insert {mo mi me : ME} (h : LE k W (mInsert mo mi me) σ H Q) : tBM k.K "list" (fun x vs H Q => ∃ (l : Addr) (xs : List V) (i : Int) (y : V), x = .ref l ∧ vs = [.int i, y] ∧ H l = some (.lst xs) ∧ xs.length < sizeLine ∧ 0 ≤ i ∧ i < 2 ^ 63 ∧
    Q .non (upd H l (.lst (xs.take i.toNat ++ [y] ++ xs.drop i.toNat)))) (LE k W mo) (tCons (LE k W mi) (tCons (LE k W me) tNil)) σ H Q := by
  obtain ⟨A, F, C, s, h⟩ := h
  refine ⟨A, F, C, s, (Aft.bnd (rel := RepD k) h).mono fun dO C1 A1 H1 o p1 st1 ro h1 => ?_⟩
  have s1 := s.step p1 st1
  split at h1
  · rename_i hs
    refine ⟨tyL st1 ro hs, A1, F, C1, s1, (Aft.bnd (rel := RepD k) h1).mono fun dx C2 A2 H2 x p2 st2 rx h2 => ?_⟩
    have s2 := s1.step p2 st2
    refine ⟨A2, F, C2, s2, (Aft.bnd (rel := RepD k) h2).mono fun dv C3 A3 H3 v p3 st3 rv h3 => ?_⟩
    cases rx with
    | int n =>
      cases ec : cL dO C3 with
      | none => simp only [ec] at h3; exact h3.elim
      | some q =>
        obtain ⟨i, ds⟩ := q
        simp only [ec] at h3
        obtain ⟨rfl, rfl, hi, vs, hv, rvs⟩ := cL_at st3 (p3.rep _ _ (p2.rep _ _ ro)) ec
        split at h3
        · rename_i hz
          obtain ⟨hz, hn0, hn1⟩ := hz
          cases ew : wr F.fl i (.lst (ds.take n.toNat ++ [dv] ++ ds.drop n.toNat)) C3 with
          | none => simp only [ew] at h3; exact h3.elim
          | some C4 =>
            simp only [ew] at h3
            obtain ⟨q1, q2⟩ := write_L st3 hi (((rvs.take n.toNat).append (.cons rv .nil)).append (rvs.drop n.toNat)) ew
            exact ⟨A3 i, vs, n, v, rfl, rfl, hv, by have := szN_le hz; rw [rvs.length]; omega, hn0, hn1, h3 A3 _ .non q1 q2 .non⟩
        · exact h3.elim
    | _ => exact h3.elim
  · exact h1.elim
theorem le_extend {mo me : ME} (h : LE k W (mExtend mo me) σ H Q) : tBM k.K "list" rExtend (LE k W mo) (tCons (LE k W me) tNil) σ H Q := by
  obtain ⟨A, F, C, s, h⟩ := h
  refine ⟨A, F, C, s, (Aft.bnd (rel := RepD k) h).mono fun dO C1 A1 H1 o p1 st1 ro h1 => ?_⟩
  have s1 := s.step p1 st1
  split at h1
  · rename_i hs
    refine ⟨tyL st1 ro hs, A1, F, C1, s1, (Aft.bnd (rel := RepD k) h1).mono fun dv C2 A2 H2 v p2 st2 rv h2 => ?_⟩
    cases ec : cL dO C2 with
    | none => simp only [ec] at h2; exact h2.elim
    | some q =>
      obtain ⟨i, ds⟩ := q
      cases el : vL dv C2 with
      | none => simp only [ec, el] at h2; exact h2.elim
      | some es =>
        simp only [ec, el] at h2
        obtain ⟨rfl, rfl, hi, vs, hv, rvs⟩ := cL_at st2 (p2.rep _ _ ro) ec
        obtain ⟨b, ws, rfl, hb, rws⟩ := vL_at st2 rv el
        split at h2
        · rename_i hz
          cases ew : wr F.fl i (.lst (ds ++ es)) C2 with
          | none => simp only [ew] at h2; exact h2.elim
          | some C3 =>
            simp only [ew] at h2
            obtain ⟨q1, q2⟩ := write_L st2 hi (rvs.append rws) ew
            exact ⟨A2 i, b, vs, ws, rfl, rfl, hv, hb, by have := szN_le hz; rw [rvs.length, rws.length]; omega, h2 A2 _ .non q1 q2 .non⟩
        · exact h2.elim
  · exact h1.elim
variable {o e e2 : Expr} {apos cpos : Pos} {mo me mi : ME}
theorem de_append (hK : X.K = k.K := by rfl) (ho : PE X o (LE k W mo)) (he : PE X e (LE k W me)) (hs : starEach [e] X.env = (false, eval e X.env) :: starEach [] X.env := by rfl) (hbase : attributeBase o "append" X.env (eval o X.env) = eval o X.env := by rfl)
    (hfew : ((backTo cpos (starEach [e] X.env)).all (fun x => !x.1) && (backToKw cpos (keywordEach [] X.env)).all (fun x => x.1.isSome) && decide ([e].length + ([] : List Keyword).length + (if ([] : List Keyword).isEmpty then 0 else 1) < 30)) = true := by rfl)
    (hline : (apos.endLine == cpos.line) = true := by rfl) (hplain : (backTo cpos (starEach [] X.env)).any (·.1) = false := by rfl) : PE X (.Call (.Attribute o "append" apos) [e] [] cpos) (LE k W (mAppend mo me)) :=
  (pe_bm PySem.F.plainAttrs_list PySem.F.slot_list_append PySem.F.type_list_append mt_append ho (pa_cons he pa_nil hs) hbase hfew hline hs hplain).cq fun _ _ _ h => by
    rw [hK]
    exact le_append h
theorem de_extend (hK : X.K = k.K := by rfl) (ho : PE X o (LE k W mo)) (he : PE X e (LE k W me)) (hs : starEach [e] X.env = (false, eval e X.env) :: starEach [] X.env := by rfl) (hbase : attributeBase o "extend" X.env (eval o X.env) = eval o X.env := by rfl)
    (hfew : ((backTo cpos (starEach [e] X.env)).all (fun x => !x.1) && (backToKw cpos (keywordEach [] X.env)).all (fun x => x.1.isSome) && decide ([e].length + ([] : List Keyword).length + (if ([] : List Keyword).isEmpty then 0 else 1) < 30)) = true := by rfl)
    (hline : (apos.endLine == cpos.line) = true := by rfl) (hplain : (backTo cpos (starEach [] X.env)).any (·.1) = false := by rfl) : PE X (.Call (.Attribute o "extend" apos) [e] [] cpos) (LE k W (mExtend mo me)) :=
  (pe_bm PySem.F.plainAttrs_list PySem.F.slot_list_extend PySem.F.type_list_extend mt_extend ho (pa_cons he pa_nil hs) hbase hfew hline hs hplain).cq fun _ _ _ h => by
    rw [hK]
    exact le_extend h
theorem de_insert (hK : X.K = k.K := by rfl) (ho : PE X o (LE k W mo)) (hi : PE X e (LE k W mi)) (he : PE X e2 (LE k W me)) (hs : starEach [e, e2] X.env = (false, eval e X.env) :: starEach [e2] X.env := by rfl) (hs2 : starEach [e2] X.env = (false, eval e2 X.env) :: starEach [] X.env := by rfl) (hbase : attributeBase o "insert" X.env (eval o X.env) = eval o X.env := by rfl)
    (hfew : ((backTo cpos (starEach [e, e2] X.env)).all (fun x => !x.1) && (backToKw cpos (keywordEach [] X.env)).all (fun x => x.1.isSome) && decide ([e, e2].length + ([] : List Keyword).length + (if ([] : List Keyword).isEmpty then 0 else 1) < 30)) = true := by rfl)
    (hline : (apos.endLine == cpos.line) = true := by rfl) (hplain : (backTo cpos (starEach [e2] X.env)).any (·.1) = false := by rfl) : PE X (.Call (.Attribute o "insert" apos) [e, e2] [] cpos) (LE k W (mInsert mo mi me)) :=
  (pe_bm PySem.F.plainAttrs_list PySem.F.slot_list_insert PySem.F.type_list_insert mt_insert ho (pa_cons hi (pa_cons he pa_nil hs2) hs) hbase hfew hline hs hplain).cq fun _ _ _ h => by
    rw [hK]
    exact le_insert h
end
end CT
set_option maxHeartbeats 4000000
/-! DL6: targets, loops, comprehensions over data. -/
namespace CT
open PySem L2
/-! ### targets of names -/
def Tgt.T (K : PySem.W.Frag) : Tgt → TG
  | .nm i => gName i
  | .tp is => gTup K is.length (gsN is)
  | .np is l => gTup K 2 (gCons (gTup K is.length (gsN is)) (gCons (gName l) gNil))
theorem wipe_get {σ : L2.St} {j : Nat} : ∀ {vs : List Nat}, (wipe σ vs)[j]? = if j ∈ vs then (if j < σ.length then some none else none) else σ[j]?
  | [] => by simp [wipe]
  | v :: vs => by
    unfold wipe
    have ih := wipe_get (σ := σ) (j := j) (vs := vs)
    by_cases e : v = j
    · subst e
      by_cases hl : v < σ.length
      · rw [List.getElem?_set_self (by rw [wipe_length]; exact hl), if_pos (by simp), if_pos hl]
      · rw [List.getElem?_eq_none (by rw [List.length_set, wipe_length]; omega), if_pos (by simp), if_neg hl]
    · rw [List.getElem?_set_ne e, ih]
      by_cases hj : j ∈ vs
      · rw [if_pos hj, if_pos (List.mem_cons_of_mem _ hj)]
      · rw [if_neg hj, if_neg (by simp; exact ⟨fun z => e z.symm, hj⟩)]
theorem wipe_set {σ : L2.St} {i : Nat} {x : Option V} {vs : List Nat} (h : i ∈ vs) : wipe (σ.set i x) vs = wipe σ vs := by
  apply List.ext_getElem?
  intro j
  rw [wipe_get, wipe_get, List.length_set]
  by_cases hj : j ∈ vs
  · rw [if_pos hj, if_pos hj]
  · rw [if_neg hj, if_neg hj, List.getElem?_set_ne (fun (e : i = j) => hj (by rw [← e]; exact h))]
theorem wipe_wipe {σ : L2.St} {vs : List Nat} : wipe (wipe σ vs) vs = wipe σ vs := by
  apply List.ext_getElem?
  intro j
  rw [wipe_get, wipe_length]
  by_cases hj : j ∈ vs
  · rw [if_pos hj, wipe_get, if_pos hj]
  · rw [if_neg hj]
section
variable {k : Cn} {A : Nat → Addr} {F : Fr} {C : Store} {σ : L2.St} {H : Hp} {fl : Nat} {sl : List (Option D)}
theorem SR.wipe (s : SR k A ⟨fl, sl⟩ C σ H) : ∀ vs : List Nat, SR k A ⟨fl, wipeD sl vs⟩ C (L2.wipe σ vs) H
  | [] => s
  | v :: vs => (SR.wipe s vs).unset
theorem gsN_of2 {Q : L2.St → Hp → Prop} {vs0 : List Nat} : ∀ {is : List Nat} {vs : List V} {ds : List D} {sl sl' : List (Option D)} {σ : L2.St}, SR k A ⟨fl, sl⟩ C σ H → RepL k A C H vs ds → setAll is ds sl = some sl' →
    (∀ σ', SR k A ⟨fl, sl'⟩ C σ' H → ((∀ i ∈ is, i ∈ vs0) → L2.wipe σ' vs0 = L2.wipe σ vs0) → Q σ' H) → gsN is vs σ H Q
  | [], _, _, _, _, _, s, .nil, e, q => by
    cases e
    exact ⟨rfl, q _ s fun _ => rfl⟩
  | i :: is, _, _, _, _, _, s, .cons r t, e, q => by
    refine ⟨_, _, rfl, gsN_of2 (vs0 := vs0) (is := is) (s.set (i := i) r) t e fun σ' s' w => q σ' s' fun hi => ?_⟩
    rw [w fun j hj => hi j (List.mem_cons_of_mem _ hj)]
    exact wipe_set (hi i (List.mem_cons_self ..))
  | [], _, _, _, _, _, s, .cons r t, e, q => by cases e
  | i :: is, _, _, _, _, _, s, .nil, e, q => by cases e
theorem Tgt.of {t : Tgt} {v : V} {d : D} {sl' : List (Option D)} {Q : L2.St → Hp → Prop} {vs0 : List Nat} (s : SR k A ⟨fl, sl⟩ C σ H) (r : Rep k A C H v d) (e : t.M d sl = some sl')
    (q : ∀ σ', SR k A ⟨fl, sl'⟩ C σ' H → ((∀ i ∈ t.slots, i ∈ vs0) → L2.wipe σ' vs0 = L2.wipe σ vs0) → Q σ' H) : t.T k.K v σ H Q := by
  cases t with
  | nm i =>
    cases e
    exact q _ (s.set r) fun hi => wipe_set (hi i (by simp [Tgt.slots]))
  | tp is =>
    simp only [Tgt.M, gT] at e
    cases ev : vT d with
    | none => rw [ev] at e; cases e
    | some ds =>
      rw [ev] at e
      obtain ⟨a, vs, rfl, hs, rl⟩ := vT_at r ev
      exact ⟨a, vs, rfl, hs, by rw [rl.length, setAll_len e], gsN_of2 (vs0 := vs0) s rl e q⟩
  | np is l =>
    simp only [Tgt.M, gNP] at e
    split at e
    · rename_i x y ev
      obtain ⟨a, vs, rfl, hs, rl⟩ := vT_at r ev
      simp only [gT, gN, Option.bind_eq_some_iff] at e
      obtain ⟨sl1, ⟨ds, ev2, e1⟩, e2⟩ := e
      cases e2
      cases rl with
      | cons r1 t1 =>
        cases t1 with
        | cons r2 t2 =>
          cases t2 with
          | nil =>
            obtain ⟨a2, vs2, rfl, hs2, rl2⟩ := vT_at r1 ev2
            refine ⟨a, _, rfl, hs, rfl, _, _, rfl, ⟨a2, vs2, rfl, hs2, by rw [rl2.length, setAll_len e1], gsN_of2 (vs0 := vs0) s rl2 e1 fun σ' s' w => ?_⟩⟩
            refine ⟨_, _, rfl, rfl, q _ (s'.set r2) fun hi => ?_⟩
            rw [← w fun i h => hi i (List.mem_cons_of_mem _ h)]
            exact wipe_set (hi l (List.mem_cons_self ..))
    · cases e
end
section
variable {X : Cx} {k : Cn} {W : WX} {E : Ends} {σ : L2.St} {H : Hp}
theorem tg_nm {i : Nat} {x : Str} {pos : Pos} (hN : X.N.Nodup) (hi : X.N[i]? = some x) (hx : Loc X.env.scope x) (hf : X.fn x = true ∨ X.env.scope.names.lookup x = some .local := by first | exact .inl rfl | exact .inr rfl | assumption) : PG X (.Name x pos) (Tgt.T k.K (.nm i)) := pg_name hN hi hx hf
theorem tg_tp {es : List Expr} {kk : Nat} {pos : Pos} (is : List Nat) (hK : X.K = k.K) (hc : X.calm = true) (h : PGs X es (gsN is)) (hn : (assignEach es X.env).length = is.length := by rfl) (hst : (assignEach es X.env).findIdx? (·.1) = none := by rfl) :
    PG X (.Tuple es kk pos) (Tgt.T k.K (.tp is)) := by
  have h' := pg_tup (k := kk) (pos := pos) hc h hn hst
  rw [hK] at h'
  exact h'
theorem tg_np {t2 : Expr} {es : List Expr} {kk k2 : Nat} {pos pos2 : Pos} {l : Nat} (is : List Nat) (hK : X.K = k.K) (hc : X.calm = true) (h : PGs X es (gsN is)) (h2 : PG X t2 (gName l)) (hn : (assignEach es X.env).length = is.length := by rfl) (hst : (assignEach es X.env).findIdx? (·.1) = none := by rfl)
    (hn2 : (assignEach [.Tuple es kk pos, t2] X.env).length = 2 := by rfl) (hst2 : (assignEach [.Tuple es kk pos, t2] X.env).findIdx? (·.1) = none := by rfl) (hs1 : (assignEach [t2] X.env).map (·.2) = [assign t2 X.env] := by rfl) (hs2 : (assignEach [.Tuple es kk pos, t2] X.env).map (·.2) = [assign (.Tuple es kk pos) X.env, assign t2 X.env] := by rfl) :
    PG X (.Tuple [.Tuple es kk pos, t2] k2 pos2) (Tgt.T k.K (.np is l)) := by
  have h' := pg_tup (k := kk) (pos := pos) hc h hn hst
  have h3 := pg_tup (k := k2) (pos := pos2) hc (pgs_cons h' (pgs_cons h2 pgs_nil hs1) (by rw [hs2, hs1])) hn2 hst2
  rw [hK] at h3
  exact h3
theorem ls_asg2 {m : ME} {t : Tgt} (h : LS k W (sAsg m t.M) E σ H) : tAsg (LE k W m) (t.T k.K) E σ H := by
  obtain ⟨A, F, C, s, h⟩ := h
  refine ⟨A, F, C, s, (AftS.bnd (rel := RepD k) s h).mono fun d C1 A1 H1 v p st r h1 => ?_⟩
  cases e : t.M d F.sl with
  | none => rw [e] at h1; exact h1.elim
  | some sl =>
    rw [e] at h1
    exact Tgt.of (vs0 := []) (s.step p st) r e fun σ' s' _ => h1 A1 σ' H1 Stp.refl s'
theorem ds_asgT {tg e : Expr} {pos : Pos} {m : ME} {t : Tgt} (he : PE X e (LE k W m)) (hg : PG X tg (t.T k.K)) (hs : swapsWithSole [tg] e pos.line X.env = pure false := by rfl) (hw : swappedStores [tg] e X.env = pure none := by rfl)
    (h1 : (assignEach [tg] X.env).map (·.2) = [assign tg X.env] := by rfl) : PS X (.Assign [tg] e pos) (LS k W (sAsg m t.M)) := (ps_asg he hg hs hw h1).cq fun _ _ _ h => ls_asg2 h
end
/-! ### what is walked -/
def ItOk (k : Cn) (fl : Nat) (J : It) (it : ItD) (A : Nat → Addr) (C : Store) (H : Hp) : Prop := ∀ A' C' H', Stp k fl A C H A' C' H' → StOk k A' C' H' →
  (∀ j d, j < it.n → it.item j C' = some d → J.go j H' ∧ ∀ x H'', J.yld j H' x H'' → ∃ A'', Stp k fl A' C' H' A'' C' H'' ∧ StOk k A'' C' H'' ∧ Rep k A'' C' H'' x d) ∧ (it.fin C' = true → J.stop it.n H')
def LI (k : Cn) (W : WX) (m : MI) : TI := fun σ H Rr => ∃ A F C, SR k A F C σ H ∧ Aft k F.fl A C H (fun A C H (J : It) (it : ItD) => ItOk k F.fl J it A C H) (m F C) (fun _ _ _ H' J => Rr J H') (fun c d H' => W c d σ H')
/-! ### for -/
section
variable {X : Cx} {k : Cn} {W : WX} {E : Ends} {σ : L2.St} {H : Hp}
theorem ls_for {mi : MI} {t : Tgt} {body : MS} (h : LS k W (sFor mi t.M body) E σ H) : tFor (LI k W mi) (t.T k.K) (LS k W body) E σ H := by
  obtain ⟨A, F, C, s, h⟩ := h
  refine ⟨A, F, C, s, (AftS.bnd (rel := fun A C H (J : It) (it : ItD) => ItOk k F.fl J it A C H) s h).mono fun it C1 A1 H1 J p1 st1 ok h1 => ?_⟩
  refine ⟨fun i m σ' H' => ∃ A' C' sl, m = it.n - i ∧ i ≤ it.n ∧ Stp k F.fl A1 C1 H1 A' C' H' ∧ SR k A' ⟨F.fl, sl⟩ C' σ' H' ∧ AftS k W F.fl A' C' H' (loopN it t.M body F.fl (it.n - i) i sl C') E,
    ⟨it.n, A1, C1, F.sl, rfl, Nat.zero_le _, Stp.refl, s.step p1 st1, h1⟩, ?_⟩
  rintro i m σ' H' ⟨A', C', sl, rfl, hi, p, s', h'⟩
  obtain ⟨o1, o2⟩ := ok A' C' H' p s'.st
  cases er : it.n - i with
  | zero =>
    rw [er] at h'
    unfold loopN at h'
    have e : i = it.n := by omega
    split at h'
    · rename_i hf
      subst e
      exact .inl ⟨o2 hf, h' A' σ' H' Stp.refl s'⟩
    · exact h'.elim
  | succ r =>
    rw [er] at h'
    unfold loopN at h'
    have hlt : i < it.n := by omega
    cases ei : it.item i C' with
    | none => simp only [ei] at h'; exact h'.elim
    | some d =>
      simp only [ei] at h'
      obtain ⟨g1, g2⟩ := o1 i d hlt ei
      cases eg : t.M d sl with
      | none => simp only [eg] at h'; exact h'.elim
      | some sl1 =>
        simp only [eg] at h'
        refine .inr ⟨g1, fun σ2 H2 => ∃ A2 C2 sl2, i + 1 ≤ it.n ∧ Stp k F.fl A1 C1 H1 A2 C2 H2 ∧ SR k A2 ⟨F.fl, sl2⟩ C2 σ2 H2 ∧ AftS k W F.fl A2 C2 H2 (loopN it t.M body F.fl (it.n - (i + 1)) (i + 1) sl2 C2) E,
          fun σ2 H2 ⟨A2, C2, sl2, a, b, c, d⟩ => ⟨it.n - (i + 1), by omega, A2, C2, sl2, rfl, a, b, c, d⟩, fun x H'' y => ?_⟩
        obtain ⟨A'', p2, st2, rx⟩ := g2 x H'' y
        have s2 := s'.step p2 st2
        refine Tgt.of (vs0 := []) s2 rx eg fun σ2 s3 _ => ⟨A'', ⟨F.fl, sl1⟩, C', s3, ?_⟩
        have hr : it.n - (i + 1) = r := by omega
        cases eb : body ⟨F.fl, sl1⟩ C' with
        | nx sl2 C2 =>
          simp only [eb] at h'
          intro A3 σ3 H3 p3 s4
          have pp := p2.trans p3
          exact ⟨A3, C2, sl2, by omega, p.trans pp, s4, by rw [hr]; exact h'.shift pp⟩
        | ct sl2 C2 =>
          simp only [eb] at h'
          intro A3 σ3 H3 p3 s4
          have pp := p2.trans p3
          exact ⟨A3, C2, sl2, by omega, p.trans pp, s4, by rw [hr]; exact h'.shift pp⟩
        | bk sl2 C2 =>
          simp only [eb] at h'
          exact fun A3 σ3 H3 p3 s4 => h' A3 σ3 H3 (p2.trans p3) s4
        | rt d C2 =>
          simp only [eb] at h'
          exact fun A3 H3 v p3 st r => h' A3 H3 v (p2.trans p3) st r
        | xc e sl2 C2 =>
          simp only [eb] at h'
          exact fun A3 σ3 H3 dd vs p3 s4 x l r => h' A3 σ3 H3 dd vs (p2.trans p3) s4 x l r
        | stuck =>
          simp only [eb] at h'
          exact h'.elim
theorem _root_.L2.PI.cq {X : Cx} {tg e : Expr} {t t' : TI} (h : PI X tg e t) (c : ∀ σ H R, t' σ H R → t σ H R) : PI X tg e t' := ⟨fun pins s σ H R I q => h.run pins s σ H R I (c σ H R q)⟩
end
/-! ### list comprehensions -/
abbrev WF : WX := fun _ _ _ _ => False
section
variable {X : Cx} {k : Cn} {W : WX} {σ : L2.St} {H : Hp} {Q : VK}
/-- the list cell becomes plain data -/
theorem fz_end {fl n : Nat} {A A' : Nat → Addr} {C C' : Store} {H H' : Hp} {p : Addr} {acc : List D} (hn : n = C.length) (st0 : StOk k A C H) (st : StOk k A' C' H') (s : Stp k fl A C H A' C' H') (hf : fl ≤ n) (hl : n ≤ C'.length) (low : LowC n C') (ha : A' n = p) (hc : C'[n]? = some (some (.lst acc))) (hcb : cbL n acc = true) :
    Stp k fl A C H A' (C'.take n) H' ∧ StOk k A' (C'.take n) H' ∧ Rep k A' (C'.take n) H' (.ref p) (.lst acc) := by
  obtain ⟨vs, hv, rv⟩ := st.at_ n _ hc
  have tl : (C'.take n).length = n := by rw [List.length_take]; omega
  refine ⟨⟨fun v d r => (s.rep v d r).cut hl (by rw [hn]; exact r.cb), by rw [tl, hn]; exact Nat.le_refl _, fun f h1 h2 l => low_take (s.low f h1 h2 l)⟩, st.take hl low, ?_⟩
  rw [← ha]
  refine .lst (fun l => ?_) hv (rv.cut hl hcb)
  obtain ⟨i, c, e, z⟩ := l
  by_cases hi : i < n
  · rw [List.getElem?_take_of_lt hi] at e
    exact absurd (st.inj i n _ _ e hc z) (Nat.ne_of_lt hi)
  · rw [List.getElem?_eq_none (by rw [tl]; omega)] at e
    cases e
/-- the new list: at D, the cell n -/
theorem cell_at {A A' : Nat → Addr} {C C' : Store} {H H' : Hp} {fl n : Nat} {p : Addr} (s : Stp k fl A C H A' C' H') (h : A n = p) (hn : n < C.length) : A' n = p ∧ n < C'.length := by
  have r : Rep k A C H (.ref (A n)) (.cell n) := .cell hn
  have r' := s.rep _ _ r
  rw [h] at r'
  have inv : ∀ {v : V} {d : D}, Rep k A' C' H' v d → v = .ref p → d = .cell n → A' n = p ∧ n < C'.length := by
    intro v d r hv hd
    cases r with
    | cell hi => cases hd; cases hv; exact ⟨rfl, hi⟩
    | _ => cases hd
  exact inv r' rfl rfl
theorem push_L {A : Nat → Addr} {C : Store} {H : Hp} {fl n : Nat} {p : Addr} {acc : List D} {y : D} {v : V} {ws : List V} (hf : fl ≤ n) (st : StOk k A C H) (ha : A n = p) (hc : C[n]? = some (some (.lst acc))) (hw : H p = some (.lst ws)) (r : Rep k A C H v y) :
    Stp k fl A C H A (C.set n (some (.lst (acc ++ [y])))) (upd H p (.lst (ws ++ [v]))) ∧ StOk k A (C.set n (some (.lst (acc ++ [y])))) (upd H p (.lst (ws ++ [v]))) := by
  obtain ⟨vs, hv, rv⟩ := st.at_ n _ hc
  rw [ha, hw] at hv
  cases hv
  have q : Kp A C H A (C.set n (some (.lst (acc ++ [y])))) (upd H (A n) (.lst (ws ++ [v]))) := kp_write hc
  rw [← ha]
  exact ⟨q.stp fun f h1 h2 l => low_set (fl := fl) (fun hi => absurd hi (Nat.not_lt.mpr hf)) h1 l, st.write hc ⟨_, upd_same, (rv.append (.cons r .nil)).kp q⟩⟩
theorem bn0_inv {fl : Nat} {A : Nat → Addr} {C : Store} {H : Hp} {m : R Unit} {f : Unit → Store → R D} {Q : D → Store → (Nat → Addr) → Hp → V → Prop} {W' : XK} (h : Aft k fl A C H (RepD k) (CT.bn0 m f) Q W') : ∃ C3, m = .ok () C3 ∧ Aft k fl A C H (RepD k) (f () C3) Q W' := by
  cases m with
  | ok d C' => exact ⟨C', rfl, h⟩
  | exc e C' => exact h.elim
  | stuck => exact h.elim
theorem Stp.less {fl n : Nat} {A A' : Nat → Addr} {C C' : Store} {H H' : Hp} (p : Stp k n A C H A' C' H') (h : fl ≤ n) : Stp k fl A C H A' C' H' := ⟨p.rep, p.len, fun f hf => p.low f (Nat.le_trans hf h)⟩
theorem SR.re {fl n : Nat} {A A' : Nat → Addr} {F : Fr} {C C' : Store} {H H' : Hp} (s : SR k A F C σ H) (p : Stp k fl A C H A' C' H') (st : StOk k A' C' H') (low : LowC n C') (hn : n ≤ C'.length) : SR k A' ⟨n, F.sl⟩ C' σ H' :=
  ⟨st, low, hn, s.len, fun i d e => let ⟨v, h1, h2⟩ := s.sl i d e; ⟨v, h1, p.rep v d h2⟩⟩
theorem le_lcEnd {own : Bool} {fl : Nat} {A A1 A' : Nat → Addr} {C C1 C' : Store} {H H1 H' : Hp} {Dl : Addr} {W' : XK} (hf : fl ≤ C1.length) (p : Stp k fl A C H A1 C1 H1) (st1 : StOk k A1 C1 H1) (p' : Stp k fl A1 C1 H1 A' C' H') (low : LowC C1.length C') (st' : StOk k A' C' H') (ha : A' C1.length = Dl) (hl : C1.length < C'.length)
    (h : Aft k fl A C H (RepD k) (lcEnd own C1.length C') (fun _ _ _ H' v => Q v H') W') : Q (.ref Dl) H' := by
  unfold lcEnd at h
  cases own with
  | true =>
    have r : Rep k A' C' H' (.ref (A' C1.length)) (.cell C1.length) := .cell hl
    rw [ha] at r
    exact h A' H' _ (p.trans p') st' r
  | false =>
    split at h
    · rename_i z; cases z
    · split at h
      · rename_i acc hc
        split at h
        · rename_i hcb
          obtain ⟨q1, q2, q3⟩ := fz_end (k := k) (fl := fl) rfl st1 st' p' hf (Nat.le_of_lt hl) low ha hc hcb
          exact h A' H' _ (p.trans q1) q2 q3
        · exact h.elim
      · exact h.elim
theorem le_lc {own : Bool} {mi : MI} {t : Tgt} {tt : MT} {te : ME} {vs : List Nat} (hv : ∀ i ∈ t.slots, i ∈ vs) (h : LE k W (mLc own mi t.M tt te vs) σ H Q) : tLc (LI k W mi) (t.T k.K) (LT k WF tt) (LE k WF te) vs σ H Q := by
  obtain ⟨A, F, C, s, h⟩ := h
  refine ⟨A, F, C, s, (Aft.bnd (rel := fun A C H (J : It) (it : ItD) => ItOk k F.fl J it A C H) h).mono fun it C1 A1 H1 J p1 st1 ok h1 => ?_⟩
  have s1 := s.step p1 st1
  intro Dl hD
  have q0 : Kp A1 C1 H1 (ext A1 C1.length Dl) (C1 ++ [some (.lst [])]) (upd H1 Dl (.lst [])) := kp_cell (k := k) st1 hD
  have p2 : Stp k C1.length A1 C1 H1 (ext A1 C1.length Dl) (C1 ++ [some (.lst [])]) (upd H1 Dl (.lst [])) := q0.stp fun f h1 h2 l => low_app h2 l
  have p2' : Stp k F.fl A1 C1 H1 (ext A1 C1.length Dl) (C1 ++ [some (.lst [])]) (upd H1 Dl (.lst [])) := ⟨p2.rep, p2.len, fun f hf => p2.low f (Nat.le_trans hf s1.fl)⟩
  have st2 : StOk k (ext A1 C1.length Dl) (C1 ++ [some (.lst [])]) (upd H1 Dl (.lst [])) := st1.cell hD ⟨[], upd_same, .nil⟩
  have n1 : C1.length < (C1 ++ [some (Cell.lst [])]).length := by simp
  have low1 : LowC C1.length (C1 ++ [some (Cell.lst [])]) := p2.low _ (Nat.le_refl _) (Nat.le_refl _) st1.low
  obtain ⟨C3, e3, h3⟩ := bn0_inv h1
  refine ⟨fun i m H' => ∃ A' C', m = it.n - i ∧ i ≤ it.n ∧ Stp k C1.length (ext A1 C1.length Dl) (C1 ++ [some (.lst [])]) (upd H1 Dl (.lst [])) A' C' H' ∧ StOk k A' C' H' ∧ lcN it t.M tt te C1.length (wipeD F.sl vs) (it.n - i) i C' = .ok () C3,
    ⟨it.n, _, _, rfl, Nat.zero_le _, Stp.refl, st2, e3⟩, ?_⟩
  rintro i m H' ⟨A', C', rfl, hi, p, st', h'⟩
  obtain ⟨ha', hl'⟩ := cell_at p (ext_at A1 C1.length Dl) n1
  have low' : LowC C1.length C' := p.low _ (Nat.le_refl _) (Nat.le_of_lt n1) low1
  have pF : Stp k F.fl (ext A1 C1.length Dl) (C1 ++ [some (.lst [])]) (upd H1 Dl (.lst [])) A' C' H' := p.less s1.fl
  obtain ⟨o1, o2⟩ := ok A' C' H' (p2'.trans pF) st'
  cases er : it.n - i with
  | zero =>
    rw [er] at h'
    unfold lcN at h'
    have e : i = it.n := by omega
    split at h'
    · rename_i hf
      cases h'
      subst e
      exact .inl ⟨o2 hf, le_lcEnd s1.fl Stp.refl st1 (p2'.trans pF) low' st' ha' hl' h3⟩
    · cases h'
  | succ r =>
    rw [er] at h'
    unfold lcN at h'
    have hlt : i < it.n := by omega
    have hr : it.n - (i + 1) = r := by omega
    cases ei : it.item i C' with
    | none => simp only [ei] at h'; cases h'
    | some d =>
      simp only [ei] at h'
      obtain ⟨g1, g2⟩ := o1 i d hlt ei
      cases eg : t.M d (wipeD F.sl vs) with
      | none => simp only [eg] at h'; cases h'
      | some sl1 =>
        simp only [eg] at h'
        refine .inr ⟨g1, fun H4 => ∃ A4 C4, Stp k C1.length (ext A1 C1.length Dl) (C1 ++ [some (.lst [])]) (upd H1 Dl (.lst [])) A4 C4 H4 ∧ StOk k A4 C4 H4 ∧ lcN it t.M tt te C1.length (wipeD F.sl vs) (it.n - (i + 1)) (i + 1) C4 = .ok () C3,
          fun H4 ⟨A4, C4, a, b, c⟩ => ⟨it.n - (i + 1), by omega, A4, C4, rfl, by omega, a, b, c⟩, fun x H'' y => ?_⟩
        obtain ⟨A'', py, sty, rx⟩ := g2 x H'' y
        have py' : Stp k C1.length A' C' H' A'' C' H'' := ⟨py.rep, py.len, fun f _ _ h => h⟩
        have sr : SR k A'' ⟨C1.length, wipeD F.sl vs⟩ C' (L2.wipe σ vs) H'' := ((s1.re (p2.trans (p.trans py')) sty low' (Nat.le_of_lt hl')).wipe vs)
        refine Tgt.of (vs0 := vs) sr rx eg fun σ2 s2 w2 => ⟨by rw [w2 hv, wipe_wipe], A'', ⟨C1.length, sl1⟩, C', s2, ?_⟩
        cases et : tt ⟨C1.length, sl1⟩ C' with
        | ok b C5 =>
          rw [et] at h'
          simp only [bn0_ok] at h'
          intro A5 H5 v5 p5 st5 e5
          have e5 : v5 = b := e5
          subst e5
          have s5 := s2.step p5 st5
          cases v5 with
          | true =>
            rw [if_pos rfl] at h'
            refine iteT ⟨A5, ⟨C1.length, sl1⟩, C5, s5, ?_⟩
            cases ee : te ⟨C1.length, sl1⟩ C5 with
            | ok yd C6 =>
              rw [ee] at h'
              simp only [bn0_ok] at h'
              intro A6 H6 v6 p6 st6 r6
              have pall := (p.trans py').trans (p5.trans p6)
              obtain ⟨ha6, hl6⟩ := cell_at pall (ext_at A1 C1.length Dl) n1
              split at h'
              · rename_i acc hc
                split at h'
                · rename_i hz
                  obtain ⟨ws, hw, rw6⟩ := st6.at_ _ _ hc
                  rw [ha6] at hw
                  obtain ⟨q1, q2⟩ := push_L (k := k) (fl := C1.length) (Nat.le_refl _) st6 ha6 hc hw r6
                  refine ⟨ws, hw, by have := szN_le hz; rw [rw6.length]; omega, A6, _, pall.trans q1, q2, ?_⟩
                  rw [hr]
                  exact h'
                · cases h'
              · cases h'
            | exc e C6 => rw [ee] at h'; cases h'
            | stuck => rw [ee] at h'; cases h'
          | false =>
            rw [if_neg (by decide)] at h'
            refine iteF ⟨A5, C5, (p.trans py').trans p5, st5, ?_⟩
            rw [hr]
            exact h'
        | exc e C5 => rw [et] at h'; cases h'
        | stuck => rw [et] at h'; cases h'
theorem de_lc {elt tg iter : Expr} {ifs : List Expr} {scope : Scope} {own : List (Str × Nat)} {pos : Pos} {mi : MI} {t : Tgt} {tt : MT} {te : ME} (ow : Bool) (hK : X.K = k.K) (hc : X.calm = true) (hN : X.N.Nodup) (hi : PI X tg iter (LI k W mi)) (ok : BlkOk X.N X.env.scope scope own) (hv : ∀ i ∈ t.slots, i ∈ own.map (·.2))
    (hg : ∀ (s : Shared) (H : Hp) (C : Addr) (cl : List (Str × Addr)) (fp : List Addr), PG (X.blk s H scope (compEnvC scope cl C X.env) fp) tg (t.T k.K)) (ht : ∀ (s : Shared) (H : Hp) (C : Addr) (cl : List (Str × Addr)) (fp : List Addr), PTs (X.blk s H scope (compEnvC scope cl C X.env) fp) ifs (LT k WF tt))
    (he : ∀ (s : Shared) (H : Hp) (C : Addr) (cl : List (Str × Addr)) (fp : List Addr), PE (X.blk s H scope (compEnvC scope cl C X.env) fp) elt (LE k WF te)) (hs : ∀ x, foldedSetIterable iter X.env x = pure x := by intro _; rfl) :
    PE X (.ListComp elt [⟨tg, iter, ifs, 0⟩] scope pos) (LE k W (mLc ow mi t.M tt te (own.map (·.2)))) := (pe_lc hc hN hi ok hg ht he hs).cq fun _ _ _ h => le_lc hv h
end
end CT
set_option maxHeartbeats 4000000
/-! DL7: what is walked; defs. -/
namespace CT
open PySem L2
section
variable {X : Cx} {k : Cn} {W : WX} {E : Ends} {σ : L2.St} {H : Hp}
theorem ds_for {tg iter : Expr} {body : List Stmt} {pos : Pos} {mi : MI} {t : Tgt} {mb : MS} (hp : PassesOwn (model X.prog X.w) X.A X.env X.xe) (hc : X.calm = true) (hi : PI X tg iter (LI k W mi)) (hg : PG X tg (t.T k.K)) (hb : PSs X body (LS k W mb))
    (hs : ∀ x, foldedSetIterable iter X.env x = pure x := by intro _; rfl) : PS X (.For tg iter body [] pos) (LS k W (sFor mi t.M mb)) := (ps_for hp hc hi hg hb hs).cq fun _ _ _ h => ls_for h
/-! ### lists and tuples -/
def iSeq (K : PySem.W.Frag) (tl : TE) : TI := fun σ H R => tl σ H fun x H1 => ∃ a, x = .ref a ∧ (((∃ xs, SqL K H1 a xs) ∧ R (Itl K a) H1) ∨ ((∃ xs, SqT K H1 a xs) ∧ R (Itt K a) H1))
theorem pi_seq {tg l : Expr} {tl : TE} (hl : PE X l tl) : PI X tg l (iSeq X.K tl) := by
  refine ⟨fun pins s σ H R I h => ?_⟩
  refine thn (hl.run pins s σ H _ I h) fun v s1 ⟨x, H1, I1, r1, q1⟩ => ?_
  obtain ⟨a, e, ⟨⟨xs, hq⟩, q⟩ | ⟨⟨xs, hq⟩, q⟩⟩ := q1
  · subst e
    cases r1
    obtain ⟨its, rv, p, hz⟩ := I1.list hq
    refine wpAny_pyIter_list p.isList ?_
    refine ⟨s1.heap.objs.size, [s1.heap.objs.size], _, _, H1, rfl, I1.kept (t' := s1.toks) fun b o e => Heap.get?_push_of_some _ e, turn_list a _, ⟨_, Heap.get?_push_size _ rfl, rfl, rfl⟩, fun b hb => ?_, q⟩
    have e : b = s1.heap.objs.size := by simpa using hb
    subst e
    exact I1.fpOk (Nat.le_refl _) (I1.hok.fresh (Nat.le_refl _))
  · subst e
    cases r1
    obtain ⟨its, rv, p, hz⟩ := I1.tuple hq
    refine wpAny_pyIter_tuple (show s1.heap.IsTuple a its.toArray from p) ?_
    refine ⟨s1.heap.objs.size, [s1.heap.objs.size], _, _, H1, rfl, I1.kept (t' := s1.toks) fun b o e => Heap.get?_push_of_some _ e, turn_tuple a _, ⟨_, Heap.get?_push_size _ rfl, rfl, rfl⟩, fun b hb => ?_, q⟩
    have e : b = s1.heap.objs.size := by simpa using hb
    subst e
    exact I1.fpOk (Nat.le_refl _) (I1.hok.fresh (Nat.le_refl _))
theorem itC_L {fl : Nat} {A : Nat → Addr} {C : Store} {a : Addr} {xs : List D} (r : Rep k A C H (.ref a) (.lst xs)) : ItOk k fl (Itl k.K a) (itC xs) A C H := fun A' C' H' p st' => by
  cases p.rep _ _ r with
  | lst l h rv =>
    have hl : SqL k.K H' a _ := .inl (.inl h)
    refine ⟨fun j y hj ey => ?_, fun _ => ⟨_, hl, by rw [rv.length]; exact Nat.le_refl _⟩⟩
    obtain ⟨v, hv, rv1⟩ := rv.get ey
    exact ⟨⟨_, v, hl, hv⟩, fun x H'' ⟨e1, e2⟩ => by
      subst e1
      cases (e2 _ hl).symm.trans hv
      exact ⟨A', Stp.refl, st', rv1⟩⟩
theorem itC_T {fl : Nat} {A : Nat → Addr} {C : Store} {v : V} {d : D} {xs : List D} (r : Rep k A C H v d) (e : vT d = some xs) : ∃ a, v = .ref a ∧ (∃ vs, SqT k.K H a vs) ∧ ItOk k fl (Itt k.K a) (itC xs) A C H := by
  obtain ⟨a, vs, rfl, hs, _⟩ := vT_at r e
  refine ⟨a, rfl, ⟨vs, hs⟩, fun A' C' H' p st' => ?_⟩
  obtain ⟨a', vs', ea, hl, rv⟩ := vT_at (p.rep _ _ r) e
  cases ea
  refine ⟨fun j y hj ey => ?_, fun _ => ⟨_, hl, by rw [rv.length]; exact Nat.le_refl _⟩⟩
  obtain ⟨v, hv, rv1⟩ := rv.get ey
  exact ⟨⟨_, v, hl, hv⟩, fun x H'' ⟨e1, e2⟩ => by
    subst e1
    cases (e2 _ hl).symm.trans hv
    exact ⟨A', Stp.refl, st', rv1⟩⟩
theorem itV_L {fl : Nat} {A : Nat → Addr} {C : Store} {a : Addr} {i n : Nat} (r : Rep k A C H (.ref a) (.cell i)) : ItOk k fl (Itl k.K a) (itV i n) A C H := fun A' C' H' p st' => by
  cases p.rep _ _ r with
  | cell hi =>
    refine ⟨fun j y hj ey => ?_, fun hf => ?_⟩
    · simp only [itV] at ey
      split at ey
      · rename_i ys ec
        split at ey
        · obtain ⟨vs, hv, rv⟩ := st'.at_ i _ ec
          have hl : SqL k.K H' (A' i) vs := .inl (.inl hv)
          obtain ⟨v, hw, rv1⟩ := rv.get ey
          exact ⟨⟨_, v, hl, hw⟩, fun x H'' ⟨e1, e2⟩ => by
            subst e1
            cases (e2 _ hl).symm.trans hw
            exact ⟨A', Stp.refl, st', rv1⟩⟩
        · cases ey
      · cases ey
    · simp only [itV] at hf
      split at hf
      · rename_i ys ec
        obtain ⟨vs, hv, rv⟩ := st'.at_ i _ ec
        have := of_decide_eq_true hf
        exact ⟨vs, .inl (.inl hv), by show vs.length ≤ n; rw [rv.length]; omega⟩
      · cases hf
theorem li_seq {m : ME} {R : It → Hp → Prop} (h : LI k W (mSeq m) σ H R) : iSeq k.K (LE k W m) σ H R := by
  obtain ⟨A, F, C, s, h⟩ := h
  refine ⟨A, F, C, s, (Aft.bnd (rel := RepD k) h).mono fun d C1 A1 H1 v p st r h1 => ?_⟩
  have tup : ∀ xs, vT d = some xs → itS d C1 = some (itC xs) → ∃ a, v = .ref a ∧ (((∃ xs, SqL k.K H1 a xs) ∧ R (Itl k.K a) H1) ∨ ((∃ xs, SqT k.K H1 a xs) ∧ R (Itt k.K a) H1)) := fun xs e ei => by
    rw [ei] at h1
    obtain ⟨a, rfl, hs, ok⟩ := itC_T (fl := F.fl) r e
    exact ⟨a, rfl, .inr ⟨hs, h1 A1 H1 _ Stp.refl st ok⟩⟩
  cases d with
  | tup xs => exact tup xs rfl rfl
  | kt xs => exact tup xs rfl rfl
  | lst xs =>
    cases r with
    | lst l hh rv => exact ⟨_, rfl, .inl ⟨⟨_, .inl (.inl hh)⟩, h1 A1 H1 _ Stp.refl st (itC_L (.lst l hh rv))⟩⟩
  | cell i =>
    cases r with
    | cell hi =>
      simp only [itS] at h1
      split at h1
      · rename_i it e
        split at e
        · rename_i ys ec
          cases e
          obtain ⟨vs, hv, rv⟩ := st.at_ i _ ec
          exact ⟨_, rfl, .inl ⟨⟨vs, .inl (.inl hv)⟩, h1 A1 H1 _ Stp.refl st (itV_L (.cell hi))⟩⟩
        · cases e
      · exact h1.elim
  | _ => exact h1.elim
theorem di_seq {tg l : Expr} {m : ME} (hK : X.K = k.K) (hl : PE X l (LE k W m)) : PI X tg l (LI k W (mSeq m)) := (pi_seq hl).cq fun _ _ _ h => by
  rw [hK]
  exact li_seq h
/-! ### ranges -/
theorem itR_ok {fl : Nat} {A : Nat → Addr} {C : Store} {lo : Int} {n : Nat} : ItOk k fl (Itr lo n) (itR lo n) A C H := fun A' C' H' p st' =>
  ⟨fun j y hj ey => ⟨hj, fun x H'' ⟨e1, e2⟩ => by
    subst e1
    subst e2
    cases ey
    exact ⟨A', Stp.refl, st', .int _⟩⟩, fun _ => Nat.le_refl _⟩
theorem li_rng1 {m : ME} {R : It → Hp → Prop} (h : LI k W (mRng1 m) σ H R) : iRng1 (tCons (LE k W m) tNil) σ H R := by
  obtain ⟨A, F, C, s, h⟩ := h
  refine ⟨A, F, C, s, (Aft.bnd (rel := RepD k) h).mono fun d C1 A1 H1 v p st r h1 => ?_⟩
  cases r with
  | int j =>
    simp only at h1
    split at h1
    · rename_i hb
      simp only [inR, Bool.and_eq_true, decide_eq_true_eq] at hb
      exact ⟨j, rfl, hb.1, hb.2, h1 A1 H1 _ Stp.refl st itR_ok⟩
    · exact h1.elim
  | _ => exact h1.elim
theorem li_rng2 {m m2 : ME} {R : It → Hp → Prop} (h : LI k W (mRng2 m m2) σ H R) : iRng2 (tCons (LE k W m) (tCons (LE k W m2) tNil)) σ H R := by
  obtain ⟨A, F, C, s, h⟩ := h
  refine ⟨A, F, C, s, (Aft.bnd (rel := RepD k) h).mono fun d C1 A1 H1 v p st r h1 => ?_⟩
  have s1 := s.step p st
  refine ⟨A1, F, C1, s1, (Aft.bnd (rel := RepD k) h1).mono fun e C2 A2 H2 v2 p2 st2 r2 h2 => ?_⟩
  cases r with
  | int i =>
    cases r2 with
    | int j =>
      simp only at h2
      split at h2
      · rename_i hb
        simp only [inR, Bool.and_eq_true, decide_eq_true_eq] at hb
        exact ⟨i, j, rfl, ⟨hb.1.1, hb.1.2, hb.2.1, hb.2.2⟩, h2 A2 H2 _ Stp.refl st2 itR_ok⟩
      · exact h2.elim
    | _ => exact h2.elim
  | _ =>
    cases r2 <;> exact h2.elim
theorem di_rng1 {tg a : Expr} {p pos : Pos} {m : ME} (hg : Gl X "range") (hm : X.mg "range" = none) (ha : PE X a (LE k W m)) (hs : starEach [a] X.env = [(false, eval a X.env)] := by rfl) : PI X tg (.Call (.Name "range" p) [a] [] pos) (LI k W (mRng1 m)) :=
  (pi_range1 hg hm (pa_cons ha pa_nil hs) hs).cq fun _ _ _ h => li_rng1 h
theorem di_rng2 {tg a b : Expr} {p pos : Pos} {m m2 : ME} (hg : Gl X "range") (hm : X.mg "range" = none) (ha : PE X a (LE k W m)) (hb : PE X b (LE k W m2)) (hs : starEach [a, b] X.env = [(false, eval a X.env), (false, eval b X.env)] := by rfl) (hs2 : starEach [b] X.env = [(false, eval b X.env)] := by rfl) :
    PI X tg (.Call (.Name "range" p) [a, b] [] pos) (LI k W (mRng2 m m2)) :=
  (pi_range2 hg hm (pa_cons ha (pa_cons hb pa_nil hs2) (by rw [hs, hs2])) hs hs2).cq fun _ _ _ h => li_rng2 h
end
/-! ### defs -/
def mDef (np ns : Nat) (body : MS) : MF := fun ds C => if ds.length = np then (match body ⟨C.length, ds.map some ++ List.replicate (ns - np) none⟩ C with
    | .nx _ C' => fin C.length .non C'
    | .rt d C' => fin C.length d C'
    | .xc e _ C' => if cbL C.length e.fs = true then .exc e (C'.take C.length) else .stuck
    | _ => .stuck) else .stuck
/-- the promise of a def that computes m -/
def SpD (k : Cn) (np : Nat) (m : MF) : Sp := fun vs H Q E => vs.length = np ∧ ∃ A C ds, StOk k A C H ∧ RepL k A C H vs ds ∧ Aft k C.length A C H (RepD k) (m ds C) (fun _ _ _ H' v => Q v H') E
section
variable {k : Cn}
theorem cut_stp {n : Nat} {A A' : Nat → Addr} {C C' : Store} {H H' : Hp} (hn : n = C.length) (st0 : StOk k A C H) (st : StOk k A' C' H') (s : Stp k n A C H A' C' H') :
    Stp k n A C H A' (C'.take n) H' ∧ StOk k A' (C'.take n) H' ∧ n ≤ C'.length ∧ (C'.take n).length = n := by
  have hl : n ≤ C'.length := by rw [hn]; exact s.len
  have tl : (C'.take n).length = n := by rw [List.length_take]; omega
  have low : LowC n C' := s.low n (Nat.le_refl _) (by omega) (by rw [hn]; exact st0.low)
  exact ⟨⟨fun v d r => (s.rep v d r).cut hl (by rw [hn]; exact r.cb), by rw [tl, hn]; exact Nat.le_refl _, fun f h1 h2 l => low_take (s.low f h1 h2 l)⟩, st.take hl low, hl, tl⟩
theorem fz_rep {n : Nat} {A : Nat → Addr} {C : Store} {H : Hp} {v : V} {d : D} (st : StOk k A C H) (hl : n ≤ C.length) (r : Rep k A C H v d) (h : cb n (fz n d C) = true) : Rep k A (C.take n) H v (fz n d C) := by
  have tl : (C.take n).length = n := by rw [List.length_take]; omega
  have nl : ∀ i c, ¬ i < n → C[i]? = some (some c) → ¬ Live A (C.take n) (A i) := fun i c hi e l => by
    obtain ⟨j, c', e', z⟩ := l
    by_cases hj : j < n
    · rw [List.getElem?_take_of_lt hj] at e'
      have := st.inj j i _ _ e' e z
      omega
    · rw [List.getElem?_eq_none (by rw [tl]; omega)] at e'
      cases e'
  cases d with
  | cell i =>
    by_cases hi : i < n
    · have e : fz n (.cell i) C = .cell i := by simp [fz, hi]
      rw [e] at h ⊢
      exact r.cut hl h
    · cases r with
      | cell hi' =>
        simp only [fz, if_neg hi] at h ⊢
        split
        · rename_i xs ec
          rw [ec] at h
          obtain ⟨vs, hv, rv⟩ := st.at_ i _ ec
          exact .lst (nl i _ hi ec) hv (rv.cut hl (by simpa [cb] using h))
        · rename_i ks xs ec
          rw [ec] at h
          obtain ⟨kvs, hv, hk, rv⟩ := st.at_ i _ ec
          subst hk
          exact .dT (nl i _ hi ec) hv (rv.cut hl (by simpa [cb] using h))
        · rename_i n1 n2
          exfalso
          split at h
          · rename_i ec; exact n1 _ ec
          · rename_i ec; exact n2 _ _ ec
          · simp only [cb, decide_eq_true_eq] at h
            exact hi h
  | _ => exact r.cut hl h
/-- from a body to the promise -/
theorem spD_body {np ns : Nat} {body : MS} {N : List Str} {vs : List V} {H : Hp} {Q : VK} {E : XK} (hN : N.length = ns) (hp : np ≤ ns) (h : SpD k np (mDef np ns body) vs H Q E) :
    LS k (fun c d _ H' => E c d H') body { nx := fun _ H' => Q .non H', rt := Q } (L2.start N vs) H := by
  obtain ⟨hv, A, C, ds, st, rl, h⟩ := h
  have hd : ds.length = np := by rw [← rl.length]; exact hv
  unfold mDef at h
  rw [if_pos hd] at h
  have sl : (L2.start N vs) = vs.map some ++ List.replicate (ns - np) none := by unfold L2.start; rw [hN, hv]
  have sr : SR k A ⟨C.length, ds.map some ++ List.replicate (ns - np) none⟩ C (L2.start N vs) H := by
    refine ⟨st, st.low, Nat.le_refl _, ?_, fun i d e => ?_⟩
    · rw [sl]
      simp [rl.length]
    · rw [sl]
      have e' : (ds.map some ++ List.replicate (ns - np) none)[i]? = some (some d) := e
      by_cases hi : i < ds.length
      · rw [List.getElem?_append_left (by simpa using hi), List.getElem?_map] at e'
        cases ed : ds[i]? with
        | none => rw [ed] at e'; cases e'
        | some d' =>
          rw [ed] at e'
          cases e'
          obtain ⟨v, h1, h2⟩ := rl.get ed
          refine ⟨v, ?_, h2⟩
          rw [List.getElem?_append_left (by rw [List.length_map, rl.length]; exact hi), List.getElem?_map, h1]
          rfl
      · rw [List.getElem?_append_right (by simpa using hi)] at e'
        have := List.getElem?_eq_some_iff.mp e'
        obtain ⟨h1, h2⟩ := this
        rw [List.getElem_replicate] at h2
        cases h2
  refine ⟨A, _, C, sr, ?_⟩
  have done : ∀ (d : D) (C' : Store), Aft k C.length A C H (RepD k) (fin C.length d C') (fun _ _ _ H' v => Q v H') E → ∀ A' H' v, Stp k C.length A C H A' C' H' → StOk k A' C' H' → Rep k A' C' H' v d → Q v H' := fun d C' hf A' H' v p st' r => by
    unfold fin at hf
    split at hf
    · rename_i hc
      obtain ⟨q1, q2, q3, q4⟩ := cut_stp rfl st st' p
      exact hf A' H' v q1 q2 (fz_rep st' q3 r hc)
    · exact hf.elim
  show AftS k _ C.length A C H (body ⟨C.length, ds.map some ++ List.replicate (ns - np) none⟩ C) _
  cases eb : body ⟨C.length, ds.map some ++ List.replicate (ns - np) none⟩ C with
  | nx sl' C' =>
    rw [eb] at h
    exact fun A' σ' H' p s' => done .non C' h A' H' .non p s'.st .non
  | rt d C' =>
    rw [eb] at h
    exact fun A' H' v p st' r => done d C' h A' H' v p st' r
  | bk sl' C' => rw [eb] at h; exact h.elim
  | ct sl' C' => rw [eb] at h; exact h.elim
  | stuck => rw [eb] at h; exact h.elim
  | xc e sl' C' =>
    rw [eb] at h
    intro A' σ' H' dd ws p s' x l r
    simp only at h
    split at h
    · rename_i hc
      obtain ⟨q1, q2, q3, q4⟩ := cut_stp rfl st s'.st p
      exact h A' H' dd ws q1 q2 x l (r.cut q3 hc)
    · exact h.elim
end
end CT
set_option maxHeartbeats 4000000
/-! DL8: defs, calls, instances over data. -/
namespace CT
open PySem L2 PySem.Spec PyProof.Rows
theorem Aft.more {k : Cn} {fl n : Nat} {A : Nat → Addr} {C : Store} {H : Hp} {α β : Type} {rel : (Nat → Addr) → Store → Hp → β → α → Prop} {m : R α} {Q : α → Store → (Nat → Addr) → Hp → β → Prop} {W : XK} (hn : fl ≤ n) (h : Aft k fl A C H rel m Q W) : Aft k n A C H rel m Q W := by
  cases m with
  | ok d C' => exact fun A' H' v p st r => h A' H' v (p.less hn) st r
  | exc e C' => exact fun A' H' dd vs p st x l r => h A' H' dd vs (p.less hn) st x l r
  | stuck => exact h
/-- a def of np parameters -/
def Ar (np : Nat) (m : MF) : Prop := ∀ ds C, ds.length ≠ np → m ds C = .stuck
theorem mDef_ar {np ns : Nat} {body : MS} : Ar np (mDef np ns body) := fun ds C h => by
  unfold mDef
  rw [if_neg h]
/-! ### defs that know that no repr runs around them -/
theorem RoomG.mono {i j : Nat} {A : Around} (r : RoomG j A) (h : i ≤ j) : RoomG i A := ⟨r.room.mono h, r.gd⟩
theorem RoomG.in1 {j : Nat} {A : Around} (r : RoomG (j + 1) A) : RoomG j A.in1 := ⟨r.room.in1, r.gd⟩
theorem RoomG.make {j : Nat} {A : Around} (r : RoomG (j + 1) A) (C : Addr) (us : List Value) (kw : List (Str × Value)) : RoomG j (A.under (.builtin "type.__call__" ⟨.ref C :: us, kw⟩)) :=
  ⟨r.room.make C us kw, by
    have e : (A.under (.builtin "type.__call__" ⟨.ref C :: us, kw⟩)).guards = A.guards := by
      first
        | rfl
        | simp [Around.under, Code.guards, Code.isGuard, pushGuards, guardIds]
    rw [e]
    exact r.gd⟩
structure FnG (P : Program) (w : World) (K : PySem.W.Frag) (mg : Str → Option Value) (base : Heap) (lev : Nat) (f : Addr) (fd : FuncData) (ps : List Str) (sp : Sp) : Prop where
  len : ∀ vs H Q E, sp vs H Q E → vs.length = ps.length
  run : ∀ (A : Around) (outer : List Env) (s : Shared) (H : Hp) (args : Args) (us : List Value) (vs : List V) (Q : VK) (E : XK), RoomG lev A → Env0 P w K mg base A outer s H → BindsTo s fd args (ps.zip us) → Vals vs us → sp vs H Q E →
    codeAny (model P w) A (.call (.ref f) args) (CR (L2.CX P w) outer P w H s Q E) s
theorem FnG.mono {P : Program} {w : World} {K : PySem.W.Frag} {mg : Str → Option Value} {base : Heap} {i j : Nat} {f : Addr} {fd : FuncData} {ps : List Str} {sp : Sp} (F : FnG P w K mg base i f fd ps sp) (h : i ≤ j) : FnG P w K mg base j f fd ps sp :=
  ⟨F.len, fun A outer s H args us vs Q E hr => F.run A outer s H args us vs Q E (hr.mono h)⟩
theorem fn_ofG {P : Program} {w : World} {K : PySem.W.Frag} {mg : Str → Option Value} {base : Heap} {lev : Nat} {f : Addr} {name qual : Str} {params : Arguments} {body : List Stmt} {scope : Scope} {dV kV doc pm cdv ct oc : Value} {an od : Option Addr}
    {osl : Array (Option Value)} {N ps : List Str} {sp : Sp} (lk : K.lookup f = some ⟨oc, od, .func (PySem.W.fnOf name qual params body scope dV kV doc pm an cdv ct), osl⟩) (hcd : PySem.W.codeIn K cdv qual = true) (S : FnScope N ps scope)
    (len : ∀ vs H Q E, sp vs H Q E → vs.length = ps.length)
    (hbody : ∀ (A : Around) (outer : List Env) (s : Shared) (H : Hp) (vs : List V) (Q : VK) (E : XK), RoomG lev (A.deeper (envOfC qual scope s.heap.objs.size f cdv)) → sp vs H Q E →
      ∃ t, PSs (cxOf (L2.CX P w) P w K mg base N qual scope f cdv A outer s H E) body t ∧ t { nx := fun _ H' => Q .non H', rt := Q } (L2.start N vs) H) :
    FnG P w K mg base (lev + 1) f (PySem.W.fnOf name qual params body scope dV kV doc pm an cdv ct) ps sp := by
  refine ⟨len, fun A outer s H args us vs Q E hr e0 hb r hsp => ?_⟩
  have hl := len _ _ _ _ hsp
  have KX : K.In s.heap := e0.mod.kin.keeps fun b o e => (e0.bs b o e).1
  have lim : s.heap.NoLimit := e0.mod.nolimit.keeps fun b o e => (e0.bs b o e).1
  have hkind : ∀ y ∈ ps.zip us, scope.names.lookup y.1 = some .local ∨ (scope.names.lookup y.1 = some .cell ∧ ((cellsFrom (s.heap.objs.size + 1) scope.names []).lookup y.1).isSome = true) := fun ⟨n, v⟩ hy => by
    rcases S.par n (List.of_mem_zip hy).1 with q | q
    · exact .inl q
    · exact .inr ⟨q, PySem.W.cellsFrom_some _ _ _ (.inl q)⟩
  refine codeAny_call_function hr.room.depth (KX _ _ lk) rfl S.co S.gen rfl (PySem.W.codeRec_of KX hcd) (hb _ _ _ _ ?_)
  refine wpAny_newFunctionEnv_cells S.kind hkind fun env he s1 x => ?_
  subst he
  refine ⟨lim.keeps x.toInCall.keep, codeAny_func ?_⟩
  obtain ⟨t, ht, hq⟩ := hbody A outer s H vs Q E ⟨hr.room.deeper _, hr.gd⟩ hsp
  have I : Inv (cxOf (L2.CX P w) P w K mg base N qual scope f cdv A outer s H E) [] (L2.start N vs) H s1 := inv_start S hr.room.hd e0 hl r x
  refine wpAny_mono (ht.run [] s1 (L2.start N vs) H _ I hq) (fun fl s' hs => ?_) fun e s' hs => hs
  have fin : ∀ {σ' : L2.St} {H' : Hp} {v : V} {u : Value}, Inv (cxOf (L2.CX P w) P w K mg base N qual scope f cdv A outer s H E) [] σ' H' s' → RelV v u → Q v H' → CE outer P w H s Q u s' :=
    fun {σ' H' v u} J rv q => ⟨v, H', J.os, J.bare, J.base, J.hok, rv, q⟩
  cases fl with
  | ret u =>
    obtain ⟨v, σ', H', J, rv, q⟩ := hs
    exact fin J rv q
  | next =>
    obtain ⟨σ', H', J, q⟩ := hs
    exact fin (v := V.non) (u := Value.none) J rfl q
  | brk =>
    obtain ⟨_, _, _, q⟩ := hs
    exact False.elim q
  | cont =>
    obtain ⟨_, _, _, q⟩ := hs
    exact False.elim q
section
variable {P : Program} {w : World} {k : Cn} {mg : Str → Option Value} {base : Heap} {x qual : Str} {params : Arguments} {body : List Stmt} {scope : Scope} {dvs : List V} {kws : List (Str × V)} {f : Addr} {fd : FuncData}
/-- THE RULE for a def: its body's derivation -/
theorem fn_ok {N ps : List Str} {lev : Nat} {m : MS} (F : FunD k.K x qual params body scope dvs kws f fd) (S : FnScope N ps scope) (hp : ps.length ≤ N.length)
    (hb : ∀ (cdv : Value) (A : Around) (outer : List Env) (s : Shared) (H : Hp) (E : XK), RoomG lev (A.deeper (envOfC qual scope s.heap.objs.size f cdv)) → PSs (cxOf (L2.CX P w) P w k.K mg base N qual scope f cdv A outer s H E) body (LS k (fun c d _ H' => E c d H') m)) :
    FnG P w k.K mg base (lev + 1) f fd ps (SpD k ps.length (mDef ps.length N.length m)) := by
  obtain ⟨oc, od, dV, kV, doc, pm, an, cdv, ct, osl, rfl, lk, hcd, _, _⟩ := F.ex
  exact fn_ofG lk hcd S (fun vs H Q E h => h.1) fun A outer s H vs Q E hr h => ⟨_, hb cdv A outer s H E hr, spD_body rfl hp h⟩
end
/-! ### calls -/
section
variable {X : Cx} {k : Cn} {W : WX} {σ : L2.St} {H : Hp} {Q : VK} {lev : Nat} {f C p g : Addr} {fd : FuncData} {ps : List Str} {np : Nat} {m : MF} {dvs : List V} {dds : List D} {ds : List Value} {x nm : Str} {pn pos apos : Pos} {e o : Expr} {es : List Expr} {ma : MA} {mo : ME}
theorem sp_of {A : Nat → Addr} {C : Store} {fl : Nat} {vs : List V} {xs : List D} {E : XK} (hf : fl ≤ C.length) (ar : Ar np m) (st : StOk k A C H) (r : RepL k A C H vs xs) (h : Aft k fl A C H (RepD k) (m xs C) (fun _ _ _ H' v => Q v H') E) : SpD k np m vs H Q E := by
  refine ⟨?_, A, C, xs, st, r, h.more hf⟩
  rw [r.length]
  by_cases hl : xs.length = np
  · exact hl
  · rw [ar xs C hl] at h
    exact h.elim
theorem run_fnG {sp : Sp} {E : L2.St → XK} {pins : List (Addr × Obj)} {σ : L2.St} {H : Hp} {s : Shared} {Q : VK} {us : List Value} {vs : List V} (F : FnG X.prog X.w X.K X.mg X.base lev f fd ps sp) (hr : RoomG lev X.A) (hb : Binds X.K fd ps ds) (hd : Vals dvs ds) (hx : PassesAt (L2.CX X.prog X.w) X σ (E σ))
    (I : Inv X pins σ H s) (r : Vals vs us) (h : sp (vs ++ dvs) H Q (E σ)) : wpAny (model X.prog X.w) X.A (call (.ref f) us) (EP X pins σ Q) X.xe s := by
  have r2 : Vals (vs ++ dvs) (us ++ ds) := r.append hd
  have hl : (us ++ ds).length = ps.length := by rw [← r2.length]; exact F.len _ _ _ _ h
  refine wpAny_call (codeAny_mono (F.run X.A X.stack s H ⟨us, []⟩ (us ++ ds) (vs ++ dvs) Q (E σ) hr I.env0 (hb s us I.kIn hl) r2 h) fun r s' hq => ?_)
  cases r with
  | error e => exact hx pins H s e s' I hq
  | ok fl =>
    cases fl with
    | ret u => exact I.after hq
    | next => exact False.elim hq
    | brk => exact False.elim hq
    | cont => exact False.elim hq
theorem pe_callG {sp : Sp} {E : L2.St → XK} {t : TA} (F : FnG X.prog X.w X.K X.mg X.base lev f fd ps sp) (hr : RoomG lev X.A) (hg : Gl X x) (hm : X.mg x = some (.ref f)) (hk : PySem.W.keepIn X.K (.ref f) = true) (hb : Binds X.K fd ps ds) (hd : Vals dvs ds) (hx : ∀ σ, PassesAt (L2.CX X.prog X.w) X σ (E σ))
    (ha : PA X (e :: es) t) (hdb : (x == ("__debug__" : Str)) = false := by decide) (he : starEach (e :: es) X.env = (false, eval e X.env) :: starEach es X.env := by rfl) (hpl : (backTo pos (starEach es X.env)).any (·.1) = false := by rfl) :
    PE X (.Call (.Name x pn) (e :: es) [] pos) (tCallSD sp dvs E t) := by
  refine ⟨fun pins s σ H Q I h => ?_⟩
  refine wpAny_Call_Name_kw (ld_glob I hg hm ?_ hdb)
  refine PySem.W.callWith_K (h₀ := X.base) I.ok.mod.kin hk (thn (ha.run pos pins s σ H _ I h) fun us s1 ⟨vs, H1, I1, r, q⟩ => ⟨I1.kIn, ?_⟩) he hpl
  exact run_fnG F hr hb hd (hx σ) I1 r q
theorem le_call (ar : Ar np m) (hd : ∀ A C H, RepL k A C H dvs dds) (h : LE k W (mCall m dds ma) σ H Q) : tCallSD (SpD k np m) dvs (WE W) (LA k W ma) σ H Q := by
  obtain ⟨A, F, C, s, h⟩ := h
  refine ⟨A, F, C, s, (Aft.bnd (rel := RepDs k) h).mono fun xs C1 A1 H1 vs p1 st1 r1 h1 => ?_⟩
  exact sp_of (s.step p1 st1).fl ar st1 (r1.append (hd _ _ _)) h1
/-- f(e, ..) -/
theorem de_call (tk : Takes X W) (F : FnG X.prog X.w X.K X.mg X.base lev f fd ps (SpD k np m)) (ar : Ar np m) (hr : RoomG lev X.A) (hg : Gl X x) (hm : X.mg x = some (.ref f)) (hk : PySem.W.keepIn X.K (.ref f) = true) (hb : Binds X.K fd ps ds) (hd : Vals dvs ds) (hdd : ∀ A C H, RepL k A C H dvs dds)
    (ha : PA X (e :: es) (LA k W ma)) (hdb : (x == ("__debug__" : Str)) = false := by decide) (he : starEach (e :: es) X.env = (false, eval e X.env) :: starEach es X.env := by rfl) (hpl : (backTo pos (starEach es X.env)).any (·.1) = false := by rfl) :
    PE X (.Call (.Name x pn) (e :: es) [] pos) (LE k W (mCall m dds ma)) := (pe_callG F hr hg hm hk hb hd (fun σ => passAt tk σ) ha hdb he hpl).cq fun _ _ _ h => le_call ar hdd h
/-! ### instances -/
theorem vO_at {A : Nat → Addr} {C : Store} {v : V} {d : D} {c : Nat} {fs : List D} (st : StOk k A C H) (r : Rep k A C H v d) (e : vO d C = some (c, fs)) : ∃ a dx vs, v = .ref a ∧ H a = some (.ins (k.cl c) dx (((k.fn c).take fs.length).zip vs)) ∧ fs.length ≤ (k.fn c).length ∧ RepL k A C H vs fs := by
  cases r with
  | @obj a0 dx0 c0 vs0 ds0 l h z rv =>
    cases e
    have hl : fs.length = (k.fn c).length := by rw [← rv.length]; exact z
    refine ⟨a0, dx0, vs0, rfl, ?_, Nat.le_of_eq hl, rv⟩
    rw [hl, List.take_length]
    exact h
  | cell hi =>
    rename_i i
    simp only [vO] at e
    split at e
    · rename_i c' fs' ec
      cases e
      obtain ⟨dx, vs, h, z, rv⟩ := st.at_ i _ ec
      exact ⟨_, dx, vs, rfl, h, z, rv⟩
    · cases e
  | _ => cases e
theorem zip_look {names : List Str} {vs : List V} {n : Nat} {f : Str} {v : V} (nd : names.Nodup) (hn : names[n]? = some f) (hv : vs[n]? = some v) : (names.zip vs).lookup f = some v := by
  induction names generalizing vs n with
  | nil => simp at hn
  | cons a r ih =>
    cases vs with
    | nil => simp at hv
    | cons b t =>
      cases n with
      | zero =>
        simp at hn hv
        subst hn
        subst hv
        simp [List.lookup]
      | succ n =>
        simp at hn hv
        have ne : (f == a) = false := by
          simp only [List.nodup_cons] at nd
          have : f ≠ a := fun e => nd.1 (by rw [← e]; exact List.mem_of_getElem? hn)
          simpa using this
        rw [List.zip_cons_cons, List.lookup_cons, ne]
        exact ih (by simp only [List.nodup_cons] at nd; exact nd.2) hn hv
theorem d_fld {c n : Nat} {f : Str} (hc : Cls k.K (k.cl c)) (hno : NoAttr k.K (k.cl c) f) (nd : (k.fn c).Nodup) (hf : (k.fn c)[n]? = some f) : ∀ fl A C H x dx d C' (Q : VK), fl ≤ C.length → LowC fl C → StOk k A C H → Rep k A C H x dx → oFld c n dx C = some (d, C') →
    (∀ A' H' v, Stp k fl A C H A' C' H' → StOk k A' C' H' → Rep k A' C' H' v d → Q v H') → ∃ a Cc dxx fs v, x = .ref a ∧ H a = some (.ins Cc dxx fs) ∧ Cls k.K Cc ∧ NoAttr k.K Cc f ∧ fs.lookup f = some v ∧ Q v H := by
  intro fl A C H x dx d C' Q hfl hl st r e q
  unfold oFld at e
  split at e
  · rename_i c' fs ev
    split at e
    · rename_i hcc
      subst hcc
      simp only [Option.map_eq_some_iff] at e
      obtain ⟨d', e1, e2⟩ := e
      cases e2
      obtain ⟨a, dx', vs, rfl, ha, hle, rv⟩ := vO_at st r ev
      obtain ⟨v, hv, rv1⟩ := rv.get e1
      have hn : n < fs.length := (List.getElem?_eq_some_iff.mp e1).1
      refine ⟨a, _, dx', _, v, rfl, ha, hc, hno, zip_look (nd.sublist (List.take_sublist _ _)) (by rw [List.getElem?_take_of_lt hn]; exact hf) hv, q A H v Stp.refl st rv1⟩
    · cases e
  · cases e
theorem le_fld {c n : Nat} {f : Str} (hc : Cls k.K (k.cl c)) (hno : NoAttr k.K (k.cl c) f) (nd : (k.fn c).Nodup) (hf : (k.fn c)[n]? = some f) (h : LE k W (mUn (oFld c n) mo) σ H Q) : tFld k.K (LE k W mo) f σ H Q := by
  obtain ⟨A, F, C, s, h⟩ := h
  refine ⟨A, F, C, s, (Aft.bnd (rel := RepD k) h).mono fun dx C1 A1 H1 v p1 st1 r1 h1 => ?_⟩
  obtain ⟨d, C', e, q⟩ := aft_ofO h1
  have s1 := s.step p1 st1
  exact d_fld hc hno nd hf F.fl A1 C1 H1 v dx d C' Q s1.fl s1.low st1 r1 e q
theorem de_fld (c n : Nat) {f : Str} (hK : X.K = k.K) (hc : Cls k.K (k.cl c)) (hno : NoAttr k.K (k.cl c) f) (nd : (k.fn c).Nodup) (hf : (k.fn c)[n]? = some f) (he : PE X o (LE k W mo)) (hb : attributeBase o f X.env (eval o X.env) = eval o X.env := by rfl) : PE X (.Attribute o f pos) (LE k W (mUn (oFld c n) mo)) :=
  (pe_fld he hb).cq fun _ _ _ h => by
    rw [hK]
    exact le_fld hc hno nd hf h
/-! ### methods, properties -/
end
end CT
set_option maxHeartbeats 4000000
/-! DL9: built-in functions over data. -/
namespace CT
open PySem L2 PySem.Spec PyProof.Rows
/-! ### data as the library's own -/
section
variable {k : Cn} {A : Nat → Addr} {C : Store} {H : Hp}
mutual
theorem toP0_dp : ∀ {v : V} {d : D} {p : PyData}, Rep k A C H v d → toP0 d = some p → Dp k.K H v p
  | _, _, _, .non, e => by simp only [toP0] at e; cases e; exact .non
  | _, _, _, .bl b, e => by simp only [toP0] at e; cases e; exact .bl b
  | _, _, _, .int i, e => by simp only [toP0] at e; cases e; exact .int i
  | _, _, _, .str s, e => by simp only [toP0] at e; cases e; exact .str s
  | _, _, _, .lst l h r, e => by
    simp only [toP0, Option.map_eq_some_iff] at e
    obtain ⟨ps, e1, rfl⟩ := e
    exact .lst (.inl (.inl h)) (toP0s_dp r e1)
  | _, _, _, .tup l h r, e => by
    simp only [toP0, Option.map_eq_some_iff] at e
    obtain ⟨ps, e1, rfl⟩ := e
    exact .tup (.inl (.inl h)) (toP0s_dp r e1)
  | _, _, _, .ktup h r, e => by
    simp only [toP0, Option.map_eq_some_iff] at e
    obtain ⟨ps, e1, rfl⟩ := e
    exact .tup (.inr h) (toP0s_dp r e1)
  | _, _, _, .scr l h r, e => by simp only [toP0] at e; cases e
  | _, _, _, .kscr h r, e => by simp only [toP0] at e; cases e
  | _, _, _, .obj l h z r, e => by simp only [toP0] at e; cases e
  | _, _, _, .exn x l h z r, e => by simp only [toP0] at e; cases e
  | _, _, _, .cls c, e => by simp only [toP0] at e; cases e
  | _, _, _, .dT l h r, e => by simp only [toP0] at e; cases e
  | _, _, _, .cell hi, e => by simp only [toP0] at e; cases e
theorem toP0s_dp : ∀ {vs : List V} {ds : List D} {ps : List PyData}, RepL k A C H vs ds → toP0s ds = some ps → DpAll k.K H vs ps
  | _, _, _, .nil, e => by simp only [toP0s] at e; cases e; exact .nil
  | _, _, _, .cons (d := d) (ds := ds) r t, e => by
    simp only [toP0s] at e
    cases e1 : toP0 d with
    | none => rw [e1] at e; cases e
    | some p =>
      cases e2 : toP0s ds with
      | none => rw [e1, e2] at e; cases e
      | some ps =>
        rw [e1, e2] at e
        cases e
        exact .cons (toP0_dp r e1) (toP0s_dp t e2)
end
mutual
theorem toP_dp (st : StOk k A C H) : ∀ {v : V} {d : D} {p : PyData}, Rep k A C H v d → toP C d = some p → Dp k.K H v p
  | _, _, _, .non, e => by simp only [toP] at e; cases e; exact .non
  | _, _, _, .bl b, e => by simp only [toP] at e; cases e; exact .bl b
  | _, _, _, .int i, e => by simp only [toP] at e; cases e; exact .int i
  | _, _, _, .str s, e => by simp only [toP] at e; cases e; exact .str s
  | _, _, _, .lst l h r, e => by
    simp only [toP, Option.map_eq_some_iff] at e
    obtain ⟨ps, e1, rfl⟩ := e
    exact .lst (.inl (.inl h)) (toPs_dp st r e1)
  | _, _, _, .tup l h r, e => by
    simp only [toP, Option.map_eq_some_iff] at e
    obtain ⟨ps, e1, rfl⟩ := e
    exact .tup (.inl (.inl h)) (toPs_dp st r e1)
  | _, _, _, .ktup h r, e => by
    simp only [toP, Option.map_eq_some_iff] at e
    obtain ⟨ps, e1, rfl⟩ := e
    exact .tup (.inr h) (toPs_dp st r e1)
  | _, _, _, .scr l h r, e => by simp only [toP] at e; cases e
  | _, _, _, .kscr h r, e => by simp only [toP] at e; cases e
  | _, _, _, .obj l h z r, e => by simp only [toP] at e; cases e
  | _, _, _, .exn x l h z r, e => by simp only [toP] at e; cases e
  | _, _, _, .cls c, e => by simp only [toP] at e; cases e
  | _, _, _, .dT l h r, e => by simp only [toP] at e; cases e
  | _, _, _, .cell (i := i) hi, e => by
    simp only [toP] at e
    split at e
    · rename_i xs ec
      simp only [Option.map_eq_some_iff] at e
      obtain ⟨ps, e1, rfl⟩ := e
      obtain ⟨vs, hv, rv⟩ := st.at_ i _ ec
      exact .lst (.inl (.inl hv)) (toP0s_dp rv e1)
    · cases e
theorem toPs_dp (st : StOk k A C H) : ∀ {vs : List V} {ds : List D} {ps : List PyData}, RepL k A C H vs ds → toPs C ds = some ps → DpAll k.K H vs ps
  | _, _, _, .nil, e => by simp only [toPs] at e; cases e; exact .nil
  | _, _, _, .cons (d := d) (ds := ds) r t, e => by
    simp only [toPs] at e
    cases e1 : toP C d with
    | none => rw [e1] at e; cases e
    | some p =>
      cases e2 : toPs C ds with
      | none => rw [e1, e2] at e; cases e
      | some ps =>
        rw [e1, e2] at e
        cases e
        exact .cons (toP_dp st r e1) (toPs_dp st t e2)
end
end
/-! ### == and != of data -/
theorem d_eqD {k : Cn} : OpD k (rEqD k.K) (oEqD false) := by
  intro fl A C H x y dx dy d C' Q hf hl st rx ry e q
  simp only [oEqD] at e
  split at e
  · rename_i p q' e1 e2
    split at e
    · rename_i hs
      simp only [Bool.and_eq_true] at hs
      cases e
      exact ⟨p, q', toP_dp st rx e1, toP_dp st ry e2, hs.1, hs.2, q A H _ Stp.refl st (.bl _)⟩
    · cases e
  · cases e
theorem d_neD {k : Cn} : OpD k (rNeD k.K) (oEqD true) := by
  intro fl A C H x y dx dy d C' Q hf hl st rx ry e q
  simp only [oEqD] at e
  split at e
  · rename_i p q' e1 e2
    split at e
    · rename_i hs
      simp only [Bool.and_eq_true] at hs
      cases e
      exact ⟨p, q', toP_dp st rx e1, toP_dp st ry e2, hs.1, hs.2, q A H _ Stp.refl st (.bl _)⟩
    · cases e
  · cases e
/-! ### repr -/
def rReprD (K : PySem.W.Frag) : List V → Hp → VK → Prop := fun xs H Q => ∃ v d, xs = [v] ∧ Dp K H v d ∧ d.showable = true ∧ d.hasDict = false ∧ d.depth ≤ 60 ∧ d.shown.length ≤ sizeLine ∧ Q (.str d.shown) H
theorem call_reprD {X : Cx} (hr : RoomG 0 X.A) : CallR X (.builtin "repr") (rReprD X.K) := by
  intro pins s σ H xs us Q I r h
  obtain ⟨v, d, rfl, hd, h1, h2, h3, h4, q⟩ := h
  obtain ⟨u, rfl, ru⟩ := Vals.one r
  have un : X.A.units + 200 < cLine := by have := hr.room.un; omega
  obtain ⟨as, rd⟩ := Dp.reads I d v u hd ru
  have fin : ∀ (t : Tok) (h' : Heap) (tk : Nat), (∀ b o, s.heap.get? b = some o → h'.get? b = some o) → EP X pins σ Q (.str d.shown t) { s with heap := h', toks := tk } := fun t h' tk hk => ⟨.str d.shown, H, I.kept (t' := tk) hk, ⟨_, rfl⟩, q⟩
  cases hd with
  | non =>
    cases ru
    exact PySem.P.repr_of_none (fin _ _ _ fun _ _ e => e)
  | bl b =>
    cases ru
    exact PySem.P.repr_of_bool (fin _ _ _ fun _ _ e => e)
  | int i =>
    obtain ⟨t, rfl⟩ := ru
    exact PySem.P.repr_of_int (by simpa [PyData.showable] using h1) (fin _ _ _ fun _ _ e => e)
  | str x =>
    obtain ⟨t, rfl⟩ := ru
    exact PySem.P.repr_of_str (fin _ _ _ fun _ _ e => e) h4
  | lst hs ha =>
    cases ru
    exact repr_of_reads' rd h1 (PyData.noDict_hsm h2) hr.gd (by omega) (fun _ _ e => e) (fun h' u tk hk => fin u h' tk hk) h4
  | tup hs ha =>
    cases ru
    exact repr_of_reads' rd h1 (PyData.noDict_hsm h2) hr.gd (by omega) (fun _ _ e => e) (fun h' u tk hk => fin u h' tk hk) h4
def oRepr : OA := fun xs C => match xs with
  | [d] => match toP C d with
    | some p => if repOk p = true then some (.str p.shown, C) else none
    | none => none
  | _ => none
theorem d_repr {k : Cn} : ApD k (rReprD k.K) oRepr := by
  intro fl A C H x dx d C' Q hf hl st rx e q
  unfold oRepr at e
  split at e
  · rename_i d0
    split at e
    · rename_i p ep
      split at e
      · rename_i ho
        cases e
        cases rx with
        | cons r t =>
          cases t
          simp only [repOk, Bool.and_eq_true, Bool.not_eq_true', decide_eq_true_eq] at ho
          exact ⟨_, p, rfl, toP_dp st r ep, ho.1.1.1, ho.1.1.2, ho.1.2, szN_le ho.2, q A H _ Stp.refl st (.str _)⟩
      · cases e
    · cases e
  · cases e
/-! ### len, sums, least, greatest, conversions -/
def oLen : OA := fun xs C => match xs with
  | [d] => (vS d C).map fun ys => (.int ys.length, C)
  | _ => none
theorem d_len {k : Cn} : ApD k (fun xs H Q => ∃ p ys, xs = [.ref p] ∧ (SqL k.K H p ys ∨ SqT k.K H p ys) ∧ Q (.int ys.length) H) oLen := by
  intro fl A C H x dx d C' Q hf hl st rx e q
  unfold oLen at e
  split at e
  · rename_i d0
    simp only [Option.map_eq_some_iff] at e
    obtain ⟨ys, e1, e2⟩ := e
    cases e2
    cases rx with
    | cons r t =>
      cases t
      obtain ⟨a, vs, rfl, hs, rv⟩ := vS_at st r e1
      exact ⟨a, vs, rfl, hs, q A H _ Stp.refl st (by rw [rv.length]; exact .int _)⟩
  · cases e
theorem dInts_eq : ∀ {ds : List D} {ns : List Int}, dInts ds = some ns → ds = ns.map D.int
  | [], _, e => by cases e; rfl
  | .int i :: r, _, e => by
    simp only [dInts, Option.map_eq_some_iff] at e
    obtain ⟨l, e1, rfl⟩ := e
    rw [dInts_eq e1]
    rfl
  | .non :: _, _, e => by cases e
  | .bl _ :: _, _, e => by cases e
  | .str _ :: _, _, e => by cases e
  | .lst _ :: _, _, e => by cases e
  | .tup _ :: _, _, e => by cases e
  | .scr _ :: _, _, e => by cases e
  | .kt _ :: _, _, e => by cases e
  | .obj _ _ :: _, _, e => by cases e
  | .exn _ _ :: _, _, e => by cases e
  | .cls _ :: _, _, e => by cases e
  | .dT _ _ :: _, _, e => by cases e
  | .cell _ :: _, _, e => by cases e
theorem dBools_eq : ∀ {ds : List D} {ns : List Bool}, dBools ds = some ns → ds = ns.map D.bl
  | [], _, e => by cases e; rfl
  | .bl i :: r, _, e => by
    simp only [dBools, Option.map_eq_some_iff] at e
    obtain ⟨l, e1, rfl⟩ := e
    rw [dBools_eq e1]
    rfl
  | .non :: _, _, e => by cases e
  | .int _ :: _, _, e => by cases e
  | .str _ :: _, _, e => by cases e
  | .lst _ :: _, _, e => by cases e
  | .tup _ :: _, _, e => by cases e
  | .scr _ :: _, _, e => by cases e
  | .kt _ :: _, _, e => by cases e
  | .obj _ _ :: _, _, e => by cases e
  | .exn _ _ :: _, _, e => by cases e
  | .cls _ :: _, _, e => by cases e
  | .dT _ _ :: _, _, e => by cases e
  | .cell _ :: _, _, e => by cases e
def oSum : OA := fun xs C => match xs with
  | [d] => (vL d C).bind fun ys => (dInts ys).map fun ns => (.int ns.sum, C)
  | _ => none
def oAny : OA := fun xs C => match xs with
  | [d] => (vL d C).bind fun ys => (dBools ys).map fun ns => (.bl (ns.any id), C)
  | _ => none
theorem d_sum {k : Cn} : ApD k (rSum k.K) oSum := by
  intro fl A C H x dx d C' Q hf hl st rx e q
  unfold oSum at e
  split at e
  · simp only [Option.bind_eq_some_iff, Option.map_eq_some_iff] at e
    obtain ⟨ys, e1, ns, e2, e3⟩ := e
    cases e3
    cases rx with
    | cons r t =>
      cases t
      obtain ⟨a, vs, rfl, ha, rv⟩ := vL_at st r e1
      rw [dInts_eq e2] at rv
      have := rv.ints_inv
      subst this
      exact ⟨a, ns, rfl, .inl (.inl ha), q A H _ Stp.refl st (.int _)⟩
  · cases e
theorem d_any {k : Cn} : ApD k (rAny k.K) oAny := by
  intro fl A C H x dx d C' Q hf hl st rx e q
  unfold oAny at e
  split at e
  · simp only [Option.bind_eq_some_iff, Option.map_eq_some_iff] at e
    obtain ⟨ys, e1, ns, e2, e3⟩ := e
    cases e3
    cases rx with
    | cons r t =>
      cases t
      obtain ⟨a, vs, rfl, ha, rv⟩ := vL_at st r e1
      rw [dBools_eq e2] at rv
      have := rv.bls_inv
      subst this
      exact ⟨a, ns, rfl, .inl (.inl ha), q A H _ Stp.refl st (.bl _)⟩
  · cases e
theorem d_2I {k : Cn} (g : Int → Int → Int) : ApD k (fun xs H Q => ∃ i j, xs = [.int i, .int j] ∧ Q (.int (g i j)) H) (o2I g) := by
  intro fl A C H x dx d C' Q hf hl st rx e q
  unfold o2I at e
  split at e
  · rename_i i j
    cases e
    cases rx with
    | cons r t =>
      cases t with
      | cons r2 t2 =>
        cases t2
        cases r
        cases r2
        exact ⟨i, j, rfl, q A H _ Stp.refl st (.int _)⟩
  · cases e
theorem d_max2 {k : Cn} : ApD k (fun xs H Q => ∃ i j, xs = [.int i, .int j] ∧ Q (.int (if j > i then j else i)) H) oMax2 := d_2I _
theorem d_min2 {k : Cn} : ApD k (fun xs H Q => ∃ i j, xs = [.int i, .int j] ∧ Q (.int (if j < i then j else i)) H) oMin2 := d_2I _
theorem d_abs {k : Cn} : ApD k (fun xs H Q => ∃ i, xs = [.int i] ∧ Q (.int (if i < 0 then -i else i)) H) oAbs := by
  intro fl A C H x dx d C' Q hf hl st rx e q
  unfold oAbs at e
  split at e
  · rename_i i
    cases e
    cases rx with
    | cons r t =>
      cases t
      cases r
      exact ⟨i, rfl, q A H _ Stp.refl st (.int _)⟩
  · cases e
theorem d_int {k : Cn} : ApD k (fun xs H Q => (∃ i, xs = [.int i] ∧ Q (.int i) H) ∨ ∃ k, xs = [.bl k] ∧ Q (.int (if k then 1 else 0)) H) oInt := by
  intro fl A C H x dx d C' Q hf hl st rx e q
  unfold oInt at e
  split at e
  · rename_i i
    cases e
    cases rx with
    | cons r t =>
      cases t
      cases r
      exact .inl ⟨i, rfl, q A H _ Stp.refl st (.int _)⟩
  · rename_i i
    cases e
    cases rx with
    | cons r t =>
      cases t
      cases r
      exact .inr ⟨i, rfl, q A H _ Stp.refl st (.int _)⟩
  · cases e
theorem d_tupOf {k : Cn} : ApD k (fun xs H Q => ∃ p ys, xs = [.ref p] ∧ ((SqL k.K H p ys ∧ ∀ l, H l = none → Q (.ref l) (upd H l (.tup ys))) ∨ (SqT k.K H p ys ∧ Q (.ref p) H))) oTupOf := by
  intro fl A C H x dx d C' Q hf hl st rx e q
  unfold oTupOf at e
  split at e
  · cases e
    cases rx with
    | cons r t =>
      cases t
      obtain ⟨a, vs, rfl, hs, rv⟩ := vT_at r rfl
      exact ⟨a, vs, rfl, .inr ⟨hs, q A H _ Stp.refl st r⟩⟩
  · cases e
    cases rx with
    | cons r t =>
      cases t
      obtain ⟨a, vs, rfl, hs, rv⟩ := vT_at r rfl
      exact ⟨a, vs, rfl, .inr ⟨hs, q A H _ Stp.refl st r⟩⟩
  · simp only [Option.map_eq_some_iff] at e
    obtain ⟨ys, e1, e2⟩ := e
    cases e2
    cases rx with
    | cons r t =>
      cases t
      obtain ⟨a, vs, rfl, ha, rv⟩ := vL_at st r e1
      refine ⟨a, vs, rfl, .inl ⟨.inl (.inl ha), fun l hl => ?_⟩⟩
      obtain ⟨w1, w2, w3⟩ := fresh_T (fl := fl) st rv hl
      exact q A _ _ w1 w2 w3
  · cases e
/-- list(x) -/
def oListOf (own : Bool) : OA := fun xs C => match xs with
  | [d] => (vS d C).map fun ys => mkL own ys C
  | _ => none
theorem d_listOf {k : Cn} (own : Bool) : ApD k (fun xs H Q => ∃ p ys, xs = [.ref p] ∧ (SqL k.K H p ys ∨ SqT k.K H p ys) ∧ ∀ l, H l = none → Q (.ref l) (upd H l (.lst ys))) (oListOf own) := by
  intro fl A C H x dx d C' Q hf hl st rx e q
  unfold oListOf at e
  split at e
  · simp only [Option.map_eq_some_iff] at e
    obtain ⟨ys, e1, e2⟩ := e
    cases rx with
    | cons r t =>
      cases t
      obtain ⟨a, vs, rfl, hs, rv⟩ := vS_at st r e1
      refine ⟨a, vs, rfl, hs, fun l hl => ?_⟩
      obtain ⟨A2, w1, w2, w3⟩ := fresh_L (own := own) hf st rv hl
      rw [e2] at w1 w2 w3
      exact q A2 _ _ w1 w2 w3
  · cases e
/-! ### + and * of lists, + of tuples -/
def oCat (own : Bool) : O2 := fun x y C => match vL x C, vL y C with
  | some xs, some ys => if szN (xs.length + ys.length) = true then some (mkL own (xs ++ ys) C) else none
  | _, _ => none
theorem d_cat {k : Cn} (own : Bool) : OpD k rCat (oCat own) := by
  intro fl A C H x y dx dy d C' Q hf hl st rx ry e q
  unfold oCat at e
  split at e
  · rename_i xs ys e1 e2
    split at e
    · rename_i hz
      obtain ⟨a, vs, rfl, ha, rv⟩ := vL_at st rx e1
      obtain ⟨b, ws, rfl, hb, rw⟩ := vL_at st ry e2
      refine ⟨a, b, vs, ws, rfl, rfl, ha, hb, by rw [rv.length, rw.length]; exact szN_le hz, fun p hp => ?_⟩
      obtain ⟨A2, w1, w2, w3⟩ := fresh_L (own := own) hf st (rv.append rw) hp
      have e' := Option.some.inj e
      rw [e'] at w1 w2 w3
      exact q A2 _ _ w1 w2 w3
    · cases e
  · cases e
def oRep (own : Bool) : O2 := fun x y C => match vL x C, y with
  | some xs, .int n => if (decide (-(2 ^ 63) ≤ n) && decide (n < 2 ^ 63) && szN (xs.length * n.toNat)) = true then some (mkL own (List.replicate n.toNat xs).flatten C) else none
  | _, _ => none
theorem d_rep {k : Cn} (own : Bool) : OpD k rRep (oRep own) := by
  intro fl A C H x y dx dy d C' Q hf hl st rx ry e q
  unfold oRep at e
  split at e
  · rename_i xs n e1
    split at e
    · rename_i hz
      simp only [Bool.and_eq_true, decide_eq_true_eq] at hz
      obtain ⟨a, vs, rfl, ha, rv⟩ := vL_at st rx e1
      cases ry
      refine ⟨a, n, vs, rfl, rfl, ha, hz.1.1, hz.1.2, by rw [rv.length]; exact szN_le hz.2, fun p hp => ?_⟩
      obtain ⟨A2, w1, w2, w3⟩ := fresh_L (own := own) hf st (rv.rep n.toNat) hp
      have e' := Option.some.inj e
      rw [e'] at w1 w2 w3
      exact q A2 _ _ w1 w2 w3
    · cases e
  · cases e
def oCatT : O2 := fun x y C => match vT x, vT y with
  | some xs, some ys => if szN (xs.length + ys.length) = true then (if xs.isEmpty = true then some (y, C) else if ys.isEmpty = true then some (x, C) else some (.tup (xs ++ ys), C)) else none
  | _, _ => none
theorem d_catT {k : Cn} : OpD k (rCatA k.K) oCatT := by
  intro fl A C H x y dx dy d C' Q hf hl st rx ry e q
  unfold oCatT at e
  split at e
  · rename_i xs ys e1 e2
    obtain ⟨a, vs, rfl, ha, rv⟩ := vT_at rx e1
    obtain ⟨b, ws, rfl, hb, rw⟩ := vT_at ry e2
    have z1 : vs = [] ↔ xs = [] := by
      have := rv.length
      constructor
      · intro h; subst h; exact List.length_eq_zero_iff.mp (by simpa using this.symm)
      · intro h; subst h; exact List.length_eq_zero_iff.mp (by simpa using this)
    have z2 : ws = [] ↔ ys = [] := by
      have := rw.length
      constructor
      · intro h; subst h; exact List.length_eq_zero_iff.mp (by simpa using this.symm)
      · intro h; subst h; exact List.length_eq_zero_iff.mp (by simpa using this)
    split at e
    · rename_i hz
      refine ⟨a, b, vs, ws, rfl, rfl, ha, hb, by rw [rv.length, rw.length]; exact szN_le hz, fun h => ?_, fun h h' => ?_, fun h h' p hp => ?_⟩
      · rw [if_pos (by simpa using z1.mp h)] at e
        cases e
        exact q A H _ Stp.refl st ry
      · have n1 : ¬ (xs.isEmpty = true) := by simpa using fun z => h (z1.mpr z)
        rw [if_neg n1, if_pos (by simpa using z2.mp h')] at e
        cases e
        exact q A H _ Stp.refl st rx
      · have n1 : ¬ (xs.isEmpty = true) := by simpa using fun z => h (z1.mpr z)
        have n2 : ¬ (ys.isEmpty = true) := by simpa using fun z => h' (z2.mpr z)
        rw [if_neg n1, if_neg n2] at e
        cases e
        obtain ⟨w1, w2, w3⟩ := fresh_T (fl := fl) st (rv.append rw) hp
        exact q A _ _ w1 w2 w3
    · cases e
  · cases e
/-! ### slices of lists -/
theorem cutD_rep {k : Cn} {A : Nat → Addr} {C : Store} {H : Hp} {vs : List V} {xs : List D} (r : RepL k A C H vs xs) (lo hi : Option Int) : RepL k A C H (cutV vs lo hi) (cutD xs lo hi) := by
  unfold cutV cutD
  rw [r.length]
  exact (r.drop _).take _
def LO (k : Cn) (W : WX) (m : Fr → Store → R (Option Int)) : TO := fun σ H Q => ∃ A F C, SR k A F C σ H ∧ Aft k F.fl A C H (fun _ _ _ (v d : Option Int) => v = d) (m F C) (fun _ _ _ H' v => Q v H') (fun c d H' => W c d σ H')
section
variable {X : Cx} {k : Cn} {W : WX} {σ : L2.St} {H : Hp} {Q : VK}
theorem _root_.L2.PO.cq {X : Cx} {e : Option Expr} {t t' : TO} (h : PO X e t) (c : ∀ σ H Q, t' σ H Q → t σ H Q) : PO X e t' := ⟨fun pins s σ H Q I q => h.run pins s σ H Q I (c σ H Q q)⟩
theorem do_none : PO X none (LO k W mNoPart) := po_none.cq fun σ H Q h => by
  obtain ⟨A, F, C, s, h⟩ := h
  exact h A H none Stp.refl s.st rfl
theorem do_some {e : Expr} {m : ME} (h : PE X e (LE k W m)) : PO X (some e) (LO k W (mPart m)) := (po_some h).cq fun σ H Q h => by
  obtain ⟨A, F, C, s, h⟩ := h
  refine ⟨A, F, C, s, (Aft.bnd (rel := RepD k) h).mono fun dx C1 A1 H1 x p1 st1 rx h1 => ?_⟩
  cases rx with
  | int i => exact ⟨i, rfl, h1 A1 H1 (some i) Stp.refl st1 rfl⟩
  | _ => exact h1.elim
theorem vLs_at {A : Nat → Addr} {C : Store} {v : V} {d : D} {ds : List D} (st : StOk k A C H) (r : Rep k A C H v d) (e : vLs d C = some ds) : ∃ a vs, v = .ref a ∧ SqL k.K H a vs ∧ RepL k A C H vs ds := by
  cases d with
  | scr xs =>
    cases r with
    | scr l h rv => cases e; exact ⟨_, _, rfl, .inl (.inr ⟨_, h⟩), rv⟩
    | kscr h rv => cases e; exact ⟨_, _, rfl, .inr h, rv⟩
  | lst xs => obtain ⟨a, vs, rfl, ha, rv⟩ := vL_at st r e; exact ⟨a, vs, rfl, .inl (.inl ha), rv⟩
  | cell i => obtain ⟨a, vs, rfl, ha, rv⟩ := vL_at st r e; exact ⟨a, vs, rfl, .inl (.inl ha), rv⟩
  | _ => cases e
theorem le_slL {own : Bool} {ma : ME} {l h' : Fr → Store → R (Option Int)} (h : LE k W (mSlL own ma l h') σ H Q) : tSl (rSlL k.K) (LE k W ma) (LO k W l) (LO k W h') σ H Q := by
  obtain ⟨A, F, C, s, h⟩ := h
  refine ⟨A, F, C, s, (Aft.bnd (rel := RepD k) h).mono fun dx C1 A1 H1 x p1 st1 rx h1 => ?_⟩
  have s1 := s.step p1 st1
  refine ⟨A1, F, C1, s1, (Aft.bnd (rel := fun _ _ _ (v d : Option Int) => v = d) h1).mono fun lo C2 A2 H2 lo' p2 st2 rl h2 => ?_⟩
  have rl : lo' = lo := rl
  subst rl
  have s2 := s1.step p2 st2
  refine ⟨A2, F, C2, s2, (Aft.bnd (rel := fun _ _ _ (v d : Option Int) => v = d) h2).mono fun hi C3 A3 H3 hi' p3 st3 rh h3 => ?_⟩
  have rh : hi' = hi := rh
  subst rh
  have s3 := s2.step p3 st3
  split at h3
  · rename_i xs ev
    obtain ⟨a, vs, rfl, ha, rv⟩ := vLs_at st3 (p3.rep _ _ (p2.rep _ _ rx)) ev
    refine ⟨a, vs, rfl, ha, fun p hp => ?_⟩
    obtain ⟨A4, w1, w2, w3⟩ := fresh_L (own := own) s3.fl st3 (cutD_rep rv lo' hi') hp
    exact h3 A4 _ _ w1 w2 w3
  · exact h3.elim
theorem de_slL (own : Bool) {e : Expr} {lo hi : Option Expr} {p2 pos : Pos} {ma : ME} {l h : Fr → Store → R (Option Int)} (hK : X.K = k.K) (he : PE X e (LE k W ma)) (hl : PO X lo (LO k W l)) (hu : PO X hi (LO k W h)) : PE X (.Subscript e (.Slice lo hi none p2) pos) (LE k W (mSlL own ma l h)) :=
  (pe_slice sl_list he hl hu).cq fun _ _ _ h => by
    rw [hK]
    exact le_slL h
end
end CT
set_option maxHeartbeats 4000000
/-! DLA: instances made, attributes stored, properties, isinstance. -/
namespace CT
open PySem L2 PySem.Spec PyProof.Rows
/-! ### C(..) -/
def mMake (own : Bool) (c nf : Nat) (m : MF) (dds : List D) (a : MA) : ME := fun F C => bnd (a F C) fun ds C1 => match m (.cell C1.length :: (ds ++ dds)) (C1 ++ [some (.ins c [])]) with
  | .ok .non C2 => if own = true then .ok (.cell C1.length) C2 else (match C2[C1.length]? with
    | some (some (.ins c' fs)) => if c' = c ∧ fs.length = nf ∧ cbL C1.length fs = true then .ok (.obj c fs) (C2.take C1.length) else .stuck
    | _ => .stuck)
  | .exc e C2 => if cbL C1.length e.fs = true then .exc e (C2.take C1.length) else .stuck
  | _ => .stuck
def tMakeS (Cc : Addr) (sp : Sp) (dvs : List V) (E : L2.St → XK) (t : TA) : TE := fun σ H Q => t σ H fun vs H1 => ∀ x dx, H1 x = none → H1 dx = none → dx ≠ x →
  sp (.ref x :: (vs ++ dvs)) (upd (upd H1 dx (.own x)) x (.ins Cc dx [])) (fun v H2 => v = .non ∧ Q (.ref x) H2) (E σ)
section
variable {X : Cx} {k : Cn} {W : WX} {σ : L2.St} {H : Hp} {Q : VK} {lev : Nat} {f C p g : Addr} {fd : FuncData} {ps : List Str} {np : Nat} {m : MF} {dvs : List V} {dds : List D} {ds : List Value} {x nm : Str} {pn pos apos : Pos} {e o : Expr} {es : List Expr} {ma : MA} {mo : ME}
theorem run_makeG {sp : Sp} {E : L2.St → XK} {pins : List (Addr × Obj)} {σ : L2.St} {H : Hp} {s : Shared} {Q : VK} {us : List Value} {vs : List V} (M : Mk X.K C f) (F : FnG X.prog X.w X.K X.mg X.base lev f fd ps sp) (hr : RoomG (lev + 1) X.A) (hb : Binds X.K fd ps ds) (hd : Vals dvs ds)
    (hx : ∀ σ, PassesAt (L2.CX X.prog X.w) X σ (E σ)) (I : Inv X pins σ H s) (r : Vals vs us)
    (h : ∀ x dx, H x = none → H dx = none → dx ≠ x → sp (.ref x :: (vs ++ dvs)) (upd (upd H dx (.own x)) x (.ins C dx [])) (fun v H2 => v = .non ∧ Q (.ref x) H2) (E σ)) :
    wpAny (model X.prog X.w) X.A (call (.ref C) us) (EP X pins σ Q) X.xe s := by
  have hq := h (s.heap.objs.size + 1) s.heap.objs.size (I.hok.fresh (Nat.le_succ _)) (I.hok.fresh (Nat.le_refl _)) (Nat.ne_of_lt (Nat.lt_succ_self _))
  have I2 := Inv.made (C := C) I
  have r2 : Vals (V.ref (s.heap.objs.size + 1) :: (vs ++ dvs)) (Value.ref (s.heap.objs.size + 1) :: (us ++ ds)) := .cons rfl (r.append hd)
  have hl : (Value.ref (s.heap.objs.size + 1) :: us ++ ds).length = ps.length := by
    have e := r2.length
    rw [F.len _ _ _ _ hq] at e
    exact e.symm
  refine wpAny_call (make_map (f := f) I.kIn M.makes M.init (beq_iff_eq.mp M.fn) (codeAny_mono (F.run _ X.stack _ _ ⟨Value.ref (s.heap.objs.size + 1) :: us, []⟩ (Value.ref (s.heap.objs.size + 1) :: (us ++ ds)) _ _ (E σ) (hr.make C us [])
    (I2.env0.make C us []) (hb _ (Value.ref (s.heap.objs.size + 1) :: us) I2.kIn hl) r2 hq) fun r s' hq' => ?_))
  cases r with
  | error e => exact hx σ pins _ _ e s' I2 hq'
  | ok fl =>
    cases fl with
    | ret u =>
      obtain ⟨v, H', I3, rv, ev, q3⟩ := I2.after hq'
      subst ev
      exact ⟨rv, ⟨V.ref (s.heap.objs.size + 1), H', I3, rfl, q3⟩⟩
    | next => exact False.elim hq'
    | brk => exact False.elim hq'
    | cont => exact False.elim hq'
theorem pe_makeG {sp : Sp} {E : L2.St → XK} {t : TA} (M : Mk X.K C f) (F : FnG X.prog X.w X.K X.mg X.base lev f fd ps sp) (hr : RoomG (lev + 1) X.A) (hg : Gl X x) (hm : X.mg x = some (.ref C)) (hb : Binds X.K fd ps ds) (hd : Vals dvs ds) (hx : ∀ σ, PassesAt (L2.CX X.prog X.w) X σ (E σ))
    (ha : PA X (e :: es) t) (hdb : (x == ("__debug__" : Str)) = false := by decide) (he : starEach (e :: es) X.env = (false, eval e X.env) :: starEach es X.env := by rfl) (hpl : (backTo pos (starEach es X.env)).any (·.1) = false := by rfl) :
    PE X (.Call (.Name x pn) (e :: es) [] pos) (tMakeS C sp dvs E t) := by
  refine ⟨fun pins s σ H Q I h => ?_⟩
  refine wpAny_Call_Name_kw (ld_glob I hg hm ?_ hdb)
  refine PySem.W.callWith_K (h₀ := X.base) I.ok.mod.kin M.kp (thn (ha.run pos pins s σ H _ I h) fun us s1 ⟨vs, H1, I1, r, q⟩ => ⟨I1.kIn, ?_⟩) he hpl
  exact run_makeG M F hr hb hd hx I1 r q
theorem le_make {own : Bool} {c nf : Nat} (ar : Ar np m) (hnf : (k.fn c).length = nf) (hdd : ∀ A C H, RepL k A C H dvs dds) (h : LE k W (mMake own c nf m dds ma) σ H Q) : tMakeS (k.cl c) (SpD k np m) dvs (WE W) (LA k W ma) σ H Q := by
  obtain ⟨A, F, C, s, h⟩ := h
  refine ⟨A, F, C, s, (Aft.bnd (rel := RepDs k) h).mono fun xs C1 A1 H1 vs p1 st1 r1 h1 => ?_⟩
  have s1 := s.step p1 st1
  intro x dx hx hdx hne
  have hx' : (upd H1 dx (.own x)) x = none := by rw [upd_ne (Ne.symm hne)]; exact hx
  have k1 : Kp A1 C1 H1 A1 C1 (upd H1 dx (.own x)) := kp_new hdx
  have st2 : StOk k A1 C1 (upd H1 dx (.own x)) := st1.new hdx
  have k2 : Kp A1 C1 (upd H1 dx (.own x)) (ext A1 C1.length x) (C1 ++ [some (.ins c [])]) (upd (upd H1 dx (.own x)) x (.ins (k.cl c) dx [])) := kp_cell (k := k) st2 hx'
  have st3 : StOk k (ext A1 C1.length x) (C1 ++ [some (.ins c [])]) (upd (upd H1 dx (.own x)) x (.ins (k.cl c) dx [])) := st2.cell hx' ⟨dx, [], upd_same, Nat.zero_le _, .nil⟩
  have pp : Stp k C1.length A1 C1 H1 (ext A1 C1.length x) (C1 ++ [some (.ins c [])]) (upd (upd H1 dx (.own x)) x (.ins (k.cl c) dx [])) := (k1.stp0).trans (k2.stp fun f h1 h2 l => low_app h2 l)
  have ppF := pp.less s1.fl
  have n1 : C1.length < (C1 ++ [some (Cell.ins c [])]).length := by simp
  have rs : RepL k (ext A1 C1.length x) (C1 ++ [some (.ins c [])]) (upd (upd H1 dx (.own x)) x (.ins (k.cl c) dx [])) (.ref x :: (vs ++ dvs)) (.cell C1.length :: (xs ++ dds)) := .cons (rep_new C1.length _) ((pp.reps r1).append (hdd _ _ _))
  have low0 : LowC C1.length (C1 ++ [some (Cell.ins c [])]) := low_app (Nat.le_refl _) st1.low
  refine sp_of (fl := C1.length) (Nat.le_of_lt n1) ar st3 rs ?_
  cases em : m (.cell C1.length :: (xs ++ dds)) (C1 ++ [some (.ins c [])]) with
  | ok d C2 =>
    rw [em] at h1
    intro A3 H3 v p3 st4 r3
    obtain ⟨ha3, hl3⟩ := cell_at p3 (ext_at A1 C1.length x) n1
    have p3n : Stp k C1.length A1 C1 H1 A3 C2 H3 := pp.trans p3
    have low3 : LowC C1.length C2 := p3.low _ (Nat.le_refl _) (Nat.le_of_lt n1) low0
    cases d with
    | non =>
      cases r3
      refine ⟨rfl, ?_⟩
      simp only at h1
      cases own with
      | true =>
        rw [if_pos rfl] at h1
        have r : Rep k A3 C2 H3 (.ref (A3 C1.length)) (.cell C1.length) := .cell hl3
        rw [ha3] at r
        exact h1 A3 H3 _ (p3n.less s1.fl) st4 r
      | false =>
        rw [if_neg (by decide)] at h1
        split at h1
        · rename_i c' fs ec
          split at h1
          · rename_i hc
            obtain ⟨rfl, hfs, hcb⟩ := hc
            obtain ⟨dx3, ws, hw, hle, rw3⟩ := st4.at_ _ _ ec
            have tl : (C2.take C1.length).length = C1.length := by rw [List.length_take]; omega
            have p4 : Stp k F.fl A1 C1 H1 A3 (C2.take C1.length) H3 := ⟨fun v d r => (p3n.rep v d r).cut (Nat.le_of_lt hl3) r.cb, by rw [tl]; exact Nat.le_refl _, fun f h1 h2 l => low_take ((p3n.less s1.fl).low f h1 h2 l)⟩
            refine h1 A3 H3 _ p4 (st4.take (Nat.le_of_lt hl3) low3) ?_
            rw [← ha3]
            refine .obj (fun l => ?_) (dx := dx3) (vs := ws) ?_ ?_ (rw3.cut (Nat.le_of_lt hl3) hcb)
            · obtain ⟨i, c, e, z⟩ := l
              by_cases hi : i < C1.length
              · rw [List.getElem?_take_of_lt hi] at e
                exact absurd (st4.inj i _ _ _ e ec z) (Nat.ne_of_lt hi)
              · rw [List.getElem?_eq_none (by rw [tl]; omega)] at e
                cases e
            · rw [hw, hfs, ← hnf, List.take_length]
            · rw [rw3.length, hfs, hnf]
          · exact h1.elim
        · exact h1.elim
    | _ => simp only at h1; exact h1.elim
  | exc e C2 =>
    rw [em] at h1
    simp only at h1
    intro A3 H3 dd ws p3 st4 hx3 hl3' r3
    obtain ⟨ha3, hl3⟩ := cell_at p3 (ext_at A1 C1.length x) n1
    have p3n : Stp k C1.length A1 C1 H1 A3 C2 H3 := pp.trans p3
    have low3 : LowC C1.length C2 := p3.low _ (Nat.le_refl _) (Nat.le_of_lt n1) low0
    split at h1
    · rename_i hcb
      have tl : (C2.take C1.length).length = C1.length := by rw [List.length_take]; omega
      have p4 : Stp k F.fl A1 C1 H1 A3 (C2.take C1.length) H3 := ⟨fun v d r => (p3n.rep v d r).cut (Nat.le_of_lt hl3) r.cb, by rw [tl]; exact Nat.le_refl _, fun f h1 h2 l => low_take ((p3n.less s1.fl).low f h1 h2 l)⟩
      exact h1 A3 H3 dd ws p4 (st4.take (Nat.le_of_lt hl3) low3) hx3 hl3' (r3.cut (Nat.le_of_lt hl3) hcb)
    · exact h1.elim
  | stuck =>
    rw [em] at h1
    exact h1.elim
theorem de_make (own : Bool) (c nf : Nat) (tk : Takes X W) (hK : X.K = k.K) (M : Mk k.K (k.cl c) f) (F : FnG X.prog X.w X.K X.mg X.base lev f fd ps (SpD k np m)) (ar : Ar np m) (hnf : (k.fn c).length = nf) (hr : RoomG (lev + 1) X.A) (hg : Gl X x) (hm : X.mg x = some (.ref (k.cl c))) (hb : Binds X.K fd ps ds) (hd : Vals dvs ds) (hdd : ∀ A C H, RepL k A C H dvs dds)
    (ha : PA X (e :: es) (LA k W ma)) (hdb : (x == ("__debug__" : Str)) = false := by decide) (he : starEach (e :: es) X.env = (false, eval e X.env) :: starEach es X.env := by rfl) (hpl : (backTo pos (starEach es X.env)).any (·.1) = false := by rfl) :
    PE X (.Call (.Name x pn) (e :: es) [] pos) (LE k W (mMake own c nf m dds ma)) := (pe_makeG (by rw [hK]; exact M) F hr hg hm hb hd (fun σ => passAt tk σ) ha hdb he hpl).cq fun _ _ _ h => le_make ar hnf hdd h
/-! ### o.f = e -/
def sFldS (c n : Nat) (me mo : ME) : MS := fun F C => bndS F.sl (me F C) fun v C1 => bndS F.sl (mo F C1) fun o C2 => match o with
  | .cell i => match C2[i]? with
    | some (some (.ins c' fs)) => if c' = c ∧ n ≤ fs.length then (match wr F.fl i (.ins c (if n < fs.length then fs.set n v else fs ++ [v])) C2 with
      | some C3 => .nx F.sl C3
      | none => .stuck) else .stuck
    | _ => .stuck
  | _ => .stuck
end
theorem putF_set {y : V} {f : Str} : ∀ {names : List Str} {vs : List V} {n : Nat}, names.Nodup → vs.length = names.length → names[n]? = some f → putF f y (names.zip vs) = names.zip (vs.set n y)
  | [], _, _, _, _, h => by simp at h
  | a :: r, [], _, _, hl, _ => by simp at hl
  | a :: r, b :: t, 0, nd, hl, h => by
    simp at h
    subst h
    simp [putF]
  | a :: r, b :: t, n + 1, nd, hl, h => by
    simp at h hl
    simp only [List.nodup_cons] at nd
    have ne : ¬ (a = f) := fun e => nd.1 (by rw [e]; exact List.mem_of_getElem? h)
    rw [List.zip_cons_cons, List.set_cons_succ, List.zip_cons_cons]
    show (if a = f then _ else (a, b) :: putF f y (r.zip t)) = _
    rw [if_neg ne, putF_set nd.2 hl h]
theorem putF_new {y : V} {f : Str} : ∀ {names : List Str} {vs : List V}, f ∉ names → vs.length = names.length → putF f y (names.zip vs) = (names ++ [f]).zip (vs ++ [y])
  | [], [], _, _ => rfl
  | [], _ :: _, _, hl => by simp at hl
  | a :: r, [], _, hl => by simp at hl
  | a :: r, b :: t, h, hl => by
    simp only [List.mem_cons, not_or] at h
    simp at hl
    rw [List.zip_cons_cons]
    show (if a = f then _ else (a, b) :: putF f y (r.zip t)) = _
    rw [if_neg (fun e => h.1 e.symm), putF_new h.2 hl]
    rfl
section
variable {X : Cx} {k : Cn} {W : WX} {σ : L2.St} {H : Hp} {E : Ends} {e o : Expr} {me mo : ME} {pos pos' : Pos}
theorem ls_fld {c n : Nat} {f : Str} (hc : Cls k.K (k.cl c)) (hno : NoAttr k.K (k.cl c) f) (nd : (k.fn c).Nodup) (hf : (k.fn c)[n]? = some f) (h9 : (k.fn c).length < 1000) (h : LS k W (sFldS c n me mo) E σ H) : sFld k.K (LE k W mo) (LE k W me) f E σ H := by
  obtain ⟨A, F, C, s, h⟩ := h
  refine ⟨A, F, C, s, (AftS.bnd (rel := RepD k) s h).mono fun dv C1 A1 H1 v p1 st1 rv h1 => ?_⟩
  have s1 := s.step p1 st1
  refine ⟨A1, F, C1, s1, (AftS.bnd (rel := RepD k) s1 h1).mono fun dO C2 A2 H2 o p2 st2 ro h2 => ?_⟩
  have s2 := s1.step p2 st2
  cases ro with
  | @cell i hi =>
    simp only at h2
    split at h2
    · rename_i c' fs ec
      split at h2
      · rename_i hcn
        obtain ⟨rfl, hn⟩ := hcn
        cases ew : wr F.fl i (.ins c' (if n < fs.length then fs.set n dv else fs ++ [dv])) C2 with
        | none => simp only [ew] at h2; exact h2.elim
        | some C3 =>
          simp only [ew] at h2
          obtain ⟨dx, vs, ha, hle, rvs⟩ := st2.at_ i _ ec
          have hnl : n < (k.fn c').length := (List.getElem?_eq_some_iff.mp hf).1
          obtain ⟨rfl, hcb⟩ := wr_some ew
          have hz : (((k.fn c').take fs.length).zip vs).length < 1000 := by rw [List.length_zip, List.length_take]; omega
          refine ⟨A2 i, k.cl c', dx, _, rfl, ha, hc, hno, hz, ?_⟩
          have vl : vs.length = ((k.fn c').take fs.length).length := by rw [rvs.length, List.length_take]; omega
          have rv2 := p2.rep _ _ rv
          by_cases hlt : n < fs.length
          · rw [if_pos hlt] at h2 hcb
            have e1 : putF f v (((k.fn c').take fs.length).zip vs) = ((k.fn c').take (fs.set n dv).length).zip (vs.set n v) := by
              rw [List.length_set]
              exact putF_set (nd.sublist (List.take_sublist _ _)) vl (by rw [List.getElem?_take_of_lt hlt]; exact hf)
            rw [e1]
            have q : Kp A2 C2 H2 A2 (C2.set i (some (.ins c' (fs.set n dv)))) (upd H2 (A2 i) (.ins (k.cl c') dx (((k.fn c').take (fs.set n dv).length).zip (vs.set n v)))) := kp_write ec
            have w1 : Stp k F.fl A2 C2 H2 A2 _ _ := q.stp fun f h1 h2 l => low_set hcb h1 l
            have w2 : StOk k A2 _ _ := st2.write ec (c := .ins c' (fs.set n dv)) ⟨dx, vs.set n v, upd_same, by simpa using hle, (rvs.set rv2 n).kp q⟩
            exact h2 A2 σ _ w1 (s2.step w1 w2)
          · have en : n = fs.length := by omega
            rw [if_neg hlt] at h2 hcb
            have e1 : putF f v (((k.fn c').take fs.length).zip vs) = ((k.fn c').take (fs ++ [dv]).length).zip (vs ++ [v]) := by
              have e2 : (k.fn c').take (fs ++ [dv]).length = (k.fn c').take fs.length ++ [f] := by
                rw [List.length_append, List.length_singleton, List.take_add_one, ← en, hf]
                rfl
              rw [e2]
              refine putF_new (fun hm => ?_) vl
              obtain ⟨j, hj⟩ := List.mem_iff_getElem?.mp hm
              have hjl : j < fs.length := by
                have := (List.getElem?_eq_some_iff.mp hj).1
                rw [List.length_take] at this
                omega
              rw [List.getElem?_take_of_lt hjl] at hj
              have := nd_ix nd hj hf
              omega
            rw [e1]
            have q : Kp A2 C2 H2 A2 (C2.set i (some (.ins c' (fs ++ [dv])))) (upd H2 (A2 i) (.ins (k.cl c') dx (((k.fn c').take (fs ++ [dv]).length).zip (vs ++ [v])))) := kp_write ec
            have w1 : Stp k F.fl A2 C2 H2 A2 _ _ := q.stp fun f h1 h2 l => low_set hcb h1 l
            have w2 : StOk k A2 _ _ := st2.write ec (c := .ins c' (fs ++ [dv])) ⟨dx, vs ++ [v], upd_same, by simp; omega, (rvs.append (.cons rv2 .nil)).kp q⟩
            exact h2 A2 σ _ w1 (s2.step w1 w2)
      · exact h2.elim
    · exact h2.elim
  | _ => exact h2.elim
theorem ds_fld (c n : Nat) {f : Str} (hK : X.K = k.K) (hc : Cls k.K (k.cl c)) (hno : NoAttr k.K (k.cl c) f) (nd : (k.fn c).Nodup) (hf : (k.fn c)[n]? = some f) (h9 : (k.fn c).length < 1000) (ho : PE X o (LE k W mo)) (he : PE X e (LE k W me)) (hs : swapsWith e (some (.Attribute o f pos')) pos.line X.env = pure false := by rfl) :
    PS X (.Assign [.Attribute o f pos'] e pos) (LS k W (sFldS c n me mo)) := (ps_fld ho he hs).cq fun _ _ _ h => by
  rw [hK]
  exact ls_fld hc hno nd hf h9 h
end
end CT
set_option maxHeartbeats 4000000
/-! DLB: properties, isinstance, comprehensions as statements, two clauses. -/
namespace CT
open PySem L2 PySem.Spec PyProof.Rows
/-! ### o.f, a property -/
/-! ### isinstance -/
theorem isaT_ok : ∀ a b : Bt, kitB a.name b.name = some (isaT a b) := by
  intro a b
  cases a <;> cases b <;> decide +kernel
/-- what the written part says of the own classes in kn -/
structure IsaOk (k : Cn) (kn : List Nat) : Prop where
  ins : ∀ c ∈ kn, C8.InsC k.K (k.cl c)
  own : ∀ c ∈ kn, ∀ c' ∈ kn, PySem.W.kitOne k.K (.ref (k.cl c)) (.ref (k.cl c')) = some (decide (c = c'))
  bty : ∀ c ∈ kn, ∀ b : Bt, PySem.W.kitOne k.K (.ref (k.cl c)) (.type b.name) = some false
  tyb : ∀ c ∈ kn, ∀ b : Bt, PySem.W.kitOne k.K (.type b.name) (.ref (k.cl c)) = some false
def Cc.inn (kn : List Nat) : Cc → Bool
  | .ty _ => true
  | .own c => decide (c ∈ kn)
section
variable {X : Cx} {k : Cn} {W : WX} {σ : L2.St} {H : Hp} {Q : VK}
theorem isi_ok {kn : List Nat} (ok : IsaOk k kn) {A : Nat → Addr} {C : Store} {v : V} {d : D} {t : Cc} {b : Bool} (ht : t.inn kn = true) (st : StOk k A C H) (r : Rep k A C H v d) (e : isi kn d C t = some b) : ∃ c0 : Cc, tyD d C = some c0 ∧ TyX k.K H v (c0.val k) ∧ PySem.W.kitOne k.K (c0.val k) (t.val k) = some b := by
  have base : ∀ a : Bt, tyD d C = some (.ty a) → PySem.W.kitOne k.K (.type a.name) (t.val k) = some b := fun a ea => by
    unfold isi at e
    rw [ea] at e
    cases t with
    | ty b' =>
      cases e
      exact kit_ty (isaT_ok a b')
    | own c =>
      cases e
      exact ok.tyb c (of_decide_eq_true ht) a
  have inst : ∀ c fs dx (a : Addr), tyD d C = some (.own c) → H a = some (.ins (k.cl c) dx fs) → ∃ c0 : Cc, tyD d C = some c0 ∧ TyX k.K H (.ref a) (c0.val k) ∧ PySem.W.kitOne k.K (c0.val k) (t.val k) = some b := fun c fs dx a ea ha => by
    unfold isi at e
    rw [ea] at e
    simp only at e
    split at e
    · rename_i hc
      have I := ok.ins c hc
      refine ⟨.own c, ea, .base (.ins ha I.cl I.ha I.hn I.htk I.hm), ?_⟩
      cases t with
      | ty b' => cases e; exact ok.bty c hc b'
      | own c' => cases e; exact ok.own c hc c' (of_decide_eq_true ht)
    · cases e
  cases r with
  | non => exact ⟨.ty .none, rfl, .base .non, base .none rfl⟩
  | bl b => exact ⟨.ty .bool, rfl, .base (.bl b), base .bool rfl⟩
  | int i => exact ⟨.ty .int, rfl, .base (.int i), base .int rfl⟩
  | str s => exact ⟨.ty .str, rfl, .base (.str s), base .str rfl⟩
  | lst l h rv => exact ⟨.ty .list, rfl, .base (.lst h), base .list rfl⟩
  | tup l h rv => exact ⟨.ty .tuple, rfl, .base (.tup h), base .tuple rfl⟩
  | ktup h rv =>
    obtain ⟨o, its, n, h1, h2, _⟩ := h
    exact ⟨.ty .tuple, rfl, .kTuple h1 h2, base .tuple rfl⟩
  | scr l h rv => cases e
  | kscr h rv => cases e
  | obj l h z rv => exact inst _ _ _ _ rfl h
  | exn x l h z rv => cases e
  | cls c => cases e
  | dT l h rv => exact ⟨.ty .dict, rfl, .base (.dT h), base .dict rfl⟩
  | @cell i hi =>
    cases ec : C[i]? with
    | none => simp only [isi, tyD, ec] at e; cases e
    | some oc =>
      cases oc with
      | none => simp only [isi, tyD, ec] at e; cases e
      | some c =>
        cases c with
        | lst xs =>
          obtain ⟨vs, hv, _⟩ := st.at_ i _ ec
          exact ⟨.ty .list, by simp only [tyD, ec], .base (.lst hv), base .list (by simp only [tyD, ec])⟩
        | dT ks xs =>
          obtain ⟨vs, hv, _⟩ := st.at_ i _ ec
          exact ⟨.ty .dict, by simp only [tyD, ec], .base (.dT hv), base .dict (by simp only [tyD, ec])⟩
        | ins c xs =>
          obtain ⟨dx, vs, hv, _⟩ := st.at_ i _ ec
          exact inst c _ dx _ (by simp only [tyD, ec]) hv
theorem le_isi {kn : List Nat} {t : Cc} {m : ME} (ok : IsaOk k kn) (ht : t.inn kn = true) (h : LE k W (mIsi kn t m) σ H Q) : tCB (rIsi k.K) (tCons (LE k W m) (tCons (tC (t.v k)) tNil)) σ H Q := by
  obtain ⟨A, F, C, s, h⟩ := h
  refine ⟨A, F, C, s, (Aft.bnd (rel := RepD k) h).mono fun d C1 A1 H1 v p1 st1 r1 h1 => ?_⟩
  split at h1
  · rename_i b e
    obtain ⟨c0, _, h2, h3⟩ := isi_ok ok ht st1 r1 e
    exact ⟨v, t.v k, c0.val k, t.val k, b, rfl, t.cls, h2, h3, h1 A1 H1 _ Stp.refl st1 (.bl b)⟩
  · exact h1.elim
theorem le_isi2 {kn : List Nat} {t u : Cc} {m : ME} (ok : IsaOk k kn) (ht : t.inn kn = true) (hu : u.inn kn = true) (h : LE k W (mIsi2 kn t u m) σ H Q) : tCB (rIsiT k.K) (tCons (LE k W m) (tCons (tTup (tCons (tC (t.v k)) (tCons (tC (u.v k)) tNil))) tNil)) σ H Q := by
  obtain ⟨A, F, C, s, h⟩ := h
  refine ⟨A, F, C, s, (Aft.bnd (rel := RepD k) h).mono fun d C1 A1 H1 v p1 st1 r1 h1 => ?_⟩
  split at h1
  · rename_i b b' e e'
    refine ⟨by show 2 ≤ sizeLine; decide, fun p hp => ?_⟩
    have q : Kp A1 C1 H1 A1 C1 (upd H1 p (.tup [t.v k, u.v k])) := kp_new hp
    have r2 := r1.kp (k := k) q
    have st2 := st1.new (o := .tup [t.v k, u.v k]) hp
    obtain ⟨c0, g1, h2, h3⟩ := isi_ok ok ht st2 r2 e
    obtain ⟨c1, g2, h2', h3'⟩ := isi_ok ok hu st2 r2 e'
    rw [g1] at g2
    cases g2
    refine ⟨v, p, [t.v k, u.v k], c0.val k, [t.val k, u.val k], b || b', rfl, upd_same, .cons t.cls (.cons u.cls .nil), h2, ?_, h1 A1 _ _ q.stp0 st2 (.bl _)⟩
    refine kitAny_cons h3 (fun hb => ?_) fun hb => by rw [hb]; rfl
    refine kitAny_cons h3' (fun hb' => ?_) fun hb' => by rw [hb']; simp
    rw [hb, hb']
    rfl
  · exact h1.elim
end
end CT
set_option maxHeartbeats 4000000
/-! DLC: isinstance as an expression; comprehensions that are assigned, and of two clauses; xs[i] += e; membership; list(range(..)). -/
namespace CT
open PySem L2 PySem.Spec PyProof.Rows
section
variable {X : Cx} {k : Cn} {W : WX} {σ : L2.St} {H : Hp} {Q : VK} {E : Ends}
theorem de_isi {e c : Expr} {p pos : Pos} {kn : List Nat} {t : Cc} {m : ME} (hg : Gl X "isinstance") (hm : X.mg "isinstance" = none) (ok : IsaOk k kn) (ht : t.inn kn = true) (hK : X.K = k.K) (he : PE X e (LE k W m)) (hc : PE X c (tC (t.v k)))
    (hs : starEach [e, c] X.env = (false, eval e X.env) :: starEach [c] X.env := by rfl) (hs2 : starEach [c] X.env = (false, eval c X.env) :: starEach [] X.env := by rfl) (hpl : (backTo pos (starEach [c] X.env)).any (·.1) = false := by rfl) : PE X (.Call (.Name "isinstance" p) [e, c] [] pos) (LE k W (mIsi kn t m)) :=
  (pe_callB call_isi hg hm (by decide +kernel) (pa_cons he (pa_cons hc pa_nil hs2) hs) (he := hs) (hpl := hpl)).cq fun _ _ _ h => by
    rw [hK]
    exact le_isi ok ht h
theorem de_isi2 {e c c' : Expr} {p pos tp : Pos} {kk : Nat} {kn : List Nat} {t u : Cc} {m : ME} (hg : Gl X "isinstance") (hm : X.mg "isinstance" = none) (ok : IsaOk k kn) (ht : t.inn kn = true) (hu : u.inn kn = true) (hK : X.K = k.K) (he : PE X e (LE k W m)) (hc : PE X c (tC (t.v k))) (hc' : PE X c' (tC (u.v k)))
    (hs : starEach [e, .Tuple [c, c'] kk tp] X.env = (false, eval e X.env) :: starEach [.Tuple [c, c'] kk tp] X.env := by rfl) (hs2 : starEach [.Tuple [c, c'] kk tp] X.env = (false, eval (.Tuple [c, c'] kk tp) X.env) :: starEach [] X.env := by rfl) (hpl : (backTo pos (starEach [.Tuple [c, c'] kk tp] X.env)).any (·.1) = false := by rfl)
    (h3 : starEach [c, c'] X.env = (false, eval c X.env) :: starEach [c'] X.env := by rfl) (h4 : starEach [c'] X.env = (false, eval c' X.env) :: starEach [] X.env := by rfl) : PE X (.Call (.Name "isinstance" p) [e, .Tuple [c, c'] kk tp] [] pos) (LE k W (mIsi2 kn t u m)) :=
  (pe_callB call_isiT hg hm (by decide +kernel) (pa_cons he (pa_cons (pe_tup (pa_cons hc (pa_cons hc' pa_nil h4) h3)) pa_nil hs2) hs) (he := hs) (hpl := hpl)).cq fun _ _ _ h => by
    rw [hK]
    exact le_isi2 ok ht hu h
/-! ### tests of a clause -/
theorem _root_.L2.PTs.cq {X : Cx} {e : List Expr} {t t' : TT} (h : PTs X e t) (c : ∀ σ H Q, t' σ H Q → t σ H Q) : PTs X e t' := ⟨fun pins s σ H Q I q => h.run pins s σ H Q I (c σ H Q q)⟩
theorem dts_nil : PTs X [] (LT k W tYesM) := pts_nil.cq fun σ H Q h => by
  obtain ⟨A, F, C, s, h⟩ := h
  exact h A H true Stp.refl s.st rfl
/-! ### y = [..] -/
theorem ds_setLc {i : Nat} {y : Str} {py : Pos} {elt tg iter : Expr} {ifs : List Expr} {scope : Scope} {own : List (Str × Nat)} {pos spos : Pos} {mi : MI} {t : Tgt} {tt : MT} {te : ME} (ow : Bool) (hK : X.K = k.K) (hc : X.calm = true) (hN : X.N.Nodup) (hy : X.N[i]? = some y) (hyl : X.env.scope.names.lookup y = some .local)
    (hsw : swapsWith (.ListComp elt [⟨tg, iter, ifs, 0⟩] scope pos) (some (.Name y py)) spos.line X.env = pure true) (hi : PI X tg iter (LI k W mi)) (ok : BlkOk X.N X.env.scope scope own) (hv : ∀ i ∈ t.slots, i ∈ own.map (·.2))
    (hg : ∀ (s : Shared) (H : Hp) (C : Addr) (cl : List (Str × Addr)) (fp : List Addr), PG (X.blk s H scope (compEnvC scope cl C X.env) fp) tg (t.T k.K)) (ht : ∀ (s : Shared) (H : Hp) (C : Addr) (cl : List (Str × Addr)) (fp : List Addr), PTs (X.blk s H scope (compEnvC scope cl C X.env) fp) ifs (LT k WF tt))
    (he : ∀ (s : Shared) (H : Hp) (C : Addr) (cl : List (Str × Addr)) (fp : List Addr), PE (X.blk s H scope (compEnvC scope cl C X.env) fp) elt (LE k WF te)) (hs : ∀ x, foldedSetIterable iter X.env x = pure x := by intro _; rfl) :
    PS X (.Assign [.Name y py] (.ListComp elt [⟨tg, iter, ifs, 0⟩] scope pos) spos) (LS k W (sAsg (mLc ow mi t.M tt te (own.map (·.2))) (gN i))) :=
  (ps_setLc hc hN hy hyl hsw hi ok hg ht he hs).cq fun _ _ _ h => le_lc hv (ls_asg2 (t := .nm i) h)
/-! ### two clauses -/
def lc2N (it : ItD) (g : MG) (tt : MT) (mi1 : MI) (g1 : MG) (tt1 : MT) (te : ME) (n : Nat) (sl : List (Option D)) (vs1 : List Nat) : Nat → Nat → Store → R Unit
  | 0, _, C => if it.fin C = true then .ok () C else .stuck
  | r + 1, j, C => match it.item j C with
    | none => .stuck
    | some d => match g d sl with
      | none => .stuck
      | some sl1 => bn0 (tt ⟨n, sl1⟩ C) fun b C1 => if b = true then bn0 (mi1 ⟨n, sl1⟩ C1) fun it1 C2 => bn0 (lcN it1 g1 tt1 te n (wipeD sl1 vs1) it1.n 0 C2) fun _ C3 => lc2N it g tt mi1 g1 tt1 te n sl vs1 r (j + 1) C3
        else lc2N it g tt mi1 g1 tt1 te n sl vs1 r (j + 1) C1
def mLc2 (own : Bool) (mi : MI) (g : MG) (tt : MT) (mi1 : MI) (g1 : MG) (tt1 : MT) (te : ME) (vs vs1 : List Nat) : ME := fun F C => bnd (mi F C) fun it C1 => bn0 (lc2N it g tt mi1 g1 tt1 te C1.length (wipeD F.sl vs) vs1 it.n 0 (C1 ++ [some (.lst [])])) fun _ C2 => lcEnd own C1.length C2
theorem bn0_out {α β : Type} {m : R α} {f : α → Store → R β} {b : β} {C : Store} (h : bn0 m f = .ok b C) : ∃ a C1, m = .ok a C1 ∧ f a C1 = .ok b C := by
  cases m with
  | ok a C1 => exact ⟨a, C1, rfl, h⟩
  | exc e C1 => cases h
  | stuck => cases h
/-- the inner loop -/
theorem lc_inner {fl n : Nat} {J : It} {it : ItD} {t : Tgt} {tt : MT} {te : ME} {vs : List Nat} {sl0 : List (Option D)} {A : Nat → Addr} {C C3 : Store} {Dl : Addr} {Nx : Hp → Prop} (hv : ∀ i ∈ t.slots, i ∈ vs) (hf : fl ≤ n) (ok : ItOk k fl J it A C H) (sr : SR k A ⟨n, sl0⟩ C σ H) (hn : n < C.length) (ha : A n = Dl)
    (e : lcN it t.M tt te n (wipeD sl0 vs) it.n 0 C = .ok () C3) (hN : ∀ A' H', Stp k n A C H A' C3 H' → StOk k A' C3 H' → Nx H') :
    ∃ W1 : Nat → Nat → Hp → Prop, (∃ m, W1 0 m H) ∧ ∀ i m H, W1 i m H → (J.stop i H ∧ Nx H) ∨ (J.go i H ∧ ∃ Nx1 : Hp → Prop, (∀ H', Nx1 H' → ∃ m', m' < m ∧ W1 (i + 1) m' H') ∧ ∀ x H', J.yld i H x H' → t.T k.K x (L2.wipe σ vs) H' fun σ3 H5 => L2.wipe σ3 vs = L2.wipe σ vs ∧ LT k WF tt σ3 H5 fun b H6 =>
      if b = true then LE k WF te σ3 H6 fun y H7 => ∃ acc, H7 Dl = some (.lst acc) ∧ acc.length < sizeLine ∧ Nx1 (upd H7 Dl (.lst (acc ++ [y]))) else Nx1 H6) := by
  refine ⟨fun i m H' => ∃ A' C', m = it.n - i ∧ i ≤ it.n ∧ Stp k n A C H A' C' H' ∧ StOk k A' C' H' ∧ lcN it t.M tt te n (wipeD sl0 vs) (it.n - i) i C' = .ok () C3,
    ⟨it.n, _, _, rfl, Nat.zero_le _, Stp.refl, sr.st, e⟩, ?_⟩
  rintro i m H' ⟨A', C', rfl, hi, p, st', h'⟩
  obtain ⟨ha', hl'⟩ := cell_at p ha hn
  have low' : LowC n C' := p.low _ (Nat.le_refl _) (Nat.le_of_lt hn) sr.low
  obtain ⟨o1, o2⟩ := ok A' C' H' (p.less hf) st'
  cases er : it.n - i with
  | zero =>
    rw [er] at h'
    unfold lcN at h'
    have e : i = it.n := by omega
    split at h'
    · rename_i hf
      cases h'
      subst e
      exact .inl ⟨o2 hf, hN A' H' p st'⟩
    · cases h'
  | succ r =>
    rw [er] at h'
    unfold lcN at h'
    have hlt : i < it.n := by omega
    have hr : it.n - (i + 1) = r := by omega
    cases ei : it.item i C' with
    | none => simp only [ei] at h'; cases h'
    | some d =>
      simp only [ei] at h'
      obtain ⟨g1, g2⟩ := o1 i d hlt ei
      cases eg : t.M d (wipeD sl0 vs) with
      | none => simp only [eg] at h'; cases h'
      | some sl1 =>
        simp only [eg] at h'
        refine .inr ⟨g1, fun H4 => ∃ A4 C4, Stp k n A C H A4 C4 H4 ∧ StOk k A4 C4 H4 ∧ lcN it t.M tt te n (wipeD sl0 vs) (it.n - (i + 1)) (i + 1) C4 = .ok () C3,
          fun H4 ⟨A4, C4, a, b, c⟩ => ⟨it.n - (i + 1), by omega, A4, C4, rfl, by omega, a, b, c⟩, fun x H'' y => ?_⟩
        obtain ⟨A'', py, sty, rx⟩ := g2 x H'' y
        have py' : Stp k n A' C' H' A'' C' H'' := ⟨py.rep, py.len, fun f _ _ h => h⟩
        have s9 : SR k A'' ⟨n, wipeD sl0 vs⟩ C' (L2.wipe σ vs) H'' := ((sr.re (p.trans py') sty low' (Nat.le_of_lt hl')).wipe vs)
        refine Tgt.of (vs0 := vs) s9 rx eg fun σ2 s2 w2 => ⟨by rw [w2 hv, wipe_wipe], A'', ⟨n, sl1⟩, C', s2, ?_⟩
        cases et : tt ⟨n, sl1⟩ C' with
        | ok b C5 =>
          rw [et] at h'
          simp only [bn0_ok] at h'
          intro A5 H5 v5 p5 st5 e5
          have e5 : v5 = b := e5
          subst e5
          have s5 := s2.step p5 st5
          cases v5 with
          | true =>
            rw [if_pos rfl] at h'
            refine iteT ⟨A5, ⟨n, sl1⟩, C5, s5, ?_⟩
            cases ee : te ⟨n, sl1⟩ C5 with
            | ok yd C6 =>
              rw [ee] at h'
              simp only [bn0_ok] at h'
              intro A6 H6 v6 p6 st6 r6
              have pall := (p.trans py').trans (p5.trans p6)
              obtain ⟨ha6, hl6⟩ := cell_at pall ha hn
              split at h'
              · rename_i acc hc
                split at h'
                · rename_i hz
                  obtain ⟨ws, hw, rw6⟩ := st6.at_ _ _ hc
                  rw [ha6] at hw
                  obtain ⟨q1, q2⟩ := push_L (k := k) (fl := n) (Nat.le_refl _) st6 ha6 hc hw r6
                  refine ⟨ws, hw, by have := szN_le hz; rw [rw6.length]; omega, A6, _, pall.trans q1, q2, ?_⟩
                  rw [hr]
                  exact h'
                · cases h'
              · cases h'
            | exc e C6 => rw [ee] at h'; cases h'
            | stuck => rw [ee] at h'; cases h'
          | false =>
            rw [if_neg (by decide)] at h'
            refine iteF ⟨A5, C5, (p.trans py').trans p5, st5, ?_⟩
            rw [hr]
            exact h'
        | exc e C5 => rw [et] at h'; cases h'
        | stuck => rw [et] at h'; cases h'
theorem le_lc2 {own : Bool} {mi mi1 : MI} {t t1 : Tgt} {tt tt1 : MT} {te : ME} {vs vs1 : List Nat} (hv : ∀ i ∈ t.slots, i ∈ vs) (hv1 : ∀ i ∈ t1.slots, i ∈ vs1) (h : LE k W (mLc2 own mi t.M tt mi1 t1.M tt1 te vs vs1) σ H Q) :
    tLc2 (LI k W mi) (t.T k.K) (LT k WF tt) (LI k WF mi1) (t1.T k.K) (LT k WF tt1) (LE k WF te) vs vs1 σ H Q := by
  obtain ⟨A, F, C, s, h⟩ := h
  refine ⟨A, F, C, s, (Aft.bnd (rel := fun A C H (J : It) (it : ItD) => ItOk k F.fl J it A C H) h).mono fun it C1 A1 H1 J p1 st1 ok h1 => ?_⟩
  have s1 := s.step p1 st1
  intro Dl hD
  have q0 : Kp A1 C1 H1 (ext A1 C1.length Dl) (C1 ++ [some (.lst [])]) (upd H1 Dl (.lst [])) := kp_cell (k := k) st1 hD
  have p2 : Stp k C1.length A1 C1 H1 (ext A1 C1.length Dl) (C1 ++ [some (.lst [])]) (upd H1 Dl (.lst [])) := q0.stp fun f h1 h2 l => low_app h2 l
  have p2' : Stp k F.fl A1 C1 H1 (ext A1 C1.length Dl) (C1 ++ [some (.lst [])]) (upd H1 Dl (.lst [])) := p2.less s1.fl
  have st2 : StOk k (ext A1 C1.length Dl) (C1 ++ [some (.lst [])]) (upd H1 Dl (.lst [])) := st1.cell hD ⟨[], upd_same, .nil⟩
  have n1 : C1.length < (C1 ++ [some (Cell.lst [])]).length := by simp
  have low1 : LowC C1.length (C1 ++ [some (Cell.lst [])]) := p2.low _ (Nat.le_refl _) (Nat.le_refl _) st1.low
  obtain ⟨C3, e3, h3⟩ := bn0_inv h1
  refine ⟨fun i m H' => ∃ A' C', m = it.n - i ∧ i ≤ it.n ∧ Stp k C1.length (ext A1 C1.length Dl) (C1 ++ [some (.lst [])]) (upd H1 Dl (.lst [])) A' C' H' ∧ StOk k A' C' H' ∧ lc2N it t.M tt mi1 t1.M tt1 te C1.length (wipeD F.sl vs) vs1 (it.n - i) i C' = .ok () C3,
    ⟨it.n, _, _, rfl, Nat.zero_le _, Stp.refl, st2, e3⟩, ?_⟩
  rintro i m H' ⟨A', C', rfl, hi, p, st', h'⟩
  obtain ⟨ha', hl'⟩ := cell_at p (ext_at A1 C1.length Dl) n1
  have low' : LowC C1.length C' := p.low _ (Nat.le_refl _) (Nat.le_of_lt n1) low1
  have pF : Stp k F.fl (ext A1 C1.length Dl) (C1 ++ [some (.lst [])]) (upd H1 Dl (.lst [])) A' C' H' := p.less s1.fl
  obtain ⟨o1, o2⟩ := ok A' C' H' (p2'.trans pF) st'
  cases er : it.n - i with
  | zero =>
    rw [er] at h'
    unfold lc2N at h'
    have e : i = it.n := by omega
    split at h'
    · rename_i hf
      cases h'
      subst e
      exact .inl ⟨o2 hf, le_lcEnd s1.fl Stp.refl st1 (p2'.trans pF) low' st' ha' hl' h3⟩
    · cases h'
  | succ r =>
    rw [er] at h'
    unfold lc2N at h'
    have hlt : i < it.n := by omega
    have hr : it.n - (i + 1) = r := by omega
    cases ei : it.item i C' with
    | none => simp only [ei] at h'; cases h'
    | some d =>
      simp only [ei] at h'
      obtain ⟨g1, g2⟩ := o1 i d hlt ei
      cases eg : t.M d (wipeD F.sl vs) with
      | none => simp only [eg] at h'; cases h'
      | some sl1 =>
        simp only [eg] at h'
        refine .inr ⟨g1, fun H4 => ∃ A4 C4, Stp k C1.length (ext A1 C1.length Dl) (C1 ++ [some (.lst [])]) (upd H1 Dl (.lst [])) A4 C4 H4 ∧ StOk k A4 C4 H4 ∧ lc2N it t.M tt mi1 t1.M tt1 te C1.length (wipeD F.sl vs) vs1 (it.n - (i + 1)) (i + 1) C4 = .ok () C3,
          fun H4 ⟨A4, C4, a, b, c⟩ => ⟨it.n - (i + 1), by omega, A4, C4, rfl, by omega, a, b, c⟩, fun x H'' y => ?_⟩
        obtain ⟨A'', py, sty, rx⟩ := g2 x H'' y
        have py' : Stp k C1.length A' C' H' A'' C' H'' := ⟨py.rep, py.len, fun f _ _ h => h⟩
        have sr : SR k A'' ⟨C1.length, wipeD F.sl vs⟩ C' (L2.wipe σ vs) H'' := ((s1.re (p2.trans (p.trans py')) sty low' (Nat.le_of_lt hl')).wipe vs)
        refine Tgt.of (vs0 := vs) sr rx eg fun σ2 s2 w2 => ⟨by rw [w2 hv, wipe_wipe], A'', ⟨C1.length, sl1⟩, C', s2, ?_⟩
        obtain ⟨b, C5, et, h'⟩ := bn0_out h'
        rw [et]
        intro A5 H5 v5 p5 st5 e5
        have e5 : v5 = b := e5
        subst e5
        have s5 := s2.step p5 st5
        cases v5 with
        | true =>
          rw [if_pos rfl] at h'
          obtain ⟨it1, C6, em, h'⟩ := bn0_out h'
          obtain ⟨u, C7, el, h'⟩ := bn0_out h'
          refine iteT ⟨A5, ⟨C1.length, sl1⟩, C5, s5, ?_⟩
          rw [em]
          intro A6 H6 J1 p6 st6 ok6
          have pall := (p.trans py').trans (p5.trans p6)
          obtain ⟨ha6, hl6⟩ := cell_at pall (ext_at A1 C1.length Dl) n1
          refine lc_inner (fl := C1.length) (n := C1.length) hv1 (Nat.le_refl _) ok6 (s5.step p6 st6) hl6 ha6 el fun A7 H7 p7 st7 => ⟨A7, C7, pall.trans p7, st7, ?_⟩
          rw [hr]
          exact h'
        | false =>
          rw [if_neg (by decide)] at h'
          refine iteF ⟨A5, C5, (p.trans py').trans p5, st5, ?_⟩
          rw [hr]
          exact h'
section
variable {elt tg iter tg1 iter1 : Expr} {ifs ifs1 : List Expr} {scope : Scope} {own : List (Str × Nat)} {vs1 : List Nat} {pos : Pos} {mi mi1 : MI} {t t1 : Tgt} {tt tt1 : MT} {te : ME}
theorem de_lc2 (ow : Bool) (hK : X.K = k.K) (hc : X.calm = true) (hN : X.N.Nodup) (hi : PI X tg iter (LI k W mi)) (ok : BlkOk X.N X.env.scope scope own) (hv : ∀ i ∈ vs1, i ∈ own.map (·.2)) (hv0 : ∀ i ∈ t.slots, i ∈ own.map (·.2)) (hv1 : ∀ i ∈ t1.slots, i ∈ vs1)
    (hg : ∀ (s : Shared) (H : Hp) (C : Addr) (cl : List (Str × Addr)) (fp : List Addr), PG (X.blk s H scope (compEnvC scope cl C X.env) fp) tg (t.T k.K)) (ht : ∀ (s : Shared) (H : Hp) (C : Addr) (cl : List (Str × Addr)) (fp : List Addr), PTs (X.blk s H scope (compEnvC scope cl C X.env) fp) ifs (LT k WF tt))
    (hi1 : ∀ (s : Shared) (H : Hp) (C : Addr) (cl : List (Str × Addr)) (fp : List Addr), PI (X.blk s H scope (compEnvC scope cl C X.env) fp) tg1 iter1 (LI k WF mi1))
    (hg1 : ∀ (s : Shared) (H : Hp) (C : Addr) (cl : List (Str × Addr)) (fp : List Addr), PG (X.blk s H scope (compEnvC scope cl C X.env) fp) tg1 (t1.T k.K)) (ht1 : ∀ (s : Shared) (H : Hp) (C : Addr) (cl : List (Str × Addr)) (fp : List Addr), PTs (X.blk s H scope (compEnvC scope cl C X.env) fp) ifs1 (LT k WF tt1))
    (he : ∀ (s : Shared) (H : Hp) (C : Addr) (cl : List (Str × Addr)) (fp : List Addr), PE (X.blk s H scope (compEnvC scope cl C X.env) fp) elt (LE k WF te)) (hs : ∀ x, foldedSetIterable iter X.env x = pure x := by intro _; rfl) (hs1 : ∀ env x, foldedSetIterable iter1 env x = pure x := by intro _ _; rfl) :
    PE X (.ListComp elt [⟨tg, iter, ifs, 0⟩, ⟨tg1, iter1, ifs1, 0⟩] scope pos) (LE k W (mLc2 ow mi t.M tt mi1 t1.M tt1 te (own.map (·.2)) vs1)) :=
  (pe_lc2 hc hN hi ok hv hg ht hi1 hg1 ht1 he hs hs1).cq fun _ _ _ h => le_lc2 hv0 hv1 h
theorem ds_setLc2 {i : Nat} {y : Str} {py spos : Pos} (ow : Bool) (hK : X.K = k.K) (hc : X.calm = true) (hN : X.N.Nodup) (hy : X.N[i]? = some y) (hyl : X.env.scope.names.lookup y = some .local)
    (hsw : swapsWith (.ListComp elt [⟨tg, iter, ifs, 0⟩, ⟨tg1, iter1, ifs1, 0⟩] scope pos) (some (.Name y py)) spos.line X.env = pure true) (hi : PI X tg iter (LI k W mi)) (ok : BlkOk X.N X.env.scope scope own) (hv : ∀ i ∈ vs1, i ∈ own.map (·.2)) (hv0 : ∀ i ∈ t.slots, i ∈ own.map (·.2)) (hv1 : ∀ i ∈ t1.slots, i ∈ vs1)
    (hg : ∀ (s : Shared) (H : Hp) (C : Addr) (cl : List (Str × Addr)) (fp : List Addr), PG (X.blk s H scope (compEnvC scope cl C X.env) fp) tg (t.T k.K)) (ht : ∀ (s : Shared) (H : Hp) (C : Addr) (cl : List (Str × Addr)) (fp : List Addr), PTs (X.blk s H scope (compEnvC scope cl C X.env) fp) ifs (LT k WF tt))
    (hi1 : ∀ (s : Shared) (H : Hp) (C : Addr) (cl : List (Str × Addr)) (fp : List Addr), PI (X.blk s H scope (compEnvC scope cl C X.env) fp) tg1 iter1 (LI k WF mi1))
    (hg1 : ∀ (s : Shared) (H : Hp) (C : Addr) (cl : List (Str × Addr)) (fp : List Addr), PG (X.blk s H scope (compEnvC scope cl C X.env) fp) tg1 (t1.T k.K)) (ht1 : ∀ (s : Shared) (H : Hp) (C : Addr) (cl : List (Str × Addr)) (fp : List Addr), PTs (X.blk s H scope (compEnvC scope cl C X.env) fp) ifs1 (LT k WF tt1))
    (he : ∀ (s : Shared) (H : Hp) (C : Addr) (cl : List (Str × Addr)) (fp : List Addr), PE (X.blk s H scope (compEnvC scope cl C X.env) fp) elt (LE k WF te)) (hs : ∀ x, foldedSetIterable iter X.env x = pure x := by intro _; rfl) (hs1 : ∀ env x, foldedSetIterable iter1 env x = pure x := by intro _ _; rfl) :
    PS X (.Assign [.Name y py] (.ListComp elt [⟨tg, iter, ifs, 0⟩, ⟨tg1, iter1, ifs1, 0⟩] scope pos) spos) (LS k W (sAsg (mLc2 ow mi t.M tt mi1 t1.M tt1 te (own.map (·.2)) vs1) (gN i))) :=
  (ps_setLc2 hc hN hy hyl hsw hi ok hv hg ht hi1 hg1 ht1 he hs hs1).cq fun _ _ _ h => le_lc2 hv0 hv1 (ls_asg2 (t := .nm i) h)
end
/-! ### xs[i] += e -/
def rGetL : V → V → Hp → VK → Prop := fun o i H Q => ∃ p xs n v, o = .ref p ∧ i = .int n ∧ H p = some (.lst xs) ∧ 0 ≤ n ∧ xs[n.toNat]? = some v ∧ Q v H
theorem pget_L : PGet X rGetL := by
  intro pins s σ H o i ov iv Q I ro ri h
  obtain ⟨p, xs, n, v, rfl, rfl, hp, h0, hx, q⟩ := h
  cases ro
  obtain ⟨t, rfl⟩ := ri
  obtain ⟨its, r, pl, hz⟩ := I.list (Or.inl (Or.inl hp))
  obtain ⟨w, ew, rw'⟩ := r.get hx
  have hl := r.length
  have hn := line63
  have hlt : n.toNat < xs.length := (List.getElem?_eq_some_iff.mp hx).1
  exact wpAny_getItem_list pl.isList h0 (by omega) (by simpa using ew) ⟨v, H, I, rw', q⟩
theorem ls_augL {o : Int → Int → Int} {mo mi me : ME} (h : LS k W (sAugL o mo mi me) E σ H) : tAugS (LE k W mo) (LE k W mi) (LE k W me) rGetL (ipI o) rSetL E σ H := by
  obtain ⟨A, F, C, s, h⟩ := h
  refine ⟨A, F, C, s, (AftS.bnd (rel := RepD k) s h).mono fun dl C1 A1 H1 l p1 st1 rl h1 => ?_⟩
  have s1 := s.step p1 st1
  refine ⟨A1, F, C1, s1, (AftS.bnd (rel := RepD k) s1 h1).mono fun dx C2 A2 H2 x p2 st2 rx h2 => ?_⟩
  have s2 := s1.step p2 st2
  have rl2 := p2.rep _ _ rl
  cases rx with
  | int n =>
    cases ec : cL dl C2 with
    | none => simp only [ec] at h2; exact h2.elim
    | some q =>
      obtain ⟨i, ds⟩ := q
      simp only [ec] at h2
      obtain ⟨rfl, rfl, hi, vs, hv, rvs⟩ := cL_at st2 rl2 ec
      split at h2
      · rename_i h0
        split at h2
        · rename_i a ea
          obtain ⟨v, ev, rv⟩ := rvs.get ea
          cases rv
          refine ⟨A2 i, vs, n, _, rfl, rfl, hv, h0, ev, A2, F, C2, s2, (AftS.bnd (rel := RepD k) s2 h2).mono fun dv C3 A3 H3 w p3 st3 rw3 h3 => ?_⟩
          have s3 := s2.step p3 st3
          cases rw3 with
          | int b =>
            cases ec3 : cL (.cell i) C3 with
            | none => simp only [ec3] at h3; exact h3.elim
            | some q =>
              obtain ⟨i', es⟩ := q
              simp only [ec3] at h3
              obtain ⟨ei, ev3, hi3, ws, hw, rws⟩ := cL_at st3 (p3.rep _ _ rl2) ec3
              cases ei
              cases ej : ixN es.length n with
              | none => simp only [ej] at h3; exact h3.elim
              | some j =>
                simp only [ej] at h3
                cases ew : wr F.fl i (.lst (es.set j (.int (o a b)))) C3 with
                | none => simp only [ew] at h3; exact h3.elim
                | some C4 =>
                  simp only [ew] at h3
                  obtain ⟨q1, q2⟩ := write_L st3 hi3 (rws.set (.int (o a b)) j) ew
                  exact ⟨a, b, rfl, rfl, A3 i, ws, n, j, ev3, rfl, hw, by rw [rws.length]; exact ej, h3 A3 σ _ q1 (s3.step q1 q2)⟩
          | _ => exact h3.elim
        · exact h2.elim
      · exact h2.elim
  | _ => exact h2.elim
theorem ds_augL {o i e : Expr} {op : Operator} {f : Int → Int → Int} {tpos pos : Pos} {mo mi me : ME} (hp : PIp X op (ipI f)) (ho : PE X o (LE k W mo)) (hi : PE X i (LE k W mi)) (he : PE X e (LE k W me))
    (ha : ∀ ov iv new, augStore i ov iv new = (do holding [new, ov, iv] (setItem ov iv new); release [new, ov, iv] []; pure .next) := by intros; rfl) : PS X (.AugAssign (.Subscript o i tpos) op e pos) (LS k W (sAugL f mo mi me)) :=
  (ps_augS ho hi pget_L he hp set_list ha).cq fun _ _ _ h => ls_augL h
/-! ### x in a tuple or list of data -/
def rInA (K : PySem.W.Frag) (neg : Bool) : R2 := fun x y H Q => ∃ d ds l, Dp K H x d ∧ Dp K H y l ∧ (l = .list ds ∨ l = .tuple ds) ∧ SeqAt.shaped d = true ∧ SeqAt.shaped l = true ∧ Q (.bl (if neg = true then !(ds.any fun z => PyData.eqv z d) else ds.any fun z => PyData.eqv z d)) H
theorem op_inA (hu : X.A.units + 65 < cLine) : OpR X (compareOp .In) (rInA X.K false) := by
  intro pins s σ H x y v u Q I rx ry h
  obtain ⟨d, ds, l, hd, he, hl, sd, se, q⟩ := h
  obtain ⟨as, r1⟩ := Dp.reads I d x v hd rx
  obtain ⟨bs, r2⟩ := Dp.reads I l y u he ry
  rcases hl with rfl | rfl
  · exact SeqAt.in_list_reads r2 r1 (SeqAt.canLay_of_shaped se) (SeqAt.canLay_of_shaped sd) (room_in_shaped sd hu) ⟨.bl _, H, I, rfl, q⟩
  · exact SeqAt.in_tuple_reads r2 r1 (SeqAt.canLay_of_shaped se) (SeqAt.canLay_of_shaped sd) (room_in_shaped sd hu) ⟨.bl _, H, I, rfl, q⟩
theorem op_notInA (hu : X.A.units + 65 < cLine) : OpR X (compareOp .NotIn) (rInA X.K true) := by
  intro pins s σ H x y v u Q I rx ry h
  obtain ⟨d, ds, l, hd, he, hl, sd, se, q⟩ := h
  obtain ⟨as, r1⟩ := Dp.reads I d x v hd rx
  obtain ⟨bs, r2⟩ := Dp.reads I l y u he ry
  rcases hl with rfl | rfl
  · exact SeqAt.notIn_list_reads r2 r1 (SeqAt.canLay_of_shaped se) (SeqAt.canLay_of_shaped sd) (room_in_shaped sd hu) ⟨.bl _, H, I, rfl, q⟩
  · exact SeqAt.notIn_tuple_reads r2 r1 (SeqAt.canLay_of_shaped se) (SeqAt.canLay_of_shaped sd) (room_in_shaped sd hu) ⟨.bl _, H, I, rfl, q⟩
def itemsP : PyData → Option (List PyData)
  | .list ds => some ds
  | .tuple ds => some ds
  | _ => none
def oInD (neg : Bool) : O2 := fun x y C => match toP C x, toP C y with
  | some p, some q => (match itemsP q with
    | some ds => if (SeqAt.shaped p && SeqAt.shaped q) = true then some (.bl (if neg = true then !(ds.any fun z => PyData.eqv z p) else ds.any fun z => PyData.eqv z p), C) else none
    | none => none)
  | _, _ => none
theorem d_inD {neg : Bool} : OpD k (rInA k.K neg) (oInD neg) := by
  intro fl A C H x y dx dy d C' Q hf hl st rx ry e q
  simp only [oInD] at e
  split at e
  · rename_i p q' e1 e2
    split at e
    · rename_i ds eds
      split at e
      · rename_i hs
        simp only [Bool.and_eq_true] at hs
        cases e
        refine ⟨p, ds, q', toP_dp st rx e1, toP_dp st ry e2, ?_, hs.1, hs.2, q A H _ Stp.refl st (.bl _)⟩
        cases q' <;> simp only [itemsP] at eds <;> cases eds <;> simp
      · cases e
    · cases e
  · cases e
end
end CT
set_option maxHeartbeats 4000000
/-! DLD: list(range(..)), sorted(..), dict(..). -/
namespace CT
open PySem L2 PySem.Spec PyProof.Rows
/-! ### sorted -/
def rSortA (K : PySem.W.Frag) : List V → Hp → VK → Prop := fun xs H Q => ∃ (a : Addr) (β : Type) (bs : List β) (f : β → V) (enc : β → PyData), xs = [.ref a] ∧ SqL K H a (bs.map f) ∧ (∀ b ∈ bs, Dp K H (f b) (enc b)) ∧ PySem.W.AllAlike (bs.map enc) ∧ PySem.W.Sortable (bs.map enc) ∧ (∀ b ∈ bs, (enc b).depth ≤ 60) ∧
  ∀ p, H p = none → Q (.ref p) (upd H p (.lst ((bs.mergeSort (PySem.W.dataLe false enc)).map f)))
theorem each_vals {β : Type} {f : β → V} : ∀ {bs : List β} {us : List Value}, Vals (bs.map f) us → PySem.W.EachIs (fun u b => RelV (f b) u) us bs
  | [], _, .nil => .nil
  | _ :: _, _, .cons r t => .cons r (each_vals t)
theorem vals_each {β : Type} {f : β → V} : ∀ {bs : List β} {us : List Value}, PySem.W.EachIs (fun u b => RelV (f b) u) us bs → Vals (bs.map f) us
  | _, _, .nil => .nil
  | _, _, .cons r t => .cons r (vals_each t)
theorem each_in {α β : Type} {R S : α → β → Prop} : ∀ {us : List α} {bs : List β}, PySem.W.EachIs R us bs → (∀ u b, b ∈ bs → R u b → S u b) → PySem.W.EachIs S us bs
  | _, _, .nil, _ => .nil
  | _, _, .cons r t, h => .cons (h _ _ (List.mem_cons_self ..) r) (each_in t fun u b hb => h u b (List.mem_cons_of_mem _ hb))
section
variable {X : Cx} {k : Cn} {W : WX} {σ : L2.St} {H : Hp} {Q : VK}
theorem cr_sortA (hu : X.A.units + 200 < cLine) : CallR X (.builtin "sorted") (rSortA X.K) := by
  intro pins s σ H xs us Q I r h
  obtain ⟨a, β, bs, f, enc, rfl, hs, hd, hal, hk, hdp, q⟩ := h
  obtain ⟨its, rv, hl, hz⟩ := I.list hs
  obtain ⟨u, rfl, ru⟩ := vals1 r
  obtain rfl : u = Value.ref a := ru
  have e := each_vals rv
  rw [List.length_map] at hz
  refine PySem.W.sorted_data hl.isList e (each_in e fun u b hb rb => Dp.reads I _ _ _ (hd b hb) rb) hal hk hz (fun b hb => by have := hdp b hb; omega) fun out ho eo => ?_
  obtain ⟨c, hc⟩ := sortedAll_at s.heap its out.toArray
  have hle : s.heap.objs.size ≤ s.heap.objs.size + 1 := Nat.le_succ _
  refine ⟨.ref (s.heap.objs.size + 1), _, I.laid (t' := s.toks) (o := .lst ((bs.mergeSort (PySem.W.dataLe false enc)).map f)) (fun b o hb => sortedAll_old hb) hle ⟨?_, out, c, vals_each eo, hc⟩, rfl, q _ (I.hok.fresh hle)⟩
  rw [List.length_map, List.length_mergeSort]
  exact hz
/-- sorted(d), keys that are tuples -/
def kP : Key → PyData
  | .inl i => .int i
  | .inr s => .str s
def kPs (ks : List Key) : PyData := .tuple (ks.map kP)
def rSortT : List V → Hp → VK → Prop := fun xs H Q => ∃ (a : Addr) (kvs : List (List Key × V)), xs = [.ref a] ∧ H a = some (.dT kvs) ∧ PySem.W.AllAlike (kvs.map fun x => kPs x.1) ∧ PySem.W.Sortable (kvs.map fun x => kPs x.1) ∧
  ∀ p bs, H p = none → Paired (fun (q : List Key × V) b => H b = some (.tup (q.1.map kV))) kvs bs → Q (.ref p) (upd H p (.lst (((kvs.zip bs).mergeSort (PySem.W.dataLe false fun x => kPs x.1.1)).map fun x => V.ref x.2)))
theorem kP_dps {K : PySem.W.Frag} {H : Hp} : ∀ ks : List Key, DpAll K H (ks.map kV) (ks.map kP)
  | [] => .nil
  | .inl i :: r => .cons (.int i) (kP_dps r)
  | .inr s :: r => .cons (.str s) (kP_dps r)
theorem kP_depth : ∀ ks : List Key, PyData.depthAll (ks.map kP) = 0
  | [] => by simp [PyData.depthAll]
  | .inl i :: r => by
    show PyData.depthAll (.int i :: r.map kP) = 0
    rw [PyData.depthAll, kP_depth r]
    simp [PyData.depth]
  | .inr i :: r => by
    show PyData.depthAll (.str i :: r.map kP) = 0
    rw [PyData.depthAll, kP_depth r]
    simp [PyData.depth]
theorem paired_zip {α β : Type} {F : α → β → Prop} : ∀ {l : List α} {m : List β}, Paired F l m → ∀ x ∈ l.zip m, F x.1 x.2
  | _, _, .nil, x, hx => by simp at hx
  | _, _, .cons h t, x, hx => by
    rw [List.zip_cons_cons, List.mem_cons] at hx
    rcases hx with rfl | hx
    · exact h
    · exact paired_zip t x hx
theorem zip_fst {α β : Type} {F : α → β → Prop} : ∀ {l : List α} {m : List β}, Paired F l m → (l.zip m).map (·.1) = l ∧ (l.zip m).map (·.2) = m
  | _, _, .nil => ⟨rfl, rfl⟩
  | _, _, .cons h t => by
    obtain ⟨a, b⟩ := zip_fst t
    simp [a, b]
theorem each_refs {α : Type} : ∀ {l : List (α × Addr)}, PySem.W.EachIs (fun u (x : α × Addr) => u = Value.ref x.2) (l.map fun x => Value.ref x.2) l
  | [] => .nil
  | _ :: _ => .cons rfl each_refs
theorem pr_refs {H : Hp} {kvs : List (List Key × V)} {ks : List (List Key × Addr × Value)} (pr : Paired (fun (p : List Key × V) (q : List Key × Addr × Value) => p.1 = q.1 ∧ H q.2.1 = some (.tup (p.1.map kV)) ∧ RelV p.2 q.2.2) kvs ks) : Paired (fun (q : List Key × V) b => H b = some (.tup (q.1.map kV))) kvs (ks.map fun x => x.2.1) := by
  induction pr with
  | nil => exact Paired.nil
  | cons h t ih => exact Paired.cons h.2.1 ih
theorem reads_kP {h' : Heap} : ∀ (l : List Key) {its : List Value} {as : List Addr}, ReadsAll h' its (l.map kP) as → as = []
  | [], _, _, ra => by
    have ra' : ReadsAll h' _ [] _ := ra
    cases ra'
    rfl
  | x :: l, _, _, ra => by
    have ra' : ReadsAll h' _ (kP x :: l.map kP) _ := ra
    cases ra' with
    | cons r1 r2 =>
      have e := reads_kP l r2
      subst e
      cases x with
      | inl i =>
        have r1' : Reads h' _ (.int i) _ := r1
        cases r1'
        rfl
      | inr i =>
        have r1' : Reads h' _ (.str i) _ := r1
        cases r1'
        rfl
theorem cr_sortT (hcalm : X.calm = true) (hu : X.A.units + 200 < cLine) : CallR X (.builtin "sorted") rSortT := by
  intro pins s σ H xs us Q I r h
  obtain ⟨d, kvs, rfl, hd, hal, hk, q⟩ := h
  obtain ⟨u, rfl, ru⟩ := vals1 r
  obtain rfl : u = Value.ref d := ru
  obtain ⟨z, hs, ks, pr, o, es, ep, ho, hx, hdt, he, hn⟩ := (show ObjOk X.prog X.w H s.heap d (.dT kvs) from I.hok d _ hd)
  have l1 : es.size = ks.length := size_of_entries he
  have l2 : kvs.length = ks.length := Paired.length pr
  refine Calls.call_function_entry PyProof.Rows.kind_sorted PyProof.Rows.plain_sorted PyProof.Rows.entry_sorted (PyProof.Rows.args_sorted1 _) ?_
  unfold Builtin.«sorted»
  refine wpAny_bind (m := checkCount "sorted" 1 1 _) (wpAny_pure ?_)
  refine wpAny_bind (PySem.W.kdu_collect (A := X.A.in1) (kdl_raw hs hx hdt) (I.ok.hd hcalm) ho (by omega) fun h' tk acc hk' hacc => ?_)
  have ea : acc.toList = ks.map fun x => Value.ref x.2.1 := by
    have hl : acc.toList.length = ks.length := by rw [Array.length_toList, hacc.1]; exact l1
    apply List.ext_getElem?
    intro j
    rw [List.getElem?_map]
    cases hj : acc.toList[j]? with
    | none =>
      have h1 := List.getElem?_eq_none_iff.mp hj
      rw [List.getElem?_eq_none (by omega)]
      rfl
    | some v =>
      obtain ⟨en, hen, hv⟩ := hacc.2 j v (by rw [← Array.getElem?_toList]; exact hj)
      have qe := entry_at he j
      rw [hen] at qe
      cases hb : ks[j]? with
      | none =>
        rw [hb] at qe
        exact nomatch (show some en = none from qe)
      | some b =>
        rw [hb] at qe
        have e2 : en = entryOfKey (tupleKind (mixKind X.prog X.w)) b := Option.some.inj qe
        rw [hv, e2]
        rfl
  have prA : Paired (fun (q : List Key × V) b => H b = some (.tup (q.1.map kV))) kvs (ks.map fun x => x.2.1) := pr_refs pr
  obtain ⟨z1, z2⟩ := zip_fst prA
  have I1 : Inv X pins σ H { s with heap := h', toks := tk } := I.kept hk'
  have hlen : acc.toList.length ≤ sizeLine := by rw [ea, List.length_map]; omega
  refine wpAny_bind (wpAny_newList ?_ hlen)
  have hoL : (h'.push (seqObj "list" acc.toList.toArray 0)).get? h'.objs.size = some (seqObj "list" acc.toList.toArray 0) := Heap.get?_push_size _ rfl
  show wpAny _ _ _ _ _ { s with heap := h'.push (seqObj "list" acc.toList.toArray 0), toks := tk }
  let zs := kvs.zip (ks.map fun x => x.2.1)
  have e0 : acc.toList = zs.map fun x => Value.ref x.2 := by
    rw [ea]
    have := congrArg (List.map Value.ref) z2
    rw [List.map_map, List.map_map] at this
    exact this.symm
  have each0 : PySem.W.EachIs (fun u (x : (List Key × V) × Addr) => u = Value.ref x.2) acc.toList zs := by rw [e0]; exact each_refs
  have each1 : PySem.W.EachIs (fun u (x : (List Key × V) × Addr) => RelV (V.ref x.2) u) acc.toList zs := each_in each0 fun u b _ e => e
  have ez : zs.map (fun x => kPs x.1.1) = kvs.map fun x => kPs x.1 := by
    have := congrArg (List.map fun x : List Key × V => kPs x.1) z1
    rw [List.map_map] at this
    exact this
  have each2 : PySem.W.EachIs (fun u (x : (List Key × V) × Addr) => ∃ as, Reads (h'.push (seqObj "list" acc.toList.toArray 0)) u (kPs x.1.1) as ∧ h'.objs.size ∉ as) acc.toList zs := each_in each0 fun u b hb e => by
    subst e
    have hb' := paired_zip prA b hb
    obtain ⟨_, its, rv, ot, ho1, ho2, n, ho3⟩ := (show ObjOk X.prog X.w H h' b.2 (.tup (b.1.1.map kV)) from I1.hok _ _ hb')
    obtain ⟨as, ra⟩ := Dp.readsAll I1 (b.1.1.map kP) _ _ (kP_dps (K := X.K) (H := H) b.1.1) rv
    have nil_as : as = [] := reads_kP b.1.1 ra
    subst nil_as
    refine ⟨[], PyProof.Rows.Reads.keeps (fun b o q => Heap.get?_push_of_some _ q) (.tuple ho1 ho2 ho3 (by simpa using ra)), by simp⟩
  have hL : zs.length ≤ sizeLine := by
    have := congrArg List.length e0
    rw [List.length_map] at this
    omega
  refine wpAny_bind (wpAny_holding (PySem.W.list_sort_data (s := { s with heap := h'.push (seqObj "list" acc.toList.toArray 0), toks := tk }) (R := fun u (x : (List Key × V) × Addr) => RelV (V.ref x.2) u) (enc := fun x => kPs x.1.1) (bs := zs) hoL each1 each2 (by rw [ez]; exact hal) (by rw [ez]; exact hk) hL (fun b hb => ?_) fun out hout eo => ?_))
  · have : (kPs b.1.1).depth ≤ 1 := by
      unfold kPs
      rw [PyData.depth, kP_depth]
      omega
    show X.A.units + 1 + 1 + _ < _
    omega
  · obtain ⟨e', he'⟩ := PyProof.Rows.sortedHeap_at (vs := acc.toList) (out := out.toArray) hoL
    refine wpAny_pure ⟨_, rfl, .ref h'.objs.size, _, I1.laid (t' := tk) (o := .lst ((zs.mergeSort (PySem.W.dataLe false fun x => kPs x.1.1)).map fun x => V.ref x.2)) (fun b u e => ?_) (Nat.le_refl _) ⟨?_, out, e', vals_each eo, he'⟩, rfl, q _ _ (I1.hok.fresh (Nat.le_refl _)) prA⟩
    · have hb : b < h'.objs.size := Heap.lt_size e
      rw [PyProof.Rows.sortedHeap_old (Nat.ne_of_lt hb) (by rw [size_push']; exact Nat.lt_succ_of_lt hb)]
      exact Heap.get?_push_of_some _ e
    · rw [List.length_map, List.length_mergeSort]
      exact hL
end
end CT
set_option maxHeartbeats 4000000
/-! DLE: sorted and dict(d) over data. -/
namespace CT
open PySem L2 PySem.Spec PyProof.Rows
def encD (C : Store) (d : D) : PyData := (toP C d).getD .none
def tup1 : PyData → Bool
  | .tuple (_ :: _) => true
  | _ => false
def nTup : PyData → Bool
  | .tuple _ => false
  | .none => false
  | _ => true
def srtb (ps : List PyData) : Bool := (ps.all fun d => ps.all fun e => PySem.W.alike d e) && (ps.all tup1 || ps.all nTup)
theorem srtb_ok {ps : List PyData} (h : srtb ps = true) : PySem.W.AllAlike ps ∧ PySem.W.Sortable ps := by
  simp only [srtb, Bool.and_eq_true, Bool.or_eq_true, List.all_eq_true] at h
  refine ⟨fun d hd e he => h.1 d hd e he, ?_⟩
  rcases h.2 with h | h
  · refine .inl fun d hd => ?_
    have := h d hd
    cases d with
    | tuple xs =>
      cases xs with
      | nil => simp [tup1] at this
      | cons x r => exact ⟨x, r, rfl⟩
    | _ => simp [tup1] at this
  · refine .inr fun d hd => ?_
    have := h d hd
    cases d with
    | tuple xs => simp [nTup] at this
    | none => simp [nTup] at this
    | _ => exact ⟨by simp, by simp⟩
def oSortL (own : Bool) : OA := fun xs C => match xs with
  | [x] => (match vL x C with
    | some ds => if (ds.all (fun d => (toP C d).isSome && decide ((encD C d).depth ≤ 60)) && srtb (ds.map (encD C))) = true then some (mkL own (ds.mergeSort (PySem.W.dataLe false (encD C))) C) else none
    | none => none)
  | _ => none
def kyD : Key → D
  | .inl i => .int i
  | .inr s => .str s
def oSortD (own : Bool) : OA := fun xs C => match xs with
  | [x] => (match vD x C with
    | some (ks, _) => if srtb (ks.map kPs) = true then some (mkL own ((ks.mergeSort (PySem.W.dataLe false kPs)).map fun k => .tup (k.map kyD)) C) else none
    | none => none)
  | _ => none
section
variable {X : Cx} {k : Cn} {W : WX} {σ : L2.St} {H : Hp} {Q : VK} {A : Nat → Addr} {C : Store}
theorem repL_zip : ∀ {vs : List V} {ds : List D}, RepL k A C H vs ds → (∀ x ∈ vs.zip ds, Rep k A C H x.1 x.2) ∧ (vs.zip ds).map (·.1) = vs ∧ (vs.zip ds).map (·.2) = ds
  | _, _, .nil => ⟨by simp, rfl, rfl⟩
  | _, _, .cons r t => by
    obtain ⟨h1, h2, h3⟩ := repL_zip t
    refine ⟨fun x hx => ?_, by simp [h2], by simp [h3]⟩
    rw [List.zip_cons_cons, List.mem_cons] at hx
    rcases hx with rfl | hx
    · exact r
    · exact h1 x hx
theorem repL_of : ∀ {l : List (V × D)}, (∀ x ∈ l, Rep k A C H x.1 x.2) → RepL k A C H (l.map (·.1)) (l.map (·.2))
  | [], _ => .nil
  | x :: l, h => .cons (h x (List.mem_cons_self ..)) (repL_of fun y hy => h y (List.mem_cons_of_mem _ hy))
theorem d_sortL {own : Bool} : ApD k (rSortA k.K) (oSortL own) := by
  intro fl A C H x dx d C' Q hf hl st rx e q
  cases rx with
  | nil => cases e
  | cons r t =>
    cases t with
    | cons _ _ => cases e
    | nil =>
      rename_i v0 d0
      simp only [oSortL] at e
      split at e
      · rename_i ds ev
        split at e
        · rename_i hb
          obtain ⟨a, vs, rfl, ha, rv⟩ := vL_at st r ev
          obtain ⟨z1, z2, z3⟩ := repL_zip rv
          simp only [Bool.and_eq_true, List.all_eq_true, decide_eq_true_eq] at hb
          obtain ⟨hb1, hb2⟩ := hb
          obtain ⟨al, so⟩ := srtb_ok hb2
          have em : (vs.zip ds).map (fun x => encD C x.2) = ds.map (encD C) := by
            have := congrArg (List.map (encD C)) z3
            rw [List.map_map] at this
            exact this
          have hm : ∀ x ∈ vs.zip ds, x.2 ∈ ds := fun x hx => by rw [← z3]; exact List.mem_map.mpr ⟨x, hx, rfl⟩
          refine ⟨a, V × D, vs.zip ds, (·.1), fun x => encD C x.2, rfl, by rw [z2]; exact .inl (.inl ha), fun b hb => ?_, by rw [em]; exact al, by rw [em]; exact so, fun b hb => (hb1 b.2 (hm b hb)).2, fun p hp => ?_⟩
          · have := (hb1 b.2 (hm b hb)).1
            obtain ⟨pd, e3⟩ := Option.isSome_iff_exists.mp this
            have := toP_dp st (z1 b hb) e3
            have e5 : encD C b.2 = pd := by unfold encD; rw [e3]; rfl
            show Dp k.K H b.1 (encD C b.2)
            rw [e5]
            exact this
          · have e4 : ((vs.zip ds).mergeSort (PySem.W.dataLe false fun x => encD C x.2)).map (·.2) = ds.mergeSort (PySem.W.dataLe false (encD C)) := by
              have em2 := List.map_mergeSort (r := PySem.W.dataLe false fun x : V × D => encD C x.2) (s := PySem.W.dataLe false (encD C)) (f := fun x : V × D => x.2) (l := vs.zip ds) (fun a _ b _ => rfl)
              rw [em2, z3]
            have rr : RepL k A C H (((vs.zip ds).mergeSort (PySem.W.dataLe false fun x => encD C x.2)).map (·.1)) (ds.mergeSort (PySem.W.dataLe false (encD C))) := by
              rw [← e4]
              exact repL_of fun y hy => z1 y (List.mem_mergeSort.mp hy)
            obtain ⟨A2, w1, w2, w3⟩ := fresh_L (own := own) hf st rr hp
            have e1 := Option.some.inj e
            rw [e1] at w1 w2 w3
            exact q A2 _ _ w1 w2 w3
        · cases e
      · cases e
theorem ky_rep : ∀ l : List Key, RepL k A C H (l.map kV) (l.map kyD)
  | [] => .nil
  | .inl i :: r => .cons (.int i) (ky_rep r)
  | .inr s :: r => .cons (.str s) (ky_rep r)
theorem tup_nl (st : StOk k A C H) {b : Addr} {vs : List V} (h : H b = some (.tup vs)) : ¬ Live A C b := by
  rintro ⟨i, c, hc, rfl⟩
  have := st.at_ i c hc
  cases c with
  | lst ds => obtain ⟨ws, e, _⟩ := this; rw [h] at e; cases e
  | dT ks ds => obtain ⟨ws, e, _⟩ := this; rw [h] at e; cases e
  | ins c ds => obtain ⟨dx, ws, e, _⟩ := this; rw [h] at e; cases e
theorem repL_of2 {α : Type} {f : α → V} {g : α → D} : ∀ {l : List α}, (∀ x ∈ l, Rep k A C H (f x) (g x)) → RepL k A C H (l.map f) (l.map g)
  | [], _ => .nil
  | x :: l, h => .cons (h x (List.mem_cons_self ..)) (repL_of2 fun y hy => h y (List.mem_cons_of_mem _ hy))
theorem d_sortD {own : Bool} : ApD k rSortT (oSortD own) := by
  intro fl A C H x dx d C' Q hf hl st rx e q
  cases rx with
  | nil => cases e
  | cons r t =>
    cases t with
    | cons _ _ => cases e
    | nil =>
      rename_i v0 d0
      simp only [oSortD] at e
      split at e
      · rename_i ks ds ev
        split at e
        · rename_i hb
          obtain ⟨a, kvs, rfl, ha, hk, rv⟩ := vD_at st r ev
          obtain ⟨al, so⟩ := srtb_ok hb
          have em : kvs.map (fun x => kPs x.1) = ks.map kPs := by rw [← hk, List.map_map]; rfl
          refine ⟨a, kvs, rfl, ha, by rw [em]; exact al, by rw [em]; exact so, fun p bs hp pr => ?_⟩
          obtain ⟨z1, z2⟩ := zip_fst pr
          have e4 : ((kvs.zip bs).mergeSort (PySem.W.dataLe false fun x => kPs x.1.1)).map (fun x => x.1.1) = ks.mergeSort (PySem.W.dataLe false kPs) := by
            have em2 := List.map_mergeSort (r := PySem.W.dataLe false fun x : (List Key × V) × Addr => kPs x.1.1) (s := PySem.W.dataLe false kPs) (f := fun x : (List Key × V) × Addr => x.1.1) (l := kvs.zip bs) (fun a _ b _ => rfl)
            rw [em2]
            congr 1
            rw [← hk]
            have := congrArg (List.map fun x : List Key × V => x.1) z1
            rw [List.map_map] at this
            exact this
          have rr : RepL k A C H (((kvs.zip bs).mergeSort (PySem.W.dataLe false fun x => kPs x.1.1)).map fun x => V.ref x.2) ((ks.mergeSort (PySem.W.dataLe false kPs)).map fun k => .tup (k.map kyD)) := by
            rw [← e4, List.map_map]
            refine repL_of2 fun y hy => ?_
            have hy' := paired_zip pr y (List.mem_mergeSort.mp hy)
            exact .tup (tup_nl st hy') hy' (ky_rep _)
          obtain ⟨A2, w1, w2, w3⟩ := fresh_L (own := own) hf st rr hp
          have e1 := Option.some.inj e
          rw [e1] at w1 w2 w3
          exact q A2 _ _ w1 w2 w3
        · cases e
      · cases e
end
/-! ### dict(d), keys that are tuples -/
end CT
set_option maxHeartbeats 4000000
/-! DLF: dict(d) over data; enumerate. -/
namespace CT
open PySem L2 PySem.Spec PyProof.Rows
/-! ### a list of unlike numbers -/
def BT.look (x : Nat) : BT → Bool
  | .lf => false
  | .nd l y r => bif Nat.blt x y then l.look x else bif Nat.blt y x then r.look x else true
theorem nodup_map_on {α β : Type} {f : α → β} : ∀ {l : List α}, l.Nodup → (∀ x ∈ l, ∀ y ∈ l, f x = f y → x = y) → (l.map f).Nodup
  | [], _, _ => List.nodup_nil
  | x :: l, h, i => by
    obtain ⟨h1, h2⟩ := List.nodup_cons.mp h
    refine List.nodup_cons.mpr ⟨fun hm => ?_, nodup_map_on h2 fun a ha b hb => i a (List.mem_cons_of_mem _ ha) b (List.mem_cons_of_mem _ hb)⟩
    obtain ⟨y, hy, e⟩ := List.mem_map.mp hm
    have := i y (List.mem_cons_of_mem _ hy) x (List.mem_cons_self ..) e
    exact h1 (this ▸ hy)
/-! ### enumerate(tuple) -/
section
variable {prog : Program} {w : World} {A : Around} {E : Value → Shared → Prop} {s : Shared}
theorem meets_enum1 {v : Value} {o : Obj} {H : Heap → Prop} (B : Begins v o H) :
    Meets (Builtin.«enumerate.__new__» ⟨[.type "enumerate", v], []⟩) (fun _ R s => H s.heap ∧
      R (.ok (.ret (.ref (s.heap.push o).objs.size))) { s with heap := (s.heap.push o).push { cls := .type "enumerate", data := .fields #[.none, .bool false, .ref s.heap.objs.size, rawInt 0, .none, .none] } }) :=
  .of_wp fun prog w A R s h => by
    obtain ⟨hp, g, d, tk, os⟩ := s; obtain ⟨h1, h⟩ := h
    have hsub := sub_enumerate
    have q1 : ∀ {A' : Around} {E : Value → Shared → Prop} {Q : Value → Shared → Prop}, Q (.ref hp.objs.size) ⟨hp.push o, g, d, tk, os⟩ → wpAny (model prog w) A' (pyIter v) Q E ⟨hp, g, d, tk, os⟩ :=
      fun q => B.iter prog w _ _ ⟨hp, g, d, tk, os⟩ _ h1 q
    wp_walk using q1
    refine wpAny_stack_any fun st => wpAny_pure ?_
    split
    · rename_i c _ _ _ _ _
      cases (c == Value.type "enumerate")
      · wp_walk using q1
        exact ⟨_, rfl, h⟩
      · wp_walk using q1
        exact ⟨_, rfl, h⟩
    · wp_walk using q1
      exact ⟨_, rfl, h⟩
theorem call_enum1 {v : Value} {o : Obj} {H : Heap → Prop} {Q : Value → Shared → Prop} (B : Begins v o H) (h1 : H s.heap)
    (h : ∀ h', IsEnum h' (s.heap.objs.size + 1) s.heap.objs.size 0 .none → h'.get? s.heap.objs.size = some o → (∀ b o, s.heap.get? b = some o → h'.get? b = some o) → Q (.ref (s.heap.objs.size + 1)) { s with heap := h' }) :
    wpAny (model prog w) A (call (.type "enumerate") [v]) Q E s := by
  refine callType_new F.called_enumerate (by decide) (F.typeCall_enumerate_1 _) (F.newCall_enumerate_1 _) (fun obj => F.args_object_init_2 obj _) F.entry_enumerate_new (meets_enum1 B) ⟨h1, ?_⟩
  have hz : (s.heap.push o).objs.size = s.heap.objs.size + 1 := Heap.size_push ..
  show _ ∧ _
  rw [hz]
  have he : IsEnum ((s.heap.push o).push { cls := .type "enumerate", data := .fields #[.none, .bool false, .ref s.heap.objs.size, rawInt 0, .none, .none] }) (s.heap.objs.size + 1) s.heap.objs.size 0 .none := by
    have := Heap.get?_push_size (s.heap.push o) (o := { cls := .type "enumerate", data := .fields #[.none, .bool false, .ref s.heap.objs.size, rawInt 0, .none, .none] }) rfl
    rw [hz] at this; exact this
  exact ⟨⟨_, he, rfl⟩, h _ he (Heap.get?_push_of_some _ (Heap.get?_push_size _ B.free)) fun b o x => Heap.get?_push_of_some _ (Heap.get?_push_of_some _ x)⟩
end
def IteT (K : PySem.W.Frag) (a : Addr) : It :=
  ⟨fun i H => ∃ (xs : List V) (x : V), SqT K H a xs ∧ xs[i]? = some x, fun i H v H' => ∃ T x, v = .ref T ∧ H T = none ∧ H' = upd H T (.tup [.int (i : Nat), x]) ∧ ∀ xs, SqT K H a xs → xs[i]? = some x, fun i H => ∃ xs : List V, SqT K H a xs ∧ xs.length ≤ i⟩
theorem enumT_end {prog : Program} {w : World} {A : Around} {E : Value → Shared → Prop} {s : Shared} {e it t : Addr} {i : Nat} {c : Int} {items : Array Value} {old : Value} {Q : Option Value → Shared → Prop} (hh : A.handled = none)
    (he : IsEnum s.heap e it c old) (hit : s.heap.IsTupleIter it t i) (ht : s.heap.IsTuple t items) (hx : items[i]? = none) (hQ : ∀ h', Heap.ExtBut it s.heap h' → Q none { s with heap := h' }) : wpAny (model prog w) A (pyNext (.ref e)) Q E s := by
  have hT : s.TypeIs (.ref e) "enumerate" := ⟨_, he, rfl⟩
  unfold pyNext
  refine wpAny_bind (wpAny_attempt (wpAny_callSpecial?_slot (name := Str.ofString "__next__") hT F.slot_enumerate_next
    (wpAny_call_entry F.slot_enumerate_next hT F.entry_enumerate_next ?_ (F.args_enumerate_next_1 _))))
  show wpAny _ _ (field (.ref e) 2 >>= _) _ _ _
  refine wpAny_bind (wpAny_field he rfl (x := .ref it) rfl ?_)
  refine wpAny_bind (wpAny_nextOf_tuple_end (show A.in1.handled = none from hh) hit ht hx fun h' x he' hx' => ?_)
  obtain ⟨o, ho, hc⟩ := hx'
  refine wpAny_bind (wpAny_isInstance (T := "StopIteration") (b := true) ⟨o, ho, hc⟩ isSubtype_stop ?_)
  exact wpAny_pure (hQ _ he')
theorem turn_enumT {P : Program} {w : World} {K : PySem.W.Frag} {elts : List Expr} {kk : Nat} {tpos : Pos} (a e it : Addr) :
    Turn P w K (.Tuple elts kk tpos) (IteT K a) [e, it] e (fun i h => (∃ old, IsEnum h e it ((i : Nat) : Int) old) ∧ h.IsTupleIter it a i ∧ e ≠ it ∧ a ≠ it ∧ a ≠ e) where
  mem := by simp
  obj := fun i h st b hb => by
    obtain ⟨⟨old, he⟩, ⟨o, ho, hc, hd⟩, _⟩ := st
    have e' : b = e ∨ b = it := by simpa using hb
    rcases e' with z | z
    · rw [z]; exact ⟨_, he, fun v q => nomatch q⟩
    · rw [z]; exact ⟨o, ho, fun v q => by rw [hd] at q; cases q⟩
  keep := fun i h h' st k => let ⟨⟨old, he⟩, hi, hne⟩ := st; ⟨⟨old, k e (by simp) _ he⟩, hi.at fun o q => k it (by simp) o q, hne⟩
  item := by
    intro X hP hw hK hc i pins s σ H E I hf st hg
    subst hP hw hK
    obtain ⟨⟨old, he⟩, hit, hne, hai, hae⟩ := st
    obtain ⟨xs, x, hq, hx⟩ := hg
    obtain ⟨its, rv, p, hz⟩ := I.tuple hq
    have hlt : i < its.toArray.size := by
      have h1 := rv.length
      have h2 := (List.getElem?_eq_some_iff.mp hx).1
      simp
      omega
    have hel : e < s.heap.objs.size := Heap.lt_size he
    have hil : it < s.heap.objs.size := by obtain ⟨_, q, _⟩ := hit; exact Heap.lt_size q
    have D := Draws.tuple (prog := X.prog) (w := X.w) (A := X.A.in1) (I.ok.hd hc) it a hai its.toArray
    refine wpAny_pyNext_enum_itemD D he ⟨hit, p⟩ hlt hne (by simp; exact ⟨hne, fun z => hae z.symm⟩) fun u h' tk hu ho hit' hT hsz hk => ?_
    have hu' : its[i]? = some u := by simpa using hu
    obtain ⟨u2, hu2, ru⟩ := rv.get hx
    have e2 : u2 = u := by
      rw [hu'] at hu2
      exact (Option.some.inj hu2).symm
    subst e2
    refine ⟨_, rfl, wpAny_letOwnedTupleGo_enum (s := { s with heap := h', toks := tk + 1 }) ho fun h'' he' sb => ?_⟩
    have hT2 : h''.get? s.heap.objs.size = some { cls := .type "tuple", data := .seq #[.int i tk, u2] } := (sb.2 _ (Nat.ne_of_gt hel)).trans hT
    have new : ObjOk X.prog X.w (upd H s.heap.objs.size (.tup [.int (i : Nat), x])) h'' s.heap.objs.size (.tup [.int (i : Nat), x]) :=
      ⟨by show 2 ≤ sizeLine; decide, [.int i tk, u2], .cons ⟨_, rfl⟩ (.cons ru .nil), ⟨_, hT2, rfl, _, rfl⟩⟩
    have I1 : Inv X pins σ (upd H s.heap.objs.size (.tup [.int (i : Nat), x])) { s with heap := h'', toks := tk + 1 } :=
      I.turnedNew (ch := [e, it]) (fun b ob hb q => (sb.2 b (fun z => hb (by simp [z]))).trans (hk b ob (fun z => hb (by simp [z])) (fun z => hb (by simp [z])) q)) hf (Nat.le_refl _) new
    refine ⟨.ref s.heap.objs.size, _, I1, rfl, ⟨_, x, rfl, I.hok.fresh (Nat.le_refl _), rfl, fun ys hy => by rw [I.tuple_inj hy hq]; exact hx⟩, ⟨⟨u2, ?_⟩, hit'.1.at fun o q => (sb.2 it (Ne.symm hne)).trans q, hne, hai, hae⟩, fun b hb => ?_⟩
    · have e1 : ((i + 1 : Nat) : Int) = (i : Int) + 1 := by omega
      rw [e1]; exact he'
    · have hb' : b < s.heap.objs.size := by
        have e' : b = e ∨ b = it := by simpa using hb
        rcases e' with z | z
        · rw [z]; exact hel
        · rw [z]; exact hil
      rw [upd_ne (Nat.ne_of_lt hb')]
      exact (hf b hb).1
  done := by
    intro X hP hw hK hc i pins s σ H E I hf st hg
    subst hP hw hK
    obtain ⟨⟨old, he⟩, hit, hne, hai, hae⟩ := st
    obtain ⟨xs, hq, hx⟩ := hg
    obtain ⟨its, rv, p, hz⟩ := I.tuple hq
    obtain ⟨f0, f1, f2, f3, f4, f5⟩ := hf it (by simp)
    have hl := rv.length
    exact enumT_end (I.ok.hd hc) he hit p (by simp; omega) fun h' eb => ⟨rfl, I.turned (t' := s.toks) (fun b o hb q => eb b o hb q) f0 f1 f3 f4 f5⟩
  self := fun A i s Q E st h => let ⟨⟨_, he⟩, _⟩ := st; wpAny_pyIter_enum he h
def iEnumA (K : PySem.W.Frag) (ta : TA) : TI := fun σ H R => ta σ H fun vs H1 => ∃ a, vs = [.ref a] ∧ (((∃ xs, SqL K H1 a xs) ∧ R (Ite K a) H1) ∨ ((∃ xs, SqT K H1 a xs) ∧ R (IteT K a) H1))
theorem pi_enumA {X : Cx} {e : Expr} {ta : TA} {p pos tpos : Pos} {elts : List Expr} {kk : Nat} (hg : Gl X "enumerate") (hm : X.mg "enumerate" = none) (ha : PA X [e] ta) (hs : starEach [e] X.env = [(false, eval e X.env)] := by rfl) :
    PI X (.Tuple elts kk tpos) (.Call (.Name "enumerate" p) [e] [] pos) (iEnumA X.K ta) := by
  refine ⟨fun pins s σ H R I h => ?_⟩
  refine Call_ (ld_blt I hg hm boot_enumerate (PyProof.Rows.callWith_type1 (thn (ha.run pos pins s σ H _ I h) fun us s1 ⟨vs, H1, I1, r1, q1⟩ => ?_) hs rfl))
  have fp2 : ∀ b ∈ [s1.heap.objs.size + 1, s1.heap.objs.size], FpOk X pins H1 b := fun b hb => by
    have e' : b = s1.heap.objs.size + 1 ∨ b = s1.heap.objs.size := by simpa using hb
    have hle : s1.heap.objs.size ≤ b := by omega
    exact I1.fpOk hle (I1.hok.fresh hle)
  obtain ⟨a, ex, ⟨⟨xs, hq⟩, q⟩ | ⟨⟨xs, hq⟩, q⟩⟩ := q1
  · subst ex
    obtain ⟨u, rfl, ru⟩ := vals1 r1
    obtain rfl : u = Value.ref a := ru
    obtain ⟨its, rv, p', hz⟩ := I1.list hq
    refine call_enumerate_list p'.isList fun h' he hit hsz hk => wpAny_pyIter_enum he ?_
    exact ⟨s1.heap.objs.size + 1, [s1.heap.objs.size + 1, s1.heap.objs.size], _, _, H1, rfl, I1.kept (t' := s1.toks) hk, turn_enum a (s1.heap.objs.size + 1) s1.heap.objs.size, ⟨⟨.none, he⟩, hit, Nat.succ_ne_self _⟩, fp2, q⟩
  · subst ex
    obtain ⟨u, rfl, ru⟩ := vals1 r1
    obtain rfl : u = Value.ref a := ru
    obtain ⟨its, rv, p', hz⟩ := I1.tuple hq
    refine call_enum1 (begins_tuple a its.toArray) p' fun h' he hit hk => wpAny_pyIter_enum he ?_
    have hlt : a < s1.heap.objs.size := by obtain ⟨o, ho, _⟩ := p'; exact Heap.lt_size ho
    exact ⟨s1.heap.objs.size + 1, [s1.heap.objs.size + 1, s1.heap.objs.size], _, _, H1, rfl, I1.kept (t' := s1.toks) hk, turn_enumT a (s1.heap.objs.size + 1) s1.heap.objs.size, ⟨⟨.none, he⟩, ⟨_, hit, rfl, rfl⟩, Nat.succ_ne_self _, Nat.ne_of_lt hlt, Nat.ne_of_lt (Nat.lt_succ_of_lt hlt)⟩, fp2, q⟩
section
variable {X : Cx} {k : Cn} {W : WX} {σ : L2.St} {H : Hp}
theorem pr_L {fl : Nat} {A : Nat → Addr} {C : Store} {a : Addr} {it : ItD} (ok : ItOk k fl (Itl k.K a) it A C H) : ItOk k fl (Ite k.K a) (prI it) A C H := fun A' C' H' p st' => by
  obtain ⟨o1, o2⟩ := ok A' C' H' p st'
  refine ⟨fun j d hj e => ?_, fun hf => o2 hf⟩
  simp only [prI, Option.map_eq_some_iff] at e
  obtain ⟨x, ex, rfl⟩ := e
  obtain ⟨⟨xs, v, hq, hv⟩, h2⟩ := o1 j x hj ex
  refine ⟨⟨xs, v, hq, hv⟩, fun y H'' ⟨T, z, ey, hT, eH, hz⟩ => ?_⟩
  subst ey eH
  have ez : z = v := Option.some.inj ((hz xs hq).symm.trans hv)
  subst ez
  obtain ⟨A3, p3, st3, r3⟩ := h2 z H' ⟨rfl, fun ys hy => hz ys hy⟩
  have q : Kp A3 C' H' A3 C' (upd H' T (.tup [.int (j : Nat), z])) := kp_new hT
  refine ⟨A3, p3.trans q.stp0, st3.new hT, ?_⟩
  have st4 := st3.new (o := .tup [.int (j : Nat), z]) hT
  exact .tup (tup_nl st4 upd_same) upd_same (.cons (.int _) (.cons (r3.kp q) .nil))
theorem pr_T {fl : Nat} {A : Nat → Addr} {C : Store} {a : Addr} {it : ItD} (ok : ItOk k fl (Itt k.K a) it A C H) : ItOk k fl (IteT k.K a) (prI it) A C H := fun A' C' H' p st' => by
  obtain ⟨o1, o2⟩ := ok A' C' H' p st'
  refine ⟨fun j d hj e => ?_, fun hf => o2 hf⟩
  simp only [prI, Option.map_eq_some_iff] at e
  obtain ⟨x, ex, rfl⟩ := e
  obtain ⟨⟨xs, v, hq, hv⟩, h2⟩ := o1 j x hj ex
  refine ⟨⟨xs, v, hq, hv⟩, fun y H'' ⟨T, z, ey, hT, eH, hz⟩ => ?_⟩
  subst ey eH
  have ez : z = v := Option.some.inj ((hz xs hq).symm.trans hv)
  subst ez
  obtain ⟨A3, p3, st3, r3⟩ := h2 z H' ⟨rfl, fun ys hy => hz ys hy⟩
  have q : Kp A3 C' H' A3 C' (upd H' T (.tup [.int (j : Nat), z])) := kp_new hT
  refine ⟨A3, p3.trans q.stp0, st3.new hT, ?_⟩
  have st4 := st3.new (o := .tup [.int (j : Nat), z]) hT
  exact .tup (tup_nl st4 upd_same) upd_same (.cons (.int _) (.cons (r3.kp q) .nil))
theorem li_enum {m : ME} {R : It → Hp → Prop} (h : LI k W (mEnum m) σ H R) : iEnumA k.K (tCons (LE k W m) tNil) σ H R := by
  obtain ⟨A, F, C, s, h⟩ := h
  refine ⟨A, F, C, s, (Aft.bnd (rel := RepD k) h).mono fun d C1 A1 H1 v p st r h1 => ?_⟩
  have tup : ∀ xs, vT d = some xs → itS d C1 = some (itC xs) → ∃ a, [v] = [.ref a] ∧ (((∃ xs, SqL k.K H1 a xs) ∧ R (Ite k.K a) H1) ∨ ((∃ xs, SqT k.K H1 a xs) ∧ R (IteT k.K a) H1)) := fun xs e ei => by
    rw [ei] at h1
    obtain ⟨a, rfl, hs, ok⟩ := itC_T (fl := F.fl) r e
    exact ⟨a, rfl, .inr ⟨hs, h1 A1 H1 _ Stp.refl st (pr_T ok)⟩⟩
  show ∃ a, [v] = [.ref a] ∧ _
  cases d with
  | tup xs => exact tup xs rfl rfl
  | kt xs => exact tup xs rfl rfl
  | lst xs =>
    cases r with
    | lst l hh rv => exact ⟨_, rfl, .inl ⟨⟨_, .inl (.inl hh)⟩, h1 A1 H1 _ Stp.refl st (pr_L (itC_L (.lst l hh rv)))⟩⟩
  | cell i =>
    cases r with
    | cell hi =>
      simp only [itS] at h1
      split at h1
      · rename_i it e
        split at e
        · rename_i ys ec
          cases e
          obtain ⟨vs, hv, rv⟩ := st.at_ i _ ec
          exact ⟨_, rfl, .inl ⟨⟨vs, .inl (.inl hv)⟩, h1 A1 H1 _ Stp.refl st (pr_L (itV_L (.cell hi)))⟩⟩
        · cases e
      · exact h1.elim
  | _ => exact h1.elim
theorem di_enum {e : Expr} {p pos tpos : Pos} {elts : List Expr} {kk : Nat} {m : ME} (hg : Gl X "enumerate") (hm : X.mg "enumerate" = none) (hK : X.K = k.K) (he : PE X e (LE k W m)) (hs : starEach [e] X.env = [(false, eval e X.env)] := by rfl) :
    PI X (.Tuple elts kk tpos) (.Call (.Name "enumerate" p) [e] [] pos) (LI k W (mEnum m)) := (pi_enumA hg hm (pa_cons he pa_nil (by rw [hs]; rfl)) hs).cq fun _ _ _ h => by
  rw [hK]
  exact li_enum h
end
end CT
set_option maxHeartbeats 4000000
/-! DLG: what the head tells (defs by addresses, checks), the law's end for data. -/
namespace CT
open PySem L2 PySem.Spec PyProof.Rows
/-! ### defs, by where they stand -/
theorem DefX.funD {K : PySem.W.Frag} {d : DefX} (e : fnX K (d.adr K) = d.val) (c : d.ok K = true) : ∃ fd, FunD K d.name d.qual d.params d.body d.scope (d.dfl K) [] (d.adr K) fd := by
  obtain ⟨kp, c2⟩ := He.ba c
  unfold fnX at e
  split at c2
  · rename_i oc od fd osl q
    rw [q] at e
    obtain ⟨k1, k2⟩ := He.ba c2
    cases fd
    simp only [DefX.val, Option.some.injEq, Prod.mk.injEq] at e
    obtain ⟨h1, h2, h3, h4, h5, h6, h7, h8⟩ := e
    subst h1 h2 h3 h4 h5 h6 h7 h8
    exact ⟨_, ⟨_, _, _, _, _, _, _, _, _, _, rfl, q, k1, He.dflB_ok k2, .inl rfl⟩, kp⟩
  · cases c2
/-! ### the head's look -/
section
variable {fs : List (PySem.W.Frag → Bool)} {fn : List DefX} {K : PySem.W.Frag}
theorem SaysX.fact (c : SaysX fs fn K) (i : Nat) {f : PySem.W.Frag → Bool} (h : fs[i]? = some f := by rfl) : f K = true :=
  List.all_eq_true.mp (He.ba (show ((fs.all fun f => f K) && fn.all fun d => d.ok K) = true from congrArg (fun z : AlX => z.1) c)).1 f (List.mem_of_getElem? h)
theorem SaysX.def_ (c : SaysX fs fn K) (i : Nat) {d : DefX} (h : fn[i]? = some d := by rfl) : ∃ fd, FunD K d.name d.qual d.params d.body d.scope (d.dfl K) [] (d.adr K) fd := by
  have c2 := (He.ba (show ((fs.all fun f => f K) && fn.all fun d => d.ok K) = true from congrArg (fun z : AlX => z.1) c)).2
  have e2 : (fn.map fun d => fnX K (d.adr K))[i]? = (fn.map DefX.val)[i]? := congrArg (fun z : AlX => z.2[i]?) c
  rw [List.getElem?_map, List.getElem?_map, h] at e2
  exact DefX.funD (Option.some.inj e2) (List.all_eq_true.mp c2 d (List.mem_of_getElem? h))
end
/-! ### checks -/
section
variable {K : PySem.W.Frag}
/-- a property's object, its getter -/
def prA (K : PySem.W.Frag) (C : Addr) (f : Str) : Addr := He.ma K C f
theorem mem_allBt (b : Bt) : b ∈ allBt := by cases b <;> simp [allBt]
theorem insB_ok {C : Addr} (h : insB C K = true) : C8.InsC K C := by
  obtain ⟨h1, h⟩ := He.ba h
  obtain ⟨h2, h⟩ := He.ba h
  obtain ⟨h3, h⟩ := He.ba h
  obtain ⟨h4, h⟩ := He.ba h
  obtain ⟨h5, h⟩ := He.ba h
  obtain ⟨h6, h⟩ := He.ba h
  obtain ⟨h7, h⟩ := He.ba h
  obtain ⟨h8, h9⟩ := He.ba h
  exact ⟨⟨h1, h2, h3, He.eqO_ok h4⟩, He.eqO_ok h5, He.eqO_ok h6, of_decide_eq_true h7, of_decide_eq_true h8, of_decide_eq_true h9⟩
theorem isaB_ok {cl : PySem.W.Frag → Nat → Addr} {kn : List Nat} {k : Cn} (hK : k.K = K) (hc : k.cl = cl K) (h : isaB cl kn K = true) : IsaOk k kn := by
  obtain ⟨h1, h⟩ := He.ba h
  obtain ⟨h2, h3⟩ := He.ba h
  rw [List.all_eq_true] at h1 h2 h3
  refine ⟨fun c hm => ?_, fun c hm c' hm' => ?_, fun c hm b => ?_, fun c hm b => ?_⟩
  · rw [hK, hc]
    exact insB_ok (h1 c hm)
  · rw [hK, hc]
    exact of_decide_eq_true (List.all_eq_true.mp (h2 c hm) c' hm')
  · rw [hK, hc]
    exact of_decide_eq_true (He.ba (List.all_eq_true.mp (h3 c hm) b (mem_allBt b))).1
  · rw [hK, hc]
    exact of_decide_eq_true (He.ba (List.all_eq_true.mp (h3 c hm) b (mem_allBt b))).2
theorem ktB_ok {a : PySem.W.Frag → Addr} (h : ktB a K = true) : KT K (a K) [] := by
  unfold ktB at h
  split at h
  · rename_i c od its n osl q
    obtain ⟨h1, h2⟩ := He.ba h
    have e : its.toList = [] := List.length_eq_zero_iff.mp (by rw [Array.length_toList]; exact of_decide_eq_true h2)
    refine ⟨_, its, n, q, congrArg Value.type (of_decide_eq_true h1), rfl, by rw [of_decide_eq_true h2]; exact Nat.zero_le _, ?_⟩
    rw [e]
    exact .nil
  · cases h
end
/-! ### the end -/
def scrD (ns : List Int) : D := .scr (ns.map D.int)
theorem rep_scr {k : Cn} {H : Hp} {a : Addr} {ns : List Int} (hO : Only H) (h : SqL k.K H a (ns.map V.int)) : Rep k (fun _ => 0) [] H (.ref a) (scrD ns) := by
  have nl : ¬ Live (fun _ => 0) [] a := by
    rintro ⟨i, c, e, _⟩
    simp at e
  rcases h with h | ⟨o, its, n, h1, h2, h3, h4, h5, h6⟩
  · rcases h with h | ⟨o, h⟩
    · rcases hO a with z | ⟨o, xs, z⟩
      · rw [h] at z; cases z
      · rw [h] at z; cases z
    · exact .scr nl h RepL.ints
  · exact .kscr ⟨o, its, n, h1, h2, h3, h4, h5, h6⟩ RepL.ints
theorem law_core {P : Program} {w : World} {K : PySem.W.Frag} {mg mb : Str → Option Value} {fa a : Addr} {sp : Sp} {s₁ : Shared} {vs : List Value} {ns : List Int}
    (KX : K.In s₁.heap) (hns : s₁.heap.Ns mainGlobals mg) (hb : s₁.heap.Ns builtinsNs mb) (hbb : ∀ x : Str, x ≠ "__name__" → mb x = bootBuiltins x) (hlim : s₁.heap.NoLimit) (hg : s₁.gens = #[])
    (ha : s₁.heap.get? a = some { cls := .type "list", data := .seq vs.toArray }) (hi : IntsAre vs ns) (hl : ns.length ≤ sizeLine)
    (key : ∀ base : Heap, K.In base → base.Ns mainGlobals mg → ∀ (s : Shared) (H : Hp), Env0 P w K mg base callerA [] s H → sp [.ref a] H (fun v _ => v = .bl true) (fun _ _ _ => False) →
      codeAny (model P w) callerA (.call (.ref fa) ⟨[.ref a], []⟩) (CR (L2.CX P w) [] P w H s (fun v _ => v = .bl true) fun _ _ _ => False) s)
    (hsp : ∀ H : Hp, Only H → SqL K H a (ns.map V.int) → sp [.ref a] H (fun v _ => v = .bl true) fun _ _ _ => False) :
    codeAny (model P w) callerA (.call (.ref fa) ⟨[.ref a], []⟩) (fun r s' => r = .ok (.ret (.bool true)) ∧ OldK s₁.heap s'.heap ∧ s'.os = s₁.os ∧ AllBare s'.gens) s₁ := by
  have rv := vals_ints hi
  have lenV := hi.length
  -- from an abstract heap in which nothing but the script may be tracked
  have core : ∀ H : Hp, Only H → SqL K H a (ns.map V.int) → HOk P w H s₁.heap → (∀ b, H b ≠ none → b = a) → (H a ≠ none → K.lookup a = none) →
      codeAny (model P w) callerA (.call (.ref fa) ⟨[.ref a], []⟩) (fun r s' => r = .ok (.ret (.bool true)) ∧ OldK s₁.heap s'.heap ∧ s'.os = s₁.os ∧ AllBare s'.gens) s₁ := by
    intro H hO hS hok hA hK
    have base_of : ∀ {b : Addr} {o : Obj}, s₁.heap.get? b = some o → H b = none → (hidT s₁.heap H).get? b = some o := fun e n => hidT_get e n
    have noA : ∀ {b : Addr} {o : Obj} {es : Array DictEntry} {ep : Nat}, s₁.heap.get? b = some o → o.data = .dict es ep → H b = none := fun {b o es ep} e d => by
      cases q : H b with
      | none => rfl
      | some u =>
        have e' : b = a := hA b (by rw [q]; simp)
        subst e'
        rw [ha] at e; cases e
        have d' : Data.seq vs.toArray _ = Data.dict es ep := d
        cases d'
    have nsK : ∀ {b : Addr} {m : Str → Option Value}, s₁.heap.Ns b m → (hidT s₁.heap H).Ns b m := fun {b m} ⟨o, es, ep, e, d, r⟩ => ⟨o, es, ep, base_of e (noA e d), d, r⟩
    have hKb : K.In (hidT s₁.heap H) := fun b o e => base_of (KX b o e) (by
      cases q : H b with
      | none => rfl
      | some u =>
        have e' : b = a := hA b (by rw [q]; simp)
        subst e'
        rw [hK (by rw [q]; simp)] at e; cases e)
    have hM : Mod K mg (hidT s₁.heap H) := ⟨hKb, nsK hns, ⟨mb, nsK hb, hbb⟩, let ⟨mc, h1, h2⟩ := hlim; ⟨mc, nsK h1, h2⟩⟩
    have e0 : Env0 P w K mg (hidT s₁.heap H) callerA [] s₁ H := ⟨rfl, hM, fun b o e => of_hidT e, Nat.le_of_eq (hidT_size _ _), trivial, fun b hb => absurd (show b ∈ ([] : List Addr) from hb) (by simp), hok, .of_eq hg⟩
    refine codeAny_mono (key _ hKb (nsK hns) s₁ H e0 (hsp H hO hS)) fun r s' h => ?_
    cases r with
    | error e =>
      obtain ⟨_, _, _, _, _, _, _, _, _, _, _, _, z⟩ := h
      exact z.elim
    | ok fl =>
      cases fl with
      | next => exact False.elim h
      | brk => exact False.elim h
      | cont => exact False.elim h
      | ret u =>
        obtain ⟨v, H', os, bare, un, hok', r', q⟩ := h
        have q' : v = .bl true := q
        subst q'
        obtain rfl : u = Value.bool true := r'
        refine ⟨rfl, OldK.of_keep fun b o e => ?_, os, bare⟩
        cases q : H b with
        | none => exact un.keep b o e q (by intro z; exact absurd (show b ∈ ([] : List Addr) from z) (by simp)) (by simp)
        | some u =>
          rcases hO b with z | ⟨ob, xs, z⟩
          · rw [q] at z; cases z
          · have z2 := un.frzs b ob _ z
            obtain ⟨e1, _⟩ := hok b _ z
            obtain ⟨e2, _⟩ := hok' b _ z2
            rw [e] at e1; cases e1
            exact e2
  cases hk : K.lookup a with
  | some o =>
    -- the script is one of the module's own objects
    have e := KX a o hk
    rw [ha] at e
    cases e
    refine core (fun _ => none) (fun _ => .inl rfl) (.inr ⟨_, vs.toArray, _, hk, rfl, rfl, rfl, by rw [List.size_toArray, lenV]; exact hl, by simpa using rv⟩) (fun b u z => by have z' : (none : Option HO) = some u := z; cases z') (fun b z => absurd rfl z) fun z => absurd rfl z
  | none =>
    refine core (fun b => if b = a then some (.frz { cls := .type "list", data := .seq vs.toArray } (.lst (ns.map V.int))) else none) (fun b => ?_) (.inl (.inr ⟨{ cls := .type "list", data := .seq vs.toArray }, if_pos rfl⟩)) (fun b u z => ?_) (fun b z => ?_) fun _ => hk
    · by_cases hb : b = a
      · exact .inr ⟨_, _, if_pos hb⟩
      · exact .inl (if_neg hb)
    · by_cases hb : b = a
      · have z' := (if_pos hb).symm.trans z
        cases z'
        subst hb
        exact ⟨ha, by rw [List.length_map]; exact hl, vs, _, rv, ha⟩
      · have z' := (if_neg hb).symm.trans z
        cases z'
    · by_cases hb : b = a
      · exact hb
      · exact absurd (if_neg hb) z
end CT
set_option maxHeartbeats 4000000
/-! DLH: a def that hands back a list of its own, to be changed by its caller. -/
namespace CT
open PySem L2 PySem.Spec PyProof.Rows
section
variable {k : Cn} {A A2 : Nat → Addr} {C C2 : Store} {H : Hp} {n : Nat}
structure Fw2 (n : Nat) (A : Nat → Addr) (C : Store) (A2 : Nat → Addr) (C2 : Store) : Prop where
  lv : ∀ a, Live A2 C2 a → Live A C a
  ix : ∀ j, j < n → A2 j = A j
  len : n ≤ C2.length
mutual
theorem Rep.fw2 (q : Fw2 n A C A2 C2) : ∀ {v : V} {d : D}, Rep k A C H v d → CT.cb n d = true → Rep k A2 C2 H v d
  | _, _, .non, _ => .non
  | _, _, .bl b, _ => .bl b
  | _, _, .int i, _ => .int i
  | _, _, .str s, _ => .str s
  | _, _, .lst l h r, z => .lst (fun y => l (q.lv _ y)) h (r.fw2 q (by simpa [CT.cb] using z))
  | _, _, .tup l h r, z => .tup (fun y => l (q.lv _ y)) h (r.fw2 q (by simpa [CT.cb] using z))
  | _, _, .ktup h r, z => .ktup h (r.fw2 q (by simpa [CT.cb] using z))
  | _, _, .scr l h r, z => .scr (fun y => l (q.lv _ y)) h (r.fw2 q (by simpa [CT.cb] using z))
  | _, _, .kscr h r, z => .kscr h (r.fw2 q (by simpa [CT.cb] using z))
  | _, _, .obj l h e r, z => .obj (fun y => l (q.lv _ y)) h e (r.fw2 q (by simpa [CT.cb] using z))
  | _, _, .exn x l h e r, z => .exn x (fun y => l (q.lv _ y)) h e (r.fw2 q (by simpa [CT.cb] using z))
  | _, _, .cls c, _ => .cls c
  | _, _, .dT l h r, z => .dT (fun y => l (q.lv _ y)) h (r.fw2 q (by simpa [CT.cb] using z))
  | _, _, .cell (i := i) hi, z => by
    have hi : i < n := by simpa [CT.cb] using z
    rw [← q.ix i hi]
    exact .cell (Nat.lt_of_lt_of_le hi q.len)
theorem RepL.fw2 (q : Fw2 n A C A2 C2) : ∀ {vs : List V} {ds : List D}, RepL k A C H vs ds → CT.cbL n ds = true → RepL k A2 C2 H vs ds
  | _, _, .nil, _ => .nil
  | _, _, .cons r t, z => by
    simp [CT.cbL] at z
    exact .cons (r.fw2 q z.1) (t.fw2 q z.2)
end
end
def finO (n : Nat) (d : D) (C : Store) : R D := match d with
  | .cell i => if n ≤ i then (match C[i]? with
    | some (some (.lst xs)) => if cbL n xs = true then .ok (.cell n) (C.take n ++ [some (.lst xs)]) else .stuck
    | _ => .stuck) else .stuck
  | _ => .stuck
def mDefO (np ns : Nat) (body : MS) : MF := fun ds C => if ds.length = np then (match body ⟨C.length, ds.map some ++ List.replicate (ns - np) none⟩ C with
    | .rt d C' => finO C.length d C'
    | .xc e _ C' => if cbL C.length e.fs = true then .exc e (C'.take C.length) else .stuck
    | _ => .stuck) else .stuck
theorem mDefO_ar {np ns : Nat} {body : MS} : Ar np (mDefO np ns body) := fun ds C h => by
  unfold mDefO
  rw [if_neg h]
section
variable {k : Cn}
theorem start_sr {np ns : Nat} {N : List Str} {vs : List V} {ds : List D} {H : Hp} {A : Nat → Addr} {C : Store} (hN : N.length = ns) (hv : vs.length = np) (hd : ds.length = np) (hp : np ≤ ns) (st : StOk k A C H) (rl : RepL k A C H vs ds) :
    SR k A ⟨C.length, ds.map some ++ List.replicate (ns - np) none⟩ C (L2.start N vs) H := by
  have sl : (L2.start N vs) = vs.map some ++ List.replicate (ns - np) none := by unfold L2.start; rw [hN, hv]
  refine ⟨st, st.low, Nat.le_refl _, ?_, fun i d e => ?_⟩
  · rw [sl]
    simp [rl.length]
  · rw [sl]
    have e' : (ds.map some ++ List.replicate (ns - np) none)[i]? = some (some d) := e
    by_cases hi : i < ds.length
    · rw [List.getElem?_append_left (by simpa using hi), List.getElem?_map] at e'
      cases ed : ds[i]? with
      | none => rw [ed] at e'; cases e'
      | some d' =>
        rw [ed] at e'
        cases e'
        obtain ⟨v, h1, h2⟩ := rl.get ed
        refine ⟨v, ?_, h2⟩
        rw [List.getElem?_append_left (by rw [List.length_map, rl.length]; exact hi), List.getElem?_map, h1]
        rfl
    · rw [List.getElem?_append_right (by simpa using hi)] at e'
      have := List.getElem?_eq_some_iff.mp e'
      obtain ⟨h1, h2⟩ := this
      rw [List.getElem_replicate] at h2
      cases h2
theorem spDO_body {np ns : Nat} {body : MS} {N : List Str} {vs : List V} {H : Hp} {Q : VK} {E : XK} (hN : N.length = ns) (hp : np ≤ ns) (h : SpD k np (mDefO np ns body) vs H Q E) :
    LS k (fun c d _ H' => E c d H') body { nx := fun _ H' => Q .non H', rt := Q } (L2.start N vs) H := by
  obtain ⟨hv, A, C, ds, st, rl, h⟩ := h
  have hd : ds.length = np := by rw [← rl.length]; exact hv
  unfold mDefO at h
  rw [if_pos hd] at h
  refine ⟨A, _, C, start_sr hN hv hd hp st rl, ?_⟩
  show AftS k _ C.length A C H (body ⟨C.length, ds.map some ++ List.replicate (ns - np) none⟩ C) _
  cases eb : body ⟨C.length, ds.map some ++ List.replicate (ns - np) none⟩ C with
  | nx sl' C' => rw [eb] at h; exact h.elim
  | bk sl' C' => rw [eb] at h; exact h.elim
  | ct sl' C' => rw [eb] at h; exact h.elim
  | stuck => rw [eb] at h; exact h.elim
  | rt d C' =>
    rw [eb] at h
    intro A' H' v p st' r
    simp only at h
    unfold finO at h
    split at h
    · rename_i i
      split at h
      · rename_i hi
        split at h
        · rename_i xs ec
          split at h
          · rename_i hc
            obtain ⟨q1, q2, q3, q4⟩ := cut_stp rfl st st' p
            cases r with
            | cell hi' =>
              obtain ⟨ws, hw, rw'⟩ := st'.at_ i _ ec
              have tl : (C'.take C.length ++ [some (Cell.lst xs)]).length = C.length + 1 := by simp [List.length_take]; omega
              have at_lt : ∀ j, j < C.length → (C'.take C.length ++ [some (Cell.lst xs)])[j]? = C'[j]? := fun j hj => by
                rw [List.getElem?_append_left (by rw [q4]; exact hj), List.getElem?_take_of_lt hj]
              have at_n : (C'.take C.length ++ [some (Cell.lst xs)])[C.length]? = some (some (.lst xs)) := by
                rw [List.getElem?_append_right (by rw [q4]; exact Nat.le_refl _), q4]
                simp
              have ex_lt : ∀ j, j < C.length → ext A' C.length (A' i) j = A' j := fun j hj => if_neg (Nat.ne_of_lt hj)
              have fw : Fw2 C.length A' C' (ext A' C.length (A' i)) (C'.take C.length ++ [some (.lst xs)]) := by
                refine ⟨fun a l => ?_, ex_lt, by rw [tl]; exact Nat.le_succ _⟩
                obtain ⟨j, c, e, z⟩ := l
                have hj : j < C.length + 1 := by rw [← tl]; exact (List.getElem?_eq_some_iff.mp e).1
                by_cases hj' : j < C.length
                · rw [at_lt j hj'] at e
                  rw [ex_lt j hj'] at z
                  exact ⟨j, c, e, z⟩
                · have ej : j = C.length := by omega
                  subst ej
                  rw [ext_at] at z
                  exact ⟨i, _, ec, z⟩
              have low : LowC C.length C' := p.low _ (Nat.le_refl _) (Nat.le_refl _) st.low
              have cellOk : ∀ c a, cbC C.length c = true → CellAt k A' C' H' a c → CellAt k (ext A' C.length (A' i)) (C'.take C.length ++ [some (.lst xs)]) H' a c := fun c a hb hx => by
                cases c with
                | lst ds => obtain ⟨ws, e, r⟩ := hx; exact ⟨ws, e, r.fw2 fw hb⟩
                | dT ks ds => obtain ⟨ws, e, z, r⟩ := hx; exact ⟨ws, e, z, r.fw2 fw hb⟩
                | ins c ds => obtain ⟨dx, ws, e, z, r⟩ := hx; exact ⟨dx, ws, e, z, r.fw2 fw hb⟩
              have st2 : StOk k (ext A' C.length (A' i)) (C'.take C.length ++ [some (.lst xs)]) H' := by
                refine ⟨fun j c e => ?_, fun j j' c c' e e' z => ?_⟩
                · have hj : j < C.length + 1 := by rw [← tl]; exact (List.getElem?_eq_some_iff.mp e).1
                  by_cases hj' : j < C.length
                  · rw [at_lt j hj'] at e
                    rw [ex_lt j hj']
                    exact cellOk c _ (low j c hj' e) (st'.at_ j c e)
                  · have ej : j = C.length := by omega
                    subst ej
                    rw [at_n] at e
                    cases e
                    rw [ext_at]
                    exact cellOk _ _ hc (st'.at_ i _ ec)
                · have hj : j < C.length + 1 := by rw [← tl]; exact (List.getElem?_eq_some_iff.mp e).1
                  have hk : j' < C.length + 1 := by rw [← tl]; exact (List.getElem?_eq_some_iff.mp e').1
                  by_cases hj' : j < C.length
                  · by_cases hk' : j' < C.length
                    · rw [at_lt j hj'] at e
                      rw [at_lt j' hk'] at e'
                      rw [ex_lt j hj', ex_lt j' hk'] at z
                      exact st'.inj j j' c c' e e' z
                    · have ek : j' = C.length := by omega
                      subst ek
                      rw [at_lt j hj'] at e
                      rw [ex_lt j hj', ext_at] at z
                      have := st'.inj j i c _ e ec z
                      omega
                  · have ej : j = C.length := by omega
                    subst ej
                    by_cases hk' : j' < C.length
                    · rw [at_lt j' hk'] at e'
                      rw [ex_lt j' hk', ext_at] at z
                      have := st'.inj j' i c' _ e' ec z.symm
                      omega
                    · omega
              refine h (ext A' C.length (A' i)) H' (.ref (A' i)) ⟨fun v d r => (p.rep v d r).fw2 fw r.cb, by rw [tl]; exact Nat.le_succ _, fun f h1 h2 l => low_app (by rw [q4]; exact h1) (low_take (p.low f h1 h2 l))⟩ st2 ?_
              have r9 : Rep k (ext A' C.length (A' i)) (C'.take C.length ++ [some (.lst xs)]) H' (.ref (ext A' C.length (A' i) C.length)) (.cell C.length) := .cell (by rw [tl]; exact Nat.lt_succ_self _)
              rw [ext_at] at r9
              exact r9
          · exact h.elim
        · exact h.elim
      · exact h.elim
    · exact h.elim
  | xc e sl' C' =>
    rw [eb] at h
    intro A' σ' H' dd ws p s' x l r
    simp only at h
    split at h
    · rename_i hc
      obtain ⟨q1, q2, q3, q4⟩ := cut_stp rfl st s'.st p
      exact h A' H' dd ws q1 q2 x l (r.cut q3 hc)
    · exact h.elim
variable {P : Program} {w : World} {mg : Str → Option Value} {base : Heap} {x qual : Str} {params : Arguments} {body : List Stmt} {scope : Scope} {dvs : List V} {kws : List (Str × V)} {f : Addr} {fd : FuncData}
theorem fn_okO {N ps : List Str} {lev : Nat} {m : MS} (F : FunD k.K x qual params body scope dvs kws f fd) (S : FnScope N ps scope) (hp : ps.length ≤ N.length)
    (hb : ∀ (cdv : Value) (A : Around) (outer : List Env) (s : Shared) (H : Hp) (E : XK), RoomG lev (A.deeper (envOfC qual scope s.heap.objs.size f cdv)) → PSs (cxOf (L2.CX P w) P w k.K mg base N qual scope f cdv A outer s H E) body (LS k (fun c d _ H' => E c d H') m)) :
    FnG P w k.K mg base (lev + 1) f fd ps (SpD k ps.length (mDefO ps.length N.length m)) := by
  obtain ⟨oc, od, dV, kV, doc, pm, an, cdv, ct, osl, rfl, lk, hcd, _, _⟩ := F.ex
  exact fn_ofG lk hcd S (fun vs H Q E h => h.1) fun A outer s H vs Q E hr h => ⟨_, hb cdv A outer s H E hr, spDO_body rfl hp h⟩
end
end CT
set_option maxHeartbeats 4000000
/-! DLI: comparisons as tests. -/
namespace CT
open PySem L2 PySem.Spec PyProof.Rows
theorem RoomG.u65 {n : Nat} {A : Around} (hr : RoomG n A) : A.units + 65 < cLine := by have := hr.room.un; omega
theorem RoomG.u200 {n : Nat} {A : Around} (hr : RoomG n A) : A.units + 200 < cLine := by have := hr.room.un; omega
section
variable {X : Cx} {k : Cn} {W : WX} {a b c : Expr} {pos : Pos} {op op' : CmpOp} {r r' : R2} {o o' : O2} {ma mb mc : ME}
theorem dt_cmp (hR : OpR X (compareOp op) r) (hD : OpD k r o) (ha : PE X a (LE k W ma)) (hb : PE X b (LE k W mb)) (hm : behindInMarks op b = false) : PT X (.Compare a [op] [b] pos) (LT k W (mTst (mOp o ma mb))) :=
  (pt_cmpR hR ha hb hm).cq fun _ _ _ h => le_op hD (lt_val h)
theorem dt_din (hu : X.A.units + 1 < cLine) (ha : PE X a (LE k W ma)) (hb : PE X b (LE k W mb)) (h1 : behindInMarks .In b = false := by rfl) : PT X (.Compare a [.In] [b] pos) (LT k W (mTst (mOp (oDIn false) ma mb))) :=
  (pt_cmp (pc_din hu ha hb) h1).cq fun _ _ _ h => le_din (lt_val h)
end
/-! ### == and !=, scalars or data -/
theorem d_eqA {k : Cn} : OpD k (fun x y H Q => rEq x y H Q ∨ rEqD k.K x y H Q) (oEqA false) := by
  intro fl A C H x y dx dy d C' Q hf hl st rx ry e q
  unfold oEqA at e
  split at e
  · cases rx; cases ry; cases e
    refine .inl ⟨rfl, ?_⟩
    have := q A H _ Stp.refl st (.bl _)
    simpa using this
  · cases rx; cases ry; cases e
    refine .inl ⟨rfl, ?_⟩
    have := q A H _ Stp.refl st (.bl _)
    simpa using this
  · exact .inr (d_eqD fl A C H x y _ _ d C' Q hf hl st rx ry e q)
theorem d_neA {k : Cn} : OpD k (fun x y H Q => rNe x y H Q ∨ rNeD k.K x y H Q) (oEqA true) := by
  intro fl A C H x y dx dy d C' Q hf hl st rx ry e q
  unfold oEqA at e
  split at e
  · cases rx; cases ry; cases e
    refine .inl ⟨rfl, ?_⟩
    have := q A H _ Stp.refl st (.bl _)
    simpa using this
  · cases rx; cases ry; cases e
    refine .inl ⟨rfl, ?_⟩
    have := q A H _ Stp.refl st (.bl _)
    simpa using this
  · exact .inr (d_neD fl A C H x y _ _ d C' Q hf hl st rx ry e q)
end CT
set_option maxHeartbeats 4000000
/-! DLJ: operators that a class defines: ==, !=, +, in, []. -/
namespace CT
open PySem L2 PySem.Spec PyProof.Rows
end CT
set_option maxHeartbeats 4000000
/-! DLK: != by an own __eq__; x[i] by an own __getitem__. -/
namespace CT
open PySem L2 PySem.Spec PyProof.Rows
section
variable {X : Cx} {k : Cn} {W : WX} {σ : L2.St} {H : Hp} {Q : VK} {lev : Nat} {C g a dx : Addr} {fs : List (Str × V)} {f : Str} {fd : FuncData} {ps : List Str} {np : Nat} {m : MF} {e o b : Expr} {pos : Pos} {ta tb : TE} {mo me : ME} {E : L2.St → XK} {sp : Sp} {r : L2.St → R2}
/-- the def runs inside a builtin -/
theorem run_in1 {pins : List (Addr × Obj)} {σ : L2.St} {H : Hp} {s : Shared} {Q : VK} {us : List Value} {vs : List V} {Ex : XK} (F : FnG X.prog X.w X.K X.mg X.base lev g fd ps sp) (hr : RoomG (lev + 1) X.A) (hb : Binds X.K fd ps []) (hx : PassesAt (L2.CX X.prog X.w) X σ Ex)
    (I : Inv X pins σ H s) (r : Vals vs us) (h : sp vs H Q Ex) : wpAny (model X.prog X.w) X.A.in1 (call (.ref g) us) (EP X pins σ Q) X.xe s := by
  have hl : (us ++ []).length = ps.length := by
    rw [List.append_nil, ← r.length]
    exact F.len _ _ _ _ h
  have B := hb s us I.kIn hl
  rw [List.append_nil] at B
  refine wpAny_call (codeAny_mono (F.run X.A.in1 X.stack s H ⟨us, []⟩ us vs Q Ex hr.in1 I.env0.in1 B r h) fun r s' hq => ?_)
  cases r with
  | error er => exact hx pins H s er s' I hq
  | ok fl =>
    cases fl with
    | ret u => exact I.after hq
    | next => exact False.elim hq
    | brk => exact False.elim hq
    | cont => exact False.elim hq
end
end CT
set_option maxHeartbeats 4000000
/-! DLL: own operators over data. -/
namespace CT
open PySem L2 PySem.Spec PyProof.Rows
/-! ### the terms -/
def isC (c : Nat) (x : D) (C : Store) : Bool := match vO x C with
  | some (c', _) => decide (c' = c)
  | none => false
/-- x[y] by __getitem__ -/
def mIxO (c : Nat) (m : MF) (mo me : ME) : ME := fun F C => bnd (mo F C) fun x C1 => bnd (me F C1) fun y C2 => if isC c x C2 = true then m [x, y] C2 else .stuck
/-! ### readings -/
def tIxO (C : Addr) (sp : Sp) (E : L2.St → XK) (ta tb : TE) : TE := fun σ H Q => ta σ H fun x H1 => tb σ H1 fun y H2 => ∃ a dx fs, x = .ref a ∧ H2 a = some (.ins C dx fs) ∧ sp [x, y] H2 Q (E σ)
section
variable {X : Cx} {k : Cn} {W : WX} {σ : L2.St} {H : Hp} {Q : VK} {lev : Nat} {C g a dx : Addr} {fs : List (Str × V)} {f : Str} {fd : FuncData} {ps : List Str} {np : Nat} {m : MF} {e o b : Expr} {pos : Pos} {ta tb : TE} {mo me : ME} {E : L2.St → XK} {sp : Sp} {r : L2.St → R2}
theorem pe_ixO (hs : PySem.W.findIn X.K (.ref C) "__getitem__" = some (some (.ref g))) (hfn : PySem.W.fnIn X.K g = true) (hf : PySem.W.isFn X.K (.ref g) = true) (F : FnG X.prog X.w X.K X.mg X.base lev g fd ps sp) (hr : RoomG (lev + 1) X.A) (hb : Binds X.K fd ps []) (hx : ∀ σ, PassesAt (L2.CX X.prog X.w) X σ (E σ))
    (ha : PE X o ta) (hbb : PE X b tb) (hsl : ∀ v i, subscripted b true v i = runValue (.builtin "lifetime.subscript" ⟨[v, i], []⟩)) : PE X (.Subscript o b pos) (tIxO C sp E ta tb) := by
  refine ⟨fun pins s σ H Q I h => ?_⟩
  refine Subscript_ (binT ha hbb I h fun v u s2 x y H2 I2 rx ry q => ?_)
  obtain ⟨a, dx, fs, ex, hi, q⟩ := q
  subst ex
  cases (show v = Value.ref a from rx)
  obtain ⟨mA, O, _, _, _, _⟩ := ins_get I2.hok hi
  obtain ⟨od, J, _⟩ := O.look
  obtain ⟨mm, hF⟩ := I2.fr
  exact PySem.W.sub_K hF I2.ok.mod.kin J hs hfn hf (run_in1 (us := [.ref a, u]) (vs := [.ref a, y]) F hr hb (hx σ) I2 (.cons rfl (.cons ry .nil)) q) (hsl _ _)
theorem isC_at {c : Nat} {A : Nat → Addr} {S : Store} {x : D} {v : V} (st : StOk k A S H) (r : Rep k A S H v x) (h : isC c x S = true) : ∃ a dx gs, v = .ref a ∧ H a = some (.ins (k.cl c) dx gs) := by
  unfold isC at h
  split at h
  · rename_i c' fs' ev
    obtain rfl := of_decide_eq_true h
    obtain ⟨a, dx', vs, rfl, ha, _, _⟩ := vO_at st r ev
    exact ⟨a, dx', _, rfl, ha⟩
  · cases h
theorem le_ixO {c : Nat} (ar : Ar np m) (h : LE k W (mIxO c m mo me) σ H Q) : tIxO (k.cl c) (SpD k np m) (WE W) (LE k W mo) (LE k W me) σ H Q := by
  obtain ⟨A, F, C, s, h⟩ := h
  refine ⟨A, F, C, s, (Aft.bnd (rel := RepD k) h).mono fun dx C1 A1 H1 v p1 st1 r1 h1 => ?_⟩
  have s1 := s.step p1 st1
  refine ⟨A1, F, C1, s1, (Aft.bnd (rel := RepD k) h1).mono fun dy C2 A2 H2 u p2 st2 r2 h2 => ?_⟩
  have s2 := s1.step p2 st2
  split at h2
  · rename_i hc
    obtain ⟨a, dx', gs, rfl, ha⟩ := isC_at st2 (p2.rep _ _ r1) hc
    exact ⟨a, dx', gs, rfl, ha, sp_of s2.fl ar st2 (.cons (p2.rep _ _ r1) (.cons r2 .nil)) h2⟩
  · exact h2.elim
/-! ### the rules -/
theorem de_ixO (c : Nat) (tk : Takes X W) (hK : X.K = k.K) (ha : PE X o (LE k W mo)) (hbb : PE X b (LE k W me)) (hs : PySem.W.findIn k.K (.ref (k.cl c)) "__getitem__" = some (some (.ref g))) (hfn : PySem.W.fnIn k.K g = true) (hf : PySem.W.isFn k.K (.ref g) = true) (F : FnG X.prog X.w X.K X.mg X.base lev g fd ps (SpD k np m)) (ar : Ar np m) (hr : RoomG (lev + 1) X.A) (hb : Binds X.K fd ps [])
    (hsl : ∀ v i, subscripted b true v i = runValue (.builtin "lifetime.subscript" ⟨[v, i], []⟩) := by intros; with_unfolding_all rfl) : PE X (.Subscript o b pos) (LE k W (mIxO c m mo me)) :=
  (pe_ixO (by rw [hK]; exact hs) (by rw [hK]; exact hfn) (by rw [hK]; exact hf) F hr hb (fun σ => passAt tk σ) ha hbb hsl).cq fun _ _ _ h => le_ixO ar h
end
end CT
set_option maxHeartbeats 4000000
/-! DLM: what the head says of own operators. -/
namespace CT
open PySem L2 PySem.Spec PyProof.Rows
section
variable {K : PySem.W.Frag}
/-- a def that the class has under a name -/
structure DnOk (K : PySem.W.Frag) (C : Addr) (f : Str) (g : Addr) : Prop where
  at_ : PySem.W.findIn K (.ref C) f = some (some (.ref g))
  fn : PySem.W.isFn K (.ref g) = true
  fi : PySem.W.fnIn K g = true
theorem dnB_ok {x f : Str} (h : dnB x f K = true) : DnOk K (He.ga K x) f (He.ma K (He.ga K x) f) := by
  obtain ⟨h1, h⟩ := He.ba h
  obtain ⟨h2, h3⟩ := He.ba h
  exact ⟨He.eqO_ok h1, h2, h3⟩
end
end CT
set_option maxHeartbeats 4000000
/-! DLN: t[::-1], xs[::-1], t[lo:hi]. -/
namespace CT
open PySem L2 PySem.Spec PyProof.Rows HT
end CT
set_option maxHeartbeats 4000000
/-! DLO: errors of the program's own: made and raised. -/
namespace CT
open PySem L2 PySem.Spec PyProof.Rows
/-! ### what the head says of an error class -/
/-! ### __init__: one field, two fields -/
/-! ### raise C(e, ..) -/
end CT
set_option maxHeartbeats 4000000
/-! DLP: try: .. except C as n: .. return; the error is held as data. -/
namespace CT
open PySem L2 PySem.Spec PyProof.Rows
section
variable {k : Cn} {A A' : Nat → Addr} {C C' : Store} {H H' : Hp} {a dd : Addr} {c : Nat} {fl : Nat}
end
end CT
set_option maxHeartbeats 4000000
/-! DLQ: isinstance of the held error. -/
namespace CT
open PySem L2 PySem.Spec PyProof.Rows PySem.W
end CT
set_option maxHeartbeats 4000000
/-! DLR: web * k. -/
namespace CT
open PySem L2 PySem.Spec PyProof.Rows PySem.W
/-! ### over data -/
def mulB (x : Str) (K : Frag) : Bool := selfFirst K (He.ga K x) && (He.eqO (findIn K (.ref (He.ga K x)) (PySem.dunder "mul")) (some (some (.ref (He.ma K (He.ga K x) "__mul__")))) && (He.eqO (findIn K (.ref (He.ga K x)) (PySem.dunderR "mul")) (some (some (.ref (He.ma K (He.ga K x) "__rmul__")))) &&
  (isFn K (.ref (He.ma K (He.ga K x) "__mul__")) && (isFn K (.ref (He.ma K (He.ga K x) "__rmul__")) && (decide (subIn K (.type "int") (.ref (He.ga K x)) = some false) && decide (subIn K (.ref (He.ga K x)) (.type "int") = some false))))))
end CT
set_option maxHeartbeats 4000000
/-! DLS: is None; sorted(set(xs)) of ints, len(set(xs)) of tuples of ints. -/
namespace CT
open PySem L2 PySem.Spec PyProof.Rows
/-! ### is None, is not None -/
/-! ### set(xs), xs a list of ints -/
end CT
set_option maxHeartbeats 4000000
/-! E1: how the terms of the layer are worked out. -/
namespace CT
open PySem L2
/-! ### named steps; simp looks at what is done first alone -/
theorem ev_def {np ns : Nat} {body : MS} {ds : List D} {C : Store} (h : ds.length = np) : mDef np ns body ds C = finS C.length (body ⟨C.length, ds.map some ++ List.replicate (ns - np) none⟩ C) := by
  unfold mDef
  rw [if_pos h]
  rfl
section
variable (fl : Nat) (sl : List (Option D)) (C : Store) (F : Fr)
theorem ev_mul {a b : Int} (h : cMul a b = true) : oMul (.int a) (.int b) C = some (.int (a * b), C) := by
  show (if cMul a b = true then some (D.int (a * b), C) else none) = _
  rw [if_pos h]
theorem ev_mod {a b : Int} (h : 0 < b) : oMod (.int a) (.int b) C = some (.int (a % b), C) := by
  show (if decide (0 < b) = true then some (D.int (a % b), C) else none) = _
  rw [if_pos (decide_eq_true h)]
theorem ev_div {a b : Int} (h : 0 < b) (h2 : b < 4611686018427387904) : oDiv (.int a) (.int b) C = some (.int (a / b), C) := by
  show (if cDiv a b = true then some (D.int (a / b), C) else none) = _
  rw [if_pos (by simp [cDiv, h, h2])]
end
/-! ### what is done next, as constants -/
section
variable {α β : Type}
/-! #### methods, properties, dicts -/
theorem getK_ok (b c : ME) (F : Fr) {x : D} {C : Store} (h : (vD x C).isSome = true) : getK b c F (.ok x C) = getK2 c F x (b F C) := by
  show (if (vD x C).isSome = true then getK2 c F x (b F C) else .stuck) = _
  rw [if_pos h]
/-! #### lists written -/
end
end CT
set_option maxHeartbeats 4000000
/-! DLT: sorted(set(xs)) of ints, len(set(xs)) of tuples of ints. -/
namespace CT
open PySem L2 PySem.Spec PyProof.Rows
theorem mDef_e {np ns : Nat} {b : MS} {ds : List D} {C : Store} {sl : List (Option D)} (h : ds.length = np) (hs : ds.map some ++ List.replicate (ns - np) none = sl) : mDef np ns b ds C = finS C.length (b ⟨C.length, sl⟩ C) := by
  rw [← hs]
  exact ev_def h
/-! ### unlike members, ascending -/
/-! ### unlike rows -/
/-! ### the calls -/
section
variable {X : Cx}
theorem ints_are : ∀ {ns : List Int} {its : List Value}, Vals (ns.map V.int) its → IntsAre its ns
  | [], _, .nil => .nil
  | n :: ns, _, .cons r t => by
    obtain ⟨tk, rfl⟩ := r
    exact .cons n tk (ints_are t)
end
/-! ### over data -/
end CT
set_option maxHeartbeats 4000000
/-! DLU: repr of an empty dict. -/
namespace CT
open PySem L2 PySem.Spec PyProof.Rows
end CT
set_option maxHeartbeats 4000000
/-! DLV: l.count(x) over data. -/
namespace CT
open PySem L2 PySem.Spec PyProof.Rows
end CT
set_option maxHeartbeats 4000000
/-! DLW: a class whose __init__ takes *numbers and a keyword. -/
namespace CT
open PySem L2 PySem.Spec PyProof.Rows
/-! ### C(e, ..), C(k = e) -/
section
variable {k : Cn} {A : Nat → Addr} {C : Store} {H : Hp}
end
end CT
set_option maxHeartbeats 4000000
/-! DLX: len(set(t)) of a tuple of ints; sorted(t); str(n), f-strings, join. -/
namespace CT
open PySem L2 PySem.Spec PyProof.Rows
/-! ### len(set(t)) -/
/-! ### sorted(t) -/
end CT
set_option maxHeartbeats 4000000
/-! DLY: sorted of lists or tuples; str(n), f-strings, join; str(o) by the class's own __str__. -/
namespace CT
open PySem L2 PySem.Spec PyProof.Rows
section
variable {X : Cx} {k : Cn} {W : WX} {σ : L2.St} {H : Hp} {Q : VK}
/-! ### str(n) -/
/-! ### f-strings -/
inductive FP where
  | txt (s : Str) | ex (m : ME)
def FP.t (k : Cn) (W : WX) : FP → TE
  | .txt s => tC (.str s)
  | .ex m => tFmt (LE k W m)
variable {v1 v2 : Expr} {rest : List Expr} {pos : Pos}
/-! ### join -/
variable {mo me : ME}
variable {o e : Expr} {apos : Pos}
/-! ### str(o) -/
variable {lev : Nat} {g : Addr} {fd : FuncData} {ps : List Str} {m : MF} {p : Pos}
end
end CT
set_option maxHeartbeats 4000000
/-! DLZ: binding of *numbers and a keyword that is None by itself. -/
namespace CT
open PySem L2 PySem.Spec PyProof.Rows
end CT
set_option maxHeartbeats 4000000
/-! DM1: classmethods (C.m(..), cls(k = e)); + of texts. -/
namespace CT
open PySem L2 PySem.Spec PyProof.Rows
end CT
set_option maxHeartbeats 4000000
/-! DM2: the head's Hook where attributes of classes are read. -/
namespace CT
open PySem L2 PySem.Spec PyProof.Rows
end CT
set_option maxHeartbeats 8000000
set_option pp.maxSteps 60
namespace CL
open PySem L2 PySem.Spec PyProof.Rows CT
def flA (c : Nat) : List Str := match c with
  | 0 => ["size", "grid", "ties"]
  | _ => []
abbrev cn (K : PySem.W.Frag) : Cn := ⟨K, clA K, flA, none⟩
structure Txt (K : PySem.W.Frag) (mg : Str → Option Value) : Prop where
  n_abs : mg "abs" = none
  n_any : mg "any" = none
  n_bool : mg "bool" = none
  n_enumerate : mg "enumerate" = none
  n_int : mg "int" = none
  n_isinstance : mg "isinstance" = none
  n_len : mg "len" = none
  n_list : mg "list" = none
  n_max : mg "max" = none
  n_min : mg "min" = none
  n_range : mg "range" = none
  n_repr : mg "repr" = none
  n_sorted : mg "sorted" = none
  n_sum : mg "sum" = none
  n_tuple : mg "tuple" = none
  n_zip : mg "zip" = none
  c_MOST : ∃ t, mg "MOST" = some (.int 1000000000 t)
  g_is_integer : mg "is_integer" = some (.ref (a_is_integer K))
  g_is_count : mg "is_count" = some (.ref (a_is_count K))
  g_is_tie : mg "is_tie" = some (.ref (a_is_tie K))
  g_summed : mg "summed" = some (.ref (a_summed K))
  g_grid_of : mg "grid_of" = some (.ref (a_grid_of K))
  g_check_size : mg "check_size" = some (.ref (a_check_size K))
  g_pairs_of : mg "pairs_of" = some (.ref (a_pairs_of K))
  g_numbers : mg "numbers" = some (.ref (a_numbers K))
  g_check_light : mg "check_light" = some (.ref (a_check_light K))
  g_all_numbers : mg "all_numbers" = some (.ref (a_all_numbers K))
  g_degrees_of : mg "degrees_of" = some (.ref (a_degrees_of K))
  g_row_counts : mg "row_counts" = some (.ref (a_row_counts K))
  g_granted_rows : mg "granted_rows" = some (.ref (a_granted_rows K))
  g_moved_by : mg "moved_by" = some (.ref (a_moved_by K))
  g_opposite : mg "opposite" = some (.ref (a_opposite K))
  g_steps_towards : mg "steps_towards" = some (.ref (a_steps_towards K))
  g_second_steps : mg "second_steps" = some (.ref (a_second_steps K))
  g_displeasure : mg "displeasure" = some (.ref (a_displeasure K))
  g_best_rows : mg "best_rows" = some (.ref (a_best_rows K))
  g_law_bag : mg "_law_bag" = some (.ref (a_law_bag K))
  g_law_take : mg "_law_take" = some (.ref (a_law_take K))
  g_law_one : mg "_law_one" = some (.ref (a_law_one K))
  g_law_mixed : mg "_law_mixed" = some (.ref (a_law_mixed K))
  g_law_pairs : mg "_law_pairs" = some (.ref (a_law_pairs K))
  g_law_light : mg "_law_light" = some (.ref (a_law_light K))
  g_law_numbers : mg "_law_numbers" = some (.ref (a_law_numbers K))
  g_law_all : mg "_law_all" = some (.ref (a_law_all K))
  g_law_row_of : mg "_law_row_of" = some (.ref (a_law_row_of K))
  g_law_counts : mg "_law_counts" = some (.ref (a_law_counts K))
  g_law_grid : mg "_law_grid" = some (.ref (a_law_grid K))
  g_law_alike : mg "_law_alike" = some (.ref (a_law_alike K))
  g_law_moved : mg "_law_moved" = some (.ref (a_law_moved K))
  g_law_towards : mg "_law_towards" = some (.ref (a_law_towards K))
  g_law_table : mg "_law_table" = some (.ref (a_law_table K))
  g_law_cost : mg "_law_cost" = some (.ref (a_law_cost K))
  g_law_exchanged : mg "_law_exchanged" = some (.ref (a_law_exchanged K))
  g_law : mg "law" = some (.ref (a_law K))
  g_Web : mg "Web" = some (.ref (He.ga K "Web"))
  cl_Web : Cls K (He.ga K "Web")
  no_Web_size : NoAttr K (He.ga K "Web") "size"
  no_Web_grid : NoAttr K (He.ga K "Web") "grid"
  no_Web_ties : NoAttr K (He.ga K "Web") "ties"
  mk_Web : Mk K (He.ga K "Web") (a_Web__init K)
  kt_Web__init : KT K (d_Web__init K) []
  dn_Web__getitem : DnOk K (He.ga K "Web") "__getitem__" (a_Web__getitem K)
  isa : IsaOk (cn K) [0]
  f_is_integer : ∃ fd, FunD K "is_integer" "is_integer" (defArgs s_is_integer) (defBody s_is_integer) (defScope s_is_integer) [] [] (a_is_integer K) fd
  f_is_count : ∃ fd, FunD K "is_count" "is_count" (defArgs s_is_count) (defBody s_is_count) (defScope s_is_count) [] [] (a_is_count K) fd
  f_is_tie : ∃ fd, FunD K "is_tie" "is_tie" (defArgs s_is_tie) (defBody s_is_tie) (defScope s_is_tie) [] [] (a_is_tie K) fd
  f_summed : ∃ fd, FunD K "summed" "summed" (defArgs s_summed) (defBody s_summed) (defScope s_summed) [] [] (a_summed K) fd
  f_grid_of : ∃ fd, FunD K "grid_of" "grid_of" (defArgs s_grid_of) (defBody s_grid_of) (defScope s_grid_of) [] [] (a_grid_of K) fd
  f_Web__init : ∃ fd, FunD K "__init__" "Web.__init__" (defArgs s_Web__init) (defBody s_Web__init) (defScope s_Web__init) [V.ref (d_Web__init K)] [] (a_Web__init K) fd
  f_Web__getitem : ∃ fd, FunD K "__getitem__" "Web.__getitem__" (defArgs s_Web__getitem) (defBody s_Web__getitem) (defScope s_Web__getitem) [] [] (a_Web__getitem K) fd
  f_check_size : ∃ fd, FunD K "check_size" "check_size" (defArgs s_check_size) (defBody s_check_size) (defScope s_check_size) [] [] (a_check_size K) fd
  f_pairs_of : ∃ fd, FunD K "pairs_of" "pairs_of" (defArgs s_pairs_of) (defBody s_pairs_of) (defScope s_pairs_of) [] [] (a_pairs_of K) fd
  f_numbers : ∃ fd, FunD K "numbers" "numbers" (defArgs s_numbers) (defBody s_numbers) (defScope s_numbers) [] [] (a_numbers K) fd
  f_check_light : ∃ fd, FunD K "check_light" "check_light" (defArgs s_check_light) (defBody s_check_light) (defScope s_check_light) [] [] (a_check_light K) fd
  f_all_numbers : ∃ fd, FunD K "all_numbers" "all_numbers" (defArgs s_all_numbers) (defBody s_all_numbers) (defScope s_all_numbers) [] [] (a_all_numbers K) fd
  f_degrees_of : ∃ fd, FunD K "degrees_of" "degrees_of" (defArgs s_degrees_of) (defBody s_degrees_of) (defScope s_degrees_of) [] [] (a_degrees_of K) fd
  f_row_counts : ∃ fd, FunD K "row_counts" "row_counts" (defArgs s_row_counts) (defBody s_row_counts) (defScope s_row_counts) [] [] (a_row_counts K) fd
  f_granted_rows : ∃ fd, FunD K "granted_rows" "granted_rows" (defArgs s_granted_rows) (defBody s_granted_rows) (defScope s_granted_rows) [] [] (a_granted_rows K) fd
  f_moved_by : ∃ fd, FunD K "moved_by" "moved_by" (defArgs s_moved_by) (defBody s_moved_by) (defScope s_moved_by) [] [] (a_moved_by K) fd
  f_opposite : ∃ fd, FunD K "opposite" "opposite" (defArgs s_opposite) (defBody s_opposite) (defScope s_opposite) [] [] (a_opposite K) fd
  f_steps_towards : ∃ fd, FunD K "steps_towards" "steps_towards" (defArgs s_steps_towards) (defBody s_steps_towards) (defScope s_steps_towards) [] [] (a_steps_towards K) fd
  f_second_steps : ∃ fd, FunD K "second_steps" "second_steps" (defArgs s_second_steps) (defBody s_second_steps) (defScope s_second_steps) [] [] (a_second_steps K) fd
  f_displeasure : ∃ fd, FunD K "displeasure" "displeasure" (defArgs s_displeasure) (defBody s_displeasure) (defScope s_displeasure) [] [] (a_displeasure K) fd
  f_best_rows : ∃ fd, FunD K "best_rows" "best_rows" (defArgs s_best_rows) (defBody s_best_rows) (defScope s_best_rows) [] [] (a_best_rows K) fd
  f_law_bag : ∃ fd, FunD K "_law_bag" "_law_bag" (defArgs s_law_bag) (defBody s_law_bag) (defScope s_law_bag) [] [] (a_law_bag K) fd
  f_law_take : ∃ fd, FunD K "_law_take" "_law_take" (defArgs s_law_take) (defBody s_law_take) (defScope s_law_take) [] [] (a_law_take K) fd
  f_law_one : ∃ fd, FunD K "_law_one" "_law_one" (defArgs s_law_one) (defBody s_law_one) (defScope s_law_one) [] [] (a_law_one K) fd
  f_law_mixed : ∃ fd, FunD K "_law_mixed" "_law_mixed" (defArgs s_law_mixed) (defBody s_law_mixed) (defScope s_law_mixed) [] [] (a_law_mixed K) fd
  f_law_pairs : ∃ fd, FunD K "_law_pairs" "_law_pairs" (defArgs s_law_pairs) (defBody s_law_pairs) (defScope s_law_pairs) [] [] (a_law_pairs K) fd
  f_law_light : ∃ fd, FunD K "_law_light" "_law_light" (defArgs s_law_light) (defBody s_law_light) (defScope s_law_light) [] [] (a_law_light K) fd
  f_law_numbers : ∃ fd, FunD K "_law_numbers" "_law_numbers" (defArgs s_law_numbers) (defBody s_law_numbers) (defScope s_law_numbers) [] [] (a_law_numbers K) fd
  f_law_all : ∃ fd, FunD K "_law_all" "_law_all" (defArgs s_law_all) (defBody s_law_all) (defScope s_law_all) [] [] (a_law_all K) fd
  f_law_row_of : ∃ fd, FunD K "_law_row_of" "_law_row_of" (defArgs s_law_row_of) (defBody s_law_row_of) (defScope s_law_row_of) [] [] (a_law_row_of K) fd
  f_law_counts : ∃ fd, FunD K "_law_counts" "_law_counts" (defArgs s_law_counts) (defBody s_law_counts) (defScope s_law_counts) [] [] (a_law_counts K) fd
  f_law_grid : ∃ fd, FunD K "_law_grid" "_law_grid" (defArgs s_law_grid) (defBody s_law_grid) (defScope s_law_grid) [] [] (a_law_grid K) fd
  f_law_alike : ∃ fd, FunD K "_law_alike" "_law_alike" (defArgs s_law_alike) (defBody s_law_alike) (defScope s_law_alike) [] [] (a_law_alike K) fd
  f_law_moved : ∃ fd, FunD K "_law_moved" "_law_moved" (defArgs s_law_moved) (defBody s_law_moved) (defScope s_law_moved) [] [] (a_law_moved K) fd
  f_law_towards : ∃ fd, FunD K "_law_towards" "_law_towards" (defArgs s_law_towards) (defBody s_law_towards) (defScope s_law_towards) [] [] (a_law_towards K) fd
  f_law_table : ∃ fd, FunD K "_law_table" "_law_table" (defArgs s_law_table) (defBody s_law_table) (defScope s_law_table) [] [] (a_law_table K) fd
  f_law_cost : ∃ fd, FunD K "_law_cost" "_law_cost" (defArgs s_law_cost) (defBody s_law_cost) (defScope s_law_cost) [] [] (a_law_cost K) fd
  f_law_exchanged : ∃ fd, FunD K "_law_exchanged" "_law_exchanged" (defArgs s_law_exchanged) (defBody s_law_exchanged) (defScope s_law_exchanged) [] [] (a_law_exchanged K) fd
  f_law : ∃ fd, FunD K "law" "law" (defArgs s_law) (defBody s_law) (defScope s_law) [] [] (a_law K) fd
end CL
set_option maxHeartbeats 4000000
/-! DM28: the head's Hook, its objects gathered by a walk that marks what it has seen in one number. -/
namespace CT
open PySem L2 PySem.Spec PyProof.Rows
theorem obGb_eq {n : Nat} {fs : List (PySem.W.Frag → Bool)} {fn : List DefX} (s : PySem.W.SharedT) : obGb n fs fn (HandSHeadRun.getT s) = (hookXb n fs fn).obs s.abs := by
  have e : HandSHeadRun.getT s = s.abs.heap.get? := funext (HandSHeadRun.getT_eq s)
  rw [e]
  rfl
end CT
set_option maxHeartbeats 0
namespace CL
open PySem L2 PySem.Spec PyProof.Rows CT
section
open HandSHeadRun PySem.W PySem.Calls
end
end CL
set_option maxHeartbeats 4000000
/-! DM3: is True; t * n; bool(o) by the class's own __bool__; a or b of tuples, bool(t). -/
namespace CT
open PySem L2 PySem.Spec PyProof.Rows
/-! ### t * n -/
def oRepT : O2 := fun x y C => match vT x, y with
  | some xs, .int n => if (decide (2 ≤ n) && (decide (n ≤ 1000) && (!xs.isEmpty && decide (xs.length ≤ 1000)))) = true then some (.tup (List.replicate n.toNat xs).flatten, C) else none
  | _, _ => none
theorem d_repT {k : Cn} : OpD k (rRepT k.K) oRepT := by
  intro fl A C H x y dx dy d C' Q hf hl st rx ry e q
  unfold oRepT at e
  split at e
  · rename_i xs n e1
    split at e
    · rename_i hz
      simp only [Bool.and_eq_true, decide_eq_true_eq, Bool.not_eq_true'] at hz
      obtain ⟨a, vs, rfl, ha, rv⟩ := vT_at rx e1
      have hlen := rv.length
      cases ry
      cases e
      refine ⟨a, n, vs, rfl, rfl, ha, fun z => ?_, hz.1, hz.2.1, by omega, fun p hp => ?_⟩
      · subst z
        have : xs = [] := List.length_eq_zero_iff.mp (by simpa using hlen.symm)
        rw [this] at hz
        simp at hz
      · obtain ⟨w1, w2, w3⟩ := fresh_T (fl := fl) st (rv.rep n.toNat) hp
        exact q A _ _ w1 w2 w3
    · cases e
  · cases e
/-! ### a or b of tuples; bool(t) -/
end CT
set_option maxHeartbeats 4000000
/-! DM4: bool(o) by the class's own __bool__. -/
namespace CT
open PySem L2 PySem.Spec PyProof.Rows
/-! ### bool(o) -/
end CT
set_option maxHeartbeats 4000000
/-! DM5: zip of two tuples; min and max of a list of ints with a default. -/
namespace CT
open PySem L2 PySem.Spec PyProof.Rows RZ
def zipD (xs ys : List D) : List D := (xs.zip ys).map fun p => .tup [p.1, p.2]
end CT
set_option maxHeartbeats 4000000
/-! DM6: min and max of a list of ints with a default. -/
namespace CT
open PySem L2 PySem.Spec PyProof.Rows
section
variable {X : Cx}
theorem reads_int {h : Heap} {v : Value} {n : Int} {bs : List Addr} (r : Reads h v (.int n) bs) : ∃ t, v = .int n t := by
  cases r
  exact ⟨_, rfl⟩
theorem dep_ints : ∀ ns : List Int, PyData.depthAll (ns.map .int) = 0
  | [] => rfl
  | n :: ns => by
    have := dep_ints ns
    simp only [List.map_cons, PyData.depthAll, PyData.depth, this]
    omega
theorem alike_ints (ns : List Int) : PySem.W.AlikeAll (ns.map .int) := by
  refine ⟨fun x hx y hy => ?_, fun x hx => ?_⟩
  · obtain ⟨a, _, rfl⟩ := List.mem_map.mp hx
    obtain ⟨b, _, rfl⟩ := List.mem_map.mp hy
    rfl
  · obtain ⟨a, _, rfl⟩ := List.mem_map.mp hx
    simp
end
end CT
set_option maxHeartbeats 4000000
/-! DM7: x + k, k + x, x - k, k - x, -x for an own x and an int k. -/
namespace CT
open PySem L2 PySem.Spec PyProof.Rows PySem.W
end CT
set_option maxHeartbeats 4000000
/-! DM8: list(range(a, b, 2)); sorted(set(xs)), len(set(xs)) of up to 4,000 ints. -/
namespace CT
open PySem L2 PySem.Spec PyProof.Rows
/-! ### sets of more ints -/
end CT
set_option maxHeartbeats 4000000
/-! DM9: xs[i], ys[j] = e, f. -/
namespace CT
open PySem L2 PySem.Spec PyProof.Rows
end CT
set_option maxHeartbeats 4000000
/-! DM10: a def that hands back an own list, as an equation. -/
namespace CT
open PySem L2
def finOS (n : Nat) (r : RS) : R D := match r with
  | .rt d C' => finO n d C'
  | .xc e _ C' => if cbL n e.fs = true then .exc e (C'.take n) else .stuck
  | _ => .stuck
theorem mDefO_e {np ns : Nat} {b : MS} {ds : List D} {C : Store} {sl : List (Option D)} (h : ds.length = np) (hs : ds.map some ++ List.replicate (ns - np) none = sl) : mDefO np ns b ds C = finOS C.length (b ⟨C.length, sl⟩ C) := by
  subst hs
  unfold mDefO
  rw [if_pos h]
  rfl
end CT
set_option maxHeartbeats 4000000
/-! DM11: {x for u in a if .. for x in b if ..} of ints, two clauses; its members in a list beside the heap. -/
namespace CT
open PySem L2 PySem.Spec PyProof.Rows
/-- the set at D holds the ints of acc -/
def SetI (w : World) (h : Heap) (D : Addr) (acc : List Int) : Prop := ∃ c, c ≤ acc.length ∧ SetR w h D (fun j => decide (j ∈ acc)) c
theorem SetI.at {w : World} {h h' : Heap} {D : Addr} {acc : List Int} (R : SetI w h D acc) (k : ∀ o, h.get? D = some o → h'.get? D = some o) : SetI w h' D acc := by
  obtain ⟨c, hc, R⟩ := R
  exact ⟨c, hc, R.at k⟩
theorem SetI.obj {w : World} {h : Heap} {D : Addr} {acc : List Int} (R : SetI w h D acc) : ∃ o, h.get? D = some o ∧ ∀ v, o.data ≠ .cell v := by
  obtain ⟨c, hc, o, es, ep, t, ho, hx, hd, _⟩ := R
  exact ⟨o, ho, fun v z => by rw [hd] at z; cases z⟩
end CT
set_option maxHeartbeats 4000000
/-! DM12: sorted({x for u in a if .. for x in b if ..}) over data. -/
namespace CT
open PySem L2 PySem.Spec PyProof.Rows
end CT
set_option maxHeartbeats 4000000
/-! DM13: min and max of one list of ints, not empty. -/
namespace CT
open PySem L2 PySem.Spec PyProof.Rows
def rMin1 (f : Int → Int → Int) (K : PySem.W.Frag) : List V → Hp → VK → Prop := fun xs H Q => ∃ (a : Addr) (n : Int) (ns : List Int), xs = [.ref a] ∧ SqL K H a ((n :: ns).map V.int) ∧ Q (.int (ns.foldl f n)) H
section
variable {X : Cx}
theorem cr_min1 (hr : X.A.handled = none) (hu : X.A.units + 200 < cLine) : CallR X (.builtin "min") (rMin1 min X.K) := by
  intro pins s σ H xs us Q I r1 h
  obtain ⟨a, n, ns, rfl, hq, q⟩ := h
  obtain rfl := Vals.ref1 r1
  obtain ⟨its, rv, pl, hz⟩ := I.list hq
  have ia : IntsAre its (n :: ns) := ints_are rv
  have hd := dep_ints (n :: ns)
  refine PySem.W.min_list_data hr pl.isList (x := .int n) (xs := ns.map .int) (ia.reads _) (alike_ints (n :: ns)) (by rw [show PyData.depthAll (PyData.int n :: ns.map .int) = 0 from hd]; omega) (fun i v h' tk bs hv hrd hk => ?_)
  rw [PySem.W.minD_ints] at hrd
  obtain ⟨t, rfl⟩ := reads_int hrd
  exact ⟨.int _, H, I.kept (t' := tk) hk, ⟨t, rfl⟩, q⟩
end
def oMn1 (f : Int → Int → Int) : OA := fun xs C => match xs with
  | [d] => (match (vL d C).bind dInts with
    | some (n :: ns) => some (.int (ns.foldl f n), C)
    | _ => none)
  | _ => none
theorem d_mn1 {k : Cn} (f : Int → Int → Int) : ApD k (rMin1 f k.K) (oMn1 f) := by
  intro fl A C H x dx d C' Q hf hl st rx e q
  unfold oMn1 at e
  split at e
  · split at e
    · rename_i n ns ei
      obtain ⟨l, e1, e2⟩ := Option.bind_eq_some_iff.mp ei
      cases e
      cases rx with
      | cons r t =>
        cases t
        obtain ⟨a, vs, rfl, ha, rv⟩ := vL_at st r e1
        rw [dInts_eq e2] at rv
        have := rv.ints_inv
        subst this
        exact ⟨a, n, ns, rfl, .inl (.inl ha), q A H _ Stp.refl st (.int _)⟩
    · cases e
  · cases e
end CT
set_option maxHeartbeats 4000000
/-! DM14: in, not in by an own __contains__, as values and as tests. -/
namespace CT
open PySem L2 PySem.Spec PyProof.Rows
end CT
set_option maxHeartbeats 4000000
/-! DM15: == and != of two lists of own objects that are equal item by item. -/
namespace CT
open PySem L2 PySem.Spec PyProof.Rows
end CT
set_option maxHeartbeats 4000000
/-! DM16: an own object as a test, by the class's own __bool__. -/
namespace CT
open PySem L2 PySem.Spec PyProof.Rows
end CT
set_option maxHeartbeats 4000000
/-! DM17: xs.reverse(). -/
namespace CT
open PySem L2 PySem.Spec PyProof.Rows
def mReverse (mo : ME) : ME := fun F C => bnd (mo F C) fun o C1 => match cL o C1 with
  | some (i, ds) => (match wr F.fl i (.lst ds.reverse) C1 with
    | some C2 => .ok .non C2
    | none => .stuck)
  | none => .stuck
section
variable {X : Cx} {k : Cn} {W : WX} {σ : L2.St} {H : Hp} {Q : VK} {mo : ME} {o : Expr} {apos cpos : Pos}
theorem cL_is {d : D} {C : Store} {i : Nat} {ds : List D} (e : cL d C = some (i, ds)) : (vL d C).isSome = true := by
  unfold cL at e
  split at e
  · split at e
    · rename_i xs ex
      simp [vL, ex]
    · cases e
  · cases e
theorem le_reverse (h : LE k W (mReverse mo) σ H Q) : tBM0 k.K "list" rReverse (LE k W mo) σ H Q := by
  obtain ⟨A, F, C, s, h⟩ := h
  refine ⟨A, F, C, s, (Aft.bnd (rel := RepD k) h).mono fun dO C1 A1 H1 x p1 st1 ro h1 => ?_⟩
  have s1 := s.step p1 st1
  cases ec : cL dO C1 with
  | none => simp only [ec] at h1; exact h1.elim
  | some q =>
    obtain ⟨i, ds⟩ := q
    have hs := cL_is ec
    have ty := tyL st1 ro hs
    simp only [ec] at h1
    obtain ⟨rfl, rfl, hi, vs, hv, rvs⟩ := cL_at st1 ro ec
    cases ew : wr F.fl i (.lst ds.reverse) C1 with
    | none => simp only [ew] at h1; exact h1.elim
    | some C3 =>
      simp only [ew] at h1
      obtain ⟨q1, q2⟩ := write_L st1 hi rvs.rev ew
      exact ⟨ty, A1 i, vs, rfl, rfl, hv, h1 A1 _ .non q1 q2 .non⟩
theorem de_reverse (hK : X.K = k.K := by rfl) (ho : PE X o (LE k W mo)) (hbase : attributeBase o "reverse" X.env (eval o X.env) = eval o X.env := by rfl) (hline : (apos.endLine == cpos.line) = true := by rfl) : PE X (.Call (.Attribute o "reverse" apos) [] [] cpos) (LE k W (mReverse mo)) :=
  (pe_bm0 PySem.F.plainAttrs_list PySem.F.slot_list_reverse PySem.F.type_list_reverse mt_reverse ho hbase hline).cq fun _ _ _ h => by
    rw [hK]
    exact le_reverse h
end
end CT
set_option maxHeartbeats 4000000
/-! DM18: while, of at most so many turns. -/
namespace CT
open PySem L2
end CT
set_option maxHeartbeats 4000000
/-! GN1: a run that wakes no sleeping generator runs alike whatever the sleepers hold. -/
namespace GV
open PySem
open Sem (wp)
def stuckK : Resume → Sem PySem.Fin := fun _ => .unsupported "asleep"
def veilG : GenState → GenState
  | .suspended _ l c p fs cl => .suspended stuckK l c p fs cl
  | x => x
def isSusp : GenState → Bool
  | .suspended .. => true
  | _ => false
/-- s: veiled at Z; t: the true state -/
structure Hid (Z : Nat → Option GenState) (s t : Shared) : Prop where
  heap : t.heap = s.heap
  drawn : t.drawn = s.drawn
  toks : t.toks = s.toks
  os : t.os = s.os
  size : t.gens.size = s.gens.size
  hid : ∀ g R, Z g = some R → isSusp R = true ∧ s.gens[g]? = some (veilG R) ∧ t.gens[g]? = some R
  oth : ∀ g, Z g = none → t.gens[g]? = s.gens[g]?
/-- what is not veiled holds no frame of a generator -/
def OkG (Z : Nat → Option GenState) (s : Shared) : Prop := ∀ g, Z g = none → ∀ k l c p fs cl, s.gens[g]? = some (.suspended k l c p fs cl) → splitAtGen fs = none
section
variable {Z : Nat → Option GenState} {s t : Shared} {M : Model}
theorem gens_set {s : Shared} {g i : Nat} {x : GenState} : (s.setGen g x).gens[i]? = if i = g then (if g < s.gens.size then some x else none) else s.gens[i]? := by
  show (s.gens.setIfInBounds g x)[i]? = _
  by_cases e : i = g
  · subst e
    rw [if_pos rfl]
    split
    · rename_i h
      simp [h]
    · rename_i h
      simp [h]
  · rw [if_neg e, Array.getElem?_setIfInBounds_ne (Ne.symm e)]
theorem Hid.set (h : Hid Z s t) {g : Nat} (hz : Z g = none) (x : GenState) : Hid Z (s.setGen g x) (t.setGen g x) := by
  refine ⟨h.heap, h.drawn, h.toks, h.os, ?_, fun i R hi => ?_, fun i hi => ?_⟩
  · show (t.gens.setIfInBounds g x).size = (s.gens.setIfInBounds g x).size
    simp [h.size]
  · have ne : i ≠ g := fun e => by subst e; rw [hz] at hi; cases hi
    rw [gens_set, gens_set, if_neg ne, if_neg ne]
    exact h.hid i R hi
  · rw [gens_set, gens_set, h.size]
    split
    · rfl
    · exact h.oth i hi
theorem Hid.lt (h : Hid Z s t) {g : Nat} {R : GenState} (hz : Z g = some R) : g < s.gens.size := (Array.getElem?_eq_some_iff.mp (h.hid g R hz).2.1).1
theorem Hid.push (h : Hid Z s t) (x : GenState) : Hid Z { s with gens := s.gens.push x } { t with gens := t.gens.push x } := by
  refine ⟨h.heap, h.drawn, h.toks, h.os, by simp [h.size], fun i R hi => ?_, fun i hi => ?_⟩
  · have l := h.lt hi
    obtain ⟨a, b, c⟩ := h.hid i R hi
    refine ⟨a, ?_, ?_⟩
    · show (s.gens.push x)[i]? = _
      rw [Array.getElem?_push, if_neg (by omega)]
      exact b
    · show (t.gens.push x)[i]? = _
      rw [Array.getElem?_push, if_neg (by rw [h.size]; omega)]
      exact c
  · show (t.gens.push x)[i]? = (s.gens.push x)[i]?
    rw [Array.getElem?_push, Array.getElem?_push, h.size, h.oth i hi]
theorem OkG.set (h : OkG Z s) {g : Nat} {x : GenState} (hx : ∀ k l c p fs cl, x = .suspended k l c p fs cl → splitAtGen fs = none) : OkG Z (s.setGen g x) := fun i hi k l c p fs cl e => by
  rw [gens_set] at e
  split at e
  · split at e
    · exact hx k l c p fs cl (Option.some.inj e)
    · cases e
  · exact h i hi k l c p fs cl e
theorem OkG.push (h : OkG Z s) {x : GenState} (hx : ∀ k l c p fs cl, x = .suspended k l c p fs cl → splitAtGen fs = none) : OkG Z { s with gens := s.gens.push x } := fun i hi k l c p fs cl e => by
  have e' : (s.gens.push x)[i]? = some (.suspended k l c p fs cl) := e
  rw [Array.getElem?_push] at e'
  split at e'
  · exact hx k l c p fs cl (Option.some.inj e')
  · exact h i hi k l c p fs cl e'
end
end GV
set_option maxHeartbeats 4000000
/-! GN2: weakest preconditions under the veil. -/
namespace GV
open PySem PyProof.Rows
open Sem (wp)
section
variable {Z : Nat → Option GenState} {M : Model}
def Un {α : Type} (Z : Nat → Option GenState) (Q : α → Pos → Shared → Prop) : α → Pos → Shared → Prop := fun a p t => ∃ s, Hid Z s t ∧ OkG Z s ∧ Q a p s
end
end GV
set_option maxHeartbeats 4000000
/-! GN3: for over a generator: the rule of the consumer. -/
namespace GV
open PySem L2 PySem.Spec PyProof.Rows
section
variable {X : Cx} {pins : List (Addr × Obj)} {σ : L2.St} {H : Hp} {s s' : Shared} {pv : List Addr}
theorem Inv.gens (I : Inv X pins σ H s) (h : s'.heap = s.heap) (o : s'.os = s.os) (b : AllBare s'.gens) : Inv X pins σ H s' := by
  obtain ⟨a1, a2, a3, a4, a5, a6, a7, a8, a9, a10, a11⟩ := I
  exact ⟨a1, o.trans a2, b, by rw [h]; exact a4, by rw [h]; exact a5, by rw [h]; exact a6, a7, a8, by rw [h]; exact a9, by rw [h]; exact a10, a11⟩
end
end GV
set_option maxHeartbeats 4000000
/-! GN4: for over a generator: the rule. -/
namespace GV
open PySem L2 PySem.Spec PyProof.Rows
end GV
set_option maxHeartbeats 4000000
/-! GN5: next of a generator (it sleeps behind); for in a generator's own code. -/
namespace GV
open PySem L2 PySem.Spec PyProof.Rows
open Sem (wp)
/-! ### for, in a generator's code -/
section
variable {prog : Program} {w : World} {A : Around} {R : GenEnd} {Y : Protocol} {n : Nat} {s₀ : Shared} {c : Code} {fs : List Frame} {s : Shared} {env : Env} {K : Flow → Sem PySem.Fin} {J : Value → Sem PySem.Fin} {gd : Bool → Bool} {lv : List Value → List Value}
abbrev nov : Value → Shared → Prop := fun _ _ => False
/-- what a loop's call does with what comes back -/
def backK (env : Env) (K : Flow → Sem PySem.Fin) (J : Value → Sem PySem.Fin) (gd : Bool → Bool) (lv : List Value → List Value) : Result → Sem PySem.Fin := fun r => ((match r with | .ok f => (.pure f : Sem Flow) | .error e => .raise e).onRaise fun (x : Value) => do
        if (← field x 1) == Value.none then unsupported "frame.own-activation:exception-without-traceback"
        setFlight x env.frame).wrap K J gd lv
/-- what a loop's code does with an exception of its own -/
def outJ (env : Env) : Value → Sem PySem.Fin := fun e => (do noteFrame e env; theTreesLotGoes e : Sem Unit).wrap (fun _ => .raise e) .raise id id
end
end GV
set_option maxHeartbeats 4000000
/-! GN6: one stretch of a generator's run, whatever is wanted of its end. -/
namespace GV
open PySem L2 PySem.Spec PyProof.Rows
open Sem (wp)
def S1 (M : Model) (A : Around) (Φ : End → Shared → Prop) (c : Code) (t : Sem PySem.Fin) (fs : List Frame) (s : Shared) : Prop := ∀ Γ p, Γ.code = c → Γ.Woken A → ∃ e s', Runs M Γ p t fs s e s' ∧ Φ e s'
section
variable {M : Model} {A : Around} {Φ : End → Shared → Prop} {c : Code} {fs : List Frame} {s : Shared}
theorem s1_wrap {α : Type} {m : Sem α} {K : α → Sem PySem.Fin} {J : Value → Sem PySem.Fin} {gd lv} (h : wpAny M (A.over c fs) m (fun a s' => S1 M A Φ c (K a) fs s') (fun x s' => S1 M A Φ c (J x) fs s') s) : S1 M A Φ c (m.wrap K J gd lv) fs s := by
  rintro Γ p rfl hΓ
  exact runs_wrap_of_wp K J gd lv m (h (Γ.over fs) p (hΓ.over fs)) (fun a p' s' h' => h' Γ p' rfl hΓ) (fun x p' s' h' => h' Γ p' rfl hΓ)
theorem s1_wrap0 {α : Type} {m : Sem α} {K : α → Sem PySem.Fin} {J : Value → Sem PySem.Fin} {gd lv} (h : wpAny M (A.over c fs) m (fun a s' => S1 M A Φ c (K a) fs s') nov s) : S1 M A Φ c (m.wrap K J gd lv) fs s := s1_wrap (wpAny_mono h (fun _ _ q => q) fun _ _ z => z.elim)
theorem s1_bind {α β : Type} {m : Sem α} {K : α → Sem β} {K' : β → Sem PySem.Fin} {J : Value → Sem PySem.Fin} {gd lv} (h : wpAny M (A.over c fs) m (fun a s' => S1 M A Φ c ((K a).wrap K' J gd lv) fs s') nov s) : S1 M A Φ c ((m >>= K).wrap K' J gd lv) fs s := by
  rw [Sem.bind_eq_wrap', Sem.wrap_wrap]; exact s1_wrap0 h
theorem s1_at {p' : Pos} {k : Unit → Sem PySem.Fin} (h : S1 M A Φ c (k ()) fs s) : S1 M A Φ c (.at p' k) fs s := s1_wrap0 (m := standAt p') (K := k) (J := .raise) (gd := id) (lv := id) (wpAny_standAt h)
theorem s1_point {l : List Value} {k : Unit → Sem PySem.Fin} (h : S1 M A Φ c (k ()) fs s) : S1 M A Φ c (.point l k) fs s := s1_wrap0 (m := point) (K := k) (J := .raise) (gd := id) (lv := fun _ => l) (wpAny_point h)
theorem s1_call {c' : Code} {h g l} {k : Result → Sem PySem.Fin} (hc : ∀ p, S1 M A Φ c' (M.den c') (.ret k h g l c p [] :: fs) s) : S1 M A Φ c (.call c' h g l k) fs s := by
  rintro Γ p rfl hΓ
  obtain ⟨e, s', hr, he⟩ := hc p (Γ.goto c') p rfl (hΓ.goto c')
  exact ⟨e, s', runs_call_seg hr, he⟩
theorem s1_leaf {k h g l c₁ p₁ kp} (r : Result) (hk : S1 M A Φ c₁ (k r) fs s) : S1 M A Φ c (leafOf r) (.ret k h g l c₁ p₁ kp :: fs) s := by
  rintro Γ p rfl hΓ
  obtain ⟨e, s', hr, he⟩ := hk (Γ.goto c₁) p₁ rfl (hΓ.goto c₁)
  exact ⟨e, s', Runs.pop r hr, he⟩
theorem s1_again {c' : Code} (hq : c'.quiet = true) (hc : S1 M A Φ c' (M.den c') fs s) : S1 M A Φ c (.pure (.again c')) fs s := by
  rintro Γ p rfl hΓ
  obtain ⟨e, s', hr, he⟩ := hc (Γ.goto c') p rfl (hΓ.goto c')
  exact ⟨e, s', Runs.head (c₁ := c') (fun _ _ x => .again hq x) hr, he⟩
theorem s1_end (r : Result) (h : Φ (.ret r) s) : S1 M A Φ c (leafOf r) [] s := by
  rintro Γ p rfl _
  exact ⟨.ret r, s, Runs.leaf r, h⟩
theorem s1_yield {v g l} {k : Resume → Sem PySem.Fin} (hfs : splitAtGen fs = none) (h : ∀ p, Φ (.susp v g l k c p fs) s) : S1 M A Φ c (.yield v g l k) fs s := by
  rintro Γ p rfl _
  exact ⟨_, s, Runs.yield' fs hfs, h p⟩
end
section
variable {prog : Program} {w : World} {A : Around} {Φ : End → Shared → Prop} {c : Code} {fs : List Frame} {s : Shared} {env : Env} {K : Flow → Sem PySem.Fin} {J : Value → Sem PySem.Fin} {gd : Bool → Bool} {lv : List Value → List Value}
theorem s1_cons {st : Stmt} {rest : List Stmt} (h : S1 (model prog w) A Φ c ((exec st env).wrap (fun f => match f with | .next => (execs rest env).wrap K J gd lv | f => K f) J gd lv) fs s) :
    S1 (model prog w) A Φ c ((execs (st :: rest) env).wrap K J gd lv) fs s := by rw [execs_cons_wrap]; exact h
theorem execs_app_wrap : ∀ (a b : List Stmt) {K : Flow → Sem PySem.Fin}, (execs (a ++ b) env).wrap K J gd lv = (execs a env).wrap (fun f => match f with | .next => (execs b env).wrap K J gd lv | f => K f) J gd lv
  | [], b, K => rfl
  | st :: a, b, K => by
    rw [List.cons_append, execs_cons_wrap, execs_cons_wrap]
    refine Sem.wrap_congr _ _ _ (fun f => ?_) fun _ => rfl
    cases f with
    | next => exact execs_app_wrap a b
    | _ => rfl
theorem s1_app {a b : List Stmt} (h : S1 (model prog w) A Φ c ((execs a env).wrap (fun f => match f with | .next => (execs b env).wrap K J gd lv | f => K f) J gd lv) fs s) : S1 (model prog w) A Φ c ((execs (a ++ b) env).wrap K J gd lv) fs s := by rw [execs_app_wrap]; exact h
theorem s1_Yield {e : Expr} {ypos pos : Pos} (hfs : splitAtGen fs = none) (hgd : gd false = false)
    (h : wpAny (model prog w) (A.over c fs) (eval e env) (fun v s' => ∀ (k : Resume → Sem PySem.Fin) (l : List Value) (p : Pos), (∀ (Ψ : End → Shared → Prop) s'', S1 (model prog w) A Ψ c (K .next) fs s'' → S1 (model prog w) A Ψ c (k (.send .none)) fs s'') → Φ (.susp v false l k c p fs) s') nov s)
    (hco : env.scope.isCoroutine = false := by rfl) (hi : interactive env = false := by rfl) :
    S1 (model prog w) A Φ c ((exec (.Expr (.Yield (some e) ypos) pos) env).wrap K J gd lv) fs s := by
  rw [exec_Expr env _ pos hi rfl]
  show S1 (model prog w) A Φ c (.at pos fun _ => ((eval e env >>= fun v => (standAt ypos >>= fun _ => yieldOut env v)) >>= fun x => dropValue (.Yield (some e) ypos) pos x).wrap K J gd lv) fs s
  have hy : ∀ v, yieldOut env v = yieldValue v := fun v => by simp only [yieldOut, hco, Bool.false_eq_true, if_false]
  simp only [hy]
  refine s1_at ?_
  rw [Sem.bind_eq_wrap', Sem.bind_eq_wrap', Sem.wrap_wrap, Sem.wrap_wrap]
  refine s1_wrap0 (wpAny_mono h (fun v s' h' => ?_) fun _ _ z => z.elim)
  refine s1_at (s1_yield hfs fun p => ?_)
  have e1 : (fun g => gd (id g)) false = false := hgd
  rw [e1]
  refine h' _ _ p ?_
  intro Ψ s'' hx
  exact hx
theorem s1_func {body : List Stmt} (h : S1 (model prog w) A Φ (.func body env) ((execs body env).wrap (fun f => .pure (.done (.ret (match f with | .ret v => v | _ => .none)))) (fun e => (leaving env e).wrap (fun _ => .raise e) .raise id id) id id) fs s) :
    S1 (model prog w) A Φ (.func body env) ((model prog w).den (.func body env)) fs s := by
  show S1 _ A Φ _ (.point [] fun _ => ((execs body env).onRaise (leaving env)) >>= _) fs s
  refine s1_point ?_
  rw [Sem.onRaise_eq_wrap, Sem.bind_eq_wrap', Sem.wrap_wrap]
  rw [Sem.wrap_congr (execs body env) _ _ (K' := fun f => .pure (.done (.ret (match f with | .ret v => v | _ => .none)))) (H' := fun e => (leaving env e).wrap (fun _ => .raise e) .raise id id) (fun f => by cases f <;> rfl) (fun e => by rw [Sem.bind_eq_wrap, Sem.wrap_wrap]; rfl)]
  exact h
theorem s1_For {tg iter : Expr} {body orelse : List Stmt} {pos : Pos}
    (h : wpAny (model prog w) (A.over c fs) (eval iter env) (fun x s₁ => wpAny (model prog w) (A.over c fs) (pyIter x) (fun it s₂ =>
      ∀ p, S1 (model prog w) A Φ (.forLoop tg it body orelse env) ((model prog w).den (.forLoop tg it body orelse env)) (.ret (backK env K J gd lv) none (gd false) (lv []) c p [] :: fs) s₂) nov s₁) nov s)
    (hs : ∀ x, foldedSetIterable iter env x = pure x) :
    S1 (model prog w) A Φ c ((exec (.For tg iter body orelse pos) env).wrap K J gd lv) fs s := by
  rw [exec_For]
  refine s1_bind (wpAny_standAt ?_)
  refine s1_bind (wpAny_mono h (fun x s₁ h₁ => ?_) fun _ _ z => z)
  refine s1_bind (wpAny_of_eq (hs x) ?_)
  refine s1_bind (wpAny_standAt ?_)
  refine s1_bind (wpAny_holding (wpAny_mono h₁ (fun it s₂ h₂ => ?_) fun _ _ z => z))
  exact s1_call h₂
theorem s1_forLoop {tg : Expr} {it : Value} {body : List Stmt}
    (h : wpAny (model prog w) (A.over (.forLoop tg it body [] env) fs) (pyNext it) (fun r s₁ => match r with
      | none => S1 (model prog w) A Φ (.block [] env) (.pure (.done .next)) fs s₁
      | some v => wpAny (model prog w) (A.over (.forLoop tg it body [] env) fs) (letOwnedTupleGo tg it v) (fun _ s₂ => wpAny (model prog w) (A.over (.forLoop tg it body [] env) fs) (assign tg env v) (fun _ s₃ =>
          S1 (model prog w) A Φ (.forLoop tg it body [] env) ((execs body env).wrap (fun f => match f with
            | .next | .cont => .pure (.again (.forLoop tg it body [] env))
            | .brk => .pure (.done .next)
            | .ret v => .pure (.done (.ret v))) (outJ env) id id) fs s₃) nov s₂) nov s₁) nov s) :
    S1 (model prog w) A Φ (.forLoop tg it body [] env) ((model prog w).den (.forLoop tg it body [] env)) fs s := by
  show S1 _ A Φ _ ((forTurn tg it body [] env).onRaise (fun x => do noteFrame x env; theTreesLotGoes x)) fs s
  unfold forTurn
  rw [Sem.onRaise_eq_wrap]
  refine s1_bind (wpAny_standAt ?_)
  refine s1_bind (wpAny_onRaise (wpAny_mono h (fun r s₁ h₁ => ?_) fun _ _ z => z.elim))
  cases r with
  | none =>
    show S1 _ A Φ _ (.pure (.again (.block [] env))) fs s₁
    exact s1_again rfl h₁
  | some v =>
    refine s1_bind (wpAny_mono h₁ (fun _ s₂ h₂ => ?_) fun _ _ z => z)
    refine s1_bind (wpAny_mono h₂ (fun _ s₃ h₃ => ?_) fun _ _ z => z)
    rw [Sem.bind_eq_wrap', Sem.wrap_wrap]
    rw [Sem.wrap_congr (execs body env) _ _ (K' := fun f => match f with
            | .next | .cont => .pure (.again (.forLoop tg it body [] env))
            | .brk => .pure (.done .next)
            | .ret v => .pure (.done (.ret v))) (H' := outJ env)
        (fun f => by cases f <;> rfl)
        (fun e => by first | exact Sem.bind_eq_wrap _ _ | (show (do noteFrame e env; theTreesLotGoes e : Sem Unit).bind (fun _ => .raise e) = _; rw [Sem.bind_eq_wrap]; rfl) | rfl)]
    exact h₃
end
/-! ### waking it -/
end GV
set_option maxHeartbeats 4000000
/-! GN7: a generator's code at work: its context anew at each waking. -/
namespace GV
open PySem L2 PySem.Spec PyProof.Rows
/-! ### the heap as far as n -/
def truncH (n : Nat) (h : Heap) : Heap := { h with objs := h.objs.extract 0 n }
theorem trunc_get {n : Nat} {h : Heap} {b : Addr} (hb : b < n) : (truncH n h).get? b = h.get? b := by
  have e : (truncH n h).objs[b]? = h.objs[b]? := by
    show (h.objs.extract 0 n)[b]? = _
    rw [Array.getElem?_extract, Nat.zero_add, Nat.sub_zero]
    by_cases hs : b < h.objs.size
    · rw [if_pos (Nat.lt_min.mpr ⟨hb, hs⟩)]
    · rw [if_neg (fun z => hs (Nat.lt_min.mp z).2), Array.getElem?_eq_none (Nat.le_of_not_lt hs)]
  unfold Heap.get?
  rw [e]
theorem trunc_size (n : Nat) (h : Heap) : (truncH n h).objs.size ≤ n := by
  show (h.objs.extract 0 n).size ≤ n
  simp only [Array.size_extract]
  omega
theorem trunc_lt {n : Nat} {h : Heap} {b : Addr} {o : Obj} (e : (truncH n h).get? b = some o) : b < n := Nat.lt_of_lt_of_le (Heap.lt_size e) (trunc_size n h)
theorem trunc_of {n : Nat} {h : Heap} {b : Addr} {o : Obj} (e : (truncH n h).get? b = some o) : b < n ∧ h.get? b = some o := ⟨trunc_lt e, by rw [← trunc_get (trunc_lt e)]; exact e⟩
theorem frames_trunc {n : Nat} {h base : Heap} : ∀ {l : List Env}, (∀ b ∈ frs l, b < n) → h.FunFrames base l → (truncH n h).FunFrames base l
  | [], _, _ => trivial
  | env :: r, hb, ⟨hk, ⟨L, o, hf, hn, ho, hd⟩, hr⟩ => by
    have e : frs (env :: r) = L :: frs r := by
      unfold frs
      rw [List.filterMap_cons, hf]
    rw [e] at hb
    exact ⟨hk, ⟨L, o, hf, hn, by rw [trunc_get (hb L (List.mem_cons_self ..))]; exact ho, hd⟩, frames_trunc (fun b q => hb b (List.mem_cons_of_mem _ q)) hr⟩
/-! ### a generator: its def, where it was made -/
structure GP where
  P : Program
  w : World
  K : PySem.W.Frag
  mg : Str → Option Value
  base : Heap
  N : List Str
  qual : Str
  scope : Scope
  f : Addr
  cdv : Value
  Aw : Around
  outer : List Env
  n0 : Nat
  a : Addr
  go : Obj
  os0 : OsState
def GP.env (G : GP) : Env := envOfC G.qual G.scope G.n0 G.f G.cdv
def GP.cx (G : GP) (H0 : Hp) (s0 : Shared) : Cx where
  prog := G.P
  w := G.w
  K := G.K
  mg := G.mg
  base := G.base
  A := G.Aw.deeper G.env
  N := G.N
  s_0 := { s0 with heap := truncH G.n0 s0.heap }
  H_0 := H0
  env := G.env
  outer := G.outer
  stack := G.env :: G.outer
  ex := []
  calm := true
  fn := fun _ => true
  pn := [(G.a, G.go)]
  xe := nov
structure GP.Ok (G : GP) : Prop where
  mod : Mod G.K G.mg G.base
  kind : G.scope.kind = .function
  frames : G.Aw.frames = some G.outer
  hd : G.Aw.handled = none
  inj : ∀ x y c, G.env.cells.lookup x = some c → G.env.cells.lookup y = some c → x = y
  has : ∀ x, (G.env.kindOf x = some .cell ∨ G.env.kindOf x = some .free) → ∃ c, G.env.cells.lookup x = some c
  cab : ∀ x c, G.env.cells.lookup x = some c → G.n0 < c
  bsz : G.base.objs.size ≤ G.n0
  fr : ∀ b ∈ frs G.outer, b < G.n0
  frb : ∀ b ∈ frs G.outer, G.base.get? b = none
  a0 : G.n0 < G.a
  ac : ∀ x c, G.env.cells.lookup x = some c → c ≠ G.a
  goc : ∀ v, G.go.data ≠ .cell v
def GP.pv0 (G : GP) : List Addr := G.n0 :: (G.env.cells.filterMap (fun p => G.env.cells.lookup p.1) ++ [G.a])
theorem GP.in_cell {G : GP} {x : Str} {c : Addr} (h : G.env.cells.lookup x = some c) : c ∈ G.pv0 := List.mem_cons_of_mem _ (List.mem_append_left _ (List.mem_filterMap.mpr ⟨(x, c), PySem.mem_of_lookup h, h⟩))
theorem GP.in_L {G : GP} : G.n0 ∈ G.pv0 := List.mem_cons_self ..
theorem GP.in_a {G : GP} : G.a ∈ G.pv0 := List.mem_cons_of_mem _ (List.mem_append_right _ (List.mem_singleton.mpr rfl))
/-- all else, locked -/
def GP.allH (G : GP) (pv : List Addr) (s0 : Shared) : Hp := fun b => if G.n0 ≤ b ∧ b ∉ pv then (s0.heap.get? b).map fun o => .frz o (.own 0) else none
theorem GP.allH_lt {G : GP} {pv : List Addr} {s0 : Shared} {b : Addr} (h : b < G.n0) : G.allH pv s0 b = none := by
  unfold GP.allH
  rw [if_neg (fun z => absurd h (Nat.not_lt.mpr z.1))]
theorem GP.allH_in {G : GP} {pv : List Addr} {s0 : Shared} {b : Addr} (h : b ∈ pv) : G.allH pv s0 b = none := by
  unfold GP.allH
  rw [if_neg (fun z => z.2 h)]
theorem GP.allH_out {G : GP} {pv : List Addr} {s0 : Shared} {b : Addr} {o : Obj} (h : G.n0 ≤ b) (hb : b ∉ pv) (e : s0.heap.get? b = some o) : G.allH pv s0 b = some (.frz o (.own 0)) := by
  unfold GP.allH
  rw [if_pos ⟨h, hb⟩, e]
  rfl
theorem GP.allH_some {G : GP} {pv : List Addr} {s0 : Shared} {b : Addr} {u : HO} (e : G.allH pv s0 b = some u) : G.n0 ≤ b ∧ b ∉ pv ∧ ∃ o, s0.heap.get? b = some o ∧ u = .frz o (.own 0) := by
  unfold GP.allH at e
  split at e
  · rename_i h
    obtain ⟨o, h1, h2⟩ := Option.map_eq_some_iff.mp e
    exact ⟨h.1, h.2, o, h1, h2.symm⟩
  · cases e
/-- a state in which it may be woken -/
structure GoodW (G : GP) (s : Shared) : Prop where
  os : s.os = G.os0
  bare : AllBare s.gens
  base : ∀ b o, G.base.get? b = some o → s.heap.get? b = some o
  frames : s.heap.FunFrames G.base G.outer
/-- its names, its cells -/
structure LocAt (G : GP) (σ : L2.St) (h : Heap) : Prop where
  loc : ∃ m, h.Ns G.n0 m ∧ ∀ (i : Nat) (x : Str) (v : V), G.N[i]? = some x → σ[i]? = some (some v) → Vis G.scope x → ∃ u, RelV v u ∧ Look G.env h m x u
  cell : ∀ x c, G.env.cells.lookup x = some c → ∃ v, h.IsCell c v
  me : h.get? G.a = some G.go
section
variable {G : GP} {pv fp : List Addr} {σ σ' : L2.St} {H : Hp} {s s0 s' : Shared} {pins : List (Addr × Obj)}
theorem LocAt.keep {h h' : Heap} (x : LocAt G σ h) (hp : ∀ b ∈ G.pv0, b ∈ pv) (k : ∀ b ∈ pv, ∀ o, h.get? b = some o → h'.get? b = some o) : LocAt G σ h' := by
  have ck : ∀ y c, G.env.cells.lookup y = some c → ∀ v, h.IsCell c v → h'.IsCell c v := fun y c e v ⟨o, ho, hd⟩ => ⟨o, k c (hp c (GP.in_cell e)) o ho, hd⟩
  refine ⟨?_, fun y c e => ?_, k _ (hp _ GP.in_a) _ x.me⟩
  · obtain ⟨m, ⟨o, es, ep, ho, r⟩, hl⟩ := x.loc
    refine ⟨m, ⟨o, es, ep, k _ (hp _ GP.in_L) o ho, r⟩, fun i y v h1 h2 h3 => ?_⟩
    obtain ⟨u, ru, lk⟩ := hl i y v h1 h2 h3
    refine ⟨u, ru, ?_⟩
    rcases lk with l | ⟨q, c, e, z⟩
    · exact .inl l
    · exact .inr ⟨q, c, e, ck y c e _ z⟩
  · obtain ⟨v, z⟩ := x.cell y c e
    exact ⟨v, ck y c e v z⟩
theorem LocAt.of (I : Inv (G.cx H s0) pins σ' H' s) (hs : ∀ (i : Nat) (v : V), σ[i]? = some (some v) → σ'[i]? = some (some v)) : LocAt G σ s.heap := by
  refine ⟨?_, I.cell, (I.pin (G.a, G.go) (List.mem_append_left _ (List.mem_singleton.mpr rfl))).1⟩
  obtain ⟨m, hn, hl⟩ := I.loc
  exact ⟨m, hn, fun i x v h1 h2 h3 => hl i x v h1 (hs i v h2) h3⟩
/-- woken: the context of this stretch -/
theorem inv_wake (ok : G.Ok) (W : GoodW G s) (L : LocAt G σ s.heap) (hl : σ.length = G.N.length) (hp : ∀ b ∈ G.pv0, b ∈ pv) : Inv (G.cx (G.allH pv s) s) [] σ (G.allH pv s) s := by
  have nL : G.allH pv s G.n0 = none := GP.allH_in (hp _ GP.in_L)
  refine ⟨⟨ok.mod, ok.kind, rfl, rfl, trunc_size _ _, ok.inj, ok.has, fun x c _ e => Nat.le_trans (trunc_size _ _) (Nat.le_of_lt (ok.cab x c e)), fun _ => ok.hd, Around.frames_deeper ok.frames, .inr ⟨rfl, rfl⟩, fun b z => absurd (show b ∈ ([] : List Addr) from z) (by simp), fun b o e => ?_, ?_, fun b o e z => absurd (show b ∈ ([] : List Addr) from z) (by simp), fun b z => absurd (show b ∈ ([] : List Addr) from z) (by simp), frames_trunc ok.fr W.frames, fun b hb => GP.allH_lt (ok.fr b hb)⟩,
    rfl, W.bare, ⟨fun b o e n _ _ => (trunc_of e).2, fun b o e n _ _ => ⟨o.slots, (trunc_of e).2⟩, fun b o e n _ => n, fun b o e _ => ⟨o, (trunc_of e).2⟩, fun _ _ e => e, fun _ _ _ e => e, fun b ps e => ⟨#[], by have e' : G.allH pv s b = some (.tbl ps) := e; rw [e']; simp⟩⟩, L.loc, L.cell, nL, fun x c e => GP.allH_in (hp c (GP.in_cell e)), fun p hq => ?_, fun b u e => ?_, hl⟩
  · have lt : b < G.n0 := Nat.lt_of_lt_of_le (Heap.lt_size e) ok.bsz
    exact ⟨by show (truncH G.n0 s.heap).get? b = some o; rw [trunc_get lt]; exact W.base b o e, GP.allH_lt lt⟩
  · show G.base.objs.size ≤ (truncH G.n0 s.heap).objs.size
    have := L.loc
    obtain ⟨m, hn, _⟩ := this
    have h1 : G.n0 < s.heap.objs.size := hn.lt
    have h2 := ok.bsz
    show _ ≤ (s.heap.objs.extract 0 G.n0).size
    rw [Array.size_extract, Nat.sub_zero, Nat.min_eq_left (Nat.le_of_lt h1)]
    exact h2
  · have e : p = (G.a, G.go) := by
      rcases List.mem_append.mp hq with z | z
      · exact List.mem_singleton.mp z
      · cases z
    subst e
    exact ⟨L.me, GP.allH_in (hp _ GP.in_a), Nat.ne_of_gt ok.a0, fun z => absurd (ok.fr _ z) (Nat.not_lt.mpr (Nat.le_of_lt ok.a0)), ok.goc⟩
  · obtain ⟨_, _, o, ho, rfl⟩ := GP.allH_some e
    exact ⟨ho, o, ho⟩
/-- what else there was stands -/
def KeepG (G : GP) (pv : List Addr) (s0 s : Shared) : Prop := ∀ b o, s0.heap.get? b = some o → b ∉ pv → ∃ sl, s.heap.get? b = some { o with slots := sl } ∧ (b ∉ frs G.outer → s.heap.get? b = some o)
theorem keep_of (I : Inv (G.cx (G.allH pv s0) s0) pins σ H s) : KeepG G pv s0 s := fun b o e hb => by
  by_cases lt : b < G.n0
  · have e1 : (truncH G.n0 s0.heap).get? b = some o := by rw [trunc_get lt]; exact e
    obtain ⟨sl, q⟩ := I.base.any (b := b) e1 (GP.allH_lt lt) (by simp [GP.cx])
    exact ⟨sl, q, fun hf => I.base.keep b o e1 (GP.allH_lt lt) hf (by simp [GP.cx])⟩
  · have e1 := I.base.frzs b o _ (GP.allH_out (Nat.le_of_not_lt lt) hb e)
    have e2 := (I.hok b _ e1).1
    exact ⟨o.slots, e2, fun _ => e2⟩
/-- its new tuples stand at new places -/
theorem fresh_of (ok : G.Ok) (I : Inv (G.cx (G.allH pv s0) s0) pins σ H s) (hp : ∀ b ∈ pv, b ∈ G.pv0 ∨ H b = none) {b : Addr} {xs : List V} (e : H b = some (.tup xs)) : s0.heap.get? b = none := by
  cases q : s0.heap.get? b with
  | none => rfl
  | some o =>
    exfalso
    by_cases lt : b < G.n0
    · have e1 : (truncH G.n0 s0.heap).get? b = some o := by rw [trunc_get lt]; exact q
      have := I.base.free b o e1 (GP.allH_lt lt) (by simp [GP.cx])
      rw [this] at e
      cases e
    · by_cases hb : b ∈ pv
      · rcases hp b hb with h | h
        · have h : b = G.n0 ∨ b ∈ G.env.cells.filterMap (fun p => G.env.cells.lookup p.1) ++ [G.a] := List.mem_cons.mp h
          rcases h with h | h
          · have := I.free
            rw [h] at e
            have e' : H (G.cx (G.allH pv s0) s0).env.locals = some (.tup xs) := e
            rw [this] at e'
            cases e'
          · rcases List.mem_append.mp h with h | h
            · obtain ⟨⟨x, c⟩, hc, h1⟩ := List.mem_filterMap.mp h
              have := I.freeC x b h1
              rw [this] at e
              cases e
            · have e2 : b = G.a := List.mem_singleton.mp h
              subst e2
              have := (I.pin (G.a, G.go) (List.mem_append_left _ (List.mem_singleton.mpr rfl))).2.1
              rw [this] at e
              cases e
        · rw [h] at e; cases e
      · have e1 := I.base.frzs b o _ (GP.allH_out (Nat.le_of_not_lt lt) hb q)
        rw [e1] at e
        cases e
end
end GV
set_option maxHeartbeats 4000000
/-! GN8: for x in range(..): .. ; yield e — all its stretches. -/
namespace GV
open PySem L2 PySem.Spec PyProof.Rows
abbrev bodyY (bs : List Stmt) (e : Expr) (yp pos : Pos) : List Stmt := bs ++ [.Expr (.Yield (some e) yp) pos]
structure GSpec (G : GP) (tg iter : Expr) (bs : List Stmt) (e : Expr) (ta : TA) (tt : TG) (tb : TS) (te : TE) (σw : L2.St) (tot : Nat) (Yl : Nat → V → Hp → Prop) : Prop where
  hi : ∀ H0 s0, PI (G.cx H0 s0) tg iter (iRng1 ta)
  hg : ∀ H0 s0, PG (G.cx H0 s0) tg tt
  hb : ∀ H0 s0, PSs (G.cx H0 s0) bs tb
  he : ∀ H0 s0, PE (G.cx H0 s0) e te
  hs : ∀ x, foldedSetIterable iter G.env x = pure x
  co : G.env.scope.isCoroutine = false
  intr : interactive G.env = false
  start : ∀ H, ta σw H fun vs _ => vs = [.int (tot : Nat)]
  small : (tot : Int) < 2 ^ 62
  turn : ∀ j, j < tot → ∀ H, tt (.int ((j : Nat) : Int)) σw H fun σ2 H2 => tb { nx := fun σ3 H3 => (∀ (i : Nat) (v : V), σw[i]? = some (some v) → σ3[i]? = some (some v)) ∧ te σ3 H3 fun y H4 => Yl j y H4, rt := fun _ _ => False, bk := fun _ _ => False, ct := fun _ _ => False } σ2 H2
  ar : ∀ H (Q Q' : List V → Hp → Prop), (∀ vs H1, Q vs H1 → Q' vs H1) → ta σw H Q → ta σw H Q'
  len : σw.length = G.N.length
abbrev lcode (G : GP) (tg : Expr) (it : Addr) (bs : List Stmt) (e : Expr) (yp pos : Pos) : Code := .forLoop tg (.ref it) (bodyY bs e yp pos) [] G.env
section
variable {G : GP} {tg iter : Expr} {bs : List Stmt} {e : Expr} {ta : TA} {tt : TG} {tb : TS} {te : TE} {σw : L2.St} {tot : Nat} {Yl : Nat → V → Hp → Prop} {yp pos : Pos}
theorem turn1 (S : GSpec G tg iter bs e ta tt tb te σw tot Yl) {H0 : Hp} {s0 s : Shared} {fp : List Addr} {it : Addr} {tn : Nat → Heap → Prop} (T : Turn G.P G.w G.K tg (Itr 0 tot) fp it tn) {fs : List Frame} (hfs : splitAtGen fs = none)
    (hov : G.Aw.over (lcode G tg it bs e yp pos) fs = G.Aw.deeper G.env) {j : Nat} (hj : j < tot) {H : Hp} (I : Inv (G.cx H0 s0) [] σw H s) (hf : ∀ b ∈ fp, FpOk (G.cx H0 s0) [] H b) (st : tn j s.heap) {Φ : End → Shared → Prop}
    (hΦ : ∀ v y σ5 H5 s5 k l p, Inv (G.cx H0 s0) [] σ5 H5 s5 → RelV y v → Yl j y H5 → (∀ (i : Nat) (v : V), σw[i]? = some (some v) → σ5[i]? = some (some v)) → tn (j + 1) s5.heap → (∀ b ∈ fp, H5 b = none) →
      (∀ (Ψ : End → Shared → Prop) s'', S1 (model G.P G.w) G.Aw Ψ (lcode G tg it bs e yp pos) ((model G.P G.w).den (lcode G tg it bs e yp pos)) fs s'' → S1 (model G.P G.w) G.Aw Ψ (lcode G tg it bs e yp pos) (k (.send .none)) fs s'') → Φ (.susp v false l k (lcode G tg it bs e yp pos) p fs) s5) :
    S1 (model G.P G.w) G.Aw Φ (lcode G tg it bs e yp pos) ((model G.P G.w).den (lcode G tg it bs e yp pos)) fs s := by
  refine s1_forLoop ?_
  rw [hov]
  refine wpAny_mono (T.item (G.cx H0 s0) rfl rfl rfl rfl j [] s σw H nov I hf st hj) (fun r s1 h1 => ?_) fun _ _ z => z
  obtain ⟨u, rfl, h1⟩ := h1
  refine wpAny_mono h1 (fun _ s2 h2 => ?_) fun _ _ z => z
  obtain ⟨x, H', I2, rx, yl, st2, fn2⟩ := h2
  obtain ⟨rfl, rfl⟩ := yl
  have hf2 : ∀ b ∈ fp, FpOk (G.cx H0 s0) [] H' b := hf
  have I3 := I2.pinned hf2 (T.obj _ _ st2)
  have ex : (0 : Int) + ((j : Nat) : Int) = ((j : Nat) : Int) := Int.zero_add _
  rw [ex] at rx
  refine wpAny_mono ((S.hg H0 s0).run _ s2 σw H' (.int ((j : Nat) : Int)) u _ I3 rx (S.turn j hj H')) (fun _ s3 h3 => ?_) fun _ _ z => z
  obtain ⟨σ3, H3, I3b, q3⟩ := h3
  refine s1_app ?_
  refine s1_wrap0 ?_
  rw [hov]
  refine wpAny_mono ((S.hb H0 s0).run _ s3 σ3 H3 _ I3b q3) (fun f s4 h4 => ?_) fun _ _ z => z
  cases f with
  | brk => obtain ⟨_, _, _, z⟩ := h4; exact z.elim
  | cont => obtain ⟨_, _, _, z⟩ := h4; exact z.elim
  | ret u => obtain ⟨_, _, _, _, _, z⟩ := h4; exact z.elim
  | next =>
    obtain ⟨σ4, H4, I4, x4, q4⟩ := h4
    refine s1_cons ?_
    refine s1_Yield hfs rfl ?_ S.co S.intr
    rw [hov]
    refine wpAny_mono ((S.he H0 s0).run _ s4 σ4 H4 _ I4 q4) (fun v s5 h5 => ?_) fun _ _ z => z
    obtain ⟨y, H5, I5, ry, yl⟩ := h5
    intro k l p hk
    have st5 : tn (j + 1) s5.heap := T.keep _ _ _ st2 fun b hb o eo => (I5.pin (b, o) (List.mem_append_right _ (List.mem_append_right _ (mem_pinsAt hb eo)))).1
    refine hΦ v y σ4 H5 s5 k l p (Inv.unpinned I5) ry yl x4 st5 (fun b hb => ?_) fun Ψ s'' h => hk Ψ s'' ?_
    · obtain ⟨o, eo, _⟩ := T.obj _ _ st2 b hb
      exact (I5.pin (b, o) (List.mem_append_right _ (List.mem_append_right _ (mem_pinsAt hb eo)))).2.1
    · show S1 _ _ Ψ _ (.pure (.again (lcode G tg it bs e yp pos))) fs s''
      exact s1_again rfl h
/-- the frame under the loop -/
abbrev frame0 (G : GP) (K : Flow → Sem PySem.Fin) (J : Value → Sem PySem.Fin) (c : Code) (p : Pos) : Frame := .ret (backK G.env K J id id) none (id false) (id []) c p []
theorem end1 {H0 : Hp} {s0 s : Shared} {fp : List Addr} {it : Addr} {tn : Nat → Heap → Prop} (T : Turn G.P G.w G.K tg (Itr 0 tot) fp it tn) {K : Flow → Sem PySem.Fin} {J : Value → Sem PySem.Fin} {c : Code} {p : Pos}
    (hov : G.Aw.over (lcode G tg it bs e yp pos) [frame0 G K J c p] = G.Aw.deeper G.env) {H : Hp} (I : Inv (G.cx H0 s0) [] σw H s) (hf : ∀ b ∈ fp, FpOk (G.cx H0 s0) [] H b) (st : tn tot s.heap) {Φ : End → Shared → Prop}
    (hK : K .next = .pure (.done (.ret .none))) (hΦ : ∀ s5, Inv (G.cx H0 s0) [] σw H s5 → Φ (.ret (.ok (.ret .none))) s5) :
    S1 (model G.P G.w) G.Aw Φ (lcode G tg it bs e yp pos) ((model G.P G.w).den (lcode G tg it bs e yp pos)) [frame0 G K J c p] s := by
  refine s1_forLoop ?_
  rw [hov]
  refine wpAny_mono (T.done (G.cx H0 s0) rfl rfl rfl rfl tot [] s σw H nov I hf st (Nat.le_refl _)) (fun r s1 h1 => ?_) fun _ _ z => z
  obtain ⟨rfl, I1⟩ := h1
  refine s1_leaf (.ok .next) ?_
  show S1 _ _ Φ _ (K .next) [] s1
  rw [hK]
  exact s1_end (.ok (.ret .none)) (hΦ s1 I1)
/-! ### the chain of its stretches -/
structure GoodEnd (G : GP) (pv : List Addr) (s0 s : Shared) : Prop where
  keep : KeepG G pv s0 s
  os : s.os = G.os0
  bare : AllBare s.gens
def chain (G : GP) (Yl : Nat → V → Hp → Prop) (pv : List Addr) : Nat → Nat → Shared → End → Shared → Prop
  | 0, _, s0, e, s' => e = .ret (.ok (.ret .none)) ∧ GoodEnd G pv s0 s'
  | r + 1, j, s0, e, s' => ∃ v y l k c p fs H5, e = .susp v false l k c p fs ∧ e.quiet = true ∧ RelV y v ∧ Yl j y H5 ∧ HOk G.P G.w H5 s'.heap ∧ (∀ b xs, H5 b = some (.tup xs) → s0.heap.get? b = none) ∧ (∀ b ∈ pv, H5 b = none) ∧ GoodEnd G pv s0 s' ∧ (∀ b ∈ pv, ∃ o, s'.heap.get? b = some o) ∧
      s'.heap.get? G.a = some G.go ∧ ∀ s'', GoodW G s'' → (∀ b ∈ pv, ∀ o, s'.heap.get? b = some o → s''.heap.get? b = some o) → S1 (model G.P G.w) G.Aw (chain G Yl pv r (j + 1) s'') c (k (.send .none)) fs s''
/-- what is known of the walked thing's own objects -/
structure FpSt (G : GP) (fp : List Addr) : Prop where
  ge : ∀ b ∈ fp, G.n0 ≤ b
  nl : ∀ b ∈ fp, b ≠ G.n0
  nf : ∀ b ∈ fp, b ∉ frs G.outer
  nc : ∀ b ∈ fp, ∀ x c, G.env.cells.lookup x = some c → c ≠ b
  na : ∀ b ∈ fp, G.a ≠ b
theorem trunc_le {n : Nat} {h : Heap} {b : Addr} (hb : n ≤ b) : (truncH n h).objs.size ≤ b := Nat.le_trans (trunc_size n h) hb
theorem FpSt.ok {fp : List Addr} (h : FpSt G fp) {H0 H : Hp} {s0 : Shared} (hn : ∀ b ∈ fp, H b = none) : ∀ b ∈ fp, FpOk (G.cx H0 s0) [] H b := fun b hb => ⟨hn b hb, h.nl b hb, h.nf b hb, .inr (trunc_le (h.ge b hb)), h.nc b hb, fun p hp => by
  have e : p = (G.a, G.go) := by
    rcases List.mem_append.mp hp with z | z
    · exact List.mem_singleton.mp z
    · cases z
  subst e
  exact h.na b hb⟩
theorem held_all {pv : List Addr} {σ5 : L2.St} {H5 H0 : Hp} {s0 s5 : Shared} {pins : List (Addr × Obj)} {fp : List Addr} {it : Addr} {tn : Nat → Heap → Prop} {j : Nat} (T : Turn G.P G.w G.K tg (Itr 0 tot) fp it tn) (I5 : Inv (G.cx H0 s0) pins σ5 H5 s5) (st5 : tn j s5.heap) :
    ∀ b ∈ G.pv0 ++ fp, ∃ o, s5.heap.get? b = some o := fun b hb => by
  rcases List.mem_append.mp hb with hb | hb
  · have hb : b = G.n0 ∨ b ∈ G.env.cells.filterMap (fun p => G.env.cells.lookup p.1) ++ [G.a] := List.mem_cons.mp hb
    rcases hb with rfl | hb
    · obtain ⟨m, ⟨o, _, _, ho, _⟩, _⟩ := I5.loc
      exact ⟨o, ho⟩
    · rcases List.mem_append.mp hb with h | h
      · obtain ⟨⟨x, c⟩, hc, h1⟩ := List.mem_filterMap.mp h
        obtain ⟨v, o, ho, _⟩ := I5.cell x b h1
        exact ⟨o, ho⟩
      · rw [List.mem_singleton.mp h]
        exact ⟨_, (I5.pin (G.a, G.go) (List.mem_append_left _ (List.mem_singleton.mpr rfl))).1⟩
  · obtain ⟨o, ho, _⟩ := T.obj _ _ st5 b hb
    exact ⟨o, ho⟩
theorem none_all {σ5 : L2.St} {H5 H0 : Hp} {s0 s5 : Shared} {fp : List Addr} (I5 : Inv (G.cx H0 s0) [] σ5 H5 s5) (fn5 : ∀ b ∈ fp, H5 b = none) : ∀ b ∈ G.pv0 ++ fp, H5 b = none := fun b hb => by
  rcases List.mem_append.mp hb with hb | hb
  · have hb : b = G.n0 ∨ b ∈ G.env.cells.filterMap (fun p => G.env.cells.lookup p.1) ++ [G.a] := List.mem_cons.mp hb
    rcases hb with rfl | hb
    · exact I5.free
    · rcases List.mem_append.mp hb with h | h
      · obtain ⟨⟨x, c⟩, hc, h1⟩ := List.mem_filterMap.mp h
        exact I5.freeC x b h1
      · rw [List.mem_singleton.mp h]
        exact (I5.pin (G.a, G.go) (List.mem_append_left _ (List.mem_singleton.mpr rfl))).2.1
  · exact fn5 b hb
theorem top (ok : G.Ok) (S : GSpec G tg iter bs e ta tt tb te σw tot Yl) {fp : List Addr} {it : Addr} {tn : Nat → Heap → Prop} (T : Turn G.P G.w G.K tg (Itr 0 tot) fp it tn) (hF : FpSt G fp) {K : Flow → Sem PySem.Fin} {J : Value → Sem PySem.Fin} {c : Code} {p : Pos}
    (hov : G.Aw.over (lcode G tg it bs e yp pos) [frame0 G K J c p] = G.Aw.deeper G.env) (hK : K .next = .pure (.done (.ret .none))) :
    ∀ r j, j + r = tot → ∀ s, GoodW G s → LocAt G σw s.heap → tn j s.heap → S1 (model G.P G.w) G.Aw (chain G Yl (G.pv0 ++ fp) r j s) (lcode G tg it bs e yp pos) ((model G.P G.w).den (lcode G tg it bs e yp pos)) [frame0 G K J c p] s := by
  have inF : ∀ b ∈ fp, b ∈ G.pv0 ++ fp := fun b hb => List.mem_append_right _ hb
  have in0 : ∀ b ∈ G.pv0, b ∈ G.pv0 ++ fp := fun b hb => List.mem_append_left _ hb
  intro r
  induction r with
  | zero =>
    intro j hj s W L st
    have e : j = tot := by omega
    subst e
    have I := inv_wake ok W L S.len in0
    exact end1 T hov I (hF.ok fun b hb => GP.allH_in (inF b hb)) st hK fun s5 I5 => ⟨rfl, keep_of I5, I5.os.trans W.os, I5.bare⟩
  | succ r ih =>
    intro j hj s W L st
    have I := inv_wake ok W L S.len in0
    refine turn1 S T rfl hov (by omega) I (hF.ok fun b hb => GP.allH_in (inF b hb)) st fun v y σ5 H5 s5 k l p I5 ry yl x5 st5 fn5 hk => ?_
    refine ⟨v, y, l, k, _, p, _, H5, rfl, rfl, ry, yl, I5.hok, fun b xs eb => fresh_of ok I5 (fun b hb => ?_) eb, none_all I5 fn5, ⟨keep_of I5, I5.os.trans W.os, I5.bare⟩, held_all (pv := []) T I5 st5, (I5.pin (G.a, G.go) (List.mem_append_left _ (List.mem_singleton.mpr rfl))).1, fun s'' W'' hp => ?_⟩
    · rcases List.mem_append.mp hb with hb | hb
      · exact .inl hb
      · exact .inr (fn5 b hb)
    · have L5 : LocAt G σw s5.heap := LocAt.of I5 x5
      exact hk _ s'' (ih (j + 1) (by omega) s'' W'' (L5.keep in0 hp) (T.keep _ _ _ st5 fun b hb o eo => hp b (inF b hb) o eo))
/-- the first stretch -/
theorem first (ok : G.Ok) (S : GSpec G tg iter bs e ta tt tb te σw tot Yl) {fpos : Pos} {s : Shared} (W : GoodW G s) (L : LocAt G σw s.heap) :
    S1 (model G.P G.w) G.Aw (fun en s' => ∃ fp, FpSt G fp ∧ chain G Yl (G.pv0 ++ fp) tot 0 s en s' ∧ ∀ b ∈ fp, s.heap.get? b = none) (.func [.For tg iter (bodyY bs e yp pos) [] fpos] G.env) ((model G.P G.w).den (.func [.For tg iter (bodyY bs e yp pos) [] fpos] G.env)) [] s := by
  have I := inv_wake ok W L S.len (pv := G.pv0) fun b hb => hb
  refine s1_func ?_
  refine s1_cons ?_
  refine s1_For ?_ S.hs
  have ov0 : G.Aw.over (.func [.For tg iter (bodyY bs e yp pos) [] fpos] G.env) [] = G.Aw.deeper G.env := GenW.over_func
  rw [ov0]
  have st0 : iRng1 ta σw (G.allH G.pv0 s) fun J _ => J = Itr 0 tot := S.ar _ _ _ (fun vs H1 q => ⟨(tot : Nat), q, by omega, S.small, by simp⟩) (S.start _)
  refine wpAny_mono ((S.hi _ _).run [] s σw _ _ I st0) (fun x s1 h1 => ?_) fun _ _ z => z
  refine wpAny_mono h1 (fun itv s2 h2 => ?_) fun _ _ z => z
  obtain ⟨it, fp, tn, J, H', rfl, I2, T, st2, hf, rfl⟩ := h2
  have hov : ∀ K J p, G.Aw.over (lcode G tg it bs e yp pos) [frame0 G K J (.func [.For tg iter (bodyY bs e yp pos) [] fpos] G.env) p] = G.Aw.deeper G.env := fun K J p => (GenW.over_loop rfl rfl).trans ov0
  have sz : (truncH G.n0 s.heap).objs.size = G.n0 := by
    obtain ⟨m, hn, _⟩ := L.loc
    have h1 : G.n0 < s.heap.objs.size := hn.lt
    show (s.heap.objs.extract 0 G.n0).size = _
    rw [Array.size_extract, Nat.sub_zero, Nat.min_eq_left (Nat.le_of_lt h1)]
  have hF : FpSt G fp := by
    refine ⟨fun b hb => ?_, fun b hb => (hf b hb).2.1, fun b hb => (hf b hb).2.2.1, fun b hb => (hf b hb).2.2.2.2.1, fun b hb => (hf b hb).2.2.2.2.2 (G.a, G.go) (List.mem_append_left _ (List.mem_singleton.mpr rfl))⟩
    rcases (hf b hb).2.2.2.1 with z | z
    · exact absurd (show b ∈ ([] : List Addr) from z) (by simp)
    · have z' : (truncH G.n0 s.heap).objs.size ≤ b := z
      rw [sz] at z'
      exact z'
  have hnew : ∀ b ∈ fp, s.heap.get? b = none := fun b hb => by
    cases q : s.heap.get? b with
    | none => rfl
    | some o =>
      exfalso
      have hp : b ∉ G.pv0 := fun h => by
        have h : b = G.n0 ∨ b ∈ G.env.cells.filterMap (fun p => G.env.cells.lookup p.1) ++ [G.a] := List.mem_cons.mp h
        rcases h with h | h
        · exact hF.nl b hb h
        · rcases List.mem_append.mp h with h | h
          · obtain ⟨⟨x, c⟩, hc, h1⟩ := List.mem_filterMap.mp h
            exact hF.nc b hb x b h1 rfl
          · exact hF.na b hb (List.mem_singleton.mp h).symm
      have e1 := I2.base.frzs b o _ (GP.allH_out (hF.ge b hb) hp q)
      rw [(hf b hb).1] at e1
      cases e1
  have in0 : ∀ b ∈ G.pv0, b ∈ G.pv0 ++ fp := fun b hb => List.mem_append_left _ hb
  have inF : ∀ b ∈ fp, b ∈ G.pv0 ++ fp := fun b hb => List.mem_append_right _ hb
  have kp : ∀ {s5 : Shared}, KeepG G G.pv0 s s5 → KeepG G (G.pv0 ++ fp) s s5 := fun h b o e hb => h b o e fun z => hb (in0 b z)
  intro p
  cases htot : tot with
  | zero =>
    subst htot
    refine end1 T (hov _ _ p) I2 hf st2 rfl fun s5 I5 => ⟨fp, hF, ⟨rfl, kp (keep_of I5), I5.os.trans W.os, I5.bare⟩, hnew⟩
  | succ r =>
    subst htot
    refine turn1 S T rfl (hov _ _ p) (by omega) I2 hf st2 fun v y σ5 H5 s5 k l q I5 ry yl x5 st5 fn5 hk => ?_
    refine ⟨fp, hF, ⟨v, y, l, k, _, q, _, H5, rfl, rfl, ry, yl, I5.hok, fun b xs eb => fresh_of ok I5 (fun b hb => .inl hb) eb, none_all I5 fn5, ⟨kp (keep_of I5), I5.os.trans W.os, I5.bare⟩, held_all (pv := []) T I5 st5, (I5.pin (G.a, G.go) (List.mem_append_left _ (List.mem_singleton.mpr rfl))).1, fun s'' W'' hp => ?_⟩, hnew⟩
    have L5 : LocAt G σw s5.heap := LocAt.of I5 x5
    exact hk _ s'' (top ok S T hF (hov _ _ p) rfl r 1 (by omega) s'' W'' (L5.keep in0 hp) (T.keep _ _ _ st5 fun b hb o eo => hp b (inF b hb) o eo))
end
end GV
set_option maxHeartbeats 4000000
/-! GN9: a generator is made by a call. -/
namespace GV
open PySem L2 PySem.Spec PyProof.Rows CT
end GV
set_option maxHeartbeats 4000000
/-! GN10: behind a generator's stretch: the consumer's state. -/
namespace GV
open PySem L2 PySem.Spec PyProof.Rows CT
theorem ob_there {P : Program} {w : World} {H : Hp} {h : Heap} {a : Addr} {o : HO} (x : ObjOk P w H h a o) : ∃ ob, h.get? a = some ob := by
  cases o with
  | lst xs => obtain ⟨_, _, _, _, e⟩ := x; exact ⟨_, e⟩
  | tup xs => obtain ⟨_, _, _, ob, e, _⟩ := x; exact ⟨_, e⟩
  | dK kvs => obtain ⟨_, _, _, _, o, _, _, e, _⟩ := x; exact ⟨_, e⟩
  | dT kvs => obtain ⟨_, _, _, _, o, _, _, e, _⟩ := x; exact ⟨_, e⟩
  | set S n => obtain ⟨o, _, _, _, e, _⟩ := x; exact ⟨_, e⟩
  | ins C dx fs => obtain ⟨_, _, _, e, _⟩ := x; exact ⟨_, e⟩
  | own y => exact x
  | xd fs => obtain ⟨_, ⟨_, _, _, e, _⟩, _⟩ := x; exact ⟨_, e⟩
  | rng lo hi => obtain ⟨_, _, _, e⟩ := x; exact ⟨_, e⟩
  | frz ob u => exact ⟨_, x.1⟩
  | tbl ps => exact ⟨_, (show h.get? a = some _ from x)⟩
  | met f y => exact ⟨_, (show h.get? a = some _ from x)⟩
  | ext φ => exact x.2.1
/-- what was tracked, and the new tuples -/
def landH (h : Heap) (H H5 : Hp) : Hp := fun b => match h.get? b with
  | some _ => H b
  | none => match H5 b with
    | some (.tup xs) => some (.tup xs)
    | _ => none
theorem land_some {h : Heap} {H H5 : Hp} {b : Addr} {o : Obj} (e : h.get? b = some o) : landH h H H5 b = H b := by unfold landH; rw [e]
theorem land_new {h : Heap} {H H5 : Hp} {b : Addr} {u : HO} (e : h.get? b = none) (q : landH h H H5 b = some u) : ∃ xs, u = .tup xs ∧ H5 b = some (.tup xs) := by
  unfold landH at q
  rw [e] at q
  simp only at q
  split at q
  · rename_i xs hx
    cases q
    exact ⟨xs, rfl, hx⟩
  · cases q
section
variable {X : Cx} {G : GP} {pins : List (Addr × Obj)} {pv : List Addr} {σ : L2.St} {H H5 : Hp} {s s0 s1 s1' : Shared}
theorem land_ext (I : Inv X pins σ H s) {b : Addr} {u : HO} (e : H b = some u) : landH s.heap H H5 b = some u := by
  obtain ⟨o, ho⟩ := ob_there (I.hok b u e)
  rw [land_some ho]
  exact e
theorem un_of (I : Inv X pins σ H s) (hf0 : ∀ b ∈ pv, FpOk X pins H b) (e0 : s0.heap = s.heap) (eo : G.outer = X.stack) (K : GoodEnd G pv s0 s1) {h' : Heap} (kp : ∀ b o, s1.heap.get? b = some o → h'.get? b = some o) : L2.Un (frs X.stack) pv H (landH s.heap H H5) s.heap h' where
  keep := fun b o e n hb hx => by
    obtain ⟨sl, _, k⟩ := K.keep b o (by rw [e0]; exact e) hx
    exact kp b o (k (by rw [eo]; exact hb))
  slot := fun b o e n hb hx => by
    obtain ⟨sl, k, _⟩ := K.keep b o (by rw [e0]; exact e) hx
    exact ⟨sl, kp b _ k⟩
  free := fun b o e n hx => by rw [land_some e]; exact n
  there := fun b o e hx => by
    obtain ⟨sl, k, _⟩ := K.keep b o (by rw [e0]; exact e) hx
    exact ⟨_, kp b _ k⟩
  tups := fun b xs e => land_ext I e
  frzs := fun b o u e => land_ext I e
  tbls := fun b ps e => ⟨#[], by rw [land_ext I e]; simp⟩
theorem hok_of (I : Inv X pins σ H s) (hf0 : ∀ b ∈ pv, FpOk X pins H b) (e0 : s0.heap = s.heap) (eo : G.outer = X.stack) (K : GoodEnd G pv s0 s1) (h5 : HOk X.prog X.w H5 s1.heap) {h' : Heap} (kp : ∀ b o, s1.heap.get? b = some o → h'.get? b = some o) : HOk X.prog X.w (landH s.heap H H5) h' := fun b u e => by
  cases q : s.heap.get? b with
  | none =>
    obtain ⟨xs, rfl, hx⟩ := land_new q e
    obtain ⟨z, its, r, ob, ho, c⟩ := h5 b _ hx
    exact ⟨z, its, r, ob, kp b ob ho, c⟩
  | some o =>
    rw [land_some q] at e
    have trk : ∀ c u w, H c = some u → s.heap.get? c = some w → h'.get? c = some w := fun c u w hc hw => by
      have npv : c ∉ pv := fun z => by rw [(hf0 c z).1] at hc; cases hc
      have nfr : c ∉ frs X.stack := fun z => by rw [I.stkFree c z] at hc; cases hc
      obtain ⟨sl, _, k⟩ := K.keep c w (by rw [e0]; exact hw) npv
      exact kp c w (k (by rw [eo]; exact nfr))
    refine (I.hok b u e).stay (fun c w hc hw => ?_) (fun c hc => land_ext I hc) fun c xs hc => land_ext I hc
    rcases hc with rfl | hc
    · exact trk c u w e hw
    · exact trk c _ w hc hw
theorem shared_eta {a b : Shared} (o : b.os = a.os) : b = { a with heap := b.heap, gens := b.gens, drawn := b.drawn, toks := b.toks } := by
  obtain ⟨_, _, _, _, x⟩ := b
  obtain ⟨_, _, _, _, y⟩ := a
  have : x = y := o
  subst this
  rfl
/-- it lands -/
theorem land (I : Inv X pins σ H s) (hf0 : ∀ b ∈ pv, FpOk X pins H b) (e0 : s0.heap = s.heap) (eo : G.outer = X.stack) (os : G.os0 = X.s_0.os) (K : GoodEnd G pv s0 s1) (h5 : HOk X.prog X.w H5 s1.heap)
    (kp : ∀ b o, s1.heap.get? b = some o → s1'.heap.get? b = some o) (o1 : s1'.os = s1.os) (b1 : AllBare s1'.gens) : Inv X pins σ (landH s.heap H H5) s1' := by
  have osq : s1'.os = s.os := by rw [o1, K.os, os, I.os]
  rw [shared_eta osq]
  exact I.call (ch := pv) (un_of I hf0 e0 eo K kp) (hok_of I hf0 e0 eo K h5 kp) b1 fun b hb => ⟨(hf0 b hb).2.2.2.1, (hf0 b hb).2.1, (hf0 b hb).2.2.2.2.1, (hf0 b hb).2.2.2.2.2⟩
end
end GV
set_option maxHeartbeats 4000000
/-! GN11: a generator made by a call, walked by for. -/
namespace GV
open PySem L2 PySem.Spec PyProof.Rows CT
/-! ### the call -/
end GV
set_option maxHeartbeats 4000000
/-! DG1: for over a generator, at data. -/
namespace CT
open PySem L2 GV
section
variable {k : Cn} {A A' : Nat → Addr} {C C' : Store} {H H' H5 : Hp}
/-- more is tracked -/
theorem kp_more (h : ∀ b o, H b = some o → H' b = some o) : Kp A C H A C H' := ⟨fun a o l e => ⟨l, h a o e⟩, fun _ _ => rfl, Nat.le_refl _⟩
theorem StOk.more (x : StOk k A C H) (h : ∀ b o, H b = some o → H' b = some o) : StOk k A C H' := ⟨fun i c e => by
    have y := x.at_ i c e
    obtain ⟨u, hu⟩ := y.there
    exact y.kp (kp_more h) (by rw [hu]; exact h _ _ hu), x.inj⟩
end
end CT
set_option maxHeartbeats 4000000
/-! DG2: for over a generator, at data. -/
namespace CT
open PySem L2 GV
/-! ### the generator's promise at data -/
end CT
set_option maxHeartbeats 4000000
/-! DG3: a generator def, by its parts over data. -/
namespace CT
open PySem L2 PySem.Spec PyProof.Rows GV
end CT
set_option maxHeartbeats 4000000
/-! DG4a: a tuple of ints of the written part. -/
namespace CT
open PySem L2
end CT
set_option maxHeartbeats 4000000
/-! DM26: t * 1. -/
namespace CT
open PySem L2 PySem.Spec PyProof.Rows
theorem tuple_mul1W (l : Addr) (items : Array Value) (n : Nat) (dd : Option Addr) (sl : Array (Option Value)) (x : Int) (u : Tok) (c0 : (decide (x < -(2 ^ 63)) || decide (x ≥ 2 ^ 63)) = false) (c1 : (items.isEmpty || x == 1) = true) :
    Meets (Builtin.«tuple.__mul__» ⟨[.ref l, .int x u], []⟩) (fun _ R s => s.heap.get? l = some { cls := .type "tuple", dict := dd, data := .seq items n, slots := sl } ∧ R (.ok (.ret (.ref l))) s) :=
  .of_wp fun prog w A R s h => by
    obtain ⟨hp, g, d, tk, os⟩ := s
    obtain ⟨hl, h⟩ := h
    have f1 := AutoSeq1.idx_int
    wp_walk using wpAny_loadPart' hl
    repeat (first
      | (refine wpAny_ite_false (decide_eq_false (by rw [c0]; exact Bool.false_ne_true)) ?_; wp_walk using wpAny_loadPart' hl)
      | (refine wpAny_ite_true (decide_eq_true c1) ?_; wp_walk using wpAny_loadPart' hl))
    exact ⟨_, rfl, h⟩
def rRep1T (K : PySem.W.Frag) : R2 := fun x y H Q => ∃ l xs, x = .ref l ∧ y = .int 1 ∧ SqT K H l xs ∧ Q (.ref l) H
section
variable {X : Cx}
theorem op_rep1T : OpR X (binaryOp .Mult) (rRep1T X.K) := by
  intro pins s σ H x y v u Q I rx ry h
  obtain ⟨l, xs, rfl, rfl, hT, q⟩ := h
  cases rx
  obtain ⟨t, rfl⟩ := ry
  obtain ⟨its, r, ⟨⟨cls, dd, data, sl⟩, ho, hc, n, hd⟩, hs⟩ := I.tuple hT
  simp only at hc hd
  subst hc hd
  refine wpAny_binaryOp_repeat_ref (T := "tuple") (U := "int") (by decide) ⟨_, ho, rfl⟩ (fun s' => typeIs_int s' 1 t) noFill_tuple_mul F.fills_int_mul F.slot_int_rmul repeat_tuple F.slot_int_index.lookup
    (call_meets F.slot_int_rmul (typeIs_int s 1 t) F.entry_int_rmul (F.args_int_rmul_2 _ _) (int_rmul_tuple 1 t l its.toArray n dd sl)
      ⟨ho, rfl, ⟨_, ho, rfl⟩, call_meets F.slot_tuple_mul ⟨_, ho, rfl⟩ F.entry_tuple_mul (F.args_tuple_mul_2 _ _) (tuple_mul1W l its.toArray n dd sl 1 t (by decide) (by rw [show ((1 : Int) == 1) = true from rfl, Bool.or_true])) ⟨ho, ?_⟩⟩)
  exact ⟨.ref l, _, I, rfl, q⟩
end
def oRepA : O2 := fun x y C => match vT x, y with
  | some xs, .int n => if n = 1 then some (x, C) else oRepT x y C
  | _, _ => none
theorem d_repA {k : Cn} : OpD k (fun x y H Q => rRepT k.K x y H Q ∨ rRep1T k.K x y H Q) oRepA := by
  intro fl A C H x y dx dy d C' Q hf hl st rx ry e q
  unfold oRepA at e
  split at e
  · rename_i xs n e1
    split at e
    · rename_i h1
      subst h1
      obtain ⟨a, vs, rfl, ha, rv⟩ := vT_at rx e1
      cases ry
      cases e
      exact .inr ⟨a, vs, rfl, rfl, ha, q A H _ Stp.refl st rx⟩
    · exact .inl (d_repT fl A C H x y _ _ d C' Q hf hl st rx ry e q)
  · cases e
end CT
set_option maxHeartbeats 4000000
/-! DM19: a def that hands back data with own lists and dicts inside: all become plain data. -/
namespace CT
open PySem L2 PySem.Spec PyProof.Rows
def fzF : Nat → Nat → Store → D → D
  | 0, _, _, d => d
  | q + 1, n, C, d => match d with
    | .cell i => if i < n then d else (match C[i]? with
      | some (some (.lst xs)) => .lst (xs.map (fzF q n C))
      | some (some (.dT ks vs)) => .dT ks (vs.map (fzF q n C))
      | _ => d)
    | .tup xs => .tup (xs.map (fzF q n C))
    | .lst xs => .lst (xs.map (fzF q n C))
    | _ => d
def finN (n : Nat) (d : D) (C : Store) : R D := if cb n (fzF 3 n C d) = true then .ok (fzF 3 n C d) (C.take n) else .stuck
def mDefN (np ns : Nat) (body : MS) : MF := fun ds C => if ds.length = np then (match body ⟨C.length, ds.map some ++ List.replicate (ns - np) none⟩ C with
    | .nx _ C' => finN C.length .non C'
    | .rt d C' => finN C.length d C'
    | .xc e _ C' => if cbL C.length e.fs = true then .exc e (C'.take C.length) else .stuck
    | _ => .stuck) else .stuck
theorem mDefN_ar {np ns : Nat} {body : MS} : Ar np (mDefN np ns body) := fun ds C h => by
  unfold mDefN
  rw [if_neg h]
section
variable {k : Cn}
theorem live_take {n : Nat} {A : Nat → Addr} {C : Store} {a : Addr} (l : Live A (C.take n) a) : Live A C a := by
  obtain ⟨i, c, e, z⟩ := l
  have hi : i < (C.take n).length := (List.getElem?_eq_some_iff.mp e).1
  rw [List.length_take] at hi
  rw [List.getElem?_take_of_lt (by omega)] at e
  exact ⟨i, c, e, z⟩
theorem RepL.mapF {n : Nat} {A : Nat → Addr} {C C2 : Store} {H : Hp} {f : D → D} (hf : ∀ v d, Rep k A C H v d → CT.cb n (f d) = true → Rep k A C2 H v (f d)) : ∀ {vs : List V} {ds : List D}, RepL k A C H vs ds → CT.cbL n (ds.map f) = true → RepL k A C2 H vs (ds.map f)
  | _, _, .nil, _ => .nil
  | _, _, .cons (d := d) (ds := ds) r t, h => by
    have h : (CT.cb n (f d) && CT.cbL n (ds.map f)) = true := h
    rw [Bool.and_eq_true] at h
    exact .cons (hf _ _ r h.1) (RepL.mapF hf t h.2)
theorem fzF_rep {n : Nat} {A : Nat → Addr} {C : Store} {H : Hp} (st : StOk k A C H) (hl : n ≤ C.length) : ∀ (q : Nat) (v : V) (d : D), Rep k A C H v d → cb n (fzF q n C d) = true → Rep k A (C.take n) H v (fzF q n C d)
  | 0, v, d, r, h => r.cut hl h
  | q + 1, v, d, r, h => by
    have ih := fzF_rep st hl q
    have tl : (C.take n).length = n := by rw [List.length_take]; omega
    have nl : ∀ i c, ¬ i < n → C[i]? = some (some c) → ¬ Live A (C.take n) (A i) := fun i c hi e l => by
      obtain ⟨j, c', e', z⟩ := l
      by_cases hj : j < n
      · rw [List.getElem?_take_of_lt hj] at e'
        have := st.inj j i _ _ e' e z
        omega
      · rw [List.getElem?_eq_none (by rw [tl]; omega)] at e'
        cases e'
    cases d with
    | cell i =>
      by_cases hi : i < n
      · have e : fzF (q + 1) n C (.cell i) = .cell i := by simp [fzF, hi]
        rw [e] at h ⊢
        exact r.cut hl h
      · cases r with
        | cell hi' =>
          simp only [fzF, if_neg hi] at h ⊢
          split
          · rename_i xs ec
            rw [ec] at h
            obtain ⟨vs, hv, rv⟩ := st.at_ i _ ec
            exact .lst (nl i _ hi ec) hv (rv.mapF ih (by simpa [cb] using h))
          · rename_i ks xs ec
            rw [ec] at h
            obtain ⟨kvs, hv, hk, rv⟩ := st.at_ i _ ec
            subst hk
            exact .dT (nl i _ hi ec) hv (rv.mapF ih (by simpa [cb] using h))
          · rename_i n1 n2
            exfalso
            split at h
            · rename_i ec; exact n1 _ ec
            · rename_i ec; exact n2 _ _ ec
            · simp only [cb, decide_eq_true_eq] at h
              exact hi h
    | tup xs =>
      cases r with
      | tup l hh rl => exact .tup (fun y => l (live_take y)) hh (rl.mapF ih (by simpa [cb, fzF] using h))
    | lst xs =>
      cases r with
      | lst l hh rl => exact .lst (fun y => l (live_take y)) hh (rl.mapF ih (by simpa [cb, fzF] using h))
    | _ => exact r.cut hl h
theorem spDN_body {np ns : Nat} {body : MS} {N : List Str} {vs : List V} {H : Hp} {Q : VK} {E : XK} (hN : N.length = ns) (hp : np ≤ ns) (h : SpD k np (mDefN np ns body) vs H Q E) :
    LS k (fun c d _ H' => E c d H') body { nx := fun _ H' => Q .non H', rt := Q } (L2.start N vs) H := by
  obtain ⟨hv, A, C, ds, st, rl, h⟩ := h
  have hd : ds.length = np := by rw [← rl.length]; exact hv
  unfold mDefN at h
  rw [if_pos hd] at h
  refine ⟨A, _, C, start_sr hN hv hd hp st rl, ?_⟩
  have done : ∀ (d : D) (C' : Store), Aft k C.length A C H (RepD k) (finN C.length d C') (fun _ _ _ H' v => Q v H') E → ∀ A' H' v, Stp k C.length A C H A' C' H' → StOk k A' C' H' → Rep k A' C' H' v d → Q v H' := fun d C' hf A' H' v p st' r => by
    unfold finN at hf
    split at hf
    · rename_i hc
      obtain ⟨q1, q2, q3, q4⟩ := cut_stp rfl st st' p
      exact hf A' H' v q1 q2 (fzF_rep st' q3 3 v d r hc)
    · exact hf.elim
  show AftS k _ C.length A C H (body ⟨C.length, ds.map some ++ List.replicate (ns - np) none⟩ C) _
  cases eb : body ⟨C.length, ds.map some ++ List.replicate (ns - np) none⟩ C with
  | nx sl' C' =>
    rw [eb] at h
    exact fun A' σ' H' p s' => done .non C' h A' H' .non p s'.st .non
  | rt d C' =>
    rw [eb] at h
    exact fun A' H' v p st' r => done d C' h A' H' v p st' r
  | bk sl' C' => rw [eb] at h; exact h.elim
  | ct sl' C' => rw [eb] at h; exact h.elim
  | stuck => rw [eb] at h; exact h.elim
  | xc e sl' C' =>
    rw [eb] at h
    intro A' σ' H' dd ws p s' x l r
    simp only at h
    split at h
    · rename_i hc
      obtain ⟨q1, q2, q3, q4⟩ := cut_stp rfl st s'.st p
      exact h A' H' dd ws q1 q2 x l (r.cut q3 hc)
    · exact h.elim
end
section
variable {P : Program} {w : World} {k : Cn} {mg : Str → Option Value} {base : Heap} {x qual : Str} {params : Arguments} {body : List Stmt} {scope : Scope} {dvs : List V} {kws : List (Str × V)} {f : Addr} {fd : FuncData}
theorem fn_okN {N ps : List Str} {lev : Nat} {m : MS} (F : FunD k.K x qual params body scope dvs kws f fd) (S : FnScope N ps scope) (hp : ps.length ≤ N.length)
    (hb : ∀ (cdv : Value) (A : Around) (outer : List Env) (s : Shared) (H : Hp) (E : XK), RoomG lev (A.deeper (envOfC qual scope s.heap.objs.size f cdv)) → PSs (cxOf (L2.CX P w) P w k.K mg base N qual scope f cdv A outer s H E) body (LS k (fun c d _ H' => E c d H') m)) :
    FnG P w k.K mg base (lev + 1) f fd ps (SpD k ps.length (mDefN ps.length N.length m)) := by
  obtain ⟨oc, od, dV, kV, doc, pm, an, cdv, ct, osl, rfl, lk, hcd, _, _⟩ := F.ex
  exact fn_ofG lk hcd S (fun vs H Q E h => h.1) fun A outer s H vs Q E hr h => ⟨_, hb cdv A outer s H E hr, spDN_body rfl hp h⟩
end
def finNS (n : Nat) (r : RS) : R D := match r with
  | .nx _ C' => finN n .non C'
  | .rt d C' => finN n d C'
  | .xc e _ C' => if cbL n e.fs = true then .exc e (C'.take n) else .stuck
  | _ => .stuck
theorem mDefN_e {np ns : Nat} {b : MS} {ds : List D} {C : Store} {sl : List (Option D)} (h : ds.length = np) (hs : ds.map some ++ List.replicate (ns - np) none = sl) : mDefN np ns b ds C = finNS C.length (b ⟨C.length, sl⟩ C) := by
  subst hs
  unfold mDefN
  rw [if_pos h]
  rfl
end CT
set_option maxHeartbeats 4000000
/-! DM32: d[k] += e on a dict with tuple keys; x *= e of ints. -/
namespace CT
open PySem L2
def sAugD (o : Int → Int → Int) (mo mi me : ME) : MS := fun F C => bndS F.sl (mo F C) fun l C1 => bndS F.sl (mi F C1) fun x C2 => match x, cD l C2 with
  | .tup xs, some (_, ks, vs) => (match keyL xs with
    | some key => (match lookT ks vs key with
      | some (.int a) => bndS F.sl (me F C2) fun v C3 => (match v, cD l C3 with
        | .int b, some (i, ks3, vs3) => if szN (ks3.length + 1) = true then (match wr F.fl i (.dT (putT ks3 vs3 key (.int (o a b))).1 (putT ks3 vs3 key (.int (o a b))).2) C3 with
          | some C4 => .nx F.sl C4
          | none => .stuck) else .stuck
        | _, _ => .stuck)
      | _ => .stuck)
    | none => .stuck)
  | _, _ => .stuck
section
variable {X : Cx} {k : Cn} {W : WX} {E : Ends} {σ : L2.St} {H : Hp}
theorem ls_augD {o : Int → Int → Int} {mo mi me : ME} (h : LS k W (sAugD o mo mi me) E σ H) : sDAug (LE k W mo) (LE k W mi) (LE k W me) (ipI o) E σ H := by
  obtain ⟨A, F, C, s, h⟩ := h
  refine ⟨A, F, C, s, (AftS.bnd (rel := RepD k) s h).mono fun dl C1 A1 H1 l p1 st1 rl h1 => ?_⟩
  have s1 := s.step p1 st1
  refine ⟨A1, F, C1, s1, (AftS.bnd (rel := RepD k) s1 h1).mono fun dx C2 A2 H2 x p2 st2 rx h2 => ?_⟩
  have s2 := s1.step p2 st2
  have rl2 := p2.rep _ _ rl
  cases dx with
  | tup xs =>
    cases ec : cD dl C2 with
    | none => simp only [ec] at h2; exact h2.elim
    | some q =>
      obtain ⟨i, ks, vs⟩ := q
      simp only [ec] at h2
      obtain ⟨rfl, rfl, hi, kvs, hv, hk, rvs⟩ := cD_at st2 rl2 ec
      cases ek : keyL xs with
      | none => simp only [ek] at h2; exact h2.elim
      | some key =>
        simp only [ek] at h2
        subst hk
        split at h2
        · rename_i a ea
          obtain ⟨b, rfl, hb⟩ := key_at rx ek
          obtain ⟨v, hv1, rv⟩ := (lookT_rep key rvs).1 _ ea
          cases rv
          refine ⟨A2 i, _, rfl, by rw [← hv1]; exact DGet.t hv hb, A2, F, C2, s2, (AftS.bnd (rel := RepD k) s2 h2).mono fun dv C3 A3 H3 w p3 st3 rw3 h3 => ?_⟩
          have s3 := s2.step p3 st3
          cases rw3 with
          | int y =>
            cases ec3 : cD (.cell i) C3 with
            | none => simp only [ec3] at h3; exact h3.elim
            | some q =>
              obtain ⟨i', ks3, vs3⟩ := q
              simp only [ec3] at h3
              obtain ⟨ei, ev3, hi3, kv3, hw, hk3, rws⟩ := cD_at st3 (p3.rep _ _ rl2) ec3
              cases ei
              subst hk3
              split at h3
              · rename_i hz
                cases ew : wr F.fl i (.dT (putT (kv3.map (·.1)) vs3 key (.int (o a y))).1 (putT (kv3.map (·.1)) vs3 key (.int (o a y))).2) C3 with
                | none => simp only [ew] at h3; exact h3.elim
                | some C4 =>
                  simp only [ew] at h3
                  have hz' : kv3.length < sizeLine := by
                    have := szN_le hz
                    rw [List.length_map] at this
                    omega
                  obtain ⟨b3, eb, hb3⟩ := key_at (p3.rep _ _ rx) ek
                  cases eb
                  obtain ⟨k1, k2⟩ := putK_rep key (Rep.int (k := k) (A := A3) (C := C3) (H := H3) (o a y)) rws
                  obtain ⟨q1, q2⟩ := write_D st3 hi3 k1 k2 ew
                  have ea : A2 i = A3 i := by injection ev3
                  refine ⟨a, y, rfl, rfl, _, ?_, h3 A3 σ _ q1 (s3.step q1 q2)⟩
                  rw [ea]
                  exact DPut.t hw hb3 hz'
              · exact h3.elim
          | _ => exact h3.elim
        · exact h2.elim
  | _ => exact h2.elim
theorem ds_augD {o i e : Expr} {op : Operator} {f : Int → Int → Int} {tpos pos : Pos} {mo mi me : ME} (hu : X.A.units + 1 < cLine) (hp : PIp X op (ipI f)) (ho : PE X o (LE k W mo)) (hi : PE X i (LE k W mi)) (he : PE X e (LE k W me))
    (ha : ∀ ov iv new, augStore i ov iv new = (do holding [new, ov, iv] (setItem ov iv new); release [new, ov, iv] []; pure .next) := by intros; rfl) : PS X (.AugAssign (.Subscript o i tpos) op e pos) (LS k W (sAugD f mo mi me)) :=
  (ps_daug hu ho hi he hp ha).cq fun _ _ _ h => ls_augD h
/-- x *= e of ints -/
def sAugM (i : Nat) (m : ME) : MS := fun F C => match F.sl[i]? with
  | some (some (.int a)) => bndS F.sl (m F C) fun d C1 => match d with
    | .int b => if cMul a b = true then .nx (F.sl.set i (some (.int (a * b)))) C1 else .stuck
    | _ => .stuck
  | _ => .stuck
theorem ls_augM {i : Nat} {m : ME} (h : LS k W (sAugM i m) E σ H) : tAug i (LE k W m) (rI CMul fun i j => .int (i * j)) E σ H := by
  obtain ⟨A, F, C, s, h⟩ := h
  unfold sAugM at h
  split at h
  · rename_i a e
    obtain ⟨v, h1, h2⟩ := s.sl i _ e
    cases h2
    refine ⟨_, h1, A, F, C, s, (AftS.bnd (rel := RepD k) s h).mono fun d C1 A1 H1 v p st r h3 => ?_⟩
    cases r with
    | int b =>
      by_cases hc : cMul a b = true
      · simp only [hc, if_true] at h3
        simp only [cMul, Bool.or_eq_true, Bool.and_eq_true, decide_eq_true_eq] at hc
        exact ⟨a, b, rfl, rfl, hc, h3 A1 _ H1 Stp.refl ((s.step p st).set (.int _))⟩
      · simp only [hc] at h3
        exact h3.elim
    | _ => exact h3.elim
  · exact h.elim
theorem ds_augM {i : Nat} {x : Str} {e : Expr} {pos pos' : Pos} {m : ME} (hN : X.N.Nodup) (hi : X.N[i]? = some x) (hx : Loc X.env.scope x) (he : PE X e (LE k W m)) (hf : X.fn x = true ∨ X.env.scope.names.lookup x = some .local := by first | exact .inl rfl | exact .inr rfl | assumption) :
    PS X (.AugAssign (.Name x pos') .Mult e pos) (LS k W (sAugM i m)) := (ps_aug hN hi hx he iop_mul hf).cq fun _ _ _ h => ls_augM h
end
end CT
set_option maxHeartbeats 4000000
/-! DM33: zip of two sequences, each a list or a tuple. -/
namespace CT
open PySem L2 PySem.Spec PyProof.Rows
/-- a list (false) or a tuple (true) -/
def SqX (t : Bool) (K : PySem.W.Frag) (H : Hp) (a : Addr) (xs : List V) : Prop := match t with
  | true => SqT K H a xs
  | false => SqL K H a xs
def isX (t : Bool) (h : Heap) (a : Addr) (its : Array Value) : Prop := match t with
  | true => h.IsTuple a its
  | false => h.IsList a its
def itX (t : Bool) (h : Heap) (it a : Addr) (i : Nat) : Prop := match t with
  | true => h.IsTupleIter it a i
  | false => h.IsListIter it a i
def itoX (t : Bool) (a : Addr) : Obj := match t with
  | true => { cls := .type "tuple_iterator", data := .fields #[.ref a, .int 0 0] }
  | false => { cls := .type "list_iterator", data := .fields #[.ref a, .int 0 0] }
section
variable {t : Bool} {h h' : Heap} {a it : Addr} {i : Nat} {its : Array Value} {X : Cx} {pins : List (Addr × Obj)} {σ : L2.St} {H : Hp} {s : Shared} {xs ys : List V}
theorem itX_at (x : itX t h it a i) (k : ∀ o, h.get? it = some o → h'.get? it = some o) : itX t h' it a i := by
  cases t
  · exact Heap.IsListIter.at x k
  · exact Heap.IsTupleIter.at x k
theorem itX_obj (x : itX t h it a i) : ∃ o, h.get? it = some o ∧ ∀ v, o.data ≠ .cell v := by
  cases t
  · obtain ⟨o, e, _, d⟩ := x
    exact ⟨o, e, fun v q => by rw [d] at q; cases q⟩
  · obtain ⟨o, e, _, d⟩ := x
    exact ⟨o, e, fun v q => by rw [d] at q; cases q⟩
theorem itX_new {n : Addr} (e : h.get? n = some (itoX t a)) : itX t h n a 0 := by
  cases t
  · exact ⟨_, e, rfl, rfl⟩
  · exact ⟨_, e, rfl, rfl⟩
theorem isX_lt (x : isX t h a its) : a < h.objs.size := by
  cases t
  · obtain ⟨o, e, _⟩ := x
    exact Heap.lt_size e
  · obtain ⟨o, e, _⟩ := x
    exact Heap.lt_size e
theorem drX {prog : Program} {w : World} {A : Around} (hh : A.handled = none) (hne : a ≠ it) : Draws prog w A it [it, a] its.size (fun i v => its[i]? = some v) (fun i h => itX t h it a i ∧ isX t h a its) := by
  cases t
  · exact Draws.list hh it a hne its
  · exact Draws.tuple hh it a hne its
theorem bgX (t : Bool) (a : Addr) (its : Array Value) : Begins (.ref a) (itoX t a) fun h => isX t h a its := by
  cases t
  · exact begins_list a its
  · exact begins_tuple a its
theorem sqX_in (I : Inv X pins σ H s) (q : SqX t X.K H a xs) : ∃ its : List Value, Vals xs its ∧ isX t s.heap a its.toArray := by
  cases t
  · obtain ⟨its, r, p, _⟩ := I.list q
    exact ⟨its, r, p.isList⟩
  · obtain ⟨its, r, p, _⟩ := I.tuple q
    exact ⟨its, r, p⟩
theorem sqX_inj (I : Inv X pins σ H s) (q : SqX t X.K H a xs) (q' : SqX t X.K H a ys) : xs = ys := by
  cases t
  · exact I.list_inj q q'
  · exact I.tuple_inj q q'
end
/-- the sequences at a and b as they stand at each turn, the items in new pairs -/
def ItzX (K : PySem.W.Frag) (t1 t2 : Bool) (a b : Addr) : It where
  go := fun i H => ∃ (xs ys : List V) (x y : V), SqX t1 K H a xs ∧ SqX t2 K H b ys ∧ xs[i]? = some x ∧ ys[i]? = some y
  yld := fun i H v H' => ∃ T x y, (v = .ref T ∧ H T = none ∧ H' = upd H T (.tup [x, y])) ∧ (∀ xs, SqX t1 K H a xs → xs[i]? = some x) ∧ ∀ ys, SqX t2 K H b ys → ys[i]? = some y
  stop := fun i H => ∃ xs ys : List V, SqX t1 K H a xs ∧ SqX t2 K H b ys ∧ i ≤ xs.length ∧ i ≤ ys.length ∧ (i = xs.length ∨ i = ys.length)
def zpN (t1 t2 : Bool) (a b z TI TO i1 i2 : Addr) (i : Nat) (h : Heap) : Prop :=
  IsZip h z TI TO .none ∧ IsTupOf2 h TI (.ref i1) (.ref i2) ∧ (∃ x y, IsTupOf2 h TO x y) ∧ itX t1 h i1 a i ∧ itX t2 h i2 b i
theorem turn_zipX {P : Program} {w : World} {K : PySem.W.Frag} {elts : List Expr} {kk : Nat} {tpos : Pos} {t1 t2 : Bool} {a b z TI TO i1 i2 : Addr} (S : ZipSep2 z TI TO i1 i2 [i1, a] [i2, b]) (ha : a ≠ i1) (hb : b ≠ i2) :
    Turn P w K (.Tuple elts kk tpos) (ItzX K t1 t2 a b) [z, TI, TO, i1, i2] z (zpN t1 t2 a b z TI TO i1 i2) where
  mem := List.mem_cons_self ..
  obj := fun i h st c hc => by
    obtain ⟨g1, g2, ⟨x, y, g3⟩, g4, g5⟩ := st
    simp only [List.mem_cons, List.not_mem_nil, or_false] at hc
    rcases hc with rfl | rfl | rfl | rfl | rfl
    · exact ⟨_, g1, fun v q => nomatch q⟩
    · exact ⟨_, g2, fun v q => nomatch q⟩
    · exact ⟨_, g3, fun v q => nomatch q⟩
    · exact itX_obj g4
    · exact itX_obj g5
  keep := fun i h h' st k => by
    obtain ⟨g1, g2, ⟨x, y, g3⟩, g4, g5⟩ := st
    exact ⟨k z (by simp) _ g1, k TI (by simp) _ g2, ⟨x, y, k TO (by simp) _ g3⟩, itX_at g4 (k i1 (by simp)), itX_at g5 (k i2 (by simp))⟩
  item := by
    intro X hP hw hK hc i pins s σ H E I hf st hg
    subst hP hw hK
    obtain ⟨g1, g2, ⟨x0, y0, g3⟩, g4, g5⟩ := st
    obtain ⟨xs, ys, x, y, qx, qy, ex, ey⟩ := hg
    obtain ⟨us, ru, pu⟩ := sqX_in I qx
    obtain ⟨ws, rw', pw⟩ := sqX_in I qy
    have l1 : i < us.toArray.size := by
      have := ru.length
      have := (List.getElem?_eq_some_iff.mp ex).1
      simp
      omega
    have l2 : i < ws.toArray.size := by
      have := rw'.length
      have := (List.getElem?_eq_some_iff.mp ey).1
      simp
      omega
    have low : ∀ c ∈ [z, TI, TO, i1, i2], c < s.heap.objs.size := fun c hcm => by
      simp only [List.mem_cons, List.not_mem_nil, or_false] at hcm
      obtain ⟨_, e4, _⟩ := itX_obj g4
      obtain ⟨_, e5, _⟩ := itX_obj g5
      rcases hcm with q | q | q | q | q
      · rw [q]; exact Heap.lt_size g1
      · rw [q]; exact Heap.lt_size g2
      · rw [q]; exact Heap.lt_size g3
      · rw [q]; exact Heap.lt_size e4
      · rw [q]; exact Heap.lt_size e5
    have zl := low z (by simp)
    refine wpAny_pyNext_zipD2_item S (drX (I.ok.hd hc) ha) (drX (I.ok.hd hc) hb) g1 g2 g3 ⟨g4, pu⟩ ⟨g5, pw⟩ l1 l2 fun u1 u2 h' tk e1 e2 z1 z2 z3 z4 z5 z6 z7 => ?_
    have e1 : us[i]? = some u1 := by simpa using e1
    have e2 : ws[i]? = some u2 := by simpa using e2
    obtain ⟨v1, f1, r1⟩ := ru.get ex
    obtain ⟨v2, f2, r2⟩ := rw'.get ey
    cases e1.symm.trans f1
    cases e2.symm.trans f2
    refine ⟨_, rfl, wpAny_letOwnedTupleGo_zip (s := { s with heap := h', toks := tk }) z1 fun h2 z8 sb => ?_⟩
    have new : ObjOk X.prog X.w (upd H s.heap.objs.size (.tup [x, y])) h2 s.heap.objs.size (.tup [x, y]) :=
      ⟨(by decide : 2 ≤ sizeLine), [u1, u2], .cons r1 (.cons r2 .nil), ⟨_, (sb.2 _ (Nat.ne_of_gt zl)).trans z5, rfl, _, rfl⟩⟩
    have I1 : Inv X pins σ (upd H s.heap.objs.size (.tup [x, y])) { s with heap := h2, toks := tk } :=
      I.turnedNew (ch := [z, TI, TO, i1, i2]) (fun c o hn q => by
        simp only [List.mem_cons, List.not_mem_nil, or_false, not_or] at hn
        exact (sb.2 c hn.1).trans (z7 c o hn.1 hn.2.2.1 hn.2.2.2.1 hn.2.2.2.2 q)) hf (Nat.le_refl _) new
    refine ⟨.ref s.heap.objs.size, _, I1, rfl, ⟨_, x, y, ⟨rfl, I.hok.fresh (Nat.le_refl _), rfl⟩, fun l hl => ?_, fun l hl => ?_⟩, ⟨z8, ?_, ⟨u1, u2, ?_⟩, ?_, ?_⟩, fun c hcm => ?_⟩
    · rw [sqX_inj I hl qx]; exact ex
    · rw [sqX_inj I hl qy]; exact ey
    · exact (sb.2 _ S.TIz).trans (z7 _ _ S.TIz S.TITO S.TIi1 S.TIi2 g2)
    · exact (sb.2 _ S.TOz).trans z2
    · exact itX_at z3.1 fun o q => (sb.2 _ (Ne.symm S.zi1)).trans q
    · exact itX_at z4.1 fun o q => (sb.2 _ (Ne.symm S.zi2)).trans q
    · rw [upd_ne (Nat.ne_of_lt (low c hcm))]
      exact (hf c hcm).1
  done := by
    intro X hP hw hK hc i pins s σ H E I hf st hg
    subst hP hw hK
    obtain ⟨g1, g2, ⟨x0, y0, g3⟩, g4, g5⟩ := st
    obtain ⟨xs, ys, qx, qy, n1, n2, ne⟩ := hg
    obtain ⟨us, ru, pu⟩ := sqX_in I qx
    obtain ⟨ws, rw', pw⟩ := sqX_in I qy
    have l1 := ru.length
    have l2 := rw'.length
    have s1 : us.toArray.size = us.length := by simp
    have s2 : ws.toArray.size = ws.length := by simp
    refine wpAny_pyNext_zipD2_end S (drX (I.ok.hd hc) ha) (drX (I.ok.hd hc) hb) g1 g2 g3 ⟨g4, pu⟩ ⟨g5, pw⟩ (by omega) (by omega) (by omega) fun h' tk hk => ⟨rfl, I.turnedL (ch := [z, TI, TO, i1, i2]) (fun c o hn q => ?_) hf⟩
    simp only [List.mem_cons, List.not_mem_nil, or_false, not_or] at hn
    exact hk c o hn.1 hn.2.2.1 hn.2.2.2.1 hn.2.2.2.2 q
  self := fun A i s Q E st h => wpAny_pyIter_zip st.1 h
def iZipX (K : PySem.W.Frag) (ta : TA) : TI := fun σ H R => ta σ H fun vs H1 => ∃ t1 t2 a b xs ys, vs = [.ref a, .ref b] ∧ SqX t1 K H1 a xs ∧ SqX t2 K H1 b ys ∧ R (ItzX K t1 t2 a b) H1
theorem pi_zipX {X : Cx} {e e2 : Expr} {ta : TA} {p pos tpos : Pos} {elts : List Expr} {kk : Nat} (hg : Gl X "zip") (hm : X.mg "zip" = none) (ha : PA X [e, e2] ta)
    (hs : starEach [e, e2] X.env = (false, eval e X.env) :: starEach [e2] X.env := by rfl) (hpl : (backTo pos (starEach [e2] X.env)).any (·.1) = false := by rfl) :
    PI X (.Tuple elts kk tpos) (.Call (.Name "zip" p) [e, e2] [] pos) (iZipX X.K ta) := by
  refine ⟨fun pins s σ H R I h => ?_⟩
  refine Call_ (ld_blt I hg hm boot_zip (callWith_type1 (thn (ha.run pos pins s σ H _ I h) fun us s1 ⟨vs, H1, I1, r1, q1⟩ => ?_) hs hpl))
  obtain ⟨t1, t2, a, b, xs, ys, rfl, qx, qy, q⟩ := q1
  cases r1 with
  | cons c1 rr =>
    cases rr with
    | cons c2 rr =>
      cases rr
      cases c1
      cases c2
      obtain ⟨i1, v1, p1⟩ := sqX_in I1 qx
      obtain ⟨i2, v2, p2⟩ := sqX_in I1 qy
      have la := isX_lt p1
      have lb := isX_lt p2
      have fr : ∀ c, c ∈ [s1.heap.objs.size + 4, s1.heap.objs.size + 2, s1.heap.objs.size + 3, s1.heap.objs.size, s1.heap.objs.size + 1] → FpOk X pins H1 c := fun c hcm => by
        have hle : s1.heap.objs.size ≤ c := by
          simp only [List.mem_cons, List.not_mem_nil, or_false] at hcm
          rcases hcm with q | q | q | q | q <;> rw [q]
          · exact Nat.le_add_right _ _
          · exact Nat.le_add_right _ _
          · exact Nat.le_add_right _ _
          · exact Nat.le_refl _
          · exact Nat.le_add_right _ _
        exact I1.fpOk hle (I1.hok.fresh hle)
      refine zip_begins2 (bgX t1 a i1.toArray) (bgX t2 b i2.toArray) p1 p2 fun h' z1 z2 z3 z4 z5 z6 z7 => wpAny_pyIter_zip z1 ?_
      exact ⟨_, _, _, _, H1, rfl, I1.kept (t' := s1.toks) z7, turn_zipX (zip_sep2 (fp1 := [a]) (fp2 := [b]) (by simpa using la) (by simpa using lb)) (Nat.ne_of_lt la) (Nat.ne_of_lt (Nat.lt_succ_of_lt lb)),
        ⟨z1, z2, ⟨_, _, z3⟩, itX_new z4, itX_new z5⟩, fr, q⟩
/-- zip over data: lists, own lists, tuples -/
def sqOf (d : D) (C : Store) : Option (Bool × List D) := match d with
  | .tup xs => some (true, xs)
  | .kt xs => some (true, xs)
  | .lst xs => some (false, xs)
  | _ => none
def mZipX (m : MA) : MI := fun F C => bnd (m F C) fun ds C1 => match ds with
  | [x, y] => (match sqOf x C1, sqOf y C1 with
    | some p, some q => .ok (itC (zipD p.2 q.2)) C1
    | _, _ => .stuck)
  | _ => .stuck
section
variable {X : Cx} {k : Cn} {W : WX} {σ : L2.St} {H : Hp}
theorem sqOf_at {A : Nat → Addr} {C : Store} {v : V} {d : D} {p : Bool × List D} (r : Rep k A C H v d) (e : sqOf d C = some p) : ∃ a vs, v = .ref a ∧ SqX p.1 k.K H a vs ∧ RepL k A C H vs p.2 := by
  cases d with
  | tup xs =>
    cases e
    obtain ⟨a, vs, rfl, hs, rl⟩ := vT_at r rfl
    exact ⟨a, vs, rfl, hs, rl⟩
  | kt xs =>
    cases e
    obtain ⟨a, vs, rfl, hs, rl⟩ := vT_at r rfl
    exact ⟨a, vs, rfl, hs, rl⟩
  | lst xs =>
    cases e
    cases r with
    | lst l hh rv => exact ⟨_, _, rfl, .inl (.inl hh), rv⟩
  | _ => cases e
theorem sqOf_st {d : D} {C C' : Store} : sqOf d C' = sqOf d C := by cases d <;> rfl
theorem itZ_X {fl : Nat} {A : Nat → Addr} {C : Store} {v w : V} {d e : D} {p q : Bool × List D} (r : Rep k A C H v d) (ed : sqOf d C = some p) (r2 : Rep k A C H w e) (ee : sqOf e C = some q) :
    ∃ a b vs ws, v = .ref a ∧ w = .ref b ∧ SqX p.1 k.K H a vs ∧ SqX q.1 k.K H b ws ∧ ItOk k fl (ItzX k.K p.1 q.1 a b) (itC (zipD p.2 q.2)) A C H := by
  obtain ⟨a, vs, rfl, hs, _⟩ := sqOf_at r ed
  obtain ⟨b, ws, rfl, hs2, _⟩ := sqOf_at r2 ee
  refine ⟨a, b, vs, ws, rfl, rfl, hs, hs2, fun A' C' H' st st' => ?_⟩
  obtain ⟨a', vs', ea, hl, rv⟩ := sqOf_at (st.rep _ _ r) (sqOf_st.trans ed)
  cases ea
  obtain ⟨b', ws', eb, hl2, rv2⟩ := sqOf_at (st.rep _ _ r2) (sqOf_st.trans ee)
  cases eb
  have zl : (zipD p.2 q.2).length = min p.2.length q.2.length := by simp [zipD]
  refine ⟨fun j y hj ey => ?_, fun _ => ⟨_, _, hl, hl2, ?_⟩⟩
  · have ey' : (zipD p.2 q.2)[j]? = some y := ey
    unfold zipD at ey'
    rw [List.getElem?_map] at ey'
    obtain ⟨c, hc, rfl⟩ := Option.map_eq_some_iff.mp ey'
    obtain ⟨h1, h2⟩ := List.getElem?_zip_eq_some.mp hc
    obtain ⟨u, hu, ru⟩ := rv.get h1
    obtain ⟨u2, hu2, ru2⟩ := rv2.get h2
    refine ⟨⟨_, _, u, u2, hl, hl2, hu, hu2⟩, fun x H'' ⟨T, z, z2, ⟨e1, hT, eH⟩, hz, hz2⟩ => ?_⟩
    subst e1 eH
    cases (hz _ hl).symm.trans hu
    cases (hz2 _ hl2).symm.trans hu2
    have kq : Kp A' C' H' A' C' (upd H' T (.tup [u, u2])) := kp_new hT
    have st2 := st'.new (o := .tup [u, u2]) hT
    exact ⟨A', kq.stp0, st2, .tup (tup_nl st2 upd_same) upd_same (.cons (ru.kp kq) (.cons (ru2.kp kq) .nil))⟩
  · have : (itC (zipD p.2 q.2)).n = min p.2.length q.2.length := zl
    rw [rv.length, rv2.length, this]
    omega
theorem li_zipX {ma : MA} {R : It → Hp → Prop} (h : LI k W (mZipX ma) σ H R) : iZipX k.K (LA k W ma) σ H R := by
  obtain ⟨A, F, C, s, h⟩ := h
  refine ⟨A, F, C, s, (Aft.bnd (rel := RepDs k) h).mono fun ds C1 A1 H1 vs p1 st1 r1 h1 => ?_⟩
  split at h1
  · rename_i x y
    split at h1
    · rename_i p q e1 e2
      have r1' : RepL k A1 C1 H1 vs [x, y] := r1
      cases r1' with
      | cons rx t =>
        cases t with
        | cons ry t =>
          cases t
          obtain ⟨a, b, us, ws, rfl, rfl, hs, hs2, ok⟩ := itZ_X (fl := F.fl) rx e1 ry e2
          exact ⟨_, _, a, b, us, ws, rfl, hs, hs2, h1 A1 H1 _ Stp.refl st1 ok⟩
    · exact h1.elim
  · exact h1.elim
theorem di_zipX {e e2 : Expr} {p pos tpos : Pos} {elts : List Expr} {kk : Nat} {ma : MA} (hg : Gl X "zip") (hm : X.mg "zip" = none) (hK : X.K = k.K) (ha : PA X [e, e2] (LA k W ma))
    (hs : starEach [e, e2] X.env = (false, eval e X.env) :: starEach [e2] X.env := by rfl) (hpl : (backTo pos (starEach [e2] X.env)).any (·.1) = false := by rfl) :
    PI X (.Tuple elts kk tpos) (.Call (.Name "zip" p) [e, e2] [] pos) (LI k W (mZipX ma)) := (pi_zipX hg hm ha hs hpl).cq fun _ _ _ h => by
  rw [hK]
  exact li_zipX h
end
end CT
set_option maxHeartbeats 4000000
/-! DM34: max of three integers; len of a dict keyed by tuples; sorted of a dict whose only key is the empty tuple. -/
namespace CT
open PySem L2 PySem.Spec PyProof.Rows
def o3I (g : Int → Int → Int → Int) : OA := fun xs C => match xs with
  | [.int i, .int j, .int l] => some (.int (g i j l), C)
  | _ => none
def oMax3 : OA := o3I fun i j l => if l > (if j > i then j else i) then l else (if j > i then j else i)
theorem nuMax3_int (i j l : Int) : nuMax3 (.int i) (.int j) (.int l) = some (.int (if l > (if j > i then j else i) then l else (if j > i then j else i))) := by
  have h2 : ∀ a b : Int, nuMax2 (.int a) (.int b) = some (.int (if b > a then b else a)) := fun a b => by
    show (some (decide (a < b))).map (fun c => if c = true then V.int b else V.int a) = _
    by_cases q : a < b <;> simp [q]
  unfold nuMax3
  rw [h2]
  exact h2 _ _
theorem d_max3 {k : Cn} : ApD k (rNuC3 nuMax3) oMax3 := by
  intro fl A C H x dx d C' Q hf hl st rx e q
  unfold oMax3 o3I at e
  split at e
  · rename_i i j l
    cases e
    cases rx with
    | cons r1 t =>
      cases t with
      | cons r2 t =>
        cases t with
        | cons r3 t =>
          cases t
          cases r1
          cases r2
          cases r3
          exact ⟨_, _, _, _, rfl, nuMax3_int i j l, q A H _ Stp.refl st (.int _)⟩
  · cases e
/-! ### sorted: the empty tuple alone -/
section
variable {prog : Program} {w : World} {A : Around} {s : Shared}
theorem sortsAt_e {v : Value} (r : ∃ as, Reads s.heap v (.tuple []) as) (hu : A.units + 1 < cLine) : PySem.W.SortsAt prog w A s (PySem.W.dataKind s.heap [.tuple []]) [v] := by
  have al : PySem.W.AllAlike [PyData.tuple []] := fun d hd d' hd' => by
    cases List.mem_singleton.mp hd
    cases List.mem_singleton.mp hd'
    rfl
  obtain ⟨as, r⟩ := r
  refine ⟨fun u hu' => ?_, tuples' false, ?_, fun h2 => absurd h2 (by simp)⟩
  · cases List.mem_singleton.mp hu'
    exact ⟨_, PySem.W.dataKind_some al (List.mem_singleton_self _) r⟩
  · intro E x y a b Q ha hb hq
    obtain ⟨d, as, hd, ra, rfl⟩ := PySem.W.dataKind_inv ha
    obtain ⟨d', as', hd', rb, rfl⟩ := PySem.W.dataKind_inv hb
    cases List.mem_singleton.mp hd
    cases List.mem_singleton.mp hd'
    have hq' : Q (PySem.W.dataLt (.tuple []) (.tuple [])) s := hq
    rw [PySem.W.dataLt_tuple] at hq'
    cases ra with
    | @tuple l o xs n _ _ h1 h2 h3 h4 =>
      cases rb with
      | @tuple l' o' xs' n' _ _ k1 k2 k3 k4 =>
        have n1 : xs.size = ([] : List PyData).length := by simpa using SeqAt.ReadsAll.length _ _ _ h4
        have n2 : xs'.size = ([] : List PyData).length := by simpa using SeqAt.ReadsAll.length _ _ _ k4
        exact PySem.W.kat_lt h1 h3 k1 k3 (PySem.W.katLex_alike [] [] 0 _ _ _ _ h4 k4 rfl (by simp [PyData.depthAll]; omega) (fun hb _ x r t ex => nomatch ex) (by rw [n1, n2]) hq')
end
theorem sortVals_1 (κ : PyProof.Rows.KeyKind) (v : Value) : PySem.W.sortVals κ false [v] [v] = [v] := by
  unfold PySem.W.sortVals
  simp
def rSort1 : List V → Hp → VK → Prop := fun xs H Q => ∃ (a : Addr) (x : V), xs = [.ref a] ∧ H a = some (.dT [([], x)]) ∧ ∀ p b, H p = none → H b = some (.tup []) → Q (.ref p) (upd H p (.lst [V.ref b]))
section
variable {X : Cx}
theorem cr_sort1 (hcalm : X.calm = true) (hu : X.A.units + 200 < cLine) : CallR X (.builtin "sorted") rSort1 := by
  intro pins s σ H xs us Q I r h
  obtain ⟨d, x0, rfl, hd, q⟩ := h
  obtain ⟨u, rfl, ru⟩ := vals1 r
  obtain rfl : u = Value.ref d := ru
  obtain ⟨z, hs, ks, pr, o, es, ep, ho, hx, hdt, he, hn⟩ := (show ObjOk X.prog X.w H s.heap d (.dT [([], x0)]) from I.hok d _ hd)
  cases pr with
  | cons p0 t0 =>
    cases t0
    rename_i k0
    obtain ⟨k1, b, vb⟩ := k0
    obtain ⟨e1, hb, _⟩ := p0
    have e1 : ([] : List Key) = k1 := e1
    have hb : H b = some (.tup []) := hb
    subst e1
    have l1 : es.size = 1 := size_of_entries he
    have sl : 1 ≤ sizeLine := by decide
    refine Calls.call_function_entry PyProof.Rows.kind_sorted PyProof.Rows.plain_sorted PyProof.Rows.entry_sorted (PyProof.Rows.args_sorted1 _) ?_
    unfold Builtin.«sorted»
    refine wpAny_bind (m := checkCount "sorted" 1 1 _) (wpAny_pure ?_)
    refine wpAny_bind (PySem.W.kdu_collect (A := X.A.in1) (kdl_raw hs hx hdt) (I.ok.hd hcalm) ho (by rw [l1]; exact sl) fun h' tk acc hk' hacc => ?_)
    have ea : acc.toList = [Value.ref b] := by
      have hl : acc.toList.length = 1 := by rw [Array.length_toList, hacc.1]; exact l1
      apply List.ext_getElem?
      intro j
      cases hj : acc.toList[j]? with
      | none =>
        have h1 := List.getElem?_eq_none_iff.mp hj
        rw [List.getElem?_eq_none (by simp; omega)]
      | some v =>
        obtain ⟨en, hen, hv⟩ := hacc.2 j v (by rw [← Array.getElem?_toList]; exact hj)
        have qe := entry_at he j
        rw [hen] at qe
        have hj1 := (List.getElem?_eq_some_iff.mp hj).1
        obtain rfl : j = 0 := by omega
        have e2 : en = entryOfKey (tupleKind (mixKind X.prog X.w)) (([] : List Key), b, vb) := Option.some.inj qe
        rw [hv, e2]
        rfl
    have I1 : Inv X pins σ H { s with heap := h', toks := tk } := I.kept hk'
    have hlen : acc.toList.length ≤ sizeLine := by
      rw [ea]
      exact sl
    refine wpAny_bind (wpAny_newList ?_ hlen)
    have hoL : (h'.push (seqObj "list" acc.toList.toArray 0)).get? h'.objs.size = some (seqObj "list" acc.toList.toArray 0) := Heap.get?_push_size _ rfl
    show wpAny _ _ _ _ _ { s with heap := h'.push (seqObj "list" acc.toList.toArray 0), toks := tk }
    rw [ea] at hoL ⊢
    have rd : ∃ as, Reads (PySem.W.sortingHeap (h'.push (seqObj "list" [Value.ref b].toArray 0)) h'.objs.size [Value.ref b]) (Value.ref b) (.tuple []) as := by
      obtain ⟨_, its, rv, ot, ho1, ho2, n, ho3⟩ := (show ObjOk X.prog X.w H h' b (.tup []) from I1.hok _ _ hb)
      cases rv
      have hlt : b < h'.objs.size := Heap.lt_size ho1
      exact ⟨_, .tuple (PySem.W.sortingHeap_old (Nat.ne_of_lt hlt) (Heap.get?_push_of_some _ ho1)) ho2 ho3 .nil⟩
    refine wpAny_bind (wpAny_holding (wpAny_call_entry PyProof.Rows.slot_list_sort ⟨_, hoL, rfl⟩ PyProof.Rows.entry_list_sort (PySem.W.list_sort_vals (κ := PySem.W.dataKind _ [.tuple []]) hoL (sortsAt_e rd (by show X.A.units + 1 + 1 + 1 < _; omega)) sl ⟨.none, rfl, ?_⟩) (PyProof.Rows.args_list_sort _)))
    rw [sortVals_1]
    obtain ⟨e', he'⟩ := PyProof.Rows.sortedHeap_at (vs := [Value.ref b]) (out := [Value.ref b].toArray) hoL
    refine wpAny_pure ⟨_, rfl, .ref h'.objs.size, _, I1.laid (t' := tk) (o := .lst [V.ref b]) (fun c u e => ?_) (Nat.le_refl _) ⟨sl, [Value.ref b], e', .cons rfl .nil, he'⟩, rfl, q _ _ (I1.hok.fresh (Nat.le_refl _)) hb⟩
    have hb : c < h'.objs.size := Heap.lt_size e
    rw [PyProof.Rows.sortedHeap_old (Nat.ne_of_lt hb) (by rw [size_push']; exact Nat.lt_succ_of_lt hb)]
    exact Heap.get?_push_of_some _ e
end
/-- sorted(d): keys that are tuples; the empty tuple alone too -/
def oSortE (own : Bool) : OA := fun xs C => match xs with
  | [x] => (match vD x C with
    | some (ks, _) => if ks = [[]] then some (mkL own [.tup []] C) else oSortD own [x] C
    | none => none)
  | _ => none
section
variable {k : Cn}
theorem d_sortE {own : Bool} : ApD k (fun xs H Q => rSortT xs H Q ∨ rSort1 xs H Q) (oSortE own) := by
  intro fl A C H x dx d C' Q hf hl st rx e q
  cases rx with
  | nil => cases e
  | cons r t =>
    cases t with
    | cons _ _ => cases e
    | nil =>
      rename_i v0 d0
      simp only [oSortE] at e
      split at e
      · rename_i ks ds ev
        split at e
        · rename_i hk1
          subst hk1
          obtain ⟨a, kvs, rfl, ha, hk, rv⟩ := vD_at st r ev
          match kvs, hk with
          | [(k1, x1)], hk =>
            obtain rfl : k1 = [] := (List.cons.inj hk).1
            refine .inr ⟨a, x1, rfl, ha, fun p b hp hb => ?_⟩
            have rr : RepL k A C H [V.ref b] [D.tup []] := .cons (.tup (tup_nl st hb) hb .nil) .nil
            obtain ⟨A2, w1, w2, w3⟩ := fresh_L (own := own) hf st rr hp
            have e1 := Option.some.inj e
            rw [e1] at w1 w2 w3
            exact q A2 _ _ w1 w2 w3
        · exact .inl (d_sortD (own := own) fl A C H _ _ d C' Q hf hl st (.cons r .nil) e q)
      · cases e
end
end CT
set_option maxHeartbeats 8000000
namespace CL
open PySem L2 PySem.Spec PyProof.Rows CT
theorem txt {K : PySem.W.Frag} {h : Heap} {mg : Str → Option Value} (X : K.In h) (G : h.Ns mainGlobals mg) (c : SaysX fs fn K) : Txt K mg where
  n_abs := He.free_ok X G (c.fact 0 (f := (He.Fa.free "abs").ok) rfl)
  n_any := He.free_ok X G (c.fact 1 (f := (He.Fa.free "any").ok) rfl)
  n_bool := He.free_ok X G (c.fact 2 (f := (He.Fa.free "bool").ok) rfl)
  n_enumerate := He.free_ok X G (c.fact 3 (f := (He.Fa.free "enumerate").ok) rfl)
  n_int := He.free_ok X G (c.fact 4 (f := (He.Fa.free "int").ok) rfl)
  n_isinstance := He.free_ok X G (c.fact 5 (f := (He.Fa.free "isinstance").ok) rfl)
  n_len := He.free_ok X G (c.fact 6 (f := (He.Fa.free "len").ok) rfl)
  n_list := He.free_ok X G (c.fact 7 (f := (He.Fa.free "list").ok) rfl)
  n_max := He.free_ok X G (c.fact 8 (f := (He.Fa.free "max").ok) rfl)
  n_min := He.free_ok X G (c.fact 9 (f := (He.Fa.free "min").ok) rfl)
  n_range := He.free_ok X G (c.fact 10 (f := (He.Fa.free "range").ok) rfl)
  n_repr := He.free_ok X G (c.fact 11 (f := (He.Fa.free "repr").ok) rfl)
  n_sorted := He.free_ok X G (c.fact 12 (f := (He.Fa.free "sorted").ok) rfl)
  n_sum := He.free_ok X G (c.fact 13 (f := (He.Fa.free "sum").ok) rfl)
  n_tuple := He.free_ok X G (c.fact 14 (f := (He.Fa.free "tuple").ok) rfl)
  n_zip := He.free_ok X G (c.fact 15 (f := (He.Fa.free "zip").ok) rfl)
  c_MOST := He.int_ok X G (c.fact 16 (f := (He.Fa.int "MOST" 1000000000).ok) rfl)
  g_is_integer := He.glo_ok X G (c.fact 17 (f := (He.Fa.glo "is_integer").ok) rfl)
  g_is_count := He.glo_ok X G (c.fact 18 (f := (He.Fa.glo "is_count").ok) rfl)
  g_is_tie := He.glo_ok X G (c.fact 19 (f := (He.Fa.glo "is_tie").ok) rfl)
  g_summed := He.glo_ok X G (c.fact 20 (f := (He.Fa.glo "summed").ok) rfl)
  g_grid_of := He.glo_ok X G (c.fact 21 (f := (He.Fa.glo "grid_of").ok) rfl)
  g_check_size := He.glo_ok X G (c.fact 22 (f := (He.Fa.glo "check_size").ok) rfl)
  g_pairs_of := He.glo_ok X G (c.fact 23 (f := (He.Fa.glo "pairs_of").ok) rfl)
  g_numbers := He.glo_ok X G (c.fact 24 (f := (He.Fa.glo "numbers").ok) rfl)
  g_check_light := He.glo_ok X G (c.fact 25 (f := (He.Fa.glo "check_light").ok) rfl)
  g_all_numbers := He.glo_ok X G (c.fact 26 (f := (He.Fa.glo "all_numbers").ok) rfl)
  g_degrees_of := He.glo_ok X G (c.fact 27 (f := (He.Fa.glo "degrees_of").ok) rfl)
  g_row_counts := He.glo_ok X G (c.fact 28 (f := (He.Fa.glo "row_counts").ok) rfl)
  g_granted_rows := He.glo_ok X G (c.fact 29 (f := (He.Fa.glo "granted_rows").ok) rfl)
  g_moved_by := He.glo_ok X G (c.fact 30 (f := (He.Fa.glo "moved_by").ok) rfl)
  g_opposite := He.glo_ok X G (c.fact 31 (f := (He.Fa.glo "opposite").ok) rfl)
  g_steps_towards := He.glo_ok X G (c.fact 32 (f := (He.Fa.glo "steps_towards").ok) rfl)
  g_second_steps := He.glo_ok X G (c.fact 33 (f := (He.Fa.glo "second_steps").ok) rfl)
  g_displeasure := He.glo_ok X G (c.fact 34 (f := (He.Fa.glo "displeasure").ok) rfl)
  g_best_rows := He.glo_ok X G (c.fact 35 (f := (He.Fa.glo "best_rows").ok) rfl)
  g_law_bag := He.glo_ok X G (c.fact 36 (f := (He.Fa.glo "_law_bag").ok) rfl)
  g_law_take := He.glo_ok X G (c.fact 37 (f := (He.Fa.glo "_law_take").ok) rfl)
  g_law_one := He.glo_ok X G (c.fact 38 (f := (He.Fa.glo "_law_one").ok) rfl)
  g_law_mixed := He.glo_ok X G (c.fact 39 (f := (He.Fa.glo "_law_mixed").ok) rfl)
  g_law_pairs := He.glo_ok X G (c.fact 40 (f := (He.Fa.glo "_law_pairs").ok) rfl)
  g_law_light := He.glo_ok X G (c.fact 41 (f := (He.Fa.glo "_law_light").ok) rfl)
  g_law_numbers := He.glo_ok X G (c.fact 42 (f := (He.Fa.glo "_law_numbers").ok) rfl)
  g_law_all := He.glo_ok X G (c.fact 43 (f := (He.Fa.glo "_law_all").ok) rfl)
  g_law_row_of := He.glo_ok X G (c.fact 44 (f := (He.Fa.glo "_law_row_of").ok) rfl)
  g_law_counts := He.glo_ok X G (c.fact 45 (f := (He.Fa.glo "_law_counts").ok) rfl)
  g_law_grid := He.glo_ok X G (c.fact 46 (f := (He.Fa.glo "_law_grid").ok) rfl)
  g_law_alike := He.glo_ok X G (c.fact 47 (f := (He.Fa.glo "_law_alike").ok) rfl)
  g_law_moved := He.glo_ok X G (c.fact 48 (f := (He.Fa.glo "_law_moved").ok) rfl)
  g_law_towards := He.glo_ok X G (c.fact 49 (f := (He.Fa.glo "_law_towards").ok) rfl)
  g_law_table := He.glo_ok X G (c.fact 50 (f := (He.Fa.glo "_law_table").ok) rfl)
  g_law_cost := He.glo_ok X G (c.fact 51 (f := (He.Fa.glo "_law_cost").ok) rfl)
  g_law_exchanged := He.glo_ok X G (c.fact 52 (f := (He.Fa.glo "_law_exchanged").ok) rfl)
  g_law := He.glo_ok X G (c.fact 53 (f := (He.Fa.glo "law").ok) rfl)
  g_Web := He.glo_ok X G (c.fact 54 (f := (He.Fa.glo "Web").ok) rfl)
  cl_Web := He.cls_ok (c.fact 55 (f := (He.Fa.cls "Web").ok) rfl)
  no_Web_size := He.noat_ok (c.fact 56 (f := (He.Fa.noat "Web" "size").ok) rfl)
  no_Web_grid := He.noat_ok (c.fact 57 (f := (He.Fa.noat "Web" "grid").ok) rfl)
  no_Web_ties := He.noat_ok (c.fact 58 (f := (He.Fa.noat "Web" "ties").ok) rfl)
  mk_Web := He.mkr_ok (c.fact 59 (f := (He.Fa.mkr "Web").ok) rfl)
  kt_Web__init := ktB_ok (c.fact 60 (f := ktB d_Web__init) rfl)
  dn_Web__getitem := dnB_ok (c.fact 61 (f := dnB "Web" "__getitem__") rfl)
  isa := isaB_ok rfl rfl (c.fact 62 (f := isaB clA [0]) rfl)
  f_is_integer := c.def_ 0 (d := dx_is_integer) rfl
  f_is_count := c.def_ 1 (d := dx_is_count) rfl
  f_is_tie := c.def_ 2 (d := dx_is_tie) rfl
  f_summed := c.def_ 3 (d := dx_summed) rfl
  f_grid_of := c.def_ 4 (d := dx_grid_of) rfl
  f_Web__init := c.def_ 5 (d := dx_Web__init) rfl
  f_Web__getitem := c.def_ 6 (d := dx_Web__getitem) rfl
  f_check_size := c.def_ 7 (d := dx_check_size) rfl
  f_pairs_of := c.def_ 8 (d := dx_pairs_of) rfl
  f_numbers := c.def_ 9 (d := dx_numbers) rfl
  f_check_light := c.def_ 10 (d := dx_check_light) rfl
  f_all_numbers := c.def_ 11 (d := dx_all_numbers) rfl
  f_degrees_of := c.def_ 12 (d := dx_degrees_of) rfl
  f_row_counts := c.def_ 13 (d := dx_row_counts) rfl
  f_granted_rows := c.def_ 14 (d := dx_granted_rows) rfl
  f_moved_by := c.def_ 15 (d := dx_moved_by) rfl
  f_opposite := c.def_ 16 (d := dx_opposite) rfl
  f_steps_towards := c.def_ 17 (d := dx_steps_towards) rfl
  f_second_steps := c.def_ 18 (d := dx_second_steps) rfl
  f_displeasure := c.def_ 19 (d := dx_displeasure) rfl
  f_best_rows := c.def_ 20 (d := dx_best_rows) rfl
  f_law_bag := c.def_ 21 (d := dx_law_bag) rfl
  f_law_take := c.def_ 22 (d := dx_law_take) rfl
  f_law_one := c.def_ 23 (d := dx_law_one) rfl
  f_law_mixed := c.def_ 24 (d := dx_law_mixed) rfl
  f_law_pairs := c.def_ 25 (d := dx_law_pairs) rfl
  f_law_light := c.def_ 26 (d := dx_law_light) rfl
  f_law_numbers := c.def_ 27 (d := dx_law_numbers) rfl
  f_law_all := c.def_ 28 (d := dx_law_all) rfl
  f_law_row_of := c.def_ 29 (d := dx_law_row_of) rfl
  f_law_counts := c.def_ 30 (d := dx_law_counts) rfl
  f_law_grid := c.def_ 31 (d := dx_law_grid) rfl
  f_law_alike := c.def_ 32 (d := dx_law_alike) rfl
  f_law_moved := c.def_ 33 (d := dx_law_moved) rfl
  f_law_towards := c.def_ 34 (d := dx_law_towards) rfl
  f_law_table := c.def_ 35 (d := dx_law_table) rfl
  f_law_cost := c.def_ 36 (d := dx_law_cost) rfl
  f_law_exchanged := c.def_ 37 (d := dx_law_exchanged) rfl
  f_law := c.def_ 38 (d := dx_law) rfl
theorem nd_Web {K : PySem.W.Frag} : ((cn K).fn 0).Nodup := (by decide : (flA 0).Nodup)
section
variable {P : Program} {w : World} {K : PySem.W.Frag} {mg : Str → Option Value} {base : Heap}
theorem sc_is_integer : FnScope ["thing"] ["thing"] (defScope s_is_integer) := ⟨rfl, rfl, rfl, by decide +kernel, rfl, by decide +kernel, by decide +kernel⟩
def b_is_integer : MS := (sRet (mAnd (mIsi [0] (.ty .int) (mVar 0)) (mNot (mIsi [0] (.ty .bool) (mVar 0)))))
def m_is_integer : MF := mDef 1 1 b_is_integer
theorem ar_is_integer : Ar 1 m_is_integer := mDef_ar
theorem ok_is_integer (T : Txt K mg) : ∃ fd, FnG P w K mg base 1 (a_is_integer K) fd ["thing"] (SpD (cn K) 1 m_is_integer) ∧ Binds K fd ["thing"] [] ∧ PySem.W.keepIn K (.ref (a_is_integer K)) = true := by
  obtain ⟨fd, F⟩ := T.f_is_integer
  refine ⟨fd, fn_ok (k := cn K) F sc_is_integer (by decide) fun cdv A outer s H E hr => ?_, F.bindsN fun _ _ _ _ _ _ us hl => match us, hl with | [_], _ => rfl, F.kp⟩
  have tk : Takes (cxOf (L2.CX P w) P w K mg base ["thing"] "is_integer" (defScope s_is_integer) (a_is_integer K) cdv A outer s H E) (fun c d _ H => E c d H) := takes_of rfl rfl rfl rfl
  exact (dss_one (ds_ret (de_and (de_isi (by rfl) T.n_isinstance T.isa rfl rfl (dv 0) (pe_bltn (v := .ty "int") (by rfl) T.n_int (by decide +kernel) rfl)) (de_one (de_not (de_isi (by rfl) T.n_isinstance T.isa rfl rfl (dv 0) (pe_bltn (v := .ty "bool") (by rfl) T.n_bool (by decide +kernel) rfl)))))))
theorem sc_is_count : FnScope ["thing", "least", "greatest"] ["thing", "least", "greatest"] (defScope s_is_count) := ⟨rfl, rfl, rfl, by decide +kernel, rfl, by decide +kernel, by decide +kernel⟩
def b_is_count : MS := (sRet (mAnd (mCall m_is_integer [] (mCons (mVar 0) mNil)) (mChain oLe oLe (mVar 1) (mVar 0) (mVar 2))))
def m_is_count : MF := mDef 3 3 b_is_count
theorem ar_is_count : Ar 3 m_is_count := mDef_ar
theorem ok_is_count (T : Txt K mg) : ∃ fd, FnG P w K mg base 2 (a_is_count K) fd ["thing", "least", "greatest"] (SpD (cn K) 3 m_is_count) ∧ Binds K fd ["thing", "least", "greatest"] [] ∧ PySem.W.keepIn K (.ref (a_is_count K)) = true := by
  obtain ⟨fd_is_integer, F_is_integer, B_is_integer, kp_is_integer⟩ := ok_is_integer (P := P) (w := w) (base := base) T
  obtain ⟨fd, F⟩ := T.f_is_count
  refine ⟨fd, fn_ok (k := cn K) F sc_is_count (by decide) fun cdv A outer s H E hr => ?_, F.bindsN fun _ _ _ _ _ _ us hl => match us, hl with | [_, _, _], _ => rfl, F.kp⟩
  have tk : Takes (cxOf (L2.CX P w) P w K mg base ["thing", "least", "greatest"] "is_count" (defScope s_is_count) (a_is_count K) cdv A outer s H E) (fun c d _ H => E c d H) := takes_of rfl rfl rfl rfl
  exact (dss_one (ds_ret (de_and (de_call tk F_is_integer ar_is_integer (hr.mono (by decide)) (by rfl) T.g_is_integer kp_is_integer B_is_integer .nil (fun _ _ _ => .nil) (da_cons (dv 0) da_nil)) (de_one (de_chain op_le d_le op_le d_le (dv 1) (dv 0) (dv 2))))))
theorem sc_is_tie : FnScope ["size", "thing", "u", "v", "number"] ["size", "thing"] (defScope s_is_tie) := ⟨rfl, rfl, rfl, by decide +kernel, rfl, by decide +kernel, by decide +kernel⟩
def b_is_tie_0 : MS := (sIf (tOrM (tNotM (mTst (mIsi [0] (.ty .tuple) (mVar 1)))) (mTst (mOp (oEqA true) (mAp oLen (mCons (mVar 1) mNil)) (mC (.int 3))))) (sRet (mC (.bl false))) sNext)
def b_is_tie_1 : MS := (sAsg (mVar 1) (Tgt.tp [2, 3, 4]).M)
def b_is_tie_2 : MS := (sIf (tOrM (tNotM (mTst (mCall m_is_count [] (mCons (mVar 2) (mCons (mC (.int 0)) (mCons (mOp oSub (mVar 0) (mC (.int 1))) mNil)))))) (tOrM (tNotM (mTst (mCall m_is_count [] (mCons (mVar 3) (mCons (mC (.int 0)) (mCons (mOp oSub (mVar 0) (mC (.int 1))) mNil)))))) (mTst (mOp (oEqA false) (mVar 2) (mVar 3))))) (sRet (mC (.bl false))) sNext)
def b_is_tie_3 : MS := (sRet (mCall m_is_count [] (mCons (mVar 4) (mCons (mC (.int 0)) (mCons (mC (.int 1000000000)) mNil)))))
def b_is_tie : MS := (sSeq b_is_tie_0 (sSeq b_is_tie_1 (sSeq b_is_tie_2 b_is_tie_3)))
def m_is_tie : MF := mDef 2 5 b_is_tie
theorem e_is_tie (x0 x1 : D) (C : Store) : m_is_tie [x0, x1] C = finS C.length (b_is_tie ⟨C.length, [some x0, some x1, none, none, none]⟩ C) := mDef_e rfl rfl
theorem ar_is_tie : Ar 2 m_is_tie := mDef_ar
theorem ok_is_tie (T : Txt K mg) : ∃ fd, FnG P w K mg base 3 (a_is_tie K) fd ["size", "thing"] (SpD (cn K) 2 m_is_tie) ∧ Binds K fd ["size", "thing"] [] ∧ PySem.W.keepIn K (.ref (a_is_tie K)) = true := by
  obtain ⟨fd_is_count, F_is_count, B_is_count, kp_is_count⟩ := ok_is_count (P := P) (w := w) (base := base) T
  obtain ⟨t_MOST, h_MOST⟩ := T.c_MOST
  obtain ⟨fd, F⟩ := T.f_is_tie
  refine ⟨fd, fn_ok (k := cn K) F sc_is_tie (by decide) fun cdv A outer s H E hr => ?_, F.bindsN fun _ _ _ _ _ _ us hl => match us, hl with | [_, _], _ => rfl, F.kp⟩
  have tk : Takes (cxOf (L2.CX P w) P w K mg base ["size", "thing", "u", "v", "number"] "is_tie" (defScope s_is_tie) (a_is_tie K) cdv A outer s H E) (fun c d _ H => E c d H) := takes_of rfl rfl rfl rfl
  exact (dss_cons (ds_if (PW.pt (dw_or (dt_not (dt_val (de_isi (by rfl) T.n_isinstance T.isa rfl rfl (dv 1) (pe_bltn (v := .ty "tuple") (by rfl) T.n_tuple (by decide +kernel) rfl)))) (dw_or1 (dt_cmp (op_ne.or (op_neD hr.room.units)) d_neA (de_callB call_len_seq d_len (by rfl) T.n_len (by decide +kernel) (da_cons (dv 1) da_nil)) de_int (nomark _))))) (dss_one (ds_ret de_bl)) dss_nil)
  (dss_cons (ds_asgT (dv 1) (tg_tp [2, 3, 4] rfl rfl (pgs_cons (pg_name (i := 2) sc_is_tie.nd rfl (Or.inl rfl)) (pgs_cons (pg_name (i := 3) sc_is_tie.nd rfl (Or.inl rfl)) (pgs_cons (pg_name (i := 4) sc_is_tie.nd rfl (Or.inl rfl)) pgs_nil)))))
  (dss_cons (ds_if (PW.pt (dw_or (dt_not (dt_val (de_call tk F_is_count ar_is_count (hr.mono (by decide)) (by rfl) T.g_is_count kp_is_count B_is_count .nil (fun _ _ _ => .nil) (da_cons (dv 2) (da_cons de_int (da_cons (de_op op_sub d_sub (dv 0) de_int) da_nil)))))) (dw_or (dt_not (dt_val (de_call tk F_is_count ar_is_count (hr.mono (by decide)) (by rfl) T.g_is_count kp_is_count B_is_count .nil (fun _ _ _ => .nil) (da_cons (dv 3) (da_cons de_int (da_cons (de_op op_sub d_sub (dv 0) de_int) da_nil)))))) (dw_or1 (dt_cmp (op_eq.or (op_eqD hr.room.units)) d_eqA (dv 2) (dv 3) (nomark _)))))) (dss_one (ds_ret de_bl)) dss_nil)
  (dss_one (ds_ret (de_call tk F_is_count ar_is_count (hr.mono (by decide)) (by rfl) T.g_is_count kp_is_count B_is_count .nil (fun _ _ _ => .nil) (da_cons (dv 4) (da_cons de_int (da_cons (de_glob (fun _ _ _ => .int _) (by rfl) h_MOST ⟨_, rfl⟩) da_nil)))))))))
theorem sc_summed : FnScope ["ties", "found", "u", "v", "number", "pair"] ["ties"] (defScope s_summed) := ⟨rfl, rfl, rfl, by decide +kernel, rfl, by decide +kernel, by decide +kernel⟩
def b_summed_0 : MS := (sAsg (mDNew true) (gN 1))
def b_summed_1b_0 : MS := (sAsg (mAp oTup (mCons (mAp oMin2 (mCons (mVar 2) (mCons (mVar 3) mNil))) (mCons (mAp oMax2 (mCons (mVar 2) (mCons (mVar 3) mNil))) mNil))) (gN 5))
def b_summed_1b_1 : MS := (sPut (mOp oAdd (mDGet (mVar 1) (mVar 5) (mC (.int 0))) (mVar 4)) (mVar 1) (mVar 5))
def b_summed_1 : MS := (sFor (mSeq (mVar 0)) (Tgt.tp [2, 3, 4]).M (sSeq b_summed_1b_0 b_summed_1b_1))
def b_summed_2 : MS := (sRet (mVar 1))
def b_summed : MS := (sSeq b_summed_0 (sSeq b_summed_1 b_summed_2))
def m_summed : MF := mDef 1 6 b_summed
theorem e_summed (x0 : D) (C : Store) : m_summed [x0] C = finS C.length (b_summed ⟨C.length, [some x0, none, none, none, none, none]⟩ C) := mDef_e rfl rfl
theorem ar_summed : Ar 1 m_summed := mDef_ar
theorem ok_summed (T : Txt K mg) : ∃ fd, FnG P w K mg base 1 (a_summed K) fd ["ties"] (SpD (cn K) 1 m_summed) ∧ Binds K fd ["ties"] [] ∧ PySem.W.keepIn K (.ref (a_summed K)) = true := by
  obtain ⟨fd, F⟩ := T.f_summed
  refine ⟨fd, fn_ok (k := cn K) F sc_summed (by decide) fun cdv A outer s H E hr => ?_, F.bindsN fun _ _ _ _ _ _ us hl => match us, hl with | [_], _ => rfl, F.kp⟩
  have tk : Takes (cxOf (L2.CX P w) P w K mg base ["ties", "found", "u", "v", "number", "pair"] "summed" (defScope s_summed) (a_summed K) cdv A outer s H E) (fun c d _ H => E c d H) := takes_of rfl rfl rfl rfl
  exact (dss_cons (ds_set (i := 1) sc_summed.nd rfl (Or.inl rfl) (de_dnew true))
  (dss_cons (ds_for (passes_of rfl) rfl (di_seq rfl (dv 0)) (tg_tp [2, 3, 4] rfl rfl (pgs_cons (pg_name (i := 2) sc_summed.nd rfl (Or.inl rfl)) (pgs_cons (pg_name (i := 3) sc_summed.nd rfl (Or.inl rfl)) (pgs_cons (pg_name (i := 4) sc_summed.nd rfl (Or.inl rfl)) pgs_nil)))) (dss_cons (ds_set (i := 5) sc_summed.nd rfl (Or.inl rfl) (de_tup (da_cons (de_callB (call_min2 rfl) d_min2 (by rfl) T.n_min (by decide +kernel) (da_cons (dv 2) (da_cons (dv 3) da_nil))) (da_cons (de_callB (call_max2 rfl) d_max2 (by rfl) T.n_max (by decide +kernel) (da_cons (dv 2) (da_cons (dv 3) da_nil))) da_nil))))
  (dss_one (ds_put (hu_of hr.room) (de_op op_add d_add (de_dget (hu_of hr.room) (dv 1) (dv 5) de_int) (dv 4)) (dv 1) (dv 5)))))
  (dss_one (ds_ret (dv 1)))))
theorem sc_grid_of : FnScope ["size", "ties", "found", "u", "v"] ["size", "ties"] (defScope s_grid_of) := ⟨rfl, rfl, rfl, by decide +kernel, rfl, by decide +kernel, by decide +kernel⟩
def b_grid_of_0 : MS := (sAsg (mCall m_summed [] (mCons (mVar 1) mNil)) (gN 2))
def b_grid_of_1 : MS := (sRet (mLc false (mRng1 (mVar 0)) (Tgt.nm 3).M tYesM (mLc false (mRng1 (mVar 0)) (Tgt.nm 4).M tYesM (mDGet (mVar 2) (mAp oTup (mCons (mAp oMin2 (mCons (mVar 3) (mCons (mVar 4) mNil))) (mCons (mAp oMax2 (mCons (mVar 3) (mCons (mVar 4) mNil))) mNil))) (mC (.int 0))) [4]) [3]))
def b_grid_of : MS := (sSeq b_grid_of_0 b_grid_of_1)
def m_grid_of : MF := mDef 2 5 b_grid_of
theorem e_grid_of (x0 x1 : D) (C : Store) : m_grid_of [x0, x1] C = finS C.length (b_grid_of ⟨C.length, [some x0, some x1, none, none, none]⟩ C) := mDef_e rfl rfl
theorem ar_grid_of : Ar 2 m_grid_of := mDef_ar
theorem ok_grid_of (T : Txt K mg) : ∃ fd, FnG P w K mg base 2 (a_grid_of K) fd ["size", "ties"] (SpD (cn K) 2 m_grid_of) ∧ Binds K fd ["size", "ties"] [] ∧ PySem.W.keepIn K (.ref (a_grid_of K)) = true := by
  obtain ⟨fd_summed, F_summed, B_summed, kp_summed⟩ := ok_summed (P := P) (w := w) (base := base) T
  obtain ⟨fd, F⟩ := T.f_grid_of
  refine ⟨fd, fn_ok (k := cn K) F sc_grid_of (by decide) fun cdv A outer s H E hr => ?_, F.bindsN fun _ _ _ _ _ _ us hl => match us, hl with | [_, _], _ => rfl, F.kp⟩
  have tk : Takes (cxOf (L2.CX P w) P w K mg base ["size", "ties", "found", "u", "v"] "grid_of" (defScope s_grid_of) (a_grid_of K) cdv A outer s H E) (fun c d _ H => E c d H) := takes_of rfl rfl rfl rfl
  exact (dss_cons (ds_set (i := 2) sc_grid_of.nd rfl (Or.inr rfl) (de_call tk F_summed ar_summed (hr.mono (by decide)) (by rfl) T.g_summed kp_summed B_summed .nil (fun _ _ _ => .nil) (da_cons (dv 1) da_nil)))
  (dss_one (ds_ret (de_lc (own := [("u", 3)]) false rfl rfl sc_grid_of.nd (di_rng1 (by rfl) T.n_range (dv 0)) (blkOk_by (own := [("u", 3)]) rfl) (by decide) (fun _ _ _ _ _ => (tg_nm (i := 3) sc_grid_of.nd rfl (by first | exact Or.inl rfl | exact Or.inr rfl))) (fun _ _ _ _ _ => dts_nil) (fun _ _ _ _ _ => (de_lc (own := [("v", 4)]) false rfl rfl sc_grid_of.nd (di_rng1 (by rfl) T.n_range (dv 0)) (blkOk_by (own := [("v", 4)]) rfl) (by decide) (fun _ _ _ _ _ => (tg_nm (i := 4) sc_grid_of.nd rfl (by first | exact Or.inl rfl | exact Or.inr rfl))) (fun _ _ _ _ _ => dts_nil) (fun _ _ _ _ _ => (de_dget (hu_of hr.room) (dv 2) (de_tup (da_cons (de_callB (call_min2 rfl) d_min2 (by rfl) T.n_min (by decide +kernel) (da_cons (dv 3) (da_cons (dv 4) da_nil))) (da_cons (de_callB (call_max2 rfl) d_max2 (by rfl) T.n_max (by decide +kernel) (da_cons (dv 3) (da_cons (dv 4) da_nil))) da_nil))) de_int))))))))
theorem sc_Web__init : FnScope ["self", "size", "ties", "at", "item", "grid", "pairs", "line", "number", "u", "v"] ["self", "size", "ties"] (defScope s_Web__init) := ⟨rfl, rfl, rfl, by decide +kernel, rfl, by decide +kernel, by decide +kernel⟩
def b_Web__init_0 : MS := (sIf (tNotM (mTst (mCall m_is_count [] (mCons (mVar 1) (mCons (mC (.int 0)) (mCons (mC (.int 60)) mNil)))))) sNever sNext)
def b_Web__init_1 : MS := (sIf (tNotM (mTst (mIsi2 [0] (.ty .list) (.ty .tuple) (mVar 2)))) sNever sNext)
def b_Web__init_2b_0 : MS := (sIf (tNotM (mTst (mCall m_is_tie [] (mCons (mVar 1) (mCons (mVar 4) mNil))))) sNever sNext)
def b_Web__init_2 : MS := (sFor (mEnum (mVar 2)) (Tgt.tp [3, 4]).M b_Web__init_2b_0)
def b_Web__init_3 : MS := (sAsg (mCall m_grid_of [] (mCons (mVar 1) (mCons (mVar 2) mNil))) (gN 5))
def b_Web__init_4 : MS := (sIf (mTst (mAp oAny (mCons (mLc2 false (mSeq (mVar 5)) (Tgt.nm 7).M tYesM (mSeq (mVar 7)) (Tgt.nm 8).M tYesM (mOp oGt (mVar 8) (mC (.int 1000000000))) [7, 8] [8]) mNil))) sNever sNext)
def b_Web__init_5 : MS := (sAsg (mLc2 false (mRng1 (mVar 1)) (Tgt.nm 9).M tYesM (mRng2 (mOp oAdd (mVar 9) (mC (.int 1))) (mVar 1)) (Tgt.nm 10).M tYesM (mAp oTup (mCons (mVar 9) (mCons (mVar 10) mNil))) [9, 10] [10]) (gN 6))
def b_Web__init_6 : MS := (sFldS 0 0 (mVar 1) (mVar 0))
def b_Web__init_7 : MS := (sFldS 0 1 (mVar 5) (mVar 0))
def b_Web__init_8 : MS := (sFldS 0 2 (mAp oTupOf (mCons (mLc false (mSeq (mVar 6)) (Tgt.tp [9, 10]).M (mTst (mOp oGt (mOp oIx (mOp oIx (mVar 5) (mVar 9)) (mVar 10)) (mC (.int 0)))) (mAp oTup (mCons (mVar 9) (mCons (mVar 10) (mCons (mOp oIx (mOp oIx (mVar 5) (mVar 9)) (mVar 10)) mNil)))) [9, 10]) mNil)) (mVar 0))
def b_Web__init : MS := (sSeq b_Web__init_0 (sSeq b_Web__init_1 (sSeq b_Web__init_2 (sSeq b_Web__init_3 (sSeq b_Web__init_4 (sSeq b_Web__init_5 (sSeq b_Web__init_6 (sSeq b_Web__init_7 b_Web__init_8))))))))
def m_Web__init : MF := mDef 3 11 b_Web__init
theorem e_Web__init (x0 x1 x2 : D) (C : Store) : m_Web__init [x0, x1, x2] C = finS C.length (b_Web__init ⟨C.length, [some x0, some x1, some x2, none, none, none, none, none, none, none, none]⟩ C) := mDef_e rfl rfl
theorem ar_Web__init : Ar 3 m_Web__init := mDef_ar
theorem ok_Web__init (T : Txt K mg) : ∃ fd, FnG P w K mg base 4 (a_Web__init K) fd ["self", "size", "ties"] (SpD (cn K) 3 m_Web__init) ∧ Binds K fd ["self", "size", "ties"] [] ∧ PySem.W.keepIn K (.ref (a_Web__init K)) = true ∧ ∃ ds, Vals [V.ref (d_Web__init K)] ds ∧ Binds K fd ["self", "size", "ties"] ds := by
  obtain ⟨fd_is_count, F_is_count, B_is_count, kp_is_count⟩ := ok_is_count (P := P) (w := w) (base := base) T
  obtain ⟨fd_is_tie, F_is_tie, B_is_tie, kp_is_tie⟩ := ok_is_tie (P := P) (w := w) (base := base) T
  obtain ⟨fd_grid_of, F_grid_of, B_grid_of, kp_grid_of⟩ := ok_grid_of (P := P) (w := w) (base := base) T
  obtain ⟨t_MOST, h_MOST⟩ := T.c_MOST
  obtain ⟨fd, F⟩ := T.f_Web__init
  refine ⟨fd, fn_ok (k := cn K) F sc_Web__init (by decide) fun cdv A outer s H E hr => ?_, ?b0, F.kp, ?b1⟩
  rotate_left
  · obtain ⟨ds, v, b⟩ := F.binds1 (ps := ["self", "size", "ties"]) 3 1 (List.cons_ne_nil _ _) rfl fun _ _ _ _ _ _ _ us its h1 h2 => match us, its, h1, h2 with | [_, _, _], [_], _, _ => ⟨_, rfl, by with_unfolding_all rfl⟩
    cases v
    exact b
  · exact F.binds1 2 0 (List.cons_ne_nil _ _) rfl fun _ _ _ _ _ _ _ us its h1 h2 => match us, its, h1, h2 with | [_, _], [_], _, _ => ⟨_, rfl, rfl⟩
  have tk : Takes (cxOf (L2.CX P w) P w K mg base ["self", "size", "ties", "at", "item", "grid", "pairs", "line", "number", "u", "v"] "Web.__init__" (defScope s_Web__init) (a_Web__init K) cdv A outer s H E) (fun c d _ H => E c d H) := takes_of rfl rfl rfl rfl
  exact (dss_cons (ds_if (dt_not (dt_val (de_call tk F_is_count ar_is_count (hr.mono (by decide)) (by rfl) T.g_is_count kp_is_count B_is_count .nil (fun _ _ _ => .nil) (da_cons (dv 1) (da_cons de_int (da_cons de_int da_nil)))))) (dss_one ds_never) dss_nil)
  (dss_cons (ds_if (dt_not (dt_val (de_isi2 (by rfl) T.n_isinstance T.isa rfl rfl rfl (dv 2) (pe_bltn (v := .ty "list") (by rfl) T.n_list (by decide +kernel) rfl) (pe_bltn (v := .ty "tuple") (by rfl) T.n_tuple (by decide +kernel) rfl)))) (dss_one ds_never) dss_nil)
  (dss_cons (ds_for (passes_of rfl) rfl (di_enum (by rfl) T.n_enumerate rfl (dv 2)) (tg_tp [3, 4] rfl rfl (pgs_cons (pg_name (i := 3) sc_Web__init.nd rfl (Or.inl rfl)) (pgs_cons (pg_name (i := 4) sc_Web__init.nd rfl (Or.inl rfl)) pgs_nil))) (dss_one (ds_if (dt_not (dt_val (de_call tk F_is_tie ar_is_tie (hr.mono (by decide)) (by rfl) T.g_is_tie kp_is_tie B_is_tie .nil (fun _ _ _ => .nil) (da_cons (dv 1) (da_cons (dv 4) da_nil))))) (dss_one ds_never) dss_nil)))
  (dss_cons (ds_set (i := 5) sc_Web__init.nd rfl (Or.inr rfl) (de_call tk F_grid_of ar_grid_of (hr.mono (by decide)) (by rfl) T.g_grid_of kp_grid_of B_grid_of .nil (fun _ _ _ => .nil) (da_cons (dv 1) (da_cons (dv 2) da_nil))))
  (dss_cons (ds_if (dt_val (de_callB (cr_any rfl) d_any (by rfl) T.n_any (by decide +kernel) (da_cons (de_lc2 (own := [("line", 7), ("number", 8)]) (vs1 := [8]) false rfl rfl sc_Web__init.nd (di_seq rfl (dv 5)) (blkOk_by (own := [("line", 7), ("number", 8)]) rfl) (by decide) (by decide) (by decide) (fun _ _ _ _ _ => (tg_nm (i := 7) sc_Web__init.nd rfl (by first | exact Or.inl rfl | exact Or.inr rfl))) (fun _ _ _ _ _ => dts_nil) (fun _ _ _ _ _ => (di_seq rfl (dv 7))) (fun _ _ _ _ _ => (tg_nm (i := 8) sc_Web__init.nd rfl (by first | exact Or.inl rfl | exact Or.inr rfl))) (fun _ _ _ _ _ => dts_nil) (fun _ _ _ _ _ => (de_cmp op_gt d_gt (dv 8) (de_glob (fun _ _ _ => .int _) (by rfl) h_MOST ⟨_, rfl⟩) (nomark _)))) da_nil))) (dss_one ds_never) dss_nil)
  (dss_cons (ds_setLc2 (i := 6) (own := [("u", 9), ("v", 10)]) (vs1 := [10]) false rfl rfl sc_Web__init.nd rfl rfl (sw_true rfl rfl rfl (by decide +kernel)) (di_rng1 (by rfl) T.n_range (dv 1)) (blkOk_by (own := [("u", 9), ("v", 10)]) rfl) (by decide) (by decide) (by decide) (fun _ _ _ _ _ => (tg_nm (i := 9) sc_Web__init.nd rfl (by first | exact Or.inl rfl | exact Or.inr rfl))) (fun _ _ _ _ _ => dts_nil) (fun _ _ _ _ _ => (di_rng2 (by rfl) T.n_range (de_op op_add d_add (dv 9) de_int) (dv 1))) (fun _ _ _ _ _ => (tg_nm (i := 10) sc_Web__init.nd rfl (by first | exact Or.inl rfl | exact Or.inr rfl))) (fun _ _ _ _ _ => dts_nil) (fun _ _ _ _ _ => (de_tup (da_cons (dv 9) (da_cons (dv 10) da_nil)))))
  (dss_cons (ds_fld 0 0 rfl T.cl_Web T.no_Web_size nd_Web rfl (show 3 < 1000 by decide) (dv 0) (dv 1))
  (dss_cons (ds_fld 0 1 rfl T.cl_Web T.no_Web_grid nd_Web rfl (show 3 < 1000 by decide) (dv 0) (dv 5))
  (dss_one (ds_fld 0 2 rfl T.cl_Web T.no_Web_ties nd_Web rfl (show 3 < 1000 by decide) (dv 0) (de_callTy call_tuple_of d_tupOf (by rfl) T.n_tuple (by decide +kernel) (da_cons (de_lc (own := [("u", 9), ("v", 10)]) false rfl rfl sc_Web__init.nd (di_seq rfl (dv 6)) (blkOk_by (own := [("u", 9), ("v", 10)]) rfl) (by decide) (fun _ _ _ _ _ => (tg_tp [9, 10] rfl rfl (pgs_cons (pg_name (i := 9) sc_Web__init.nd rfl (by first | exact Or.inl rfl | exact Or.inr rfl)) (pgs_cons (pg_name (i := 10) sc_Web__init.nd rfl (by first | exact Or.inl rfl | exact Or.inr rfl)) pgs_nil)))) (fun _ _ _ _ _ => (pts_one (dt_cmp op_gt d_gt (de_ix ix_seq d_ix (de_ix ix_seq d_ix (dv 5) (dv 9)) (dv 10)) de_int (nomark _)))) (fun _ _ _ _ _ => (de_tup (da_cons (dv 9) (da_cons (dv 10) (da_cons (de_ix ix_seq d_ix (de_ix ix_seq d_ix (dv 5) (dv 9)) (dv 10)) da_nil)))))) da_nil))))))))))))
theorem sc_Web__getitem : FnScope ["self", "at", "u", "v"] ["self", "at"] (defScope s_Web__getitem) := ⟨rfl, rfl, rfl, by decide +kernel, rfl, by decide +kernel, by decide +kernel⟩
def b_Web__getitem_0 : MS := (sAsg (mVar 1) (Tgt.tp [2, 3]).M)
def b_Web__getitem_1 : MS := (sRet (mOp oIx (mOp oIx (mUn (oFld 0 1) (mVar 0)) (mVar 2)) (mVar 3)))
def b_Web__getitem : MS := (sSeq b_Web__getitem_0 b_Web__getitem_1)
def m_Web__getitem : MF := mDef 2 4 b_Web__getitem
theorem e_Web__getitem (x0 x1 : D) (C : Store) : m_Web__getitem [x0, x1] C = finS C.length (b_Web__getitem ⟨C.length, [some x0, some x1, none, none]⟩ C) := mDef_e rfl rfl
theorem ar_Web__getitem : Ar 2 m_Web__getitem := mDef_ar
theorem ok_Web__getitem (T : Txt K mg) : ∃ fd, FnG P w K mg base 1 (a_Web__getitem K) fd ["self", "at"] (SpD (cn K) 2 m_Web__getitem) ∧ Binds K fd ["self", "at"] [] ∧ PySem.W.keepIn K (.ref (a_Web__getitem K)) = true := by
  obtain ⟨fd, F⟩ := T.f_Web__getitem
  refine ⟨fd, fn_ok (k := cn K) F sc_Web__getitem (by decide) fun cdv A outer s H E hr => ?_, F.bindsN fun _ _ _ _ _ _ us hl => match us, hl with | [_, _], _ => rfl, F.kp⟩
  have tk : Takes (cxOf (L2.CX P w) P w K mg base ["self", "at", "u", "v"] "Web.__getitem__" (defScope s_Web__getitem) (a_Web__getitem K) cdv A outer s H E) (fun c d _ H => E c d H) := takes_of rfl rfl rfl rfl
  exact (dss_cons (ds_asgT (dv 1) (tg_tp [2, 3] rfl rfl (pgs_cons (pg_name (i := 2) sc_Web__getitem.nd rfl (Or.inl rfl)) (pgs_cons (pg_name (i := 3) sc_Web__getitem.nd rfl (Or.inl rfl)) pgs_nil))))
  (dss_one (ds_ret (de_ix ix_seq d_ix (de_ix ix_seq d_ix (de_fld 0 1 rfl T.cl_Web T.no_Web_grid nd_Web rfl (dv 0)) (dv 2)) (dv 3)))))
theorem sc_check_size : FnScope ["web"] ["web"] (defScope s_check_size) := ⟨rfl, rfl, rfl, by decide +kernel, rfl, by decide +kernel, by decide +kernel⟩
def b_check_size : MS := (sIf (mTst (mOp oGt (mUn (oFld 0 0) (mVar 0)) (mC (.int 5)))) sNever sNext)
def m_check_size : MF := mDef 1 1 b_check_size
theorem e_check_size (x0 : D) (C : Store) : m_check_size [x0] C = finS C.length (b_check_size ⟨C.length, [some x0]⟩ C) := mDef_e rfl rfl
theorem ar_check_size : Ar 1 m_check_size := mDef_ar
theorem ok_check_size (T : Txt K mg) : ∃ fd, FnG P w K mg base 1 (a_check_size K) fd ["web"] (SpD (cn K) 1 m_check_size) ∧ Binds K fd ["web"] [] ∧ PySem.W.keepIn K (.ref (a_check_size K)) = true := by
  obtain ⟨fd, F⟩ := T.f_check_size
  refine ⟨fd, fn_ok (k := cn K) F sc_check_size (by decide) fun cdv A outer s H E hr => ?_, F.bindsN fun _ _ _ _ _ _ us hl => match us, hl with | [_], _ => rfl, F.kp⟩
  have tk : Takes (cxOf (L2.CX P w) P w K mg base ["web"] "check_size" (defScope s_check_size) (a_check_size K) cdv A outer s H E) (fun c d _ H => E c d H) := takes_of rfl rfl rfl rfl
  exact (dss_one (ds_if (dt_cmp op_gt d_gt (de_fld 0 0 rfl T.cl_Web T.no_Web_size nd_Web rfl (dv 0)) de_int (nomark _)) (dss_one ds_never) dss_nil))
theorem sc_pairs_of : FnScope ["size", "u", "v"] ["size"] (defScope s_pairs_of) := ⟨rfl, rfl, rfl, by decide +kernel, rfl, by decide +kernel, by decide +kernel⟩
def b_pairs_of : MS := (sRet (mLc2 false (mRng1 (mVar 0)) (Tgt.nm 1).M tYesM (mRng2 (mOp oAdd (mVar 1) (mC (.int 1))) (mVar 0)) (Tgt.nm 2).M tYesM (mAp oTup (mCons (mVar 1) (mCons (mVar 2) mNil))) [1, 2] [2]))
def m_pairs_of : MF := mDef 1 3 b_pairs_of
theorem e_pairs_of (x0 : D) (C : Store) : m_pairs_of [x0] C = finS C.length (b_pairs_of ⟨C.length, [some x0, none, none]⟩ C) := mDef_e rfl rfl
theorem ar_pairs_of : Ar 1 m_pairs_of := mDef_ar
theorem ok_pairs_of (T : Txt K mg) : ∃ fd, FnG P w K mg base 1 (a_pairs_of K) fd ["size"] (SpD (cn K) 1 m_pairs_of) ∧ Binds K fd ["size"] [] ∧ PySem.W.keepIn K (.ref (a_pairs_of K)) = true := by
  obtain ⟨fd, F⟩ := T.f_pairs_of
  refine ⟨fd, fn_ok (k := cn K) F sc_pairs_of (by decide) fun cdv A outer s H E hr => ?_, F.bindsN fun _ _ _ _ _ _ us hl => match us, hl with | [_], _ => rfl, F.kp⟩
  have tk : Takes (cxOf (L2.CX P w) P w K mg base ["size", "u", "v"] "pairs_of" (defScope s_pairs_of) (a_pairs_of K) cdv A outer s H E) (fun c d _ H => E c d H) := takes_of rfl rfl rfl rfl
  exact (dss_one (ds_ret (de_lc2 (own := [("u", 1), ("v", 2)]) (vs1 := [2]) false rfl rfl sc_pairs_of.nd (di_rng1 (by rfl) T.n_range (dv 0)) (blkOk_by (own := [("u", 1), ("v", 2)]) rfl) (by decide) (by decide) (by decide) (fun _ _ _ _ _ => (tg_nm (i := 1) sc_pairs_of.nd rfl (by first | exact Or.inl rfl | exact Or.inr rfl))) (fun _ _ _ _ _ => dts_nil) (fun _ _ _ _ _ => (di_rng2 (by rfl) T.n_range (de_op op_add d_add (dv 1) de_int) (dv 0))) (fun _ _ _ _ _ => (tg_nm (i := 2) sc_pairs_of.nd rfl (by first | exact Or.inl rfl | exact Or.inr rfl))) (fun _ _ _ _ _ => dts_nil) (fun _ _ _ _ _ => (de_tup (da_cons (dv 1) (da_cons (dv 2) da_nil)))))))
theorem sc_numbers : FnScope ["web", "u", "v"] ["web"] (defScope s_numbers) := ⟨rfl, rfl, rfl, by decide +kernel, rfl, by decide +kernel, by decide +kernel⟩
def b_numbers : MS := (sRet (mAp oTupOf (mCons (mLc false (mSeq (mCall m_pairs_of [] (mCons (mUn (oFld 0 0) (mVar 0)) mNil))) (Tgt.tp [1, 2]).M tYesM (mIxO 0 m_Web__getitem (mVar 0) (mAp oTup (mCons (mVar 1) (mCons (mVar 2) mNil)))) [1, 2]) mNil)))
def m_numbers : MF := mDef 1 3 b_numbers
theorem e_numbers (x0 : D) (C : Store) : m_numbers [x0] C = finS C.length (b_numbers ⟨C.length, [some x0, none, none]⟩ C) := mDef_e rfl rfl
theorem ar_numbers : Ar 1 m_numbers := mDef_ar
theorem ok_numbers (T : Txt K mg) : ∃ fd, FnG P w K mg base 3 (a_numbers K) fd ["web"] (SpD (cn K) 1 m_numbers) ∧ Binds K fd ["web"] [] ∧ PySem.W.keepIn K (.ref (a_numbers K)) = true := by
  obtain ⟨fd_pairs_of, F_pairs_of, B_pairs_of, kp_pairs_of⟩ := ok_pairs_of (P := P) (w := w) (base := base) T
  obtain ⟨fd_Web__getitem, F_Web__getitem, B_Web__getitem, kp_Web__getitem⟩ := ok_Web__getitem (P := P) (w := w) (base := base) T
  obtain ⟨fd, F⟩ := T.f_numbers
  refine ⟨fd, fn_ok (k := cn K) F sc_numbers (by decide) fun cdv A outer s H E hr => ?_, F.bindsN fun _ _ _ _ _ _ us hl => match us, hl with | [_], _ => rfl, F.kp⟩
  have tk : Takes (cxOf (L2.CX P w) P w K mg base ["web", "u", "v"] "numbers" (defScope s_numbers) (a_numbers K) cdv A outer s H E) (fun c d _ H => E c d H) := takes_of rfl rfl rfl rfl
  exact (dss_one (ds_ret (de_callTy call_tuple_of d_tupOf (by rfl) T.n_tuple (by decide +kernel) (da_cons (de_lc (own := [("u", 1), ("v", 2)]) false rfl rfl sc_numbers.nd (di_seq rfl (de_call tk F_pairs_of ar_pairs_of (hr.mono (by decide)) (by rfl) T.g_pairs_of kp_pairs_of B_pairs_of .nil (fun _ _ _ => .nil) (da_cons (de_fld 0 0 rfl T.cl_Web T.no_Web_size nd_Web rfl (dv 0)) da_nil))) (blkOk_by (own := [("u", 1), ("v", 2)]) rfl) (by decide) (fun _ _ _ _ _ => (tg_tp [1, 2] rfl rfl (pgs_cons (pg_name (i := 1) sc_numbers.nd rfl (by first | exact Or.inl rfl | exact Or.inr rfl)) (pgs_cons (pg_name (i := 2) sc_numbers.nd rfl (by first | exact Or.inl rfl | exact Or.inr rfl)) pgs_nil)))) (fun _ _ _ _ _ => dts_nil) (fun _ _ _ _ _ => (de_ixO 0 takes0 rfl (dv 0) (de_tup (da_cons (dv 1) (da_cons (dv 2) da_nil))) T.dn_Web__getitem.at_ T.dn_Web__getitem.fi T.dn_Web__getitem.fn F_Web__getitem ar_Web__getitem (hr.mono (by decide)) B_Web__getitem))) da_nil))))
theorem sc_check_light : FnScope ["web", "product", "number"] ["web"] (defScope s_check_light) := ⟨rfl, rfl, rfl, by decide +kernel, rfl, by decide +kernel, by decide +kernel⟩
def b_check_light_0 : MS := (sDrop (mCall m_check_size [] (mCons (mVar 0) mNil)))
def b_check_light_1 : MS := (sAsg (mC (.int 1)) (gN 1))
def b_check_light_2b_0 : MS := (sAugM 1 (mOp oAdd (mVar 2) (mC (.int 1))))
def b_check_light_2 : MS := (sFor (mSeq (mCall m_numbers [] (mCons (mVar 0) mNil))) (Tgt.nm 2).M b_check_light_2b_0)
def b_check_light_3 : MS := (sIf (mTst (mOp oGt (mVar 1) (mC (.int 1024)))) sNever sNext)
def b_check_light : MS := (sSeq b_check_light_0 (sSeq b_check_light_1 (sSeq b_check_light_2 b_check_light_3)))
def m_check_light : MF := mDef 1 3 b_check_light
theorem e_check_light (x0 : D) (C : Store) : m_check_light [x0] C = finS C.length (b_check_light ⟨C.length, [some x0, none, none]⟩ C) := mDef_e rfl rfl
theorem ar_check_light : Ar 1 m_check_light := mDef_ar
theorem ok_check_light (T : Txt K mg) : ∃ fd, FnG P w K mg base 4 (a_check_light K) fd ["web"] (SpD (cn K) 1 m_check_light) ∧ Binds K fd ["web"] [] ∧ PySem.W.keepIn K (.ref (a_check_light K)) = true := by
  obtain ⟨fd_check_size, F_check_size, B_check_size, kp_check_size⟩ := ok_check_size (P := P) (w := w) (base := base) T
  obtain ⟨fd_numbers, F_numbers, B_numbers, kp_numbers⟩ := ok_numbers (P := P) (w := w) (base := base) T
  obtain ⟨fd, F⟩ := T.f_check_light
  refine ⟨fd, fn_ok (k := cn K) F sc_check_light (by decide) fun cdv A outer s H E hr => ?_, F.bindsN fun _ _ _ _ _ _ us hl => match us, hl with | [_], _ => rfl, F.kp⟩
  have tk : Takes (cxOf (L2.CX P w) P w K mg base ["web", "product", "number"] "check_light" (defScope s_check_light) (a_check_light K) cdv A outer s H E) (fun c d _ H => E c d H) := takes_of rfl rfl rfl rfl
  exact (dss_cons (ds_expr (de_call tk F_check_size ar_check_size (hr.mono (by decide)) (by rfl) T.g_check_size kp_check_size B_check_size .nil (fun _ _ _ => .nil) (da_cons (dv 0) da_nil)))
  (dss_cons (ds_set (i := 1) sc_check_light.nd rfl (Or.inl rfl) de_int)
  (dss_cons (ds_for (passes_of rfl) rfl (di_seq rfl (de_call tk F_numbers ar_numbers (hr.mono (by decide)) (by rfl) T.g_numbers kp_numbers B_numbers .nil (fun _ _ _ => .nil) (da_cons (dv 0) da_nil))) (tg_nm (i := 2) sc_check_light.nd rfl (Or.inl rfl)) (dss_one (ds_augM (i := 1) sc_check_light.nd rfl (Or.inl rfl) (de_op op_add d_add (dv 2) de_int))))
  (dss_one (ds_if (dt_cmp op_gt d_gt (dv 1) de_int (nomark _)) (dss_one ds_never) dss_nil)))))
theorem sc_all_numbers : FnScope ["web", "found", "number", "some", "x"] ["web"] (defScope s_all_numbers) := ⟨rfl, rfl, rfl, by decide +kernel, rfl, by decide +kernel, by decide +kernel⟩
def b_all_numbers_0 : MS := (sAsg (mAp (oLst false) (mCons (mAp oTup mNil) mNil)) (gN 1))
def b_all_numbers_1b_0 : MS := (sAsg (mLc2 false (mSeq (mVar 1)) (Tgt.nm 3).M tYesM (mRng1 (mOp oAdd (mVar 2) (mC (.int 1)))) (Tgt.nm 4).M tYesM (mOp oCatT (mVar 3) (mAp oTup (mCons (mVar 4) mNil))) [3, 4] [4]) (gN 1))
def b_all_numbers_1 : MS := (sFor (mSeq (mCall m_numbers [] (mCons (mVar 0) mNil))) (Tgt.nm 2).M b_all_numbers_1b_0)
def b_all_numbers_2 : MS := (sRet (mVar 1))
def b_all_numbers : MS := (sSeq b_all_numbers_0 (sSeq b_all_numbers_1 b_all_numbers_2))
def m_all_numbers : MF := mDef 1 5 b_all_numbers
theorem e_all_numbers (x0 : D) (C : Store) : m_all_numbers [x0] C = finS C.length (b_all_numbers ⟨C.length, [some x0, none, none, none, none]⟩ C) := mDef_e rfl rfl
theorem ar_all_numbers : Ar 1 m_all_numbers := mDef_ar
theorem ok_all_numbers (T : Txt K mg) : ∃ fd, FnG P w K mg base 4 (a_all_numbers K) fd ["web"] (SpD (cn K) 1 m_all_numbers) ∧ Binds K fd ["web"] [] ∧ PySem.W.keepIn K (.ref (a_all_numbers K)) = true := by
  obtain ⟨fd_numbers, F_numbers, B_numbers, kp_numbers⟩ := ok_numbers (P := P) (w := w) (base := base) T
  obtain ⟨fd, F⟩ := T.f_all_numbers
  refine ⟨fd, fn_ok (k := cn K) F sc_all_numbers (by decide) fun cdv A outer s H E hr => ?_, F.bindsN fun _ _ _ _ _ _ us hl => match us, hl with | [_], _ => rfl, F.kp⟩
  have tk : Takes (cxOf (L2.CX P w) P w K mg base ["web", "found", "number", "some", "x"] "all_numbers" (defScope s_all_numbers) (a_all_numbers K) cdv A outer s H E) (fun c d _ H => E c d H) := takes_of rfl rfl rfl rfl
  exact (dss_cons (ds_set (i := 1) sc_all_numbers.nd rfl (Or.inl rfl) (de_lst false (da_cons (de_tup da_nil) da_nil)))
  (dss_cons (ds_for (passes_of rfl) rfl (di_seq rfl (de_call tk F_numbers ar_numbers (hr.mono (by decide)) (by rfl) T.g_numbers kp_numbers B_numbers .nil (fun _ _ _ => .nil) (da_cons (dv 0) da_nil))) (tg_nm (i := 2) sc_all_numbers.nd rfl (Or.inr rfl)) (dss_one (ds_setLc2 (i := 1) (own := [("some", 3), ("x", 4)]) (vs1 := [4]) false rfl rfl sc_all_numbers.nd rfl rfl (sw_true rfl rfl rfl (by decide +kernel)) (di_seq rfl (dv 1)) (blkOk_by (own := [("some", 3), ("x", 4)]) rfl) (by decide) (by decide) (by decide) (fun _ _ _ _ _ => (tg_nm (i := 3) sc_all_numbers.nd rfl (by first | exact Or.inl rfl | exact Or.inr rfl))) (fun _ _ _ _ _ => dts_nil) (fun _ _ _ _ _ => (di_rng1 (by rfl) T.n_range (de_op op_add d_add (dv 2) de_int))) (fun _ _ _ _ _ => (tg_nm (i := 4) sc_all_numbers.nd rfl (by first | exact Or.inl rfl | exact Or.inr rfl))) (fun _ _ _ _ _ => dts_nil) (fun _ _ _ _ _ => (de_op op_catA d_catT (dv 3) (de_tup (da_cons (dv 4) da_nil)))))))
  (dss_one (ds_ret (dv 1)))))
theorem sc_degrees_of : FnScope ["size", "some", "row", "u", "v", "number"] ["size", "some"] (defScope s_degrees_of) := ⟨rfl, rfl, rfl, by decide +kernel, rfl, by decide +kernel, by decide +kernel⟩
def b_degrees_of_0 : MS := (sAsg (mOp (oRep true) (mAp (oLst false) (mCons (mC (.int 0)) mNil)) (mVar 0)) (gN 2))
def b_degrees_of_1b_0 : MS := (sAugL (· + ·) (mVar 2) (mVar 3) (mVar 5))
def b_degrees_of_1b_1 : MS := (sAugL (· + ·) (mVar 2) (mVar 4) (mVar 5))
def b_degrees_of_1 : MS := (sFor (mZipX (mCons (mCall m_pairs_of [] (mCons (mVar 0) mNil)) (mCons (mVar 1) mNil))) (Tgt.np [3, 4] 5).M (sSeq b_degrees_of_1b_0 b_degrees_of_1b_1))
def b_degrees_of_2 : MS := (sRet (mAp oTupOf (mCons (mVar 2) mNil)))
def b_degrees_of : MS := (sSeq b_degrees_of_0 (sSeq b_degrees_of_1 b_degrees_of_2))
def m_degrees_of : MF := mDef 2 6 b_degrees_of
theorem e_degrees_of (x0 x1 : D) (C : Store) : m_degrees_of [x0, x1] C = finS C.length (b_degrees_of ⟨C.length, [some x0, some x1, none, none, none, none]⟩ C) := mDef_e rfl rfl
theorem ar_degrees_of : Ar 2 m_degrees_of := mDef_ar
theorem ok_degrees_of (T : Txt K mg) : ∃ fd, FnG P w K mg base 2 (a_degrees_of K) fd ["size", "some"] (SpD (cn K) 2 m_degrees_of) ∧ Binds K fd ["size", "some"] [] ∧ PySem.W.keepIn K (.ref (a_degrees_of K)) = true := by
  obtain ⟨fd_pairs_of, F_pairs_of, B_pairs_of, kp_pairs_of⟩ := ok_pairs_of (P := P) (w := w) (base := base) T
  obtain ⟨fd, F⟩ := T.f_degrees_of
  refine ⟨fd, fn_ok (k := cn K) F sc_degrees_of (by decide) fun cdv A outer s H E hr => ?_, F.bindsN fun _ _ _ _ _ _ us hl => match us, hl with | [_, _], _ => rfl, F.kp⟩
  have tk : Takes (cxOf (L2.CX P w) P w K mg base ["size", "some", "row", "u", "v", "number"] "degrees_of" (defScope s_degrees_of) (a_degrees_of K) cdv A outer s H E) (fun c d _ H => E c d H) := takes_of rfl rfl rfl rfl
  exact (dss_cons (ds_set (i := 2) sc_degrees_of.nd rfl (Or.inl rfl) (de_op op_rep (d_rep true) (de_lst false (da_cons de_int da_nil)) (dv 0)))
  (dss_cons (ds_for (passes_of rfl) rfl (di_zipX (by rfl) T.n_zip rfl (da_cons (de_call tk F_pairs_of ar_pairs_of (hr.mono (by decide)) (by rfl) T.g_pairs_of kp_pairs_of B_pairs_of .nil (fun _ _ _ => .nil) (da_cons (dv 0) da_nil)) (da_cons (dv 1) da_nil))) (tg_np [3, 4] rfl rfl (pgs_cons (pg_name (i := 3) sc_degrees_of.nd rfl (Or.inl rfl)) (pgs_cons (pg_name (i := 4) sc_degrees_of.nd rfl (Or.inl rfl)) pgs_nil)) (pg_name (i := 5) sc_degrees_of.nd rfl (Or.inl rfl))) (dss_cons (ds_augL ip_add (dv 2) (dv 3) (dv 5))
  (dss_one (ds_augL ip_add (dv 2) (dv 4) (dv 5)))))
  (dss_one (ds_ret (de_callTy call_tuple_of d_tupOf (by rfl) T.n_tuple (by decide +kernel) (da_cons (dv 2) da_nil))))))
theorem sc_row_counts : FnScope ["web", "counts", "some", "row"] ["web"] (defScope s_row_counts) := ⟨rfl, rfl, rfl, by decide +kernel, rfl, by decide +kernel, by decide +kernel⟩
def b_row_counts_0 : MS := (sDrop (mCall m_check_light [] (mCons (mVar 0) mNil)))
def b_row_counts_1 : MS := (sAsg (mDNew true) (gN 1))
def b_row_counts_2b_0 : MS := (sAsg (mCall m_degrees_of [] (mCons (mUn (oFld 0 0) (mVar 0)) (mCons (mVar 2) mNil))) (gN 3))
def b_row_counts_2b_1 : MS := (sPut (mOp oAdd (mDGet (mVar 1) (mVar 3) (mC (.int 0))) (mC (.int 1))) (mVar 1) (mVar 3))
def b_row_counts_2 : MS := (sFor (mSeq (mCall m_all_numbers [] (mCons (mVar 0) mNil))) (Tgt.nm 2).M (sSeq b_row_counts_2b_0 b_row_counts_2b_1))
def b_row_counts_3 : MS := (sRet (mVar 1))
def b_row_counts : MS := (sSeq b_row_counts_0 (sSeq b_row_counts_1 (sSeq b_row_counts_2 b_row_counts_3)))
def m_row_counts : MF := mDef 1 4 b_row_counts
theorem e_row_counts (x0 : D) (C : Store) : m_row_counts [x0] C = finS C.length (b_row_counts ⟨C.length, [some x0, none, none, none]⟩ C) := mDef_e rfl rfl
theorem ar_row_counts : Ar 1 m_row_counts := mDef_ar
theorem ok_row_counts (T : Txt K mg) : ∃ fd, FnG P w K mg base 5 (a_row_counts K) fd ["web"] (SpD (cn K) 1 m_row_counts) ∧ Binds K fd ["web"] [] ∧ PySem.W.keepIn K (.ref (a_row_counts K)) = true := by
  obtain ⟨fd_check_light, F_check_light, B_check_light, kp_check_light⟩ := ok_check_light (P := P) (w := w) (base := base) T
  obtain ⟨fd_all_numbers, F_all_numbers, B_all_numbers, kp_all_numbers⟩ := ok_all_numbers (P := P) (w := w) (base := base) T
  obtain ⟨fd_degrees_of, F_degrees_of, B_degrees_of, kp_degrees_of⟩ := ok_degrees_of (P := P) (w := w) (base := base) T
  obtain ⟨fd, F⟩ := T.f_row_counts
  refine ⟨fd, fn_ok (k := cn K) F sc_row_counts (by decide) fun cdv A outer s H E hr => ?_, F.bindsN fun _ _ _ _ _ _ us hl => match us, hl with | [_], _ => rfl, F.kp⟩
  have tk : Takes (cxOf (L2.CX P w) P w K mg base ["web", "counts", "some", "row"] "row_counts" (defScope s_row_counts) (a_row_counts K) cdv A outer s H E) (fun c d _ H => E c d H) := takes_of rfl rfl rfl rfl
  exact (dss_cons (ds_expr (de_call tk F_check_light ar_check_light (hr.mono (by decide)) (by rfl) T.g_check_light kp_check_light B_check_light .nil (fun _ _ _ => .nil) (da_cons (dv 0) da_nil)))
  (dss_cons (ds_set (i := 1) sc_row_counts.nd rfl (Or.inl rfl) (de_dnew true))
  (dss_cons (ds_for (passes_of rfl) rfl (di_seq rfl (de_call tk F_all_numbers ar_all_numbers (hr.mono (by decide)) (by rfl) T.g_all_numbers kp_all_numbers B_all_numbers .nil (fun _ _ _ => .nil) (da_cons (dv 0) da_nil))) (tg_nm (i := 2) sc_row_counts.nd rfl (Or.inl rfl)) (dss_cons (ds_set (i := 3) sc_row_counts.nd rfl (Or.inl rfl) (de_call tk F_degrees_of ar_degrees_of (hr.mono (by decide)) (by rfl) T.g_degrees_of kp_degrees_of B_degrees_of .nil (fun _ _ _ => .nil) (da_cons (de_fld 0 0 rfl T.cl_Web T.no_Web_size nd_Web rfl (dv 0)) (da_cons (dv 2) da_nil))))
  (dss_one (ds_put (hu_of hr.room) (de_op op_add d_add (de_dget (hu_of hr.room) (dv 1) (dv 3) de_int) de_int) (dv 1) (dv 3)))))
  (dss_one (ds_ret (dv 1))))))
theorem sc_granted_rows : FnScope ["web"] ["web"] (defScope s_granted_rows) := ⟨rfl, rfl, rfl, by decide +kernel, rfl, by decide +kernel, by decide +kernel⟩
def b_granted_rows : MS := (sRet (mAp (oSortE false) (mCons (mCall m_row_counts [] (mCons (mVar 0) mNil)) mNil)))
def m_granted_rows : MF := mDef 1 1 b_granted_rows
theorem e_granted_rows (x0 : D) (C : Store) : m_granted_rows [x0] C = finS C.length (b_granted_rows ⟨C.length, [some x0]⟩ C) := mDef_e rfl rfl
theorem ar_granted_rows : Ar 1 m_granted_rows := mDef_ar
theorem ok_granted_rows (T : Txt K mg) : ∃ fd, FnG P w K mg base 6 (a_granted_rows K) fd ["web"] (SpD (cn K) 1 m_granted_rows) ∧ Binds K fd ["web"] [] ∧ PySem.W.keepIn K (.ref (a_granted_rows K)) = true := by
  obtain ⟨fd_row_counts, F_row_counts, B_row_counts, kp_row_counts⟩ := ok_row_counts (P := P) (w := w) (base := base) T
  obtain ⟨fd, F⟩ := T.f_granted_rows
  refine ⟨fd, fn_ok (k := cn K) F sc_granted_rows (by decide) fun cdv A outer s H E hr => ?_, F.bindsN fun _ _ _ _ _ _ us hl => match us, hl with | [_], _ => rfl, F.kp⟩
  have tk : Takes (cxOf (L2.CX P w) P w K mg base ["web"] "granted_rows" (defScope s_granted_rows) (a_granted_rows K) cdv A outer s H E) (fun c d _ H => E c d H) := takes_of rfl rfl rfl rfl
  exact (dss_one (ds_ret (de_callB ((cr_sortT rfl hr.u200).or (cr_sort1 rfl hr.u200)) d_sortE (by rfl) T.n_sorted (by decide +kernel) (da_cons (de_call tk F_row_counts ar_row_counts (hr.mono (by decide)) (by rfl) T.g_row_counts kp_row_counts B_row_counts .nil (fun _ _ _ => .nil) (da_cons (dv 0) da_nil)) da_nil))))
theorem sc_moved_by : FnScope ["row", "steps", "found", "place", "sign"] ["row", "steps"] (defScope s_moved_by) := ⟨rfl, rfl, rfl, by decide +kernel, rfl, by decide +kernel, by decide +kernel⟩
def b_moved_by_0 : MS := (sAsg (mAp (oListOf true) (mCons (mVar 0) mNil)) (gN 2))
def b_moved_by_1b_0 : MS := (sAugL (· + ·) (mVar 2) (mVar 3) (mVar 4))
def b_moved_by_1 : MS := (sFor (mSeq (mVar 1)) (Tgt.tp [3, 4]).M b_moved_by_1b_0)
def b_moved_by_2 : MS := (sRet (mAp oTupOf (mCons (mVar 2) mNil)))
def b_moved_by : MS := (sSeq b_moved_by_0 (sSeq b_moved_by_1 b_moved_by_2))
def m_moved_by : MF := mDef 2 5 b_moved_by
theorem e_moved_by (x0 x1 : D) (C : Store) : m_moved_by [x0, x1] C = finS C.length (b_moved_by ⟨C.length, [some x0, some x1, none, none, none]⟩ C) := mDef_e rfl rfl
theorem ar_moved_by : Ar 2 m_moved_by := mDef_ar
theorem ok_moved_by (T : Txt K mg) : ∃ fd, FnG P w K mg base 1 (a_moved_by K) fd ["row", "steps"] (SpD (cn K) 2 m_moved_by) ∧ Binds K fd ["row", "steps"] [] ∧ PySem.W.keepIn K (.ref (a_moved_by K)) = true := by
  obtain ⟨fd, F⟩ := T.f_moved_by
  refine ⟨fd, fn_ok (k := cn K) F sc_moved_by (by decide) fun cdv A outer s H E hr => ?_, F.bindsN fun _ _ _ _ _ _ us hl => match us, hl with | [_, _], _ => rfl, F.kp⟩
  have tk : Takes (cxOf (L2.CX P w) P w K mg base ["row", "steps", "found", "place", "sign"] "moved_by" (defScope s_moved_by) (a_moved_by K) cdv A outer s H E) (fun c d _ H => E c d H) := takes_of rfl rfl rfl rfl
  exact (dss_cons (ds_set (i := 2) sc_moved_by.nd rfl (Or.inl rfl) (de_callTy call_list_of (d_listOf true) (by rfl) T.n_list (by decide +kernel) (da_cons (dv 0) da_nil)))
  (dss_cons (ds_for (passes_of rfl) rfl (di_seq rfl (dv 1)) (tg_tp [3, 4] rfl rfl (pgs_cons (pg_name (i := 3) sc_moved_by.nd rfl (Or.inl rfl)) (pgs_cons (pg_name (i := 4) sc_moved_by.nd rfl (Or.inl rfl)) pgs_nil))) (dss_one (ds_augL ip_add (dv 2) (dv 3) (dv 4))))
  (dss_one (ds_ret (de_callTy call_tuple_of d_tupOf (by rfl) T.n_tuple (by decide +kernel) (da_cons (dv 2) da_nil))))))
theorem sc_opposite : FnScope ["step"] ["step"] (defScope s_opposite) := ⟨rfl, rfl, rfl, by decide +kernel, rfl, by decide +kernel, by decide +kernel⟩
def b_opposite : MS := (sRet (mAp oTup (mCons (mOp oIx (mVar 0) (mC (.int 0))) (mCons (mUn oNeg (mOp oIx (mVar 0) (mC (.int 1)))) mNil))))
def m_opposite : MF := mDef 1 1 b_opposite
theorem e_opposite (x0 : D) (C : Store) : m_opposite [x0] C = finS C.length (b_opposite ⟨C.length, [some x0]⟩ C) := mDef_e rfl rfl
theorem ar_opposite : Ar 1 m_opposite := mDef_ar
theorem ok_opposite (T : Txt K mg) : ∃ fd, FnG P w K mg base 1 (a_opposite K) fd ["step"] (SpD (cn K) 1 m_opposite) ∧ Binds K fd ["step"] [] ∧ PySem.W.keepIn K (.ref (a_opposite K)) = true := by
  obtain ⟨fd, F⟩ := T.f_opposite
  refine ⟨fd, fn_ok (k := cn K) F sc_opposite (by decide) fun cdv A outer s H E hr => ?_, F.bindsN fun _ _ _ _ _ _ us hl => match us, hl with | [_], _ => rfl, F.kp⟩
  have tk : Takes (cxOf (L2.CX P w) P w K mg base ["step"] "opposite" (defScope s_opposite) (a_opposite K) cdv A outer s H E) (fun c d _ H => E c d H) := takes_of rfl rfl rfl rfl
  exact (dss_one (ds_ret (de_tup (da_cons (de_ix ix_seq d_ix (dv 0) de_int) (da_cons (de_un un_neg d_neg (de_ix ix_seq d_ix (dv 0) de_int)) da_nil)))))
theorem sc_steps_towards : FnScope ["one", "other", "found", "place", "x"] ["one", "other"] (defScope s_steps_towards) := ⟨rfl, rfl, rfl, by decide +kernel, rfl, by decide +kernel, by decide +kernel⟩
def b_steps_towards_0 : MS := (sAsg (mAp (oLst true) mNil) (gN 2))
def b_steps_towards_1b_0 : MS := (sIf (mTst (mOp (oEqA true) (mVar 4) (mOp oIx (mVar 1) (mVar 3)))) (sDrop (mAppend (mVar 2) (mAp oTup (mCons (mVar 3) (mCons (mIf (mTst (mOp oLt (mVar 4) (mOp oIx (mVar 1) (mVar 3)))) (mC (.int 1)) (mUn oNeg (mC (.int 1)))) mNil))))) sNext)
def b_steps_towards_1 : MS := (sFor (mEnum (mVar 0)) (Tgt.tp [3, 4]).M b_steps_towards_1b_0)
def b_steps_towards_2 : MS := (sRet (mVar 2))
def b_steps_towards : MS := (sSeq b_steps_towards_0 (sSeq b_steps_towards_1 b_steps_towards_2))
def m_steps_towards : MF := mDef 2 5 b_steps_towards
theorem e_steps_towards (x0 x1 : D) (C : Store) : m_steps_towards [x0, x1] C = finS C.length (b_steps_towards ⟨C.length, [some x0, some x1, none, none, none]⟩ C) := mDef_e rfl rfl
theorem ar_steps_towards : Ar 2 m_steps_towards := mDef_ar
theorem ok_steps_towards (T : Txt K mg) : ∃ fd, FnG P w K mg base 1 (a_steps_towards K) fd ["one", "other"] (SpD (cn K) 2 m_steps_towards) ∧ Binds K fd ["one", "other"] [] ∧ PySem.W.keepIn K (.ref (a_steps_towards K)) = true := by
  obtain ⟨fd, F⟩ := T.f_steps_towards
  refine ⟨fd, fn_ok (k := cn K) F sc_steps_towards (by decide) fun cdv A outer s H E hr => ?_, F.bindsN fun _ _ _ _ _ _ us hl => match us, hl with | [_, _], _ => rfl, F.kp⟩
  have tk : Takes (cxOf (L2.CX P w) P w K mg base ["one", "other", "found", "place", "x"] "steps_towards" (defScope s_steps_towards) (a_steps_towards K) cdv A outer s H E) (fun c d _ H => E c d H) := takes_of rfl rfl rfl rfl
  exact (dss_cons (ds_set (i := 2) sc_steps_towards.nd rfl (Or.inl rfl) (de_lst true da_nil))
  (dss_cons (ds_for (passes_of rfl) rfl (di_enum (by rfl) T.n_enumerate rfl (dv 0)) (tg_tp [3, 4] rfl rfl (pgs_cons (pg_name (i := 3) sc_steps_towards.nd rfl (Or.inl rfl)) (pgs_cons (pg_name (i := 4) sc_steps_towards.nd rfl (Or.inl rfl)) pgs_nil))) (dss_one (ds_if (dt_cmp (op_ne.or (op_neD hr.room.units)) d_neA (dv 4) (de_ix ix_seq d_ix (dv 1) (dv 3)) (nomark _)) (dss_one (ds_expr (de_append rfl (dv 2) (de_tup (da_cons (dv 3) (da_cons (de_if (dt_cmp op_lt d_lt (dv 4) (de_ix ix_seq d_ix (dv 1) (dv 3)) (nomark _)) de_int (de_un un_neg d_neg de_int)) da_nil)))))) dss_nil)))
  (dss_one (ds_ret (dv 2)))))
theorem sc_second_steps : FnScope ["web", "one", "other", "step", "rows", "first", "back", "found", "second"] ["web", "one", "other", "step"] (defScope s_second_steps) := ⟨rfl, rfl, rfl, by decide +kernel, rfl, by decide +kernel, by decide +kernel⟩
def b_second_steps_0 : MS := (sAsg (mCall m_row_counts [] (mCons (mVar 0) mNil)) (gN 4))
def b_second_steps_1 : MS := (sPar [5, 6] (mCons (mCall m_moved_by [] (mCons (mVar 1) (mCons (mAp (oLst false) (mCons (mVar 3) mNil)) mNil))) (mCons (mCall m_moved_by [] (mCons (mVar 2) (mCons (mAp (oLst false) (mCons (mCall m_opposite [] (mCons (mVar 3) mNil)) mNil)) mNil))) mNil)))
def b_second_steps_2 : MS := (sAsg (mAp (oLst true) mNil) (gN 7))
def b_second_steps_3b_0 : MS := (sIf (tAndM (mTst (mOp (oDIn false) (mCall m_moved_by [] (mCons (mVar 5) (mCons (mAp (oLst false) (mCons (mVar 8) mNil)) mNil))) (mVar 4))) (mTst (mOp (oDIn false) (mCall m_moved_by [] (mCons (mVar 6) (mCons (mAp (oLst false) (mCons (mCall m_opposite [] (mCons (mVar 8) mNil)) mNil)) mNil))) (mVar 4)))) (sDrop (mAppend (mVar 7) (mVar 8))) sNext)
def b_second_steps_3 : MS := (sFor (mSeq (mCall m_steps_towards [] (mCons (mVar 5) (mCons (mVar 2) mNil)))) (Tgt.nm 8).M b_second_steps_3b_0)
def b_second_steps_4 : MS := (sRet (mVar 7))
def b_second_steps : MS := (sSeq b_second_steps_0 (sSeq b_second_steps_1 (sSeq b_second_steps_2 (sSeq b_second_steps_3 b_second_steps_4))))
def m_second_steps : MF := mDefO 4 9 b_second_steps
theorem e_second_steps (x0 x1 x2 x3 : D) (C : Store) : m_second_steps [x0, x1, x2, x3] C = finOS C.length (b_second_steps ⟨C.length, [some x0, some x1, some x2, some x3, none, none, none, none, none]⟩ C) := mDefO_e rfl rfl
theorem ar_second_steps : Ar 4 m_second_steps := mDefO_ar
theorem ok_second_steps (T : Txt K mg) : ∃ fd, FnG P w K mg base 6 (a_second_steps K) fd ["web", "one", "other", "step"] (SpD (cn K) 4 m_second_steps) ∧ Binds K fd ["web", "one", "other", "step"] [] ∧ PySem.W.keepIn K (.ref (a_second_steps K)) = true := by
  obtain ⟨fd_row_counts, F_row_counts, B_row_counts, kp_row_counts⟩ := ok_row_counts (P := P) (w := w) (base := base) T
  obtain ⟨fd_moved_by, F_moved_by, B_moved_by, kp_moved_by⟩ := ok_moved_by (P := P) (w := w) (base := base) T
  obtain ⟨fd_opposite, F_opposite, B_opposite, kp_opposite⟩ := ok_opposite (P := P) (w := w) (base := base) T
  obtain ⟨fd_steps_towards, F_steps_towards, B_steps_towards, kp_steps_towards⟩ := ok_steps_towards (P := P) (w := w) (base := base) T
  obtain ⟨fd, F⟩ := T.f_second_steps
  refine ⟨fd, fn_okO (k := cn K) F sc_second_steps (by decide) fun cdv A outer s H E hr => ?_, F.bindsN fun _ _ _ _ _ _ us hl => match us, hl with | [_, _, _, _], _ => rfl, F.kp⟩
  have tk : Takes (cxOf (L2.CX P w) P w K mg base ["web", "one", "other", "step", "rows", "first", "back", "found", "second"] "second_steps" (defScope s_second_steps) (a_second_steps K) cdv A outer s H E) (fun c d _ H => E c d H) := takes_of rfl rfl rfl rfl
  exact (dss_cons (ds_set (i := 4) sc_second_steps.nd rfl (Or.inl rfl) (de_call tk F_row_counts ar_row_counts (hr.mono (by decide)) (by rfl) T.g_row_counts kp_row_counts B_row_counts .nil (fun _ _ _ => .nil) (da_cons (dv 0) da_nil)))
  (dss_cons (ds_par (i := 5) (j := 6) rfl sc_second_steps.nd rfl rfl (by decide) rfl rfl (da_cons (de_call tk F_moved_by ar_moved_by (hr.mono (by decide)) (by rfl) T.g_moved_by kp_moved_by B_moved_by .nil (fun _ _ _ => .nil) (da_cons (dv 1) (da_cons (de_lst false (da_cons (dv 3) da_nil)) da_nil))) (da_cons (de_call tk F_moved_by ar_moved_by (hr.mono (by decide)) (by rfl) T.g_moved_by kp_moved_by B_moved_by .nil (fun _ _ _ => .nil) (da_cons (dv 2) (da_cons (de_lst false (da_cons (de_call tk F_opposite ar_opposite (hr.mono (by decide)) (by rfl) T.g_opposite kp_opposite B_opposite .nil (fun _ _ _ => .nil) (da_cons (dv 3) da_nil)) da_nil)) da_nil))) da_nil)))
  (dss_cons (ds_set (i := 7) sc_second_steps.nd rfl (Or.inl rfl) (de_lst true da_nil))
  (dss_cons (ds_for (passes_of rfl) rfl (di_seq rfl (de_call tk F_steps_towards ar_steps_towards (hr.mono (by decide)) (by rfl) T.g_steps_towards kp_steps_towards B_steps_towards .nil (fun _ _ _ => .nil) (da_cons (dv 5) (da_cons (dv 2) da_nil)))) (tg_nm (i := 8) sc_second_steps.nd rfl (Or.inl rfl)) (dss_one (ds_if (PW.pt (dw_and (dt_din (hu_of hr.room) (de_call tk F_moved_by ar_moved_by (hr.mono (by decide)) (by rfl) T.g_moved_by kp_moved_by B_moved_by .nil (fun _ _ _ => .nil) (da_cons (dv 5) (da_cons (de_lst false (da_cons (dv 8) da_nil)) da_nil))) (dv 4)) (dw_and1 (dt_din (hu_of hr.room) (de_call tk F_moved_by ar_moved_by (hr.mono (by decide)) (by rfl) T.g_moved_by kp_moved_by B_moved_by .nil (fun _ _ _ => .nil) (da_cons (dv 6) (da_cons (de_lst false (da_cons (de_call tk F_opposite ar_opposite (hr.mono (by decide)) (by rfl) T.g_opposite kp_opposite B_opposite .nil (fun _ _ _ => .nil) (da_cons (dv 8) da_nil)) da_nil)) da_nil))) (dv 4))))) (dss_one (ds_expr (de_append rfl (dv 7) (dv 8)))) dss_nil)))
  (dss_one (ds_ret (dv 7)))))))
theorem sc_displeasure : FnScope ["tables", "row", "table", "x"] ["tables", "row"] (defScope s_displeasure) := ⟨rfl, rfl, rfl, by decide +kernel, rfl, by decide +kernel, by decide +kernel⟩
def b_displeasure : MS := (sRet (mAp oSum (mCons (mLc false (mZipX (mCons (mVar 0) (mCons (mVar 1) mNil))) (Tgt.tp [2, 3]).M tYesM (mOp oIx (mVar 2) (mVar 3)) [2, 3]) mNil)))
def m_displeasure : MF := mDef 2 4 b_displeasure
theorem e_displeasure (x0 x1 : D) (C : Store) : m_displeasure [x0, x1] C = finS C.length (b_displeasure ⟨C.length, [some x0, some x1, none, none]⟩ C) := mDef_e rfl rfl
theorem ar_displeasure : Ar 2 m_displeasure := mDef_ar
theorem ok_displeasure (T : Txt K mg) : ∃ fd, FnG P w K mg base 1 (a_displeasure K) fd ["tables", "row"] (SpD (cn K) 2 m_displeasure) ∧ Binds K fd ["tables", "row"] [] ∧ PySem.W.keepIn K (.ref (a_displeasure K)) = true := by
  obtain ⟨fd, F⟩ := T.f_displeasure
  refine ⟨fd, fn_ok (k := cn K) F sc_displeasure (by decide) fun cdv A outer s H E hr => ?_, F.bindsN fun _ _ _ _ _ _ us hl => match us, hl with | [_, _], _ => rfl, F.kp⟩
  have tk : Takes (cxOf (L2.CX P w) P w K mg base ["tables", "row", "table", "x"] "displeasure" (defScope s_displeasure) (a_displeasure K) cdv A outer s H E) (fun c d _ H => E c d H) := takes_of rfl rfl rfl rfl
  exact (dss_one (ds_ret (de_callB (cr_sum rfl) d_sum (by rfl) T.n_sum (by decide +kernel) (da_cons (de_lc (own := [("table", 2), ("x", 3)]) false rfl rfl sc_displeasure.nd (di_zipX (by rfl) T.n_zip rfl (da_cons (dv 0) (da_cons (dv 1) da_nil))) (blkOk_by (own := [("table", 2), ("x", 3)]) rfl) (by decide) (fun _ _ _ _ _ => (tg_tp [2, 3] rfl rfl (pgs_cons (pg_name (i := 2) sc_displeasure.nd rfl (by first | exact Or.inl rfl | exact Or.inr rfl)) (pgs_cons (pg_name (i := 3) sc_displeasure.nd rfl (by first | exact Or.inl rfl | exact Or.inr rfl)) pgs_nil)))) (fun _ _ _ _ _ => dts_nil) (fun _ _ _ _ _ => (de_ix ix_seq d_ix (dv 2) (dv 3)))) da_nil))))
theorem sc_best_rows : FnScope ["web", "tables", "rows", "least", "row"] ["web", "tables"] (defScope s_best_rows) := ⟨rfl, rfl, rfl, by decide +kernel, rfl, by decide +kernel, by decide +kernel⟩
def b_best_rows_0 : MS := (sAsg (mCall m_granted_rows [] (mCons (mVar 0) mNil)) (gN 2))
def b_best_rows_1 : MS := (sAsg (mAp (oMn1 min) (mCons (mLc false (mSeq (mVar 2)) (Tgt.nm 4).M tYesM (mCall m_displeasure [] (mCons (mVar 1) (mCons (mVar 4) mNil))) [4]) mNil)) (gN 3))
def b_best_rows_2 : MS := (sRet (mLc true (mSeq (mVar 2)) (Tgt.nm 4).M (mTst (mOp (oEqA false) (mCall m_displeasure [] (mCons (mVar 1) (mCons (mVar 4) mNil))) (mVar 3))) (mVar 4) [4]))
def b_best_rows : MS := (sSeq b_best_rows_0 (sSeq b_best_rows_1 b_best_rows_2))
def m_best_rows : MF := mDefO 2 5 b_best_rows
theorem e_best_rows (x0 x1 : D) (C : Store) : m_best_rows [x0, x1] C = finOS C.length (b_best_rows ⟨C.length, [some x0, some x1, none, none, none]⟩ C) := mDefO_e rfl rfl
theorem ar_best_rows : Ar 2 m_best_rows := mDefO_ar
theorem ok_best_rows (T : Txt K mg) : ∃ fd, FnG P w K mg base 7 (a_best_rows K) fd ["web", "tables"] (SpD (cn K) 2 m_best_rows) ∧ Binds K fd ["web", "tables"] [] ∧ PySem.W.keepIn K (.ref (a_best_rows K)) = true := by
  obtain ⟨fd_granted_rows, F_granted_rows, B_granted_rows, kp_granted_rows⟩ := ok_granted_rows (P := P) (w := w) (base := base) T
  obtain ⟨fd_displeasure, F_displeasure, B_displeasure, kp_displeasure⟩ := ok_displeasure (P := P) (w := w) (base := base) T
  obtain ⟨fd, F⟩ := T.f_best_rows
  refine ⟨fd, fn_okO (k := cn K) F sc_best_rows (by decide) fun cdv A outer s H E hr => ?_, F.bindsN fun _ _ _ _ _ _ us hl => match us, hl with | [_, _], _ => rfl, F.kp⟩
  have tk : Takes (cxOf (L2.CX P w) P w K mg base ["web", "tables", "rows", "least", "row"] "best_rows" (defScope s_best_rows) (a_best_rows K) cdv A outer s H E) (fun c d _ H => E c d H) := takes_of rfl rfl rfl rfl
  exact (dss_cons (ds_set (i := 2) sc_best_rows.nd rfl (Or.inl rfl) (de_call tk F_granted_rows ar_granted_rows (hr.mono (by decide)) (by rfl) T.g_granted_rows kp_granted_rows B_granted_rows .nil (fun _ _ _ => .nil) (da_cons (dv 0) da_nil)))
  (dss_cons (ds_set (i := 3) sc_best_rows.nd rfl (Or.inr rfl) (de_callB (cr_min1 hr.room.hd hr.u200) (d_mn1 min) (by rfl) T.n_min (by decide +kernel) (da_cons (de_lc (own := [("row", 4)]) false rfl rfl sc_best_rows.nd (di_seq rfl (dv 2)) (blkOk_by (own := [("row", 4)]) rfl) (by decide) (fun _ _ _ _ _ => (tg_nm (i := 4) sc_best_rows.nd rfl (by first | exact Or.inl rfl | exact Or.inr rfl))) (fun _ _ _ _ _ => dts_nil) (fun _ _ _ _ _ => (de_call takes0 F_displeasure ar_displeasure (hr.mono (by decide)) (by rfl) T.g_displeasure kp_displeasure B_displeasure .nil (fun _ _ _ => .nil) (da_cons (dv 1) (da_cons (dv 4) da_nil))))) da_nil)))
  (dss_one (ds_ret (de_lc (own := [("row", 4)]) true rfl rfl sc_best_rows.nd (di_seq rfl (dv 2)) (blkOk_by (own := [("row", 4)]) rfl) (by decide) (fun _ _ _ _ _ => (tg_nm (i := 4) sc_best_rows.nd rfl (by first | exact Or.inl rfl | exact Or.inr rfl))) (fun _ _ _ _ _ => (pts_one (dt_cmp (op_eq.or (op_eqD hr.room.units)) d_eqA (de_call takes0 F_displeasure ar_displeasure (hr.mono (by decide)) (by rfl) T.g_displeasure kp_displeasure B_displeasure .nil (fun _ _ _ => .nil) (da_cons (dv 1) (da_cons (dv 4) da_nil))) (dv 3) (nomark _)))) (fun _ _ _ _ _ => (dv 4)))))))
theorem sc_law_bag : FnScope ["_law_script", "_law_cell"] ["_law_script"] (defScope s_law_bag) := ⟨rfl, rfl, rfl, by decide +kernel, rfl, by decide +kernel, by decide +kernel⟩
def b_law_bag : MS := (sRet (mAp (oLst true) (mCons (mC (.int 0)) (mCons (mC (.int 1234567891)) (mCons (mC (.int 0)) (mCons (mLc false (mSeq (mSlL false (mVar 0) mNoPart (mPart (mC (.int 63))))) (Tgt.nm 1).M tYesM (mAp oAbs (mCons (mVar 1) mNil)) [1]) mNil))))))
def m_law_bag : MF := mDefO 1 2 b_law_bag
theorem ar_law_bag : Ar 1 m_law_bag := mDefO_ar
theorem ok_law_bag (T : Txt K mg) : ∃ fd, FnG P w K mg base 1 (a_law_bag K) fd ["_law_script"] (SpD (cn K) 1 m_law_bag) ∧ Binds K fd ["_law_script"] [] ∧ PySem.W.keepIn K (.ref (a_law_bag K)) = true := by
  obtain ⟨fd, F⟩ := T.f_law_bag
  refine ⟨fd, fn_okO (k := cn K) F sc_law_bag (by decide) fun cdv A outer s H E hr => ?_, F.bindsN fun _ _ _ _ _ _ us hl => match us, hl with | [_], _ => rfl, F.kp⟩
  have tk : Takes (cxOf (L2.CX P w) P w K mg base ["_law_script", "_law_cell"] "_law_bag" (defScope s_law_bag) (a_law_bag K) cdv A outer s H E) (fun c d _ H => E c d H) := takes_of rfl rfl rfl rfl
  exact (dss_one (ds_ret (de_lst true (da_cons de_int (da_cons de_int (da_cons de_int (da_cons (de_lc (own := [("_law_cell", 1)]) false rfl rfl sc_law_bag.nd (di_seq rfl (de_slL false rfl (dv 0) do_none (do_some de_int))) (blkOk_by (own := [("_law_cell", 1)]) rfl) (by decide) (fun _ _ _ _ _ => (tg_nm (i := 1) sc_law_bag.nd rfl (by first | exact Or.inl rfl | exact Or.inr rfl))) (fun _ _ _ _ _ => dts_nil) (fun _ _ _ _ _ => (de_callB call_abs d_abs (by rfl) T.n_abs (by decide +kernel) (da_cons (dv 1) da_nil)))) da_nil)))))))
theorem sc_law_take : FnScope ["_law_bag_here", "_law_many", "_law_cell", "_law_mixed_here", "_law_drawn", "_law_early", "_law_second"] ["_law_bag_here", "_law_many"] (defScope s_law_take) := ⟨rfl, rfl, rfl, by decide +kernel, rfl, by decide +kernel, by decide +kernel⟩
def b_law_take_0t_0 : MS := (sAsg (mC (.int 0)) (gN 2))
def b_law_take_0t_1 : MS := (sIf (mTst (mOp oLt (mOp oIx (mVar 0) (mC (.int 2))) (mAp oLen (mCons (mOp oIx (mVar 0) (mC (.int 3))) mNil)))) (sAsg (mOp oIx (mOp oIx (mVar 0) (mC (.int 3))) (mOp oIx (mVar 0) (mC (.int 2)))) (gN 2)) sNext)
def b_law_take_0t_2 : MS := (sAugL (· + ·) (mVar 0) (mC (.int 2)) (mC (.int 1)))
def b_law_take_0t_3 : MS := (sIf (mTst (mOp oGe (mVar 2) (mC (.int 1000000000000000000)))) (sSetL (mVar 2) (mVar 0) (mC (.int 0))) sNext)
def b_law_take_0t_4 : MS := (sAsg (mOp oAdd (mOp oAdd (mOp oMul (mOp oIx (mVar 0) (mC (.int 1))) (mC (.int 48271))) (mOp oMod (mAp oInt (mCons (mVar 2) mNil)) (mC (.int 2147483647)))) (mOp oMul (mC (.int 7919)) (mOp oIx (mVar 0) (mC (.int 2))))) (gN 3))
def b_law_take_0t_5 : MS := (sSetL (mOp oMod (mAp oInt (mCons (mVar 3) mNil)) (mC (.int 2147483647))) (mVar 0) (mC (.int 1)))
def b_law_take_0 : MS := (sIf (mTst (mOp (oEqA false) (mOp oIx (mVar 0) (mC (.int 0))) (mC (.int 0)))) (sSeq b_law_take_0t_0 (sSeq b_law_take_0t_1 (sSeq b_law_take_0t_2 (sSeq b_law_take_0t_3 (sSeq b_law_take_0t_4 b_law_take_0t_5))))) sNext)
def b_law_take_1t_0 : MS := (sAsg (mOp oMod (mAp oInt (mCons (mOp oIx (mVar 0) (mC (.int 0))) mNil)) (mVar 1)) (gN 4))
def b_law_take_1t_1 : MS := (sSetL (mOp oDiv (mAp oInt (mCons (mOp oIx (mVar 0) (mC (.int 0))) mNil)) (mVar 1)) (mVar 0) (mC (.int 0)))
def b_law_take_1t_2 : MS := (sRet (mVar 4))
def b_law_take_1 : MS := (sIf (mTst (mOp oGt (mOp oIx (mVar 0) (mC (.int 0))) (mC (.int 0)))) (sSeq b_law_take_1t_0 (sSeq b_law_take_1t_1 b_law_take_1t_2)) sNext)
def b_law_take_2 : MS := (sAsg (mOp oMod (mAp oInt (mCons (mOp oMul (mOp oAdd (mOp oIx (mVar 0) (mC (.int 1))) (mC (.int 1))) (mC (.int 39373))) mNil)) (mC (.int 1000000007))) (gN 5))
def b_law_take_3 : MS := (sAsg (mOp oMod (mAp oInt (mCons (mOp oMul (mOp oMod (mAp oInt (mCons (mOp oMul (mVar 5) (mVar 5)) mNil)) (mC (.int 998244353))) (mC (.int 30011))) mNil)) (mC (.int 998244353))) (gN 6))
def b_law_take_4 : MS := (sRet (mOp oMod (mAp oInt (mCons (mOp oDiv (mVar 6) (mC (.int 7))) mNil)) (mVar 1)))
def b_law_take : MS := (sSeq b_law_take_0 (sSeq b_law_take_1 (sSeq b_law_take_2 (sSeq b_law_take_3 b_law_take_4))))
def m_law_take : MF := mDef 2 7 b_law_take
theorem e_law_take (x0 x1 : D) (C : Store) : m_law_take [x0, x1] C = finS C.length (b_law_take ⟨C.length, [some x0, some x1, none, none, none, none, none]⟩ C) := mDef_e rfl rfl
theorem ar_law_take : Ar 2 m_law_take := mDef_ar
theorem ok_law_take (T : Txt K mg) : ∃ fd, FnG P w K mg base 1 (a_law_take K) fd ["_law_bag_here", "_law_many"] (SpD (cn K) 2 m_law_take) ∧ Binds K fd ["_law_bag_here", "_law_many"] [] ∧ PySem.W.keepIn K (.ref (a_law_take K)) = true := by
  obtain ⟨fd, F⟩ := T.f_law_take
  refine ⟨fd, fn_ok (k := cn K) F sc_law_take (by decide) fun cdv A outer s H E hr => ?_, F.bindsN fun _ _ _ _ _ _ us hl => match us, hl with | [_, _], _ => rfl, F.kp⟩
  have tk : Takes (cxOf (L2.CX P w) P w K mg base ["_law_bag_here", "_law_many", "_law_cell", "_law_mixed_here", "_law_drawn", "_law_early", "_law_second"] "_law_take" (defScope s_law_take) (a_law_take K) cdv A outer s H E) (fun c d _ H => E c d H) := takes_of rfl rfl rfl rfl
  exact (dss_cons (ds_if (dt_cmp (op_eq.or (op_eqD hr.room.units)) d_eqA (de_ix ix_seq d_ix (dv 0) de_int) de_int (nomark _)) (dss_cons (ds_set (i := 2) sc_law_take.nd rfl (Or.inl rfl) de_int)
  (dss_cons (ds_if (dt_cmp op_lt d_lt (de_ix ix_seq d_ix (dv 0) de_int) (de_callB call_len_seq d_len (by rfl) T.n_len (by decide +kernel) (da_cons (de_ix ix_seq d_ix (dv 0) de_int) da_nil)) (nomark _)) (dss_one (ds_set (i := 2) sc_law_take.nd rfl (Or.inl rfl) (de_ix ix_seq d_ix (de_ix ix_seq d_ix (dv 0) de_int) (de_ix ix_seq d_ix (dv 0) de_int)))) dss_nil)
  (dss_cons (ds_augL ip_add (dv 0) de_int de_int)
  (dss_cons (ds_if (dt_cmp op_ge d_ge (dv 2) de_int (nomark _)) (dss_one (ds_setL (dv 2) (pg_sub (dv 0) de_int set_list))) dss_nil)
  (dss_cons (ds_set (i := 3) sc_law_take.nd rfl (Or.inl rfl) (de_op op_add d_add (de_op op_add d_add (de_op op_mul d_mul (de_ix ix_seq d_ix (dv 0) de_int) de_int) (de_op op_mod d_mod (de_callTy call_int1 d_int (by rfl) T.n_int (by decide +kernel) (da_cons (dv 2) da_nil)) de_int)) (de_op op_mul d_mul de_int (de_ix ix_seq d_ix (dv 0) de_int))))
  (dss_one (ds_setL (de_op op_mod d_mod (de_callTy call_int1 d_int (by rfl) T.n_int (by decide +kernel) (da_cons (dv 3) da_nil)) de_int) (pg_sub (dv 0) de_int set_list)))))))) dss_nil)
  (dss_cons (ds_if (dt_cmp op_gt d_gt (de_ix ix_seq d_ix (dv 0) de_int) de_int (nomark _)) (dss_cons (ds_set (i := 4) sc_law_take.nd rfl (Or.inl rfl) (de_op op_mod d_mod (de_callTy call_int1 d_int (by rfl) T.n_int (by decide +kernel) (da_cons (de_ix ix_seq d_ix (dv 0) de_int) da_nil)) (dv 1)))
  (dss_cons (ds_setL (de_op op_fdivW d_div (de_callTy call_int1 d_int (by rfl) T.n_int (by decide +kernel) (da_cons (de_ix ix_seq d_ix (dv 0) de_int) da_nil)) (dv 1)) (pg_sub (dv 0) de_int set_list))
  (dss_one (ds_ret (dv 4))))) dss_nil)
  (dss_cons (ds_set (i := 5) sc_law_take.nd rfl (Or.inl rfl) (de_op op_mod d_mod (de_callTy call_int1 d_int (by rfl) T.n_int (by decide +kernel) (da_cons (de_op op_mul d_mul (de_op op_add d_add (de_ix ix_seq d_ix (dv 0) de_int) de_int) de_int) da_nil)) de_int))
  (dss_cons (ds_set (i := 6) sc_law_take.nd rfl (Or.inl rfl) (de_op op_mod d_mod (de_callTy call_int1 d_int (by rfl) T.n_int (by decide +kernel) (da_cons (de_op op_mul d_mul (de_op op_mod d_mod (de_callTy call_int1 d_int (by rfl) T.n_int (by decide +kernel) (da_cons (de_op op_mul d_mul (dv 5) (dv 5)) da_nil)) de_int) de_int) da_nil)) de_int))
  (dss_one (ds_ret (de_op op_mod d_mod (de_callTy call_int1 d_int (by rfl) T.n_int (by decide +kernel) (da_cons (de_op op_fdivW d_div (dv 6) de_int) da_nil)) (dv 1))))))))
theorem sc_law_one : FnScope ["_law_bag_here", "_law_menu"] ["_law_bag_here", "_law_menu"] (defScope s_law_one) := ⟨rfl, rfl, rfl, by decide +kernel, rfl, by decide +kernel, by decide +kernel⟩
def b_law_one : MS := (sRet (mOp oIx (mVar 1) (mCall m_law_take [] (mCons (mVar 0) (mCons (mAp oLen (mCons (mVar 1) mNil)) mNil)))))
def m_law_one : MF := mDef 2 2 b_law_one
theorem e_law_one (x0 x1 : D) (C : Store) : m_law_one [x0, x1] C = finS C.length (b_law_one ⟨C.length, [some x0, some x1]⟩ C) := mDef_e rfl rfl
theorem ar_law_one : Ar 2 m_law_one := mDef_ar
theorem ok_law_one (T : Txt K mg) : ∃ fd, FnG P w K mg base 2 (a_law_one K) fd ["_law_bag_here", "_law_menu"] (SpD (cn K) 2 m_law_one) ∧ Binds K fd ["_law_bag_here", "_law_menu"] [] ∧ PySem.W.keepIn K (.ref (a_law_one K)) = true := by
  obtain ⟨fd_law_take, F_law_take, B_law_take, kp_law_take⟩ := ok_law_take (P := P) (w := w) (base := base) T
  obtain ⟨fd, F⟩ := T.f_law_one
  refine ⟨fd, fn_ok (k := cn K) F sc_law_one (by decide) fun cdv A outer s H E hr => ?_, F.bindsN fun _ _ _ _ _ _ us hl => match us, hl with | [_, _], _ => rfl, F.kp⟩
  have tk : Takes (cxOf (L2.CX P w) P w K mg base ["_law_bag_here", "_law_menu"] "_law_one" (defScope s_law_one) (a_law_one K) cdv A outer s H E) (fun c d _ H => E c d H) := takes_of rfl rfl rfl rfl
  exact (dss_one (ds_ret (de_ix ix_seq d_ix (dv 1) (de_call tk F_law_take ar_law_take (hr.mono (by decide)) (by rfl) T.g_law_take kp_law_take B_law_take .nil (fun _ _ _ => .nil) (da_cons (dv 0) (da_cons (de_callB call_len_seq d_len (by rfl) T.n_len (by decide +kernel) (da_cons (dv 1) da_nil)) da_nil))))))
theorem sc_law_mixed : FnScope ["_law_bag_here", "_law_things", "_law_found", "_law_thing"] ["_law_bag_here", "_law_things"] (defScope s_law_mixed) := ⟨rfl, rfl, rfl, by decide +kernel, rfl, by decide +kernel, by decide +kernel⟩
def b_law_mixed_0 : MS := (sAsg (mAp (oLst true) mNil) (gN 2))
def b_law_mixed_1b_0 : MS := (sDrop (mInsert (mVar 2) (mCall m_law_take [] (mCons (mVar 0) (mCons (mOp oAdd (mAp oLen (mCons (mVar 2) mNil)) (mC (.int 1))) mNil))) (mVar 3)))
def b_law_mixed_1 : MS := (sFor (mSeq (mVar 1)) (Tgt.nm 3).M b_law_mixed_1b_0)
def b_law_mixed_2 : MS := (sRet (mVar 2))
def b_law_mixed : MS := (sSeq b_law_mixed_0 (sSeq b_law_mixed_1 b_law_mixed_2))
def m_law_mixed : MF := mDef 2 4 b_law_mixed
theorem e_law_mixed (x0 x1 : D) (C : Store) : m_law_mixed [x0, x1] C = finS C.length (b_law_mixed ⟨C.length, [some x0, some x1, none, none]⟩ C) := mDef_e rfl rfl
theorem ar_law_mixed : Ar 2 m_law_mixed := mDef_ar
theorem ok_law_mixed (T : Txt K mg) : ∃ fd, FnG P w K mg base 2 (a_law_mixed K) fd ["_law_bag_here", "_law_things"] (SpD (cn K) 2 m_law_mixed) ∧ Binds K fd ["_law_bag_here", "_law_things"] [] ∧ PySem.W.keepIn K (.ref (a_law_mixed K)) = true := by
  obtain ⟨fd_law_take, F_law_take, B_law_take, kp_law_take⟩ := ok_law_take (P := P) (w := w) (base := base) T
  obtain ⟨fd, F⟩ := T.f_law_mixed
  refine ⟨fd, fn_ok (k := cn K) F sc_law_mixed (by decide) fun cdv A outer s H E hr => ?_, F.bindsN fun _ _ _ _ _ _ us hl => match us, hl with | [_, _], _ => rfl, F.kp⟩
  have tk : Takes (cxOf (L2.CX P w) P w K mg base ["_law_bag_here", "_law_things", "_law_found", "_law_thing"] "_law_mixed" (defScope s_law_mixed) (a_law_mixed K) cdv A outer s H E) (fun c d _ H => E c d H) := takes_of rfl rfl rfl rfl
  exact (dss_cons (ds_set (i := 2) sc_law_mixed.nd rfl (Or.inl rfl) (de_lst true da_nil))
  (dss_cons (ds_for (passes_of rfl) rfl (di_seq rfl (dv 1)) (tg_nm (i := 3) sc_law_mixed.nd rfl (Or.inl rfl)) (dss_one (ds_expr (de_insert rfl (dv 2) (de_call tk F_law_take ar_law_take (hr.mono (by decide)) (by rfl) T.g_law_take kp_law_take B_law_take .nil (fun _ _ _ => .nil) (da_cons (dv 0) (da_cons (de_op op_add d_add (de_callB call_len_seq d_len (by rfl) T.n_len (by decide +kernel) (da_cons (dv 2) da_nil)) de_int) da_nil))) (dv 3)))))
  (dss_one (ds_ret (dv 2)))))
theorem sc_law_pairs : FnScope ["_law_size", "_law_found", "_law_u", "_law_v"] ["_law_size"] (defScope s_law_pairs) := ⟨rfl, rfl, rfl, by decide +kernel, rfl, by decide +kernel, by decide +kernel⟩
def b_law_pairs_0 : MS := (sAsg (mAp (oLst false) mNil) (gN 1))
def b_law_pairs_1b_0 : MS := (sAsg (mOp (oCat false) (mVar 1) (mLc false (mRng2 (mOp oAdd (mVar 2) (mC (.int 1))) (mVar 0)) (Tgt.nm 3).M tYesM (mAp oTup (mCons (mVar 2) (mCons (mVar 3) mNil))) [3])) (gN 1))
def b_law_pairs_1 : MS := (sFor (mRng1 (mVar 0)) (Tgt.nm 2).M b_law_pairs_1b_0)
def b_law_pairs_2 : MS := (sRet (mVar 1))
def b_law_pairs : MS := (sSeq b_law_pairs_0 (sSeq b_law_pairs_1 b_law_pairs_2))
def m_law_pairs : MF := mDef 1 4 b_law_pairs
theorem e_law_pairs (x0 : D) (C : Store) : m_law_pairs [x0] C = finS C.length (b_law_pairs ⟨C.length, [some x0, none, none, none]⟩ C) := mDef_e rfl rfl
theorem ar_law_pairs : Ar 1 m_law_pairs := mDef_ar
theorem ok_law_pairs (T : Txt K mg) : ∃ fd, FnG P w K mg base 1 (a_law_pairs K) fd ["_law_size"] (SpD (cn K) 1 m_law_pairs) ∧ Binds K fd ["_law_size"] [] ∧ PySem.W.keepIn K (.ref (a_law_pairs K)) = true := by
  obtain ⟨fd, F⟩ := T.f_law_pairs
  refine ⟨fd, fn_ok (k := cn K) F sc_law_pairs (by decide) fun cdv A outer s H E hr => ?_, F.bindsN fun _ _ _ _ _ _ us hl => match us, hl with | [_], _ => rfl, F.kp⟩
  have tk : Takes (cxOf (L2.CX P w) P w K mg base ["_law_size", "_law_found", "_law_u", "_law_v"] "_law_pairs" (defScope s_law_pairs) (a_law_pairs K) cdv A outer s H E) (fun c d _ H => E c d H) := takes_of rfl rfl rfl rfl
  exact (dss_cons (ds_set (i := 1) sc_law_pairs.nd rfl (Or.inl rfl) (de_lst false da_nil))
  (dss_cons (ds_for (passes_of rfl) rfl (di_rng1 (by rfl) T.n_range (dv 0)) (tg_nm (i := 2) sc_law_pairs.nd rfl (Or.inr rfl)) (dss_one (ds_set (i := 1) sc_law_pairs.nd rfl (Or.inl rfl) (de_op op_cat (d_cat false) (dv 1) (de_lc (own := [("_law_v", 3)]) false rfl rfl sc_law_pairs.nd (di_rng2 (by rfl) T.n_range (de_op op_add d_add (dv 2) de_int) (dv 0)) (blkOk_by (own := [("_law_v", 3)]) rfl) (by decide) (fun _ _ _ _ _ => (tg_nm (i := 3) sc_law_pairs.nd rfl (by first | exact Or.inl rfl | exact Or.inr rfl))) (fun _ _ _ _ _ => dts_nil) (fun _ _ _ _ _ => (de_tup (da_cons (dv 2) (da_cons (dv 3) da_nil)))))))))
  (dss_one (ds_ret (dv 1)))))
theorem sc_law_light : FnScope ["_law_bag_here", "_law_size", "_law_cap", "_law_found", "_law_left", "_law_u", "_law_v", "_law_menu", "_law_number"] ["_law_bag_here", "_law_size", "_law_cap"] (defScope s_law_light) := ⟨rfl, rfl, rfl, by decide +kernel, rfl, by decide +kernel, by decide +kernel⟩
def b_law_light_0 : MS := (sPar [3, 4] (mCons (mAp (oLst true) mNil) (mCons (mVar 2) mNil)))
def b_law_light_1b_0 : MS := (sAsg (mAp (oLst false) (mCons (mC (.int 0)) (mCons (mC (.int 1)) (mCons (mC (.int 1)) (mCons (mC (.int 2)) (mCons (mC (.int 3)) (mCons (mCall m_law_take [] (mCons (mVar 0) (mCons (mVar 4) mNil))) mNil))))))) (gN 7))
def b_law_light_1b_1 : MS := (sAsg (mAp oMin2 (mCons (mOp oSub (mVar 4) (mC (.int 1))) (mCons (mCall m_law_one [] (mCons (mVar 0) (mCons (mVar 7) mNil))) mNil))) (gN 8))
def b_law_light_1b_2t_0 : MS := (sDrop (mAppend (mVar 3) (mIf (mTst (mOp oGt (mCall m_law_take [] (mCons (mVar 0) (mCons (mC (.int 4)) mNil))) (mC (.int 0)))) (mAp oTup (mCons (mVar 5) (mCons (mVar 6) (mCons (mVar 8) mNil)))) (mAp oTup (mCons (mVar 6) (mCons (mVar 5) (mCons (mVar 8) mNil)))))))
def b_law_light_1b_2t_1 : MS := (sAsg (mOp oDiv (mVar 4) (mOp oAdd (mVar 8) (mC (.int 1)))) (gN 4))
def b_law_light_1b_2 : MS := (sIf (mTst (mOp oGt (mVar 8) (mC (.int 0)))) (sSeq b_law_light_1b_2t_0 b_law_light_1b_2t_1) sNext)
def b_law_light_1 : MS := (sFor (mSeq (mCall m_law_mixed [] (mCons (mVar 0) (mCons (mCall m_law_pairs [] (mCons (mVar 1) mNil)) mNil)))) (Tgt.tp [5, 6]).M (sSeq b_law_light_1b_0 (sSeq b_law_light_1b_1 b_law_light_1b_2)))
def b_law_light_2 : MS := (sRet (mVar 3))
def b_law_light : MS := (sSeq b_law_light_0 (sSeq b_law_light_1 b_law_light_2))
def m_law_light : MF := mDef 3 9 b_law_light
theorem e_law_light (x0 x1 x2 : D) (C : Store) : m_law_light [x0, x1, x2] C = finS C.length (b_law_light ⟨C.length, [some x0, some x1, some x2, none, none, none, none, none, none]⟩ C) := mDef_e rfl rfl
theorem ar_law_light : Ar 3 m_law_light := mDef_ar
theorem ok_law_light (T : Txt K mg) : ∃ fd, FnG P w K mg base 3 (a_law_light K) fd ["_law_bag_here", "_law_size", "_law_cap"] (SpD (cn K) 3 m_law_light) ∧ Binds K fd ["_law_bag_here", "_law_size", "_law_cap"] [] ∧ PySem.W.keepIn K (.ref (a_law_light K)) = true := by
  obtain ⟨fd_law_mixed, F_law_mixed, B_law_mixed, kp_law_mixed⟩ := ok_law_mixed (P := P) (w := w) (base := base) T
  obtain ⟨fd_law_pairs, F_law_pairs, B_law_pairs, kp_law_pairs⟩ := ok_law_pairs (P := P) (w := w) (base := base) T
  obtain ⟨fd_law_take, F_law_take, B_law_take, kp_law_take⟩ := ok_law_take (P := P) (w := w) (base := base) T
  obtain ⟨fd_law_one, F_law_one, B_law_one, kp_law_one⟩ := ok_law_one (P := P) (w := w) (base := base) T
  obtain ⟨fd, F⟩ := T.f_law_light
  refine ⟨fd, fn_ok (k := cn K) F sc_law_light (by decide) fun cdv A outer s H E hr => ?_, F.bindsN fun _ _ _ _ _ _ us hl => match us, hl with | [_, _, _], _ => rfl, F.kp⟩
  have tk : Takes (cxOf (L2.CX P w) P w K mg base ["_law_bag_here", "_law_size", "_law_cap", "_law_found", "_law_left", "_law_u", "_law_v", "_law_menu", "_law_number"] "_law_light" (defScope s_law_light) (a_law_light K) cdv A outer s H E) (fun c d _ H => E c d H) := takes_of rfl rfl rfl rfl
  exact (dss_cons (ds_par (i := 3) (j := 4) rfl sc_law_light.nd rfl rfl (by decide) rfl rfl (da_cons (de_lst true da_nil) (da_cons (dv 2) da_nil)))
  (dss_cons (ds_for (passes_of rfl) rfl (di_seq rfl (de_call tk F_law_mixed ar_law_mixed (hr.mono (by decide)) (by rfl) T.g_law_mixed kp_law_mixed B_law_mixed .nil (fun _ _ _ => .nil) (da_cons (dv 0) (da_cons (de_call tk F_law_pairs ar_law_pairs (hr.mono (by decide)) (by rfl) T.g_law_pairs kp_law_pairs B_law_pairs .nil (fun _ _ _ => .nil) (da_cons (dv 1) da_nil)) da_nil)))) (tg_tp [5, 6] rfl rfl (pgs_cons (pg_name (i := 5) sc_law_light.nd rfl (Or.inl rfl)) (pgs_cons (pg_name (i := 6) sc_law_light.nd rfl (Or.inl rfl)) pgs_nil))) (dss_cons (ds_set (i := 7) sc_law_light.nd rfl (Or.inl rfl) (de_lst false (da_cons de_int (da_cons de_int (da_cons de_int (da_cons de_int (da_cons de_int (da_cons (de_call tk F_law_take ar_law_take (hr.mono (by decide)) (by rfl) T.g_law_take kp_law_take B_law_take .nil (fun _ _ _ => .nil) (da_cons (dv 0) (da_cons (dv 4) da_nil))) da_nil))))))))
  (dss_cons (ds_set (i := 8) sc_law_light.nd rfl (Or.inl rfl) (de_callB (call_min2 rfl) d_min2 (by rfl) T.n_min (by decide +kernel) (da_cons (de_op op_sub d_sub (dv 4) de_int) (da_cons (de_call tk F_law_one ar_law_one (hr.mono (by decide)) (by rfl) T.g_law_one kp_law_one B_law_one .nil (fun _ _ _ => .nil) (da_cons (dv 0) (da_cons (dv 7) da_nil))) da_nil))))
  (dss_one (ds_if (dt_cmp op_gt d_gt (dv 8) de_int (nomark _)) (dss_cons (ds_expr (de_append rfl (dv 3) (de_if (dt_cmp op_gt d_gt (de_call tk F_law_take ar_law_take (hr.mono (by decide)) (by rfl) T.g_law_take kp_law_take B_law_take .nil (fun _ _ _ => .nil) (da_cons (dv 0) (da_cons de_int da_nil))) de_int (nomark _)) (de_tup (da_cons (dv 5) (da_cons (dv 6) (da_cons (dv 8) da_nil)))) (de_tup (da_cons (dv 6) (da_cons (dv 5) (da_cons (dv 8) da_nil)))))))
  (dss_one (ds_set (i := 4) sc_law_light.nd rfl (Or.inl rfl) (de_op op_fdivW d_div (dv 4) (de_op op_add d_add (dv 8) de_int))))) dss_nil)))))
  (dss_one (ds_ret (dv 3)))))
theorem sc_law_numbers : FnScope ["_law_size", "_law_ties", "_law_grid_here", "_law_pair", "_law_u", "_law_v", "_law_number"] ["_law_size", "_law_ties"] (defScope s_law_numbers) := ⟨rfl, rfl, rfl, by decide +kernel, rfl, by decide +kernel, by decide +kernel⟩
def b_law_numbers_0 : MS := (sAsg (mDNew true) (gN 2))
def b_law_numbers_1b_0 : MS := (sPut (mC (.int 0)) (mVar 2) (mVar 3))
def b_law_numbers_1 : MS := (sFor (mSeq (mCall m_law_pairs [] (mCons (mVar 0) mNil))) (Tgt.nm 3).M b_law_numbers_1b_0)
def b_law_numbers_2b_0 : MS := (sAugD (· + ·) (mVar 2) (mAp oTup (mCons (mAp oMin2 (mCons (mVar 4) (mCons (mVar 5) mNil))) (mCons (mAp oMax2 (mCons (mVar 4) (mCons (mVar 5) mNil))) mNil))) (mVar 6))
def b_law_numbers_2 : MS := (sFor (mSeq (mVar 1)) (Tgt.tp [4, 5, 6]).M b_law_numbers_2b_0)
def b_law_numbers_3 : MS := (sRet (mAp oTupOf (mCons (mLc false (mSeq (mCall m_law_pairs [] (mCons (mVar 0) mNil))) (Tgt.nm 3).M tYesM (mOp oDIx (mVar 2) (mVar 3)) [3]) mNil)))
def b_law_numbers : MS := (sSeq b_law_numbers_0 (sSeq b_law_numbers_1 (sSeq b_law_numbers_2 b_law_numbers_3)))
def m_law_numbers : MF := mDef 2 7 b_law_numbers
theorem e_law_numbers (x0 x1 : D) (C : Store) : m_law_numbers [x0, x1] C = finS C.length (b_law_numbers ⟨C.length, [some x0, some x1, none, none, none, none, none]⟩ C) := mDef_e rfl rfl
theorem ar_law_numbers : Ar 2 m_law_numbers := mDef_ar
theorem ok_law_numbers (T : Txt K mg) : ∃ fd, FnG P w K mg base 2 (a_law_numbers K) fd ["_law_size", "_law_ties"] (SpD (cn K) 2 m_law_numbers) ∧ Binds K fd ["_law_size", "_law_ties"] [] ∧ PySem.W.keepIn K (.ref (a_law_numbers K)) = true := by
  obtain ⟨fd_law_pairs, F_law_pairs, B_law_pairs, kp_law_pairs⟩ := ok_law_pairs (P := P) (w := w) (base := base) T
  obtain ⟨fd, F⟩ := T.f_law_numbers
  refine ⟨fd, fn_ok (k := cn K) F sc_law_numbers (by decide) fun cdv A outer s H E hr => ?_, F.bindsN fun _ _ _ _ _ _ us hl => match us, hl with | [_, _], _ => rfl, F.kp⟩
  have tk : Takes (cxOf (L2.CX P w) P w K mg base ["_law_size", "_law_ties", "_law_grid_here", "_law_pair", "_law_u", "_law_v", "_law_number"] "_law_numbers" (defScope s_law_numbers) (a_law_numbers K) cdv A outer s H E) (fun c d _ H => E c d H) := takes_of rfl rfl rfl rfl
  exact (dss_cons (ds_set (i := 2) sc_law_numbers.nd rfl (Or.inr rfl) (de_dnew true))
  (dss_cons (ds_for (passes_of rfl) rfl (di_seq rfl (de_call tk F_law_pairs ar_law_pairs (hr.mono (by decide)) (by rfl) T.g_law_pairs kp_law_pairs B_law_pairs .nil (fun _ _ _ => .nil) (da_cons (dv 0) da_nil))) (tg_nm (i := 3) sc_law_numbers.nd rfl (Or.inl rfl)) (dss_one (ds_put (hu_of hr.room) de_int (dv 2) (dv 3))))
  (dss_cons (ds_for (passes_of rfl) rfl (di_seq rfl (dv 1)) (tg_tp [4, 5, 6] rfl rfl (pgs_cons (pg_name (i := 4) sc_law_numbers.nd rfl (Or.inl rfl)) (pgs_cons (pg_name (i := 5) sc_law_numbers.nd rfl (Or.inl rfl)) (pgs_cons (pg_name (i := 6) sc_law_numbers.nd rfl (Or.inl rfl)) pgs_nil)))) (dss_one (ds_augD (hu_of hr.room) ip_add (dv 2) (de_tup (da_cons (de_callB (call_min2 rfl) d_min2 (by rfl) T.n_min (by decide +kernel) (da_cons (dv 4) (da_cons (dv 5) da_nil))) (da_cons (de_callB (call_max2 rfl) d_max2 (by rfl) T.n_max (by decide +kernel) (da_cons (dv 4) (da_cons (dv 5) da_nil))) da_nil))) (dv 6))))
  (dss_one (ds_ret (de_callTy call_tuple_of d_tupOf (by rfl) T.n_tuple (by decide +kernel) (da_cons (de_lc (own := [("_law_pair", 3)]) false rfl rfl sc_law_numbers.nd (di_seq rfl (de_call tk F_law_pairs ar_law_pairs (hr.mono (by decide)) (by rfl) T.g_law_pairs kp_law_pairs B_law_pairs .nil (fun _ _ _ => .nil) (da_cons (dv 0) da_nil))) (blkOk_by (own := [("_law_pair", 3)]) rfl) (by decide) (fun _ _ _ _ _ => (tg_nm (i := 3) sc_law_numbers.nd rfl (by first | exact Or.inl rfl | exact Or.inr rfl))) (fun _ _ _ _ _ => dts_nil) (fun _ _ _ _ _ => (de_dix (hu_of hr.room) (dv 2) (dv 3)))) da_nil)))))))
theorem sc_law_all : FnScope ["_law_limits", "_law_found", "_law_limit", "_law_longer", "_law_head", "_law_x"] ["_law_limits"] (defScope s_law_all) := ⟨rfl, rfl, rfl, by decide +kernel, rfl, by decide +kernel, by decide +kernel⟩
def b_law_all_0 : MS := (sAsg (mAp (oLst true) (mCons (mAp oTup mNil) mNil)) (gN 1))
def b_law_all_1b_0 : MS := (sAsg (mAp (oLst true) mNil) (gN 3))
def b_law_all_1b_1b_0 : MS := (sDrop (mExtend (mVar 3) (mLc false (mRng1 (mOp oAdd (mVar 2) (mC (.int 1)))) (Tgt.nm 5).M tYesM (mOp oCatT (mVar 4) (mAp oTup (mCons (mVar 5) mNil))) [5])))
def b_law_all_1b_1 : MS := (sFor (mSeq (mVar 1)) (Tgt.nm 4).M b_law_all_1b_1b_0)
def b_law_all_1b_2 : MS := (sAsg (mVar 3) (gN 1))
def b_law_all_1 : MS := (sFor (mSeq (mVar 0)) (Tgt.nm 2).M (sSeq b_law_all_1b_0 (sSeq b_law_all_1b_1 b_law_all_1b_2)))
def b_law_all_2 : MS := (sRet (mVar 1))
def b_law_all : MS := (sSeq b_law_all_0 (sSeq b_law_all_1 b_law_all_2))
def m_law_all : MF := mDef 1 6 b_law_all
theorem e_law_all (x0 : D) (C : Store) : m_law_all [x0] C = finS C.length (b_law_all ⟨C.length, [some x0, none, none, none, none, none]⟩ C) := mDef_e rfl rfl
theorem ar_law_all : Ar 1 m_law_all := mDef_ar
theorem ok_law_all (T : Txt K mg) : ∃ fd, FnG P w K mg base 1 (a_law_all K) fd ["_law_limits"] (SpD (cn K) 1 m_law_all) ∧ Binds K fd ["_law_limits"] [] ∧ PySem.W.keepIn K (.ref (a_law_all K)) = true := by
  obtain ⟨fd, F⟩ := T.f_law_all
  refine ⟨fd, fn_ok (k := cn K) F sc_law_all (by decide) fun cdv A outer s H E hr => ?_, F.bindsN fun _ _ _ _ _ _ us hl => match us, hl with | [_], _ => rfl, F.kp⟩
  have tk : Takes (cxOf (L2.CX P w) P w K mg base ["_law_limits", "_law_found", "_law_limit", "_law_longer", "_law_head", "_law_x"] "_law_all" (defScope s_law_all) (a_law_all K) cdv A outer s H E) (fun c d _ H => E c d H) := takes_of rfl rfl rfl rfl
  exact (dss_cons (ds_set (i := 1) sc_law_all.nd rfl (Or.inl rfl) (de_lst true (da_cons (de_tup da_nil) da_nil)))
  (dss_cons (ds_for (passes_of rfl) rfl (di_seq rfl (dv 0)) (tg_nm (i := 2) sc_law_all.nd rfl (Or.inl rfl)) (dss_cons (ds_set (i := 3) sc_law_all.nd rfl (Or.inl rfl) (de_lst true da_nil))
  (dss_cons (ds_for (passes_of rfl) rfl (di_seq rfl (dv 1)) (tg_nm (i := 4) sc_law_all.nd rfl (Or.inr rfl)) (dss_one (ds_expr (de_extend rfl (dv 3) (de_lc (own := [("_law_x", 5)]) false rfl rfl sc_law_all.nd (di_rng1 (by rfl) T.n_range (de_op op_add d_add (dv 2) de_int)) (blkOk_by (own := [("_law_x", 5)]) rfl) (by decide) (fun _ _ _ _ _ => (tg_nm (i := 5) sc_law_all.nd rfl (by first | exact Or.inl rfl | exact Or.inr rfl))) (fun _ _ _ _ _ => dts_nil) (fun _ _ _ _ _ => (de_op op_catA d_catT (dv 4) (de_tup (da_cons (dv 5) da_nil)))))))))
  (dss_one (ds_set (i := 1) sc_law_all.nd rfl (Or.inl rfl) (dv 3))))))
  (dss_one (ds_ret (dv 1)))))
theorem sc_law_row_of : FnScope ["_law_pairs_here", "_law_size", "_law_xs", "_law_row", "_law_at", "_law_pair"] ["_law_pairs_here", "_law_size", "_law_xs"] (defScope s_law_row_of) := ⟨rfl, rfl, rfl, by decide +kernel, rfl, by decide +kernel, by decide +kernel⟩
def b_law_row_of_0 : MS := (sAsg (mOp (oRep true) (mAp (oLst false) (mCons (mC (.int 0)) mNil)) (mVar 1)) (gN 3))
def b_law_row_of_1b_0 : MS := (sAugL (· + ·) (mVar 3) (mOp oIx (mVar 5) (mC (.int 0))) (mOp oIx (mVar 2) (mVar 4)))
def b_law_row_of_1b_1 : MS := (sAugL (· + ·) (mVar 3) (mOp oIx (mVar 5) (mC (.int 1))) (mOp oIx (mVar 2) (mVar 4)))
def b_law_row_of_1 : MS := (sFor (mEnum (mVar 0)) (Tgt.tp [4, 5]).M (sSeq b_law_row_of_1b_0 b_law_row_of_1b_1))
def b_law_row_of_2 : MS := (sRet (mAp oTupOf (mCons (mVar 3) mNil)))
def b_law_row_of : MS := (sSeq b_law_row_of_0 (sSeq b_law_row_of_1 b_law_row_of_2))
def m_law_row_of : MF := mDef 3 6 b_law_row_of
theorem e_law_row_of (x0 x1 x2 : D) (C : Store) : m_law_row_of [x0, x1, x2] C = finS C.length (b_law_row_of ⟨C.length, [some x0, some x1, some x2, none, none, none]⟩ C) := mDef_e rfl rfl
theorem ar_law_row_of : Ar 3 m_law_row_of := mDef_ar
theorem ok_law_row_of (T : Txt K mg) : ∃ fd, FnG P w K mg base 1 (a_law_row_of K) fd ["_law_pairs_here", "_law_size", "_law_xs"] (SpD (cn K) 3 m_law_row_of) ∧ Binds K fd ["_law_pairs_here", "_law_size", "_law_xs"] [] ∧ PySem.W.keepIn K (.ref (a_law_row_of K)) = true := by
  obtain ⟨fd, F⟩ := T.f_law_row_of
  refine ⟨fd, fn_ok (k := cn K) F sc_law_row_of (by decide) fun cdv A outer s H E hr => ?_, F.bindsN fun _ _ _ _ _ _ us hl => match us, hl with | [_, _, _], _ => rfl, F.kp⟩
  have tk : Takes (cxOf (L2.CX P w) P w K mg base ["_law_pairs_here", "_law_size", "_law_xs", "_law_row", "_law_at", "_law_pair"] "_law_row_of" (defScope s_law_row_of) (a_law_row_of K) cdv A outer s H E) (fun c d _ H => E c d H) := takes_of rfl rfl rfl rfl
  exact (dss_cons (ds_set (i := 3) sc_law_row_of.nd rfl (Or.inl rfl) (de_op op_rep (d_rep true) (de_lst false (da_cons de_int da_nil)) (dv 1)))
  (dss_cons (ds_for (passes_of rfl) rfl (di_enum (by rfl) T.n_enumerate rfl (dv 0)) (tg_tp [4, 5] rfl rfl (pgs_cons (pg_name (i := 4) sc_law_row_of.nd rfl (Or.inl rfl)) (pgs_cons (pg_name (i := 5) sc_law_row_of.nd rfl (Or.inl rfl)) pgs_nil))) (dss_cons (ds_augL ip_add (dv 3) (de_ix ix_seq d_ix (dv 5) de_int) (de_ix ix_seq d_ix (dv 2) (dv 4)))
  (dss_one (ds_augL ip_add (dv 3) (de_ix ix_seq d_ix (dv 5) de_int) (de_ix ix_seq d_ix (dv 2) (dv 4))))))
  (dss_one (ds_ret (de_callTy call_tuple_of d_tupOf (by rfl) T.n_tuple (by decide +kernel) (da_cons (dv 3) da_nil))))))
theorem sc_law_counts : FnScope ["_law_size", "_law_limits", "_law_pairs_here", "_law_found", "_law_xs", "_law_row"] ["_law_size", "_law_limits"] (defScope s_law_counts) := ⟨rfl, rfl, rfl, by decide +kernel, rfl, by decide +kernel, by decide +kernel⟩
def b_law_counts_0 : MS := (sPar [2, 3] (mCons (mCall m_law_pairs [] (mCons (mVar 0) mNil)) (mCons (mDNew true) mNil)))
def b_law_counts_1b_0 : MS := (sAsg (mCall m_law_row_of [] (mCons (mVar 2) (mCons (mVar 0) (mCons (mVar 4) mNil)))) (gN 5))
def b_law_counts_1b_1 : MS := (sPut (mOp oAdd (mDGet (mVar 3) (mVar 5) (mC (.int 0))) (mC (.int 1))) (mVar 3) (mVar 5))
def b_law_counts_1 : MS := (sFor (mSeq (mCall m_law_all [] (mCons (mVar 1) mNil))) (Tgt.nm 4).M (sSeq b_law_counts_1b_0 b_law_counts_1b_1))
def b_law_counts_2 : MS := (sRet (mVar 3))
def b_law_counts : MS := (sSeq b_law_counts_0 (sSeq b_law_counts_1 b_law_counts_2))
def m_law_counts : MF := mDef 2 6 b_law_counts
theorem e_law_counts (x0 x1 : D) (C : Store) : m_law_counts [x0, x1] C = finS C.length (b_law_counts ⟨C.length, [some x0, some x1, none, none, none, none]⟩ C) := mDef_e rfl rfl
theorem ar_law_counts : Ar 2 m_law_counts := mDef_ar
theorem ok_law_counts (T : Txt K mg) : ∃ fd, FnG P w K mg base 2 (a_law_counts K) fd ["_law_size", "_law_limits"] (SpD (cn K) 2 m_law_counts) ∧ Binds K fd ["_law_size", "_law_limits"] [] ∧ PySem.W.keepIn K (.ref (a_law_counts K)) = true := by
  obtain ⟨fd_law_pairs, F_law_pairs, B_law_pairs, kp_law_pairs⟩ := ok_law_pairs (P := P) (w := w) (base := base) T
  obtain ⟨fd_law_all, F_law_all, B_law_all, kp_law_all⟩ := ok_law_all (P := P) (w := w) (base := base) T
  obtain ⟨fd_law_row_of, F_law_row_of, B_law_row_of, kp_law_row_of⟩ := ok_law_row_of (P := P) (w := w) (base := base) T
  obtain ⟨fd, F⟩ := T.f_law_counts
  refine ⟨fd, fn_ok (k := cn K) F sc_law_counts (by decide) fun cdv A outer s H E hr => ?_, F.bindsN fun _ _ _ _ _ _ us hl => match us, hl with | [_, _], _ => rfl, F.kp⟩
  have tk : Takes (cxOf (L2.CX P w) P w K mg base ["_law_size", "_law_limits", "_law_pairs_here", "_law_found", "_law_xs", "_law_row"] "_law_counts" (defScope s_law_counts) (a_law_counts K) cdv A outer s H E) (fun c d _ H => E c d H) := takes_of rfl rfl rfl rfl
  exact (dss_cons (ds_par (i := 2) (j := 3) rfl sc_law_counts.nd rfl rfl (by decide) rfl rfl (da_cons (de_call tk F_law_pairs ar_law_pairs (hr.mono (by decide)) (by rfl) T.g_law_pairs kp_law_pairs B_law_pairs .nil (fun _ _ _ => .nil) (da_cons (dv 0) da_nil)) (da_cons (de_dnew true) da_nil)))
  (dss_cons (ds_for (passes_of rfl) rfl (di_seq rfl (de_call tk F_law_all ar_law_all (hr.mono (by decide)) (by rfl) T.g_law_all kp_law_all B_law_all .nil (fun _ _ _ => .nil) (da_cons (dv 1) da_nil))) (tg_nm (i := 4) sc_law_counts.nd rfl (Or.inl rfl)) (dss_cons (ds_set (i := 5) sc_law_counts.nd rfl (Or.inl rfl) (de_call tk F_law_row_of ar_law_row_of (hr.mono (by decide)) (by rfl) T.g_law_row_of kp_law_row_of B_law_row_of .nil (fun _ _ _ => .nil) (da_cons (dv 2) (da_cons (dv 0) (da_cons (dv 4) da_nil)))))
  (dss_one (ds_put (hu_of hr.room) (de_op op_add d_add (de_dget (hu_of hr.room) (dv 3) (dv 5) de_int) de_int) (dv 3) (dv 5)))))
  (dss_one (ds_ret (dv 3)))))
theorem sc_law_grid : FnScope ["_law_size", "_law_ties", "_law_grid_here", "_law_u", "_law_v", "_law_number"] ["_law_size", "_law_ties"] (defScope s_law_grid) := ⟨rfl, rfl, rfl, by decide +kernel, rfl, by decide +kernel, by decide +kernel⟩
def b_law_grid_0 : MS := (sAsg (mLc true (mRng1 (mVar 0)) (Tgt.nm 4).M tYesM (mOp (oRep true) (mAp (oLst false) (mCons (mC (.int 0)) mNil)) (mVar 0)) [4]) (gN 2))
def b_law_grid_1b_0 : MS := (sAugL (· + ·) (mOp oIx (mVar 2) (mVar 3)) (mVar 4) (mVar 5))
def b_law_grid_1b_1 : MS := (sAugL (· + ·) (mOp oIx (mVar 2) (mVar 4)) (mVar 3) (mVar 5))
def b_law_grid_1 : MS := (sFor (mSeq (mVar 1)) (Tgt.tp [3, 4, 5]).M (sSeq b_law_grid_1b_0 b_law_grid_1b_1))
def b_law_grid_2 : MS := (sRet (mVar 2))
def b_law_grid : MS := (sSeq b_law_grid_0 (sSeq b_law_grid_1 b_law_grid_2))
def m_law_grid : MF := mDefN 2 6 b_law_grid
theorem e_law_grid (x0 x1 : D) (C : Store) : m_law_grid [x0, x1] C = finNS C.length (b_law_grid ⟨C.length, [some x0, some x1, none, none, none, none]⟩ C) := mDefN_e rfl rfl
theorem ar_law_grid : Ar 2 m_law_grid := mDefN_ar
theorem ok_law_grid (T : Txt K mg) : ∃ fd, FnG P w K mg base 1 (a_law_grid K) fd ["_law_size", "_law_ties"] (SpD (cn K) 2 m_law_grid) ∧ Binds K fd ["_law_size", "_law_ties"] [] ∧ PySem.W.keepIn K (.ref (a_law_grid K)) = true := by
  obtain ⟨fd, F⟩ := T.f_law_grid
  refine ⟨fd, fn_okN (k := cn K) F sc_law_grid (by decide) fun cdv A outer s H E hr => ?_, F.bindsN fun _ _ _ _ _ _ us hl => match us, hl with | [_, _], _ => rfl, F.kp⟩
  have tk : Takes (cxOf (L2.CX P w) P w K mg base ["_law_size", "_law_ties", "_law_grid_here", "_law_u", "_law_v", "_law_number"] "_law_grid" (defScope s_law_grid) (a_law_grid K) cdv A outer s H E) (fun c d _ H => E c d H) := takes_of rfl rfl rfl rfl
  exact (dss_cons (ds_setLc (i := 2) (own := [("_law_v", 4)]) true rfl rfl sc_law_grid.nd rfl rfl (sw_true rfl rfl rfl (by decide +kernel)) (di_rng1 (by rfl) T.n_range (dv 0)) (blkOk_by (own := [("_law_v", 4)]) rfl) (by decide) (fun _ _ _ _ _ => (tg_nm (i := 4) sc_law_grid.nd rfl (by first | exact Or.inl rfl | exact Or.inr rfl))) (fun _ _ _ _ _ => dts_nil) (fun _ _ _ _ _ => (de_op op_rep (d_rep true) (de_lst false (da_cons de_int da_nil)) (dv 0))))
  (dss_cons (ds_for (passes_of rfl) rfl (di_seq rfl (dv 1)) (tg_tp [3, 4, 5] rfl rfl (pgs_cons (pg_name (i := 3) sc_law_grid.nd rfl (Or.inl rfl)) (pgs_cons (pg_name (i := 4) sc_law_grid.nd rfl (Or.inl rfl)) (pgs_cons (pg_name (i := 5) sc_law_grid.nd rfl (Or.inl rfl)) pgs_nil)))) (dss_cons (ds_augL ip_add (de_ix ix_seq d_ix (dv 2) (dv 3)) (dv 4) (dv 5))
  (dss_one (ds_augL ip_add (de_ix ix_seq d_ix (dv 2) (dv 4)) (dv 3) (dv 5)))))
  (dss_one (ds_ret (dv 2)))))
theorem sc_law_alike : FnScope ["_law_found", "_law_due"] ["_law_found", "_law_due"] (defScope s_law_alike) := ⟨rfl, rfl, rfl, by decide +kernel, rfl, by decide +kernel, by decide +kernel⟩
def b_law_alike : MS := (sRet (mAnd (mOp (oEqA false) (mVar 0) (mVar 1)) (mOp (oEqA false) (mAp oRepr (mCons (mVar 0) mNil)) (mAp oRepr (mCons (mVar 1) mNil)))))
def m_law_alike : MF := mDef 2 2 b_law_alike
theorem e_law_alike (x0 x1 : D) (C : Store) : m_law_alike [x0, x1] C = finS C.length (b_law_alike ⟨C.length, [some x0, some x1]⟩ C) := mDef_e rfl rfl
theorem ar_law_alike : Ar 2 m_law_alike := mDef_ar
theorem ok_law_alike (T : Txt K mg) : ∃ fd, FnG P w K mg base 1 (a_law_alike K) fd ["_law_found", "_law_due"] (SpD (cn K) 2 m_law_alike) ∧ Binds K fd ["_law_found", "_law_due"] [] ∧ PySem.W.keepIn K (.ref (a_law_alike K)) = true := by
  obtain ⟨fd, F⟩ := T.f_law_alike
  refine ⟨fd, fn_ok (k := cn K) F sc_law_alike (by decide) fun cdv A outer s H E hr => ?_, F.bindsN fun _ _ _ _ _ _ us hl => match us, hl with | [_, _], _ => rfl, F.kp⟩
  have tk : Takes (cxOf (L2.CX P w) P w K mg base ["_law_found", "_law_due"] "_law_alike" (defScope s_law_alike) (a_law_alike K) cdv A outer s H E) (fun c d _ H => E c d H) := takes_of rfl rfl rfl rfl
  exact (dss_one (ds_ret (de_and (de_cmp (op_eq.or (op_eqD hr.room.units)) d_eqA (dv 0) (dv 1) (nomark _)) (de_one (de_cmp (op_eq.or (op_eqD hr.room.units)) d_eqA (de_callB (call_reprD (hr.mono (by decide))) d_repr (by rfl) T.n_repr (by decide +kernel) (da_cons (dv 0) da_nil)) (de_callB (call_reprD (hr.mono (by decide))) d_repr (by rfl) T.n_repr (by decide +kernel) (da_cons (dv 1) da_nil)) (nomark _))))))
theorem sc_law_moved : FnScope ["_law_row", "_law_steps", "_law_found", "_law_place", "_law_sign"] ["_law_row", "_law_steps"] (defScope s_law_moved) := ⟨rfl, rfl, rfl, by decide +kernel, rfl, by decide +kernel, by decide +kernel⟩
def b_law_moved_0 : MS := (sAsg (mAp (oListOf true) (mCons (mVar 0) mNil)) (gN 2))
def b_law_moved_1b_0 : MS := (sAugL (· + ·) (mVar 2) (mVar 3) (mVar 4))
def b_law_moved_1 : MS := (sFor (mSeq (mVar 1)) (Tgt.tp [3, 4]).M b_law_moved_1b_0)
def b_law_moved_2 : MS := (sRet (mAp oTupOf (mCons (mVar 2) mNil)))
def b_law_moved : MS := (sSeq b_law_moved_0 (sSeq b_law_moved_1 b_law_moved_2))
def m_law_moved : MF := mDef 2 5 b_law_moved
theorem e_law_moved (x0 x1 : D) (C : Store) : m_law_moved [x0, x1] C = finS C.length (b_law_moved ⟨C.length, [some x0, some x1, none, none, none]⟩ C) := mDef_e rfl rfl
theorem ar_law_moved : Ar 2 m_law_moved := mDef_ar
theorem ok_law_moved (T : Txt K mg) : ∃ fd, FnG P w K mg base 1 (a_law_moved K) fd ["_law_row", "_law_steps"] (SpD (cn K) 2 m_law_moved) ∧ Binds K fd ["_law_row", "_law_steps"] [] ∧ PySem.W.keepIn K (.ref (a_law_moved K)) = true := by
  obtain ⟨fd, F⟩ := T.f_law_moved
  refine ⟨fd, fn_ok (k := cn K) F sc_law_moved (by decide) fun cdv A outer s H E hr => ?_, F.bindsN fun _ _ _ _ _ _ us hl => match us, hl with | [_, _], _ => rfl, F.kp⟩
  have tk : Takes (cxOf (L2.CX P w) P w K mg base ["_law_row", "_law_steps", "_law_found", "_law_place", "_law_sign"] "_law_moved" (defScope s_law_moved) (a_law_moved K) cdv A outer s H E) (fun c d _ H => E c d H) := takes_of rfl rfl rfl rfl
  exact (dss_cons (ds_set (i := 2) sc_law_moved.nd rfl (Or.inl rfl) (de_callTy call_list_of (d_listOf true) (by rfl) T.n_list (by decide +kernel) (da_cons (dv 0) da_nil)))
  (dss_cons (ds_for (passes_of rfl) rfl (di_seq rfl (dv 1)) (tg_tp [3, 4] rfl rfl (pgs_cons (pg_name (i := 3) sc_law_moved.nd rfl (Or.inl rfl)) (pgs_cons (pg_name (i := 4) sc_law_moved.nd rfl (Or.inl rfl)) pgs_nil))) (dss_one (ds_augL ip_add (dv 2) (dv 3) (dv 4))))
  (dss_one (ds_ret (de_callTy call_tuple_of d_tupOf (by rfl) T.n_tuple (by decide +kernel) (da_cons (dv 2) da_nil))))))
theorem sc_law_towards : FnScope ["_law_one_here", "_law_other", "_law_found", "_law_place"] ["_law_one_here", "_law_other"] (defScope s_law_towards) := ⟨rfl, rfl, rfl, by decide +kernel, rfl, by decide +kernel, by decide +kernel⟩
def b_law_towards_0 : MS := (sAsg (mAp (oLst true) mNil) (gN 2))
def b_law_towards_1b_0 : MS := (sIf (mTst (mOp (oEqA true) (mOp oIx (mVar 0) (mVar 3)) (mOp oIx (mVar 1) (mVar 3)))) (sDrop (mAppend (mVar 2) (mAp oTup (mCons (mVar 3) (mCons (mIf (mTst (mOp oLt (mOp oIx (mVar 0) (mVar 3)) (mOp oIx (mVar 1) (mVar 3)))) (mC (.int 1)) (mUn oNeg (mC (.int 1)))) mNil))))) sNext)
def b_law_towards_1 : MS := (sFor (mRng1 (mAp oLen (mCons (mVar 0) mNil))) (Tgt.nm 3).M b_law_towards_1b_0)
def b_law_towards_2 : MS := (sRet (mVar 2))
def b_law_towards : MS := (sSeq b_law_towards_0 (sSeq b_law_towards_1 b_law_towards_2))
def m_law_towards : MF := mDef 2 4 b_law_towards
theorem e_law_towards (x0 x1 : D) (C : Store) : m_law_towards [x0, x1] C = finS C.length (b_law_towards ⟨C.length, [some x0, some x1, none, none]⟩ C) := mDef_e rfl rfl
theorem ar_law_towards : Ar 2 m_law_towards := mDef_ar
theorem ok_law_towards (T : Txt K mg) : ∃ fd, FnG P w K mg base 1 (a_law_towards K) fd ["_law_one_here", "_law_other"] (SpD (cn K) 2 m_law_towards) ∧ Binds K fd ["_law_one_here", "_law_other"] [] ∧ PySem.W.keepIn K (.ref (a_law_towards K)) = true := by
  obtain ⟨fd, F⟩ := T.f_law_towards
  refine ⟨fd, fn_ok (k := cn K) F sc_law_towards (by decide) fun cdv A outer s H E hr => ?_, F.bindsN fun _ _ _ _ _ _ us hl => match us, hl with | [_, _], _ => rfl, F.kp⟩
  have tk : Takes (cxOf (L2.CX P w) P w K mg base ["_law_one_here", "_law_other", "_law_found", "_law_place"] "_law_towards" (defScope s_law_towards) (a_law_towards K) cdv A outer s H E) (fun c d _ H => E c d H) := takes_of rfl rfl rfl rfl
  exact (dss_cons (ds_set (i := 2) sc_law_towards.nd rfl (Or.inl rfl) (de_lst true da_nil))
  (dss_cons (ds_for (passes_of rfl) rfl (di_rng1 (by rfl) T.n_range (de_callB call_len_seq d_len (by rfl) T.n_len (by decide +kernel) (da_cons (dv 0) da_nil))) (tg_nm (i := 3) sc_law_towards.nd rfl (Or.inl rfl)) (dss_one (ds_if (dt_cmp (op_ne.or (op_neD hr.room.units)) d_neA (de_ix ix_seq d_ix (dv 0) (dv 3)) (de_ix ix_seq d_ix (dv 1) (dv 3)) (nomark _)) (dss_one (ds_expr (de_append rfl (dv 2) (de_tup (da_cons (dv 3) (da_cons (de_if (dt_cmp op_lt d_lt (de_ix ix_seq d_ix (dv 0) (dv 3)) (de_ix ix_seq d_ix (dv 1) (dv 3)) (nomark _)) de_int (de_un un_neg d_neg de_int)) da_nil)))))) dss_nil)))
  (dss_one (ds_ret (dv 2)))))
theorem sc_law_table : FnScope ["_law_bag_here", "_law_most", "_law_wide", "_law_gaps", "_law_found", "_law_gap", "_law_k"] ["_law_bag_here", "_law_most"] (defScope s_law_table) := ⟨rfl, rfl, rfl, by decide +kernel, rfl, by decide +kernel, by decide +kernel⟩
def b_law_table_0 : MS := (sAsg (mCall m_law_one [] (mCons (mVar 0) (mCons (mAp (oLst false) (mCons (mC (.int 1)) (mCons (mC (.int 3)) (mCons (mC (.int 10)) (mCons (mC (.int 1000000)) mNil))))) mNil))) (gN 2))
def b_law_table_1 : MS := (sAsg (mAp (oSortL false) (mCons (mLc false (mRng1 (mVar 1)) (Tgt.nm 6).M tYesM (mOp oSub (mCall m_law_take [] (mCons (mVar 0) (mCons (mOp oAdd (mOp oMul (mC (.int 2)) (mVar 2)) (mC (.int 1))) mNil))) (mVar 2)) [6]) mNil)) (gN 3))
def b_law_table_2 : MS := (sAsg (mAp (oLst true) (mCons (mOp oSub (mCall m_law_take [] (mCons (mVar 0) (mCons (mC (.int 21)) mNil))) (mC (.int 10))) mNil)) (gN 4))
def b_law_table_3b_0 : MS := (sDrop (mAppend (mVar 4) (mOp oAdd (mOp oIx (mVar 4) (mUn oNeg (mC (.int 1)))) (mVar 5))))
def b_law_table_3 : MS := (sFor (mSeq (mVar 3)) (Tgt.nm 5).M b_law_table_3b_0)
def b_law_table_4 : MS := (sRet (mAp oTupOf (mCons (mVar 4) mNil)))
def b_law_table : MS := (sSeq b_law_table_0 (sSeq b_law_table_1 (sSeq b_law_table_2 (sSeq b_law_table_3 b_law_table_4))))
def m_law_table : MF := mDef 2 7 b_law_table
theorem e_law_table (x0 x1 : D) (C : Store) : m_law_table [x0, x1] C = finS C.length (b_law_table ⟨C.length, [some x0, some x1, none, none, none, none, none]⟩ C) := mDef_e rfl rfl
theorem ar_law_table : Ar 2 m_law_table := mDef_ar
theorem ok_law_table (T : Txt K mg) : ∃ fd, FnG P w K mg base 3 (a_law_table K) fd ["_law_bag_here", "_law_most"] (SpD (cn K) 2 m_law_table) ∧ Binds K fd ["_law_bag_here", "_law_most"] [] ∧ PySem.W.keepIn K (.ref (a_law_table K)) = true := by
  obtain ⟨fd_law_one, F_law_one, B_law_one, kp_law_one⟩ := ok_law_one (P := P) (w := w) (base := base) T
  obtain ⟨fd_law_take, F_law_take, B_law_take, kp_law_take⟩ := ok_law_take (P := P) (w := w) (base := base) T
  obtain ⟨fd, F⟩ := T.f_law_table
  refine ⟨fd, fn_ok (k := cn K) F sc_law_table (by decide) fun cdv A outer s H E hr => ?_, F.bindsN fun _ _ _ _ _ _ us hl => match us, hl with | [_, _], _ => rfl, F.kp⟩
  have tk : Takes (cxOf (L2.CX P w) P w K mg base ["_law_bag_here", "_law_most", "_law_wide", "_law_gaps", "_law_found", "_law_gap", "_law_k"] "_law_table" (defScope s_law_table) (a_law_table K) cdv A outer s H E) (fun c d _ H => E c d H) := takes_of rfl rfl rfl rfl
  exact (dss_cons (ds_set (i := 2) sc_law_table.nd rfl (Or.inr rfl) (de_call tk F_law_one ar_law_one (hr.mono (by decide)) (by rfl) T.g_law_one kp_law_one B_law_one .nil (fun _ _ _ => .nil) (da_cons (dv 0) (da_cons (de_lst false (da_cons de_int (da_cons de_int (da_cons de_int (da_cons de_int da_nil))))) da_nil))))
  (dss_cons (ds_set (i := 3) sc_law_table.nd rfl (Or.inl rfl) (de_callB (cr_sortA hr.u200) d_sortL (by rfl) T.n_sorted (by decide +kernel) (da_cons (de_lc (own := [("_law_k", 6)]) false rfl rfl sc_law_table.nd (di_rng1 (by rfl) T.n_range (dv 1)) (blkOk_by (own := [("_law_k", 6)]) rfl) (by decide) (fun _ _ _ _ _ => (tg_nm (i := 6) sc_law_table.nd rfl (by first | exact Or.inl rfl | exact Or.inr rfl))) (fun _ _ _ _ _ => dts_nil) (fun _ _ _ _ _ => (de_op op_sub d_sub (de_call takes0 F_law_take ar_law_take (hr.mono (by decide)) (by rfl) T.g_law_take kp_law_take B_law_take .nil (fun _ _ _ => .nil) (da_cons (dv 0) (da_cons (de_op op_add d_add (de_op op_mul d_mul de_int (dv 2)) de_int) da_nil))) (dv 2)))) da_nil)))
  (dss_cons (ds_set (i := 4) sc_law_table.nd rfl (Or.inl rfl) (de_lst true (da_cons (de_op op_sub d_sub (de_call tk F_law_take ar_law_take (hr.mono (by decide)) (by rfl) T.g_law_take kp_law_take B_law_take .nil (fun _ _ _ => .nil) (da_cons (dv 0) (da_cons de_int da_nil))) de_int) da_nil)))
  (dss_cons (ds_for (passes_of rfl) rfl (di_seq rfl (dv 3)) (tg_nm (i := 5) sc_law_table.nd rfl (Or.inl rfl)) (dss_one (ds_expr (de_append rfl (dv 4) (de_op op_add d_add (de_ix ix_seq d_ix (dv 4) (de_un un_neg d_neg de_int)) (dv 5))))))
  (dss_one (ds_ret (de_callTy call_tuple_of d_tupOf (by rfl) T.n_tuple (by decide +kernel) (da_cons (dv 4) da_nil))))))))
theorem sc_law_cost : FnScope ["_law_tables", "_law_row", "_law_table_here", "_law_x"] ["_law_tables", "_law_row"] (defScope s_law_cost) := ⟨rfl, rfl, rfl, by decide +kernel, rfl, by decide +kernel, by decide +kernel⟩
def b_law_cost : MS := (sRet (mAp oSum (mCons (mLc false (mZipX (mCons (mVar 0) (mCons (mVar 1) mNil))) (Tgt.tp [2, 3]).M tYesM (mOp oIx (mVar 2) (mVar 3)) [2, 3]) mNil)))
def m_law_cost : MF := mDef 2 4 b_law_cost
theorem e_law_cost (x0 x1 : D) (C : Store) : m_law_cost [x0, x1] C = finS C.length (b_law_cost ⟨C.length, [some x0, some x1, none, none]⟩ C) := mDef_e rfl rfl
theorem ar_law_cost : Ar 2 m_law_cost := mDef_ar
theorem ok_law_cost (T : Txt K mg) : ∃ fd, FnG P w K mg base 1 (a_law_cost K) fd ["_law_tables", "_law_row"] (SpD (cn K) 2 m_law_cost) ∧ Binds K fd ["_law_tables", "_law_row"] [] ∧ PySem.W.keepIn K (.ref (a_law_cost K)) = true := by
  obtain ⟨fd, F⟩ := T.f_law_cost
  refine ⟨fd, fn_ok (k := cn K) F sc_law_cost (by decide) fun cdv A outer s H E hr => ?_, F.bindsN fun _ _ _ _ _ _ us hl => match us, hl with | [_, _], _ => rfl, F.kp⟩
  have tk : Takes (cxOf (L2.CX P w) P w K mg base ["_law_tables", "_law_row", "_law_table_here", "_law_x"] "_law_cost" (defScope s_law_cost) (a_law_cost K) cdv A outer s H E) (fun c d _ H => E c d H) := takes_of rfl rfl rfl rfl
  exact (dss_one (ds_ret (de_callB (cr_sum rfl) d_sum (by rfl) T.n_sum (by decide +kernel) (da_cons (de_lc (own := [("_law_table_here", 2), ("_law_x", 3)]) false rfl rfl sc_law_cost.nd (di_zipX (by rfl) T.n_zip rfl (da_cons (dv 0) (da_cons (dv 1) da_nil))) (blkOk_by (own := [("_law_table_here", 2), ("_law_x", 3)]) rfl) (by decide) (fun _ _ _ _ _ => (tg_tp [2, 3] rfl rfl (pgs_cons (pg_name (i := 2) sc_law_cost.nd rfl (by first | exact Or.inl rfl | exact Or.inr rfl)) (pgs_cons (pg_name (i := 3) sc_law_cost.nd rfl (by first | exact Or.inl rfl | exact Or.inr rfl)) pgs_nil)))) (fun _ _ _ _ _ => dts_nil) (fun _ _ _ _ _ => (de_ix ix_seq d_ix (dv 2) (dv 3)))) da_nil))))
theorem sc_law_exchanged : FnScope ["_law_web", "_law_rows", "_law_one_here", "_law_other", "_law_step", "_law_first", "_law_last", "_law_found", "_law_place", "_law_sign", "_law_near", "_law_far"] ["_law_web", "_law_rows", "_law_one_here", "_law_other"] (defScope s_law_exchanged) := ⟨rfl, rfl, rfl, by decide +kernel, rfl, by decide +kernel, by decide +kernel⟩
def b_law_exchanged_0b_0 : MS := (sAsg (mCall m_law_moved [] (mCons (mVar 2) (mCons (mAp (oLst false) (mCons (mVar 4) mNil)) mNil))) (gN 5))
def b_law_exchanged_0b_1 : MS := (sAsg (mCall m_law_moved [] (mCons (mVar 3) (mCons (mAp (oLst false) (mCons (mAp oTup (mCons (mOp oIx (mVar 4) (mC (.int 0))) (mCons (mUn oNeg (mOp oIx (mVar 4) (mC (.int 1)))) mNil))) mNil)) mNil))) (gN 6))
def b_law_exchanged_0b_2 : MS := (sAsg (mAp (oLst true) mNil) (gN 7))
def b_law_exchanged_0b_3b_0 : MS := (sPar [10, 11] (mCons (mCall m_law_moved [] (mCons (mVar 5) (mCons (mAp (oLst false) (mCons (mAp oTup (mCons (mVar 8) (mCons (mVar 9) mNil))) mNil)) mNil))) (mCons (mCall m_law_moved [] (mCons (mVar 6) (mCons (mAp (oLst false) (mCons (mAp oTup (mCons (mVar 8) (mCons (mUn oNeg (mVar 9)) mNil))) mNil)) mNil))) mNil)))
def b_law_exchanged_0b_3b_1 : MS := (sDrop (mAppend (mVar 7) (mAnd (mOp (oInD false) (mVar 10) (mVar 1)) (mOp (oInD false) (mVar 11) (mVar 1)))))
def b_law_exchanged_0b_3 : MS := (sFor (mSeq (mCall m_second_steps [] (mCons (mVar 0) (mCons (mVar 2) (mCons (mVar 3) (mCons (mVar 4) mNil)))))) (Tgt.tp [8, 9]).M (sSeq b_law_exchanged_0b_3b_0 b_law_exchanged_0b_3b_1))
def b_law_exchanged_0b_4 : MS := (sIf (mTst (mOp (oInD true) (mC (.bl true)) (mVar 7))) (sRet (mC (.bl false))) sNext)
def b_law_exchanged_0 : MS := (sFor (mSeq (mCall m_law_towards [] (mCons (mVar 2) (mCons (mVar 3) mNil)))) (Tgt.nm 4).M (sSeq b_law_exchanged_0b_0 (sSeq b_law_exchanged_0b_1 (sSeq b_law_exchanged_0b_2 (sSeq b_law_exchanged_0b_3 b_law_exchanged_0b_4)))))
def b_law_exchanged_1 : MS := (sRet (mC (.bl true)))
def b_law_exchanged : MS := (sSeq b_law_exchanged_0 b_law_exchanged_1)
def m_law_exchanged : MF := mDef 4 12 b_law_exchanged
theorem e_law_exchanged (x0 x1 x2 x3 : D) (C : Store) : m_law_exchanged [x0, x1, x2, x3] C = finS C.length (b_law_exchanged ⟨C.length, [some x0, some x1, some x2, some x3, none, none, none, none, none, none, none, none]⟩ C) := mDef_e rfl rfl
theorem ar_law_exchanged : Ar 4 m_law_exchanged := mDef_ar
theorem ok_law_exchanged (T : Txt K mg) : ∃ fd, FnG P w K mg base 7 (a_law_exchanged K) fd ["_law_web", "_law_rows", "_law_one_here", "_law_other"] (SpD (cn K) 4 m_law_exchanged) ∧ Binds K fd ["_law_web", "_law_rows", "_law_one_here", "_law_other"] [] ∧ PySem.W.keepIn K (.ref (a_law_exchanged K)) = true := by
  obtain ⟨fd_law_towards, F_law_towards, B_law_towards, kp_law_towards⟩ := ok_law_towards (P := P) (w := w) (base := base) T
  obtain ⟨fd_law_moved, F_law_moved, B_law_moved, kp_law_moved⟩ := ok_law_moved (P := P) (w := w) (base := base) T
  obtain ⟨fd_second_steps, F_second_steps, B_second_steps, kp_second_steps⟩ := ok_second_steps (P := P) (w := w) (base := base) T
  obtain ⟨fd, F⟩ := T.f_law_exchanged
  refine ⟨fd, fn_ok (k := cn K) F sc_law_exchanged (by decide) fun cdv A outer s H E hr => ?_, F.bindsN fun _ _ _ _ _ _ us hl => match us, hl with | [_, _, _, _], _ => rfl, F.kp⟩
  have tk : Takes (cxOf (L2.CX P w) P w K mg base ["_law_web", "_law_rows", "_law_one_here", "_law_other", "_law_step", "_law_first", "_law_last", "_law_found", "_law_place", "_law_sign", "_law_near", "_law_far"] "_law_exchanged" (defScope s_law_exchanged) (a_law_exchanged K) cdv A outer s H E) (fun c d _ H => E c d H) := takes_of rfl rfl rfl rfl
  exact (dss_cons (ds_for (passes_of rfl) rfl (di_seq rfl (de_call tk F_law_towards ar_law_towards (hr.mono (by decide)) (by rfl) T.g_law_towards kp_law_towards B_law_towards .nil (fun _ _ _ => .nil) (da_cons (dv 2) (da_cons (dv 3) da_nil)))) (tg_nm (i := 4) sc_law_exchanged.nd rfl (Or.inl rfl)) (dss_cons (ds_set (i := 5) sc_law_exchanged.nd rfl (Or.inl rfl) (de_call tk F_law_moved ar_law_moved (hr.mono (by decide)) (by rfl) T.g_law_moved kp_law_moved B_law_moved .nil (fun _ _ _ => .nil) (da_cons (dv 2) (da_cons (de_lst false (da_cons (dv 4) da_nil)) da_nil))))
  (dss_cons (ds_set (i := 6) sc_law_exchanged.nd rfl (Or.inl rfl) (de_call tk F_law_moved ar_law_moved (hr.mono (by decide)) (by rfl) T.g_law_moved kp_law_moved B_law_moved .nil (fun _ _ _ => .nil) (da_cons (dv 3) (da_cons (de_lst false (da_cons (de_tup (da_cons (de_ix ix_seq d_ix (dv 4) de_int) (da_cons (de_un un_neg d_neg (de_ix ix_seq d_ix (dv 4) de_int)) da_nil))) da_nil)) da_nil))))
  (dss_cons (ds_set (i := 7) sc_law_exchanged.nd rfl (Or.inl rfl) (de_lst true da_nil))
  (dss_cons (ds_for (passes_of rfl) rfl (di_seq rfl (de_call tk F_second_steps ar_second_steps (hr.mono (by decide)) (by rfl) T.g_second_steps kp_second_steps B_second_steps .nil (fun _ _ _ => .nil) (da_cons (dv 0) (da_cons (dv 2) (da_cons (dv 3) (da_cons (dv 4) da_nil)))))) (tg_tp [8, 9] rfl rfl (pgs_cons (pg_name (i := 8) sc_law_exchanged.nd rfl (Or.inl rfl)) (pgs_cons (pg_name (i := 9) sc_law_exchanged.nd rfl (Or.inl rfl)) pgs_nil))) (dss_cons (ds_par (i := 10) (j := 11) rfl sc_law_exchanged.nd rfl rfl (by decide) rfl rfl (da_cons (de_call tk F_law_moved ar_law_moved (hr.mono (by decide)) (by rfl) T.g_law_moved kp_law_moved B_law_moved .nil (fun _ _ _ => .nil) (da_cons (dv 5) (da_cons (de_lst false (da_cons (de_tup (da_cons (dv 8) (da_cons (dv 9) da_nil))) da_nil)) da_nil))) (da_cons (de_call tk F_law_moved ar_law_moved (hr.mono (by decide)) (by rfl) T.g_law_moved kp_law_moved B_law_moved .nil (fun _ _ _ => .nil) (da_cons (dv 6) (da_cons (de_lst false (da_cons (de_tup (da_cons (dv 8) (da_cons (de_un un_neg d_neg (dv 9)) da_nil))) da_nil)) da_nil))) da_nil)))
  (dss_one (ds_expr (de_append rfl (dv 7) (de_and (de_cmp (op_inA hr.u65) d_inD (dv 10) (dv 1) (by with_unfolding_all rfl)) (de_one (de_cmp (op_inA hr.u65) d_inD (dv 11) (dv 1) (by with_unfolding_all rfl)))))))))
  (dss_one (ds_if (dt_cmp (op_notInA hr.u65) d_inD de_bl (dv 7) (by with_unfolding_all rfl)) (dss_one (ds_ret de_bl)) dss_nil)))))))
  (dss_one (ds_ret de_bl)))
theorem sc_law : FnScope ["_law_script", "_law_bag_here", "_law_trip", "_law_size", "_law_ties", "_law_web", "_law_grid_here", "_law_limits", "_law_rows", "_law_menu", "_law_tables", "_law_limit", "_law_table_here", "_law_least", "_law_due", "_law_asking", "_law_found", "_law_one_here", "_law_other", "_law_lane", "_law_k", "_law_row"] ["_law_script"] (defScope s_law) := ⟨rfl, rfl, rfl, by decide +kernel, rfl, by decide +kernel, by decide +kernel⟩
def b_law_0 : MS := (sAsg (mCall m_law_bag [] (mCons (mVar 0) mNil)) (gN 1))
def b_law_1b_0 : MS := (sAsg (mCall m_law_one [] (mCons (mVar 1) (mCons (mAp (oLst false) (mCons (mC (.int 3)) (mCons (mC (.int 4)) (mCons (mC (.int 5)) (mCons (mC (.int 2)) (mCons (mC (.int 1)) (mCons (mC (.int 0)) mNil))))))) mNil))) (gN 3))
def b_law_1b_1 : MS := (sAsg (mCall m_law_light [] (mCons (mVar 1) (mCons (mVar 3) (mCons (mCall m_law_one [] (mCons (mVar 1) (mCons (mAp (oLst false) (mCons (mC (.int 30)) (mCons (mC (.int 8)) (mCons (mC (.int 60)) mNil)))) mNil))) mNil)))) (gN 4))
def b_law_1b_2 : MS := (sIf (tAndM (mTst (mOp (oEqA false) (mVar 2) (mC (.int 0)))) (mTst (mOp (oEqA false) (mCall m_law_take [] (mCons (mVar 1) (mCons (mC (.int 16)) mNil))) (mC (.int 15))))) (sPar [3, 4] (mCons (mC (.int 3)) (mCons (mAp (oLst false) (mCons (mAp oTup (mCons (mC (.int 0)) (mCons (mC (.int 1)) (mCons (mC (.int 31)) mNil)))) (mCons (mAp oTup (mCons (mC (.int 1)) (mCons (mC (.int 2)) (mCons (mC (.int 31)) mNil)))) mNil))) mNil))) sNext)
def b_law_1b_3 : MS := (sPar [5, 6] (mCons (mMake false 0 3 m_Web__init [] (mCons (mVar 3) (mCons (mVar 4) mNil))) (mCons (mCall m_law_grid [] (mCons (mVar 3) (mCons (mVar 4) mNil))) mNil)))
def b_law_1b_4 : MS := (sAsg (mLc false (mSeq (mVar 6)) (Tgt.nm 19).M tYesM (mAp oSum (mCons (mVar 19) mNil)) [19]) (gN 7))
def b_law_1b_5 : MS := (sAsg (mAp (oSortE false) (mCons (mCall m_law_counts [] (mCons (mVar 3) (mCons (mCall m_law_numbers [] (mCons (mVar 3) (mCons (mVar 4) mNil))) mNil))) mNil)) (gN 8))
def b_law_1b_6 : MS := (sAsg (mAp oTup (mCons (mCall m_law_take [] (mCons (mVar 1) (mCons (mC (.int 3)) mNil))) (mCons (mAp (oLst true) mNil) mNil))) (Tgt.tp [9, 10]).M)
def b_law_1b_7b_0 : MS := (sAsg (mCall m_law_table [] (mCons (mVar 1) (mCons (mVar 11) mNil))) (gN 12))
def b_law_1b_7b_1 : MS := (sIf (mTst (mOp (oEqA false) (mVar 9) (mC (.int 0)))) (sAsg (mAp oTupOf (mCons (mLc false (mRng1 (mOp oAdd (mVar 11) (mC (.int 1)))) (Tgt.nm 20).M tYesM (mAp oMax3 (mCons (mC (.int 1)) (mCons (mOp oSub (mVar 20) (mC (.int 1))) (mCons (mOp oSub (mC (.int 2)) (mVar 20)) mNil)))) [20]) mNil)) (gN 12)) sNext)
def b_law_1b_7b_2 : MS := (sIf (tAndM (mTst (mOp (oEqA false) (mVar 9) (mC (.int 1)))) (mTst (mOp (oEqA false) (mCall m_law_take [] (mCons (mVar 1) (mCons (mC (.int 2)) mNil))) (mC (.int 0))))) (sAsg (mOp oRepA (mAp oTup (mCons (mC (.int 5)) mNil)) (mOp oAdd (mVar 11) (mC (.int 1)))) (gN 12)) sNext)
def b_law_1b_7b_3 : MS := (sDrop (mAppend (mVar 10) (mVar 12)))
def b_law_1b_7 : MS := (sFor (mSeq (mVar 7)) (Tgt.nm 11).M (sSeq b_law_1b_7b_0 (sSeq b_law_1b_7b_1 (sSeq b_law_1b_7b_2 b_law_1b_7b_3))))
def b_law_1b_8 : MS := (sAsg (mAp oTupOf (mCons (mVar 10) mNil)) (gN 10))
def b_law_1b_9 : MS := (sAsg (mAp (oMn1 min) (mCons (mLc false (mSeq (mVar 8)) (Tgt.nm 21).M tYesM (mCall m_law_cost [] (mCons (mVar 10) (mCons (mVar 21) mNil))) [21]) mNil)) (gN 13))
def b_law_1b_10 : MS := (sAsg (mLc false (mSeq (mVar 8)) (Tgt.nm 21).M (mTst (mOp (oEqA false) (mCall m_law_cost [] (mCons (mVar 10) (mCons (mVar 21) mNil))) (mVar 13))) (mVar 21) [21]) (gN 14))
def b_law_1b_11b_0 : MS := (sAsg (mCall m_best_rows [] (mCons (mVar 5) (mCons (mVar 10) mNil))) (gN 16))
def b_law_1b_11b_1 : MS := (sIf (tNotM (mTst (mCall m_law_alike [] (mCons (mVar 16) (mCons (mVar 14) mNil))))) (sRet (mC (.bl false))) sNext)
def b_law_1b_11b_2 : MS := (sDrop (mReverse (mVar 16)))
def b_law_1b_11b_3 : MS := (sDrop (mAppend (mVar 16) (mAp oTup mNil)))
def b_law_1b_11 : MS := (sFor (mRng1 (mC (.int 3))) (Tgt.nm 15).M (sSeq b_law_1b_11b_0 (sSeq b_law_1b_11b_1 (sSeq b_law_1b_11b_2 b_law_1b_11b_3))))
def b_law_1b_12 : MS := (sPar [17, 18] (mCons (mCall m_law_one [] (mCons (mVar 1) (mCons (mVar 14) mNil))) (mCons (mCall m_law_one [] (mCons (mVar 1) (mCons (mVar 14) mNil))) mNil)))
def b_law_1b_13 : MS := (sIf (tOrM (tNotM (mTst (mCall m_law_exchanged [] (mCons (mVar 5) (mCons (mVar 14) (mCons (mVar 17) (mCons (mVar 18) mNil))))))) (tNotM (mTst (mCall m_law_exchanged [] (mCons (mVar 5) (mCons (mVar 14) (mCons (mOp oIx (mVar 14) (mC (.int 0))) (mCons (mOp oIx (mVar 14) (mUn oNeg (mC (.int 1)))) mNil)))))))) (sRet (mC (.bl false))) sNext)
def b_law_1 : MS := (sFor (mRng1 (mC (.int 2))) (Tgt.nm 2).M (sSeq b_law_1b_0 (sSeq b_law_1b_1 (sSeq b_law_1b_2 (sSeq b_law_1b_3 (sSeq b_law_1b_4 (sSeq b_law_1b_5 (sSeq b_law_1b_6 (sSeq b_law_1b_7 (sSeq b_law_1b_8 (sSeq b_law_1b_9 (sSeq b_law_1b_10 (sSeq b_law_1b_11 (sSeq b_law_1b_12 b_law_1b_13))))))))))))))
def b_law_2 : MS := (sRet (mC (.bl true)))
def b_law : MS := (sSeq b_law_0 (sSeq b_law_1 b_law_2))
def m_law : MF := mDef 1 22 b_law
theorem e_law (x0 : D) (C : Store) : m_law [x0] C = finS C.length (b_law ⟨C.length, [some x0, none, none, none, none, none, none, none, none, none, none, none, none, none, none, none, none, none, none, none, none, none]⟩ C) := mDef_e rfl rfl
theorem ok_law (T : Txt K mg) : ∃ fd, FnG P w K mg base 8 (a_law K) fd ["_law_script"] (SpD (cn K) 1 m_law) ∧ Binds K fd ["_law_script"] [] ∧ PySem.W.keepIn K (.ref (a_law K)) = true := by
  obtain ⟨fd_law_bag, F_law_bag, B_law_bag, kp_law_bag⟩ := ok_law_bag (P := P) (w := w) (base := base) T
  obtain ⟨fd_law_one, F_law_one, B_law_one, kp_law_one⟩ := ok_law_one (P := P) (w := w) (base := base) T
  obtain ⟨fd_law_light, F_law_light, B_law_light, kp_law_light⟩ := ok_law_light (P := P) (w := w) (base := base) T
  obtain ⟨fd_law_take, F_law_take, B_law_take, kp_law_take⟩ := ok_law_take (P := P) (w := w) (base := base) T
  obtain ⟨fd_law_grid, F_law_grid, B_law_grid, kp_law_grid⟩ := ok_law_grid (P := P) (w := w) (base := base) T
  obtain ⟨fd_Web__init, F_Web__init, B_Web__init, kp_Web__init, ds_Web__init, vd_Web__init, Bd_Web__init⟩ := ok_Web__init (P := P) (w := w) (base := base) T
  obtain ⟨fd_law_counts, F_law_counts, B_law_counts, kp_law_counts⟩ := ok_law_counts (P := P) (w := w) (base := base) T
  obtain ⟨fd_law_numbers, F_law_numbers, B_law_numbers, kp_law_numbers⟩ := ok_law_numbers (P := P) (w := w) (base := base) T
  obtain ⟨fd_law_table, F_law_table, B_law_table, kp_law_table⟩ := ok_law_table (P := P) (w := w) (base := base) T
  obtain ⟨fd_law_cost, F_law_cost, B_law_cost, kp_law_cost⟩ := ok_law_cost (P := P) (w := w) (base := base) T
  obtain ⟨fd_best_rows, F_best_rows, B_best_rows, kp_best_rows⟩ := ok_best_rows (P := P) (w := w) (base := base) T
  obtain ⟨fd_law_alike, F_law_alike, B_law_alike, kp_law_alike⟩ := ok_law_alike (P := P) (w := w) (base := base) T
  obtain ⟨fd_law_exchanged, F_law_exchanged, B_law_exchanged, kp_law_exchanged⟩ := ok_law_exchanged (P := P) (w := w) (base := base) T
  obtain ⟨fd, F⟩ := T.f_law
  refine ⟨fd, fn_ok (k := cn K) F sc_law (by decide) fun cdv A outer s H E hr => ?_, F.bindsN fun _ _ _ _ _ _ us hl => match us, hl with | [_], _ => rfl, F.kp⟩
  have tk : Takes (cxOf (L2.CX P w) P w K mg base ["_law_script", "_law_bag_here", "_law_trip", "_law_size", "_law_ties", "_law_web", "_law_grid_here", "_law_limits", "_law_rows", "_law_menu", "_law_tables", "_law_limit", "_law_table_here", "_law_least", "_law_due", "_law_asking", "_law_found", "_law_one_here", "_law_other", "_law_lane", "_law_k", "_law_row"] "law" (defScope s_law) (a_law K) cdv A outer s H E) (fun c d _ H => E c d H) := takes_of rfl rfl rfl rfl
  exact (dss_cons (ds_set (i := 1) sc_law.nd rfl (Or.inl rfl) (de_call tk F_law_bag ar_law_bag (hr.mono (by decide)) (by rfl) T.g_law_bag kp_law_bag B_law_bag .nil (fun _ _ _ => .nil) (da_cons (dv 0) da_nil)))
  (dss_cons (ds_for (passes_of rfl) rfl (di_rng1 (by rfl) T.n_range de_int) (tg_nm (i := 2) sc_law.nd rfl (Or.inl rfl)) (dss_cons (ds_set (i := 3) sc_law.nd rfl (Or.inl rfl) (de_call tk F_law_one ar_law_one (hr.mono (by decide)) (by rfl) T.g_law_one kp_law_one B_law_one .nil (fun _ _ _ => .nil) (da_cons (dv 1) (da_cons (de_lst false (da_cons de_int (da_cons de_int (da_cons de_int (da_cons de_int (da_cons de_int (da_cons de_int da_nil))))))) da_nil))))
  (dss_cons (ds_set (i := 4) sc_law.nd rfl (Or.inl rfl) (de_call tk F_law_light ar_law_light (hr.mono (by decide)) (by rfl) T.g_law_light kp_law_light B_law_light .nil (fun _ _ _ => .nil) (da_cons (dv 1) (da_cons (dv 3) (da_cons (de_call tk F_law_one ar_law_one (hr.mono (by decide)) (by rfl) T.g_law_one kp_law_one B_law_one .nil (fun _ _ _ => .nil) (da_cons (dv 1) (da_cons (de_lst false (da_cons de_int (da_cons de_int (da_cons de_int da_nil)))) da_nil))) da_nil)))))
  (dss_cons (ds_if (PW.pt (dw_and (dt_cmp (op_eq.or (op_eqD hr.room.units)) d_eqA (dv 2) de_int (nomark _)) (dw_and1 (dt_cmp (op_eq.or (op_eqD hr.room.units)) d_eqA (de_call tk F_law_take ar_law_take (hr.mono (by decide)) (by rfl) T.g_law_take kp_law_take B_law_take .nil (fun _ _ _ => .nil) (da_cons (dv 1) (da_cons de_int da_nil))) de_int (nomark _))))) (dss_one (ds_par (i := 3) (j := 4) rfl sc_law.nd rfl rfl (by decide) rfl rfl (da_cons de_int (da_cons (de_lst false (da_cons (de_tup (da_cons de_int (da_cons de_int (da_cons de_int da_nil)))) (da_cons (de_tup (da_cons de_int (da_cons de_int (da_cons de_int da_nil)))) da_nil))) da_nil)))) dss_nil)
  (dss_cons (ds_par (i := 5) (j := 6) rfl sc_law.nd rfl rfl (by decide) rfl rfl (da_cons (de_make false 0 3 tk rfl T.mk_Web F_Web__init ar_Web__init rfl (hr.mono (by decide)) (by rfl) T.g_Web B_Web__init .nil (fun _ _ _ => .nil) (da_cons (dv 3) (da_cons (dv 4) da_nil))) (da_cons (de_call tk F_law_grid ar_law_grid (hr.mono (by decide)) (by rfl) T.g_law_grid kp_law_grid B_law_grid .nil (fun _ _ _ => .nil) (da_cons (dv 3) (da_cons (dv 4) da_nil))) da_nil)))
  (dss_cons (ds_setLc (i := 7) (own := [("_law_lane", 19)]) false rfl rfl sc_law.nd rfl rfl (sw_true rfl rfl rfl (by decide +kernel)) (di_seq rfl (dv 6)) (blkOk_by (own := [("_law_lane", 19)]) rfl) (by decide) (fun _ _ _ _ _ => (tg_nm (i := 19) sc_law.nd rfl (by first | exact Or.inl rfl | exact Or.inr rfl))) (fun _ _ _ _ _ => dts_nil) (fun _ _ _ _ _ => (de_callB (cr_sum rfl) d_sum (by rfl) T.n_sum (by decide +kernel) (da_cons (dv 19) da_nil))))
  (dss_cons (ds_set (i := 8) sc_law.nd rfl (Or.inl rfl) (de_callB ((cr_sortT rfl hr.u200).or (cr_sort1 rfl hr.u200)) d_sortE (by rfl) T.n_sorted (by decide +kernel) (da_cons (de_call tk F_law_counts ar_law_counts (hr.mono (by decide)) (by rfl) T.g_law_counts kp_law_counts B_law_counts .nil (fun _ _ _ => .nil) (da_cons (dv 3) (da_cons (de_call tk F_law_numbers ar_law_numbers (hr.mono (by decide)) (by rfl) T.g_law_numbers kp_law_numbers B_law_numbers .nil (fun _ _ _ => .nil) (da_cons (dv 3) (da_cons (dv 4) da_nil))) da_nil))) da_nil)))
  (dss_cons (ds_asgT (de_tup (da_cons (de_call tk F_law_take ar_law_take (hr.mono (by decide)) (by rfl) T.g_law_take kp_law_take B_law_take .nil (fun _ _ _ => .nil) (da_cons (dv 1) (da_cons de_int da_nil))) (da_cons (de_lst true da_nil) da_nil))) (tg_tp [9, 10] rfl rfl (pgs_cons (pg_name (i := 9) sc_law.nd rfl (Or.inl rfl)) (pgs_cons (pg_name (i := 10) sc_law.nd rfl (Or.inr rfl)) pgs_nil))))
  (dss_cons (ds_for (passes_of rfl) rfl (di_seq rfl (dv 7)) (tg_nm (i := 11) sc_law.nd rfl (Or.inl rfl)) (dss_cons (ds_set (i := 12) sc_law.nd rfl (Or.inl rfl) (de_call tk F_law_table ar_law_table (hr.mono (by decide)) (by rfl) T.g_law_table kp_law_table B_law_table .nil (fun _ _ _ => .nil) (da_cons (dv 1) (da_cons (dv 11) da_nil))))
  (dss_cons (ds_if (dt_cmp (op_eq.or (op_eqD hr.room.units)) d_eqA (dv 9) de_int (nomark _)) (dss_one (ds_set (i := 12) sc_law.nd rfl (Or.inl rfl) (de_callTy call_tuple_of d_tupOf (by rfl) T.n_tuple (by decide +kernel) (da_cons (de_lc (own := [("_law_k", 20)]) false rfl rfl sc_law.nd (di_rng1 (by rfl) T.n_range (de_op op_add d_add (dv 11) de_int)) (blkOk_by (own := [("_law_k", 20)]) rfl) (by decide) (fun _ _ _ _ _ => (tg_nm (i := 20) sc_law.nd rfl (by first | exact Or.inl rfl | exact Or.inr rfl))) (fun _ _ _ _ _ => dts_nil) (fun _ _ _ _ _ => (de_callB (call_max3Nu rfl) d_max3 (by rfl) T.n_max (by decide +kernel) (da_cons de_int (da_cons (de_op op_sub d_sub (dv 20) de_int) (da_cons (de_op op_sub d_sub de_int (dv 20)) da_nil)))))) da_nil)))) dss_nil)
  (dss_cons (ds_if (PW.pt (dw_and (dt_cmp (op_eq.or (op_eqD hr.room.units)) d_eqA (dv 9) de_int (nomark _)) (dw_and1 (dt_cmp (op_eq.or (op_eqD hr.room.units)) d_eqA (de_call tk F_law_take ar_law_take (hr.mono (by decide)) (by rfl) T.g_law_take kp_law_take B_law_take .nil (fun _ _ _ => .nil) (da_cons (dv 1) (da_cons de_int da_nil))) de_int (nomark _))))) (dss_one (ds_set (i := 12) sc_law.nd rfl (Or.inl rfl) (de_op (op_repT.or op_rep1T) d_repA (de_tup (da_cons de_int da_nil)) (de_op op_add d_add (dv 11) de_int)))) dss_nil)
  (dss_one (ds_expr (de_append rfl (dv 10) (dv 12))))))))
  (dss_cons (ds_set (i := 10) sc_law.nd rfl (Or.inr rfl) (de_callTy call_tuple_of d_tupOf (by rfl) T.n_tuple (by decide +kernel) (da_cons (dv 10) da_nil)))
  (dss_cons (ds_set (i := 13) sc_law.nd rfl (Or.inr rfl) (de_callB (cr_min1 hr.room.hd hr.u200) (d_mn1 min) (by rfl) T.n_min (by decide +kernel) (da_cons (de_lc (own := [("_law_row", 21)]) false rfl rfl sc_law.nd (di_seq rfl (dv 8)) (blkOk_by (own := [("_law_row", 21)]) rfl) (by decide) (fun _ _ _ _ _ => (tg_nm (i := 21) sc_law.nd rfl (by first | exact Or.inl rfl | exact Or.inr rfl))) (fun _ _ _ _ _ => dts_nil) (fun _ _ _ _ _ => (de_call takes0 F_law_cost ar_law_cost (hr.mono (by decide)) (by rfl) T.g_law_cost kp_law_cost B_law_cost .nil (fun _ _ _ => .nil) (da_cons (dv 10) (da_cons (dv 21) da_nil))))) da_nil)))
  (dss_cons (ds_setLc (i := 14) (own := [("_law_row", 21)]) false rfl rfl sc_law.nd rfl rfl (sw_true rfl rfl rfl (by decide +kernel)) (di_seq rfl (dv 8)) (blkOk_by (own := [("_law_row", 21)]) rfl) (by decide) (fun _ _ _ _ _ => (tg_nm (i := 21) sc_law.nd rfl (by first | exact Or.inl rfl | exact Or.inr rfl))) (fun _ _ _ _ _ => (pts_one (dt_cmp (op_eq.or (op_eqD hr.room.units)) d_eqA (de_call takes0 F_law_cost ar_law_cost (hr.mono (by decide)) (by rfl) T.g_law_cost kp_law_cost B_law_cost .nil (fun _ _ _ => .nil) (da_cons (dv 10) (da_cons (dv 21) da_nil))) (dv 13) (nomark _)))) (fun _ _ _ _ _ => (dv 21)))
  (dss_cons (ds_for (passes_of rfl) rfl (di_rng1 (by rfl) T.n_range de_int) (tg_nm (i := 15) sc_law.nd rfl (Or.inl rfl)) (dss_cons (ds_set (i := 16) sc_law.nd rfl (Or.inl rfl) (de_call tk F_best_rows ar_best_rows (hr.mono (by decide)) (by rfl) T.g_best_rows kp_best_rows B_best_rows .nil (fun _ _ _ => .nil) (da_cons (dv 5) (da_cons (dv 10) da_nil))))
  (dss_cons (ds_if (dt_not (dt_val (de_call tk F_law_alike ar_law_alike (hr.mono (by decide)) (by rfl) T.g_law_alike kp_law_alike B_law_alike .nil (fun _ _ _ => .nil) (da_cons (dv 16) (da_cons (dv 14) da_nil))))) (dss_one (ds_ret de_bl)) dss_nil)
  (dss_cons (ds_expr (de_reverse rfl (dv 16)))
  (dss_one (ds_expr (de_append rfl (dv 16) (de_tup da_nil))))))))
  (dss_cons (ds_par (i := 17) (j := 18) rfl sc_law.nd rfl rfl (by decide) rfl rfl (da_cons (de_call tk F_law_one ar_law_one (hr.mono (by decide)) (by rfl) T.g_law_one kp_law_one B_law_one .nil (fun _ _ _ => .nil) (da_cons (dv 1) (da_cons (dv 14) da_nil))) (da_cons (de_call tk F_law_one ar_law_one (hr.mono (by decide)) (by rfl) T.g_law_one kp_law_one B_law_one .nil (fun _ _ _ => .nil) (da_cons (dv 1) (da_cons (dv 14) da_nil))) da_nil)))
  (dss_one (ds_if (PW.pt (dw_or (dt_not (dt_val (de_call tk F_law_exchanged ar_law_exchanged (hr.mono (by decide)) (by rfl) T.g_law_exchanged kp_law_exchanged B_law_exchanged .nil (fun _ _ _ => .nil) (da_cons (dv 5) (da_cons (dv 14) (da_cons (dv 17) (da_cons (dv 18) da_nil))))))) (dw_or1 (dt_not (dt_val (de_call tk F_law_exchanged ar_law_exchanged (hr.mono (by decide)) (by rfl) T.g_law_exchanged kp_law_exchanged B_law_exchanged .nil (fun _ _ _ => .nil) (da_cons (dv 5) (da_cons (dv 14) (da_cons (de_ix ix_seq d_ix (dv 14) de_int) (da_cons (de_ix ix_seq d_ix (dv 14) (de_un un_neg d_neg de_int)) da_nil)))))))))) (dss_one (ds_ret de_bl)) dss_nil))))))))))))))))
  (dss_one (ds_ret de_bl))))
end
end CL
set_option maxHeartbeats 0
namespace CL
open PySem L2 PySem.Spec PyProof.Rows CT
theorem room0 : RoomG 8 callerA := ⟨⟨rfl, by decide, by decide⟩, rfl⟩
def LT : Prop := ∀ ns : List Int, ns.length ≤ 63 → ∃ C, m_law [scrD ns] [] = .ok (.bl true) C
theorem law_sp (lt : LT) {K : PySem.W.Frag} {H : Hp} {a : Addr} {ns : List Int} (hl : ns.length ≤ 63) (hO : Only H) (h : SqL K H a (ns.map V.int)) : SpD (cn K) 1 m_law [.ref a] H (fun v _ => v = .bl true) fun _ _ _ => False := by
  obtain ⟨C, e⟩ := lt ns hl
  refine ⟨rfl, fun _ => 0, [], [scrD ns], ⟨fun i c z => (nomatch z), fun i j c e z => (nomatch z)⟩, .cons (rep_scr hO h) .nil, ?_⟩
  rw [e]
  intro A' H' v _ _ r
  cases r
  rfl
theorem ob_eq (s : PySem.W.SharedT) : ob s = hk.obs s.abs := obGb_eq s
end CL
section
open PySem PySem.W PySem.Calls PyProof.Rows
theorem CL.holds_of (lt : CL.LT) : PySem.Challenge.rw_contentties_k85_whole_best_rows.Holds := by
  w_on; o_law
  refine HandSHeadRun.head_any (r := OpenLaw.row PySem.Challenge.rw_contentties_k85_whole_best_rows) (q := view (OpenLaw.row PySem.Challenge.rw_contentties_k85_whole_best_rows).prog [54]) (H := CL.hk) (ob := CL.ob) (M := 20000) (loose := CL.loose) (d := HandSHeadRun.topDef (OpenLaw.row PySem.Challenge.rw_contentties_k85_whole_best_rows).prog 54) (kwd := []) CL.ob_eq
    (by kernel_rfl) (fun s => by kernel_rfl) CL.run (by kernel_rfl) (by kernel_rfl) (by kernel_rfl) (by rfl) (by first | assumption | decide +kernel) (by decide +kernel) ⟨rfl, rfl, rfl, rfl, rfl, by decide +kernel⟩ ?hw ?hc
  case hw => w_witness2
  case hc =>
    refine Att.attach_callB (l := PySem.Challenge.rw_contentties_k85_whole_best_rows) (n := 63) rfl (by kernel_rfl) fun w s₀ s₁ mg mb fa o pm cd doc a vs ns G Y ho hd hcd hmg0 hobj hints hlen hbits hg => ?_
    obtain ⟨K, KX, c⟩ := Y
    have hmg : mg ("law" : PySem.Str) = some (.ref fa) := by
      have e : (HandSHeadRun.topDef (OpenLaw.row PySem.Challenge.rw_contentties_k85_whole_best_rows).prog 54).name = ("law" : PySem.Str) := by kernel_rfl
      rw [← e]
      exact hmg0
    have T := CL.txt KX G.T.g c
    have e := hmg.symm.trans T.g_law
    cases e
    exact CT.law_core KX G.T.g G.T.b G.T.builtins G.T.nolimit hg hobj hints (Nat.le_trans hlen (by decide)) (fun base h1 h2 s H e0 q => by
      obtain ⟨fd, F, B, _⟩ := CL.ok_law (P := (PySem.Challenge.rw_contentties_k85_whole_best_rows).prog) (w := w) (base := base) T
      exact F.run callerA [] s H ⟨[.ref a], []⟩ [.ref a] [.ref a] _ _ CL.room0 e0 (B s [.ref a] (fun b o e => (e0.bs b o (h1 b o e)).1) rfl) (.cons rfl .nil) q) (fun H hO hS => CL.law_sp lt hlen hO hS)
end
set_option maxHeartbeats 4000000
/-! E2: loops, comprehensions, dicts worked out. -/
namespace CT
open PySem L2
@[simp] theorem tgt_nm (i : Nat) (d : D) (sl : List (Option D)) : (Tgt.nm i).M d sl = some (sl.set i (some d)) := rfl
@[simp] theorem tgt_tp (is : List Nat) (ds : List D) (sl : List (Option D)) : (Tgt.tp is).M (.tup ds) sl = setAll is ds sl := rfl
@[simp] theorem wipe0 (sl : List (Option D)) : wipeD sl [] = sl := rfl
@[simp] theorem wipe1 (sl : List (Option D)) (v : Nat) (vs : List Nat) : wipeD sl (v :: vs) = (wipeD sl vs).set v none := rfl
/-- what is walked stays: these items -/
structure PureIt (it : ItD) (xs : List D) : Prop where
  n : it.n = xs.length
  item : ∀ j C, j < xs.length → it.item j C = xs[j]?
  fin : ∀ C, it.fin C = true
theorem pure_C (xs : List D) : PureIt (itC xs) xs := ⟨rfl, fun _ _ _ => rfl, fun _ => rfl⟩
def rngI (lo : Int) (n : Nat) : List D := (List.range n).map fun i => D.int (lo + (i : Nat))
theorem pure_R (lo : Int) (n : Nat) : PureIt (itR lo n) (rngI lo n) := ⟨by simp [itR, rngI], fun j C hj => by
  have : j < n := by simpa [rngI] using hj
  simp [itR, rngI, this], fun _ => rfl⟩
theorem pure_P {it : ItD} {xs : List D} (h : PureIt it xs) : PureIt (prI it) ((List.range xs.length).zip xs |>.map fun p => D.tup [.int (p.1 : Nat), p.2]) := by
  refine ⟨by simp [prI, h.n], fun j C hj => ?_, fun C => h.fin C⟩
  have hj' : j < xs.length := by simpa using hj
  show (it.item j C).map _ = _
  rw [h.item j C hj', List.getElem?_map, List.getElem?_eq_getElem hj']
  simp [List.getElem?_zip_eq_some, hj']
/-- a loop that runs through -/
theorem loop_inv {it : ItD} {g : MG} {body : MS} {fl : Nat} (I : Nat → List (Option D) → Store → Prop)
    (step : ∀ j sl C, j < it.n → I j sl C → ∃ d sl1 sl2 C2, it.item j C = some d ∧ g d sl = some sl1 ∧ body ⟨fl, sl1⟩ C = .nx sl2 C2 ∧ I (j + 1) sl2 C2) (fin : ∀ sl C, I it.n sl C → it.fin C = true) :
    ∀ r j sl C, r + j = it.n → I j sl C → ∃ sl' C', loopN it g body fl r j sl C = .nx sl' C' ∧ I it.n sl' C'
  | 0, j, sl, C, h, i => by
    have e : j = it.n := by omega
    subst e
    exact ⟨sl, C, by unfold loopN; rw [if_pos (fin sl C i)], i⟩
  | r + 1, j, sl, C, h, i => by
    obtain ⟨d, sl1, sl2, C2, h1, h2, h3, h4⟩ := step j sl C (by omega) i
    obtain ⟨sl', C', h5, h6⟩ := loop_inv I step fin r (j + 1) sl2 C2 (by omega) h4
    refine ⟨sl', C', ?_, h6⟩
    unfold loopN
    simp only [h1, h2, h3, h5]
/-! ### comprehensions that change nothing -/
theorem lc_go {it : ItD} {xs : List D} (p : PureIt it xs) {g : MG} {tt : MT} {te : ME} {C : Store} {sl : List (Option D)} {f : D → Bool} {h : D → D} (sz : xs.length ≤ 16777215)
    (st : ∀ x ∈ xs, ∃ sl1, g x sl = some sl1 ∧ ∀ acc, tt ⟨C.length, sl1⟩ (C ++ [some (.lst acc)]) = .ok (f x) (C ++ [some (.lst acc)]) ∧ (f x = true → te ⟨C.length, sl1⟩ (C ++ [some (.lst acc)]) = .ok (h x) (C ++ [some (.lst acc)]))) :
    ∀ r j, r + j = xs.length → lcN it g tt te C.length sl r j (C ++ [some (.lst (((xs.take j).filter f).map h))]) = .ok () (C ++ [some (.lst ((xs.filter f).map h))])
  | 0, j, e => by
    have ej : j = xs.length := by omega
    subst ej
    unfold lcN
    rw [if_pos (p.fin _), List.take_length]
  | r + 1, j, e => by
    have hj : j < xs.length := by omega
    obtain ⟨sl1, h1, h2⟩ := st xs[j] (List.getElem_mem hj)
    have ih := lc_go p sz st r (j + 1) (by omega)
    have tk : xs.take (j + 1) = xs.take j ++ [xs[j]] := (List.take_append_getElem hj).symm
    rw [tk, List.filter_append, List.map_append] at ih
    unfold lcN
    rw [p.item j _ hj, List.getElem?_eq_getElem hj]
    simp only [h1]
    obtain ⟨e1, e2⟩ := h2 (((xs.take j).filter f).map h)
    rw [e1]
    simp only [bn0_ok]
    cases hf : f xs[j] with
    | true =>
      rw [if_pos rfl, e2 hf]
      simp only [bn0_ok]
      have at_n : (C ++ [some (Cell.lst (((xs.take j).filter f).map h))])[C.length]? = some (some (.lst (((xs.take j).filter f).map h))) := by simp
      have hz : szN ((((xs.take j).filter f).map h).length + 1) = true := by
        have l1 : ((xs.take j).filter f).length ≤ (xs.take j).length := List.length_filter_le _ _
        have l2 : (xs.take j).length ≤ j := by simp; omega
        simp only [szN, List.length_map, decide_eq_true_eq]
        omega
      rw [at_n]
      simp only [hz, if_true]
      have es : (C ++ [some (Cell.lst (((xs.take j).filter f).map h))]).set C.length (some (.lst (((xs.take j).filter f).map h ++ [h xs[j]]))) = C ++ [some (.lst (((xs.take j).filter f).map h ++ [h xs[j]]))] := by simp
      rw [es]
      simpa [List.filter_cons, hf] using ih
    | false =>
      rw [if_neg (by decide)]
      simpa [List.filter_cons, hf] using ih
/-- [e for t in it if c], nothing changed: plain data -/
theorem ev_lc {mi : MI} {it : ItD} {xs : List D} (p : PureIt it xs) {g : MG} {tt : MT} {te : ME} {vs : List Nat} {F : Fr} {C : Store} (f : D → Bool) (h : D → D) (hi : mi F C = .ok it C) (sz : xs.length ≤ 16777215)
    (st : ∀ x ∈ xs, ∃ sl1, g x (wipeD F.sl vs) = some sl1 ∧ ∀ acc, tt ⟨C.length, sl1⟩ (C ++ [some (.lst acc)]) = .ok (f x) (C ++ [some (.lst acc)]) ∧ (f x = true → te ⟨C.length, sl1⟩ (C ++ [some (.lst acc)]) = .ok (h x) (C ++ [some (.lst acc)])))
    (hc : ∀ x ∈ xs, f x = true → cb C.length (h x) = true) : mLc false mi g tt te vs F C = .ok (.lst ((xs.filter f).map h)) C := by
  have e := lc_go p sz st it.n 0 (by rw [p.n]; omega)
  unfold mLc
  rw [hi]
  simp only [bnd_ok]
  simp only [List.take_zero, List.filter_nil, List.map_nil] at e
  rw [e]
  simp only [bn0_ok]
  have at_n : (C ++ [some (Cell.lst ((xs.filter f).map h))])[C.length]? = some (some (.lst ((xs.filter f).map h))) := by simp
  have hb : cbL C.length ((xs.filter f).map h) = true := by
    have : ∀ l : List D, (∀ x ∈ l, f x = true → cb C.length (h x) = true) → cbL C.length ((l.filter f).map h) = true := by
      intro l
      induction l with
      | nil => intro _; rfl
      | cons x l ih =>
        intro hl
        rw [List.filter_cons]
        split
        · rename_i hx
          show (cb C.length (h x) && cbL C.length ((l.filter f).map h)) = true
          rw [hl x (List.mem_cons_self ..) hx, ih fun y hy => hl y (List.mem_cons_of_mem _ hy)]
          rfl
        · exact ih fun y hy => hl y (List.mem_cons_of_mem _ hy)
    exact this xs hc
  unfold lcEnd
  rw [if_neg (by decide), at_n]
  simp [hb]
theorem ev_rng1 {m : ME} {F : Fr} {C : Store} {j : Int} (h : m F C = .ok (.int j) C) (hj : inR j = true) : mRng1 m F C = .ok (itR 0 j.toNat) C := by
  unfold mRng1
  rw [h]
  simp [hj]
theorem ev_rng2 {m m2 : ME} {F : Fr} {C : Store} {i j : Int} (h : m F C = .ok (.int i) C) (h2 : m2 F C = .ok (.int j) C) (hi : inR i = true) (hj : inR j = true) : mRng2 m m2 F C = .ok (itR i (j - i).toNat) C := by
  unfold mRng2
  rw [h]
  simp [h2, hi, hj]
theorem ev_seqI {m : ME} {F : Fr} {C : Store} {d : D} {it : ItD} (h : m F C = .ok d C) (hi : itS d C = some it) : mSeq m F C = .ok it C := by
  unfold mSeq
  rw [h]
  simp [hi]
theorem ev_enum {m : ME} {F : Fr} {C : Store} {d : D} {it : ItD} (h : m F C = .ok d C) (hi : itS d C = some it) : mEnum m F C = .ok (prI it) C := by
  unfold mEnum
  rw [h]
  simp [hi]
/-! ### two clauses -/
theorem lc_from {it : ItD} {xs : List D} (p : PureIt it xs) {g : MG} {tt : MT} {te : ME} {C : Store} {sl : List (Option D)} {f : D → Bool} {h : D → D} {a0 : List D} (sz : a0.length + xs.length ≤ 16777215)
    (st : ∀ x ∈ xs, ∃ sl1, g x sl = some sl1 ∧ ∀ acc, tt ⟨C.length, sl1⟩ (C ++ [some (.lst acc)]) = .ok (f x) (C ++ [some (.lst acc)]) ∧ (f x = true → te ⟨C.length, sl1⟩ (C ++ [some (.lst acc)]) = .ok (h x) (C ++ [some (.lst acc)]))) :
    ∀ r j, r + j = xs.length → lcN it g tt te C.length sl r j (C ++ [some (.lst (a0 ++ ((xs.take j).filter f).map h))]) = .ok () (C ++ [some (.lst (a0 ++ (xs.filter f).map h))])
  | 0, j, e => by
    have ej : j = xs.length := by omega
    subst ej
    unfold lcN
    rw [if_pos (p.fin _), List.take_length]
  | r + 1, j, e => by
    have hj : j < xs.length := by omega
    obtain ⟨sl1, h1, h2⟩ := st xs[j] (List.getElem_mem hj)
    have ih := lc_from p sz st r (j + 1) (by omega)
    have tk : xs.take (j + 1) = xs.take j ++ [xs[j]] := (List.take_append_getElem hj).symm
    rw [tk, List.filter_append, List.map_append] at ih
    unfold lcN
    rw [p.item j _ hj, List.getElem?_eq_getElem hj]
    simp only [h1]
    obtain ⟨e1, e2⟩ := h2 (a0 ++ ((xs.take j).filter f).map h)
    rw [e1]
    simp only [bn0_ok]
    cases hf : f xs[j] with
    | true =>
      rw [if_pos rfl, e2 hf]
      simp only [bn0_ok]
      have at_n : (C ++ [some (Cell.lst (a0 ++ ((xs.take j).filter f).map h))])[C.length]? = some (some (.lst (a0 ++ ((xs.take j).filter f).map h))) := by simp
      have hz : szN ((a0 ++ ((xs.take j).filter f).map h).length + 1) = true := by
        have l1 : ((xs.take j).filter f).length ≤ (xs.take j).length := List.length_filter_le _ _
        have l2 : (xs.take j).length ≤ j := by simp; omega
        simp only [szN, List.length_append, List.length_map, decide_eq_true_eq]
        omega
      rw [at_n]
      simp only [hz, if_true]
      have es : (C ++ [some (Cell.lst (a0 ++ ((xs.take j).filter f).map h))]).set C.length (some (.lst (a0 ++ ((xs.take j).filter f).map h ++ [h xs[j]]))) = C ++ [some (.lst (a0 ++ ((xs.take j).filter f).map h ++ [h xs[j]]))] := by simp
      rw [es]
      simpa [List.filter_cons, hf] using ih
    | false =>
      rw [if_neg (by decide)]
      simpa [List.filter_cons, hf] using ih
/-- what the two clauses make -/
def flat2 (xs : List D) (ys : D → List D) (f : D → D → Bool) (h : D → D → D) : List D := xs.flatMap fun x => ((ys x).filter (f x)).map (h x)
theorem flat2_len (xs : List D) (ys : D → List D) (f : D → D → Bool) (h : D → D → D) {m : Nat} (hy : ∀ x ∈ xs, (ys x).length ≤ m) : (flat2 xs ys f h).length ≤ xs.length * m := by
  unfold flat2
  induction xs with
  | nil => simp
  | cons x xs ih =>
    have h1 := ih fun y hy' => hy y (List.mem_cons_of_mem _ hy')
    have h2 : (((ys x).filter (f x)).map (h x)).length ≤ m := by
      rw [List.length_map]
      exact Nat.le_trans (List.length_filter_le _ _) (hy x (List.mem_cons_self ..))
    rw [List.flatMap_cons, List.length_append, List.length_cons, Nat.succ_mul]
    omega
theorem lc2_go {it : ItD} {xs : List D} (p : PureIt it xs) {g g1 : MG} {mi1 : MI} {tt1 : MT} {te : ME} {C : Store} {sl : List (Option D)} {vs1 : List Nat} {ys : D → List D} {f : D → D → Bool} {h : D → D → D} {m : Nat} (hy : ∀ x ∈ xs, (ys x).length ≤ m) (sz : xs.length * m ≤ 16000000) (sm : m ≤ 700000)
    (st : ∀ x ∈ xs, ∃ sl1, g x sl = some sl1 ∧ ∀ acc, (∃ it1, PureIt it1 (ys x) ∧ mi1 ⟨C.length, sl1⟩ (C ++ [some (.lst acc)]) = .ok it1 (C ++ [some (.lst acc)])) ∧
      ∀ y ∈ ys x, ∃ sl2, g1 y (wipeD sl1 vs1) = some sl2 ∧ ∀ acc, tt1 ⟨C.length, sl2⟩ (C ++ [some (.lst acc)]) = .ok (f x y) (C ++ [some (.lst acc)]) ∧ (f x y = true → te ⟨C.length, sl2⟩ (C ++ [some (.lst acc)]) = .ok (h x y) (C ++ [some (.lst acc)]))) :
    ∀ r j, r + j = xs.length → lc2N it g tYesM mi1 g1 tt1 te C.length sl vs1 r j (C ++ [some (.lst (flat2 (xs.take j) ys f h))]) = .ok () (C ++ [some (.lst (flat2 xs ys f h))])
  | 0, j, e => by
    have ej : j = xs.length := by omega
    subst ej
    unfold lc2N
    rw [if_pos (p.fin _), List.take_length]
  | r + 1, j, e => by
    have hj : j < xs.length := by omega
    obtain ⟨sl1, h1, h2⟩ := st xs[j] (List.getElem_mem hj)
    have ih := lc2_go p hy sz sm st r (j + 1) (by omega)
    have tk : xs.take (j + 1) = xs.take j ++ [xs[j]] := (List.take_append_getElem hj).symm
    have fl : flat2 (xs.take (j + 1)) ys f h = flat2 (xs.take j) ys f h ++ ((ys xs[j]).filter (f xs[j])).map (h xs[j]) := by
      rw [tk]
      unfold flat2
      rw [List.flatMap_append]
      simp only [List.flatMap_cons, List.flatMap_nil, List.append_nil]
    rw [fl] at ih
    unfold lc2N
    rw [p.item j _ hj, List.getElem?_eq_getElem hj]
    simp only [h1]
    obtain ⟨⟨it1, p1, em⟩, h3⟩ := h2 (flat2 (xs.take j) ys f h)
    show bn0 (R.ok true (C ++ [some (.lst (flat2 (xs.take j) ys f h))])) _ = _
    simp only [bn0_ok, if_true]
    rw [em]
    simp only [bn0_ok]
    have hl : (flat2 (xs.take j) ys f h).length ≤ j * m := by
      have := flat2_len (xs.take j) ys f h (m := m) fun x hx => hy x (List.mem_of_mem_take hx)
      have e2 : (xs.take j).length = j := by simp; omega
      rw [e2] at this
      exact this
    have hl2 : (ys xs[j]).length ≤ m := hy _ (List.getElem_mem hj)
    have hjm : j * m ≤ xs.length * m := Nat.mul_le_mul_right _ (Nat.le_of_lt hj)
    have ein := lc_from p1 (g := g1) (tt := tt1) (te := te) (C := C) (sl := wipeD sl1 vs1) (f := f xs[j]) (h := h xs[j]) (a0 := flat2 (xs.take j) ys f h) (by omega) h3 it1.n 0 (by rw [p1.n]; omega)
    simp only [List.take_zero, List.filter_nil, List.map_nil, List.append_nil] at ein
    rw [ein]
    simp only [bn0_ok]
    exact ih
theorem ev_lc2 {mi mi1 : MI} {it : ItD} {xs : List D} (p : PureIt it xs) {g g1 : MG} {tt1 : MT} {te : ME} {vs vs1 : List Nat} {F : Fr} {C : Store} (ys : D → List D) (f : D → D → Bool) (h : D → D → D) (m : Nat) (hi : mi F C = .ok it C) (hy : ∀ x ∈ xs, (ys x).length ≤ m) (sz : xs.length * m ≤ 16000000) (sm : m ≤ 700000)
    (st : ∀ x ∈ xs, ∃ sl1, g x (wipeD F.sl vs) = some sl1 ∧ ∀ acc, (∃ it1, PureIt it1 (ys x) ∧ mi1 ⟨C.length, sl1⟩ (C ++ [some (.lst acc)]) = .ok it1 (C ++ [some (.lst acc)])) ∧
      ∀ y ∈ ys x, ∃ sl2, g1 y (wipeD sl1 vs1) = some sl2 ∧ ∀ acc, tt1 ⟨C.length, sl2⟩ (C ++ [some (.lst acc)]) = .ok (f x y) (C ++ [some (.lst acc)]) ∧ (f x y = true → te ⟨C.length, sl2⟩ (C ++ [some (.lst acc)]) = .ok (h x y) (C ++ [some (.lst acc)])))
    (hc : ∀ x ∈ xs, ∀ y ∈ ys x, f x y = true → cb C.length (h x y) = true) : mLc2 false mi g tYesM mi1 g1 tt1 te vs vs1 F C = .ok (.lst (flat2 xs ys f h)) C := by
  have e := lc2_go p hy sz sm st it.n 0 (by rw [p.n]; omega)
  unfold mLc2
  rw [hi]
  simp only [bnd_ok]
  have e0 : flat2 (xs.take 0) ys f h = [] := by simp [flat2]
  rw [e0] at e
  rw [e]
  simp only [bn0_ok]
  have at_n : (C ++ [some (Cell.lst (flat2 xs ys f h))])[C.length]? = some (some (.lst (flat2 xs ys f h))) := by simp
  have all : ∀ l : List D, (∀ d ∈ l, cb C.length d = true) → cbL C.length l = true := by
    intro l
    induction l with
    | nil => intro _; rfl
    | cons d l ih =>
      intro hl
      show (cb C.length d && cbL C.length l) = true
      rw [hl d (List.mem_cons_self ..), ih fun x hx => hl x (List.mem_cons_of_mem _ hx)]
      rfl
  have hb : cbL C.length (flat2 xs ys f h) = true := by
    refine all _ fun d hd => ?_
    unfold flat2 at hd
    obtain ⟨x, hx, hd⟩ := List.mem_flatMap.mp hd
    obtain ⟨y, hy', rfl⟩ := List.mem_map.mp hd
    obtain ⟨hy1, hy2⟩ := List.mem_filter.mp hy'
    exact hc x hx y hy1 hy2
  unfold lcEnd
  rw [if_neg (by decide), at_n]
  simp [hb]
/-! ### dicts from pairs to numbers -/
abbrev Dc := List ((Int × Int) × Int)
def dcK (d : Dc) : List (List Key) := d.map fun p => [.inl p.1.1, .inl p.1.2]
def dcV (d : Dc) : List D := d.map fun p => .int p.2
def dg : Dc → Int × Int → Option Int
  | [], _ => none
  | p :: r, k => if p.1 = k then some p.2 else dg r k
def dg0 (d : Dc) (k : Int × Int) : Int := (dg d k).getD 0
def dp (d : Dc) (k : Int × Int) (n : Int) : Dc := if d.any (fun p => decide (p.1 = k)) = true then d.map fun p => if p.1 = k then (p.1, n) else p else d ++ [(k, n)]
theorem key_eq (a b : Int × Int) : ([Sum.inl a.1, Sum.inl a.2] : List Key) = [.inl b.1, .inl b.2] ↔ a = b := by
  constructor
  · intro h
    simp only [List.cons.injEq, Sum.inl.injEq, and_true] at h
    exact Prod.ext h.1 h.2
  · rintro rfl
    rfl
theorem look_dc (k : Int × Int) : ∀ d : Dc, lookT (dcK d) (dcV d) [.inl k.1, .inl k.2] = (dg d k).map .int
  | [] => rfl
  | p :: r => by
    show (if ([.inl p.1.1, .inl p.1.2] : List Key) = [.inl k.1, .inl k.2] then some (D.int p.2) else lookT (dcK r) (dcV r) [.inl k.1, .inl k.2]) = _
    unfold dg
    by_cases h : p.1 = k
    · rw [if_pos ((key_eq _ _).mpr h), if_pos h]
      rfl
    · rw [if_neg (fun e => h ((key_eq _ _).mp e)), if_neg h, look_dc k r]
theorem any_dc (k : Int × Int) (d : Dc) : ((dcK d).any fun x => decide (x = [.inl k.1, .inl k.2])) = d.any fun p => decide (p.1 = k) := by
  unfold dcK
  rw [List.any_map]
  congr 1
  funext p
  exact decide_eq_decide.mpr (key_eq _ _)
theorem set_dc (k : Int × Int) (n : Int) : ∀ d : Dc, setT (dcK d) (dcV d) [.inl k.1, .inl k.2] (.int n) = dcV (d.map fun p => if p.1 = k then (p.1, n) else p)
  | [] => rfl
  | p :: r => by
    show (if ([.inl p.1.1, .inl p.1.2] : List Key) = [.inl k.1, .inl k.2] then D.int n else D.int p.2) :: setT (dcK r) (dcV r) [.inl k.1, .inl k.2] (.int n) = _
    rw [set_dc k n r]
    by_cases h : p.1 = k
    · rw [if_pos ((key_eq _ _).mpr h)]
      simp [dcV, h]
    · rw [if_neg (fun e => h ((key_eq _ _).mp e))]
      simp [dcV, h]
theorem put_dc (d : Dc) (k : Int × Int) (n : Int) : putT (dcK d) (dcV d) [.inl k.1, .inl k.2] (.int n) = (dcK (dp d k n), dcV (dp d k n)) := by
  unfold putT dp
  rw [any_dc]
  split
  · rw [set_dc]
    congr 1
    simp only [dcK, List.map_map]
    apply List.map_congr_left
    intro p _
    simp only [Function.comp]
    split <;> rfl
  · simp [dcK, dcV]
theorem dg_none {k : Int × Int} : ∀ {d : Dc}, d.any (fun p => decide (p.1 = k)) = false → dg d k = none
  | [], _ => rfl
  | p :: r, h => by
    rw [List.any_cons, Bool.or_eq_false_iff] at h
    unfold dg
    rw [if_neg (of_decide_eq_false h.1)]
    exact dg_none h.2
theorem dg_app {k k' : Int × Int} {n : Int} : ∀ d : Dc, dg (d ++ [(k, n)]) k' = match dg d k' with
    | some x => some x
    | none => if k = k' then some n else none
  | [] => rfl
  | p :: r => by
    have e1 : dg ((p :: r) ++ [(k, n)]) k' = if p.1 = k' then some p.2 else dg (r ++ [(k, n)]) k' := rfl
    have e2 : dg (p :: r) k' = if p.1 = k' then some p.2 else dg r k' := rfl
    rw [e1, e2]
    by_cases h : p.1 = k'
    · rw [if_pos h, if_pos h]
    · rw [if_neg h, if_neg h]
      exact dg_app r
theorem dg_map {k k' : Int × Int} {n : Int} : ∀ d : Dc, dg (d.map fun p => if p.1 = k then (p.1, n) else p) k' = if k' = k then (dg d k').map fun _ => n else dg d k'
  | [] => by simp [dg]
  | p :: r => by
    show dg ((if p.1 = k then (p.1, n) else p) :: r.map fun p => if p.1 = k then (p.1, n) else p) k' = _
    by_cases h1 : p.1 = k
    · rw [if_pos h1]
      unfold dg
      by_cases h2 : p.1 = k'
      · have e : k' = k := by rw [← h2, h1]
        simp [h2, e]
      · simp only [if_neg h2]
        exact dg_map r
    · rw [if_neg h1]
      unfold dg
      by_cases h2 : p.1 = k'
      · have e : ¬ k' = k := fun e => h1 (by rw [h2, e])
        simp [h2, e]
      · simp only [if_neg h2]
        exact dg_map r
theorem dg_some_of_any {k : Int × Int} : ∀ {d : Dc}, d.any (fun p => decide (p.1 = k)) = true → ∃ x, dg d k = some x
  | [], h => by cases h
  | p :: r, h => by
    unfold dg
    by_cases e : p.1 = k
    · exact ⟨p.2, if_pos e⟩
    · rw [List.any_cons, decide_eq_false e, Bool.false_or] at h
      obtain ⟨x, hx⟩ := dg_some_of_any h
      exact ⟨x, by rw [if_neg e]; exact hx⟩
theorem dg_dp (d : Dc) (k k' : Int × Int) (n : Int) : dg (dp d k n) k' = if k' = k then some n else dg d k' := by
  unfold dp
  split
  · rename_i h
    rw [dg_map]
    by_cases e : k' = k
    · subst e
      obtain ⟨x, hx⟩ := dg_some_of_any h
      simp [hx]
    · simp [e]
  · rename_i h
    rw [dg_app]
    by_cases e : k' = k
    · subst e
      rw [dg_none (Bool.not_eq_true _ ▸ h : d.any (fun p => decide (p.1 = k')) = false)]
    · have e' : ¬ k = k' := fun z => e z.symm
      cases dg d k' <;> simp [e, e']
theorem dg0_dp (d : Dc) (k k' : Int × Int) (n : Int) : dg0 (dp d k n) k' = if k' = k then n else dg0 d k' := by
  unfold dg0
  rw [dg_dp]
  split <;> rfl
theorem dp_len (d : Dc) (k : Int × Int) (n : Int) : (dp d k n).length ≤ d.length + 1 := by
  unfold dp
  split
  · simp
  · simp
end CT
set_option maxHeartbeats 4000000
/-! E3: walks over cells; own operators worked out. -/
namespace CT
open PySem L2
/-- what is walked stays while P holds: these items -/
structure ItOn (P : Store → Prop) (it : ItD) (xs : List D) : Prop where
  n : it.n = xs.length
  item : ∀ j C, P C → j < xs.length → it.item j C = xs[j]?
  fin : ∀ C, P C → it.fin C = true
theorem PureIt.on {it : ItD} {xs : List D} (h : PureIt it xs) (P : Store → Prop) : ItOn P it xs := ⟨h.n, fun j C _ => h.item j C, fun C _ => h.fin C⟩
theorem ItOn.imp {P P' : Store → Prop} {it : ItD} {xs : List D} (h : ItOn P it xs) (q : ∀ C, P' C → P C) : ItOn P' it xs := ⟨h.n, fun j C p => h.item j C (q C p), fun C p => h.fin C (q C p)⟩
theorem ItOn.pairs {P : Store → Prop} {it : ItD} {xs : List D} (h : ItOn P it xs) : ItOn P (prI it) ((List.range xs.length).zip xs |>.map fun p => D.tup [.int (p.1 : Nat), p.2]) := by
  refine ⟨by simp [prI, h.n], fun j C hp hj => ?_, fun C hp => h.fin C hp⟩
  have hj' : j < xs.length := by simpa using hj
  show (it.item j C).map _ = _
  rw [h.item j C hp hj', List.getElem?_map, List.getElem?_eq_getElem hj']
  simp [List.getElem?_zip_eq_some, hj']
theorem loop_on {P : Store → Prop} {it : ItD} {xs : List D} (p : ItOn P it xs) {g : MG} {body : MS} {fl : Nat} (I : Nat → List (Option D) → Store → Prop) (hP : ∀ j sl C, I j sl C → P C)
    (step : ∀ j x sl C, xs[j]? = some x → I j sl C → ∃ sl1 sl2 C2, g x sl = some sl1 ∧ body ⟨fl, sl1⟩ C = .nx sl2 C2 ∧ I (j + 1) sl2 C2) {sl : List (Option D)} {C : Store} (i : I 0 sl C) :
    ∃ sl' C', loopN it g body fl it.n 0 sl C = .nx sl' C' ∧ I xs.length sl' C' := by
  obtain ⟨sl', C', h1, h2⟩ := loop_inv I (fun j sl C hj i => by
    have hj' : j < xs.length := by rw [← p.n]; exact hj
    obtain ⟨sl1, sl2, C2, h1, h2, h3⟩ := step j xs[j] sl C (List.getElem?_eq_getElem hj') i
    exact ⟨xs[j], sl1, sl2, C2, by rw [p.item j C (hP _ _ _ i) hj', List.getElem?_eq_getElem hj'], h1, h2, h3⟩) (fun sl C i => p.fin C (hP _ _ _ i)) it.n 0 sl C (by omega) i
  exact ⟨sl', C', h1, by rw [← p.n]; exact h2⟩
/-- d is walked as xs wherever the store begins by C -/
def SeqIn (d : D) (xs : List D) (C : Store) : Prop := ∃ it, (∀ Y, itS d (C ++ Y) = some it) ∧ ItOn (fun S => ∃ Y, S = C ++ Y) it xs
theorem SeqIn.app {d : D} {xs : List D} {C : Store} (h : SeqIn d xs C) (Z : Store) : SeqIn d xs (C ++ Z) := by
  obtain ⟨it, h1, h2⟩ := h
  exact ⟨it, fun Y => by rw [List.append_assoc]; exact h1 _, h2.imp fun S ⟨Y, e⟩ => ⟨Z ++ Y, by rw [e, List.append_assoc]⟩⟩
theorem SeqIn.at0 {d : D} {xs : List D} {C : Store} (h : SeqIn d xs C) : ∃ it, itS d C = some it ∧ ItOn (fun S => ∃ Y, S = C ++ Y) it xs := by
  obtain ⟨it, h1, h2⟩ := h
  have := h1 []
  rw [List.append_nil] at this
  exact ⟨it, this, h2⟩
theorem seq_of {d : D} {xs : List D} (h : ∀ C, itS d C = some (itC xs)) (C : Store) : SeqIn d xs C := ⟨itC xs, fun Y => h _, (pure_C xs).on _⟩
theorem seq_cell {i : Nat} {xs : List D} {C : Store} (h : C[i]? = some (some (.lst xs))) : SeqIn (.cell i) xs C := by
  have hi : i < C.length := (List.getElem?_eq_some_iff.mp h).1
  have at_ : ∀ Y : Store, (C ++ Y)[i]? = some (some (.lst xs)) := fun Y => by rw [List.getElem?_append_left hi]; exact h
  refine ⟨itV i xs.length, fun Y => ?_, rfl, ?_, ?_⟩
  · show (match (C ++ Y)[i]? with
      | some (some (.lst ys)) => some (itV i ys.length)
      | _ => none) = _
    rw [at_]
  · rintro j S ⟨Y, rfl⟩ hj
    simp [itV, at_]
  · rintro S ⟨Y, rfl⟩
    simp [itV, at_]
/-! ### own operators -/
@[simp] theorem ev_revT {m : ME} {F : Fr} {C C1 : Store} {xs : List D} (h : m F C = .ok (.tup xs) C1) : mRevT m F C = .ok (.tup xs.reverse) C1 := by
  unfold mRevT
  rw [h]
  rfl
end CT
set_option maxHeartbeats 4000000
/-! E4: what a run must lead to, told backwards. -/
namespace CT
open PySem L2
/-! ### results -/
def wR0 {α : Type} (r : R α) (Q : α → Store → Prop) (E : Exc → Store → Prop) : Prop := match r with
  | .ok a C => Q a C
  | .exc e C => E e C
  | .stuck => False
/-- kept shut, so that no goal is worked out by chance -/
structure wR {α : Type} (r : R α) (Q : α → Store → Prop) (E : Exc → Store → Prop) : Prop where
  h : wR0 r Q E
structure wO (o : Option (D × Store)) (Q : D → Store → Prop) : Prop where
  h : ∃ d C, o = some (d, C) ∧ Q d C
structure wS (r : RS) (P : RS → Prop) : Prop where
  h : P r
structure wI (b : Bool) (p q : Prop) : Prop where
  h : if b = true then p else q
abbrev noX : Exc → Store → Prop := fun _ _ => False
section
variable {α β : Type} {Q : α → Store → Prop} {E : Exc → Store → Prop} {P : RS → Prop} {F : Fr} {C : Store}
theorem w_ok {a : α} (h : Q a C) : wR (.ok a C) Q E := ⟨h⟩
theorem w_of {r : R α} {a : α} {C' : Store} (e : r = .ok a C') (h : Q a C') : wR r Q E := by rw [e]; exact ⟨h⟩
theorem w_mono {r : R α} {Q' : α → Store → Prop} {E' : Exc → Store → Prop} (h : wR r Q' E') (q : ∀ a C, Q' a C → Q a C) (x : ∀ a C, E' a C → E a C) : wR r Q E := by
  cases r with
  | ok a C => exact ⟨q a C h.h⟩
  | exc e C => exact ⟨x e C h.h⟩
  | stuck => exact ⟨h.h⟩
theorem w_eqv {r : R α} {a : α} {C : Store} (h : wR r (fun d C' => d = a ∧ C' = C) noX) : r = .ok a C := by
  cases r with
  | ok a C => obtain ⟨h1, h2⟩ := h.h; rw [h1, h2]
  | exc e C => exact h.h.elim
  | stuck => exact h.h.elim
theorem w_out {r : R α} (h : wR r Q noX) : ∃ a C, r = .ok a C ∧ Q a C := by
  cases r with
  | ok a C => exact ⟨a, C, rfl, h.h⟩
  | exc e C => exact h.h.elim
  | stuck => exact h.h.elim
theorem w_bnd {m : R α} {f : α → Store → R β} {Q : β → Store → Prop} (h : wR m (fun a C => wR (f a C) Q E) E) : wR (bnd m f) Q E := by
  cases m with
  | ok a C => exact h.h
  | exc e C => exact ⟨h.h⟩
  | stuck => exact ⟨h.h⟩
theorem w_bndS {m : R α} {sl : List (Option D)} {f : α → Store → RS} (h : wR m (fun a C => wS (f a C) P) (fun e C => P (.xc e sl C))) : wS (bndS sl m f) P := by
  cases m with
  | ok a C => exact h.h
  | exc e C => exact ⟨h.h⟩
  | stuck => exact h.h.elim
theorem wo_of {o : Option (D × Store)} {d : D} {C' : Store} {Q : D → Store → Prop} (e : o = some (d, C')) (h : Q d C') : wO o Q := ⟨d, C', e, h⟩
theorem w_ofO {o : Option (D × Store)} {Q : D → Store → Prop} (h : wO o Q) : wR (ofO o) Q E := by
  obtain ⟨d, C', e, q⟩ := h.h
  rw [e]
  exact ⟨q⟩
theorem gR {r : R α} (h : wR r Q E) : wR r Q E := h
theorem gO {o : Option (D × Store)} {Q : D → Store → Prop} (h : wO o Q) : wO o Q := h
theorem gS {r : RS} (h : wS r P) : wS r P := h
theorem gI {b : Bool} {p q : Prop} (h : wI b p q) : wI b p q := h
theorem wI_t {p q : Prop} (h : p) : wI true p q := ⟨h⟩
theorem wI_f {p q : Prop} (h : q) : wI false p q := ⟨h⟩
theorem wI_d {b : Prop} [Decidable b] {p q : Prop} (h : b → p) (g : ¬ b → q) : wI (decide b) p q := by
  by_cases hb : b
  · rw [decide_eq_true hb]; exact ⟨h hb⟩
  · rw [decide_eq_false hb]; exact ⟨g hb⟩
theorem wI_df {b : Prop} [Decidable b] {p q : Prop} (hb : ¬ b) (h : q) : wI (decide b) p q := by rw [decide_eq_false hb]; exact ⟨h⟩
theorem wI_not {b : Bool} {p q : Prop} (h : wI b q p) : wI (!b) p q := by cases b <;> exact ⟨h.h⟩
end
/-! ### expressions -/
section
variable {Q : D → Store → Prop} {E : Exc → Store → Prop} {F : Fr} {C : Store}
theorem w_var {i : Nat} {fl : Nat} {sl : List (Option D)} {d : D} (e : sl[i]? = some (some d)) (h : Q d C) : wR (mVar i ⟨fl, sl⟩ C) Q E := by
  refine w_of (a := d) (C' := C) ?_ h
  show (match sl[i]? with
    | some (some d) => R.ok d C
    | _ => R.stuck) = _
  rw [e]
theorem w_c {d : D} (h : Q d C) : wR (mC d F C) Q E := ⟨h⟩
theorem w_op {o : O2} {a b : ME} (h : wR (a F C) (fun x C1 => wR (b F C1) (fun y C2 => wO (o x y C2) Q) E) E) : wR (mOp o a b F C) Q E :=
  w_bnd (w_mono h (fun _ _ g => w_bnd (w_mono g (fun _ _ g => w_ofO g) fun _ _ z => z)) fun _ _ z => z)
theorem w_un {o : O1} {a : ME} (h : wR (a F C) (fun x C1 => wO (o x C1) Q) E) : wR (mUn o a F C) Q E :=
  w_bnd (w_mono h (fun _ _ g => w_ofO g) fun _ _ z => z)
theorem w_ap {o : OA} {a : MA} (h : wR (a F C) (fun x C1 => wO (o x C1) Q) E) : wR (mAp o a F C) Q E :=
  w_bnd (w_mono h (fun _ _ g => w_ofO g) fun _ _ z => z)
theorem w_nil {Q : List D → Store → Prop} (h : Q [] C) : wR (mNil F C) Q E := ⟨h⟩
theorem w_cons {a : ME} {r : MA} {Q : List D → Store → Prop} (h : wR (a F C) (fun x C1 => wR (r F C1) (fun xs C2 => Q (x :: xs) C2) E) E) : wR (mCons a r F C) Q E :=
  w_bnd (w_mono h (fun _ _ g => w_bnd (w_mono g (fun _ _ g => w_ok g) fun _ _ z => z)) fun _ _ z => z)
theorem w_call {m : MF} {dds : List D} {a : MA} (h : wR (a F C) (fun xs C1 => wR (m (xs ++ dds) C1) Q E) E) : wR (mCall m dds a F C) Q E := w_bnd h
theorem w_tst {a : ME} {Q : Bool → Store → Prop} (h : wR (a F C) (fun d C1 => ∃ b, d = .bl b ∧ Q b C1) E) : wR (mTst a F C) Q E :=
  w_bnd (w_mono h (fun d C1 g => by obtain ⟨b, rfl, q⟩ := g; exact w_ok q) fun _ _ z => z)
theorem w_bl {b : Bool} {q : Bool → Prop} (h : q b) : ∃ b', D.bl b = .bl b' ∧ q b' := ⟨b, rfl, h⟩
theorem w_tand {a b : MT} {Q : Bool → Store → Prop} (h : wR (a F C) (fun x C1 => wI x (wR (b F C1) Q E) (Q false C1)) E) : wR (tAndM a b F C) Q E :=
  w_bnd (w_mono h (fun x C1 g => by
    cases x
    · exact w_ok g.h
    · exact g.h) fun _ _ z => z)
theorem w_tor {a b : MT} {Q : Bool → Store → Prop} (h : wR (a F C) (fun x C1 => wI x (Q true C1) (wR (b F C1) Q E)) E) : wR (tOrM a b F C) Q E :=
  w_bnd (w_mono h (fun x C1 g => by
    cases x
    · exact g.h
    · exact w_ok g.h) fun _ _ z => z)
theorem w_tnot {a : MT} {Q : Bool → Store → Prop} (h : wR (a F C) (fun x C1 => Q (!x) C1) E) : wR (tNotM a F C) Q E := w_bnd (w_mono h (fun _ _ g => w_ok g) fun _ _ z => z)
theorem w_yes {Q : Bool → Store → Prop} (h : Q true C) : wR (tYesM F C) Q E := ⟨h⟩
theorem w_and {a b : ME} (h : wR (a F C) (fun d C1 => ∃ x, d = .bl x ∧ wI x (wR (b F C1) Q E) (Q (.bl false) C1)) E) : wR (mAnd a b F C) Q E :=
  w_bnd (w_mono h (fun d C1 g => by
    obtain ⟨x, rfl, q⟩ := g
    cases x
    · exact w_ok q.h
    · exact q.h) fun _ _ z => z)
theorem w_or {a b : ME} (h : wR (a F C) (fun d C1 => ∃ x, d = .bl x ∧ wI x (Q (.bl true) C1) (wR (b F C1) Q E)) E) : wR (mOr a b F C) Q E :=
  w_bnd (w_mono h (fun d C1 g => by
    obtain ⟨x, rfl, q⟩ := g
    cases x
    · exact q.h
    · exact w_ok q.h) fun _ _ z => z)
theorem w_not {a : ME} (h : wR (a F C) (fun d C1 => ∃ x, d = .bl x ∧ Q (.bl (!x)) C1) E) : wR (mNot a F C) Q E :=
  w_bnd (w_mono h (fun d C1 g => by obtain ⟨x, rfl, q⟩ := g; exact w_ok q) fun _ _ z => z)
theorem w_if {t : MT} {a b : ME} (h : wR (t F C) (fun x C1 => wI x (wR (a F C1) Q E) (wR (b F C1) Q E)) E) : wR (mIf t a b F C) Q E :=
  w_bnd (w_mono h (fun x C1 g => by cases x <;> exact g.h) fun _ _ z => z)
theorem w_chain {o o' : O2} {a b c : ME} (h : wR (a F C) (fun x C1 => wR (b F C1) (fun y C2 => wO (o x y C2) fun z C3 => ∃ t, z = .bl t ∧ wI t (wR (c F C3) (fun w C4 => wO (o' y w C4) Q) E) (Q (.bl false) C3)) E) E) : wR (mChain o o' a b c F C) Q E :=
  w_bnd (w_mono h (fun x C1 g => w_bnd (w_mono g (fun y C2 g => w_bnd (w_ofO (by
    obtain ⟨d, C3, e, t, rfl, q⟩ := g.h
    refine wo_of e ?_
    cases t
    · exact w_ok q.h
    · exact w_bnd (w_mono q.h (fun _ _ g => w_ofO g) fun _ _ z => z)))) fun _ _ z => z)) fun _ _ z => z)
theorem w_prop {c : Nat} {m : MF} {mo : ME} (h : wR (mo F C) (fun d C1 => ∃ fs, d = .obj c fs ∧ wR (m [d] C1) Q noX) E) : wR (mProp c m mo F C) Q E :=
  w_bnd (w_mono h (fun d C1 g => by
    obtain ⟨fs, rfl, q⟩ := g
    show wR (if c = c then (match m [.obj c fs] C1 with
      | .ok d C2 => R.ok d C2
      | _ => R.stuck) else R.stuck) Q E
    rw [if_pos rfl]
    obtain ⟨a, C2, e, q⟩ := w_out q
    rw [e]
    exact w_ok q) fun _ _ z => z)
theorem w_meth {c : Nat} {m : MF} {dds : List D} {mo : ME} {a : MA} (h : wR (mo F C) (fun d C1 => ∃ fs, d = .obj c fs ∧ wR (a F C1) (fun xs C2 => wR (m (d :: (xs ++ dds)) C2) Q E) E) E) : wR (mMeth c m dds mo a F C) Q E :=
  w_bnd (w_mono h (fun d C1 g => by
    obtain ⟨fs, rfl, q⟩ := g
    simp only [vO, if_true]
    exact w_bnd q) fun _ _ z => z)
theorem w_obj {c : Nat} {fs : List D} {q : Prop} (h : q) : ∃ gs, D.obj c fs = .obj c gs ∧ q := ⟨fs, rfl, h⟩
theorem w_dnew {own : Bool} (h : Q (mkD own [] [] C).1 (mkD own [] [] C).2) : wR (mDNew own F C) Q E := ⟨h⟩
theorem w_dget {a b c : ME} (h : wR (a F C) (fun x C1 => (vD x C1).isSome = true ∧ wR (b F C1) (fun y C2 => wR (c F C2) (fun z C3 => wO (oDGet x y z C3) Q) E) E) E) : wR (mDGet a b c F C) Q E :=
  w_bnd (w_mono h (fun x C1 g => by
    rw [if_pos g.1]
    exact w_bnd (w_mono g.2 (fun _ _ g => w_bnd (w_mono g (fun _ _ g => w_ofO g) fun _ _ z => z)) fun _ _ z => z)) fun _ _ z => z)
theorem w_isi {kn : List Nat} {t : Cc} {m : ME} (h : wR (m F C) (fun d C1 => ∃ b, isi kn d C1 t = some b ∧ Q (.bl b) C1) E) : wR (mIsi kn t m F C) Q E :=
  w_bnd (w_mono h (fun d C1 g => by obtain ⟨b, e, q⟩ := g; rw [e]; exact w_ok q) fun _ _ z => z)
theorem w_isi2 {kn : List Nat} {t u : Cc} {m : ME} (h : wR (m F C) (fun d C1 => ∃ b b', isi kn d C1 t = some b ∧ isi kn d C1 u = some b' ∧ Q (.bl (b || b')) C1) E) : wR (mIsi2 kn t u m F C) Q E :=
  w_bnd (w_mono h (fun d C1 g => by obtain ⟨b, b', e, e', q⟩ := g; rw [e, e']; exact w_ok q) fun _ _ z => z)
theorem w_part {m : ME} {Q : Option Int → Store → Prop} (h : wR (m F C) (fun d C1 => ∃ i, d = .int i ∧ Q (some i) C1) E) : wR (mPart m F C) Q E :=
  w_bnd (w_mono h (fun d C1 g => by obtain ⟨b, rfl, q⟩ := g; exact w_ok q) fun _ _ z => z)
theorem w_noPart {Q : Option Int → Store → Prop} (h : Q none C) : wR (mNoPart F C) Q E := ⟨h⟩
theorem w_slL {own : Bool} {a : ME} {l u : Fr → Store → R (Option Int)} (h : wR (a F C) (fun x C1 => wR (l F C1) (fun lo C2 => wR (u F C2) (fun hi C3 => ∃ xs, vLs x C3 = some xs ∧ Q (mkL own (cutD xs lo hi) C3).1 (mkL own (cutD xs lo hi) C3).2) E) E) E) : wR (mSlL own a l u F C) Q E :=
  w_bnd (w_mono h (fun _ _ g => w_bnd (w_mono g (fun _ _ g => w_bnd (w_mono g (fun _ _ g => by obtain ⟨xs, e, q⟩ := g; simp only [e]; exact w_ok q) fun _ _ z => z)) fun _ _ z => z)) fun _ _ z => z)
theorem w_slA {a : ME} {l u : Fr → Store → R (Option Int)} (h : wR (a F C) (fun x C1 => wR (l F C1) (fun lo C2 => wR (u F C2) (fun hi C3 => ∃ xs, x = .tup xs ∧ Q (.tup (cutD xs lo hi)) C3) E) E) E) : wR (mSlA a l u F C) Q E :=
  w_bnd (w_mono h (fun _ _ g => w_bnd (w_mono g (fun lo _ g => w_bnd (w_mono g (fun hi _ g => by
    obtain ⟨xs, rfl, q⟩ := g
    simp only [vT]
    split
    · rename_i hh
      have e : cutD xs lo hi = xs := by
        unfold cutD
        rw [hh.1, hh.2]
        simp
      rw [e] at q
      exact w_ok q
    · exact w_ok q) fun _ _ z => z)) fun _ _ z => z)) fun _ _ z => z)
theorem w_int {i : Int} {q : Int → Prop} (h : q i) : ∃ j, D.int i = .int j ∧ q j := ⟨i, rfl, h⟩
end
/-! ### operators -/
section
variable {Q : D → Store → Prop} {C : Store}
theorem wo_add {a b : Int} (h : Q (.int (a + b)) C) : wO (oAdd (.int a) (.int b) C) Q := wo_of rfl h
theorem wo_sub {a b : Int} (h : Q (.int (a - b)) C) : wO (oSub (.int a) (.int b) C) Q := wo_of rfl h
theorem wo_neg {a : Int} (h : Q (.int (-a)) C) : wO (oNeg (.int a) C) Q := wo_of rfl h
theorem wo_lt {a b : Int} (h : Q (.bl (decide (a < b))) C) : wO (oLt (.int a) (.int b) C) Q := wo_of rfl h
theorem wo_le {a b : Int} (h : Q (.bl (decide (a ≤ b))) C) : wO (oLe (.int a) (.int b) C) Q := wo_of rfl h
theorem wo_gt {a b : Int} (h : Q (.bl (decide (b < a))) C) : wO (oGt (.int a) (.int b) C) Q := wo_of rfl h
theorem wo_ge {a b : Int} (h : Q (.bl (decide (b ≤ a))) C) : wO (oGe (.int a) (.int b) C) Q := wo_of rfl h
theorem wo_eq {a b : Int} (h : Q (.bl (decide (a = b))) C) : wO (oEqA false (.int a) (.int b) C) Q := wo_of rfl h
theorem wo_ne {a b : Int} (h : Q (.bl (!decide (a = b))) C) : wO (oEqA true (.int a) (.int b) C) Q := wo_of rfl h
theorem wo_eqS {a b : Str} (h : Q (.bl (decide (a = b))) C) : wO (oEqA false (.str a) (.str b) C) Q := wo_of rfl h
theorem wo_neS {a b : Str} (h : Q (.bl (!decide (a = b))) C) : wO (oEqA true (.str a) (.str b) C) Q := wo_of rfl h
theorem wo_div {a b : Int} (e : 0 < b) (e2 : b < 4611686018427387904) (h : Q (.int (a / b)) C) : wO (oDiv (.int a) (.int b) C) Q := wo_of (ev_div C e e2) h
theorem wo_min {a b : Int} (h : Q (.int (min a b)) C) : wO (oMin2 [.int a, .int b] C) Q := wo_of (ev_min C a b) h
theorem wo_max {a b : Int} (h : Q (.int (max a b)) C) : wO (oMax2 [.int a, .int b] C) Q := wo_of (ev_max C a b) h
theorem wo_int {a : Int} (h : Q (.int a) C) : wO (oInt [.int a] C) Q := wo_of rfl h
theorem wo_abs {a : Int} (h : Q (.int (a.natAbs : Int)) C) : wO (oAbs [.int a] C) Q := wo_of (ev_abs C a) h
theorem wo_lst {own : Bool} {xs : List D} (e : szN xs.length = true) (h : Q (mkL own xs C).1 (mkL own xs C).2) : wO (oLst own xs C) Q := by
  refine wo_of ?_ h
  unfold oLst
  rw [if_pos e]
theorem wo_lstF {xs : List D} (e : szN xs.length = true) (h : Q (.lst xs) C) : wO (oLst false xs C) Q := wo_lst e h
theorem wo_lstT {xs : List D} (e : szN xs.length = true) (h : Q (.cell C.length) (C ++ [some (.lst xs)])) : wO (oLst true xs C) Q := wo_lst e h
theorem w_dnewF {E : Exc → Store → Prop} {F : Fr} (h : Q (.dT [] []) C) : wR (mDNew false F C) Q E := ⟨h⟩
theorem w_dnewT {E : Exc → Store → Prop} {F : Fr} (h : Q (.cell C.length) (C ++ [some (.dT [] [])])) : wR (mDNew true F C) Q E := ⟨h⟩
theorem w_slLF {E : Exc → Store → Prop} {F : Fr} {a : ME} {l u : Fr → Store → R (Option Int)} (h : wR (a F C) (fun x C1 => wR (l F C1) (fun lo C2 => wR (u F C2) (fun hi C3 => ∃ xs, vLs x C3 = some xs ∧ Q (.lst (cutD xs lo hi)) C3) E) E) E) : wR (mSlL false a l u F C) Q E := w_slL h
theorem wo_tup {xs : List D} (e : szN xs.length = true) (h : Q (.tup xs) C) : wO (oTup xs C) Q := by
  refine wo_of ?_ h
  unfold oTup
  rw [if_pos e]
theorem wo_fld {c n : Nat} {fs : List D} {d : D} (e : fs[n]? = some d) (h : Q d C) : wO (oFld c n (.obj c fs) C) Q := by
  refine wo_of ?_ h
  rw [ev_fld, e]
  rfl
theorem wo_ix {x : D} {xs : List D} {i : Int} {k : Nat} {d : D} (e : vS x C = some xs) (hi : i = k) (hk : xs[k]? = some d) (h : Q d C) : wO (oIx x (.int i) C) Q := by
  subst hi
  have hl : k < xs.length := (List.getElem?_eq_some_iff.mp hk).1
  have e2 : atI xs (k : Int) = some d := by
    unfold atI ixN
    have h0 : (0 : Int) ≤ k := by omega
    simp [hl]
    exact (List.getElem?_eq_some_iff.mp hk).2
  refine wo_of (d := d) (C' := C) ?_ h
  unfold oIx
  rw [e]
  simp only [Option.bind_some, e2, Option.map_some]
end
/-! ### statements -/
def thn (b : MS) (fl : Nat) (P : RS → Prop) : RS → Prop := fun r => match r with
  | .nx sl C => wS (b ⟨fl, sl⟩ C) P
  | r => P r
section
variable {P : RS → Prop} {F : Fr} {C : Store} {E : Exc → Store → Prop}
theorem w_seq {a b : MS} {fl : Nat} {sl : List (Option D)} (h : wS (a ⟨fl, sl⟩ C) (thn b fl P)) : wS (sSeq a b ⟨fl, sl⟩ C) P := by
  have h := h.h
  unfold sSeq
  cases e : a ⟨fl, sl⟩ C with
  | nx sl C1 => rw [e] at h; exact h
  | rt d C1 => rw [e] at h; exact ⟨h⟩
  | bk d C1 => rw [e] at h; exact ⟨h⟩
  | ct d C1 => rw [e] at h; exact ⟨h⟩
  | xc x d C1 => rw [e] at h; exact ⟨h⟩
  | stuck => rw [e] at h; exact ⟨h⟩
theorem thn_nx {b : MS} {fl : Nat} {sl : List (Option D)} (h : wS (b ⟨fl, sl⟩ C) P) : thn b fl P (.nx sl C) := h
theorem thn_rt {b : MS} {fl : Nat} {d : D} (h : P (.rt d C)) : thn b fl P (.rt d C) := h
theorem thn_bk {b : MS} {fl : Nat} {sl : List (Option D)} (h : P (.bk sl C)) : thn b fl P (.bk sl C) := h
theorem thn_ct {b : MS} {fl : Nat} {sl : List (Option D)} (h : P (.ct sl C)) : thn b fl P (.ct sl C) := h
theorem thn_xc {b : MS} {fl : Nat} {e : Exc} {sl : List (Option D)} (h : P (.xc e sl C)) : thn b fl P (.xc e sl C) := h
theorem w_next {fl : Nat} {sl : List (Option D)} (h : P (.nx sl C)) : wS (sNext ⟨fl, sl⟩ C) P := ⟨h⟩
theorem w_brk {fl : Nat} {sl : List (Option D)} (h : P (.bk sl C)) : wS (sBrk ⟨fl, sl⟩ C) P := ⟨h⟩
theorem w_cnt {fl : Nat} {sl : List (Option D)} (h : P (.ct sl C)) : wS (sCnt ⟨fl, sl⟩ C) P := ⟨h⟩
theorem w_drop {m : ME} {fl : Nat} {sl : List (Option D)} (h : wR (m ⟨fl, sl⟩ C) (fun _ C1 => P (.nx sl C1)) (fun e C1 => P (.xc e sl C1))) : wS (sDrop m ⟨fl, sl⟩ C) P := w_bndS (w_mono h (fun _ _ g => ⟨g⟩) fun _ _ z => z)
theorem w_ret {m : ME} {fl : Nat} {sl : List (Option D)} (h : wR (m ⟨fl, sl⟩ C) (fun d C1 => P (.rt d C1)) (fun e C1 => P (.xc e sl C1))) : wS (sRet m ⟨fl, sl⟩ C) P := w_bndS (w_mono h (fun _ _ g => ⟨g⟩) fun _ _ z => z)
theorem w_retN (h : P (.rt .non C)) : wS (sRetN F C) P := ⟨h⟩
theorem w_sif {t : MT} {a b : MS} {fl : Nat} {sl : List (Option D)} (h : wR (t ⟨fl, sl⟩ C) (fun x C1 => wI x (wS (a ⟨fl, sl⟩ C1) P) (wS (b ⟨fl, sl⟩ C1) P)) (fun e C1 => P (.xc e sl C1))) : wS (sIf t a b ⟨fl, sl⟩ C) P :=
  w_bndS (w_mono h (fun x C1 g => by cases x <;> exact g.h) fun _ _ z => z)
theorem w_asg {m : ME} {i fl : Nat} {sl : List (Option D)} (h : wR (m ⟨fl, sl⟩ C) (fun d C1 => P (.nx (sl.set i (some d)) C1)) (fun e C1 => P (.xc e sl C1))) : wS (sAsg m (gN i) ⟨fl, sl⟩ C) P := w_bndS (w_mono h (fun _ _ g => ⟨g⟩) fun _ _ z => z)
theorem w_asgT {m : ME} {is : List Nat} {fl : Nat} {sl : List (Option D)} (h : wR (m ⟨fl, sl⟩ C) (fun d C1 => ∃ ds sl', d = .tup ds ∧ setAll is ds sl = some sl' ∧ P (.nx sl' C1)) (fun e C1 => P (.xc e sl C1))) : wS (sAsg m (gT is) ⟨fl, sl⟩ C) P :=
  w_bndS (w_mono h (fun x C1 g => by obtain ⟨ds, sl', rfl, e, q⟩ := g; show wS (asgS (setAll is ds sl) C1) P; rw [e]; exact ⟨q⟩) fun _ _ z => z)
theorem w_par {m : MA} {is : List Nat} {fl : Nat} {sl : List (Option D)} (h : wR (m ⟨fl, sl⟩ C) (fun ds C1 => ∃ sl', setAll is ds sl = some sl' ∧ P (.nx sl' C1)) (fun e C1 => P (.xc e sl C1))) : wS (sPar is m ⟨fl, sl⟩ C) P :=
  w_bndS (w_mono h (fun x C1 g => by obtain ⟨sl', e, q⟩ := g; show wS (asgS (setAll is x sl) C1) P; rw [e]; exact ⟨q⟩) fun _ _ z => z)
theorem w_raise {c n : Nat} {ma : MA} {fl : Nat} {sl : List (Option D)} (h : wR (ma ⟨fl, sl⟩ C) (fun ds C1 => ds.length = n ∧ P (.xc ⟨c, ds.reverse⟩ sl C1)) (fun e C1 => P (.xc e sl C1))) : wS (sRaise c n ma ⟨fl, sl⟩ C) P :=
  w_bndS (w_mono h (fun x C1 g => by rw [if_pos g.1]; exact ⟨g.2⟩) fun _ _ z => z)
theorem w_eq {r r' : RS} (e : r = r') (h : P r') : wS r P := by rw [e]; exact ⟨h⟩
/-- what stands behind a def's body -/
def fnl (n : Nat) (Q : D → Store → Prop) (E : Exc → Store → Prop) : RS → Prop := fun r => wR (finS n r) Q E
theorem w_fin {n : Nat} {r : RS} {Q : D → Store → Prop} (h : wS r (fnl n Q E)) : wR (finS n r) Q E := h.h
theorem fnl_int {n : Nat} {Q : D → Store → Prop} {i : Int} (h : Q (.int i) (C.take n)) : fnl n Q E (.rt (.int i) C) := w_ok h
theorem fnl_bl {n : Nat} {Q : D → Store → Prop} {i : Bool} (h : Q (.bl i) (C.take n)) : fnl n Q E (.rt (.bl i) C) := w_ok h
theorem fnl_non {n : Nat} {Q : D → Store → Prop} (h : Q .non (C.take n)) : fnl n Q E (.rt .non C) := w_ok h
theorem fnl_str {n : Nat} {Q : D → Store → Prop} {i : Str} (h : Q (.str i) (C.take n)) : fnl n Q E (.rt (.str i) C) := w_ok h
theorem fnl_nx {n : Nat} {Q : D → Store → Prop} {sl : List (Option D)} (h : Q .non (C.take n)) : fnl n Q E (.nx sl C) := w_ok h
theorem fnl_d {n : Nat} {Q : D → Store → Prop} {d : D} (e : ∀ i, d ≠ .cell i) (hc : cb n d = true) (h : Q d (C.take n)) : fnl n Q E (.rt d C) := by
  have z : fz n d C = d := by
    unfold fz
    split
    · exact absurd rfl (e _)
    · rfl
  show wR (fin n d C) Q E
  unfold fin
  rw [z, if_pos hc]
  exact w_ok h
end
/-! ### loops -/
def lpP (I : Nat → List (Option D) → Store → Prop) (j : Nat) (P : RS → Prop) : RS → Prop := fun r => match r with
  | .nx sl C => I j sl C
  | .ct sl C => I j sl C
  | .bk sl C => P (.nx sl C)
  | .rt d C => P (.rt d C)
  | .xc e sl C => P (.xc e sl C)
  | .stuck => False
theorem lp_nx {I : Nat → List (Option D) → Store → Prop} {j : Nat} {P : RS → Prop} {sl : List (Option D)} {C : Store} (h : I j sl C) : lpP I j P (.nx sl C) := h
theorem lp_rt {I : Nat → List (Option D) → Store → Prop} {j : Nat} {P : RS → Prop} {d : D} {C : Store} (h : P (.rt d C)) : lpP I j P (.rt d C) := h
theorem lp_bk {I : Nat → List (Option D) → Store → Prop} {j : Nat} {P : RS → Prop} {sl : List (Option D)} {C : Store} (h : P (.nx sl C)) : lpP I j P (.bk sl C) := h
theorem lp_xc {I : Nat → List (Option D) → Store → Prop} {j : Nat} {P : RS → Prop} {e : Exc} {sl : List (Option D)} {C : Store} (h : P (.xc e sl C)) : lpP I j P (.xc e sl C) := h
theorem loop_w {S : Store → Prop} {it : ItD} {xs : List D} (p : ItOn S it xs) {g : MG} {body : MS} {fl : Nat} {P : RS → Prop} (I : Nat → List (Option D) → Store → Prop) (hS : ∀ j sl C, I j sl C → S C)
    (step : ∀ j x sl C, xs[j]? = some x → I j sl C → ∃ sl1, g x sl = some sl1 ∧ wS (body ⟨fl, sl1⟩ C) (lpP I (j + 1) P)) (fin : ∀ sl C, I xs.length sl C → P (.nx sl C)) :
    ∀ r j sl C, r + j = xs.length → I j sl C → wS (loopN it g body fl r j sl C) P
  | 0, j, sl, C, h, i => by
    have e : j = xs.length := by omega
    subst e
    unfold loopN
    rw [if_pos (p.fin C (hS _ _ _ i))]
    exact ⟨fin sl C i⟩
  | r + 1, j, sl, C, h, i => by
    have hj : j < xs.length := by omega
    obtain ⟨sl1, h1, h2⟩ := step j xs[j] sl C (List.getElem?_eq_getElem hj) i
    unfold loopN
    rw [p.item j C (hS _ _ _ i) hj, List.getElem?_eq_getElem hj]
    simp only [h1]
    have h2 := h2.h
    unfold lpP at h2
    cases e : body ⟨fl, sl1⟩ C with
    | nx sl2 C2 => rw [e] at h2; exact loop_w p I hS step fin r (j + 1) sl2 C2 (by omega) h2
    | ct sl2 C2 => rw [e] at h2; exact loop_w p I hS step fin r (j + 1) sl2 C2 (by omega) h2
    | bk sl2 C2 => rw [e] at h2; exact ⟨h2⟩
    | rt d C2 => rw [e] at h2; exact ⟨h2⟩
    | xc x sl2 C2 => rw [e] at h2; exact ⟨h2⟩
    | stuck => rw [e] at h2; exact h2.elim
/-! ### comprehensions -/
theorem lc_w {S : Store → Prop} {it : ItD} {xs : List D} (p : ItOn S it xs) {g : MG} {tt : MT} {te : ME} {n : Nat} {sl : List (Option D)} (J : Nat → List D → Store → Prop) (hS : ∀ j acc C, J j acc C → S C) (hz : ∀ j acc C, J j acc C → acc.length < 16777216)
    (step : ∀ j x acc C, xs[j]? = some x → C[n]? = some (some (.lst acc)) → J j acc C → ∃ sl1, g x sl = some sl1 ∧ wR (tt ⟨n, sl1⟩ C) (fun b C1 => wI b (wR (te ⟨n, sl1⟩ C1) (fun y C2 => ∃ acc', C2[n]? = some (some (.lst acc')) ∧ acc'.length < 16777216 ∧ J (j + 1) (acc' ++ [y]) (C2.set n (some (.lst (acc' ++ [y])))) ∧ n < C2.length) noX) (∃ acc', C1[n]? = some (some (.lst acc')) ∧ J (j + 1) acc' C1)) noX) :
    ∀ r j acc C, r + j = xs.length → C[n]? = some (some (.lst acc)) → J j acc C → ∃ acc' C', lcN it g tt te n sl r j C = .ok () C' ∧ C'[n]? = some (some (.lst acc')) ∧ J xs.length acc' C'
  | 0, j, acc, C, h, c, i => by
    have e : j = xs.length := by omega
    subst e
    unfold lcN
    rw [if_pos (p.fin C (hS _ _ _ i))]
    exact ⟨acc, C, rfl, c, i⟩
  | r + 1, j, acc, C, h, c, i => by
    have hj : j < xs.length := by omega
    obtain ⟨sl1, h1, h2⟩ := step j xs[j] acc C (List.getElem?_eq_getElem hj) c i
    unfold lcN
    rw [p.item j C (hS _ _ _ i) hj, List.getElem?_eq_getElem hj]
    simp only [h1]
    obtain ⟨b, C1, e1, h3⟩ := w_out h2
    rw [e1]
    simp only [bn0_ok]
    cases b with
    | false =>
      obtain ⟨acc', c1, i1⟩ := h3.h
      rw [if_neg (by decide)]
      exact lc_w p J hS hz step r (j + 1) acc' C1 (by omega) c1 i1
    | true =>
      obtain ⟨y, C2, e2, acc', c2, z, i2, hn⟩ := w_out h3.h
      rw [if_pos rfl, e2]
      simp only [bn0_ok]
      rw [c2]
      have hs : szN (acc'.length + 1) = true := by simp only [szN, decide_eq_true_eq]; omega
      simp only [hs, if_true]
      exact lc_w p J hS hz step r (j + 1) (acc' ++ [y]) _ (by omega) (List.getElem?_set_self hn) i2
/-- [e for t in it if c], that may draw -/
theorem w_lc {mi : MI} {g : MG} {tt : MT} {te : ME} {vs : List Nat} {F : Fr} {C C1 : Store} {it : ItD} {xs : List D} {S : Store → Prop} {Q : D → Store → Prop} {E : Exc → Store → Prop} (hi : mi F C = .ok it C1) (p : ItOn S it xs) (J : Nat → List D → Store → Prop) (hS : ∀ j acc C, J j acc C → S C) (hz : ∀ j acc C, J j acc C → acc.length < 16777216)
    (i0 : J 0 [] (C1 ++ [some (.lst [])]))
    (step : ∀ j x acc C, xs[j]? = some x → C[C1.length]? = some (some (.lst acc)) → J j acc C → ∃ sl1, g x (wipeD F.sl vs) = some sl1 ∧ wR (tt ⟨C1.length, sl1⟩ C) (fun b C2 => wI b (wR (te ⟨C1.length, sl1⟩ C2) (fun y C3 => ∃ acc', C3[C1.length]? = some (some (.lst acc')) ∧ acc'.length < 16777216 ∧ J (j + 1) (acc' ++ [y]) (C3.set C1.length (some (.lst (acc' ++ [y])))) ∧ C1.length < C3.length) noX) (∃ acc', C2[C1.length]? = some (some (.lst acc')) ∧ J (j + 1) acc' C2)) noX)
    (fin : ∀ acc C, C[C1.length]? = some (some (.lst acc)) → J xs.length acc C → cbL C1.length acc = true ∧ Q (.lst acc) (C.take C1.length)) : wR (mLc false mi g tt te vs F C) Q E := by
  obtain ⟨acc, C', e, c, i⟩ := lc_w p J hS hz step it.n 0 [] (C1 ++ [some (.lst [])]) (by rw [p.n]; omega) (by simp) i0
  obtain ⟨f1, f2⟩ := fin acc C' c i
  unfold mLc
  rw [hi]
  simp only [bnd_ok]
  rw [e]
  simp only [bn0_ok]
  unfold lcEnd
  rw [if_neg (by decide), c]
  simp only [f1, if_true]
  exact w_ok f2
end CT
set_option maxHeartbeats 4000000
/-! E5: more steps told backwards. -/
namespace CT
open PySem L2
abbrev accS (C : Store) (acc : List D) : Store := C ++ [some (.lst acc)]
theorem fnl_p {n : Nat} {Q : D → Store → Prop} {E : Exc → Store → Prop} {d : D} {C : Store} (hc : cb 0 d = true) (h : Q d (C.take n)) : fnl n Q E (.rt d C) :=
  fnl_d (fun i e => by subst e; simp [cb] at hc) (cb_mono (Nat.zero_le _) hc) h
/-- an own list becomes plain data -/
theorem fnl_own {n : Nat} {Q : D → Store → Prop} {E : Exc → Store → Prop} {i : Nat} {xs : List D} {C : Store} (hi : n ≤ i) (hC : C[i]? = some (some (.lst xs))) (hc : cbL n xs = true) (h : Q (.lst xs) (C.take n)) : fnl n Q E (.rt (.cell i) C) := by
  show wR (fin n (.cell i) C) Q E
  have z : fz n (.cell i) C = .lst xs := by
    unfold fz
    simp [hC, hi]
  unfold fin
  rw [z, if_pos (by simpa [cb] using hc)]
  exact w_ok h
theorem w_mkT {Q : D → Store → Prop} {E : Exc → Store → Prop} {F : Fr} {C : Store} {own : Bool} {c nf : Nat} {m : MF} {dds : List D} {a : MA} (h : wR (a F C) (fun ds C1 => wR (mMake own c nf m dds (fun _ _ => .ok ds C1) F C1) Q E) E) : wR (mMake own c nf m dds a F C) Q E := by
  unfold mMake at h ⊢
  exact w_bnd h
/-- a list of cells' store that has one cell more -/
theorem take_app {C Y : Store} {n : Nat} (h : C.length = n) : (C ++ Y).take n = C := by subst h; simp
theorem wo_tupL {xs : List D} {C : Store} {Q : D → Store → Prop} (h : Q (.tup xs) C) : wO (oTupOf [.lst xs] C) Q := wo_of rfl h
theorem wo_tupT {xs : List D} {C : Store} {Q : D → Store → Prop} (h : Q (.tup xs) C) : wO (oTupOf [.tup xs] C) Q := wo_of rfl h
theorem wo_tupC {xs : List D} {C : Store} {Q : D → Store → Prop} {i : Nat} (e : C[i]? = some (some (.lst xs))) (h : Q (.tup xs) C) : wO (oTupOf [.cell i] C) Q := wo_of (by simp [oTupOf, vL, e]) h
theorem wo_catF {xs ys : List D} {C : Store} {Q : D → Store → Prop} (e : xs.length + ys.length ≤ 16777216) (h : Q (.lst (xs ++ ys)) C) : wO (oCat false (.lst xs) (.lst ys) C) Q := wo_of (by simp [oCat, vL, szN, e, mkL]) h
theorem get_new {C Y : Store} {c : Option Cell} : (C ++ c :: Y)[C.length]? = some c := by simp
/-! ### writing -/
theorem w_put {me mo mi : ME} {fl : Nat} {sl : List (Option D)} {C : Store} {P : RS → Prop} (h : wR (me ⟨fl, sl⟩ C) (fun v C1 => wR (mo ⟨fl, sl⟩ C1) (fun o C2 => wR (mi ⟨fl, sl⟩ C2) (fun x C3 => ∃ C4, sPut (fun _ _ => .ok v C3) (fun _ _ => .ok o C3) (fun _ _ => .ok x C3) ⟨fl, sl⟩ C3 = .nx sl C4 ∧ P (.nx sl C4)) (fun e C => P (.xc e sl C))) (fun e C => P (.xc e sl C))) (fun e C => P (.xc e sl C))) : wS (sPut me mo mi ⟨fl, sl⟩ C) P :=
  w_bndS (w_mono h (fun v C1 g => w_bndS (w_mono g (fun o C2 g => w_bndS (w_mono g (fun x C3 g => by
    obtain ⟨C4, e, q⟩ := g
    unfold sPut at e
    simp only [bndS_ok] at e
    exact w_eq e q) fun _ _ z => z)) fun _ _ z => z)) fun _ _ z => z)
theorem w_augL {o : Int → Int → Int} {mo mi me : ME} {fl : Nat} {sl : List (Option D)} {C : Store} {P : RS → Prop} (h : wR (mo ⟨fl, sl⟩ C) (fun l C1 => wR (mi ⟨fl, sl⟩ C1) (fun x C2 => ∃ (n : Nat) (i : Nat) (ds : List D) (a : Int), x = .int n ∧ cL l C2 = some (i, ds) ∧ ds[n]? = some (.int a) ∧ wR (me ⟨fl, sl⟩ C2) (fun v C3 => ∃ b es C4, v = .int b ∧ cL l C3 = some (i, es) ∧ n < es.length ∧ wr fl i (.lst (es.set n (.int (o a b)))) C3 = some C4 ∧ P (.nx sl C4)) (fun e C => P (.xc e sl C))) (fun e C => P (.xc e sl C))) (fun e C => P (.xc e sl C))) : wS (sAugL o mo mi me ⟨fl, sl⟩ C) P :=
  w_bndS (w_mono h (fun l C1 g => w_bndS (w_mono g (fun x C2 g => by
    obtain ⟨n, i, ds, a, rfl, e1, e2, g⟩ := g
    have h0 : (0 : Int) ≤ (n : Int) := by omega
    have h1 : ((n : Nat) : Int).toNat = n := by omega
    simp only [e1, h0, if_true, h1, e2]
    refine w_bndS (w_mono g (fun v C3 g => ?_) fun _ _ z => z)
    obtain ⟨b, es, C4, rfl, e3, e4, e5, q⟩ := g
    have e6 : ixN es.length (n : Int) = some n := by
      unfold ixN
      simp [e4]
    simp only [e3, e6, e5]
    exact ⟨q⟩) fun _ _ z => z)) fun _ _ z => z)
theorem wr_hi {fl i : Nat} {c : Cell} {C : Store} (h : fl ≤ i) : wr fl i c C = some (C.set i (some c)) := by
  unfold wr
  rw [if_neg (fun z => by omega)]
theorem w_append {mo me : ME} {F : Fr} {C : Store} {Q : D → Store → Prop} {E : Exc → Store → Prop} (h : wR (mo F C) (fun o C1 => (vL o C1).isSome = true ∧ wR (me F C1) (fun v C2 => ∃ i ds, cL o C2 = some (i, ds) ∧ F.fl ≤ i ∧ ds.length < 16777216 ∧ Q .non (C2.set i (some (.lst (ds ++ [v]))))) E) E) : wR (mAppend mo me F C) Q E := by
  unfold mAppend
  refine w_bnd (w_mono h (fun o C1 g => ?_) fun _ _ z => z)
  rw [if_pos g.1]
  refine w_bnd (w_mono g.2 (fun v C2 g => ?_) fun _ _ z => z)
  obtain ⟨i, ds, e, hi, hz, q⟩ := g
  have hs : szN (ds.length + 1) = true := by simp only [szN, decide_eq_true_eq]; omega
  simp only [e, hs, if_true, wr_hi hi]
  exact w_ok q
end CT
set_option maxHeartbeats 4000000
/-! E6: walks and comprehensions, step by step. -/
namespace CT
open PySem L2
section
variable {E : Exc → Store → Prop} {F : Fr} {C : Store} {P : RS → Prop}
theorem w_forI {mi : MI} {g : MG} {body : MS} {fl : Nat} {sl : List (Option D)} (h : wR (mi ⟨fl, sl⟩ C) (fun it C1 => wS (loopN it g body fl it.n 0 sl C1) P) (fun e C1 => P (.xc e sl C1))) : wS (sFor mi g body ⟨fl, sl⟩ C) P := w_bndS h
theorem w_seqI {m : ME} {Q : ItD → Store → Prop} (h : wR (m F C) (fun d C1 => ∃ it, itS d C1 = some it ∧ Q it C1) E) : wR (mSeq m F C) Q E :=
  w_bnd (w_mono h (fun d C1 g => by obtain ⟨it, e, q⟩ := g; simp only [e]; exact w_ok q) fun _ _ z => z)
theorem w_enum {m : ME} {Q : ItD → Store → Prop} (h : wR (m F C) (fun d C1 => ∃ it, itS d C1 = some it ∧ Q (prI it) C1) E) : wR (mEnum m F C) Q E :=
  w_bnd (w_mono h (fun d C1 g => by obtain ⟨it, e, q⟩ := g; simp only [e]; exact w_ok q) fun _ _ z => z)
theorem w_itL {xs : List D} {q : ItD → Prop} (h : q (itC xs)) : ∃ it, itS (.lst xs) C = some it ∧ q it := ⟨_, rfl, h⟩
theorem w_itT {xs : List D} {q : ItD → Prop} (h : q (itC xs)) : ∃ it, itS (.tup xs) C = some it ∧ q it := ⟨_, rfl, h⟩
theorem w_itK {xs : List D} {q : ItD → Prop} (h : q (itC xs)) : ∃ it, itS (.kt xs) C = some it ∧ q it := ⟨_, rfl, h⟩
theorem w_itC {i : Nat} {xs : List D} {q : ItD → Prop} (e : C[i]? = some (some (.lst xs))) (h : q (itV i xs.length)) : ∃ it, itS (.cell i) C = some it ∧ q it := ⟨_, by simp [itS, e], h⟩
theorem w_rng1 {m : ME} {Q : ItD → Store → Prop} (h : wR (m F C) (fun d C1 => ∃ j, d = .int j ∧ inR j = true ∧ Q (itR 0 j.toNat) C1) E) : wR (mRng1 m F C) Q E :=
  w_bnd (w_mono h (fun d C1 g => by obtain ⟨j, rfl, e, q⟩ := g; simp only [e, if_true]; exact w_ok q) fun _ _ z => z)
theorem w_rng2 {m m2 : ME} {Q : ItD → Store → Prop} (h : wR (m F C) (fun d C1 => wR (m2 F C1) (fun e C2 => ∃ i j, d = .int i ∧ e = .int j ∧ inR i = true ∧ inR j = true ∧ Q (itR i (j - i).toNat) C2) E) E) : wR (mRng2 m m2 F C) Q E :=
  w_bnd (w_mono h (fun d C1 g => w_bnd (w_mono g (fun e C2 g => by obtain ⟨i, j, rfl, rfl, e1, e2, q⟩ := g; simp only [e1, e2, Bool.and_self, if_true]; exact w_ok q) fun _ _ z => z)) fun _ _ z => z)
theorem inR_of {j : Int} (h : -1000000000000 ≤ j) (h2 : j ≤ 1000000000000) : inR j = true := by
  have e1 : decide (-(2 ^ 62) ≤ j) = true := decide_eq_true (by omega)
  have e2 : decide (j < 2 ^ 62) = true := decide_eq_true (by omega)
  simp only [inR, e1, e2, Bool.and_self]
theorem loop_p {it : ItD} {xs : List D} (p : PureIt it xs) {g : MG} {body : MS} {fl : Nat} {sl : List (Option D)} (I : Nat → List (Option D) → Store → Prop) (i0 : I 0 sl C)
    (step : ∀ j x sl C, xs[j]? = some x → I j sl C → ∃ sl1, g x sl = some sl1 ∧ wS (body ⟨fl, sl1⟩ C) (lpP I (j + 1) P)) (fin : ∀ sl C, I xs.length sl C → P (.nx sl C)) : wS (loopN it g body fl it.n 0 sl C) P :=
  loop_w (p.on fun _ => True) I (fun _ _ _ _ => trivial) step fin it.n 0 sl C (by rw [p.n]; omega) i0
theorem loop_o {S : Store → Prop} {it : ItD} {xs : List D} (p : ItOn S it xs) {g : MG} {body : MS} {fl : Nat} {sl : List (Option D)} (I : Nat → List (Option D) → Store → Prop) (hS : ∀ j sl C, I j sl C → S C) (i0 : I 0 sl C)
    (step : ∀ j x sl C, xs[j]? = some x → I j sl C → ∃ sl1, g x sl = some sl1 ∧ wS (body ⟨fl, sl1⟩ C) (lpP I (j + 1) P)) (fin : ∀ sl C, I xs.length sl C → P (.nx sl C)) : wS (loopN it g body fl it.n 0 sl C) P :=
  loop_w p I hS step fin it.n 0 sl C (by rw [p.n]; omega) i0
theorem on_cell {i : Nat} {xs : List D} : ItOn (fun C => C[i]? = some (some (.lst xs))) (itV i xs.length) xs := ⟨rfl, fun j C h hj => by simp [itV, h], fun C h => by simp [itV, h]⟩
def lcR (it : ItD) (g : MG) (tt : MT) (te : ME) (vs : List Nat) (F : Fr) (C1 : Store) : R D := mLc false (fun _ C => .ok it C) g tt te vs F C1
theorem w_lcI {mi : MI} {g : MG} {tt : MT} {te : ME} {vs : List Nat} {Q : D → Store → Prop} (h : wR (mi F C) (fun it C1 => wR (lcR it g tt te vs F C1) Q E) E) : wR (mLc false mi g tt te vs F C) Q E := by
  unfold lcR mLc at h
  unfold mLc
  exact w_bnd h
/-- a comprehension that draws from the cell b and keeps all else; R tells of each item -/
theorem lc_d {it : ItD} {xs : List D} {g : MG} {te : ME} {vs : List Nat} {Q : D → Store → Prop} (p : PureIt it xs) (B : Store → Prop) (Rel : D → D → Prop) (sz : xs.length ≤ 16777215) (b0 : B C)
    (hb : ∀ x d n, x ∈ xs → Rel x d → cb n d = true)
    (st : ∀ x ∈ xs, ∃ sl1, g x (wipeD F.sl vs) = some sl1 ∧ ∀ C' acc, B C' → C'.length = C.length → wR (te ⟨C.length, sl1⟩ (accS C' acc)) (fun d S => ∃ C'', S = accS C'' acc ∧ B C'' ∧ C''.length = C.length ∧ Rel x d) noX)
    (q : ∀ (ys : List D) (C' : Store), ys.length = xs.length → (∀ (j : Nat) (x y : D), xs[j]? = some x → ys[j]? = some y → Rel x y) → B C' → C'.length = C.length → Q (.lst ys) C') : wR (lcR it g tYesM te vs F C) Q E := by
  refine w_lc (mi := fun _ C => .ok it C) rfl (p.on fun _ => True) (fun j acc S => ∃ C', S = accS C' acc ∧ B C' ∧ C'.length = C.length ∧ acc.length = j ∧ j ≤ xs.length ∧ ∀ (k : Nat) (x y : D), xs[k]? = some x → acc[k]? = some y → Rel x y) (fun _ _ _ _ => trivial)
    (fun j acc S h => by obtain ⟨_, _, _, _, e, e2, _⟩ := h; omega) ⟨C, rfl, b0, rfl, rfl, Nat.zero_le _, by simp⟩ (fun j x acc S hx hc h => ?_) (fun acc S hc h => ?_)
  · obtain ⟨C', rfl, b, l, hl, hj, hr⟩ := h
    obtain ⟨sl1, e, s⟩ := st x (List.mem_of_getElem? hx)
    have hjl : j < xs.length := (List.getElem?_eq_some_iff.mp hx).1
    refine ⟨sl1, e, w_yes (wI_t (w_mono (s C' acc b l) (fun d S g => ?_) fun _ _ z => z))⟩
    obtain ⟨C'', rfl, b2, l2, r⟩ := g
    refine ⟨acc, by rw [← l2]; exact get_new, by omega, ⟨C'', by simp [accS, ← l2], b2, l2, by simp [hl], by omega, fun k x' y hk hy => ?_⟩, by simp [accS, l2]⟩
    by_cases hkj : k < acc.length
    · rw [List.getElem?_append_left hkj] at hy
      exact hr k x' y hk hy
    · have hk2 : k < (acc ++ [d]).length := (List.getElem?_eq_some_iff.mp hy).1
      have : k = acc.length := by simp at hk2; omega
      subst this
      rw [hl, hx] at hk
      cases hk
      simp at hy
      subst hy
      exact r
  · obtain ⟨C', rfl, b, l, hl, hj, hr⟩ := h
    have tk : (accS C' acc).take C.length = C' := by rw [← l]; simp [accS]
    refine ⟨?_, ?_⟩
    · have : ∀ (l : List D), (∀ d ∈ l, cb C.length d = true) → cbL C.length l = true := by
        intro l
        induction l with
        | nil => intro _; rfl
        | cons d l ih => intro hl; simp only [cbL, hl d (List.mem_cons_self ..), ih fun x hx => hl x (List.mem_cons_of_mem _ hx), Bool.and_self]
      refine this acc fun d hd => ?_
      obtain ⟨k, hk, rfl⟩ := List.getElem_of_mem hd
      have hkx : k < xs.length := by omega
      exact hb xs[k] acc[k] _ (List.getElem_mem hkx) (hr k _ _ (List.getElem?_eq_getElem hkx) (List.getElem?_eq_getElem hk))
    · rw [tk]
      exact q acc C' hl hr b l
end
end CT
set_option maxHeartbeats 4000000
/-! E7: own operators with an int, list(range), extend, two writes, told backwards. -/
namespace CT
open PySem L2
section
variable {Q : D → Store → Prop} {E : Exc → Store → Prop} {F : Fr} {C : Store}
theorem w_extend {mo me : ME} (h : wR (mo F C) (fun o C1 => (vL o C1).isSome = true ∧ wR (me F C1) (fun v C2 => ∃ i ds es, cL o C2 = some (i, ds) ∧ vL v C2 = some es ∧ F.fl ≤ i ∧ ds.length + es.length ≤ 16777216 ∧ Q .non (C2.set i (some (.lst (ds ++ es))))) E) E) : wR (mExtend mo me F C) Q E := by
  unfold mExtend
  refine w_bnd (w_mono h (fun o C1 g => ?_) fun _ _ z => z)
  rw [if_pos g.1]
  refine w_bnd (w_mono g.2 (fun v C2 g => ?_) fun _ _ z => z)
  obtain ⟨i, ds, es, e, e2, hi, hz, q⟩ := g
  have hs : szN (ds.length + es.length) = true := by simp only [szN, decide_eq_true_eq]; omega
  simp only [e, e2, hs, if_true, wr_hi hi]
  exact w_ok q
end
/-! ### a comprehension whose list is an own one -/
section
variable {C : Store} {Q : D → Store → Prop} {X : Exc → Store → Prop} {F : Fr}
theorem w_lcO {mi : MI} {g : MG} {tt : MT} {te : ME} {vs : List Nat} (h : wR (mi F C) (fun it C1 => wR (mLc true (fun _ C => .ok it C) g tt te vs F C1) Q X) X) : wR (mLc true mi g tt te vs F C) Q X := by
  unfold mLc at h
  unfold mLc
  exact w_bnd h
end
/-! ### a def that hands back an own list -/
section
variable {Q : D → Store → Prop} {E : Exc → Store → Prop} {C : Store} {n : Nat}
def fnlO (n : Nat) (Q : D → Store → Prop) (E : Exc → Store → Prop) : RS → Prop := fun r => wR (finOS n r) Q E
theorem w_finO {r : RS} (h : wS r (fnlO n Q E)) : wR (finOS n r) Q E := h.h
theorem fnlO_own {i : Nat} {xs : List D} (hi : n ≤ i) (hC : C[i]? = some (some (.lst xs))) (hc : cbL n xs = true) (h : Q (.cell n) (C.take n ++ [some (.lst xs)])) : fnlO n Q E (.rt (.cell i) C) := by
  show wR (finO n (.cell i) C) Q E
  unfold finO
  simp only [hi, hC, hc, if_true]
  exact w_ok h
end
end CT
set_option maxHeartbeats 4000000
namespace CL
open PySem L2 CT
local macro_rules | `(tactic| walk_at "w") => `(tactic| first | ((with_reducible apply gR); first | with_reducible refine w_var rfl ?_ | with_reducible apply w_cons | with_reducible apply w_c | with_reducible apply w_nil | with_reducible apply w_op | with_reducible apply w_ap | with_reducible apply w_call | with_reducible apply w_tst | with_reducible apply w_un | with_reducible apply w_tand | with_reducible apply w_tor | with_reducible apply w_tnot | with_reducible apply w_yes | with_reducible apply w_and | with_reducible apply w_or | with_reducible apply w_not | with_reducible apply w_if | with_reducible apply w_chain | with_reducible apply w_isi | with_reducible apply w_isi2 | with_reducible apply w_prop | with_reducible apply w_meth | with_reducible apply w_dget | with_reducible apply w_dnewF | with_reducible apply w_dnewT | with_reducible apply w_part | with_reducible apply w_noPart | with_reducible apply w_slLF | with_reducible apply w_slA | with_reducible apply w_ok | with_reducible apply w_ofO | with_reducible apply w_lcI | with_reducible apply w_seqI | with_reducible apply w_rng1 | with_reducible apply w_rng2 | with_reducible apply w_enum) | ((with_reducible apply gO); first | with_reducible apply wo_add | with_reducible apply wo_sub | with_reducible apply wo_lt | with_reducible apply wo_gt | with_reducible apply wo_eq | with_reducible apply wo_ne | with_reducible apply wo_le | with_reducible apply wo_ge | with_reducible apply wo_neg | with_reducible apply wo_eqS | with_reducible apply wo_neS | with_reducible apply wo_min | with_reducible apply wo_max | with_reducible apply wo_int | with_reducible apply wo_abs | with_reducible apply wo_tupL | with_reducible apply wo_tupT | with_reducible refine wo_tup (by with_unfolding_all rfl) ?_ | with_reducible refine wo_lstF (by with_unfolding_all rfl) ?_ | with_reducible refine wo_lstT (by with_unfolding_all rfl) ?_ | with_reducible apply wo_fld0 | with_reducible apply wo_fldH0 | with_reducible apply wo_fld1 | with_reducible apply wo_fld2 | with_reducible apply wo_fldW0 | with_reducible apply wo_fldW1 | with_reducible apply wo_fldW2) | ((with_reducible apply gS); first | with_reducible apply w_seq | with_reducible apply w_asg | with_reducible apply w_sif | with_reducible apply w_next | with_reducible apply w_ret | with_reducible apply w_par | with_reducible apply w_drop | with_reducible apply w_asgT | with_reducible apply w_retN | with_reducible apply w_brk | with_reducible apply w_cnt | with_reducible apply w_raise | with_reducible apply w_forI) | ((with_reducible apply gI); first | with_reducible apply wI_t | with_reducible apply wI_f | with_reducible apply wI_not) | with_reducible apply w_bl | with_reducible apply thn_nx | with_reducible apply w_int | with_reducible apply w_obj | with_reducible apply thn_rt | with_reducible apply lp_nx | with_reducible apply fnl_int | with_reducible apply fnl_bl | with_reducible apply fnl_non | with_reducible apply fnl_str | with_reducible apply fnl_nx | with_reducible apply thn_bk | with_reducible apply thn_ct | with_reducible apply thn_xc | with_reducible apply lp_rt | with_reducible apply lp_bk | with_reducible apply lp_xc | with_reducible apply w_itL | with_reducible apply w_itT | with_reducible apply w_itK)
local macro_rules | `(tactic| walk_at "p") => `(tactic| repeat walk_at "w")
/-! RF: numbers of ties by places, rows by places. -/
abbrev fm (f : Int × Int → Int) (u v : Nat) : Int := f (min (u : Int) (v : Int), max (u : Int) (v : Int))
theorem fm_c (f : Int × Int → Int) (u v : Nat) : fm f u v = fm f v u := by
  unfold fm
  rw [show min (u : Int) (v : Int) = min (v : Int) (u : Int) by omega, show max (u : Int) (v : Int) = max (v : Int) (u : Int) by omega]
def rF (ns : List Int) : Nat → Int := fun v => ns.getD v 0
theorem snoc_ind {α : Type} {P : List α → Prop} (h0 : P []) (h1 : ∀ l t, P l → P (l ++ [t])) (l : List α) : P l := by
  have : ∀ m : List α, P m.reverse := by
    intro m
    induction m with
    | nil => exact h0
    | cons x m ih => rw [List.reverse_cons]; exact h1 _ _ ih
  have e := this l.reverse
  rw [List.reverse_reverse] at e
  exact e
theorem row_uqR {N : Nat} {ns ms : List Int} (h1 : ns.length = N) (h2 : ms.length = N) (e : ∀ a, a < N → rF ns a = rF ms a) : ns = ms := by
  refine List.ext_getElem (by omega) fun i i1 i2 => ?_
  have := e i (by omega)
  unfold rF at this
  rw [List.getD_eq_getElem?_getD, List.getD_eq_getElem?_getD, List.getElem?_eq_getElem i1, List.getElem?_eq_getElem i2] at this
  exact this
theorem rF_getE {ns : List Int} {v : Nat} (h : v < ns.length) : ns[v]? = some (rF ns v) := by
  unfold rF
  rw [List.getD_eq_getElem?_getD, List.getElem?_eq_getElem h]
  rfl
/-! ### the bag -/
def bagC (a b c : Int) (cs : List Int) : Cell := .lst [.int a, .int b, .int c, .lst (cs.map .int)]
section
variable {a b c n : Int} {cs : List Int} {C : Store} {i : Nat}
theorem mul1 (x : Int) (C : Store) : oMul (.int x) (.int 48271) C = some (.int (x * 48271), C) := ev_mul C (by simp [cMul])
theorem mul2 (x : Int) (C : Store) : oMul (.int 7919) (.int x) C = some (.int (7919 * x), C) := ev_mul C (by simp [cMul])
theorem mul3 (x : Int) (C : Store) : oMul (.int x) (.int 39373) C = some (.int (x * 39373), C) := ev_mul C (by simp [cMul])
theorem mul4 (x : Int) (C : Store) : oMul (.int x) (.int 30011) C = some (.int (x * 30011), C) := ev_mul C (by simp [cMul])
theorem mod1 (x : Int) (C : Store) : oMod (.int x) (.int 2147483647) C = some (.int (x % 2147483647), C) := ev_mod C (by decide)
theorem mod2 (x : Int) (C : Store) : oMod (.int x) (.int 1000000007) C = some (.int (x % 1000000007), C) := ev_mod C (by decide)
theorem mod3 (x : Int) (C : Store) : oMod (.int x) (.int 998244353) C = some (.int (x % 998244353), C) := ev_mod C (by decide)
theorem div7 (x : Int) (C : Store) : oDiv (.int x) (.int 7) C = some (.int (x / 7), C) := ev_div C (by decide) (by decide)
theorem take_0 (hC : C[i]? = some (some (bagC 0 b c cs))) (hb : 0 ≤ b) (hb2 : b < 2147483647) (hc : 0 ≤ c) (hcs : ∀ x ∈ cs, 0 ≤ x) : ∃ a' b' s2 s3, 0 ≤ a' ∧ 0 ≤ b' ∧ b' < 2147483647 ∧
    b_law_take_0 ⟨C.length, [some (.cell i), some (.int n), none, none, none, none, none]⟩ C = .nx [some (.cell i), some (.int n), s2, s3, none, none, none] (C.set i (some (bagC a' b' (c + 1) cs))) := by
  have hi : i < C.length := (List.getElem?_eq_some_iff.mp hC).1
  have hC' : C[i]? = some (some (Cell.lst [.int 0, .int b, .int c, .lst (cs.map .int)])) := hC
  have gs : ∀ x : Option Cell, (C.set i x)[i]? = some x := fun x => List.getElem?_set_self hi
  by_cases h1 : c < cs.length
  · have h1' : c.toNat < cs.length := by omega
    have hcell : 0 ≤ cs[c.toNat] := hcs _ (List.getElem_mem h1')
    by_cases h2 : 1000000000000000000 ≤ cs[c.toNat]
    · refine ⟨cs[c.toNat], (b * 48271 + cs[c.toNat] % 2147483647 + 7919 * (c + 1)) % 2147483647, some (.int cs[c.toNat]), some (.int (b * 48271 + cs[c.toNat] % 2147483647 + 7919 * (c + 1))), hcell, ?_, ?_, ?e⟩
      case e => simp [b_law_take_0, b_law_take_0t_0, b_law_take_0t_1, b_law_take_0t_2, b_law_take_0t_3, b_law_take_0t_4, b_law_take_0t_5, oIx, vS, hC', atI, ixN, gs, oLen, h1, h1', hc, auK2, auK4, cL, wr, cbC, cbL, cb, stK4, h2, mul1, mul2, mod1, bagC]
      · exact Int.emod_nonneg _ (by decide)
      · exact Int.emod_lt_of_pos _ (by decide)
    · refine ⟨0, (b * 48271 + cs[c.toNat] % 2147483647 + 7919 * (c + 1)) % 2147483647, some (.int cs[c.toNat]), some (.int (b * 48271 + cs[c.toNat] % 2147483647 + 7919 * (c + 1))), by decide, ?_, ?_, ?e⟩
      case e => simp [b_law_take_0, b_law_take_0t_0, b_law_take_0t_1, b_law_take_0t_2, b_law_take_0t_3, b_law_take_0t_4, b_law_take_0t_5, oIx, vS, hC', atI, ixN, gs, oLen, h1, h1', hc, auK2, auK4, cL, wr, cbC, cbL, cb, stK4, h2, mul1, mul2, mod1, bagC]
      · exact Int.emod_nonneg _ (by decide)
      · exact Int.emod_lt_of_pos _ (by decide)
  · refine ⟨0, (b * 48271 + 0 % 2147483647 + 7919 * (c + 1)) % 2147483647, some (.int 0), some (.int (b * 48271 + 0 % 2147483647 + 7919 * (c + 1))), by decide, ?_, ?_, ?e⟩
    case e => simp [b_law_take_0, b_law_take_0t_0, b_law_take_0t_1, b_law_take_0t_2, b_law_take_0t_3, b_law_take_0t_4, b_law_take_0t_5, oIx, vS, hC', atI, ixN, gs, oLen, h1, hc, auK2, auK4, cL, wr, cbC, cbL, cb, stK4, mul1, mul2, mod1, bagC]
    · exact Int.emod_nonneg _ (by decide)
    · exact Int.emod_lt_of_pos _ (by decide)
theorem take_1 (hC : C[i]? = some (some (bagC a b c cs))) (ha : 0 < a) (hn : 0 < n) (hn2 : n < 4611686018427387904) {s2 s3 : Option D} :
    b_law_take_1 ⟨C.length, [some (.cell i), some (.int n), s2, s3, none, none, none]⟩ C = .rt (.int (a % n)) (C.set i (some (bagC (a / n) b c cs))) := by
  have hC' : C[i]? = some (some (Cell.lst [.int a, .int b, .int c, .lst (cs.map .int)])) := hC
  simp [b_law_take_1, b_law_take_1t_0, b_law_take_1t_1, b_law_take_1t_2, oIx, vS, hC', atI, ixN, ha, ev_mod C hn, ev_div C hn hn2, stK4, cL, wr, cbC, cbL, cb, bagC]
theorem take_1n (hC : C[i]? = some (some (bagC 0 b c cs))) {s2 s3 : Option D} :
    b_law_take_1 ⟨C.length, [some (.cell i), some (.int n), s2, s3, none, none, none]⟩ C = .nx [some (.cell i), some (.int n), s2, s3, none, none, none] C := by
  have hC' : C[i]? = some (some (Cell.lst [.int 0, .int b, .int c, .lst (cs.map .int)])) := hC
  simp [b_law_take_1, oIx, vS, hC', atI, ixN]
theorem mulB {x y : Int} (h1 : 0 ≤ x) (h2 : x < 1000000007) (C : Store) : oMul (.int x) (.int y) C = some (.int (x * y), C) := ev_mul C (by
  have e1 : decide (-(2 ^ 64) < x) = true := decide_eq_true (by omega)
  have e2 : decide (x < 2 ^ 64) = true := decide_eq_true (by omega)
  simp only [cMul, e1, e2, Bool.and_self, Bool.true_or])
theorem take_2 (hC : C[i]? = some (some (bagC a b c cs))) (hb : 0 ≤ b) (hn : 0 < n) {s2 s3 : Option D} : ∃ r, 0 ≤ r ∧ r < n ∧
    sSeq b_law_take_2 (sSeq b_law_take_3 b_law_take_4) ⟨C.length, [some (.cell i), some (.int n), s2, s3, none, none, none]⟩ C = .rt (.int r) C := by
  have hC' : C[i]? = some (some (Cell.lst [.int a, .int b, .int c, .lst (cs.map .int)])) := hC
  have e0 : 0 ≤ (b + 1) * 39373 % 1000000007 := Int.emod_nonneg _ (by decide)
  have e1 : (b + 1) * 39373 % 1000000007 < 1000000007 := Int.emod_lt_of_pos _ (by decide)
  refine ⟨((b + 1) * 39373 % 1000000007 * ((b + 1) * 39373 % 1000000007) % 998244353 * 30011 % 998244353 / 7) % n, Int.emod_nonneg _ (by omega), Int.emod_lt_of_pos _ hn, ?_⟩
  simp [b_law_take_2, b_law_take_3, b_law_take_4, oIx, vS, hC', atI, ixN, mul3, mod2, mulB e0 e1, mod3, mul4, div7, ev_mod C hn]
/-- a bag in the store -/
def Bag (i : Nat) (cs : List Int) (C : Store) : Prop := ∃ a b c, C[i]? = some (some (bagC a b c cs)) ∧ 0 ≤ a ∧ 0 ≤ b ∧ b < 2147483647 ∧ 0 ≤ c
theorem take_ok (hB : Bag i cs C) (hcs : ∀ x ∈ cs, 0 ≤ x) (hn : 0 < n) (hn2 : n < 4611686018427387904) : ∃ r x, m_law_take [.cell i, .int n] C = .ok (.int r) (C.set i (some x)) ∧ 0 ≤ r ∧ r < n ∧ Bag i cs (C.set i (some x)) := by
  obtain ⟨a, b, c, hC, ha, hb, hb2, hc⟩ := hB
  have hi : i < C.length := (List.getElem?_eq_some_iff.mp hC).1
  have gs : ∀ x : Option Cell, (C.set i x)[i]? = some x := fun x => List.getElem?_set_self hi
  have tk : ∀ x : Option Cell, (C.set i x).take C.length = C.set i x := fun x => List.take_of_length_le (by simp)
  have hC' : C[i]? = some (some (Cell.lst [.int a, .int b, .int c, .lst (cs.map .int)])) := hC
  have ld : ∀ x : Option Cell, (C.set i x).length = C.length := fun x => by simp
  by_cases h0 : a = 0
  · subst h0
    obtain ⟨a', b', s2, s3, h1, h2, h3, e⟩ := take_0 (n := n) hC hb hb2 hc hcs
    by_cases h4 : a' = 0
    · subst h4
      obtain ⟨r, r1, r2, e2⟩ := take_2 (n := n) (s2 := s2) (s3 := s3) (gs (some (bagC 0 b' (c + 1) cs))) h2 hn
      have e1 := take_1n (n := n) (s2 := s2) (s3 := s3) (gs (some (bagC 0 b' (c + 1) cs)))
      rw [ld] at e1 e2
      refine ⟨r, _, ?_, r1, r2, 0, b', c + 1, gs _, by decide, h2, h3, by omega⟩
      rw [e_law_take, b_law_take, ev_seq, e, seqK_nx, ev_seq, e1, seqK_nx, e2]
      simp [tk]
    · have e1 := take_1 (n := n) (s2 := s2) (s3 := s3) (gs (some (bagC a' b' (c + 1) cs))) (by omega) hn hn2
      rw [ld] at e1
      refine ⟨a' % n, bagC (a' / n) b' (c + 1) cs, ?_, Int.emod_nonneg _ (by omega), Int.emod_lt_of_pos _ hn, a' / n, b', c + 1, gs _, Int.ediv_nonneg h1 (by omega), h2, h3, by omega⟩
      rw [e_law_take, b_law_take, ev_seq, e, seqK_nx, ev_seq, e1]
      simp [tk]
  · have e1 := take_1 (n := n) (s2 := none) (s3 := none) hC (by omega) hn hn2
    refine ⟨a % n, bagC (a / n) b c cs, ?_, Int.emod_nonneg _ (by omega), Int.emod_lt_of_pos _ hn, a / n, b, c, gs _, Int.ediv_nonneg ha (by omega), hb, hb2, hc⟩
    have e : b_law_take_0 ⟨C.length, [some (.cell i), some (.int n), none, none, none, none, none]⟩ C = .nx [some (.cell i), some (.int n), none, none, none, none, none] C := by
      simp [b_law_take_0, oIx, vS, hC', atI, ixN, h0]
    rw [e_law_take, b_law_take, ev_seq, e, seqK_nx, ev_seq, e1]
    simp [tk]
end
end CL
set_option maxHeartbeats 4000000
/-! M22: the bag. -/
namespace CL
open PySem L2 CT
theorem filter_yes {α : Type} (l : List α) : l.filter (fun _ => true) = l := List.filter_eq_self.mpr fun _ _ => rfl
def absD : D → D
  | .int i => .int (i.natAbs : Int)
  | _ => .non
theorem bag_ok (ns : List Int) (hl : ns.length ≤ 63) : ∃ cs : List Int, (∀ c ∈ cs, 0 ≤ c) ∧ m_law_bag [scrD ns] [] = .ok (.cell 0) [some (bagC 0 1234567891 0 cs)] := by
  obtain ⟨ms, e, hm⟩ : ∃ ms : List Int, cutD (ns.map D.int) none (some 63) = ms.map D.int ∧ ms.length ≤ 63 := by
    refine ⟨(ns.drop (HT.sIx (ns.map D.int).length 0 none)).take (HT.sIx (ns.map D.int).length (ns.map D.int).length (some 63) - HT.sIx (ns.map D.int).length 0 none), ?_, ?_⟩
    · unfold cutD
      rw [List.map_take, List.map_drop]
    · rw [List.length_take, List.length_drop]
      omega
  refine ⟨ms.map fun i => (i.natAbs : Int), fun c hc => ?_, ?_⟩
  · obtain ⟨i, _, rfl⟩ := List.mem_map.mp hc
    omega
  have es : mSlL false (mVar 0) mNoPart (mPart (mC (.int 63))) ⟨0, [some (scrD ns), none]⟩ [] = .ok (.lst (ms.map D.int)) [] := by
    show ofO (some (mkL false (cutD (ns.map D.int) none (some 63)) [])) = _
    rw [e]
    rfl
  have el := ev_lc (pure_C (ms.map D.int)) (mi := mSeq (mSlL false (mVar 0) mNoPart (mPart (mC (.int 63))))) (g := (Tgt.nm 1).M) (tt := tYesM) (te := mAp oAbs (mCons (mVar 1) mNil)) (vs := [1]) (F := ⟨0, [some (scrD ns), none]⟩) (C := []) (fun _ => true) absD
    (ev_seqI (d := .lst (ms.map D.int)) es rfl) (by rw [List.length_map]; omega)
    (fun y hy => by
      obtain ⟨i, _, rfl⟩ := List.mem_map.mp hy
      exact ⟨[some (scrD ns), some (.int i)], by simp, fun acc => ⟨rfl, fun _ => by simp [absD]⟩⟩)
    (fun y hy _ => by
      obtain ⟨i, _, rfl⟩ := List.mem_map.mp hy
      rfl)
  rw [filter_yes, List.map_map] at el
  have eb : b_law_bag ⟨0, [some (scrD ns), none]⟩ [] = .rt (.cell 0) [some (bagC 0 1234567891 0 (ms.map fun i => (i.natAbs : Int)))] := by
    rw [b_law_bag, ev_sret, ev_ap, ev_cons, ev_c, consK_ok, ev_cons, ev_c, consK_ok, ev_cons, ev_c, consK_ok, ev_cons, el, consK_ok, ev_nil, consK2_ok, consK2_ok, consK2_ok, consK2_ok, apK_ok]
    have eo : ∀ x : D, oLst true [.int 0, .int 1234567891, .int 0, x] [] = some (.cell 0, [some (.lst [.int 0, .int 1234567891, .int 0, x])]) := fun x => by simp [oLst, szN, mkL]
    rw [eo, ev_ofO_some, retK_ok, bagC, List.map_map]
    rfl
  have ed : m_law_bag [scrD ns] [] = (match b_law_bag ⟨0, [some (scrD ns), none]⟩ [] with
    | .rt d C' => finO 0 d C'
    | .xc e _ C' => if cbL 0 e.fs = true then .exc e (C'.take 0) else .stuck
    | _ => .stuck) := rfl
  have cI := cbL_ints 0 (ms.map fun i => (i.natAbs : Int))
  rw [List.map_map] at cI
  rw [ed, eb]
  simp [finO, bagC, cbL, cb, cI]
theorem cbL_all {n : Nat} : ∀ {l : List D}, (∀ d ∈ l, cb n d = true) → cbL n l = true
  | [], _ => rfl
  | d :: l, h => by
    show (cb n d && cbL n l) = true
    rw [h d (List.mem_cons_self ..), cbL_all fun x hx => h x (List.mem_cons_of_mem _ hx)]
    rfl
theorem mem_rng {lo : Int} {N : Nat} {x : D} (h : x ∈ rngI lo N) : ∃ u : Nat, u < N ∧ x = .int (lo + u) := by
  unfold rngI at h
  obtain ⟨u, hu, rfl⟩ := List.mem_map.mp h
  exact ⟨u, List.mem_range.mp hu, rfl⟩
@[simp] theorem dBools_map : ∀ l : List Bool, dBools (l.map D.bl) = some l
  | [] => rfl
  | x :: l => by
    show (dBools (l.map D.bl)).map _ = _
    rw [dBools_map l]
    rfl
@[simp] theorem dInts_map : ∀ l : List Int, dInts (l.map D.int) = some l
  | [] => rfl
  | x :: l => by
    show (dInts (l.map D.int)).map _ = _
    rw [dInts_map l]
    rfl
/-- a bag at i -/
def Bg (i : Nat) (C : Store) : Prop := ∃ cs, (∀ x ∈ cs, 0 ≤ x) ∧ Bag i cs C
/-- the bag alone has changed -/
def To (i : Nat) (C C' : Store) : Prop := ∃ x, C' = C.set i (some x) ∧ Bg i C'
section
variable {i : Nat} {C C' C'' Y Z : Store} {n : Int}
theorem Bg.lt (h : Bg i C) : i < C.length := by
  obtain ⟨cs, _, a, b, c, e, _⟩ := h
  exact (List.getElem?_eq_some_iff.mp e).1
theorem Bg.app (h : Bg i C) (Y : Store) : Bg i (C ++ Y) := by
  have hi := h.lt
  obtain ⟨cs, hcs, a, b, c, e, q⟩ := h
  exact ⟨cs, hcs, a, b, c, by rw [List.getElem?_append_left hi]; exact e, q⟩
theorem Bg.cut (hi : i < C.length) (h : Bg i (C ++ Y)) : Bg i C := by
  obtain ⟨cs, hcs, a, b, c, e, q⟩ := h
  exact ⟨cs, hcs, a, b, c, by rw [List.getElem?_append_left hi] at e; exact e, q⟩
theorem To.bg (h : To i C C') : Bg i C' := by
  obtain ⟨x, _, b⟩ := h
  exact b
theorem To.len (h : To i C C') : C'.length = C.length := by
  obtain ⟨x, rfl, _⟩ := h
  simp
theorem To.trans (h : To i C C') (g : To i C' C'') : To i C C'' := by
  obtain ⟨x, rfl, _⟩ := h
  obtain ⟨y, rfl, b⟩ := g
  exact ⟨y, by simp, b⟩
theorem To.refl (h : Bg i C) : To i C C := by
  obtain ⟨cs, hcs, a, b, c, e, q⟩ := h
  refine ⟨bagC a b c cs, ?_, cs, hcs, a, b, c, e, q⟩
  obtain ⟨h1, h2⟩ := List.getElem?_eq_some_iff.mp e
  have z := List.set_getElem_self (as := C) (i := i) h1
  rw [h2] at z
  exact z.symm
theorem To.cut (hi : i < C.length) (h : To i (C ++ Y) Z) : ∃ C', Z = C' ++ Y ∧ To i C C' := by
  obtain ⟨x, rfl, b⟩ := h
  rw [List.set_append_left _ _ hi] at b ⊢
  exact ⟨_, rfl, x, rfl, b.cut (by simpa using hi)⟩
theorem take_to (hB : Bg i C) (hn : 0 < n) (hn2 : n < 4611686018427387904) (Y : Store) : ∃ r C', m_law_take [.cell i, .int n] (C ++ Y) = .ok (.int r) (C' ++ Y) ∧ 0 ≤ r ∧ r < n ∧ To i C C' := by
  have hi := hB.lt
  obtain ⟨cs, hcs, hB'⟩ := hB.app Y
  obtain ⟨r, x, e, h1, h2, h3⟩ := take_ok hB' hcs hn hn2
  obtain ⟨C', e2, t⟩ := To.cut hi (⟨x, rfl, cs, hcs, h3⟩ : To i (C ++ Y) ((C ++ Y).set i (some x)))
  exact ⟨r, C', by rw [e, e2], h1, h2, t⟩
end
theorem To.get {i j : Nat} {C C' : Store} (h : To i C C') (hj : j ≠ i) : C'[j]? = C[j]? := by
  obtain ⟨x, rfl, _⟩ := h
  rw [List.getElem?_set_ne (Ne.symm hj)]
theorem cb_of {n : Nat} : ∀ {l : List D} {d : D}, cbL n l = true → d ∈ l → cb n d = true
  | x :: l, d, h, hm => by
    simp only [cbL, Bool.and_eq_true] at h
    rcases List.mem_cons.mp hm with rfl | hm
    · exact h.1
    · exact cb_of h.2 hm
/-! TK3: data that can be shown and compared. -/
mutual
def sm : PyData → Bool
  | .none => true
  | .bool _ => true
  | .int i => decide (i.natAbs < 1000000000000)
  | .list xs => smA xs
  | .tuple xs => smA xs
  | .str _ => false
  | .dict _ => false
def smA : List PyData → Bool
  | [] => true
  | x :: xs => sm x && smA xs
end
mutual
theorem sm_ok : ∀ p : PyData, sm p = true → p.showable = true ∧ p.hasDict = false ∧ p.leavesShort 13 = true
  | .none, _ => ⟨rfl, rfl, rfl⟩
  | .bool _, _ => ⟨rfl, rfl, rfl⟩
  | .int i, h => by
    have h' : i.natAbs < 10 ^ 12 := by simpa [sm] using h
    refine ⟨?_, rfl, ?_⟩
    · show decide (i.natAbs.log2 < 1920) = true
      refine decide_eq_true ?_
      by_cases z : i.natAbs = 0
      · rw [z]
        decide
      · exact (Nat.log2_lt z).mpr (Nat.lt_trans h' (by decide))
    · show decide ((PyData.shown (.int i)).length ≤ 13) = true
      exact decide_eq_true (PyData.shown_int_le h')
  | .list xs, h => by
    have := smA_ok xs (by simpa [sm] using h)
    refine ⟨?_, ?_, ?_⟩
    · simpa [PyData.showable] using this.1
    · simpa [PyData.hasDict] using this.2.1
    · simpa [PyData.leavesShort] using this.2.2
  | .tuple xs, h => by
    have := smA_ok xs (by simpa [sm] using h)
    refine ⟨?_, ?_, ?_⟩
    · simpa [PyData.showable] using this.1
    · simpa [PyData.hasDict] using this.2.1
    · simpa [PyData.leavesShort] using this.2.2
  | .str _, h => by simp [sm] at h
  | .dict _, h => by simp [sm] at h
theorem smA_ok : ∀ xs : List PyData, smA xs = true → PyData.showableAll xs = true ∧ PyData.hasDictAll xs = false ∧ PyData.leavesShortAll 13 xs = true
  | [], _ => ⟨rfl, rfl, rfl⟩
  | x :: xs, h => by
    simp only [smA, Bool.and_eq_true] at h
    obtain ⟨a1, a2, a3⟩ := sm_ok x h.1
    obtain ⟨b1, b2, b3⟩ := smA_ok xs h.2
    simp [PyData.showableAll, PyData.hasDictAll, PyData.leavesShortAll, a1, a2, a3, b1, b2, b3]
end
theorem repr_of {x : D} {C : Store} {p : PyData} (e : toP C x = some p) (h : repOk p = true) : oRepr [x] C = some (.str p.shown, C) := by
  simp [oRepr, e, h]
theorem wt_int {i : Int} (h : i.natAbs < 1000000000000) : (PyData.int i).weight ≤ 40 := by
  simp only [PyData.weight]
  split
  · omega
  · rename_i z
    have z' : i.natAbs ≠ 0 := by
      intro e
      apply z
      have : i = 0 := by omega
      rw [this]
      rfl
    have : i.natAbs.log2 < 40 := (Nat.log2_lt z').mpr (Nat.lt_trans h (by decide))
    omega
structure Gd (w dp : Nat) (x : D) (p : PyData) : Prop where
  tp : ∀ C, toP C x = some p
  cl : p.canLay0 = true
  sh : p.showable = true
  nd : p.hasDict = false
  ls : p.leavesShort 40 = true
  dp : p.depth ≤ dp
  wt : p.weight ≤ w
structure GdL (w dp : Nat) (xs : List D) (ps : List PyData) : Prop where
  tp : ∀ C, toPs C xs = some ps
  cl : PyData.canLayAll0 ps = true
  sh : PyData.showableAll ps = true
  nd : PyData.hasDictAll ps = false
  ls : PyData.leavesShortAll 40 ps = true
  dp : PyData.depthAll ps ≤ dp
  wt : PyData.weightAll ps ≤ xs.length * (w + 1)
  len : ps.length = xs.length
theorem gdl_nil {w dp : Nat} : GdL w dp [] [] := ⟨fun _ => rfl, rfl, rfl, rfl, rfl, by simp [PyData.depthAll], by simp [PyData.weightAll], rfl⟩
theorem gdl_cons {w dp : Nat} {x : D} {p : PyData} {xs : List D} {ps : List PyData} (h : Gd w dp x p) (t : GdL w dp xs ps) : GdL w dp (x :: xs) (p :: ps) := by
  refine ⟨fun C => ?_, ?_, ?_, ?_, ?_, ?_, ?_, ?_⟩
  · simp only [toPs, h.tp, t.tp]
  · simp [PyData.canLayAll0, h.cl, t.cl]
  · simp [PyData.showableAll, h.sh, t.sh]
  · simp [PyData.hasDictAll, h.nd, t.nd]
  · simp [PyData.leavesShortAll, h.ls, t.ls]
  · have h1 := h.dp
    have h2 := t.dp
    simp only [PyData.depthAll]
    omega
  · have h1 := h.wt
    have h2 := t.wt
    simp only [PyData.weightAll, List.length_cons, Nat.succ_mul]
    omega
  · simp [t.len]
theorem gdl_all {w dp : Nat} : ∀ {xs : List D}, (∀ x ∈ xs, ∃ p, Gd w dp x p) → ∃ ps, GdL w dp xs ps
  | [], _ => ⟨[], gdl_nil⟩
  | x :: xs, h => by
    obtain ⟨p, hp⟩ := h x (List.mem_cons_self ..)
    obtain ⟨ps, ht⟩ := gdl_all fun y hy => h y (List.mem_cons_of_mem _ hy)
    exact ⟨p :: ps, gdl_cons hp ht⟩
theorem gd_tup {w dp n : Nat} {xs : List D} {ps : List PyData} (h : GdL w dp xs ps) (hn : xs.length ≤ n) : Gd (n * (w + 1)) (dp + 1) (.tup xs) (.tuple ps) := by
  refine ⟨fun C => ?_, ?_, ?_, ?_, ?_, ?_, ?_⟩
  · simp only [toP, h.tp, Option.map_some]
  · simpa [PyData.canLay0] using h.cl
  · simpa [PyData.showable] using h.sh
  · simpa [PyData.hasDict] using h.nd
  · simpa [PyData.leavesShort] using h.ls
  · have := h.dp
    simp only [PyData.depth]
    omega
  · have := h.wt
    have z : xs.length * (w + 1) ≤ n * (w + 1) := Nat.mul_le_mul_right _ hn
    simp only [PyData.weight]
    omega
theorem gd_lst {w dp n : Nat} {xs : List D} {ps : List PyData} (h : GdL w dp xs ps) (hn : xs.length ≤ n) : Gd (n * (w + 1)) (dp + 1) (.lst xs) (.list ps) := by
  refine ⟨fun C => ?_, ?_, ?_, ?_, ?_, ?_, ?_⟩
  · simp only [toP, h.tp, Option.map_some]
  · simpa [PyData.canLay0] using h.cl
  · simpa [PyData.showable] using h.sh
  · simpa [PyData.hasDict] using h.nd
  · simpa [PyData.leavesShort] using h.ls
  · have := h.dp
    simp only [PyData.depth]
    omega
  · have := h.wt
    have z : xs.length * (w + 1) ≤ n * (w + 1) := Nat.mul_le_mul_right _ hn
    simp only [PyData.weight]
    omega
theorem Gd.mono {w w' dp dp' : Nat} {x : D} {p : PyData} (h : Gd w dp x p) (hw : w ≤ w') (hd : dp ≤ dp') : Gd w' dp' x p := ⟨h.tp, h.cl, h.sh, h.nd, h.ls, Nat.le_trans h.dp hd, Nat.le_trans h.wt hw⟩
theorem Gd.ok {w dp : Nat} {x : D} {p : PyData} (h : Gd w dp x p) (hw : w ≤ 300000) (hd : dp ≤ 60) : repOk p = true := by
  have h4 := PyData.shown_le 40 (by decide) p h.ls
  have h5 := h.wt
  have h6 := h.dp
  have hz : p.shown.length ≤ 16777216 := by omega
  have hd' : p.depth ≤ 60 := by omega
  simp [repOk, h.sh, h.nd, hd', szN, hz]
theorem Gd.shp {w dp : Nat} {x : D} {p : PyData} (h : Gd w dp x p) (hd : dp ≤ 60) : SeqAt.shaped p = true := by
  have := h.dp
  have h64 : p.depth ≤ 64 := by omega
  simp [SeqAt.shaped, h.cl, h64]
theorem gd_bl (b : Bool) : Gd 0 0 (.bl b) (.bool b) := ⟨fun _ => rfl, rfl, rfl, rfl, rfl, by simp [PyData.depth], by simp [PyData.weight]⟩
theorem gd_int {i : Int} (h : i.natAbs < 1000000000000) : Gd 40 0 (.int i) (.int i) := by
  have h1 := sm_ok (.int i) (by simpa [sm] using h)
  have h' : i.natAbs < 10 ^ 12 := h
  refine ⟨fun _ => rfl, rfl, h1.1, rfl, ?_, by simp [PyData.depth], wt_int h⟩
  have := PyData.shown_int_le h'
  simp only [PyData.leavesShort, decide_eq_true_eq]
  omega
theorem is_integer_int (x : Int) (C : Store) : m_is_integer [.int x] C = .ok (.bl true) C := by
  simp [m_is_integer, b_is_integer, ev_def, isi, tyD, isaT]
theorem is_count_int (x a b : Int) (C : Store) : m_is_count [.int x, .int a, .int b] C = .ok (.bl (decide (a ≤ x) && decide (x ≤ b))) C := by
  simp [m_is_count, b_is_count, ev_def, is_integer_int]
  by_cases h : a ≤ x <;> simp [h]
end CL
set_option maxHeartbeats 4000000
/-! M2: sums of ties, grids, webs. -/
namespace CL
open PySem L2 CT
abbrev T3 := Int × Int × Int
def triD (t : T3) : D := .tup [.int t.1, .int t.2.1, .int t.2.2]
def pr (t : T3) : Int × Int := (min t.1 t.2.1, max t.1 t.2.1)
def addT (d : Dc) (t : T3) : Dc := dp d (pr t) (dg0 d (pr t) + t.2.2)
def sums (L : List T3) : Dc := L.foldl addT []
def IsSeq (d : D) (xs : List D) : Prop := ∀ C, itS d C = some (itC xs)
theorem seq_lst (xs : List D) : IsSeq (.lst xs) xs := fun _ => rfl
theorem seq_tup (xs : List D) : IsSeq (.tup xs) xs := fun _ => rfl
theorem seq_kt (xs : List D) : IsSeq (.kt xs) xs := fun _ => rfl
/-! ### d[k] = v -/
def puK4 (F : Fr) (v o x : D) (C3 : Store) : RS := match x, cD o C3 with
  | .tup ds, some (i, ks, vs) => match keyL ds with
    | some key => if szN (ks.length + 1) = true then match wr F.fl i (.dT (putT ks vs key v).1 (putT ks vs key v).2) C3 with
      | some C4 => .nx F.sl C4
      | none => .stuck
      else .stuck
    | none => .stuck
  | _, _ => .stuck
def puK3 (F : Fr) (v o : D) (m : R D) : RS := bndS F.sl m fun x C3 => puK4 F v o x C3
@[simp] theorem puK3_ok (F : Fr) (v o x : D) (C : Store) : puK3 F v o (.ok x C) = puK4 F v o x C := rfl
def puK2 (mi : ME) (F : Fr) (v : D) (m : R D) : RS := bndS F.sl m fun o C2 => puK3 F v o (mi F C2)
@[simp] theorem puK2_ok (mi : ME) (F : Fr) (v o : D) (C : Store) : puK2 mi F v (.ok o C) = puK3 F v o (mi F C) := rfl
def puK (mo mi : ME) (F : Fr) (m : R D) : RS := bndS F.sl m fun v C1 => puK2 mi F v (mo F C1)
@[simp] theorem puK_ok (mo mi : ME) (F : Fr) (v : D) (C : Store) : puK mo mi F (.ok v C) = puK2 mi F v (mo F C) := rfl
@[simp] theorem ev_put (me mo mi : ME) (F : Fr) (C : Store) : sPut me mo mi F C = puK mo mi F (me F C) := rfl
@[simp] theorem keyL2 (a b : Int) : keyL [.int a, .int b] = some [.inl a, .inl b] := rfl
theorem put_at {F : Fr} {C : Store} {i : Nat} {d : Dc} {a b v : Int} (hC : C[i]? = some (some (.dT (dcK d) (dcV d)))) (hz : d.length < 16777216) (hf : F.fl ≤ i ∨ True) :
    puK4 F (.int v) (.cell i) (.tup [.int a, .int b]) C = .nx F.sl (C.set i (some (.dT (dcK (dp d (a, b) v)) (dcV (dp d (a, b) v))))) := by
  have e := put_dc d (a, b) v
  have z : szN ((dcK d).length + 1) = true := by simp [szN, dcK]; omega
  have c0 : cbC 0 (.dT (dcK (dp d (a, b) v)) (dcV (dp d (a, b) v))) = true := by
    show cbL 0 (dcV (dp d (a, b) v)) = true
    unfold dcV
    have := cbL_ints 0 ((dp d (a, b) v).map (·.2))
    rw [List.map_map] at this
    exact this
  have w : wr F.fl i (.dT (dcK (dp d (a, b) v)) (dcV (dp d (a, b) v))) C = some (C.set i (some (.dT (dcK (dp d (a, b) v)) (dcV (dp d (a, b) v))))) := by
    unfold wr
    rw [if_neg (fun h => by rw [c0] at h; cases h.2)]
  simp only [puK4, cD, hC, keyL2, z, if_true]
  simp only at e
  rw [e]
  simp only [w]
theorem get_at {x : D} {C : Store} {d : Dc} {a b : Int} (h : vD x C = some (dcK d, dcV d)) : oDGet x (.tup [.int a, .int b]) (.int 0) C = some (.int (dg0 d (a, b)), C) := by
  have e := look_dc (a, b) d
  simp only at e
  simp only [oDGet, h, keyL2, Option.bind_some, Option.map_some]
  rw [e]
  unfold dg0
  cases dg d (a, b) <;> rfl
theorem sums_take (L : List T3) (j : Nat) (t : T3) (h : L[j]? = some t) : sums (L.take (j + 1)) = addT (sums (L.take j)) t := by
  have hj : j < L.length := (List.getElem?_eq_some_iff.mp h).1
  have e : L.take (j + 1) = L.take j ++ [t] := by
    rw [← (List.getElem?_eq_some_iff.mp h).2]
    exact (List.take_append_getElem hj).symm
  unfold sums
  rw [e, List.foldl_append]
  rfl
theorem sums_len : ∀ (L : List T3) (d : Dc), (L.foldl addT d).length ≤ d.length + L.length
  | [], d => by simp
  | t :: L, d => by
    have h1 := sums_len L (addT d t)
    have h2 : (addT d t).length ≤ d.length + 1 := dp_len _ _ _
    simp only [List.foldl_cons, List.length_cons]
    omega
theorem summed_ok {d : D} {L : List T3} {C : Store} (hd : SeqIn d (L.map triD) C) (hl : L.length ≤ 1000000) : m_summed [d] C = .ok (.dT (dcK (sums L)) (dcV (sums L))) C := by
  obtain ⟨it, hit, pit⟩ := hd
  rw [e_summed, b_summed, ev_seq]
  have e0 : b_summed_0 ⟨C.length, [some d, none, none, none, none, none]⟩ C = .nx [some d, some (.cell C.length), none, none, none, none] (C ++ [some (.dT [] [])]) := by
    simp [b_summed_0, mDNew, mkD]
  rw [e0, seqK_nx, ev_seq, b_summed_1, ev_for]
  rw [ev_seqI (d := d) (it := it) (by simp) (hit _), forK_ok]
  obtain ⟨sl', C', h1, h2⟩ := loop_on pit (g := (Tgt.tp [2, 3, 4]).M) (body := sSeq b_summed_1b_0 b_summed_1b_1) (fl := C.length)
    (fun j sl St => St = C ++ [some (.dT (dcK (sums (L.take j))) (dcV (sums (L.take j))))] ∧ ∃ s2 s3 s4 s5, sl = [some d, some (.cell C.length), s2, s3, s4, s5])
    (fun j sl St hi => ⟨_, hi.1⟩)
    (fun j x sl St hx hi => by
      obtain ⟨rfl, s2, s3, s4, s5, rfl⟩ := hi
      rw [List.getElem?_map, Option.map_eq_some_iff] at hx
      obtain ⟨t, ht, rfl⟩ := hx
      have at_n : ∀ c : Option Cell, (C ++ [c])[C.length]? = some c := fun c => by simp
      have hv : vD (.cell C.length) (C ++ [some (.dT (dcK (sums (L.take j))) (dcV (sums (L.take j))))]) = some (dcK (sums (L.take j)), dcV (sums (L.take j))) := by
        simp only [vD, at_n]
      have hz : (sums (L.take j)).length < 16777216 := by
        have h1 := sums_len (L.take j) []
        have h2 : (L.take j).length ≤ L.length := by simp; omega
        have h3 : (sums (L.take j)).length ≤ ([] : Dc).length + (L.take j).length := h1
        simp only [List.length_nil] at h3
        omega
      refine ⟨[some d, some (.cell C.length), some (.int t.1), some (.int t.2.1), some (.int t.2.2), s5], [some d, some (.cell C.length), some (.int t.1), some (.int t.2.1), some (.int t.2.2), some (.tup [.int (pr t).1, .int (pr t).2])], C ++ [some (.dT (dcK (addT (sums (L.take j)) t)) (dcV (addT (sums (L.take j)) t)))], by simp [triD], ?_, ?_, _, _, _, _, rfl⟩
      · rw [ev_seq]
        have eb : b_summed_1b_0 ⟨C.length, [some d, some (.cell C.length), some (.int t.1), some (.int t.2.1), some (.int t.2.2), s5]⟩ (C ++ [some (.dT (dcK (sums (L.take j))) (dcV (sums (L.take j))))]) =
            .nx [some d, some (.cell C.length), some (.int t.1), some (.int t.2.1), some (.int t.2.2), some (.tup [.int (pr t).1, .int (pr t).2])] (C ++ [some (.dT (dcK (sums (L.take j))) (dcV (sums (L.take j))))]) := by
          simp [b_summed_1b_0, oTup, szN, pr]
        rw [eb, seqK_nx]
        have hs : (vD (.cell C.length) (C ++ [some (.dT (dcK (sums (L.take j))) (dcV (sums (L.take j))))])).isSome = true := by rw [hv]; rfl
        simp only [b_summed_1b_1, ev_put, ev_op, ev_dget, ev_var, List.getElem?_cons_succ, List.getElem?_cons_zero, getV_some, getK_ok _ _ _ hs, getK2_ok, ev_c, getK3_ok, get_at hv, ev_ofO_some, opK_ok, opK2_ok, ev_add, puK_ok, puK2_ok, puK3_ok]
        rw [put_at (at_n _) hz (.inr trivial)]
        simp [addT]
      · rw [sums_take L j t ht])
    (sl := [some d, some (.cell C.length), none, none, none, none]) (C := C ++ [some (.dT [] [])]) ⟨rfl, _, _, _, _, rfl⟩
  rw [h1, seqK_nx]
  obtain ⟨rfl, s2, s3, s4, s5, rfl⟩ := h2
  have hL : L.take (L.map triD).length = L := by rw [List.length_map, List.take_length]
  rw [hL]
  have at_n : ∀ c : Option Cell, (C ++ [c])[C.length]? = some c := fun c => by simp
  have cv : cbL C.length (dcV (sums L)) = true := by
    unfold dcV
    have := cbL_ints C.length ((sums L).map (·.2))
    rw [List.map_map] at this
    exact this
  simp [b_summed_2, fin, fz, cb, cv]
end CL
set_option maxHeartbeats 4000000
/-! M3: a web is made. -/
namespace CL
open PySem L2 CT
@[simp] theorem getK_dT (b c : ME) (F : Fr) (ks : List (List Key)) (vs : List D) (C : Store) : getK b c F (.ok (.dT ks vs) C) = getK2 c F (.dT ks vs) (b F C) := rfl
def ValidT (N : Nat) (t : T3) : Prop := 0 ≤ t.1 ∧ t.1 < N ∧ 0 ≤ t.2.1 ∧ t.2.1 < N ∧ t.1 ≠ t.2.1 ∧ 0 ≤ t.2.2 ∧ t.2.2 ≤ 1000000000
theorem is_tie_true {N : Nat} {t : T3} (h : ValidT N t) (C : Store) : m_is_tie [.int N, triD t] C = .ok (.bl true) C := by
  obtain ⟨h1, h2, h3, h4, h5, h6, h7⟩ := h
  have a1 : t.1 ≤ (N : Int) - 1 := by omega
  have a2 : t.2.1 ≤ (N : Int) - 1 := by omega
  simp [e_is_tie, b_is_tie, b_is_tie_0, b_is_tie_1, b_is_tie_2, b_is_tie_3, isi, tyD, isaT, oLen, vS, triD, is_count_int, h1, h3, h5, h6, h7, a1, a2]
def rowsOf (N : Nat) (f : Int × Int → Int) : List (List Int) := (List.range N).map fun u : Nat => (List.range N).map fun v : Nat => f (min (u : Int) (v : Int), max (u : Int) (v : Int))
def gridD (G : List (List Int)) : D := .lst (G.map fun r => .lst (r.map .int))
def asI : D → Int
  | .int i => i
  | _ => 0
theorem rng_all (N : Nat) (h : D → D) : ((rngI 0 N).filter fun _ => true).map h = (List.range N).map fun u => h (.int (u : Nat)) := by
  rw [filter_yes, rngI, List.map_map]
  apply List.map_congr_left
  intro a _
  simp
theorem inR_nat {N : Nat} (h : N ≤ 1000) : inR (N : Int) = true := by
  simp only [inR, Bool.and_eq_true, decide_eq_true_eq]
  omega
theorem grid_of_ok {d : D} {L : List T3} {C : Store} {N : Nat} (hN : N ≤ 60) (hd : SeqIn d (L.map triD) C) (hl : L.length ≤ 1000000) : m_grid_of [.int N, d] C = .ok (gridD (rowsOf N (dg0 (sums L)))) C := by
  rw [e_grid_of, b_grid_of, ev_seq]
  have e0 : b_grid_of_0 ⟨C.length, [some (.int N), some d, none, none, none]⟩ C = .nx [some (.int N), some d, some (.dT (dcK (sums L)) (dcV (sums L))), none, none] C := by
    simp [b_grid_of_0, summed_ok hd hl]
  rw [e0, seqK_nx]
  have inner : ∀ (u : Int) (C' : Store), mLc false (mRng1 (mVar 0)) (Tgt.nm 4).M tYesM (mDGet (mVar 2) (mAp oTup (mCons (mAp oMin2 (mCons (mVar 3) (mCons (mVar 4) mNil))) (mCons (mAp oMax2 (mCons (mVar 3) (mCons (mVar 4) mNil))) mNil))) (mC (.int 0))) [4]
      ⟨C.length, [some (.int N), some d, some (.dT (dcK (sums L)) (dcV (sums L))), some (.int u), none]⟩ C' = .ok (.lst (((List.range N).map fun v : Nat => dg0 (sums L) (min u (v : Int), max u (v : Int))).map .int)) C' := fun u C' => by
    rw [ev_lc (pure_R 0 N) (fun _ => true) (fun x => .int (dg0 (sums L) (min u (asI x), max u (asI x)))) (by rw [ev_rng1 (j := (N : Int)) (by simp) (inR_nat (by omega))]; simp) (by simp [rngI]; omega)
      (fun x hx => by
        obtain ⟨v, hv, rfl⟩ := mem_rng hx
        refine ⟨[some (.int N), some d, some (.dT (dcK (sums L)) (dcV (sums L))), some (.int u), some (.int (0 + (v : Int)))], by simp, fun acc => ⟨rfl, fun _ => ?_⟩⟩
        simp [oTup, szN, asI, get_at (x := .dT (dcK (sums L)) (dcV (sums L))) rfl])
      (fun x hx _ => rfl)]
    rw [rng_all, List.map_map]
    rfl
  have e1 : mLc false (mRng1 (mVar 0)) (Tgt.nm 3).M tYesM (mLc false (mRng1 (mVar 0)) (Tgt.nm 4).M tYesM (mDGet (mVar 2) (mAp oTup (mCons (mAp oMin2 (mCons (mVar 3) (mCons (mVar 4) mNil))) (mCons (mAp oMax2 (mCons (mVar 3) (mCons (mVar 4) mNil))) mNil))) (mC (.int 0))) [4]) [3]
      ⟨C.length, [some (.int N), some d, some (.dT (dcK (sums L)) (dcV (sums L))), none, none]⟩ C = .ok (gridD (rowsOf N (dg0 (sums L)))) C := by
    rw [ev_lc (pure_R 0 N) (fun _ => true) (fun x => .lst (((List.range N).map fun v : Nat => dg0 (sums L) (min (asI x) (v : Int), max (asI x) (v : Int))).map .int)) (by rw [ev_rng1 (j := (N : Int)) (by simp) (inR_nat (by omega))]; simp) (by simp [rngI]; omega)
      (fun x hx => by
        obtain ⟨u, hu, rfl⟩ := mem_rng hx
        refine ⟨[some (.int N), some d, some (.dT (dcK (sums L)) (dcV (sums L))), some (.int (0 + (u : Int))), none], by simp, fun acc => ⟨rfl, fun _ => ?_⟩⟩
        exact inner (0 + (u : Int)) _)
      (fun x hx _ => cbL_ints _ _)]
    rw [rng_all]
    simp [gridD, rowsOf, asI, List.map_map]
  have cg : cb C.length (gridD (rowsOf N (dg0 (sums L)))) = true := by
    show cbL C.length _ = true
    refine cbL_all fun d hd => ?_
    obtain ⟨r, hr, rfl⟩ := List.mem_map.mp hd
    exact cbL_ints _ _
  rw [b_grid_of_1, ev_sret, e1, retK_ok, finS_rt]
  show (if cb C.length (gridD (rowsOf N (dg0 (sums L)))) = true then R.ok (gridD (rowsOf N (dg0 (sums L)))) (C.take C.length) else .stuck) = _
  rw [if_pos cg, List.take_length]
end CL
set_option maxHeartbeats 4000000
/-! M4: Web(size, ties). -/
namespace CL
open PySem L2 CT
def pairsL (N : Nat) : List (Int × Int) := (List.range N).flatMap fun u : Nat => (List.range (N - (u + 1))).map fun w : Nat => ((u : Int), ((u + 1 + w : Nat) : Int))
def tiesL (N : Nat) (f : Int × Int → Int) : List T3 := ((pairsL N).filter fun p => decide (0 < f p)).map fun p => (p.1, p.2, f p)
def webD (N : Nat) (f : Int × Int → Int) : D := .obj 0 [.int N, gridD (rowsOf N f), .tup ((tiesL N f).map triD)]
def pD (p : Int × Int) : D := .tup [.int p.1, .int p.2]
theorem mem_pairs {N : Nat} {p : Int × Int} : p ∈ pairsL N ↔ ∃ u v : Nat, u < v ∧ v < N ∧ p = ((u : Int), (v : Int)) := by
  unfold pairsL
  rw [List.mem_flatMap]
  constructor
  · rintro ⟨u, hu, hp⟩
    obtain ⟨w, hw, rfl⟩ := List.mem_map.mp hp
    have := List.mem_range.mp hu
    have := List.mem_range.mp hw
    exact ⟨u, u + 1 + w, by omega, by omega, rfl⟩
  · rintro ⟨u, v, h1, h2, rfl⟩
    refine ⟨u, List.mem_range.mpr (by omega), List.mem_map.mpr ⟨v - (u + 1), List.mem_range.mpr (by omega), ?_⟩⟩
    have e : u + 1 + (v - (u + 1)) = v := by omega
    rw [e]
theorem grid_ix {N : Nat} {f : Int × Int → Int} {u : Nat} (hu : u < N) (C : Store) : oIx (gridD (rowsOf N f)) (.int u) C = some (.lst (((List.range N).map fun v : Nat => f (min (u : Int) (v : Int), max (u : Int) (v : Int))).map .int), C) := by
  simp [oIx, vS, gridD, rowsOf, atI, ixN, hu]
theorem row_ix {N : Nat} {g : Nat → Int} {v : Nat} (hv : v < N) (C : Store) : oIx (.lst (((List.range N).map g).map .int)) (.int v) C = some (.int (g v), C) := by
  simp [oIx, vS, atI, ixN, hv]
theorem anyF {C : Store} {l : List D} (h : ∀ d ∈ l, d = .bl false) : oAny [.lst l] C = some (.bl false, C) := by
  have e : dBools l = some (l.map fun _ => false) := by
    induction l with
    | nil => rfl
    | cons d l ih =>
      have h1 := h d (List.mem_cons_self ..)
      subst h1
      simp [dBools, ih fun x hx => h x (List.mem_cons_of_mem _ hx)]
  simp [oAny, vL, e]
def big : D → Bool
  | .int n => decide (1000000000 < n)
  | _ => false
theorem flatMap_cg {α β : Type} {f g : α → List β} : ∀ {l : List α}, (∀ x ∈ l, f x = g x) → l.flatMap f = l.flatMap g
  | [], _ => rfl
  | x :: l, h => by rw [List.flatMap_cons, List.flatMap_cons, h x (List.mem_cons_self ..), flatMap_cg fun y hy => h y (List.mem_cons_of_mem _ hy)]
def itemsD : D → List D
  | .lst l => l
  | _ => []
theorem rows_len {N : Nat} {f : Int × Int → Int} {r : List Int} (h : r ∈ rowsOf N f) : r.length = N ∧ ∀ x ∈ r, ∃ u v : Nat, u < N ∧ v < N ∧ x = f (min (u : Int) (v : Int), max (u : Int) (v : Int)) := by
  unfold rowsOf at h
  obtain ⟨u, hu, rfl⟩ := List.mem_map.mp h
  refine ⟨by simp, fun x hx => ?_⟩
  obtain ⟨v, hv, rfl⟩ := List.mem_map.mp hx
  exact ⟨u, v, List.mem_range.mp hu, List.mem_range.mp hv, rfl⟩
/-- d is a list or a tuple of these items, perhaps a cell -/
def SeqD (d : D) (xs : List D) (C : Store) : Prop := d = .lst xs ∨ d = .tup xs ∨ d = .kt xs ∨ ∃ i, d = .cell i ∧ C[i]? = some (some (.lst xs))
theorem SeqD.app {d : D} {xs : List D} {C : Store} (h : SeqD d xs C) (Z : Store) : SeqD d xs (C ++ Z) := by
  rcases h with h | h | h | ⟨i, h, e⟩
  · exact .inl h
  · exact .inr (.inl h)
  · exact .inr (.inr (.inl h))
  · exact .inr (.inr (.inr ⟨i, h, by rw [List.getElem?_append_left (List.getElem?_eq_some_iff.mp e).1]; exact e⟩))
theorem SeqD.seq {d : D} {xs : List D} {C : Store} (h : SeqD d xs C) : SeqIn d xs C := by
  rcases h with rfl | rfl | rfl | ⟨i, rfl, e⟩
  · exact seq_of (seq_lst xs) C
  · exact seq_of (seq_tup xs) C
  · exact seq_of (seq_kt xs) C
  · exact seq_cell e
section
variable {N : Nat} {L : List T3} {C : Store} {d : D}
abbrev fL (L : List T3) : Int × Int → Int := dg0 (sums L)
theorem init_0 {sl : List (Option D)} {fl : Nat} (hN : N ≤ 60) (h : sl[1]? = some (some (.int N))) : b_Web__init_0 ⟨fl, sl⟩ C = .nx sl C := by
  have h60 : (N : Int) ≤ 60 := by omega
  simp [b_Web__init_0, h, is_count_int, h60]
theorem init_1 {sl : List (Option D)} {fl : Nat} {xs : List D} (h : sl[2]? = some (some d)) (hd : SeqD d xs C) : b_Web__init_1 ⟨fl, sl⟩ C = .nx sl C := by
  rcases hd with rfl | rfl | rfl | ⟨i, rfl, e⟩
  · simp [b_Web__init_1, h, mIsi2, isi, tyD, isaT]
  · simp [b_Web__init_1, h, mIsi2, isi, tyD, isaT]
  · simp [b_Web__init_1, h, mIsi2, isi, tyD, isaT]
  · simp [b_Web__init_1, h, mIsi2, isi, tyD, isaT, e]
theorem init_2 {fl i : Nat} (hs : SeqIn d (L.map triD) C) (hv : ∀ t ∈ L, ValidT N t) : ∃ s3 s4, b_Web__init_2 ⟨fl, [some (.cell i), some (.int N), some d, none, none, none, none, none, none, none, none]⟩ C = .nx [some (.cell i), some (.int N), some d, s3, s4, none, none, none, none, none, none] C := by
  obtain ⟨it, hit, pit⟩ := hs.at0
  rw [b_Web__init_2, ev_for, ev_enum (d := d) (it := it) (by simp) hit, forK_ok]
  obtain ⟨sl', C', h1, h2⟩ := loop_on pit.pairs (g := (Tgt.tp [3, 4]).M) (body := b_Web__init_2b_0) (fl := fl)
    (fun j sl St => St = C ∧ ∃ s3 s4, sl = [some (.cell i), some (.int N), some d, s3, s4, none, none, none, none, none, none])
    (fun j sl St hi => ⟨[], by rw [hi.1, List.append_nil]⟩)
    (fun j x sl St hx hi => by
      obtain ⟨rfl, s3, s4, rfl⟩ := hi
      rw [List.getElem?_map, Option.map_eq_some_iff] at hx
      obtain ⟨⟨a, y⟩, hy, rfl⟩ := hx
      obtain ⟨_, hy2⟩ := List.getElem?_zip_eq_some.mp hy
      rw [List.getElem?_map, Option.map_eq_some_iff] at hy2
      obtain ⟨t, ht, rfl⟩ := hy2
      refine ⟨[some (.cell i), some (.int N), some d, some (.int a), some (triD t), none, none, none, none, none, none], [some (.cell i), some (.int N), some d, some (.int a), some (triD t), none, none, none, none, none, none], St, by simp, ?_, rfl, _, _, rfl⟩
      simp [b_Web__init_2b_0, is_tie_true (hv t (List.mem_of_getElem? ht))])
    (sl := [some (.cell i), some (.int N), some d, none, none, none, none, none, none, none, none]) (C := C) ⟨rfl, _, _, rfl⟩
  obtain ⟨rfl, s3, s4, rfl⟩ := h2
  exact ⟨s3, s4, h1⟩
theorem init_3 {fl i : Nat} {s3 s4 : Option D} (hN : N ≤ 60) (hs : SeqIn d (L.map triD) C) (hl : L.length ≤ 1000000) : b_Web__init_3 ⟨fl, [some (.cell i), some (.int N), some d, s3, s4, none, none, none, none, none, none]⟩ C =
    .nx [some (.cell i), some (.int N), some d, s3, s4, some (gridD (rowsOf N (fL L))), none, none, none, none, none] C := by
  simp [b_Web__init_3, grid_of_ok hN hs hl]
theorem init_4 {fl i : Nat} {s3 s4 : Option D} {f : Int × Int → Int} (hN : N ≤ 60) (hf : ∀ u v : Nat, u < N → v < N → f (min (u : Int) (v : Int), max (u : Int) (v : Int)) ≤ 1000000000) :
    b_Web__init_4 ⟨fl, [some (.cell i), some (.int N), some d, s3, s4, some (gridD (rowsOf N f)), none, none, none, none, none]⟩ C = .nx [some (.cell i), some (.int N), some d, s3, s4, some (gridD (rowsOf N f)), none, none, none, none, none] C := by
  have e : mLc2 false (mSeq (mVar 5)) (Tgt.nm 7).M tYesM (mSeq (mVar 7)) (Tgt.nm 8).M tYesM (mOp oGt (mVar 8) (mC (.int 1000000000))) [7, 8] [8] ⟨fl, [some (.cell i), some (.int N), some d, s3, s4, some (gridD (rowsOf N f)), none, none, none, none, none]⟩ C =
      .ok (.lst (flat2 ((rowsOf N f).map fun r => .lst (r.map .int)) itemsD (fun _ _ => true) fun _ y => .bl (big y))) C := by
    refine ev_lc2 (pure_C ((rowsOf N f).map fun r => D.lst (r.map .int))) itemsD (fun _ _ => true) (fun _ y => .bl (big y)) 60 ?_ (fun x hx => ?_) ?_ (by omega) (fun x hx => ?_) (fun _ _ _ _ _ => rfl)
    · exact ev_seqI (d := gridD (rowsOf N f)) (by simp) rfl
    · obtain ⟨r, hr, rfl⟩ := List.mem_map.mp hx
      show (r.map D.int).length ≤ 60
      rw [List.length_map, (rows_len hr).1]
      exact hN
    · have : (rowsOf N f).length = N := by simp [rowsOf]
      rw [List.length_map, this]
      omega
    · obtain ⟨r, hr, rfl⟩ := List.mem_map.mp hx
      refine ⟨[some (.cell i), some (.int N), some d, s3, s4, some (gridD (rowsOf N f)), none, some (.lst (r.map .int)), none, none, none], by simp, fun acc => ⟨⟨itC (r.map .int), pure_C _, ev_seqI (d := .lst (r.map .int)) (by simp) rfl⟩, fun y hy => ?_⟩⟩
      obtain ⟨n, hn, rfl⟩ := List.mem_map.mp hy
      exact ⟨[some (.cell i), some (.int N), some d, s3, s4, some (gridD (rowsOf N f)), none, some (.lst (r.map .int)), some (.int n), none, none], by simp, fun acc => ⟨rfl, fun _ => by simp [big]⟩⟩
  have a := anyF (C := C) (l := flat2 ((rowsOf N f).map fun r => .lst (r.map .int)) itemsD (fun _ _ => true) fun _ y => .bl (big y)) fun x hx => by
    unfold flat2 at hx
    obtain ⟨row, hrow, hx⟩ := List.mem_flatMap.mp hx
    obtain ⟨r, hr, rfl⟩ := List.mem_map.mp hrow
    obtain ⟨y, hy, rfl⟩ := List.mem_map.mp hx
    have hy' := (List.mem_filter.mp hy).1
    obtain ⟨n, hn, rfl⟩ := List.mem_map.mp hy'
    obtain ⟨u, v, hu, hv, rfl⟩ := (rows_len hr).2 n hn
    have := hf u v hu hv
    simp only [big]
    rw [decide_eq_false (by omega)]
  simp only [b_Web__init_4, ev_sif, ev_tst, ev_ap, ev_cons, e, consK_ok, ev_nil, consK2_ok, apK_ok, a, ev_ofO_some, tstK_ok, sifK_f, ev_next]
theorem init_5 {fl i : Nat} {s3 s4 s5 : Option D} (hN : N ≤ 60) : b_Web__init_5 ⟨fl, [some (.cell i), some (.int N), some d, s3, s4, s5, none, none, none, none, none]⟩ C =
    .nx [some (.cell i), some (.int N), some d, s3, s4, s5, some (.lst ((pairsL N).map pD)), none, none, none, none] C := by
  have e : mLc2 false (mRng1 (mVar 1)) (Tgt.nm 9).M tYesM (mRng2 (mOp oAdd (mVar 9) (mC (.int 1))) (mVar 1)) (Tgt.nm 10).M tYesM (mAp oTup (mCons (mVar 9) (mCons (mVar 10) mNil))) [9, 10] [10] ⟨fl, [some (.cell i), some (.int N), some d, s3, s4, s5, none, none, none, none, none]⟩ C =
      .ok (.lst (flat2 (rngI 0 N) (fun x => rngI (asI x + 1) (N - (asI x + 1)).toNat) (fun _ _ => true) fun x y => .tup [x, y])) C := by
    refine ev_lc2 (pure_R 0 N) (fun x => rngI (asI x + 1) (N - (asI x + 1)).toNat) (fun _ _ => true) (fun x y => .tup [x, y]) 60 (by rw [ev_rng1 (j := (N : Int)) (by simp) (inR_nat (by omega))]; simp) (fun x hx => ?_) (by simp [rngI]; omega) (by omega) (fun x hx => ?_) (fun x hx y hy _ => ?_)
    · obtain ⟨u, hu, rfl⟩ := mem_rng hx
      simp [rngI, asI]
      omega
    · obtain ⟨u, hu, rfl⟩ := mem_rng hx
      refine ⟨[some (.cell i), some (.int N), some d, s3, s4, s5, none, none, none, some (.int (0 + (u : Int))), none], by simp, fun acc => ⟨⟨itR ((0 + (u : Int)) + 1) ((N : Int) - ((0 + (u : Int)) + 1)).toNat, pure_R _ _, ?_⟩, fun y hy => ?_⟩⟩
      · exact ev_rng2 (by simp) (by simp) (by have := inR_nat (N := u + 1) (by omega); simpa using this) (inR_nat (by omega))
      · obtain ⟨w, hw, rfl⟩ := mem_rng hy
        exact ⟨[some (.cell i), some (.int N), some d, s3, s4, s5, none, none, none, some (.int (0 + (u : Int))), some (.int (asI (.int (0 + (u : Int))) + 1 + (w : Int)))], by simp, fun acc => ⟨rfl, fun _ => by simp [oTup, szN]⟩⟩
    · obtain ⟨u, hu, rfl⟩ := mem_rng hx
      obtain ⟨w, hw, rfl⟩ := mem_rng hy
      rfl
  have ep : flat2 (rngI 0 N) (fun x => rngI (asI x + 1) (N - (asI x + 1)).toNat) (fun _ _ => true) (fun x y => .tup [x, y]) = (pairsL N).map pD := by
    unfold flat2 pairsL
    rw [List.map_flatMap]
    unfold rngI
    rw [List.flatMap_map]
    apply flatMap_cg
    intro u hu
    have hu' := List.mem_range.mp hu
    rw [filter_yes, List.map_map, List.map_map]
    have e1 : ((N : Int) - (asI (.int (0 + (u : Int))) + 1)).toNat = N - (u + 1) := by simp only [asI]; omega
    rw [e1]
    apply List.map_congr_left
    intro w hw
    simp [pD, asI]
  rw [b_Web__init_5, ev_asg, e, ep]
  simp
end
end CL
set_option maxHeartbeats 4000000
/-! M5: Web(size, ties), made. -/
namespace CL
open PySem L2 CT
theorem fld_ok {c n i : Nat} {me mo : ME} {F : Fr} {C : Store} {v : D} {fs : List D} (h1 : me F C = .ok v C) (h2 : mo F C = .ok (.cell i) C) (h3 : C[i]? = some (some (.ins c fs))) (h4 : n = fs.length) (h5 : cbL 0 (fs ++ [v]) = true) :
    sFldS c n me mo F C = .nx F.sl (C.set i (some (.ins c (fs ++ [v])))) := by
  have w : wr F.fl i (.ins c (fs ++ [v])) C = some (C.set i (some (.ins c (fs ++ [v])))) := by
    unfold wr
    rw [if_neg (fun h => by rw [show cbC 0 (.ins c (fs ++ [v])) = cbL 0 (fs ++ [v]) from rfl, h5] at h; cases h.2)]
  unfold sFldS
  rw [h1]
  simp only [bndS_ok]
  rw [h2]
  simp only [bndS_ok, h3]
  rw [if_pos ⟨trivial, Nat.le_of_eq h4⟩, if_neg (by omega), w]
theorem cbL_app {n : Nat} : ∀ {l m : List D}, cbL n (l ++ m) = (cbL n l && cbL n m)
  | [], m => by simp [cbL]
  | d :: l, m => by
    show (cb n d && cbL n (l ++ m)) = ((cb n d && cbL n l) && cbL n m)
    rw [cbL_app, Bool.and_assoc]
def rowD (N : Nat) (f : Int × Int → Int) (u : Nat) : D := .lst (((List.range N).map fun v : Nat => f (min (u : Int) (v : Int), max (u : Int) (v : Int))).map .int)
theorem gix {N : Nat} {f : Int × Int → Int} {u : Nat} (hu : u < N) (C : Store) : oIx (gridD (rowsOf N f)) (.int u) C = some (rowD N f u, C) := grid_ix hu C
theorem rix {N : Nat} {f : Int × Int → Int} {u v : Nat} (hv : v < N) (C : Store) : oIx (rowD N f u) (.int v) C = some (.int (f (min (u : Int) (v : Int), max (u : Int) (v : Int))), C) := row_ix (g := fun v : Nat => f (min (u : Int) (v : Int), max (u : Int) (v : Int))) hv C
def posB (f : Int × Int → Int) : D → Bool
  | .tup [.int a, .int b] => decide (0 < f (a, b))
  | _ => false
def triB (f : Int × Int → Int) : D → D
  | .tup [.int a, .int b] => triD (a, b, f (a, b))
  | _ => .non
theorem cb_grid (n : Nat) (G : List (List Int)) : cb n (gridD G) = true := by
  show cbL n _ = true
  refine cbL_all fun d hd => ?_
  obtain ⟨r, hr, rfl⟩ := List.mem_map.mp hd
  exact cbL_ints _ _
theorem cb_ties (n : Nat) (l : List T3) : cbL n (l.map triD) = true := cbL_all fun d hd => by
  obtain ⟨t, _, rfl⟩ := List.mem_map.mp hd
  rfl
section
variable {N : Nat} {L : List T3} {C : Store} {d : D}
theorem ties_lc {fl i : Nat} {s3 s4 : Option D} {f : Int × Int → Int} : mLc false (mSeq (mVar 6)) (Tgt.tp [9, 10]).M (mTst (mOp oGt (mOp oIx (mOp oIx (mVar 5) (mVar 9)) (mVar 10)) (mC (.int 0)))) (mAp oTup (mCons (mVar 9) (mCons (mVar 10) (mCons (mOp oIx (mOp oIx (mVar 5) (mVar 9)) (mVar 10)) mNil)))) [9, 10]
    ⟨fl, [some (.cell i), some (.int N), some d, s3, s4, some (gridD (rowsOf N f)), some (.lst ((pairsL N).map pD)), none, none, none, none]⟩ C = .ok (.lst ((tiesL N f).map triD)) C ∨ 3600 < (pairsL N).length := by
  by_cases hz : 3600 < (pairsL N).length
  · exact .inr hz
  refine .inl ?_
  have e := ev_lc (pure_C ((pairsL N).map pD)) (mi := mSeq (mVar 6)) (g := (Tgt.tp [9, 10]).M) (tt := mTst (mOp oGt (mOp oIx (mOp oIx (mVar 5) (mVar 9)) (mVar 10)) (mC (.int 0)))) (te := mAp oTup (mCons (mVar 9) (mCons (mVar 10) (mCons (mOp oIx (mOp oIx (mVar 5) (mVar 9)) (mVar 10)) mNil)))) (vs := [9, 10])
    (F := ⟨fl, [some (.cell i), some (.int N), some d, s3, s4, some (gridD (rowsOf N f)), some (.lst ((pairsL N).map pD)), none, none, none, none]⟩) (C := C) (posB f) (triB f) (ev_seqI (d := .lst ((pairsL N).map pD)) (by simp) rfl) (by rw [List.length_map]; omega)
    (fun x hx => by
      obtain ⟨p, hp, rfl⟩ := List.mem_map.mp hx
      obtain ⟨u, v, h1, h2, rfl⟩ := mem_pairs.mp hp
      have hu : u < N := by omega
      have e1 : min (u : Int) (v : Int) = u := by omega
      have e2 : max (u : Int) (v : Int) = v := by omega
      refine ⟨[some (.cell i), some (.int N), some d, s3, s4, some (gridD (rowsOf N f)), some (.lst ((pairsL N).map pD)), none, none, some (.int u), some (.int v)], by simp [pD], fun acc => ⟨?_, fun _ => ?_⟩⟩
      · simp [gix hu, rix h2, e1, e2, posB, pD]
      · simp [gix hu, rix h2, e1, e2, triB, pD, oTup, szN, triD])
    (fun x hx _ => by
      obtain ⟨p, hp, rfl⟩ := List.mem_map.mp hx
      rfl)
  rw [e]
  congr 2
  unfold tiesL
  rw [List.filter_map, List.map_map, List.map_map]
  rfl
theorem pairs_len (h : N ≤ 60) : (pairsL N).length ≤ 3600 := by
  have : ∀ l : List Nat, (l.flatMap fun u : Nat => (List.range (N - (u + 1))).map fun w : Nat => ((u : Int), ((u + 1 + w : Nat) : Int))).length ≤ l.length * 60 := by
    intro l
    induction l with
    | nil => simp
    | cons u l ih =>
      rw [List.flatMap_cons, List.length_append, List.length_cons, List.length_map, List.length_range, Nat.succ_mul]
      omega
  have h2 := this (List.range N)
  rw [List.length_range] at h2
  have h3 : N * 60 ≤ 3600 := by omega
  exact Nat.le_trans h2 h3
end
end CL
set_option maxHeartbeats 4000000
/-! M6: the instance. -/
namespace CL
open PySem L2 CT
section
variable {N : Nat} {L : List T3} {C : Store} {d : D}
/-- the ties fit into a web of N places -/
structure Fits (N : Nat) (L : List T3) : Prop where
  n : N ≤ 60
  v : ∀ t ∈ L, ValidT N t
  l : L.length ≤ 1000000
  s : ∀ u v : Nat, u < N → v < N → fL L (min (u : Int) (v : Int), max (u : Int) (v : Int)) ≤ 1000000000
theorem init_ok (h : Fits N L) (hd : SeqD d (L.map triD) C) : m_Web__init [.cell C.length, .int N, d] (C ++ [some (.ins 0 [])]) = .ok .non (C ++ [some (.ins 0 [.int N, gridD (rowsOf N (fL L)), .tup ((tiesL N (fL L)).map triD)])]) := by
  have st : ∀ x y : Option Cell, (C ++ [x]).set C.length y = C ++ [y] := fun x y => by simp
  have gt : ∀ x : Option Cell, (C ++ [x])[C.length]? = some x := fun x => by simp
  have hd1 := hd.app [some (.ins 0 [])]
  rw [e_Web__init, b_Web__init, ev_seq, init_0 h.n rfl, seqK_nx, ev_seq, init_1 rfl hd1, seqK_nx, ev_seq]
  obtain ⟨s3, s4, e2⟩ := init_2 (C := C ++ [some (.ins 0 [])]) (fl := (C ++ [some (Cell.ins 0 [])]).length) (i := C.length) hd1.seq h.v
  rw [e2, seqK_nx, ev_seq, init_3 h.n hd1.seq h.l, seqK_nx, ev_seq, init_4 h.n h.s, seqK_nx, ev_seq, init_5 h.n, seqK_nx, ev_seq]
  have e6 : ∀ fl sl, sl[0]? = some (some (D.cell C.length)) → sl[1]? = some (some (.int N)) → b_Web__init_6 ⟨fl, sl⟩ (C ++ [some (.ins 0 [])]) = .nx sl (C ++ [some (.ins 0 [.int N])]) := fun fl sl h0 h1 => by
    rw [b_Web__init_6, fld_ok (n := 0) (v := .int N) (i := C.length) (fs := []) (by simp [h1]) (by simp [h0]) (gt _) rfl rfl, st]
    rfl
  have e7 : ∀ fl sl, sl[0]? = some (some (D.cell C.length)) → sl[5]? = some (some (gridD (rowsOf N (fL L)))) → b_Web__init_7 ⟨fl, sl⟩ (C ++ [some (.ins 0 [.int N])]) = .nx sl (C ++ [some (.ins 0 [.int N, gridD (rowsOf N (fL L))])]) := fun fl sl h0 h1 => by
    rw [b_Web__init_7, fld_ok (n := 1) (v := gridD (rowsOf N (fL L))) (i := C.length) (fs := [.int N]) (by simp [h1]) (by simp [h0]) (gt _) rfl (by
      rw [cbL_app]
      show (true && (cb 0 (gridD (rowsOf N (fL L))) && true)) = true
      rw [cb_grid]
      rfl), st]
    rfl
  rw [e6 _ _ rfl rfl, seqK_nx, ev_seq, e7 _ _ rfl rfl, seqK_nx]
  have el : mLc false (mSeq (mVar 6)) (Tgt.tp [9, 10]).M (mTst (mOp oGt (mOp oIx (mOp oIx (mVar 5) (mVar 9)) (mVar 10)) (mC (.int 0)))) (mAp oTup (mCons (mVar 9) (mCons (mVar 10) (mCons (mOp oIx (mOp oIx (mVar 5) (mVar 9)) (mVar 10)) mNil)))) [9, 10]
      ⟨(C ++ [some (Cell.ins 0 [])]).length, [some (.cell C.length), some (.int N), some d, s3, s4, some (gridD (rowsOf N (fL L))), some (.lst ((pairsL N).map pD)), none, none, none, none]⟩ (C ++ [some (.ins 0 [.int N, gridD (rowsOf N (fL L))])]) = .ok (.lst ((tiesL N (fL L)).map triD)) (C ++ [some (.ins 0 [.int N, gridD (rowsOf N (fL L))])]) := by
    rcases ties_lc (N := N) (d := d) (C := C ++ [some (.ins 0 [.int N, gridD (rowsOf N (fL L))])]) (fl := (C ++ [some (Cell.ins 0 [])]).length) (i := C.length) (s3 := s3) (s4 := s4) (f := fL L) with e | e
    · exact e
    · have := pairs_len h.n
      omega
  rw [b_Web__init_8, fld_ok (n := 2) (v := .tup ((tiesL N (fL L)).map triD)) (i := C.length) (fs := [.int N, gridD (rowsOf N (fL L))]) (by
    rw [ev_ap, ev_cons]
    simp only [List.cons_append, List.nil_append]
    rw [el]
    simp [oTupOf, vL]) (by simp) (gt _) rfl (by
    show (true && (cb 0 (gridD (rowsOf N (fL L))) && (cbL 0 ((tiesL N (fL L)).map triD) && true))) = true
    rw [cb_grid, cb_ties]
    rfl), st, finS_nx, fin_non]
  congr 1
  exact List.take_of_length_le (by simp)
theorem make_ok {F : Fr} {a : MA} {dds ds : List D} (h : Fits N L) (hd : SeqD d (L.map triD) C) (ha : a F C = .ok ds C) (e : ds ++ dds = [.int N, d]) : mMake false 0 3 m_Web__init dds a F C = .ok (webD N (fL L)) C := by
  unfold mMake
  rw [ha]
  simp only [bnd_ok]
  rw [e, init_ok h hd]
  have gt : ∀ x : Option Cell, (C ++ [x])[C.length]? = some x := fun x => by simp
  simp only [gt]
  have c : cbL C.length [.int N, gridD (rowsOf N (fL L)), .tup ((tiesL N (fL L)).map triD)] = true := by
    show (true && (cb C.length (gridD (rowsOf N (fL L))) && (cbL C.length ((tiesL N (fL L)).map triD) && true))) = true
    rw [cb_grid, cb_ties]
    rfl
  simp [c, webD]
end
end CL
set_option maxHeartbeats 4000000
/-! M7: total, degrees, within, changed, crossing. -/
set_option maxHeartbeats 4000000
/-! M9: plain facts on sums. -/
namespace CL
open PySem L2 CT
/-- what the items give a pair together -/
def tot (L : List T3) (k : Int × Int) : Int := (L.map fun t => if pr t = k then t.2.2 else 0).sum
theorem dg0_fold (k : Int × Int) : ∀ (L : List T3) (d : Dc), dg0 (L.foldl addT d) k = dg0 d k + tot L k
  | [], d => by simp [tot]
  | t :: L, d => by
    rw [List.foldl_cons, dg0_fold k L]
    unfold addT
    rw [dg0_dp]
    by_cases h : k = pr t
    · subst h
      simp [tot]
      omega
    · have h' : ¬ pr t = k := fun e => h e.symm
      simp [tot, h, h']
theorem dg0_sums (L : List T3) (k : Int × Int) : dg0 (sums L) k = tot L k := by
  have := dg0_fold k L []
  rw [show dg0 ([] : Dc) k = 0 from rfl, Int.zero_add] at this
  exact this
theorem tot_app (L M : List T3) (k : Int × Int) : tot (L ++ M) k = tot L k + tot M k := by
  simp [tot]
theorem tot_cons (t : T3) (L : List T3) (k : Int × Int) : tot (t :: L) k = (if pr t = k then t.2.2 else 0) + tot L k := by
  simp [tot]
theorem pairs_nodup (N : Nat) : (pairsL N).Nodup := by
  unfold pairsL
  have key : ∀ l : List Nat, l.Nodup → (l.flatMap fun u : Nat => (List.range (N - (u + 1))).map fun w : Nat => ((u : Int), ((u + 1 + w : Nat) : Int))).Nodup := by
    intro l
    induction l with
    | nil => intro _; simp
    | cons u l ih =>
      intro hl
      rw [List.nodup_cons] at hl
      rw [List.flatMap_cons, List.nodup_append]
      refine ⟨?_, ih hl.2, ?_⟩
      · apply nodup_map_on List.nodup_range
        intro x _ y _ e
        have := congrArg Prod.snd e
        simp only at this
        omega
      · intro a ha b hb e
        subst e
        obtain ⟨w, _, rfl⟩ := List.mem_map.mp ha
        obtain ⟨u', hu', hb'⟩ := List.mem_flatMap.mp hb
        obtain ⟨w', _, e⟩ := List.mem_map.mp hb'
        have := congrArg Prod.fst e
        simp only at this
        have eu : u' = u := by omega
        subst eu
        exact hl.1 hu'
  exact key _ List.nodup_range
local macro_rules | `(tactic| walk_at "w") => `(tactic| first | ((with_reducible apply gR); first | with_reducible refine w_var rfl ?_ | with_reducible apply w_cons | with_reducible apply w_c | with_reducible apply w_nil | with_reducible apply w_op | with_reducible apply w_ap | with_reducible apply w_call | with_reducible apply w_tst | with_reducible apply w_un | with_reducible apply w_tand | with_reducible apply w_tor | with_reducible apply w_tnot | with_reducible apply w_yes | with_reducible apply w_and | with_reducible apply w_or | with_reducible apply w_not | with_reducible apply w_if | with_reducible apply w_chain | with_reducible apply w_isi | with_reducible apply w_isi2 | with_reducible apply w_prop | with_reducible apply w_meth | with_reducible apply w_dget | with_reducible apply w_dnewF | with_reducible apply w_dnewT | with_reducible apply w_part | with_reducible apply w_noPart | with_reducible apply w_slLF | with_reducible apply w_slA | with_reducible apply w_ok | with_reducible apply w_ofO | with_reducible apply w_lcI | with_reducible apply w_seqI | with_reducible apply w_rng1 | with_reducible apply w_rng2 | with_reducible apply w_enum) | ((with_reducible apply gO); first | with_reducible apply wo_add | with_reducible apply wo_sub | with_reducible apply wo_lt | with_reducible apply wo_gt | with_reducible apply wo_eq | with_reducible apply wo_ne | with_reducible apply wo_le | with_reducible apply wo_ge | with_reducible apply wo_neg | with_reducible apply wo_eqS | with_reducible apply wo_neS | with_reducible apply wo_min | with_reducible apply wo_max | with_reducible apply wo_int | with_reducible apply wo_abs | with_reducible apply wo_tupL | with_reducible apply wo_tupT | with_reducible refine wo_tup (by with_unfolding_all rfl) ?_ | with_reducible refine wo_lstF (by with_unfolding_all rfl) ?_ | with_reducible refine wo_lstT (by with_unfolding_all rfl) ?_ | with_reducible apply wo_fld0 | with_reducible apply wo_fldH0 | with_reducible apply wo_fld1 | with_reducible apply wo_fld2 | with_reducible apply wo_fldW0 | with_reducible apply wo_fldW1 | with_reducible apply wo_fldW2) | ((with_reducible apply gS); first | with_reducible apply w_seq | with_reducible apply w_asg | with_reducible apply w_sif | with_reducible apply w_next | with_reducible apply w_ret | with_reducible apply w_par | with_reducible apply w_drop | with_reducible apply w_asgT | with_reducible apply w_retN | with_reducible apply w_brk | with_reducible apply w_cnt | with_reducible apply w_raise | with_reducible apply w_forI) | ((with_reducible apply gI); first | with_reducible apply wI_t | with_reducible apply wI_f | with_reducible apply wI_not) | with_reducible apply w_bl | with_reducible apply thn_nx | with_reducible apply w_int | with_reducible apply w_obj | with_reducible apply thn_rt | with_reducible apply lp_nx | with_reducible apply fnl_int | with_reducible apply fnl_bl | with_reducible apply fnl_non | with_reducible apply fnl_str | with_reducible apply fnl_nx | with_reducible apply thn_bk | with_reducible apply thn_ct | with_reducible apply thn_xc | with_reducible apply lp_rt | with_reducible apply lp_bk | with_reducible apply lp_xc | with_reducible apply w_itL | with_reducible apply w_itT | with_reducible apply w_itK)
local macro_rules | `(tactic| walk_at "p") => `(tactic| repeat walk_at "w")
/-! RA1q: functions of webs; plain, free of dicts. -/
structure FOk (N : Nat) (f : Int × Int → Int) : Prop where
  n : N ≤ 60
  b : ∀ p, 0 ≤ f p ∧ f p ≤ 1000000000
  z : ∀ p, p ∉ pairsL N → f p = 0
section
variable {N : Nat} {C : Store} {L : List T3} {u v n : Int} {f g : Int × Int → Int} {k : Int × Int}
theorem mem_pairsI {p : Int × Int} : p ∈ pairsL N ↔ 0 ≤ p.1 ∧ p.1 < p.2 ∧ p.2 < N := by
  rw [mem_pairs]
  constructor
  · rintro ⟨u, v, h1, h2, rfl⟩
    simp only
    omega
  · intro h
    exact ⟨p.1.toNat, p.2.toNat, by omega, by omega, Prod.ext (by simp only; omega) (by simp only; omega)⟩
end
end CL
set_option maxHeartbeats 1000000
/-! FF1: sums; sets of rows in which every step has a second step (jump systems); nearest rows. -/
namespace FF
def sm (N : Nat) (t : Nat → Int) : Int := ((List.range N).map t).sum
theorem sm_succ (N : Nat) (t : Nat → Int) : sm (N + 1) t = sm N t + t N := by simp [sm, List.range_succ]
theorem sm_zero (N : Nat) : sm N (fun _ => 0) = 0 := by
  induction N with
  | zero => rfl
  | succ n ih => rw [sm_succ, ih]; rfl
theorem sm_congr {N : Nat} {s t : Nat → Int} (h : ∀ v, v < N → s v = t v) : sm N s = sm N t := by
  unfold sm
  rw [List.map_congr_left fun v hv => h v (List.mem_range.mp hv)]
theorem sm_add (N : Nat) (s t : Nat → Int) : sm N (fun v => s v + t v) = sm N s + sm N t := by
  induction N with
  | zero => rfl
  | succ n ih => rw [sm_succ, sm_succ, sm_succ, ih]; omega
theorem sm_sub (N : Nat) (s t : Nat → Int) : sm N (fun v => s v - t v) = sm N s - sm N t := by
  induction N with
  | zero => rfl
  | succ n ih => rw [sm_succ, sm_succ, sm_succ, ih]; omega
theorem sm_le {N : Nat} {s t : Nat → Int} (h : ∀ v, v < N → s v ≤ t v) : sm N s ≤ sm N t := by
  induction N with
  | zero => exact Int.le_refl _
  | succ n ih =>
    have := ih fun v hv => h v (by omega)
    have := h n (by omega)
    rw [sm_succ, sm_succ]
    omega
theorem sm_pos {N : Nat} {t : Nat → Int} (h : ∀ v, v < N → 0 ≤ t v) : 0 ≤ sm N t := by
  have := sm_le (s := fun _ => 0) h
  rw [sm_zero] at this
  exact this
theorem sm_split {N u : Nat} (hu : u < N) (t : Nat → Int) : sm N t = t u + sm N (fun v => if v = u then 0 else t v) := by
  induction N with
  | zero => omega
  | succ n ih =>
    rw [sm_succ, sm_succ]
    by_cases e : u = n
    · subst e
      rw [if_pos rfl, sm_congr (t := t) fun v hv => if_neg (by omega)]
      omega
    · rw [if_neg (by omega), ih (by omega)]
      omega
theorem sm_one {N u : Nat} (hu : u < N) (x : Int) : sm N (fun v => if v = u then x else 0) = x := by
  rw [sm_split hu, if_pos rfl, sm_congr (t := fun _ => 0) fun v _ => by by_cases e : v = u <;> simp [e], sm_zero]
  omega
/-- a sum that is 0, of numbers from 0 on -/
theorem sm_nul {N : Nat} {t : Nat → Int} (h : ∀ v, v < N → 0 ≤ t v) {v : Nat} (hv : v < N) : t v ≤ sm N t := by
  rw [sm_split hv]
  have : 0 ≤ sm N (fun w => if w = v then 0 else t w) := sm_pos fun w hw => by
    by_cases e : w = v
    · rw [if_pos e]; exact Int.le_refl _
    · rw [if_neg e]; exact h w hw
  omega
def ab (x : Int) : Int := max x (-x)
theorem ab_pos (x : Int) : 0 ≤ ab x := by unfold ab; omega
def dd (N : Nat) (p a : Nat → Int) : Int := sm N fun v => ab (p v - a v)
def up (p : Nat → Int) (v : Nat) (s : Int) : Nat → Int := fun u => if u = v then p u + s else p u
theorem up_at (p : Nat → Int) (v : Nat) (s : Int) : up p v s v = p v + s := if_pos rfl
theorem up_ne {p : Nat → Int} {v u : Nat} {s : Int} (h : u ≠ v) : up p v s u = p u := if_neg h
theorem up_zero (p : Nat → Int) (v : Nat) : up p v 0 = p := by
  funext u
  unfold up
  split <;> omega
theorem up_up (p : Nat → Int) (v : Nat) (s t : Int) : up (up p v s) v t = up p v (s + t) := by
  funext u
  unfold up
  split <;> omega
theorem up_comm (p : Nat → Int) (u v : Nat) (s t : Int) : up (up p u s) v t = up (up p v t) u s := by
  funext w
  unfold up
  split <;> split <;> omega
theorem dd_pos (N : Nat) (p a : Nat → Int) : 0 ≤ dd N p a := sm_pos fun v _ => ab_pos _
theorem dd_up {N v : Nat} (hv : v < N) (p a : Nat → Int) (s : Int) : dd N (up p v s) a = dd N p a + (ab (p v + s - a v) - ab (p v - a v)) := by
  unfold dd
  rw [sm_split hv (fun w => ab (up p v s w - a w)), sm_split hv (fun w => ab (p w - a w)), up_at]
  have : sm N (fun w => if w = v then 0 else ab (up p v s w - a w)) = sm N (fun w => if w = v then 0 else ab (p w - a w)) := sm_congr fun w _ => by
    by_cases e : w = v
    · rw [if_pos e, if_pos e]
    · rw [if_neg e, if_neg e, up_ne e]
  omega
theorem sm_up {N v : Nat} (hv : v < N) (p : Nat → Int) (s : Int) : sm N (up p v s) = sm N p + s := by
  have e : up p v s = fun u => p u + if u = v then s else 0 := by
    funext u
    unfold up
    split <;> omega
  rw [e, sm_add, sm_one hv]
/-- s is a step from x towards y -/
def Tw (s x y : Int) : Prop := (s = 1 ∧ x < y) ∨ (s = -1 ∧ y < x)
structure JS (N : Nat) (J : (Nat → Int) → Prop) : Prop where
  ext : ∀ x y, (∀ v, v < N → x v = y v) → J x → J y
  two : ∀ p q v s, J p → J q → v < N → Tw s (p v) (q v) → ∃ w t, w < N ∧ Tw t (up p v s w) (q w) ∧ J (up (up p v s) w t)
  par : ∀ p q, J p → J q → (sm N p - sm N q) % 2 = 0
  ne : ∃ p, J p
section
variable {N : Nat} {J : (Nat → Int) → Prop}
theorem least_ex (hJ : JS N J) (h : Nat → Int) : ∃ p, J p ∧ ∀ q, J q → dd N p h ≤ dd N q h := by
  obtain ⟨p0, h0⟩ := hJ.ne
  have key : ∀ n : Nat, ∀ p, J p → dd N p h ≤ n → ∃ p, J p ∧ ∀ q, J q → dd N p h ≤ dd N q h := by
    intro n
    induction n with
    | zero =>
      intro p hp e
      refine ⟨p, hp, fun q _ => ?_⟩
      have := dd_pos N q h
      omega
    | succ n ih =>
      intro p hp e
      by_cases z : ∃ q, J q ∧ dd N q h < dd N p h
      · obtain ⟨q, hq, lt⟩ := z
        exact ih q hq (by omega)
      · refine ⟨p, hp, fun q hq => ?_⟩
        have : ¬ dd N q h < dd N p h := fun lt => z ⟨q, hq, lt⟩
        omega
  have := dd_pos N p0 h
  exact key (dd N p0 h).toNat p0 h0 (by omega)
noncomputable def Ds (hJ : JS N J) (h : Nat → Int) : Int := dd N (Classical.choose (least_ex hJ h)) h
/-! ### sums over all places but one, two, three -/
theorem sm_two {u w : Nat} (hu : u < N) (hw : w < N) (n : u ≠ w) {p q : Nat → Int} (e : ∀ v, v < N → v ≠ u → v ≠ w → p v = q v) : sm N p - sm N q = (p u - q u) + (p w - q w) := by
  rw [← sm_sub, sm_split hu, sm_split hw, if_neg (fun e => n e.symm)]
  have : sm N (fun v => if v = w then 0 else if v = u then 0 else p v - q v) = 0 := by
    rw [sm_congr (t := fun _ => 0) fun v hv => ?_, sm_zero]
    by_cases c : v = w
    · rw [if_pos c]
    · by_cases c2 : v = u
      · rw [if_neg c, if_pos c2]
      · rw [if_neg c, if_neg c2, e v hv c2 c]
        omega
  omega
end
end FF
set_option maxHeartbeats 4000000
/-! FF2: least distances along one, two, three places. -/
set_option maxHeartbeats 4000000
/-! FF3: what a tie between two places does to the least distances. -/
namespace FF
section
variable {f : Int → Int → Int} {D : Int}
/-- f with the tie or without -/
def gT (f : Int → Int → Int) (x y : Int) : Int := min (f x y) (f (x - 1) (y - 1))
structure MM (f : Int → Int → Int) (D : Int) : Prop where
  o : gT f 0 0 = D
  u1 : gT f 1 0 = D - 1
  u2 : gT f (-1) 0 = D - 1
  w1 : gT f 0 1 = D - 1
  w2 : gT f 0 (-1) = D - 1
theorem MM.ne (h : MM f D) : (f (-1) 0 ≤ D - 1 ∨ f (-2) (-1) ≤ D - 1) ∧ (f (-1) 0 ≤ D - 1 ∨ f 0 1 ≤ D - 1) := by
  have a := h.u2
  have b := h.w1
  unfold gT at a b
  rw [show (-1 : Int) - 1 = -2 by omega, show (0 : Int) - 1 = -1 by omega] at a
  rw [show (1 : Int) - 1 = 0 by omega, show (0 : Int) - 1 = -1 by omega] at b
  omega
end
section
variable {N : Nat} {J : (Nat → Int) → Prop}
/-- no two steps at both places -/
def Rel (hJ : JS N J) (h : Nat → Int) (u w : Nat) : Prop := ∀ s t : Int, (s = 1 ∨ s = -1) → (t = 1 ∨ t = -1) → Ds hJ h ≤ Ds hJ (up (up h u s) w t)
theorem Rel.symm {hJ : JS N J} {h : Nat → Int} {u w : Nat} (r : Rel hJ h u w) : Rel hJ h w u := fun s t hs ht => by
  rw [up_comm]
  exact r t s ht hs
end
end FF
set_option maxHeartbeats 4000000
/-! FF4: the rows of the webs within a web. -/
namespace FF
abbrev Gr := Nat → Nat → Int
structure Okc (f : Gr) : Prop where
  sym : ∀ u v, f u v = f v u
  nn : ∀ u v, 0 ≤ f u v
  dg : ∀ v, f v v = 0
structure Sub (f w : Gr) : Prop where
  ok : Okc w
  le : ∀ u v, w u v ≤ f u v
def dgr (N : Nat) (w : Gr) (v : Nat) : Int := sm N (w v)
def JW (N : Nat) (f : Gr) (x : Nat → Int) : Prop := ∃ w, Sub f w ∧ ∀ v, v < N → x v = dgr N w v
def adE (w : Gr) (u v : Nat) (s : Int) : Gr := fun a b => w a b + (if a = u ∧ b = v then s else 0) + (if a = v ∧ b = u then s else 0)
section
variable {N : Nat} {f w w' : Gr} {u v : Nat} {s : Int}
theorem adE_u (n : u ≠ v) : adE w u v s u = up (w u) v s := by
  funext b
  unfold adE up
  by_cases e : b = v
  · subst e
    simp [n]
  · simp [n, e]
theorem adE_v (n : u ≠ v) : adE w u v s v = up (w v) u s := by
  funext b
  unfold adE up
  by_cases e : b = u
  · subst e
    simp [Ne.symm n]
  · simp [Ne.symm n, e]
theorem adE_o {a : Nat} (n1 : a ≠ u) (n2 : a ≠ v) : adE w u v s a = w a := by
  funext b
  unfold adE
  simp [n1, n2]
theorem adE_ok (h : Okc w) (n : u ≠ v) (hs : 0 ≤ w u v + s) : Okc (adE w u v s) := by
  refine ⟨fun a b => ?_, fun a b => ?_, fun a => ?_⟩
  · unfold adE
    rw [h.sym a b]
    have e1 : (a = u ∧ b = v) ↔ (b = v ∧ a = u) := and_comm
    have e2 : (a = v ∧ b = u) ↔ (b = u ∧ a = v) := and_comm
    simp only [e1, e2]
    omega
  · have k := h.nn a b
    unfold adE
    by_cases c1 : a = u ∧ b = v
    · obtain ⟨rfl, rfl⟩ := c1
      simp [n]
      omega
    · by_cases c2 : a = v ∧ b = u
      · obtain ⟨rfl, rfl⟩ := c2
        rw [h.sym] at hs
        simp [Ne.symm n]
        omega
      · rw [if_neg c1, if_neg c2]
        omega
  · unfold adE
    rw [h.dg, if_neg (fun z => n (z.1.symm.trans z.2)), if_neg (fun z => n (z.2.symm.trans z.1))]
    rfl
theorem adE_le (h : ∀ a b, w a b ≤ f a b) (hf : f u v = f v u) (hw : w u v = w v u) (n : u ≠ v) (hs : w u v + s ≤ f u v) (a b : Nat) : adE w u v s a b ≤ f a b := by
  have k := h a b
  unfold adE
  by_cases c1 : a = u ∧ b = v
  · obtain ⟨rfl, rfl⟩ := c1
    simp [n]
    omega
  · by_cases c2 : a = v ∧ b = u
    · obtain ⟨rfl, rfl⟩ := c2
      simp [Ne.symm n]
      omega
    · rw [if_neg c1, if_neg c2]
      omega
theorem dgr_ad (hu : u < N) (hv : v < N) (n : u ≠ v) : dgr N (adE w u v s) = up (up (dgr N w) u s) v s := by
  funext a
  unfold dgr
  by_cases e : a = u
  · subst e
    rw [adE_u n, sm_up hv, up_ne n, up_at]
  · by_cases e2 : a = v
    · subst e2
      rw [adE_v n, sm_up hu, up_at, up_ne e]
    · rw [adE_o e e2, up_ne e2, up_ne e]
def td (N : Nat) (w w' : Gr) : Int := sm N fun a => dd N (w a) (w' a)
theorem td_pos : 0 ≤ td N w w' := sm_pos fun a _ => dd_pos _ _ _
theorem td_ad (hu : u < N) (hv : v < N) (n : u ≠ v) (hw : w u v = w v u) (hw' : w' u v = w' v u) (tw : Tw s (w u v) (w' u v)) : td N (adE w u v s) w' = td N w w' - 2 := by
  have k := sm_two (N := N) hu hv n (p := fun a => dd N (adE w u v s a) (w' a)) (q := fun a => dd N (w a) (w' a)) fun a ha n1 n2 => by rw [adE_o n1 n2]

  rw [adE_u n, adE_v n, dd_up hv, dd_up hu] at k
  have b1 : ab (w u v + s - w' u v) - ab (w u v - w' u v) = -1 := by unfold Tw at tw; unfold ab; omega
  have b2 : ab (w v u + s - w' v u) - ab (w v u - w' v u) = -1 := by unfold Tw at tw; unfold ab; omega
  unfold td
  omega
theorem lt_ex {p q : Nat → Int} (h : sm N p < sm N q) : ∃ y, y < N ∧ p y < q y := by
  refine Classical.byContradiction fun z => ?_
  have : sm N q ≤ sm N p := sm_le fun v hv => Classical.byContradiction fun k => z ⟨v, hv, by omega⟩
  omega
theorem tw_ex {p q : Nat → Int} (h : Tw s (sm N p) (sm N q)) : ∃ y, y < N ∧ Tw s (p y) (q y) := by
  rcases h with ⟨rfl, h⟩ | ⟨rfl, h⟩
  · obtain ⟨y, hy, e⟩ := lt_ex h
    exact ⟨y, hy, .inl ⟨rfl, e⟩⟩
  · obtain ⟨y, hy, e⟩ := lt_ex h
    exact ⟨y, hy, .inr ⟨rfl, e⟩⟩
theorem zero_ok : Okc fun _ _ => 0 := ⟨fun _ _ => rfl, fun _ _ => Int.le_refl _, fun _ => rfl⟩
end
end FF
set_option maxHeartbeats 4000000
/-! FF8: both rows change at once (the exchange of two webs within a web). -/
namespace FF
section
variable {N : Nat} {f w w' : Gr} {u v : Nat} {s : Int}
/-- between two numbers -/
def Bt (x a b : Int) : Prop := (a ≤ x ∧ x ≤ b) ∨ (b ≤ x ∧ x ≤ a)
theorem two_webE (hf : Okc f) : ∀ (n : Nat) (w w' : Gr), Sub f w → Sub f w' → td N w w' ≤ n → ∀ (z : Nat) (s : Int), z < N → Tw s (dgr N w z) (dgr N w' z) → ∃ y t w1, y < N ∧ Tw t (up (dgr N w) z s y) (dgr N w' y) ∧ Sub f w1 ∧ (∀ v, v < N → up (up (dgr N w) z s) y t v = dgr N w1 v) ∧ ∀ a b, Bt (w1 a b) (w a b) (w' a b) := by
  intro n
  induction n with
  | zero =>
    intro w w' h h' e z s hz tw
    exfalso
    obtain ⟨y, hy, ty⟩ := tw_ex tw
    have k1 := sm_nul (N := N) (t := fun a => dd N (w a) (w' a)) (fun a _ => dd_pos _ _ _) hz
    have k2 := sm_nul (N := N) (t := fun b => ab (w z b - w' z b)) (fun a _ => ab_pos _) hy
    have e1 : td N w w' = sm N fun a => dd N (w a) (w' a) := rfl
    have e2 : dd N (w z) (w' z) = sm N fun b => ab (w z b - w' z b) := rfl
    unfold Tw at ty
    unfold ab at k2
    unfold ab at e2
    omega
  | succ n ih =>
    intro w w' h h' e z s hz tw
    obtain ⟨y, hy, ty⟩ := tw_ex tw
    have ny : z ≠ y := fun c => by
      subst c
      rw [h.ok.dg, h'.ok.dg] at ty
      unfold Tw at ty
      omega
    have n0 := h.ok.nn z y
    have n1 := h'.ok.nn z y
    have l0 := h.le z y
    have l1 := h'.le z y
    have s1 : Sub f (adE w z y s) := ⟨adE_ok h.ok ny (by unfold Tw at ty; omega), adE_le h.le (hf.sym _ _) (h.ok.sym _ _) ny (by unfold Tw at ty; omega)⟩
    have d1 := dgr_ad (w := w) (s := s) hz hy ny
    have bt : ∀ a b, Bt (adE w z y s a b) (w a b) (w' a b) := fun a b => by
      unfold adE
      by_cases c1 : a = z ∧ b = y
      · obtain ⟨rfl, rfl⟩ := c1
        rw [if_pos ⟨rfl, rfl⟩, if_neg (fun k => ny k.1)]
        unfold Bt
        unfold Tw at ty
        omega
      · by_cases c2 : a = y ∧ b = z
        · obtain ⟨rfl, rfl⟩ := c2
          rw [if_neg c1, if_pos ⟨rfl, rfl⟩, h.ok.sym a b, h'.ok.sym a b]
          unfold Bt
          unfold Tw at ty
          omega
        · rw [if_neg c1, if_neg c2]
          unfold Bt
          omega
    by_cases c : Tw s (dgr N w y) (dgr N w' y)
    · exact ⟨y, s, _, hy, by rw [up_ne (Ne.symm ny)]; exact c, s1, fun v _ => by rw [d1], bt⟩
    · have t1 := td_ad (w' := w') hz hy ny (h.ok.sym _ _) (h'.ok.sym _ _) ty
      have tw2 : Tw (-s) (dgr N (adE w z y s) y) (dgr N w' y) := by
        rw [d1, up_at, up_ne (Ne.symm ny)]
        unfold Tw at *
        omega
      obtain ⟨y2, t2, w1, h1, h2, h3, h4, h5⟩ := ih _ _ s1 h' (by omega) y (-s) hy tw2
      have eb : up (dgr N (adE w z y s)) y (-s) = up (dgr N w) z s := by
        rw [d1, up_up, show s + -s = 0 by omega, up_zero]
      rw [eb] at h2 h4
      exact ⟨y2, t2, w1, h1, h2, h3, h4, fun a b => by
        have k1 := bt a b
        have k2 := h5 a b
        unfold Bt at *
        omega⟩
/-- one step, and a second one, by which both rows are rows again -/
theorem exch (hf : Okc f) {p q : Nat → Int} {z : Nat} {s : Int} (hp : JW N f p) (hq : JW N f q) (hz : z < N) (tw : Tw s (p z) (q z)) : ∃ y t, y < N ∧ Tw t (up p z s y) (q y) ∧ JW N f (up (up p z s) y t) ∧ JW N f (up (up q z (-s)) y (-t)) := by
  obtain ⟨w, h, k⟩ := hp
  obtain ⟨w', h', k'⟩ := hq
  rw [k z hz, k' z hz] at tw
  have := td_pos (N := N) (w := w) (w' := w')
  obtain ⟨y, t, w1, hy, ty, h2, k2, bt⟩ := two_webE hf (td N w w').toNat w w' h h' (by omega) z s hz tw
  have eu : ∀ x, x < N → up p z s x = up (dgr N w) z s x := fun x hx => by unfold up; rw [k x hx]
  have eu2 : ∀ x, x < N → up (up p z s) y t x = dgr N w1 x := fun x hx => by
    rw [← k2 x hx]
    unfold up
    rw [k x hx]
  refine ⟨y, t, hy, by rw [eu y hy, k' y hy]; exact ty, ⟨w1, h2, eu2⟩, fun a b => w a b + w' a b - w1 a b, ⟨⟨fun a b => ?_, fun a b => ?_, fun a => ?_⟩, fun a b => ?_⟩, fun x hx => ?_⟩
  · show w a b + w' a b - w1 a b = w b a + w' b a - w1 b a
    rw [h.ok.sym a b, h'.ok.sym a b, h2.ok.sym a b]
  · show 0 ≤ w a b + w' a b - w1 a b
    have := bt a b
    have := h.ok.nn a b
    have := h'.ok.nn a b
    unfold Bt at *
    omega
  · show w a a + w' a a - w1 a a = 0
    rw [h.ok.dg, h'.ok.dg, h2.ok.dg]
    rfl
  · show w a b + w' a b - w1 a b ≤ f a b
    have := bt a b
    have := h.le a b
    have := h'.le a b
    unfold Bt at *
    omega
  · have e1 : dgr N (fun a b => w a b + w' a b - w1 a b) x = dgr N w x + dgr N w' x - dgr N w1 x := by
      show sm N (fun b => w x b + w' x b - w1 x b) = sm N (w x) + sm N (w' x) - sm N (w1 x)
      rw [sm_sub N (fun b => w x b + w' x b) (w1 x), sm_add]
    rw [e1, ← eu2 x hx, ← k x hx, ← k' x hx]
    unfold up
    split <;> split <;> omega
end
end FF
set_option maxHeartbeats 4000000
namespace CL
open PySem L2 CT
local macro_rules | `(tactic| walk_at "w") => `(tactic| first | ((with_reducible apply gR); first | with_reducible refine w_var rfl ?_ | with_reducible apply w_cons | with_reducible apply w_c | with_reducible apply w_nil | with_reducible apply w_op | with_reducible apply w_ap | with_reducible apply w_call | with_reducible apply w_tst | with_reducible apply w_un | with_reducible apply w_tand | with_reducible apply w_tor | with_reducible apply w_tnot | with_reducible apply w_yes | with_reducible apply w_and | with_reducible apply w_or | with_reducible apply w_not | with_reducible apply w_if | with_reducible apply w_chain | with_reducible apply w_isi | with_reducible apply w_isi2 | with_reducible apply w_prop | with_reducible apply w_meth | with_reducible apply w_dget | with_reducible apply w_dnewF | with_reducible apply w_dnewT | with_reducible apply w_part | with_reducible apply w_noPart | with_reducible apply w_slLF | with_reducible apply w_slA | with_reducible apply w_ok | with_reducible apply w_ofO | with_reducible apply w_lcI | with_reducible apply w_seqI | with_reducible apply w_rng1 | with_reducible apply w_rng2 | with_reducible apply w_enum) | ((with_reducible apply gO); first | with_reducible apply wo_add | with_reducible apply wo_sub | with_reducible apply wo_lt | with_reducible apply wo_gt | with_reducible apply wo_eq | with_reducible apply wo_ne | with_reducible apply wo_le | with_reducible apply wo_ge | with_reducible apply wo_neg | with_reducible apply wo_eqS | with_reducible apply wo_neS | with_reducible apply wo_min | with_reducible apply wo_max | with_reducible apply wo_int | with_reducible apply wo_abs | with_reducible apply wo_tupL | with_reducible apply wo_tupT | with_reducible refine wo_tup (by with_unfolding_all rfl) ?_ | with_reducible refine wo_lstF (by with_unfolding_all rfl) ?_ | with_reducible refine wo_lstT (by with_unfolding_all rfl) ?_ | with_reducible apply wo_fld0 | with_reducible apply wo_fldH0 | with_reducible apply wo_fld1 | with_reducible apply wo_fld2 | with_reducible apply wo_fldW0 | with_reducible apply wo_fldW1 | with_reducible apply wo_fldW2) | ((with_reducible apply gS); first | with_reducible apply w_seq | with_reducible apply w_asg | with_reducible apply w_sif | with_reducible apply w_next | with_reducible apply w_ret | with_reducible apply w_par | with_reducible apply w_drop | with_reducible apply w_asgT | with_reducible apply w_retN | with_reducible apply w_brk | with_reducible apply w_cnt | with_reducible apply w_raise | with_reducible apply w_forI) | ((with_reducible apply gI); first | with_reducible apply wI_t | with_reducible apply wI_f | with_reducible apply wI_not) | with_reducible apply w_bl | with_reducible apply thn_nx | with_reducible apply w_int | with_reducible apply w_obj | with_reducible apply thn_rt | with_reducible apply lp_nx | with_reducible apply fnl_int | with_reducible apply fnl_bl | with_reducible apply fnl_non | with_reducible apply fnl_str | with_reducible apply fnl_nx | with_reducible apply thn_bk | with_reducible apply thn_ct | with_reducible apply thn_xc | with_reducible apply lp_rt | with_reducible apply lp_bk | with_reducible apply lp_xc | with_reducible apply w_itL | with_reducible apply w_itT | with_reducible apply w_itK)
local macro_rules | `(tactic| walk_at "p") => `(tactic| repeat walk_at "w")
/-! LST1: the choices of a web as lists of numbers; their rows (plain law). -/
def numsL (N : Nat) (f : Int × Int → Int) : List Int := (pairsL N).map f
def allS (acc : List (List Int)) (n : Int) : List (List Int) := acc.flatMap fun s => (List.range (n + 1).toNat).map fun x : Nat => s ++ [(x : Int)]
def allL (ns : List Int) : List (List Int) := ns.foldl allS [[]]
def addP (N : Nat) (r : List Int) (q : (Int × Int) × Int) : List Int := (List.range N).map fun k : Nat => rF r k + if (k : Int) = q.1.1 ∨ (k : Int) = q.1.2 then q.2 else 0
def degP (N : Nat) (ps : List (Int × Int)) (xs : List Int) : List Int := (ps.zip xs).foldl (addP N) (List.replicate N 0)
def rowsA (N : Nat) (f : Int × Int → Int) : List (List Int) := (allL (numsL N f)).map (degP N (pairsL N))
/-- the web as a graph -/
def grO (f : Int × Int → Int) : FF.Gr := fun u v => fm f u v
/-- granted rows -/
def Gd1 (N : Nat) (f : Int × Int → Int) (r : List Int) : Prop := r.length = N ∧ FF.JW N (grO f) (rF r)
section
variable {N : Nat} {f : Int × Int → Int} {ps : List (Int × Int)} {s : List Int}
theorem all_snoc (ns : List Int) (n : Int) : allL (ns ++ [n]) = allS (allL ns) n := by
  unfold allL
  rw [List.foldl_append]
  rfl
theorem mem_allS {acc : List (List Int)} {n : Int} {t : List Int} : t ∈ allS acc n ↔ ∃ s ∈ acc, ∃ x : Int, 0 ≤ x ∧ x ≤ n ∧ t = s ++ [x] := by
  unfold allS
  rw [List.mem_flatMap]
  constructor
  · rintro ⟨s, hs, h⟩
    obtain ⟨x, hx, rfl⟩ := List.mem_map.mp h
    have := List.mem_range.mp hx
    exact ⟨s, hs, x, by omega, by omega, rfl⟩
  · rintro ⟨s, hs, x, h0, h1, rfl⟩
    exact ⟨s, hs, List.mem_map.mpr ⟨x.toNat, List.mem_range.mpr (by omega), by rw [show ((x.toNat : Nat) : Int) = x by omega]⟩⟩
theorem all_len : ∀ {ns : List Int}, ∀ s ∈ allL ns, s.length = ns.length := by
  intro ns
  induction ns using snoc_ind with
  | h0 =>
    intro s hs
    rw [show allL [] = [[]] from rfl, List.mem_singleton] at hs
    rw [hs]
  | h1 ns n ih =>
    intro s hs
    rw [all_snoc] at hs
    obtain ⟨s0, h0, x, _, _, rfl⟩ := mem_allS.mp hs
    rw [List.length_append, List.length_append, ih s0 h0, List.length_singleton, List.length_singleton]
theorem deg_snoc (h : s.length = ps.length) (p : Int × Int) (x : Int) : degP N (ps ++ [p]) (s ++ [x]) = addP N (degP N ps s) (p, x) := by
  unfold degP
  rw [List.zip_append h.symm, List.foldl_append]
  rfl
theorem addP_len (r : List Int) (q : (Int × Int) × Int) : (addP N r q).length = N := by simp [addP]
theorem foldP_len : ∀ (l : List ((Int × Int) × Int)) (r : List Int), r.length = N → (l.foldl (addP N) r).length = N
  | [], _, h => h
  | q :: l, r, _ => foldP_len l (addP N r q) (addP_len r q)
theorem deg_len : (degP N ps s).length = N := foldP_len _ _ (by simp)
theorem addP_at {r : List Int} {u v : Nat} {x : Int} {a : Nat} (ha : a < N) : rF (addP N r (((u : Int), (v : Int)), x)) a = rF r a + if a = u ∨ a = v then x else 0 := by
  show ((List.range N).map fun k : Nat => rF r k + if (k : Int) = u ∨ (k : Int) = v then x else 0).getD a 0 = _
  rw [List.getD_eq_getElem?_getD, List.getElem?_map, List.getElem?_range ha]
  show rF r a + (if (a : Int) = u ∨ (a : Int) = v then x else 0) = _
  by_cases h : a = u ∨ a = v
  · rw [if_pos h, if_pos (by omega)]
  · rw [if_neg h, if_neg (by omega)]
theorem rF_zero (a : Nat) : rF (List.replicate N 0) a = 0 := by
  unfold rF
  rw [List.getD_eq_getElem?_getD, List.getElem?_replicate]
  split <;> rfl
theorem grO_ok (h : FOk N f) : FF.Okc (grO f) := ⟨fun u v => fm_c f u v, fun u v => (h.b _).1, fun v => h.z _ fun z => by
  have := mem_pairsI.mp z
  simp only at this
  omega⟩
/-- a web with ties at these pairs alone -/
def Supp (ps : List (Int × Int)) (w : FF.Gr) : Prop := ∀ a b : Nat, w a b ≠ 0 → ((a : Int), (b : Int)) ∈ ps ∨ ((b : Int), (a : Int)) ∈ ps
theorem up_add {p : Nat → Int} {u v : Nat} {x : Int} {a : Nat} (n : u ≠ v) : FF.up (FF.up p u x) v x a = p a + if a = u ∨ a = v then x else 0 := by
  unfold FF.up
  by_cases e1 : a = u
  · subst e1
    simp [n]
  · by_cases e2 : a = v
    · subst e2
      simp [e1]
    · simp [e1, e2]
theorem adE_at {w : FF.Gr} {u v : Nat} {x : Int} (n : u ≠ v) : FF.adE w u v x u v = w u v + x := by
  unfold FF.adE
  rw [if_pos ⟨rfl, rfl⟩, if_neg (fun h => n h.1), Int.add_zero]
theorem adE_off {w : FF.Gr} {u v a b : Nat} {x : Int} (h1 : ¬ (a = u ∧ b = v)) (h2 : ¬ (a = v ∧ b = u)) : FF.adE w u v x a b = w a b := by
  unfold FF.adE
  rw [if_neg h1, if_neg h2, Int.add_zero, Int.add_zero]
theorem deg_web (hf : FOk N f) (hv : ∀ p ∈ ps, 0 ≤ p.1 ∧ p.1 < p.2 ∧ p.2 < (N : Int)) (nd : ps.Nodup) : ∀ s ∈ allL (ps.map f), ∃ w, FF.Sub (grO f) w ∧ Supp ps w ∧ ∀ v, v < N → rF (degP N ps s) v = FF.dgr N w v := by
  have ok := grO_ok hf
  induction ps using snoc_ind with
  | h0 =>
    intro s hs
    rw [show allL (([] : List (Int × Int)).map f) = [[]] from rfl, List.mem_singleton] at hs
    subst hs
    exact ⟨fun _ _ => 0, ⟨FF.zero_ok, ok.nn⟩, fun a b h => absurd rfl h, fun v _ => (rF_zero v).trans (FF.sm_zero N).symm⟩
  | h1 ps p ih =>
    intro s hs
    rw [List.map_append, List.map_cons, List.map_nil, all_snoc] at hs
    obtain ⟨s0, hs0, x, x0, x1, rfl⟩ := mem_allS.mp hs
    rw [List.nodup_append] at nd
    obtain ⟨w, hw, sp, e⟩ := ih (fun q hq => hv q (List.mem_append_left _ hq)) nd.1 s0 hs0
    have hp := hv p (by simp)
    obtain ⟨a', b'⟩ := p
    obtain ⟨u, rfl⟩ : ∃ u : Nat, a' = (u : Int) := ⟨a'.toNat, by simp only at hp; omega⟩
    obtain ⟨v, rfl⟩ : ∃ v : Nat, b' = (v : Int) := ⟨b'.toNat, by simp only at hp; omega⟩
    simp only at hp x1
    have uv : u ≠ v := by omega
    have new : ((u : Int), (v : Int)) ∉ ps := fun h => nd.2.2 _ h _ (by simp) rfl
    have new2 : ((v : Int), (u : Int)) ∉ ps := fun h => by
      have := (hv _ (List.mem_append_left _ h)).2.1
      simp only at this
      omega
    have z : w u v = 0 := Classical.byContradiction fun h => (sp u v h).elim new new2
    have fe : grO f u v = f ((u : Int), (v : Int)) := by
      show f (min (u : Int) (v : Int), max (u : Int) (v : Int)) = _
      rw [show min (u : Int) (v : Int) = u by omega, show max (u : Int) (v : Int) = v by omega]
    refine ⟨FF.adE w u v x, ⟨FF.adE_ok hw.ok uv (by omega), FF.adE_le hw.le (ok.sym _ _) (hw.ok.sym _ _) uv (by omega)⟩, fun a b h => ?_, fun a ha => ?_⟩
    · by_cases c1 : a = u ∧ b = v
      · left
        rw [c1.1, c1.2]
        simp
      · by_cases c2 : a = v ∧ b = u
        · right
          rw [c2.1, c2.2]
          simp
        · rw [adE_off c1 c2] at h
          exact (sp a b h).imp (List.mem_append_left _) (List.mem_append_left _)
    · rw [deg_snoc (by rw [all_len s0 hs0, List.length_map]), addP_at ha, FF.dgr_ad (by omega) (by omega) uv, up_add uv, e a ha]
theorem web_deg (hf : FOk N f) (hv : ∀ p ∈ ps, 0 ≤ p.1 ∧ p.1 < p.2 ∧ p.2 < (N : Int)) (nd : ps.Nodup) : ∀ w, FF.Sub (grO f) w → Supp ps w → ∃ s ∈ allL (ps.map f), ∀ v, v < N → rF (degP N ps s) v = FF.dgr N w v := by
  have ok := grO_ok hf
  induction ps using snoc_ind with
  | h0 =>
    intro w hw sp
    refine ⟨[], List.mem_singleton.mpr rfl, fun v hv => (rF_zero v).trans ?_⟩
    rw [← FF.sm_zero N]
    refine FF.sm_congr fun a _ => ?_
    exact (Classical.byContradiction fun h => by
      have := sp v a fun z => h (by rw [z])
      simp at this)
  | h1 ps p ih =>
    intro w hw sp
    rw [List.nodup_append] at nd
    have hp := hv p (by simp)
    obtain ⟨a', b'⟩ := p
    obtain ⟨u, rfl⟩ : ∃ u : Nat, a' = (u : Int) := ⟨a'.toNat, by simp only at hp; omega⟩
    obtain ⟨v, rfl⟩ : ∃ v : Nat, b' = (v : Int) := ⟨b'.toNat, by simp only at hp; omega⟩
    simp only at hp
    have uv : u ≠ v := by omega
    have fe : grO f u v = f ((u : Int), (v : Int)) := by
      show f (min (u : Int) (v : Int), max (u : Int) (v : Int)) = _
      rw [show min (u : Int) (v : Int) = u by omega, show max (u : Int) (v : Int) = v by omega]
    have n0 := hw.ok.nn u v
    have le := hw.le u v
    have fp := ok.nn u v
    have sb : FF.Sub (grO f) (FF.adE w u v (-(w u v))) := ⟨FF.adE_ok hw.ok uv (by omega), FF.adE_le hw.le (ok.sym _ _) (hw.ok.sym _ _) uv (by omega)⟩
    obtain ⟨s, hs, e⟩ := ih (fun q hq => hv q (List.mem_append_left _ hq)) nd.1 _ sb fun a b h => by
      by_cases c1 : a = u ∧ b = v
      · rw [c1.1, c1.2, adE_at uv] at h
        omega
      · by_cases c2 : a = v ∧ b = u
        · rw [sb.ok.sym, c2.1, c2.2, adE_at uv] at h
          omega
        · rw [adE_off c1 c2] at h
          rcases sp a b h with k | k
          · rcases List.mem_append.mp k with k | k
            · exact .inl k
            · rw [List.mem_singleton, Prod.mk.injEq] at k
              exact absurd (show a = u ∧ b = v by omega) c1
          · rcases List.mem_append.mp k with k | k
            · exact .inr k
            · rw [List.mem_singleton, Prod.mk.injEq] at k
              exact absurd (show a = v ∧ b = u by omega) c2
    refine ⟨s ++ [w u v], ?_, fun a ha => ?_⟩
    · rw [List.map_append, List.map_cons, List.map_nil, all_snoc]
      exact mem_allS.mpr ⟨s, hs, w u v, n0, by omega, rfl⟩
    · rw [deg_snoc (by rw [all_len s hs, List.length_map]), addP_at ha, e a ha, FF.dgr_ad (by omega) (by omega) uv, up_add uv]
      omega
theorem mem_rowsA (h : FOk N f) {r : List Int} : r ∈ rowsA N f ↔ Gd1 N f r := by
  have pv : ∀ p ∈ pairsL N, 0 ≤ p.1 ∧ p.1 < p.2 ∧ p.2 < (N : Int) := fun p hp => mem_pairsI.mp hp
  unfold rowsA numsL
  rw [List.mem_map]
  constructor
  · rintro ⟨s, hs, rfl⟩
    obtain ⟨w, hw, _, e⟩ := deg_web h pv (pairs_nodup N) s hs
    exact ⟨deg_len, w, hw, e⟩
  · rintro ⟨hl, w, hw, k⟩
    obtain ⟨s, hs, e⟩ := web_deg h pv (pairs_nodup N) w hw fun a b ne => by
      have n0 := hw.ok.nn a b
      have le := hw.le a b
      have fz : grO f a b ≠ 0 := by omega
      have : (min (a : Int) (b : Int), max (a : Int) (b : Int)) ∈ pairsL N := Classical.byContradiction fun c => fz (h.z _ c)
      by_cases ab : a ≤ b
      · left
        rw [show min (a : Int) (b : Int) = a by omega, show max (a : Int) (b : Int) = b by omega] at this
        exact this
      · right
        rw [show min (a : Int) (b : Int) = b by omega, show max (a : Int) (b : Int) = a by omega] at this
        exact this
    exact ⟨s, hs, row_uqR deg_len hl fun a ha => by rw [e a ha, k a ha]⟩
/-! ### steps -/
/-- the row with one item changed -/
def upL (r : List Int) (v : Nat) (s : Int) : List Int := r.set v (rF r v + s)
theorem upL_len (r : List Int) (v : Nat) (s : Int) : (upL r v s).length = r.length := List.length_set
theorem rF_up {r : List Int} {v : Nat} {s : Int} (hv : v < r.length) : rF (upL r v s) = FF.up (rF r) v s := by
  funext u
  unfold upL FF.up
  by_cases e : u = v
  · subst e
    rw [if_pos rfl]
    show (r.set u (rF r u + s)).getD u 0 = _
    rw [List.getD_eq_getElem?_getD, List.getElem?_set_self hv]
    rfl
  · rw [if_neg e]
    show (r.set v (rF r v + s)).getD u 0 = r.getD u 0
    rw [List.getD_eq_getElem?_getD, List.getD_eq_getElem?_getD, List.getElem?_set_ne (Ne.symm e)]
theorem gd_up {r : List Int} {v w : Nat} {s t : Int} (hl : r.length = N) (hv : v < N) (hw : w < N) : Gd1 N f (upL (upL r v s) w t) ↔ FF.JW N (grO f) (FF.up (FF.up (rF r) v s) w t) := by
  unfold Gd1
  rw [upL_len, upL_len, rF_up (by rw [upL_len]; omega), rF_up (by omega)]
  exact ⟨fun h => h.2, fun h => ⟨hl, h⟩⟩
end
end CL
set_option maxHeartbeats 4000000
/-! E9: comprehensions and walks over lists of values that are written as data. -/
namespace CT
open PySem L2
theorem cbL_allM {n : Nat} : ∀ {l : List D}, (∀ d ∈ l, cb n d = true) → cbL n l = true
  | [], _ => rfl
  | d :: l, h => by
    show (cb n d && cbL n l) = true
    rw [h d (List.mem_cons_self ..), cbL_allM fun x hx => h x (List.mem_cons_of_mem _ hx)]
    rfl
theorem take_s1 {α : Type} {l : List α} {j : Nat} {x : α} (h : l[j]? = some x) : l.take (j + 1) = l.take j ++ [x] := by
  obtain ⟨hj, e⟩ := List.getElem?_eq_some_iff.mp h
  rw [← e]
  exact (List.take_append_getElem hj).symm
section
variable {α β : Type} {l : List α} {enc : α → D} {g g1 : MG} {tt tt1 : MT} {te : ME} {vs vs1 : List Nat} {F : Fr} {C : Store} {Q : D → Store → Prop} {E : Exc → Store → Prop} {it : ItD} {S : Store → Prop} {n : Nat} {sl : List (Option D)} {P : RS → Prop} {fl : Nat} {body : MS}
theorem acc_new (acc : List D) : (accS C acc)[C.length]? = some (some (.lst acc)) := by simp [accS]
theorem acc_set (acc acc' : List D) : (accS C acc).set C.length (some (.lst acc')) = accS C acc' := by simp [accS]
theorem lcN_M (p : ItOn S it (l.map enc)) (hS : ∀ acc, S (accS C acc)) (a0 : List D) (f : α → Bool) (h : α → D) (sz : a0.length + l.length ≤ 16777215)
    (st : ∀ a ∈ l, ∃ sl1, g (enc a) sl = some sl1 ∧ ∀ acc, wR (tt ⟨C.length, sl1⟩ (accS C acc)) (fun b C' => b = f a ∧ C' = accS C acc) noX ∧ (f a = true → wR (te ⟨C.length, sl1⟩ (accS C acc)) (fun d C' => d = h a ∧ C' = accS C acc) noX)) :
    lcN it g tt te C.length sl it.n 0 (accS C a0) = .ok () (accS C (a0 ++ (l.filter f).map h)) := by
  have len : ∀ j, (a0 ++ ((l.take j).filter f).map h).length ≤ a0.length + l.length := fun j => by
    have h1 := List.length_filter_le f (l.take j)
    rw [List.length_take] at h1
    rw [List.length_append, List.length_map]
    omega
  obtain ⟨acc', C', e, c, hC, ha⟩ := lc_w (tt := tt) (te := te) (g := g) (n := C.length) (sl := sl) p (fun j acc S => S = accS C acc ∧ acc = a0 ++ ((l.take j).filter f).map h) (fun j acc S z => z.1 ▸ hS acc) (fun j acc S z => by
    have := len j
    rw [z.2]
    omega) (fun j x acc S hx hc z => by
      obtain ⟨rfl, hacc⟩ := z
      rw [List.getElem?_map] at hx
      obtain ⟨a, ha, rfl⟩ := Option.map_eq_some_iff.mp hx
      obtain ⟨sl1, e, s⟩ := st a (List.mem_of_getElem? ha)
      have l1 := len j
      refine ⟨sl1, e, w_mono (s acc).1 (fun b S z => ?_) fun _ _ z => z⟩
      obtain ⟨rfl, rfl⟩ := z
      cases hf : f a with
      | true =>
        refine wI_t (w_mono ((s acc).2 hf) (fun d S z => ?_) fun _ _ z => z)
        obtain ⟨rfl, rfl⟩ := z
        refine ⟨acc, acc_new acc, by rw [hacc]; omega, ⟨acc_set _ _, ?_⟩, by simp [accS]⟩
        rw [hacc, take_s1 ha, List.filter_append]
        simp [hf]
      | false =>
        refine wI_f ⟨acc, acc_new acc, rfl, ?_⟩
        rw [hacc, take_s1 ha, List.filter_append]
        simp [hf]) it.n 0 a0 (accS C a0) (by rw [p.n]; omega) (acc_new a0) ⟨rfl, by simp⟩
  subst hC
  rw [e, ha, List.length_map, List.take_length]
theorem lcMo (p : ItOn S it (l.map enc)) (hS : ∀ acc, S (accS C acc)) (f : α → Bool) (h : α → D) (sz : l.length ≤ 16777215)
    (st : ∀ a ∈ l, ∃ sl1, g (enc a) (wipeD F.sl vs) = some sl1 ∧ ∀ acc, wR (tt ⟨C.length, sl1⟩ (accS C acc)) (fun b C' => b = f a ∧ C' = accS C acc) noX ∧ (f a = true → wR (te ⟨C.length, sl1⟩ (accS C acc)) (fun d C' => d = h a ∧ C' = accS C acc) noX))
    (hc : ∀ a ∈ l, f a = true → cb C.length (h a) = true) (q : Q (.lst ((l.filter f).map h)) C) : wR (lcR it g tt te vs F C) Q E := by
  have e := lcN_M (C := C) p hS [] f h (by simp only [List.length_nil]; omega) st
  unfold lcR mLc
  simp only [bnd_ok]
  rw [show C ++ [some (Cell.lst [])] = accS C [] from rfl, e]
  simp only [bn0_ok, List.nil_append]
  unfold lcEnd
  rw [if_neg (by decide), acc_new]
  have hb : cbL C.length ((l.filter f).map h) = true := cbL_allM fun d hd => by
    obtain ⟨a, ha, rfl⟩ := List.mem_map.mp hd
    obtain ⟨a1, a2⟩ := List.mem_filter.mp ha
    exact hc a a1 a2
  simp only [hb, if_true]
  rw [show (accS C ((l.filter f).map h)).take C.length = C from by simp [accS]]
  exact w_ok q
theorem lcM (p : PureIt it (l.map enc)) (f : α → Bool) (h : α → D) (sz : l.length ≤ 16777215)
    (st : ∀ a ∈ l, ∃ sl1, g (enc a) (wipeD F.sl vs) = some sl1 ∧ ∀ acc, wR (tt ⟨C.length, sl1⟩ (accS C acc)) (fun b C' => b = f a ∧ C' = accS C acc) noX ∧ (f a = true → wR (te ⟨C.length, sl1⟩ (accS C acc)) (fun d C' => d = h a ∧ C' = accS C acc) noX))
    (hc : ∀ a ∈ l, f a = true → cb C.length (h a) = true) (q : Q (.lst ((l.filter f).map h)) C) : wR (lcR it g tt te vs F C) Q E :=
  lcMo (p.on fun _ => True) (fun _ => trivial) f h sz st hc q
/-- without a test -/
theorem lcY (p : PureIt it (l.map enc)) (h : α → D) (sz : l.length ≤ 16777215)
    (st : ∀ a ∈ l, ∃ sl1, g (enc a) (wipeD F.sl vs) = some sl1 ∧ ∀ acc, wR (te ⟨C.length, sl1⟩ (accS C acc)) (fun d C' => d = h a ∧ C' = accS C acc) noX)
    (hc : ∀ a ∈ l, cb C.length (h a) = true) (q : Q (.lst (l.map h)) C) : wR (lcR it g tYesM te vs F C) Q E := by
  refine lcM p (fun _ => true) h sz (fun a ha => ?_) (fun a ha _ => hc a ha) ?_
  · obtain ⟨sl1, e, s⟩ := st a ha
    exact ⟨sl1, e, fun acc => ⟨w_yes ⟨rfl, rfl⟩, fun _ => s acc⟩⟩
  · rw [List.filter_eq_self.mpr fun _ _ => rfl]
    exact q
/-! ### two clauses -/
theorem fm_len {ys : α → List β} {m : Nat} : ∀ {l : List α}, (∀ a ∈ l, (ys a).length ≤ m) → (l.flatMap ys).length ≤ l.length * m
  | [], _ => by simp
  | a :: l, h => by
    have h1 := fm_len (l := l) fun x hx => h x (List.mem_cons_of_mem _ hx)
    have h2 := h a (List.mem_cons_self ..)
    rw [List.flatMap_cons, List.length_append, List.length_cons, Nat.succ_mul]
    omega
def fl2 (ys : α → List β) (f : α → β → Bool) (h : α → β → D) (l : List α) : List D := l.flatMap fun a => ((ys a).filter (f a)).map (h a)
theorem lc2N_M {enc2 : β → D} {ys : α → List β} {f : α → β → Bool} {h : α → β → D} {mi1 : MI} {m : Nat} (p : PureIt it (l.map enc)) (hm : ∀ a ∈ l, (ys a).length ≤ m) (sz : l.length * m ≤ 16000000) (sm : m ≤ 700000)
    (st : ∀ a ∈ l, ∃ sl1, g (enc a) sl = some sl1 ∧ (∀ acc, wR (mi1 ⟨C.length, sl1⟩ (accS C acc)) (fun it1 C' => C' = accS C acc ∧ PureIt it1 ((ys a).map enc2)) noX) ∧
      ∀ b ∈ ys a, ∃ sl2, g1 (enc2 b) (wipeD sl1 vs1) = some sl2 ∧ ∀ acc, wR (tt1 ⟨C.length, sl2⟩ (accS C acc)) (fun t C' => t = f a b ∧ C' = accS C acc) noX ∧ (f a b = true → wR (te ⟨C.length, sl2⟩ (accS C acc)) (fun d C' => d = h a b ∧ C' = accS C acc) noX)) :
    ∀ r j, r + j = l.length → lc2N it g tYesM mi1 g1 tt1 te C.length sl vs1 r j (accS C (fl2 ys f h (l.take j))) = .ok () (accS C (fl2 ys f h l))
  | 0, j, e => by
    have ej : j = l.length := by omega
    subst ej
    unfold lc2N
    have := p.fin (accS C (fl2 ys f h (l.take l.length)))
    rw [if_pos this, List.take_length]
  | r + 1, j, e => by
    have hj : j < l.length := by omega
    obtain ⟨sl1, h1, h2, h3⟩ := st l[j] (List.getElem_mem hj)
    have ih := lc2N_M (enc2 := enc2) (f := f) (h := h) p hm sz sm st r (j + 1) (by omega)
    have tk := take_s1 (List.getElem?_eq_getElem hj)
    have fl : fl2 ys f h (l.take (j + 1)) = fl2 ys f h (l.take j) ++ ((ys l[j]).filter (f l[j])).map (h l[j]) := by
      rw [tk]
      unfold fl2
      rw [List.flatMap_append]
      simp only [List.flatMap_cons, List.flatMap_nil, List.append_nil]
    rw [fl] at ih
    unfold lc2N
    have hj2 : j < (l.map enc).length := by rw [List.length_map]; exact hj
    rw [p.item j _ hj2, List.getElem?_eq_getElem hj2, List.getElem_map]
    simp only [h1]
    obtain ⟨it1, C', em, rfl, p1⟩ := w_out (h2 (fl2 ys f h (l.take j)))
    show bn0 (R.ok true (accS C (fl2 ys f h (l.take j)))) _ = _
    simp only [bn0_ok, if_true]
    rw [em]
    simp only [bn0_ok]
    have hl : (fl2 ys f h (l.take j)).length ≤ j * m := by
      have := fm_len (ys := fun a => ((ys a).filter (f a)).map (h a)) (l := l.take j) (m := m) fun a ha => by
        rw [List.length_map]
        exact Nat.le_trans (List.length_filter_le _ _) (hm a (List.mem_of_mem_take ha))
      have e2 : (l.take j).length = j := by simp; omega
      rw [e2] at this
      exact this
    have hl2 : (ys l[j]).length ≤ m := hm _ (List.getElem_mem hj)
    have hjm : j * m ≤ l.length * m := Nat.mul_le_mul_right _ (Nat.le_of_lt hj)
    have ein := lcN_M (S := fun _ => True) (g := g1) (tt := tt1) (te := te) (C := C) (sl := wipeD sl1 vs1) (p1.on fun _ => True) (fun _ => trivial) (fl2 ys f h (l.take j)) (f l[j]) (h l[j]) (by omega) h3
    rw [ein]
    simp only [bn0_ok]
    exact ih
theorem w_lc2i {mi : MI} {mi1 : MI} (h : wR (mi F C) (fun it C1 => wR (mLc2 false (fun _ C => .ok it C) g tt mi1 g1 tt1 te vs vs1 F C1) Q E) E) : wR (mLc2 false mi g tt mi1 g1 tt1 te vs vs1 F C) Q E := by
  unfold mLc2 at h
  unfold mLc2
  exact w_bnd h
theorem lc2M {enc2 : β → D} {mi1 : MI} (ys : α → List β) (f : α → β → Bool) (h : α → β → D) (m : Nat) (p : PureIt it (l.map enc)) (hm : ∀ a ∈ l, (ys a).length ≤ m) (sz : l.length * m ≤ 16000000) (sm : m ≤ 700000)
    (st : ∀ a ∈ l, ∃ sl1, g (enc a) (wipeD F.sl vs) = some sl1 ∧ (∀ acc, wR (mi1 ⟨C.length, sl1⟩ (accS C acc)) (fun it1 C' => C' = accS C acc ∧ PureIt it1 ((ys a).map enc2)) noX) ∧
      ∀ b ∈ ys a, ∃ sl2, g1 (enc2 b) (wipeD sl1 vs1) = some sl2 ∧ ∀ acc, wR (tt1 ⟨C.length, sl2⟩ (accS C acc)) (fun t C' => t = f a b ∧ C' = accS C acc) noX ∧ (f a b = true → wR (te ⟨C.length, sl2⟩ (accS C acc)) (fun d C' => d = h a b ∧ C' = accS C acc) noX))
    (hc : ∀ a ∈ l, ∀ b ∈ ys a, f a b = true → cb C.length (h a b) = true) (q : Q (.lst (fl2 ys f h l)) C) : wR (mLc2 false (fun _ C => .ok it C) g tYesM mi1 g1 tt1 te vs vs1 F C) Q E := by
  have e := lc2N_M (C := C) (enc2 := enc2) (f := f) (h := h) p hm sz sm st it.n 0 (by rw [p.n, List.length_map]; omega)
  unfold mLc2
  simp only [bnd_ok]
  rw [show C ++ [some (Cell.lst [])] = accS C (fl2 ys f h (l.take 0)) from rfl, e]
  simp only [bn0_ok]
  unfold lcEnd
  rw [if_neg (by decide), acc_new]
  have hb : cbL C.length (fl2 ys f h l) = true := cbL_allM fun d hd => by
    obtain ⟨a, ha, hd⟩ := List.mem_flatMap.mp hd
    obtain ⟨b, hb, rfl⟩ := List.mem_map.mp hd
    obtain ⟨b1, b2⟩ := List.mem_filter.mp hb
    exact hc a ha b b1 b2
  simp only [hb, if_true]
  rw [show (accS C (fl2 ys f h l)).take C.length = C from by simp [accS]]
  exact w_ok q
/-- without a test -/
theorem lc2Y {enc2 : β → D} {mi1 : MI} (ys : α → List β) (h : α → β → D) (m : Nat) (p : PureIt it (l.map enc)) (hm : ∀ a ∈ l, (ys a).length ≤ m) (sz : l.length * m ≤ 16000000) (sm : m ≤ 700000)
    (st : ∀ a ∈ l, ∃ sl1, g (enc a) (wipeD F.sl vs) = some sl1 ∧ (∀ acc, wR (mi1 ⟨C.length, sl1⟩ (accS C acc)) (fun it1 C' => C' = accS C acc ∧ PureIt it1 ((ys a).map enc2)) noX) ∧
      ∀ b ∈ ys a, ∃ sl2, g1 (enc2 b) (wipeD sl1 vs1) = some sl2 ∧ ∀ acc, wR (te ⟨C.length, sl2⟩ (accS C acc)) (fun d C' => d = h a b ∧ C' = accS C acc) noX)
    (hc : ∀ a ∈ l, ∀ b ∈ ys a, cb C.length (h a b) = true) (q : Q (.lst (l.flatMap fun a => (ys a).map (h a))) C) : wR (mLc2 false (fun _ C => .ok it C) g tYesM mi1 g1 tYesM te vs vs1 F C) Q E := by
  refine lc2M (enc2 := enc2) ys (fun _ _ => true) h m p hm sz sm (fun a ha => ?_) (fun a ha b hb _ => hc a ha b hb) ?_
  · obtain ⟨sl1, e, s1, s2⟩ := st a ha
    refine ⟨sl1, e, s1, fun b hb => ?_⟩
    obtain ⟨sl2, e2, s3⟩ := s2 b hb
    exact ⟨sl2, e2, fun acc => ⟨w_yes ⟨rfl, rfl⟩, fun _ => s3 acc⟩⟩
  · have : fl2 ys (fun _ _ => true) h l = l.flatMap fun a => (ys a).map (h a) := by
      unfold fl2
      congr 1
      funext a
      rw [List.filter_eq_self.mpr fun _ _ => rfl]
    rw [this]
    exact q
/-! ### walks -/
theorem loopM (p : PureIt it (l.map enc)) (I : Nat → List (Option D) → Store → Prop) (i0 : I 0 sl C)
    (step : ∀ j a sl C, l[j]? = some a → I j sl C → ∃ sl1, g (enc a) sl = some sl1 ∧ wS (body ⟨fl, sl1⟩ C) (lpP I (j + 1) P)) (fin : ∀ sl C, I l.length sl C → P (.nx sl C)) : wS (loopN it g body fl it.n 0 sl C) P := by
  refine loop_p p I i0 (fun j x sl C hx i => ?_) (fun sl C i => fin sl C (by rw [List.length_map] at i; exact i))
  rw [List.getElem?_map] at hx
  obtain ⟨a, ha, rfl⟩ := Option.map_eq_some_iff.mp hx
  exact step j a sl C ha i
theorem loopMo (p : ItOn S it (l.map enc)) (I : Nat → List (Option D) → Store → Prop) (hS : ∀ j sl C, I j sl C → S C) (i0 : I 0 sl C)
    (step : ∀ j a sl C, l[j]? = some a → I j sl C → ∃ sl1, g (enc a) sl = some sl1 ∧ wS (body ⟨fl, sl1⟩ C) (lpP I (j + 1) P)) (fin : ∀ sl C, I l.length sl C → P (.nx sl C)) : wS (loopN it g body fl it.n 0 sl C) P := by
  refine loop_o p I hS i0 (fun j x sl C hx i => ?_) (fun sl C i => fin sl C (by rw [List.length_map] at i; exact i))
  rw [List.getElem?_map] at hx
  obtain ⟨a, ha, rfl⟩ := Option.map_eq_some_iff.mp hx
  exact step j a sl C ha i
/-- a range as a list of numbers -/
theorem rngI_M (n : Nat) : rngI 0 n = (List.range n).map fun k : Nat => D.int (k : Int) := by
  unfold rngI
  exact List.map_congr_left fun k _ => by rw [Int.zero_add]
theorem pureR0 (n : Nat) : PureIt (itR 0 n) ((List.range n).map fun k : Nat => D.int (k : Int)) := rngI_M n ▸ pure_R 0 n
end
/-! ### x *= e, d[k] += e -/
section
variable {C : Store} {P : RS → Prop}
theorem w_augM {i : Nat} {me : ME} {fl : Nat} {sl : List (Option D)} {a : Int} (e : sl[i]? = some (some (.int a))) (h : wR (me ⟨fl, sl⟩ C) (fun v C1 => ∃ b, v = .int b ∧ cMul a b = true ∧ P (.nx (sl.set i (some (.int (a * b)))) C1)) (fun e C => P (.xc e sl C))) : wS (sAugM i me ⟨fl, sl⟩ C) P := by
  unfold sAugM
  simp only [e]
  refine w_bndS (w_mono h (fun v C1 g => ?_) fun _ _ z => z)
  obtain ⟨b, rfl, c, q⟩ := g
  simp only [c, if_true]
  exact ⟨q⟩
end
section
variable {C : Store} {X : Exc → Store → Prop}
theorem w_zipX {m : MA} {F : Fr} {Q : ItD → Store → Prop} (h : wR (m F C) (fun ds C1 => ∃ x y p q, ds = [x, y] ∧ sqOf x C1 = some p ∧ sqOf y C1 = some q ∧ Q (itC (zipD p.2 q.2)) C1) X) : wR (mZipX m F C) Q X := by
  unfold mZipX
  refine w_bnd (w_mono h (fun ds C1 g => ?_) fun _ _ z => z)
  obtain ⟨x, y, p, q, rfl, e1, e2, g⟩ := g
  simp only [e1, e2]
  exact w_ok g
end
end CT
set_option maxHeartbeats 4000000
namespace CL
open PySem L2 CT
local macro_rules | `(tactic| walk_at "w") => `(tactic| first | ((with_reducible apply gR); first | with_reducible refine w_var rfl ?_ | with_reducible apply w_cons | with_reducible apply w_c | with_reducible apply w_nil | with_reducible apply w_op | with_reducible apply w_ap | with_reducible apply w_call | with_reducible apply w_tst | with_reducible apply w_un | with_reducible apply w_tand | with_reducible apply w_tor | with_reducible apply w_tnot | with_reducible apply w_yes | with_reducible apply w_and | with_reducible apply w_or | with_reducible apply w_not | with_reducible apply w_if | with_reducible apply w_chain | with_reducible apply w_isi | with_reducible apply w_isi2 | with_reducible apply w_prop | with_reducible apply w_meth | with_reducible apply w_dget | with_reducible apply w_dnewF | with_reducible apply w_dnewT | with_reducible apply w_part | with_reducible apply w_noPart | with_reducible apply w_slLF | with_reducible apply w_slA | with_reducible apply w_ok | with_reducible apply w_ofO | with_reducible apply w_lcI | with_reducible apply w_seqI | with_reducible apply w_rng1 | with_reducible apply w_rng2 | with_reducible apply w_enum) | ((with_reducible apply gO); first | with_reducible apply wo_add | with_reducible apply wo_sub | with_reducible apply wo_lt | with_reducible apply wo_gt | with_reducible apply wo_eq | with_reducible apply wo_ne | with_reducible apply wo_le | with_reducible apply wo_ge | with_reducible apply wo_neg | with_reducible apply wo_eqS | with_reducible apply wo_neS | with_reducible apply wo_min | with_reducible apply wo_max | with_reducible apply wo_int | with_reducible apply wo_abs | with_reducible apply wo_tupL | with_reducible apply wo_tupT | with_reducible refine wo_tup (by with_unfolding_all rfl) ?_ | with_reducible refine wo_lstF (by with_unfolding_all rfl) ?_ | with_reducible refine wo_lstT (by with_unfolding_all rfl) ?_ | with_reducible apply wo_fld0 | with_reducible apply wo_fldH0 | with_reducible apply wo_fld1 | with_reducible apply wo_fld2 | with_reducible apply wo_fldW0 | with_reducible apply wo_fldW1 | with_reducible apply wo_fldW2) | ((with_reducible apply gS); first | with_reducible apply w_seq | with_reducible apply w_asg | with_reducible apply w_sif | with_reducible apply w_next | with_reducible apply w_ret | with_reducible apply w_par | with_reducible apply w_drop | with_reducible apply w_asgT | with_reducible apply w_retN | with_reducible apply w_brk | with_reducible apply w_cnt | with_reducible apply w_raise | with_reducible apply w_forI) | ((with_reducible apply gI); first | with_reducible apply wI_t | with_reducible apply wI_f | with_reducible apply wI_not) | with_reducible apply w_bl | with_reducible apply thn_nx | with_reducible apply w_int | with_reducible apply w_obj | with_reducible apply thn_rt | with_reducible apply lp_nx | with_reducible apply fnl_int | with_reducible apply fnl_bl | with_reducible apply fnl_non | with_reducible apply fnl_str | with_reducible apply fnl_nx | with_reducible apply thn_bk | with_reducible apply thn_ct | with_reducible apply thn_xc | with_reducible apply lp_rt | with_reducible apply lp_bk | with_reducible apply lp_xc | with_reducible apply w_itL | with_reducible apply w_itT | with_reducible apply w_itK)
local macro_rules | `(tactic| walk_at "p") => `(tactic| repeat walk_at "w")
/-! RDC: dicts whose keys are tuples of ints. -/
def keyI (r : List Int) : List Key := r.map fun i => .inl i
theorem keyL_i : ∀ r : List Int, keyL (r.map .int) = some (keyI r)
  | [] => rfl
  | i :: r => by
    show (keyL (r.map D.int)).map (fun l => Sum.inl i :: l) = _
    rw [keyL_i r]
    rfl
theorem keyI_inj : ∀ {r s : List Int}, keyI r = keyI s → r = s
  | [], [], _ => rfl
  | [], _ :: _, h => by cases h
  | _ :: _, [], h => by cases h
  | a :: r, b :: s, h => by
    have h1 := List.cons.inj h
    rw [Sum.inl.inj h1.1, keyI_inj (r := r) (s := s) h1.2]
abbrev Rd := List (List Int × D)
def rdK (d : Rd) : List (List Key) := d.map fun p => keyI p.1
def rdV (d : Rd) : List D := d.map fun p => p.2
def rp (d : Rd) (k : List Int) (v : D) : Rd := if (d.any fun p => decide (p.1 = k)) = true then d.map (fun p => if p.1 = k then (p.1, v) else p) else d ++ [(k, v)]
def rg : Rd → List Int → Option D
  | [], _ => none
  | p :: d, k => if p.1 = k then some p.2 else rg d k
theorem look_rd (k : List Int) : ∀ d : Rd, lookT (rdK d) (rdV d) (keyI k) = rg d k
  | [] => rfl
  | p :: d => by
    have ih := look_rd k d
    show (if keyI p.1 = keyI k then some p.2 else lookT (rdK d) (rdV d) (keyI k)) = if p.1 = k then some p.2 else rg d k
    by_cases e : p.1 = k
    · rw [if_pos e, if_pos (by rw [e])]
    · rw [if_neg e, if_neg (fun h => e (keyI_inj h)), ih]
theorem set_rd (k : List Int) (v : D) : ∀ d : Rd, setT (rdK d) (rdV d) (keyI k) v = rdV (d.map fun p => if p.1 = k then (p.1, v) else p)
  | [] => rfl
  | p :: d => by
    have ih := set_rd k v d
    show (if keyI p.1 = keyI k then v else p.2) :: setT (rdK d) (rdV d) (keyI k) v = _
    rw [ih]
    by_cases e : p.1 = k
    · simp [rdV, e]
    · have : ¬ keyI p.1 = keyI k := fun h => e (keyI_inj h)
      simp [rdV, e, this]
theorem any_rd (k : List Int) (d : Rd) : ((rdK d).any fun x => decide (x = keyI k)) = d.any fun p => decide (p.1 = k) := by
  unfold rdK
  rw [List.any_map]
  congr 1
  funext p
  exact decide_eq_decide.mpr ⟨keyI_inj, fun h => congrArg keyI h⟩
theorem put_rd (d : Rd) (k : List Int) (v : D) : putT (rdK d) (rdV d) (keyI k) v = (rdK (rp d k v), rdV (rp d k v)) := by
  unfold putT rp
  rw [any_rd]
  split
  · rw [set_rd]
    congr 1
    unfold rdK
    rw [List.map_map]
    refine List.map_congr_left fun p _ => ?_
    show keyI p.1 = keyI (if p.1 = k then (p.1, v) else p).1
    split <;> rfl
  · simp [rdK, rdV]
theorem rp_len (d : Rd) (k : List Int) (v : D) : (rp d k v).length ≤ d.length + 1 := by
  unfold rp
  split <;> simp
theorem rp_mem {d : Rd} {k r : List Int} {v : D} : r ∈ (rp d k v).map (·.1) ↔ r = k ∨ r ∈ d.map (·.1) := by
  unfold rp
  split
  · rename_i h
    obtain ⟨p, hp, e⟩ := List.any_eq_true.mp h
    have e := of_decide_eq_true e
    have e1 : (d.map (fun p => if p.1 = k then (p.1, v) else p)).map (·.1) = d.map (·.1) := by
      rw [List.map_map]
      refine List.map_congr_left fun q _ => ?_
      show (if q.1 = k then (q.1, v) else q).1 = q.1
      split <;> rfl
    rw [e1]
    exact ⟨.inr, fun h => h.elim (fun z => by rw [z, ← e]; exact List.mem_map.mpr ⟨p, hp, rfl⟩) id⟩
  · rw [List.map_append, List.mem_append]
    simp only [List.map_cons, List.map_nil, List.mem_singleton]
    exact Or.comm
theorem rp_vals {d : Rd} {k : List Int} {v : D} : ∀ x ∈ rdV (rp d k v), x = v ∨ x ∈ rdV d := by
  intro x hx
  unfold rdV rp at hx
  split at hx
  · rw [List.map_map] at hx
    obtain ⟨p, hp, rfl⟩ := List.mem_map.mp hx
    show (if p.1 = k then (p.1, v) else p).2 = v ∨ _
    by_cases e : p.1 = k
    · left
      show (if p.1 = k then (p.1, v) else p).2 = v
      rw [if_pos e]
    · right
      refine List.mem_map.mpr ⟨p, hp, ?_⟩
      show p.2 = (if p.1 = k then (p.1, v) else p).2
      rw [if_neg e]
  · rw [List.map_append, List.mem_append] at hx
    rcases hx with hx | hx
    · exact .inr hx
    · simp at hx
      exact .inl hx
theorem rg_some {r : List Int} : ∀ {d : Rd}, ((rg d r).isSome = true ↔ r ∈ d.map (·.1))
  | [] => by simp [rg]
  | p :: d => by
    have ih := rg_some (r := r) (d := d)
    unfold rg
    by_cases e : p.1 = r
    · rw [if_pos e, List.map_cons, e]
      simp
    · rw [if_neg e, ih, List.map_cons, List.mem_cons]
      exact ⟨.inr, fun h => h.elim (fun z => absurd z.symm e) id⟩
theorem rg_mem {r : List Int} {v : D} : ∀ {d : Rd}, rg d r = some v → v ∈ rdV d
  | [], h => by cases h
  | p :: d, h => by
    unfold rg at h
    split at h
    · cases h
      exact List.mem_cons_self ..
    · exact List.mem_cons_of_mem _ (rg_mem h)
theorem rg_put {d : Rd} {k r : List Int} {v : D} : rg (rp d k v) r = if r = k then some v else rg d r := by
  unfold rp
  split
  · rename_i h
    have key : ∀ d : Rd, rg (d.map fun p => if p.1 = k then (p.1, v) else p) r = if r = k then (if r ∈ d.map (·.1) then some v else none) else rg d r := by
      intro d
      induction d with
      | nil => simp [rg]
      | cons p d ih =>
        rw [List.map_cons, List.map_cons]
        unfold rg
        rw [ih]
        by_cases e : p.1 = k
        · rw [if_pos e]
          by_cases e2 : p.1 = r
          · rw [if_pos e2, if_pos (e2.symm.trans e), if_pos (by rw [e2]; exact List.mem_cons_self ..)]
          · rw [if_neg e2]
            have : ¬ r = k := fun z => e2 (e.trans z.symm)
            rw [if_neg this, if_neg this]
            simp only [e2, if_false]
        · rw [if_neg e]
          by_cases e2 : p.1 = r
          · have : ¬ r = k := fun z => e (e2.trans z)
            rw [if_pos e2, if_neg this]
            simp only [e2, if_true]
          · rw [if_neg e2]
            simp only [e2, if_false]
            by_cases z : r = k
            · rw [if_pos z, if_pos z]
              by_cases m : r ∈ d.map (·.1)
              · rw [if_pos m, if_pos (List.mem_cons_of_mem _ m)]
              · rw [if_neg m, if_neg (fun c => (List.mem_cons.mp c).elim (fun q => e2 q.symm) m)]
            · rw [if_neg z, if_neg z]
    rw [key]
    obtain ⟨p, hp, e⟩ := List.any_eq_true.mp h
    have e := of_decide_eq_true e
    by_cases z : r = k
    · rw [if_pos z, if_pos z, if_pos (by rw [z, ← e]; exact List.mem_map.mpr ⟨p, hp, rfl⟩)]
    · rw [if_neg z, if_neg z]
  · rename_i h
    have key : ∀ d : Rd, (∀ p ∈ d, p.1 ≠ k) → rg (d ++ [(k, v)]) r = if r = k then some v else rg d r := by
      intro d
      induction d with
      | nil =>
        intro _
        show (if k = r then some v else none) = _
        by_cases z : r = k
        · rw [if_pos z, if_pos z.symm]
        · rw [if_neg z, if_neg (Ne.symm z)]
          rfl
      | cons p d ih =>
        intro hd
        rw [List.cons_append]
        unfold rg
        rw [ih fun q hq => hd q (List.mem_cons_of_mem _ hq)]
        have := hd p (List.mem_cons_self ..)
        by_cases e2 : p.1 = r
        · rw [if_pos e2, if_neg (fun z => this (e2.trans z))]
          simp only [e2, if_true]
        · rw [if_neg e2]
          simp only [e2, if_false]
    exact key d fun p hp e => h (List.any_eq_true.mpr ⟨p, hp, decide_eq_true e⟩)
def tI (r : List Int) : D := .tup (r.map .int)
theorem cb_tI (n : Nat) (r : List Int) : cb n (tI r) = true := cbL_ints _ _
theorem cb_tIs (n : Nat) (l : List (List Int)) : cbL n (l.map tI) = true := cbL_allM fun d hd => by
  obtain ⟨r, _, rfl⟩ := List.mem_map.mp hd
  exact cb_tI _ _
section
variable {C : Store} {d : Rd} {x : D} {r : List Int} {Q : D → Store → Prop} {X : Exc → Store → Prop} {fl i : Nat} {sl : List (Option D)} {P : RS → Prop}
theorem vD_c (h : C[i]? = some (some (.dT (rdK d) (rdV d)))) : vD (.cell i) C = some (rdK d, rdV d) := by simp only [vD, h]
theorem din_rd (h : vD x C = some (rdK d, rdV d)) (neg : Bool) : oDIn neg (tI r) x C = some (.bl (if neg = true then !decide (r ∈ d.map (·.1)) else decide (r ∈ d.map (·.1))), C) := by
  have e : (rg d r).isSome = decide (r ∈ d.map (·.1)) := by
    rw [Bool.eq_iff_iff, rg_some, decide_eq_true_eq]
  simp only [oDIn, tI, h, keyL_i, Option.bind_some, Option.map_some, look_rd, e]
theorem dget_rd {z : D} (h : vD x C = some (rdK d, rdV d)) : oDGet x (tI r) z C = some ((rg d r).getD z, C) := by
  simp only [oDGet, tI, h, keyL_i, Option.bind_some, Option.map_some, look_rd]
theorem dix_rd {v : D} (h : vD x C = some (rdK d, rdV d)) (e : rg d r = some v) : oDIx x (tI r) C = some (v, C) := by
  simp only [oDIx, tI, h, keyL_i, Option.bind_some, Option.map_some, look_rd, e]
/-- d[k] = v of an own dict -/
theorem put_rc {v : D} (h : C[i]? = some (some (.dT (rdK d) (rdV d)))) (hi : fl ≤ i) (hz : d.length < 16777216) : sPut (fun _ _ => .ok v C) (fun _ _ => .ok (.cell i) C) (fun _ _ => .ok (tI r) C) ⟨fl, sl⟩ C = .nx sl (C.set i (some (.dT (rdK (rp d r v)) (rdV (rp d r v))))) := by
  have ec : cD (.cell i) C = some (i, rdK d, rdV d) := by simp only [cD, h]
  have kl : szN ((rdK d).length + 1) = true := by simp [szN, rdK]; omega
  unfold sPut
  simp only [bndS_ok, tI, ec, keyL_i, kl, if_true, put_rd, wr_hi hi]
theorem w_augD {o : Int → Int → Int} {mo mi me : ME} (h : wR (mo ⟨fl, sl⟩ C) (fun l C1 => wR (mi ⟨fl, sl⟩ C1) (fun x C2 => ∃ (i : Nat) (d : Rd) (r : List Int) (a : Int), l = .cell i ∧ x = tI r ∧ C2[i]? = some (some (.dT (rdK d) (rdV d))) ∧ rg d r = some (.int a) ∧ wR (me ⟨fl, sl⟩ C2) (fun v C3 => ∃ b, v = .int b ∧ C3[i]? = some (some (.dT (rdK d) (rdV d))) ∧ fl ≤ i ∧ d.length < 16777216 ∧ P (.nx sl (C3.set i (some (.dT (rdK (rp d r (.int (o a b)))) (rdV (rp d r (.int (o a b))))))))) (fun e C => P (.xc e sl C))) (fun e C => P (.xc e sl C))) (fun e C => P (.xc e sl C))) : wS (sAugD o mo mi me ⟨fl, sl⟩ C) P :=
  w_bndS (w_mono h (fun l C1 g => w_bndS (w_mono g (fun x C2 g => by
    obtain ⟨i, d, r, a, rfl, rfl, h1, h2, g⟩ := g
    have ec : cD (.cell i) C2 = some (i, rdK d, rdV d) := by simp only [cD, h1]
    simp only [tI, ec, keyL_i, look_rd, h2]
    refine w_bndS (w_mono g (fun v C3 g => ?_) fun _ _ z => z)
    obtain ⟨b, rfl, h3, hi, hz, q⟩ := g
    have ec3 : cD (.cell i) C3 = some (i, rdK d, rdV d) := by simp only [cD, h3]
    have kl : szN ((rdK d).length + 1) = true := by simp [szN, rdK]; omega
    simp only [ec3, kl, if_true, put_rd, wr_hi hi]
    exact ⟨q⟩) fun _ _ z => z)) fun _ _ z => z)
/-- an own dict of rows becomes plain data -/
theorem fnl_rd {n : Nat} (hi : n ≤ i) (hC : C[i]? = some (some (.dT (rdK d) (rdV d)))) (hc : cbL n (rdV d) = true) (h : Q (.dT (rdK d) (rdV d)) (C.take n)) : fnl n Q X (.rt (.cell i) C) := by
  show wR (fin n (.cell i) C) Q X
  have z : fz n (.cell i) C = .dT (rdK d) (rdV d) := by
    unfold fz
    simp [hC, hi]
  unfold fin
  rw [z, if_pos (by simpa [cb] using hc)]
  exact w_ok h
end
/-! ### the keys in order -/
def leR (r s : List Int) : Bool := PySem.W.dataLe false kPs (keyI r) (keyI s)
def srk (d : Rd) : List (List Int) := (d.map (·.1)).mergeSort leR
theorem srk_perm (d : Rd) : (srk d).Perm (d.map (·.1)) := List.mergeSort_perm _ _
theorem mem_srk {d : Rd} {r : List Int} : r ∈ srk d ↔ r ∈ d.map (·.1) := (srk_perm d).mem_iff
theorem alike_i : ∀ (r s : List Int), PySem.W.alikeAll ((keyI r).map kP) ((keyI s).map kP) = true
  | [], _ => by simp [keyI, PySem.W.alikeAll]
  | _ :: _, [] => by simp [keyI, PySem.W.alikeAll]
  | a :: r, b :: s => by
    have ih := alike_i r s
    show (PySem.W.alike (.int a) (.int b) && PySem.W.alikeAll ((keyI r).map kP) ((keyI s).map kP)) = true
    rw [ih]
    simp [PySem.W.alike]
theorem srtb_rd {d : Rd} (h : ∀ r ∈ d.map (·.1), r ≠ []) : srtb ((rdK d).map kPs) = true := by
  have e : ∀ p ∈ (rdK d).map kPs, ∃ r : List Int, r ≠ [] ∧ p = .tuple ((keyI r).map kP) := fun p hp => by
    obtain ⟨k, hk, rfl⟩ := List.mem_map.mp hp
    obtain ⟨q, hq, rfl⟩ := List.mem_map.mp hk
    exact ⟨q.1, h _ (List.mem_map.mpr ⟨q, hq, rfl⟩), rfl⟩
  simp only [srtb, Bool.and_eq_true, Bool.or_eq_true, List.all_eq_true]
  refine ⟨fun x hx y hy => ?_, .inl fun x hx => ?_⟩
  · obtain ⟨r, _, rfl⟩ := e x hx
    obtain ⟨s, _, rfl⟩ := e y hy
    show PySem.W.alike (.tuple _) (.tuple _) = true
    rw [PySem.W.alike]
    exact alike_i r s
  · obtain ⟨r, hr, rfl⟩ := e x hx
    cases r with
    | nil => exact absurd rfl hr
    | cons a r => rfl
theorem kyD_i : ∀ r : List Int, (keyI r).map kyD = r.map .int
  | [] => rfl
  | a :: r => by
    show D.int a :: (keyI r).map kyD = _
    rw [kyD_i r]
    rfl
theorem sort_rd {x : D} {C : Store} {d : Rd} (h : vD x C = some (rdK d, rdV d)) (ne : ∀ r ∈ d.map (·.1), r ≠ []) : oSortD false [x] C = some (.lst ((srk d).map tI), C) := by
  have em := List.map_mergeSort (r := leR) (s := PySem.W.dataLe false kPs) (f := keyI) (l := d.map (·.1)) (fun a _ b _ => rfl)
  have ek : (d.map (·.1)).map keyI = rdK d := by
    rw [List.map_map]
    rfl
  rw [ek] at em
  simp only [oSortD, h, srtb_rd ne, if_true]
  rw [← em]
  show some (mkL false _ C) = _
  simp only [mkL, Bool.false_eq_true, if_false]
  congr 2
  unfold srk
  congr 1
  rw [List.map_map]
  refine List.map_congr_left fun r _ => ?_
  show D.tup ((keyI r).map kyD) = tI r
  rw [kyD_i]
  rfl
end CL
set_option maxHeartbeats 4000000
/-! O2g: web[u, v]. -/
namespace CL
open PySem L2 CT
section
variable {N M : Nat} {f g : Int × Int → Int} {C : Store}
theorem getitem_ok {u v : Nat} (hu : u < N) (hv : v < N) : m_Web__getitem [webD N f, .tup [.int u, .int v]] C = .ok (.int (f (min (u : Int) (v : Int), max (u : Int) (v : Int)))) C := by
  rw [e_Web__getitem, b_Web__getitem, ev_seq]
  have e0 : b_Web__getitem_0 ⟨C.length, [some (webD N f), some (.tup [.int u, .int v]), none, none]⟩ C = .nx [some (webD N f), some (.tup [.int u, .int v]), some (.int u), some (.int v)] C := by
    simp [b_Web__getitem_0]
  rw [e0, seqK_nx]
  simp [b_Web__getitem_1, webD, gix hu, rix hv]
end
local macro_rules | `(tactic| walk_at "w") => `(tactic| first | ((with_reducible apply gR); first | with_reducible refine w_var rfl ?_ | with_reducible apply w_cons | with_reducible apply w_c | with_reducible apply w_nil | with_reducible apply w_op | with_reducible apply w_ap | with_reducible apply w_call | with_reducible apply w_tst | with_reducible apply w_un | with_reducible apply w_tand | with_reducible apply w_tor | with_reducible apply w_tnot | with_reducible apply w_yes | with_reducible apply w_and | with_reducible apply w_or | with_reducible apply w_not | with_reducible apply w_if | with_reducible apply w_chain | with_reducible apply w_isi | with_reducible apply w_isi2 | with_reducible apply w_prop | with_reducible apply w_meth | with_reducible apply w_dget | with_reducible apply w_dnewF | with_reducible apply w_dnewT | with_reducible apply w_part | with_reducible apply w_noPart | with_reducible apply w_slLF | with_reducible apply w_slA | with_reducible apply w_ok | with_reducible apply w_ofO | with_reducible apply w_lcI | with_reducible apply w_seqI | with_reducible apply w_rng1 | with_reducible apply w_rng2 | with_reducible apply w_enum) | ((with_reducible apply gO); first | with_reducible apply wo_add | with_reducible apply wo_sub | with_reducible apply wo_lt | with_reducible apply wo_gt | with_reducible apply wo_eq | with_reducible apply wo_ne | with_reducible apply wo_le | with_reducible apply wo_ge | with_reducible apply wo_neg | with_reducible apply wo_eqS | with_reducible apply wo_neS | with_reducible apply wo_min | with_reducible apply wo_max | with_reducible apply wo_int | with_reducible apply wo_abs | with_reducible apply wo_tupL | with_reducible apply wo_tupT | with_reducible refine wo_tup (by with_unfolding_all rfl) ?_ | with_reducible refine wo_lstF (by with_unfolding_all rfl) ?_ | with_reducible refine wo_lstT (by with_unfolding_all rfl) ?_ | with_reducible apply wo_fld0 | with_reducible apply wo_fldH0 | with_reducible apply wo_fld1 | with_reducible apply wo_fld2 | with_reducible apply wo_fldW0 | with_reducible apply wo_fldW1 | with_reducible apply wo_fldW2) | ((with_reducible apply gS); first | with_reducible apply w_seq | with_reducible apply w_asg | with_reducible apply w_sif | with_reducible apply w_next | with_reducible apply w_ret | with_reducible apply w_par | with_reducible apply w_drop | with_reducible apply w_asgT | with_reducible apply w_retN | with_reducible apply w_brk | with_reducible apply w_cnt | with_reducible apply w_raise | with_reducible apply w_forI) | ((with_reducible apply gI); first | with_reducible apply wI_t | with_reducible apply wI_f | with_reducible apply wI_not) | with_reducible apply w_bl | with_reducible apply thn_nx | with_reducible apply w_int | with_reducible apply w_obj | with_reducible apply thn_rt | with_reducible apply lp_nx | with_reducible apply fnl_int | with_reducible apply fnl_bl | with_reducible apply fnl_non | with_reducible apply fnl_str | with_reducible apply fnl_nx | with_reducible apply thn_bk | with_reducible apply thn_ct | with_reducible apply thn_xc | with_reducible apply lp_rt | with_reducible apply lp_bk | with_reducible apply lp_xc | with_reducible apply w_itL | with_reducible apply w_itT | with_reducible apply w_itK)
local macro_rules | `(tactic| walk_at "p") => `(tactic| repeat walk_at "w")
local macro_rules | `(tactic| walk_at "w") => `(tactic| first | ((with_reducible apply gR); first | with_reducible refine w_var rfl ?_ | with_reducible apply w_cons | with_reducible apply w_c | with_reducible apply w_nil | with_reducible apply w_op | with_reducible apply w_ap | with_reducible apply w_call | with_reducible apply w_tst | with_reducible apply w_un | with_reducible apply w_tand | with_reducible apply w_tor | with_reducible apply w_tnot | with_reducible apply w_yes | with_reducible apply w_and | with_reducible apply w_or | with_reducible apply w_not | with_reducible apply w_if | with_reducible apply w_chain | with_reducible apply w_isi | with_reducible apply w_isi2 | with_reducible apply w_prop | with_reducible apply w_meth | with_reducible apply w_dget | with_reducible apply w_dnewF | with_reducible apply w_dnewT | with_reducible apply w_part | with_reducible apply w_noPart | with_reducible apply w_slLF | with_reducible apply w_slA | with_reducible apply w_ok | with_reducible apply w_ofO | with_reducible apply w_lcI | with_reducible apply w_seqI | with_reducible apply w_rng1 | with_reducible apply w_rng2 | with_reducible apply w_enum) | ((with_reducible apply gO); first | with_reducible apply wo_add | with_reducible apply wo_sub | with_reducible apply wo_lt | with_reducible apply wo_gt | with_reducible apply wo_eq | with_reducible apply wo_ne | with_reducible apply wo_le | with_reducible apply wo_ge | with_reducible apply wo_neg | with_reducible apply wo_eqS | with_reducible apply wo_neS | with_reducible apply wo_min | with_reducible apply wo_max | with_reducible apply wo_int | with_reducible apply wo_abs | with_reducible apply wo_tupL | with_reducible apply wo_tupT | with_reducible refine wo_tup (by with_unfolding_all rfl) ?_ | with_reducible refine wo_lstF (by with_unfolding_all rfl) ?_ | with_reducible refine wo_lstT (by with_unfolding_all rfl) ?_ | with_reducible apply wo_fld0 | with_reducible apply wo_fldH0 | with_reducible apply wo_fld1 | with_reducible apply wo_fld2 | with_reducible apply wo_fldW0 | with_reducible apply wo_fldW1 | with_reducible apply wo_fldW2) | ((with_reducible apply gS); first | with_reducible apply w_seq | with_reducible apply w_asg | with_reducible apply w_sif | with_reducible apply w_next | with_reducible apply w_ret | with_reducible apply w_par | with_reducible apply w_drop | with_reducible apply w_asgT | with_reducible apply w_retN | with_reducible apply w_brk | with_reducible apply w_cnt | with_reducible apply w_raise | with_reducible apply w_forI) | ((with_reducible apply gI); first | with_reducible apply wI_t | with_reducible apply wI_f | with_reducible apply wI_not) | with_reducible apply w_bl | with_reducible apply thn_nx | with_reducible apply w_int | with_reducible apply w_obj | with_reducible apply thn_rt | with_reducible apply lp_nx | with_reducible apply fnl_int | with_reducible apply fnl_bl | with_reducible apply fnl_non | with_reducible apply fnl_str | with_reducible apply fnl_nx | with_reducible apply thn_bk | with_reducible apply thn_ct | with_reducible apply thn_xc | with_reducible apply lp_rt | with_reducible apply lp_bk | with_reducible apply lp_xc | with_reducible apply w_itL | with_reducible apply w_itT | with_reducible apply w_itK)
local macro_rules | `(tactic| walk_at "p") => `(tactic| repeat walk_at "w")
/-! LST2: pairs, numbers, all numbers, degrees: walked. -/
def prodN (ns : List Int) : Int := ns.foldl (fun a n => a * (n + 1)) 1
structure Light (ns : List Int) : Prop where
  nn : ∀ n ∈ ns, 0 ≤ n
  p : prodN ns ≤ 1024
theorem prod_snoc (ns : List Int) (n : Int) : prodN (ns ++ [n]) = prodN ns * (n + 1) := by
  unfold prodN
  rw [List.foldl_append]
  rfl
theorem prod_pos {ns : List Int} (h : ∀ n ∈ ns, 0 ≤ n) : 1 ≤ prodN ns := by
  induction ns using snoc_ind with
  | h0 => decide
  | h1 ns n ih =>
    rw [prod_snoc]
    have a := ih fun x hx => h x (List.mem_append_left _ hx)
    have b := h n (by simp)
    have : 1 * 1 ≤ prodN ns * (n + 1) := Int.mul_le_mul a (by omega) (by omega) (by omega)
    omega
theorem prod_le {ns : List Int} {n : Int} (h : ∀ x ∈ ns ++ [n], 0 ≤ x) : prodN ns ≤ prodN (ns ++ [n]) ∧ n + 1 ≤ prodN (ns ++ [n]) := by
  rw [prod_snoc]
  have a := prod_pos fun x hx => h x (List.mem_append_left _ hx)
  have b := h n (by simp)
  constructor
  · have : prodN ns * 1 ≤ prodN ns * (n + 1) := Int.mul_le_mul_of_nonneg_left (by omega) (by omega)
    omega
  · have : 1 * (n + 1) ≤ prodN ns * (n + 1) := Int.mul_le_mul_of_nonneg_right a (by omega)
    omega
theorem Light.snoc {ns : List Int} {n : Int} (h : Light (ns ++ [n])) : Light ns ∧ 0 ≤ n ∧ n + 1 ≤ 1024 := by
  have k := prod_le h.nn
  have := h.p
  exact ⟨⟨fun x hx => h.nn x (List.mem_append_left _ hx), by omega⟩, h.nn n (by simp), by omega⟩
theorem Light.take {ns : List Int} (h : Light ns) (j : Nat) : Light (ns.take j) := by
  induction ns using snoc_ind with
  | h0 => simpa using h
  | h1 ns n ih =>
    by_cases e : j ≤ ns.length
    · rw [List.take_append_of_le_length e]
      exact ih h.snoc.1
    · rw [List.take_of_length_le (by simp; omega)]
      exact h
theorem all_count {ns : List Int} (h : ∀ n ∈ ns, 0 ≤ n) : ((allL ns).length : Int) = prodN ns := by
  induction ns using snoc_ind with
  | h0 => rfl
  | h1 ns n ih =>
    have n0 := h n (by simp)
    rw [all_snoc, prod_snoc, ← ih fun x hx => h x (List.mem_append_left _ hx)]
    have key : ∀ l : List (List Int), ((allS l n).length : Int) = (l.length : Int) * (n + 1) := by
      intro l
      induction l with
      | nil => simp [allS]
      | cons s l il =>
        unfold allS at il ⊢
        rw [List.flatMap_cons, List.length_append, List.length_map, List.length_range, List.length_cons]
        have e : (((n + 1).toNat : Nat) : Int) = n + 1 := by omega
        push_cast
        rw [il]
        have := Int.add_mul (l.length : Int) 1 (n + 1)
        omega
    exact key _
theorem Light.count {ns : List Int} (h : Light ns) : (allL ns).length ≤ 1024 := by
  have := all_count h.nn
  have := h.p
  omega
section
variable {N : Nat} {C : Store} {Q : D → Store → Prop} {X : Exc → Store → Prop} {f : Int × Int → Int}
theorem num_pos (h : FOk N f) : ∀ n ∈ numsL N f, 0 ≤ n := fun n hn => by
  obtain ⟨p, _, rfl⟩ := List.mem_map.mp hn
  exact (h.b p).1
theorem pairs_nat : pairsL N = (List.range N).flatMap fun u : Nat => ((List.range (N - (u + 1))).map fun w : Nat => u + 1 + w).map fun v : Nat => ((u : Int), (v : Int)) := by
  unfold pairsL
  congr 1
  funext u
  rw [List.map_map]
  rfl
theorem pairs_of_w (hN : N ≤ 60) (q : Q (.lst ((pairsL N).map pD)) C) : wR (m_pairs_of [.int N] C) Q X := by
  rw [e_pairs_of]
  apply w_fin
  unfold b_pairs_of
  walk_at "w"
  refine w_lc2i ?_
  walk_at "p"
  refine ⟨inR_of (by omega) (by omega), ?_⟩
  refine lc2Y (l := List.range N) (enc := fun k : Nat => .int (k : Int)) (enc2 := fun v : Nat => .int (v : Int)) (fun u : Nat => (List.range (N - (u + 1))).map fun w : Nat => u + 1 + w) (fun u v : Nat => .tup [.int (u : Int), .int (v : Int)]) 60 (pureR0 N) (fun u hu => by simp; omega) (by simp; omega) (by omega) (fun u hu => ?_) (fun u hu v hv => rfl) ?_
  · have hu := List.mem_range.mp hu
    refine ⟨_, rfl, fun acc => ?_, fun v hv => ⟨_, rfl, fun acc => ?_⟩⟩
    · walk_at "p"
      refine ⟨_, _, rfl, rfl, inR_of (by omega) (by omega), inR_of (by omega) (by omega), rfl, ?_⟩
      have e : rngI ((u : Int) + 1) ((N : Int) - ((u : Int) + 1)).toNat = ((List.range (N - (u + 1))).map fun w : Nat => u + 1 + w).map fun v : Nat => D.int (v : Int) := by
        unfold rngI
        rw [List.map_map, show ((N : Int) - ((u : Int) + 1)).toNat = N - (u + 1) by omega]
        refine List.map_congr_left fun w _ => ?_
        show D.int ((u : Int) + 1 + (w : Int)) = D.int ((u + 1 + w : Nat) : Int)
        congr 1
      rw [← e]
      exact pure_R _ _
    · walk_at "p"
      exact ⟨rfl, rfl⟩
  · have e : ((List.range N).flatMap fun a => ((List.range (N - (a + 1))).map fun w => a + 1 + w).map fun v : Nat => D.tup [.int (a : Int), .int (v : Int)]) = (pairsL N).map pD := by
      rw [pairs_nat, List.map_flatMap]
      refine flatMap_cg fun u _ => ?_
      simp only [List.map_map]
      rfl
    walk_at "p"
    rw [e]
    refine fnl_p (by simp only [cb]; exact cbL_allM fun d hd => by obtain ⟨p, _, rfl⟩ := List.mem_map.mp hd; rfl) ?_
    rw [List.take_length]
    exact q
theorem pD_at {p : Int × Int} (hp : p ∈ pairsL N) : ∃ u v : Nat, u < v ∧ v < N ∧ p = ((u : Int), (v : Int)) := mem_pairs.mp hp
theorem item_f {u v : Nat} (hu : u < v) (hv : v < N) : m_Web__getitem [webD N f, .tup [.int u, .int v]] C = .ok (.int (f ((u : Int), (v : Int)))) C := by
  rw [getitem_ok (by omega) hv, show min (u : Int) (v : Int) = u by omega, show max (u : Int) (v : Int) = v by omega]
theorem isC_webL : isC 0 (webD N f) C = true := rfl
theorem w_ixOL {c : Nat} {m : MF} {mo me : ME} {F : Fr} (h : wR (mo F C) (fun x C1 => wR (me F C1) (fun y C2 => isC c x C2 = true ∧ wR (m [x, y] C2) Q X) X) X) : wR (mIxO c m mo me F C) Q X := by
  unfold mIxO
  refine w_bnd (w_mono h (fun x C1 g => w_bnd (w_mono g (fun y C2 g => ?_) fun _ _ z => z)) fun _ _ z => z)
  rw [if_pos g.1]
  exact g.2
theorem pairs_lenL : (pairsL N).length ≤ N * N := by
  unfold pairsL
  have := fm_len (ys := fun u : Nat => (List.range (N - (u + 1))).map fun w : Nat => ((u : Int), ((u + 1 + w : Nat) : Int))) (l := List.range N) (m := N) fun u hu => by simp
  rw [List.length_range] at this
  exact this
theorem numbers_w (hN : N ≤ 60) (q : Q (tI (numsL N f)) C) : wR (m_numbers [webD N f] C) Q X := by
  rw [e_numbers]
  apply w_fin
  unfold b_numbers
  walk_at "p"
  refine wo_fld (d := .int N) rfl ?_
  walk_at "p"
  refine pairs_of_w hN ?_
  walk_at "p"
  have pl := pairs_lenL (N := N)
  have nn : N * N ≤ 60 * 60 := Nat.mul_le_mul hN hN
  refine lcY (l := pairsL N) (enc := pD) (pure_C _) (fun p => .int (f p)) (by omega) (fun p hp => ?_) (fun p hp => rfl) ?_
  · obtain ⟨u, v, uv, vN, rfl⟩ := pD_at hp
    refine ⟨_, rfl, fun acc => ?_⟩
    refine w_ixOL ?_
    walk_at "p"
    refine ⟨isC_webL, w_of (item_f uv vN) ⟨rfl, rfl⟩⟩
  · walk_at "p"
    have e : (pairsL N).map (fun p => D.int (f p)) = (numsL N f).map .int := by
      unfold numsL
      rw [List.map_map]
      rfl
    rw [e]
    refine fnl_p (cb_tI 0 _) ?_
    rw [List.take_length]
    exact q
theorem check_size_w (h : N ≤ 5) (q : Q .non C) : wR (m_check_size [webD N f] C) Q X := by
  rw [e_check_size]
  apply w_fin
  unfold b_check_size
  walk_at "p"
  refine wo_fld (d := .int N) rfl ?_
  walk_at "p"
  refine wI_df (by omega) ?_
  walk_at "p"
  rw [List.take_length]
  exact q
theorem take_nm {l : List Int} {j : Nat} {n : Int} (h : l[j]? = some n) : l.take (j + 1) = l.take j ++ [n] := take_s1 h
theorem check_light_w (h : N ≤ 5) (hf : FOk N f) (hl : Light (numsL N f)) (q : Q .non C) : wR (m_check_light [webD N f] C) Q X := by
  rw [e_check_light]
  apply w_fin
  unfold b_check_light b_check_light_0
  walk_at "p"
  refine check_size_w h ?_
  walk_at "p"
  unfold b_check_light_1
  walk_at "p"
  unfold b_check_light_2
  walk_at "p"
  refine numbers_w (by omega) ?_
  refine ⟨_, rfl, ?_⟩
  refine loopM (l := numsL N f) (enc := .int) (pure_C _) (fun j sl S => S = C ∧ ∃ t2, sl = [some (webD N f), some (.int (prodN ((numsL N f).take j))), t2]) ⟨rfl, none, rfl⟩ ?_ ?_
  · rintro j n sl S hj ⟨rfl, t2, rfl⟩
    refine ⟨_, rfl, ?_⟩
    unfold b_check_light_2b_0
    have n0 := num_pos hf n (List.mem_of_getElem? hj)
    have nl := (hl.take (j + 1))
    rw [take_nm hj] at nl
    have n1 := nl.snoc.2.2
    refine w_augM (a := prodN ((numsL N f).take j)) rfl ?_
    walk_at "p"
    have cm : cMul (prodN ((numsL N f).take j)) (n + 1) = true := by
      simp only [cMul, Bool.or_eq_true, Bool.and_eq_true, decide_eq_true_eq]
      right
      omega
    refine ⟨cm, ?_⟩
    rw [← prod_snoc, ← take_nm hj]
    exact lp_nx ⟨rfl, _, rfl⟩
  · rintro sl S ⟨rfl, t2, rfl⟩
    have lp := hl.p
    rw [List.take_length]
    walk_at "p"
    unfold b_check_light_3
    walk_at "p"
    refine wI_df (by omega) ?_
    walk_at "p"
    rw [List.take_length]
    exact q
theorem cat_t (xs ys : List D) (h : xs.length + ys.length ≤ 10000) : oCatT (.tup xs) (.tup ys) C = some (.tup (xs ++ ys), C) := by
  have hz : szN (xs.length + ys.length) = true := by
    simp [szN]
    omega
  simp only [oCatT, vT, hz, if_true]
  cases xs with
  | nil => rfl
  | cons a A =>
    cases ys with
    | nil => simp
    | cons b B => rfl
theorem tI_snoc (s : List Int) (x : Int) : D.tup (s.map .int ++ [.int x]) = tI (s ++ [x]) := by simp [tI]
theorem all_numbers_w (h : N ≤ 5) (hl : Light (numsL N f)) (q : Q (.lst ((allL (numsL N f)).map tI)) C) : wR (m_all_numbers [webD N f] C) Q X := by
  have pl := pairs_lenL (N := N)
  have nn : N * N ≤ 5 * 5 := Nat.mul_le_mul h h
  have nl : (numsL N f).length ≤ 25 := by
    unfold numsL
    rw [List.length_map]
    omega
  rw [e_all_numbers]
  apply w_fin
  unfold b_all_numbers b_all_numbers_0
  walk_at "p"
  unfold b_all_numbers_1
  walk_at "p"
  refine numbers_w (by omega) ?_
  refine ⟨_, rfl, ?_⟩
  refine loopM (l := numsL N f) (enc := .int) (pure_C _) (fun j sl S => S = C ∧ ∃ t2 t3 t4, sl = [some (webD N f), some (.lst ((allL ((numsL N f).take j)).map tI)), t2, t3, t4]) ⟨rfl, none, none, none, rfl⟩ ?_ ?_
  · rintro j n sl S hj ⟨rfl, t2, t3, t4, rfl⟩
    refine ⟨_, rfl, ?_⟩
    unfold b_all_numbers_1b_0
    have ln := hl.take (j + 1)
    rw [take_nm hj] at ln
    obtain ⟨l0, n0, n1⟩ := ln.snoc
    have cnt := l0.count
    have sl : ∀ s ∈ allL ((numsL N f).take j), s.length ≤ 25 := fun s hs => by
      rw [all_len s hs, List.length_take]
      omega
    walk_at "w"
    refine w_lc2i ?_
    walk_at "p"
    refine lc2Y (l := allL ((numsL N f).take j)) (enc := tI) (enc2 := fun k : Nat => .int (k : Int)) (fun _ => List.range (n + 1).toNat) (fun s x => tI (s ++ [(x : Int)])) 1024 (pure_C _) (fun s _ => by simp; omega) (by omega) (by omega) (fun s hs => ?_) (fun s _ x _ => cb_tI _ _) ?_
    · refine ⟨_, rfl, fun acc => ?_, fun x hx => ⟨_, rfl, fun acc => ?_⟩⟩
      · walk_at "p"
        exact ⟨inR_of (by omega) (by omega), rfl, pureR0 _⟩
      · walk_at "p"
        have := sl s hs
        refine wo_of (cat_t _ _ (by simp; omega)) ?_
        exact ⟨tI_snoc s _, rfl⟩
    · have e2 : ((allL ((numsL N f).take j)).flatMap fun s => (List.range (n + 1).toNat).map fun x : Nat => tI (s ++ [(x : Int)])) = (allL ((numsL N f).take (j + 1))).map tI := by
        rw [take_nm hj, all_snoc]
        unfold allS
        rw [List.map_flatMap]
        simp only [List.map_map]
        rfl
      rw [e2]
      walk_at "p"
      exact ⟨rfl, _, _, _, rfl⟩
  · rintro sl S ⟨rfl, t2, t3, t4, rfl⟩
    rw [List.take_length]
    walk_at "p"
    unfold b_all_numbers_2
    walk_at "p"
    refine fnl_p (cb_tIs 0 _) ?_
    rw [List.take_length]
    exact q
end
/-! LST3: degrees, counts of rows: walked. -/
theorem upL_addP {N : Nat} {r : List Int} {u v : Nat} {x : Int} (hr : r.length = N) (hu : u < N) (hv : v < N) (uv : u ≠ v) : upL (upL r u x) v x = addP N r (((u : Int), (v : Int)), x) := by
  refine row_uqR (N := N) (by rw [upL_len, upL_len]; exact hr) (addP_len _ _) fun a ha => ?_
  rw [rF_up (by rw [upL_len]; omega), rF_up (by omega), addP_at ha]
  exact up_add uv
section
variable {N : Nat} {C : Store} {Q : D → Store → Prop} {X : Exc → Store → Prop} {f : Int × Int → Int} {fl : Nat} {sl : List (Option D)} {P : RS → Prop}
theorem w_augI {mo mi me : ME} (h : wR (mo ⟨fl, sl⟩ C) (fun l C1 => wR (mi ⟨fl, sl⟩ C1) (fun x C2 => ∃ (n i : Nat) (r : List Int), x = .int n ∧ l = .cell i ∧ C2[i]? = some (some (.lst (r.map .int))) ∧ n < r.length ∧ fl ≤ i ∧ wR (me ⟨fl, sl⟩ C2) (fun v C3 => C3 = C2 ∧ ∃ b, v = .int b ∧ P (.nx sl (C2.set i (some (.lst ((upL r n b).map .int)))))) (fun e C => P (.xc e sl C))) (fun e C => P (.xc e sl C))) (fun e C => P (.xc e sl C))) : wS (sAugL (· + ·) mo mi me ⟨fl, sl⟩ C) P := by
  refine w_augL (w_mono h (fun l C1 g => w_mono g (fun x C2 g => ?_) fun _ _ z => z) fun _ _ z => z)
  obtain ⟨n, i, r, rfl, rfl, hC, hn, hi, g⟩ := g
  have ec : cL (.cell i) C2 = some (i, r.map .int) := by simp only [cL, hC]
  refine ⟨n, i, _, rF r n, rfl, ec, by rw [List.getElem?_map, rF_getE hn]; rfl, w_mono g (fun v C3 g => ?_) fun _ _ z => z⟩
  obtain ⟨rfl, b, rfl, g⟩ := g
  refine ⟨b, _, _, rfl, ec, by rw [List.length_map]; exact hn, wr_hi hi, ?_⟩
  have e : (r.map D.int).set n (.int (rF r n + b)) = (upL r n b).map .int := by
    unfold upL
    rw [List.map_set]
  rw [e]
  exact g
theorem rep_z (h : N ≤ 60) (S : Store) : oRep true (.lst [.int 0]) (.int N) S = some (.cell S.length, S ++ [some (.lst ((List.replicate N (0 : Int)).map .int))]) := by
  have hz : szN (N * 1) = true := by
    simp [szN]
    omega
  have e : (List.replicate N [D.int 0]).flatten = (List.replicate N (0 : Int)).map .int := by
    rw [List.map_replicate]
    clear h hz
    induction N with
    | zero => rfl
    | succ n ih => rw [List.replicate_succ, List.replicate_succ, List.flatten_cons, ih]; rfl
  simp [oRep, vL, hz, mkL, e, szN]
  omega
theorem zip_ps (ps : List (Int × Int)) (s : List Int) : zipD (ps.map pD) (s.map .int) = (ps.zip s).map fun q => D.tup [pD q.1, .int q.2] := by
  unfold zipD
  rw [List.zip_map, List.map_map]
  rfl
theorem app_set {S : Store} {a b : Option Cell} : (S ++ [a]).set S.length b = S ++ [b] := by simp
theorem app_at {S : Store} {a : Option Cell} : (S ++ [a])[S.length]? = some a := by simp
theorem degrees_of_w {s : List Int} (hN : N ≤ 60) (hs : s.length = (pairsL N).length) (q : Q (tI (degP N (pairsL N) s)) C) : wR (m_degrees_of [.int N, tI s] C) Q X := by
  rw [e_degrees_of]
  apply w_fin
  unfold b_degrees_of b_degrees_of_0
  walk_at "p"
  refine wo_of (rep_z hN _) ?_
  walk_at "p"
  unfold b_degrees_of_1
  walk_at "p"
  refine w_zipX ?_
  walk_at "p"
  refine pairs_of_w hN ?_
  walk_at "p"
  refine ⟨_, _, _, _, rfl, rfl, rfl, ?_⟩
  rw [zip_ps]
  refine loopM (l := (pairsL N).zip s) (enc := fun q => D.tup [pD q.1, .int q.2]) (pure_C _) (fun j sl S => ∃ t3 t4 t5, S = C ++ [some (.lst (((((pairsL N).zip s).take j).foldl (addP N) (List.replicate N 0)).map .int))] ∧ sl = [some (.int N), some (tI s), some (.cell C.length), t3, t4, t5]) ⟨none, none, none, rfl, rfl⟩ ?_ ?_
  · rintro j p sl S hj ⟨t3, t4, t5, rfl, rfl⟩
    obtain ⟨⟨a', b'⟩, x⟩ := p
    have hm := (List.of_mem_zip (List.mem_of_getElem? hj)).1
    obtain ⟨u, v, uv, vN, e⟩ := pD_at hm
    cases e
    have rl : ((((pairsL N).zip s).take j).foldl (addP N) (List.replicate N 0)).length = N := foldP_len _ _ (by simp)
    have nx : (((pairsL N).zip s).take (j + 1)).foldl (addP N) (List.replicate N 0) = addP N ((((pairsL N).zip s).take j).foldl (addP N) (List.replicate N 0)) (((u : Int), (v : Int)), x) := by
      rw [take_s1 hj, List.foldl_append]
      rfl
    generalize (((pairsL N).zip s).take j).foldl (addP N) (List.replicate N 0) = r at rl nx
    refine ⟨[some (.int N), some (tI s), some (.cell C.length), some (.int u), some (.int v), some (.int x)], rfl, ?_⟩
    walk_at "w"
    unfold b_degrees_of_1b_0
    refine w_augI ?_
    walk_at "p"
    refine ⟨u, C.length, r, rfl, rfl, app_at, by omega, Nat.le_refl _, ?_⟩
    walk_at "p"
    refine ⟨rfl, x, rfl, ?_⟩
    rw [app_set]
    walk_at "p"
    unfold b_degrees_of_1b_1
    refine w_augI ?_
    walk_at "p"
    refine ⟨v, C.length, upL r u x, rfl, rfl, app_at, by rw [upL_len]; omega, Nat.le_refl _, ?_⟩
    walk_at "p"
    refine ⟨rfl, x, rfl, ?_⟩
    rw [app_set, upL_addP rl (by omega) vN (by omega), ← nx]
    exact lp_nx ⟨_, _, _, rfl, rfl⟩
  · rintro sl S ⟨t3, t4, t5, rfl, rfl⟩
    rw [List.take_length]
    walk_at "p"
    unfold b_degrees_of_2
    walk_at "p"
    refine wo_tupC app_at ?_
    refine fnl_p (cb_tI 0 _) ?_
    rw [take_app rfl]
    exact q
theorem app_put {S : Store} {d : Rd} {r : List Int} {v : D} (hf : fl ≤ S.length) (hz : d.length < 16777216) : sPut (fun _ _ => .ok v (S ++ [some (.dT (rdK d) (rdV d))])) (fun _ _ => .ok (.cell S.length) (S ++ [some (.dT (rdK d) (rdV d))])) (fun _ _ => .ok (tI r) (S ++ [some (.dT (rdK d) (rdV d))])) ⟨fl, sl⟩ (S ++ [some (.dT (rdK d) (rdV d))]) = .nx sl (S ++ [some (.dT (rdK (rp d r v)) (rdV (rp d r v)))]) := by
  rw [put_rc app_at hf hz, app_set]
end
/-! ### counts -/
def rI (d : Rd) (r : List Int) : Int := match rg d r with
  | some (.int n) => n
  | _ => 0
def cntS (d : Rd) (r : List Int) : Rd := rp d r (.int (rI d r + 1))
def cntD (l : List (List Int)) : Rd := l.foldl cntS []
def VInt (d : Rd) : Prop := ∀ x ∈ rdV d, ∃ n : Int, x = .int n
theorem cnt_snoc (l : List (List Int)) (r : List Int) : cntD (l ++ [r]) = cntS (cntD l) r := by
  unfold cntD
  rw [List.foldl_append]
  rfl
theorem cnt_int (l : List (List Int)) : VInt (cntD l) := by
  induction l using snoc_ind with
  | h0 => intro x hx; cases hx
  | h1 l r ih =>
    intro x hx
    rw [cnt_snoc] at hx
    rcases rp_vals x hx with h | h
    · exact ⟨_, h⟩
    · exact ih x h
theorem cnt_len (l : List (List Int)) : (cntD l).length ≤ l.length := by
  induction l using snoc_ind with
  | h0 => exact Nat.le_refl _
  | h1 l r ih =>
    rw [cnt_snoc, List.length_append]
    have := rp_len (cntD l) r (.int (rI (cntD l) r + 1))
    show (rp (cntD l) r (.int (rI (cntD l) r + 1))).length ≤ _
    simp
    omega
theorem cnt_mem {l : List (List Int)} {r : List Int} : r ∈ (cntD l).map (·.1) ↔ r ∈ l := by
  induction l using snoc_ind with
  | h0 => exact Iff.rfl
  | h1 l s ih =>
    rw [cnt_snoc]
    unfold cntS
    rw [rp_mem, ih, List.mem_append, List.mem_singleton]
    exact Or.comm
theorem get_int {d : Rd} (h : VInt d) (r : List Int) : (rg d r).getD (.int 0) = .int (rI d r) := by
  unfold rI
  cases e : rg d r with
  | none => rfl
  | some x =>
    obtain ⟨n, rfl⟩ := h x (rg_mem e)
    rfl
theorem cb_vint {d : Rd} (h : VInt d) (n : Nat) : cbL n (rdV d) = true := cbL_allM fun x hx => by
  obtain ⟨n, rfl⟩ := h x hx
  rfl
abbrev cdT (d : Rd) : D := .dT (rdK d) (rdV d)
abbrev cdT' (d : Rd) : Cell := .dT (rdK d) (rdV d)
section
variable {N : Nat} {C : Store} {Q : D → Store → Prop} {X : Exc → Store → Prop} {f : Int × Int → Int} {fl : Nat} {sl : List (Option D)} {P : RS → Prop}
theorem row_counts_w (h : N ≤ 5) (hf : FOk N f) (hl : Light (numsL N f)) (q : Q (cdT (cntD (rowsA N f))) C) : wR (m_row_counts [webD N f] C) Q X := by
  rw [e_row_counts]
  apply w_fin
  unfold b_row_counts b_row_counts_0
  walk_at "p"
  refine check_light_w h hf hl ?_
  walk_at "p"
  unfold b_row_counts_1
  walk_at "w"
  refine w_dnew ?_
  walk_at "p"
  unfold b_row_counts_2
  walk_at "p"
  refine all_numbers_w h hl ?_
  have cnt := hl.count
  refine ⟨_, rfl, ?_⟩
  refine loopM (l := allL (numsL N f)) (enc := tI) (pure_C _) (fun j sl S => ∃ t2 t3, S = C ++ [some (cdT' (cntD (((allL (numsL N f)).take j).map (degP N (pairsL N)))))] ∧ sl = [some (webD N f), some (.cell C.length), t2, t3]) ⟨none, none, rfl, rfl⟩ ?_ ?_
  · rintro j s sl S hj ⟨t2, t3, rfl, rfl⟩
    have sm := List.mem_of_getElem? hj
    have sl : s.length = (pairsL N).length := by
      rw [all_len s sm]
      unfold numsL
      rw [List.length_map]
    have nx : cntD (((allL (numsL N f)).take (j + 1)).map (degP N (pairsL N))) = cntS (cntD (((allL (numsL N f)).take j).map (degP N (pairsL N)))) (degP N (pairsL N) s) := by
      rw [← cnt_snoc, take_s1 hj, List.map_append]
      rfl
    have cl : (cntD (((allL (numsL N f)).take j).map (degP N (pairsL N)))).length ≤ 1024 := by
      have := cnt_len (((allL (numsL N f)).take j).map (degP N (pairsL N)))
      rw [List.length_map, List.length_take] at this
      omega
    have vi := cnt_int (((allL (numsL N f)).take j).map (degP N (pairsL N)))
    generalize cntD (((allL (numsL N f)).take j).map (degP N (pairsL N))) = d at cl vi nx
    refine ⟨[some (webD N f), some (.cell C.length), some (tI s), t3], rfl, ?_⟩
    walk_at "w"
    unfold b_row_counts_2b_0
    walk_at "p"
    refine wo_fld (d := .int N) rfl ?_
    walk_at "p"
    refine degrees_of_w (by omega) sl ?_
    walk_at "p"
    unfold b_row_counts_2b_1
    refine w_put ?_
    walk_at "p"
    refine ⟨by rw [vD_c app_at]; rfl, ?_⟩
    walk_at "p"
    refine wo_of (dget_rd (vD_c app_at)) ?_
    rw [get_int vi]
    walk_at "p"
    refine ⟨_, app_put (Nat.le_refl _) (by omega), ?_⟩
    exact lp_nx ⟨_, _, by rw [nx]; rfl, rfl⟩
  · rintro sl S ⟨t2, t3, rfl, rfl⟩
    rw [List.take_length]
    walk_at "p"
    unfold b_row_counts_3
    walk_at "p"
    refine fnl_rd (Nat.le_refl _) app_at (cb_vint (cnt_int _) _) ?_
    rw [take_app rfl]
    exact q
end
/-! WINS: xs.insert(i, v). -/
theorem w_insert {mo mi me : ME} {F : Fr} {C : Store} {Q : D → Store → Prop} {E : Exc → Store → Prop} (h : wR (mo F C) (fun o C1 => (vL o C1).isSome = true ∧ wR (mi F C1) (fun x C2 => wR (me F C2) (fun v C3 => ∃ (n : Nat) (i : Nat) (ds : List D), x = .int n ∧ cL o C3 = some (i, ds) ∧ F.fl ≤ i ∧ n ≤ 1000 ∧ ds.length < 16777216 ∧ Q .non (C3.set i (some (.lst (ds.take n ++ [v] ++ ds.drop n))))) E) E) E) : wR (mInsert mo mi me F C) Q E := by
  unfold mInsert
  refine w_bnd (w_mono h (fun o C1 g => ?_) fun _ _ z => z)
  rw [if_pos g.1]
  refine w_bnd (w_mono g.2 (fun x C2 g => w_bnd (w_mono g (fun v C3 g => ?_) fun _ _ z => z)) fun _ _ z => z)
  obtain ⟨n, i, ds, rfl, e, hi, hn, hz, q⟩ := g
  have hs : szN (ds.length + 1) = true := by simp only [szN, decide_eq_true_eq]; omega
  have c : szN (ds.length + 1) = true ∧ 0 ≤ (n : Int) ∧ (n : Int) < 2 ^ 63 := ⟨hs, by omega, by omega⟩
  have en : (n : Int).toNat = n := by omega
  simp only [e, c, and_self, if_true, en, wr_hi hi]
  exact w_ok q
/-! LSTa: one of a list, a list mixed, pairs, light webs: drawn. -/
theorem flat_snocP {N u : Nat} (hu : u < N) : ((List.range (u + 1)).flatMap fun u : Nat => (List.range (N - (u + 1))).map fun w : Nat => ((u : Int), ((u + 1 + w : Nat) : Int))) = ((List.range u).flatMap fun u : Nat => (List.range (N - (u + 1))).map fun w : Nat => ((u : Int), ((u + 1 + w : Nat) : Int))) ++ ((List.range (N - (u + 1))).map fun w : Nat => ((u : Int), ((u + 1 + w : Nat) : Int))) := by
  rw [List.range_succ, List.flatMap_append]
  simp
section
variable {N i : Nat} {C : Store} {Q : D → Store → Prop} {X : Exc → Store → Prop}
theorem take_L {n : Int} (hB : Bg i C) (hn : 0 < n) (hn2 : n < 4611686018427387904) (Y : Store) (h : ∀ r C', 0 ≤ r → r < n → To i C C' → Q (.int r) (C' ++ Y)) : wR (m_law_take [.cell i, .int n] (C ++ Y)) Q X := by
  obtain ⟨r, C', e, r0, r1, t⟩ := take_to hB hn hn2 Y
  exact w_of e (h r C' r0 r1 t)
/-- one of a list of plain data -/
theorem one_L {xs : List D} (hB : Bg i C) (ne : xs ≠ []) (hl : xs.length ≤ 1000000) (hc : cbL 0 xs = true) (Y : Store) (h : ∀ x C', x ∈ xs → To i C C' → Q x (C' ++ Y)) : wR (m_law_one [.cell i, .lst xs] (C ++ Y)) Q X := by
  have l0 : 0 < xs.length := List.length_pos_iff.mpr ne
  rw [e_law_one]
  apply w_fin
  unfold b_law_one
  walk_at "p"
  refine wo_of (show oLen [.lst xs] (C ++ Y) = some (.int xs.length, C ++ Y) from rfl) ?_
  walk_at "p"
  refine take_L hB (by omega) (by omega) Y fun r C' r0 r1 t => ?_
  walk_at "p"
  have hr : r.toNat < xs.length := by omega
  refine wo_ix (xs := xs) (k := r.toNat) rfl (by omega) (List.getElem?_eq_getElem hr) ?_
  have hm : xs[r.toNat] ∈ xs := List.getElem_mem hr
  have cb0 : cb 0 xs[r.toNat] = true := cb_of hc hm
  refine fnl_p cb0 ?_
  rw [show (C' ++ Y).take (C ++ Y).length = C' ++ Y from by rw [← (show (C' ++ Y).length = (C ++ Y).length by rw [List.length_append, List.length_append, t.len]), List.take_length]]
  exact h _ C' hm t
theorem ins_perm {α : Type} (l : List α) (n : Nat) (x : α) : (l.take n ++ [x] ++ l.drop n).Perm (l ++ [x]) := by
  have h1 : (l.take n ++ [x] ++ l.drop n).Perm (l.take n ++ (l.drop n ++ [x])) := by
    rw [List.append_assoc]
    exact List.Perm.append_left _ List.perm_append_comm
  rw [← List.append_assoc, List.take_append_drop] at h1
  exact h1
theorem mixed_L {α : Type} {l : List α} {enc : α → D} (hB : Bg i C) (hl : l.length ≤ 1000) (hc : ∀ a, cb 0 (enc a) = true) (h : ∀ (zs : List α) C', To i C C' → zs.Perm l → Q (.lst (zs.map enc)) C') : wR (m_law_mixed [.cell i, .lst (l.map enc)] C) Q X := by
  have il := hB.lt
  rw [e_law_mixed]
  apply w_fin
  unfold b_law_mixed b_law_mixed_0
  walk_at "p"
  unfold b_law_mixed_1
  walk_at "p"
  refine loopM (l := l) (enc := enc) (pure_C _) (fun j sl S => ∃ (C' : Store) (zs : List α) (t3 : Option D), S = C' ++ [some (.lst (zs.map enc))] ∧ To i C C' ∧ zs.Perm (l.take j) ∧ sl = [some (.cell i), some (.lst (l.map enc)), some (.cell C.length), t3]) ⟨C, [], none, rfl, To.refl hB, List.Perm.refl _, rfl⟩ ?_ ?_
  · rintro j a sl S hj ⟨C', zs, t3, rfl, t, pm, rfl⟩
    have zl : zs.length ≤ 1000 := by
      have := pm.length_eq
      rw [List.length_take] at this
      omega
    refine ⟨[some (.cell i), some (.lst (l.map enc)), some (.cell C.length), some (enc a)], rfl, ?_⟩
    unfold b_law_mixed_1b_0
    have at_n : ∀ Z : Store, Z.length = C.length → (Z ++ [some (Cell.lst (zs.map enc))])[C.length]? = some (some (.lst (zs.map enc))) := fun Z hZ => by rw [← hZ]; exact app_at
    walk_at "w"
    refine w_insert ?_
    walk_at "p"
    refine ⟨by simp only [vL, at_n C' t.len]; rfl, ?_⟩
    walk_at "p"
    refine wo_of (show oLen [.cell C.length] (C' ++ [some (Cell.lst (zs.map enc))]) = some (.int zs.length, C' ++ [some (Cell.lst (zs.map enc))]) from by simp [oLen, vS, at_n C' t.len]) ?_
    walk_at "p"
    refine take_L t.bg (by omega) (by omega) _ fun r C2 r0 r1 t2 => ?_
    have t3 := t.trans t2
    walk_at "p"
    refine ⟨r.toNat, C.length, zs.map enc, by rw [show ((r.toNat : Nat) : Int) = r by omega], by simp only [cL, at_n C2 t3.len], Nat.le_refl _, by omega, by rw [List.length_map]; omega, ?_⟩
    refine lp_nx ⟨C2, zs.take r.toNat ++ [a] ++ zs.drop r.toNat, _, ?_, t3, ?_, rfl⟩
    · rw [← t3.len, app_set, List.map_append, List.map_append, List.map_take, List.map_drop]
      rfl
    · refine (ins_perm zs _ a).trans ?_
      rw [take_s1 hj]
      exact pm.append_right _
  · rintro sl S ⟨C', zs, t3, rfl, t, pm, rfl⟩
    rw [List.take_length] at pm
    walk_at "p"
    unfold b_law_mixed_2
    walk_at "p"
    refine fnl_own (xs := zs.map enc) (Nat.le_refl _) (by rw [← t.len]; exact app_at) (cbL_allM fun d hd => by obtain ⟨a, _, rfl⟩ := List.mem_map.mp hd; exact cb_mono (Nat.zero_le _) (hc a)) ?_
    rw [take_app t.len]
    exact h zs C' t pm
theorem law_pairs_w (hN : N ≤ 60) (q : Q (.lst ((pairsL N).map pD)) C) : wR (m_law_pairs [.int N] C) Q X := by
  have pl := pairs_lenL (N := N)
  have nn : N * N ≤ 60 * 60 := Nat.mul_le_mul hN hN
  rw [e_law_pairs]
  apply w_fin
  unfold b_law_pairs b_law_pairs_0
  walk_at "p"
  unfold b_law_pairs_1
  walk_at "p"
  refine ⟨inR_of (by omega) (by omega), ?_⟩
  refine loopM (l := List.range N) (enc := fun k : Nat => .int (k : Int)) (pureR0 N) (fun j sl S => S = C ∧ ∃ t2 t3, sl = [some (.int N), some (.lst (((List.range j).flatMap fun u : Nat => (List.range (N - (u + 1))).map fun w : Nat => ((u : Int), ((u + 1 + w : Nat) : Int))).map pD)), t2, t3]) ⟨rfl, none, none, rfl⟩ ?_ ?_
  · rintro j u sl S hj ⟨rfl, t2, t3, rfl⟩
    have hu : u < N := List.mem_range.mp (List.mem_of_getElem? hj)
    have ju : j = u := by
      have := (List.getElem?_eq_some_iff.mp hj).2
      simpa using this
    subst ju
    refine ⟨_, rfl, ?_⟩
    unfold b_law_pairs_1b_0
    walk_at "p"
    refine ⟨_, _, rfl, rfl, inR_of (by omega) (by omega), inR_of (by omega) (by omega), ?_⟩
    have e : rngI ((j : Int) + 1) ((N : Int) - ((j : Int) + 1)).toNat = (List.range (N - (j + 1))).map fun w : Nat => D.int ((j + 1 + w : Nat) : Int) := by
      unfold rngI
      rw [show ((N : Int) - ((j : Int) + 1)).toNat = N - (j + 1) by omega]
      refine List.map_congr_left fun w _ => ?_
      show D.int ((j : Int) + 1 + (w : Int)) = D.int ((j + 1 + w : Nat) : Int)
      congr 1
    refine lcY (l := List.range (N - (j + 1))) (enc := fun w : Nat => .int ((j + 1 + w : Nat) : Int)) (e ▸ pure_R _ _) (fun w : Nat => pD ((j : Int), ((j + 1 + w : Nat) : Int))) (by simp; omega) (fun w hw => ⟨_, rfl, fun acc => ?_⟩) (fun w _ => rfl) ?_
    · walk_at "p"
      exact ⟨rfl, rfl⟩
    · walk_at "p"
      have fl : (((List.range j).flatMap fun u : Nat => (List.range (N - (u + 1))).map fun w : Nat => ((u : Int), ((u + 1 + w : Nat) : Int))).map pD).length ≤ 3600 := by
        have := fm_len (ys := fun u : Nat => (List.range (N - (u + 1))).map fun w : Nat => ((u : Int), ((u + 1 + w : Nat) : Int))) (l := List.range j) (m := 60) fun u _ => by simp; omega
        rw [List.length_map]
        rw [List.length_range] at this
        have : j * 60 ≤ 60 * 60 := Nat.mul_le_mul_right _ (by omega)
        omega
      refine wo_catF (by simp only [List.length_map, List.length_range] at fl ⊢; omega) ?_
      have e2 : (((List.range j).flatMap fun u : Nat => (List.range (N - (u + 1))).map fun w : Nat => ((u : Int), ((u + 1 + w : Nat) : Int))).map pD) ++ ((List.range (N - (j + 1))).map fun w : Nat => pD ((j : Int), ((j + 1 + w : Nat) : Int))) = ((List.range (j + 1)).flatMap fun u : Nat => (List.range (N - (u + 1))).map fun w : Nat => ((u : Int), ((u + 1 + w : Nat) : Int))).map pD := by
        rw [flat_snocP hu, List.map_append, List.map_map]
        rfl
      rw [e2]
      exact ⟨rfl, _, _, rfl⟩
  · rintro sl S ⟨rfl, t2, t3, rfl⟩
    walk_at "p"
    unfold b_law_pairs_2
    walk_at "p"
    have e : (((List.range (List.range N).length).flatMap fun u : Nat => (List.range (N - (u + 1))).map fun w : Nat => ((u : Int), ((u + 1 + w : Nat) : Int))).map pD) = (pairsL N).map pD := by
      rw [List.length_range]
      rfl
    rw [e]
    refine fnl_p (by simp only [cb]; exact cbL_allM fun d hd => by obtain ⟨p, _, rfl⟩ := List.mem_map.mp hd; rfl) ?_
    rw [List.take_length]
    exact q
end
/-! LSTc: the law's list of all numbers, rows, counts. -/
section
variable {N : Nat} {C : Store} {Q : D → Store → Prop} {X : Exc → Store → Prop}
theorem law_all_w {ns : List Int} (hl : Light ns) (hn : ns.length ≤ 1000) (q : Q (.lst ((allL ns).map tI)) C) : wR (m_law_all [tI ns] C) Q X := by
  rw [e_law_all]
  apply w_fin
  unfold b_law_all b_law_all_0
  walk_at "p"
  unfold b_law_all_1
  walk_at "p"
  refine ⟨_, rfl, ?_⟩
  refine loopM (l := ns) (enc := .int) (pure_C _) (fun j sl S => ∃ (Y : Store) (fi : Nat) (t2 t3 t4 : Option D), S = C ++ Y ∧ C.length ≤ fi ∧ S[fi]? = some (some (.lst ((allL (ns.take j)).map tI))) ∧ sl = [some (tI ns), some (.cell fi), t2, t3, t4, none]) ⟨[some (.lst ((allL []).map tI))], C.length, none, none, none, rfl, Nat.le_refl _, app_at, rfl⟩ ?_ ?_
  · rintro j n sl S hj ⟨Y, fi, t2, t3, t4, rfl, hfi, hS, rfl⟩
    have jl := (List.getElem?_eq_some_iff.mp hj).1
    have ln := hl.take (j + 1)
    rw [take_s1 hj] at ln
    obtain ⟨l0, n0, n1⟩ := ln.snoc
    have cnt := l0.count
    have cnt2 := ln.count
    have sl : ∀ s ∈ allL (ns.take j), s.length ≤ 1000 := fun s hs => by
      rw [all_len s hs, List.length_take]
      omega
    have nx : allL (ns.take (j + 1)) = allS (allL (ns.take j)) n := by rw [take_s1 hj, all_snoc]
    rw [all_snoc] at cnt2
    obtain ⟨T, hT⟩ : ∃ T, T = C ++ Y := ⟨_, rfl⟩
    rw [← hT] at hS ⊢
    have hTl : C.length ≤ T.length := by rw [hT]; simp
    have fiT : fi < T.length := (List.getElem?_eq_some_iff.mp hS).1
    generalize allL (ns.take j) = found at hS cnt cnt2 sl nx
    have part : ∀ i, (allS (found.take i) n).length ≤ 1024 := fun i => by
      have e : allS found n = allS (found.take i) n ++ allS (found.drop i) n := by
        unfold allS
        rw [← List.flatMap_append, List.take_append_drop]
      rw [e, List.length_append] at cnt2
      omega
    refine ⟨_, rfl, ?_⟩
    walk_at "p"
    unfold b_law_all_1b_0
    walk_at "p"
    unfold b_law_all_1b_1
    walk_at "p"
    have old : ∀ xs : List D, (T ++ [some (Cell.lst xs)])[fi]? = some (some (.lst (found.map tI))) := fun xs => by
      rw [List.getElem?_append_left fiT]
      exact hS
    refine w_itC (old _) ?_
    rw [List.length_map]
    refine loopMo (l := found) (enc := tI) (S := fun S => S[fi]? = some (some (.lst (found.map tI)))) (by have := on_cell (i := fi) (xs := found.map tI); rw [List.length_map] at this; exact this) (fun i sl S => ∃ (t4 : Option D), S = T ++ [some (.lst ((allS (found.take i) n).map tI))] ∧ sl = [some (tI ns), some (.cell fi), some (.int n), some (.cell T.length), t4, none]) (fun i sl S ⟨_, e, _⟩ => e ▸ old _) ⟨t4, rfl, rfl⟩ ?_ ?_
    · rintro i s sl S hi ⟨t4, rfl, rfl⟩
      have sm := sl s (List.mem_of_getElem? hi)
      have nxi : allS (found.take (i + 1)) n = allS (found.take i) n ++ (List.range (n + 1).toNat).map fun x : Nat => s ++ [(x : Int)] := by
        rw [take_s1 hi]
        unfold allS
        rw [List.flatMap_append]
        simp
      have pi := part i
      have pi2 := part (i + 1)
      rw [nxi, List.length_append, List.length_map, List.length_range] at pi2
      refine ⟨[some (tI ns), some (.cell fi), some (.int n), some (.cell T.length), some (tI s), none], rfl, ?_⟩
      unfold b_law_all_1b_1b_0
      walk_at "w"
      refine w_extend ?_
      walk_at "p"
      refine ⟨by simp only [vL, app_at]; rfl, ?_⟩
      walk_at "p"
      refine ⟨inR_of (by omega) (by omega), ?_⟩
      refine lcY (l := List.range (n + 1).toNat) (enc := fun k : Nat => .int (k : Int)) (pureR0 _) (fun x : Nat => tI (s ++ [(x : Int)])) (by simp; omega) (fun x hx => ⟨_, rfl, fun acc => ?_⟩) (fun x _ => cb_tI _ _) ?_
      · walk_at "p"
        refine wo_of (cat_t _ _ (by simp; omega)) ?_
        exact ⟨tI_snoc s _, rfl⟩
      · refine ⟨T.length, (allS (found.take i) n).map tI, (List.range (n + 1).toNat).map (fun x : Nat => tI (s ++ [(x : Int)])), by simp only [cL, app_at], rfl, hTl, by simp only [List.length_map, List.length_range]; omega, ?_⟩
        refine lp_nx ⟨_, ?_, rfl⟩
        rw [app_set, nxi, List.map_append, List.map_map]
        rfl
    · rintro sl S ⟨t4, rfl, rfl⟩
      rw [List.take_length, ← nx]
      walk_at "p"
      unfold b_law_all_1b_2
      walk_at "p"
      exact ⟨Y ++ [some (.lst ((allL (ns.take (j + 1))).map tI))], T.length, _, _, _, by rw [hT, List.append_assoc], hTl, app_at, rfl⟩
  · rintro sl S ⟨Y, fi, t2, t3, t4, rfl, hfi, hS, rfl⟩
    rw [List.take_length] at hS
    walk_at "p"
    unfold b_law_all_2
    walk_at "p"
    refine fnl_own hfi hS (cb_tIs _ _) ?_
    rw [take_app rfl]
    exact q
theorem pure_Z {α : Type} {l : List α} {enc : α → D} : PureIt (prI (itC (l.map enc))) (((List.range l.length).zip l).map fun p => D.tup [.int (p.1 : Nat), enc p.2]) := by
  have h := pure_P (pure_C (l.map enc))
  rw [List.length_map, List.zip_map_right, List.map_map] at h
  exact h
theorem law_row_of_w {s : List Int} (hN : N ≤ 60) (hs : s.length = (pairsL N).length) (q : Q (tI (degP N (pairsL N) s)) C) : wR (m_law_row_of [.lst ((pairsL N).map pD), .int N, tI s] C) Q X := by
  rw [e_law_row_of]
  apply w_fin
  unfold b_law_row_of b_law_row_of_0
  walk_at "p"
  refine wo_of (rep_z hN _) ?_
  walk_at "p"
  unfold b_law_row_of_1
  walk_at "p"
  refine loopM (l := (List.range (pairsL N).length).zip (pairsL N)) (enc := fun p => D.tup [.int (p.1 : Nat), pD p.2]) pure_Z (fun j sl S => ∃ t4 t5, S = C ++ [some (.lst (((((pairsL N).zip s).take j).foldl (addP N) (List.replicate N 0)).map .int))] ∧ sl = [some (.lst ((pairsL N).map pD)), some (.int N), some (tI s), some (.cell C.length), t4, t5]) ⟨none, none, rfl, rfl⟩ ?_ ?_
  · rintro j p sl S hj ⟨t4, t5, rfl, rfl⟩
    obtain ⟨k, p⟩ := p
    obtain ⟨hk, hp⟩ := List.getElem?_zip_eq_some.mp hj
    have kj : j = k := by
      have := (List.getElem?_eq_some_iff.mp hk).2
      simpa using this
    subst kj
    have jl := (List.getElem?_eq_some_iff.mp hp).1
    obtain ⟨u, v, uv, vN, e⟩ := pD_at (List.mem_of_getElem? hp)
    cases e
    have js : j < s.length := by omega
    have hz : ((pairsL N).zip s)[j]? = some (((u : Int), (v : Int)), rF s j) := List.getElem?_zip_eq_some.mpr ⟨hp, rF_getE js⟩
    have rl : ((((pairsL N).zip s).take j).foldl (addP N) (List.replicate N 0)).length = N := foldP_len _ _ (by simp)
    have nx : (((pairsL N).zip s).take (j + 1)).foldl (addP N) (List.replicate N 0) = addP N ((((pairsL N).zip s).take j).foldl (addP N) (List.replicate N 0)) (((u : Int), (v : Int)), rF s j) := by
      rw [take_s1 hz, List.foldl_append]
      rfl
    generalize (((pairsL N).zip s).take j).foldl (addP N) (List.replicate N 0) = r at rl nx
    have six : (s.map D.int)[j]? = some (.int (rF s j)) := by rw [List.getElem?_map, rF_getE js]; rfl
    refine ⟨[some (.lst ((pairsL N).map pD)), some (.int N), some (tI s), some (.cell C.length), some (.int j), some (pD ((u : Int), (v : Int)))], rfl, ?_⟩
    walk_at "w"
    unfold b_law_row_of_1b_0
    refine w_augI ?_
    walk_at "p"
    refine wo_ix (xs := [.int u, .int v]) (k := 0) rfl rfl rfl ?_
    refine ⟨u, C.length, r, rfl, rfl, app_at, by omega, Nat.le_refl _, ?_⟩
    walk_at "p"
    refine wo_ix (xs := s.map .int) (k := j) rfl rfl six ?_
    refine ⟨rfl, _, rfl, ?_⟩
    rw [app_set]
    walk_at "p"
    unfold b_law_row_of_1b_1
    refine w_augI ?_
    walk_at "p"
    refine wo_ix (xs := [.int u, .int v]) (k := 1) rfl rfl rfl ?_
    refine ⟨v, C.length, upL r u (rF s j), rfl, rfl, app_at, by rw [upL_len]; omega, Nat.le_refl _, ?_⟩
    walk_at "p"
    refine wo_ix (xs := s.map .int) (k := j) rfl rfl six ?_
    refine ⟨rfl, _, rfl, ?_⟩
    rw [app_set, upL_addP rl (by omega) vN (by omega), ← nx]
    exact lp_nx ⟨_, _, rfl, rfl⟩
  · rintro sl S ⟨t4, t5, rfl, rfl⟩
    have zl : ((List.range (pairsL N).length).zip (pairsL N)).length = ((pairsL N).zip s).length := by
      rw [List.length_zip, List.length_zip, List.length_range]
      omega
    rw [zl, List.take_length]
    walk_at "p"
    unfold b_law_row_of_2
    walk_at "p"
    refine wo_tupC app_at ?_
    refine fnl_p (cb_tI 0 _) ?_
    rw [take_app rfl]
    exact q
theorem law_counts_w {f : Int × Int → Int} (hN : N ≤ 5) (hl : Light (numsL N f)) (q : Q (cdT (cntD (rowsA N f))) C) : wR (m_law_counts [.int N, tI (numsL N f)] C) Q X := by
  have pl := pairs_lenL (N := N)
  have nn : N * N ≤ 5 * 5 := Nat.mul_le_mul hN hN
  rw [e_law_counts]
  apply w_fin
  unfold b_law_counts b_law_counts_0
  walk_at "p"
  refine law_pairs_w (by omega) ?_
  walk_at "p"
  refine ⟨_, rfl, ?_⟩
  walk_at "p"
  unfold b_law_counts_1
  walk_at "p"
  refine law_all_w hl (by unfold numsL; rw [List.length_map]; omega) ?_
  have cnt := hl.count
  refine ⟨_, rfl, ?_⟩
  refine loopM (l := allL (numsL N f)) (enc := tI) (pure_C _) (fun j sl S => ∃ t4 t5, S = C ++ [some (cdT' (cntD (((allL (numsL N f)).take j).map (degP N (pairsL N)))))] ∧ sl = [some (.int N), some (tI (numsL N f)), some (.lst ((pairsL N).map pD)), some (.cell C.length), t4, t5]) ⟨none, none, rfl, rfl⟩ ?_ ?_
  · rintro j s sl S hj ⟨t4, t5, rfl, rfl⟩
    have sm := List.mem_of_getElem? hj
    have sl : s.length = (pairsL N).length := by
      rw [all_len s sm]
      unfold numsL
      rw [List.length_map]
    have nx : cntD (((allL (numsL N f)).take (j + 1)).map (degP N (pairsL N))) = cntS (cntD (((allL (numsL N f)).take j).map (degP N (pairsL N)))) (degP N (pairsL N) s) := by
      rw [← cnt_snoc, take_s1 hj, List.map_append]
      rfl
    have cl : (cntD (((allL (numsL N f)).take j).map (degP N (pairsL N)))).length ≤ 1024 := by
      have := cnt_len (((allL (numsL N f)).take j).map (degP N (pairsL N)))
      rw [List.length_map, List.length_take] at this
      omega
    have vi := cnt_int (((allL (numsL N f)).take j).map (degP N (pairsL N)))
    generalize cntD (((allL (numsL N f)).take j).map (degP N (pairsL N))) = d at cl vi nx
    refine ⟨_, rfl, ?_⟩
    walk_at "w"
    unfold b_law_counts_1b_0
    walk_at "p"
    refine law_row_of_w (by omega) sl ?_
    walk_at "p"
    unfold b_law_counts_1b_1
    refine w_put ?_
    walk_at "p"
    refine ⟨by rw [vD_c app_at]; rfl, ?_⟩
    walk_at "p"
    refine wo_of (dget_rd (vD_c app_at)) ?_
    rw [get_int vi]
    walk_at "p"
    refine ⟨_, app_put (Nat.le_refl _) (by omega), ?_⟩
    exact lp_nx ⟨_, _, by rw [nx]; rfl, rfl⟩
  · rintro sl S ⟨t4, t5, rfl, rfl⟩
    rw [List.take_length]
    walk_at "p"
    unfold b_law_counts_2
    walk_at "p"
    refine fnl_rd (Nat.le_refl _) app_at (cb_vint (cnt_int _) _) ?_
    rw [take_app rfl]
    exact q
end
/-! LSTm: rows moved by steps, steps towards a row: walked. -/
abbrev Sp := Nat × Int
def spD (s : Sp) : D := .tup [.int s.1, .int s.2]
def mvL (r : List Int) (ss : List Sp) : List Int := ss.foldl (fun r s => upL r s.1 s.2) r
def sgn (x y : Int) : Int := if x < y then 1 else -1
/-- the steps from one row towards another -/
def twL (r q : List Int) : List Sp := ((List.range r.length).filter fun v => !decide (rF r v = rF q v)).map fun v => (v, sgn (rF r v) (rF q v))
theorem mv_len : ∀ (ss : List Sp) (r : List Int), (mvL r ss).length = r.length
  | [], _ => rfl
  | s :: ss, r => (mv_len ss (upL r s.1 s.2)).trans (upL_len _ _ _)
theorem mem_tw {r q : List Int} {s : Sp} : s ∈ twL r q ↔ s.1 < r.length ∧ FF.Tw s.2 (rF r s.1) (rF q s.1) := by
  unfold twL
  rw [List.mem_map]
  constructor
  · rintro ⟨v, hv, rfl⟩
    obtain ⟨h1, h2⟩ := List.mem_filter.mp hv
    have h1 := List.mem_range.mp h1
    simp only [Bool.not_eq_true', decide_eq_false_iff_not] at h2
    refine ⟨h1, ?_⟩
    show FF.Tw (sgn (rF r v) (rF q v)) (rF r v) (rF q v)
    unfold sgn FF.Tw
    split <;> omega
  · rintro ⟨h1, h2⟩
    obtain ⟨v, x⟩ := s
    refine ⟨v, List.mem_filter.mpr ⟨List.mem_range.mpr h1, ?_⟩, ?_⟩
    · simp only [Bool.not_eq_true', decide_eq_false_iff_not]
      unfold FF.Tw at h2
      simp only at h2
      omega
    · unfold FF.Tw at h2
      unfold sgn
      simp only at h2 ⊢
      congr 1
      split <;> omega
section
variable {C : Store} {Q : D → Store → Prop} {X : Exc → Store → Prop}
theorem list_c {r : List Int} {S : Store} : oListOf true [tI r] S = some (.cell S.length, S ++ [some (.lst (r.map .int))]) := rfl
theorem moved_by_w {r : List Int} {ss : List Sp} (hs : ∀ s ∈ ss, s.1 < r.length) (q : Q (tI (mvL r ss)) C) : wR (m_moved_by [tI r, .lst (ss.map spD)] C) Q X := by
  rw [e_moved_by]
  apply w_fin
  unfold b_moved_by b_moved_by_0
  walk_at "p"
  refine wo_of list_c ?_
  walk_at "p"
  unfold b_moved_by_1
  walk_at "p"
  refine loopM (l := ss) (enc := spD) (pure_C _) (fun j sl S => ∃ t3 t4, S = C ++ [some (.lst ((mvL r (ss.take j)).map .int))] ∧ sl = [some (tI r), some (.lst (ss.map spD)), some (.cell C.length), t3, t4]) ⟨none, none, rfl, rfl⟩ ?_ ?_
  · rintro j s sl S hj ⟨t3, t4, rfl, rfl⟩
    have hm := hs s (List.mem_of_getElem? hj)
    have ml := mv_len (ss.take j) r
    have nx : mvL r (ss.take (j + 1)) = upL (mvL r (ss.take j)) s.1 s.2 := by
      unfold mvL
      rw [take_s1 hj, List.foldl_append]
      rfl
    generalize mvL r (ss.take j) = z at ml nx
    refine ⟨[some (tI r), some (.lst (ss.map spD)), some (.cell C.length), some (.int s.1), some (.int s.2)], rfl, ?_⟩
    unfold b_moved_by_1b_0
    refine w_augI ?_
    walk_at "p"
    refine ⟨s.1, C.length, z, rfl, rfl, app_at, by omega, Nat.le_refl _, ?_⟩
    walk_at "p"
    refine ⟨rfl, s.2, rfl, ?_⟩
    rw [app_set, ← nx]
    exact lp_nx ⟨_, _, rfl, rfl⟩
  · rintro sl S ⟨t3, t4, rfl, rfl⟩
    rw [List.take_length]
    walk_at "p"
    unfold b_moved_by_2
    walk_at "p"
    refine wo_tupC app_at ?_
    refine fnl_p (cb_tI 0 _) ?_
    rw [take_app rfl]
    exact q
theorem opposite_w (s : Sp) (q : Q (spD (s.1, -s.2)) C) : wR (m_opposite [spD s] C) Q X := by
  rw [e_opposite]
  apply w_fin
  unfold b_opposite
  walk_at "p"
  refine wo_ix (xs := [.int s.1, .int s.2]) (k := 0) rfl rfl rfl ?_
  walk_at "p"
  refine wo_ix (xs := [.int s.1, .int s.2]) (k := 1) rfl rfl rfl ?_
  walk_at "p"
  refine fnl_p rfl ?_
  rw [List.take_length]
  exact q
theorem cb_sp (n : Nat) (l : List Sp) : cbL n (l.map spD) = true := cbL_allM fun d hd => by
  obtain ⟨t, _, rfl⟩ := List.mem_map.mp hd
  rfl
def twJ (r q : List Int) (j : Nat) : List Sp := ((List.range j).filter fun v => !decide (rF r v = rF q v)).map fun v => (v, sgn (rF r v) (rF q v))
theorem twJ_eq {r q : List Int} {j : Nat} (h : rF r j = rF q j) : twJ r q (j + 1) = twJ r q j := by
  unfold twJ
  rw [List.range_succ, List.filter_append]
  simp [h]
theorem twJ_ne {r q : List Int} {j : Nat} (h : ¬ rF r j = rF q j) : twJ r q (j + 1) = twJ r q j ++ [(j, sgn (rF r j) (rF q j))] := by
  unfold twJ
  rw [List.range_succ, List.filter_append]
  simp [h]
theorem twJ_len (r q : List Int) (j : Nat) : (twJ r q j).length ≤ j := by
  unfold twJ
  have := List.length_filter_le (fun v => !decide (rF r v = rF q v)) (List.range j)
  rw [List.length_range] at this
  rw [List.length_map]
  exact this
theorem steps_towards_w {r q' : List Int} (hl : r.length = q'.length) (h60 : r.length ≤ 1000) (q : Q (.lst ((twL r q').map spD)) C) : wR (m_steps_towards [tI r, tI q'] C) Q X := by
  rw [e_steps_towards]
  apply w_fin
  unfold b_steps_towards b_steps_towards_0
  walk_at "p"
  unfold b_steps_towards_1
  walk_at "p"
  refine ⟨_, rfl, ?_⟩
  refine loopM (l := (List.range r.length).zip r) (enc := fun p => D.tup [.int (p.1 : Nat), .int p.2]) pure_Z (fun j sl S => ∃ t3 t4, S = C ++ [some (.lst ((twJ r q' j).map spD))] ∧ sl = [some (tI r), some (tI q'), some (.cell C.length), t3, t4]) ⟨none, none, rfl, rfl⟩ ?_ ?_
  · rintro j p sl S hj ⟨t3, t4, rfl, rfl⟩
    obtain ⟨k, x⟩ := p
    obtain ⟨hk, hp⟩ := List.getElem?_zip_eq_some.mp hj
    have kj : j = k := by
      have := (List.getElem?_eq_some_iff.mp hk).2
      simpa using this
    subst kj
    have jl := (List.getElem?_eq_some_iff.mp hp).1
    have xe : x = rF r j := by
      have := rF_getE jl
      rw [hp] at this
      exact Option.some.inj this
    subst xe
    have jq : j < q'.length := by omega
    have qix : (q'.map D.int)[j]? = some (.int (rF q' j)) := by rw [List.getElem?_map, rF_getE jq]; rfl
    have tl := twJ_len r q' j
    refine ⟨[some (tI r), some (tI q'), some (.cell C.length), some (.int j), some (.int (rF r j))], rfl, ?_⟩
    unfold b_steps_towards_1b_0
    walk_at "p"
    refine wo_ix (xs := q'.map .int) (k := j) rfl rfl qix ?_
    walk_at "p"
    refine wI_d (fun eq => ?_) fun ne => ?_
    · walk_at "p"
      exact ⟨_, _, by rw [twJ_eq eq], rfl⟩
    · have fin : ∀ z : Int, z = sgn (rF r j) (rF q' j) → lpP (fun j sl S => ∃ t3 t4, S = C ++ [some (.lst ((twJ r q' j).map spD))] ∧ sl = [some (tI r), some (tI q'), some (.cell C.length), t3, t4]) (j + 1) (CT.thn b_steps_towards_2 C.length (fnl C.length Q X)) (.nx [some (tI r), some (tI q'), some (.cell C.length), some (.int j), some (.int (rF r j))] ((C ++ [some (Cell.lst ((twJ r q' j).map spD))]).set C.length (some (.lst ((twJ r q' j).map spD ++ [.tup [.int j, .int z]]))))) := fun z hz => by
        rw [app_set]
        refine lp_nx ⟨_, _, ?_, rfl⟩
        rw [twJ_ne ne, List.map_append, hz]
        rfl
      walk_at "p"
      refine w_append ?_
      walk_at "p"
      refine ⟨by simp only [vL, app_at]; rfl, ?_⟩
      walk_at "p"
      refine wo_ix (xs := q'.map .int) (k := j) rfl rfl qix ?_
      walk_at "p"
      refine wI_d (fun lt => ?_) fun nl => ?_
      · walk_at "p"
        refine ⟨C.length, (twJ r q' j).map spD, by simp only [cL, app_at], Nat.le_refl _, by rw [List.length_map]; omega, ?_⟩
        walk_at "p"
        exact fin 1 (by unfold sgn; rw [if_pos lt])
      · walk_at "p"
        refine ⟨C.length, (twJ r q' j).map spD, by simp only [cL, app_at], Nat.le_refl _, by rw [List.length_map]; omega, ?_⟩
        walk_at "p"
        exact fin (-1) (by unfold sgn; rw [if_neg nl])
  · rintro sl S ⟨t3, t4, rfl, rfl⟩
    have zl : ((List.range r.length).zip r).length = r.length := by
      rw [List.length_zip, List.length_range]
      omega
    rw [zl]
    walk_at "p"
    unfold b_steps_towards_2
    walk_at "p"
    refine fnl_own (xs := (twJ r q' r.length).map spD) (Nat.le_refl _) app_at (cb_sp _ _) ?_
    rw [take_app rfl]
    exact q
end
/-! LSTs: second steps: walked. -/
/-- the second steps by which both rows are among these again -/
def secB (R : List (List Int)) (a b : List Int) (t : Sp) : Bool := decide (upL a t.1 t.2 ∈ R) && decide (upL b t.1 (-t.2) ∈ R)
def secL (R : List (List Int)) (one other : List Int) (s : Sp) : List Sp := (twL (upL one s.1 s.2) other).filter (secB R (upL one s.1 s.2) (upL other s.1 (-s.2)))
section
variable {N : Nat} {C : Store} {Q : D → Store → Prop} {X : Exc → Store → Prop} {f : Int × Int → Int}
theorem moved1_w {r : List Int} {s : Sp} (hs : s.1 < r.length) (q : Q (tI (upL r s.1 s.2)) C) : wR (m_moved_by [tI r, .lst [spD s]] C) Q X :=
  moved_by_w (ss := [s]) (by simpa using hs) q
theorem tw_len (r q : List Int) : (twL r q).length ≤ r.length := twJ_len r q r.length
theorem second_w {one other : List Int} {s : Sp} (h : N ≤ 5) (hf : FOk N f) (hl : Light (numsL N f)) (l1 : one.length = N) (l2 : other.length = N) (hs : s.1 < N) (q : Q (.cell C.length) (C ++ [some (.lst ((secL (rowsA N f) one other s).map spD))])) : wR (m_second_steps [webD N f, tI one, tI other, spD s] C) Q X := by
  rw [e_second_steps]
  apply w_finO
  unfold b_second_steps b_second_steps_0
  walk_at "p"
  refine row_counts_w h hf hl ?_
  walk_at "p"
  unfold b_second_steps_1
  walk_at "p"
  refine moved1_w (by omega) ?_
  walk_at "p"
  refine opposite_w s ?_
  walk_at "p"
  refine moved1_w (s := (s.1, -s.2)) (by simp only; omega) ?_
  walk_at "p"
  refine ⟨_, rfl, ?_⟩
  walk_at "p"
  unfold b_second_steps_2
  walk_at "p"
  unfold b_second_steps_3
  walk_at "p"
  have fl : (upL one s.1 s.2).length = N := by rw [upL_len]; exact l1
  have bl : (upL other s.1 (-s.2)).length = N := by rw [upL_len]; exact l2
  refine steps_towards_w (by omega) (by omega) ?_
  walk_at "p"
  have tl := tw_len (upL one s.1 s.2) other
  refine loopM (l := twL (upL one s.1 s.2) other) (enc := spD) (pure_C _) (fun j sl S => ∃ t8, S = C ++ [some (.lst ((((twL (upL one s.1 s.2) other).take j).filter (secB (rowsA N f) (upL one s.1 s.2) (upL other s.1 (-s.2)))).map spD))] ∧ sl = [some (webD N f), some (tI one), some (tI other), some (spD s), some (cdT (cntD (rowsA N f))), some (tI (upL one s.1 s.2)), some (tI (upL other s.1 (-s.2))), some (.cell C.length), t8]) ⟨none, rfl, rfl⟩ ?_ ?_
  · rintro j t sl S hj ⟨t8, rfl, rfl⟩
    have tm := (mem_tw.mp (List.mem_of_getElem? hj)).1
    have kl : (((twL (upL one s.1 s.2) other).take j).filter (secB (rowsA N f) (upL one s.1 s.2) (upL other s.1 (-s.2)))).length ≤ 5 := by
      have a := List.length_filter_le (secB (rowsA N f) (upL one s.1 s.2) (upL other s.1 (-s.2))) ((twL (upL one s.1 s.2) other).take j)
      rw [List.length_take] at a
      omega
    have nx : ((twL (upL one s.1 s.2) other).take (j + 1)).filter (secB (rowsA N f) (upL one s.1 s.2) (upL other s.1 (-s.2))) = ((twL (upL one s.1 s.2) other).take j).filter (secB (rowsA N f) (upL one s.1 s.2) (upL other s.1 (-s.2))) ++ if secB (rowsA N f) (upL one s.1 s.2) (upL other s.1 (-s.2)) t = true then [t] else [] := by
      rw [take_s1 hj, List.filter_append]
      cases e : secB (rowsA N f) (upL one s.1 s.2) (upL other s.1 (-s.2)) t <;> simp [e]
    generalize ((twL (upL one s.1 s.2) other).take j).filter (secB (rowsA N f) (upL one s.1 s.2) (upL other s.1 (-s.2))) = acc at kl nx
    refine ⟨_, rfl, ?_⟩
    unfold b_second_steps_3b_0
    walk_at "p"
    refine moved1_w (by omega) ?_
    walk_at "p"
    refine wo_of (din_rd (d := cntD (rowsA N f)) rfl false) ?_
    refine ⟨_, rfl, ?_⟩
    rw [if_neg (by decide)]
    refine wI_d (fun m1 => ?_) fun m1 => ?_
    · have m1 := cnt_mem.mp m1
      walk_at "p"
      refine opposite_w t ?_
      walk_at "p"
      refine moved1_w (s := (t.1, -t.2)) (by simp only; omega) ?_
      walk_at "p"
      refine wo_of (din_rd (d := cntD (rowsA N f)) rfl false) ?_
      refine ⟨_, rfl, ?_⟩
      rw [if_neg (by decide)]
      refine wI_d (fun m2 => ?_) fun m2 => ?_
      · have m2 := cnt_mem.mp m2
        have e : secB (rowsA N f) (upL one s.1 s.2) (upL other s.1 (-s.2)) t = true := by
          unfold secB
          rw [decide_eq_true m1, decide_eq_true m2]
          rfl
        rw [e, if_pos rfl] at nx
        walk_at "p"
        refine w_append ?_
        walk_at "p"
        refine ⟨by simp only [vL, app_at]; rfl, ?_⟩
        walk_at "p"
        refine ⟨C.length, acc.map spD, by simp only [cL, app_at], Nat.le_refl _, by rw [List.length_map]; omega, ?_⟩
        refine lp_nx ⟨_, ?_, rfl⟩
        rw [app_set, nx, List.map_append]
        rfl
      · have m2 : upL (upL other s.1 (-s.2)) t.1 (-t.2) ∉ rowsA N f := fun z => m2 (cnt_mem.mpr z)
        have e : secB (rowsA N f) (upL one s.1 s.2) (upL other s.1 (-s.2)) t = false := by
          unfold secB
          rw [decide_eq_false m2, Bool.and_false]
        rw [e, if_neg (by decide), List.append_nil] at nx
        walk_at "p"
        exact ⟨_, by rw [nx], rfl⟩
    · have m1 : upL (upL one s.1 s.2) t.1 t.2 ∉ rowsA N f := fun z => m1 (cnt_mem.mpr z)
      have e : secB (rowsA N f) (upL one s.1 s.2) (upL other s.1 (-s.2)) t = false := by
        unfold secB
        rw [decide_eq_false m1, Bool.false_and]
      rw [e, if_neg (by decide), List.append_nil] at nx
      walk_at "p"
      exact ⟨_, by rw [nx], rfl⟩
  · rintro sl S ⟨t8, rfl, rfl⟩
    rw [List.take_length]
    walk_at "p"
    unfold b_second_steps_4
    walk_at "p"
    refine fnlO_own (Nat.le_refl _) app_at (cb_sp _ _) ?_
    rw [take_app rfl]
    exact q
/-- there is always one -/
theorem sec_ne (hf : FOk N f) {one other : List Int} {s : Sp} (h1 : one ∈ rowsA N f) (h2 : other ∈ rowsA N f) (hs : s ∈ twL one other) : secL (rowsA N f) one other s ≠ [] := by
  obtain ⟨l1, g1⟩ := (mem_rowsA hf).mp h1
  obtain ⟨l2, g2⟩ := (mem_rowsA hf).mp h2
  obtain ⟨s1, s2⟩ := mem_tw.mp hs
  have s1 : s.1 < N := by omega
  obtain ⟨y, t, hy, ty, k1, k2⟩ := FF.exch (grO_ok hf) g1 g2 s1 s2
  have m : (y, t) ∈ secL (rowsA N f) one other s := by
    unfold secL
    refine List.mem_filter.mpr ⟨mem_tw.mpr ⟨by rw [upL_len]; simp only; omega, ?_⟩, ?_⟩
    · rw [rF_up (by omega)]
      exact ty
    · unfold secB
      rw [Bool.and_eq_true, decide_eq_true_eq, decide_eq_true_eq]
      exact ⟨(mem_rowsA hf).mpr ((gd_up l1 s1 hy).mpr k1), (mem_rowsA hf).mpr ((gd_up l2 s1 hy).mpr k2)⟩
  intro z
  rw [z] at m
  cases m
end
/-! BR2: tables of displeasure; best rows moved towards each other stay best (plain law). -/
/-- a convex table -/
def Cvx (t : List Int) : Prop := ∀ i, i + 2 < t.length → 2 * rF t (i + 1) ≤ rF t i + rF t (i + 2)
def cst (T : List (List Int)) (r : List Int) : Int := ((T.zip r).map fun p => rF p.1 p.2.toNat).sum
/-- tables that fit a web -/
structure Tabs (N : Nat) (f : Int × Int → Int) (T : List (List Int)) : Prop where
  len : T.length = N
  cvx : ∀ v, v < N → Cvx (T.getD v [])
  big : ∀ v, v < N → ((T.getD v []).length : Int) = FF.dgr N (grO f) v + 1
/-- the rows of least displeasure -/
def bestL (T : List (List Int)) (R : List (List Int)) (m : Int) : List (List Int) := R.filter fun r => decide (cst T r = m)
section
variable {N : Nat} {f : Int × Int → Int} {t : List Int} {T : List (List Int)}
theorem cvx_mono (h : Cvx t) : ∀ (k i : Nat), i + k + 1 < t.length → rF t (i + 1) - rF t i ≤ rF t (i + k + 1) - rF t (i + k)
  | 0, i, _ => Int.le_refl _
  | k + 1, i, hl => by
    have a := cvx_mono h k i (by omega)
    have b := h (i + k) (by omega)
    rw [show i + (k + 1) = i + k + 1 by omega]
    have e : i + k + 2 = i + k + 1 + 1 := rfl
    rw [e] at b
    omega
theorem cvx_d (h : Cvx t) {a m : Nat} (hb : a + m < t.length) : ∀ d, 2 * d ≤ m → rF t (a + d) + rF t (a + m - d) ≤ rF t a + rF t (a + m)
  | 0, _ => Int.le_refl _
  | d + 1, hd => by
    have ih := cvx_d h hb d (by omega)
    have b := cvx_mono h (m - 2 * d - 1) (a + d) (by omega)
    rw [show a + d + (m - 2 * d - 1) + 1 = a + m - d by omega, show a + d + (m - 2 * d - 1) = a + m - (d + 1) by omega] at b
    rw [show a + (d + 1) = a + d + 1 by omega]
    omega
theorem cvx_le (h : Cvx t) {a b c e : Nat} (h1 : a ≤ c) (h2 : c ≤ b) (hb : b < t.length) (he : c + e = a + b) : rF t c + rF t e ≤ rF t a + rF t b := by
  by_cases q : 2 * (c - a) ≤ b - a
  · have := cvx_d h (a := a) (m := b - a) (by omega) (c - a) q
    rw [show a + (c - a) = c by omega, show a + (b - a) - (c - a) = e by omega, show a + (b - a) = b by omega] at this
    exact this
  · have := cvx_d h (a := a) (m := b - a) (by omega) (b - c) (by omega)
    rw [show a + (b - c) = e by omega, show a + (b - a) - (b - c) = c by omega, show a + (b - a) = b by omega] at this
    omega
theorem cvx_in (h : Cvx t) {p q x y : Int} (p0 : 0 ≤ p) (q0 : 0 ≤ q) (p1 : p < t.length) (q1 : q < t.length) (e : x + y = p + q) (b : (p ≤ x ∧ x ≤ q) ∨ (q ≤ x ∧ x ≤ p)) : rF t x.toNat + rF t y.toNat ≤ rF t p.toNat + rF t q.toNat := by
  rcases b with b | b
  · exact cvx_le h (by omega) (by omega) (by omega) (by omega)
  · have := cvx_le h (a := q.toNat) (b := p.toNat) (c := x.toNat) (e := y.toNat) (by omega) (by omega) (by omega) (by omega)
    omega
theorem cst_sm {r : List Int} (hT : T.length = N) (hr : r.length = N) : cst T r = FF.sm N fun v => rF (T.getD v []) (rF r v).toNat := by
  unfold cst FF.sm
  congr 1
  refine List.ext_getElem? fun k => ?_
  rw [List.getElem?_map, List.getElem?_map]
  by_cases hk : k < N
  · have z : (T.zip r)[k]? = some (T.getD k [], rF r k) := List.getElem?_zip_eq_some.mpr ⟨by rw [List.getD_eq_getElem?_getD, List.getElem?_eq_getElem (by omega : k < T.length)]; rfl, rF_getE (by omega : k < r.length)⟩
    rw [List.getElem?_range hk, z]
    rfl
  · rw [List.getElem?_eq_none (by simp; omega), List.getElem?_eq_none (by simp; omega)]
    rfl
theorem jw_le (hf : FOk N f) {r : List Int} (h : r ∈ rowsA N f) {v : Nat} (hv : v < N) : 0 ≤ rF r v ∧ rF r v ≤ FF.dgr N (grO f) v := by
  obtain ⟨_, w, hw, k⟩ := (mem_rowsA hf).mp h
  rw [k v hv]
  exact ⟨FF.sm_pos fun u _ => hw.ok.nn _ _, FF.sm_le fun u _ => hw.le _ _⟩
/-- two rows moved towards each other -/
theorem cst_two (hf : FOk N f) (hT : Tabs N f T) {p q : List Int} (hp : p ∈ rowsA N f) (hq : q ∈ rowsA N f) {s t : Sp} (hs : s ∈ twL p q) (ht : t ∈ twL (upL p s.1 s.2) q) :
    cst T (upL (upL p s.1 s.2) t.1 t.2) + cst T (upL (upL q s.1 (-s.2)) t.1 (-t.2)) ≤ cst T p + cst T q := by
  have lp := ((mem_rowsA hf).mp hp).1
  have lq := ((mem_rowsA hf).mp hq).1
  obtain ⟨s1, s2⟩ := mem_tw.mp hs
  obtain ⟨t1, t2⟩ := mem_tw.mp ht
  rw [upL_len] at t1
  rw [rF_up s1] at t2
  rw [cst_sm hT.len (by rw [upL_len, upL_len]; exact lp), cst_sm hT.len (by rw [upL_len, upL_len]; exact lq), cst_sm hT.len lp, cst_sm hT.len lq, ← FF.sm_add, ← FF.sm_add]
  refine FF.sm_le fun v hv => ?_
  obtain ⟨a1, a2⟩ := jw_le hf hp hv
  obtain ⟨b1, b2⟩ := jw_le hf hq hv
  have bg := hT.big v hv
  rw [rF_up (by rw [upL_len]; exact t1), rF_up s1, rF_up (by rw [upL_len]; omega), rF_up (by omega)]
  refine cvx_in (hT.cvx v hv) a1 b1 (by omega) (by omega) ?_ ?_
  · unfold FF.up
    split <;> split <;> omega
  · unfold FF.Tw FF.up at t2
    unfold FF.Tw at s2
    unfold FF.up
    by_cases e1 : v = t.1
    · by_cases e2 : v = s.1
      · rw [if_pos e1, if_pos e2]
        rw [← e1, if_pos e2] at t2
        rw [← e2] at s2
        omega
      · rw [if_pos e1, if_neg e2]
        rw [← e1, if_neg e2] at t2
        omega
    · rw [if_neg e1]
      by_cases e2 : v = s.1
      · rw [if_pos e2]
        rw [← e2] at s2
        omega
      · rw [if_neg e2]
        omega
theorem best_sec (hf : FOk N f) (hT : Tabs N f T) {m : Int} (hm : ∀ r ∈ rowsA N f, m ≤ cst T r) {p q : List Int} (hp : p ∈ rowsA N f) (hq : q ∈ rowsA N f) (ep : cst T p = m) (eq : cst T q = m) {s t : Sp} (hs : s ∈ twL p q) (ht : t ∈ secL (rowsA N f) p q s) :
    (upL (upL p s.1 s.2) t.1 t.2 ∈ rowsA N f ∧ cst T (upL (upL p s.1 s.2) t.1 t.2) = m) ∧ upL (upL q s.1 (-s.2)) t.1 (-t.2) ∈ rowsA N f ∧ cst T (upL (upL q s.1 (-s.2)) t.1 (-t.2)) = m := by
  unfold secL at ht
  obtain ⟨ht, hb⟩ := List.mem_filter.mp ht
  unfold secB at hb
  rw [Bool.and_eq_true, decide_eq_true_eq, decide_eq_true_eq] at hb
  have := cst_two hf hT hp hq hs ht
  have h1 := hm _ hb.1
  have h2 := hm _ hb.2
  exact ⟨⟨hb.1, by omega⟩, hb.2, by omega⟩
end
/-! LSTd: one of a list drawn from the bag alone; a list turned round; the rows of a web. -/
section
variable {N i : Nat} {C : Store} {Q : D → Store → Prop} {X : Exc → Store → Prop} {f : Int × Int → Int}
theorem w_revL {mo : ME} {F : Fr} (h : wR (mo F C) (fun o C1 => ∃ i ds, cL o C1 = some (i, ds) ∧ F.fl ≤ i ∧ Q .non (C1.set i (some (.lst ds.reverse)))) X) : wR (mReverse mo F C) Q X := by
  unfold mReverse
  refine w_bnd (w_mono h (fun o C1 g => ?_) fun _ _ z => z)
  obtain ⟨i, ds, e, hi, q⟩ := g
  simp only [e, wr_hi hi]
  exact w_ok q
theorem one_0 {xs : List D} (hB : Bg i C) (ne : xs ≠ []) (hl : xs.length ≤ 1000000) (hc : cbL 0 xs = true) (h : ∀ x C', x ∈ xs → To i C C' → Q x C') : wR (m_law_one [.cell i, .lst xs] C) Q X := by
  have := one_L (X := X) (Q := Q) hB ne hl hc [] (fun x C' hx t => by rw [List.append_nil]; exact h x C' hx t)
  rw [List.append_nil] at this
  exact this
theorem zero_row (hf : FOk N f) : List.replicate N 0 ∈ rowsA N f := (mem_rowsA hf).mpr ⟨by simp, fun _ _ => 0, ⟨FF.zero_ok, (grO_ok hf).nn⟩, fun v _ => (rF_zero v).trans (FF.sm_zero N).symm⟩
theorem rows_count (hl : Light (numsL N f)) : (rowsA N f).length ≤ 1024 := by
  unfold rowsA
  rw [List.length_map]
  exact hl.count
theorem keys_ne (h0 : 1 ≤ N) (hf : FOk N f) : ∀ r ∈ (cntD (rowsA N f)).map (·.1), r ≠ [] := fun r hr e => by
  have := ((mem_rowsA hf).mp (cnt_mem.mp hr)).1
  rw [e] at this
  simp at this
  omega
end
/-! E10: an own list made by a comprehension with a test. -/
section
variable {α : Type} {l : List α} {enc : α → D} {g : MG} {tt : MT} {te : ME} {vs : List Nat} {F : Fr} {C : Store} {Q : D → Store → Prop} {E : Exc → Store → Prop} {it : ItD}
theorem lcMc (p : PureIt it (l.map enc)) (f : α → Bool) (h : α → D) (sz : l.length ≤ 16777215)
    (st : ∀ a ∈ l, ∃ sl1, g (enc a) (wipeD F.sl vs) = some sl1 ∧ ∀ acc, wR (tt ⟨C.length, sl1⟩ (accS C acc)) (fun b C' => b = f a ∧ C' = accS C acc) noX ∧ (f a = true → wR (te ⟨C.length, sl1⟩ (accS C acc)) (fun d C' => d = h a ∧ C' = accS C acc) noX))
    (q : Q (.cell C.length) (C ++ [some (.lst ((l.filter f).map h))])) : wR (mLc true (fun _ C => .ok it C) g tt te vs F C) Q E := by
  have e := lcN_M (C := C) (p.on fun _ => True) (fun _ => trivial) [] f h (by simp only [List.length_nil]; omega) st
  unfold mLc
  simp only [bnd_ok]
  rw [show C ++ [some (Cell.lst [])] = accS C [] from rfl, e]
  simp only [bn0_ok, List.nil_append]
  unfold lcEnd
  rw [if_pos rfl]
  exact w_ok q
end
/-! BR3: granted rows, displeasure, best rows: walked. -/
/-- the least of a list -/
def mnL : List Int → Int
  | [] => 0
  | x :: xs => xs.foldl min x
theorem mn_le : ∀ (xs : List Int) (x : Int), xs.foldl min x ≤ x ∧ ∀ y ∈ xs, xs.foldl min x ≤ y
  | [], x => ⟨Int.le_refl _, fun y h => by cases h⟩
  | z :: xs, x => by
    obtain ⟨a, b⟩ := mn_le xs (min x z)
    refine ⟨show xs.foldl min (min x z) ≤ x by omega, fun y hy => ?_⟩
    show xs.foldl min (min x z) ≤ y
    rcases List.mem_cons.mp hy with rfl | hy
    · omega
    · exact b y hy
theorem mn_in : ∀ (xs : List Int) (x : Int), xs.foldl min x = x ∨ xs.foldl min x ∈ xs
  | [], x => .inl rfl
  | z :: xs, x => by
    show xs.foldl min (min x z) = x ∨ xs.foldl min (min x z) ∈ z :: xs
    rcases mn_in xs (min x z) with h | h
    · rw [h]
      rcases Int.le_total x z with k | k
      · left
        omega
      · right
        rw [show min x z = z by omega]
        exact List.mem_cons_self ..
    · exact .inr (List.mem_cons_of_mem _ h)
theorem mnL_le {l : List Int} : ∀ y ∈ l, mnL l ≤ y := by
  cases l with
  | nil => intro y h; cases h
  | cons x xs =>
    intro y hy
    obtain ⟨a, b⟩ := mn_le xs x
    rcases List.mem_cons.mp hy with rfl | hy
    · exact a
    · exact b y hy
theorem mnL_in {l : List Int} (ne : l ≠ []) : mnL l ∈ l := by
  cases l with
  | nil => exact absurd rfl ne
  | cons x xs => exact (mn_in xs x).elim (fun h => by show xs.foldl min x ∈ _; rw [h]; exact List.mem_cons_self ..) (List.mem_cons_of_mem _)
/-- the granted rows in order -/
def rowsS (N : Nat) (f : Int × Int → Int) : List (List Int) := srk (cntD (rowsA N f))
/-- the least displeasure, and the rows that have it -/
def lstD (N : Nat) (f : Int × Int → Int) (T : List (List Int)) : Int := mnL ((rowsS N f).map (cst T))
def bestR (N : Nat) (f : Int × Int → Int) (T : List (List Int)) : List (List Int) := bestL T (rowsS N f) (lstD N f T)
def tabD (T : List (List Int)) : D := .tup (T.map tI)
section
variable {N i : Nat} {C : Store} {Q : D → Store → Prop} {X : Exc → Store → Prop} {f : Int × Int → Int} {T : List (List Int)}
theorem mem_rowsS {r : List Int} : r ∈ rowsS N f ↔ r ∈ rowsA N f := mem_srk.trans cnt_mem
theorem rowsS_len (hl : Light (numsL N f)) : (rowsS N f).length ≤ 1024 := by
  have a := rows_count hl
  have b := cnt_len (rowsA N f)
  unfold rowsS
  rw [(srk_perm _).length_eq, List.length_map]
  omega
theorem rowsS_ne (hf : FOk N f) : rowsS N f ≠ [] := fun e => by
  have := mem_rowsS.mpr (zero_row hf)
  rw [e] at this
  cases this
theorem sort_rows (hf : FOk N f) : oSortE false [cdT (cntD (rowsA N f))] C = some (.lst ((rowsS N f).map tI), C) := by
  have hv : vD (cdT (cntD (rowsA N f))) C = some (rdK (cntD (rowsA N f)), rdV (cntD (rowsA N f))) := rfl
  by_cases h0 : 1 ≤ N
  · have ne := keys_ne h0 hf
    have k : ¬ rdK (cntD (rowsA N f)) = [[]] := fun e => by
      have z : ([] : List Key) ∈ rdK (cntD (rowsA N f)) := by rw [e]; exact List.mem_singleton_self _
      unfold rdK at z
      obtain ⟨p, hp, ep⟩ := List.mem_map.mp z
      refine ne p.1 (List.mem_map.mpr ⟨p, hp, rfl⟩) ?_
      unfold keyI at ep
      exact List.map_eq_nil_iff.mp ep
    simp only [oSortE, hv, if_neg k]
    exact sort_rd hv ne
  · obtain rfl : N = 0 := by omega
    have e0 : cntD (rowsA 0 f) = [([], .int 1)] := rfl
    have e1 : rowsS 0 f = [[]] := by
      unfold rowsS srk
      rw [e0]
      simp
    have e2 : rdK (cntD (rowsA 0 f)) = [[]] := by rw [e0]; rfl
    simp only [oSortE, hv, if_pos e2]
    rw [e1]
    rfl
theorem granted_rows_w (h : N ≤ 5) (hf : FOk N f) (hl : Light (numsL N f)) (q : Q (.lst ((rowsS N f).map tI)) C) : wR (m_granted_rows [webD N f] C) Q X := by
  rw [e_granted_rows]
  apply w_fin
  unfold b_granted_rows
  walk_at "p"
  refine row_counts_w h hf hl ?_
  walk_at "p"
  refine wo_of (sort_rows hf) ?_
  refine fnl_p (cb_tIs 0 _) ?_
  rw [List.take_length]
  exact q
theorem mn_rows (hf : FOk N f) (ne : rowsS N f ≠ []) : oMn1 min [.lst ((rowsS N f).map fun r => D.int (cst T r))] C = some (.int (lstD N f T), C) := by
  have e : ((rowsS N f).map fun r => D.int (cst T r)) = ((rowsS N f).map (cst T)).map .int := by rw [List.map_map]; rfl
  unfold lstD
  rw [e]
  cases h : (rowsS N f).map (cst T) with
  | nil => exact absurd (List.map_eq_nil_iff.mp h) ne
  | cons x xs =>
    simp only [oMn1, vL, Option.bind_some, dInts_map]
    rfl
theorem zip_tI (T : List (List Int)) (r : List Int) : zipD (T.map tI) (r.map .int) = (T.zip r).map fun q => D.tup [tI q.1, .int q.2] := by
  unfold zipD
  rw [List.zip_map, List.map_map]
  rfl
theorem zip_ok (hT : Tabs N f T) {r : List Int} (hf : FOk N f) (hr : r ∈ rowsA N f) : ∀ p ∈ T.zip r, 0 ≤ p.2 ∧ p.2 < p.1.length := by
  intro p hp
  obtain ⟨k, hk⟩ := List.mem_iff_getElem?.mp hp
  obtain ⟨e1, e2⟩ := List.getElem?_zip_eq_some.mp hk
  have lr := ((mem_rowsA hf).mp hr).1
  have k1 := (List.getElem?_eq_some_iff.mp e2).1
  obtain ⟨a, b⟩ := jw_le hf hr (v := k) (by omega)
  have e3 : rF r k = p.2 := by
    have := rF_getE k1
    rw [e2] at this
    exact (Option.some.inj this).symm
  have e4 : T.getD k [] = p.1 := by rw [List.getD_eq_getElem?_getD, e1]; rfl
  have bg := hT.big k (by omega)
  rw [e4] at bg
  omega
theorem displeasure_w (hT : Tabs N f T) {r : List Int} (hN : N ≤ 60) (hf : FOk N f) (hr : r ∈ rowsA N f) (q : Q (.int (cst T r)) C) : wR (m_displeasure [tabD T, tI r] C) Q X := by
  have lr := ((mem_rowsA hf).mp hr).1
  have ok := zip_ok hT hf hr
  rw [e_displeasure]
  apply w_fin
  unfold b_displeasure
  walk_at "p"
  refine w_zipX ?_
  walk_at "p"
  refine ⟨_, _, _, _, rfl, rfl, rfl, ?_⟩
  rw [zip_tI]
  refine lcY (l := T.zip r) (enc := fun q => D.tup [tI q.1, .int q.2]) (pure_C _) (fun p => .int (rF p.1 p.2.toNat)) (by rw [List.length_zip, hT.len]; omega) (fun p hp => ⟨_, rfl, fun acc => ?_⟩) (fun _ _ => rfl) ?_
  · obtain ⟨p0, p1⟩ := ok p hp
    walk_at "p"
    refine wo_ix (xs := p.1.map .int) (k := p.2.toNat) rfl (by omega) (by rw [List.getElem?_map, rF_getE (by omega)]; rfl) ?_
    exact ⟨rfl, rfl⟩
  · walk_at "p"
    refine wo_of (show oSum [.lst ((T.zip r).map fun p => D.int (rF p.1 p.2.toNat))] C = some (.int (cst T r), C) from ?_) ?_
    · unfold cst
      simp only [oSum, vL, Option.bind_some]
      rw [show ((T.zip r).map fun p => D.int (rF p.1 p.2.toNat)) = ((T.zip r).map fun p => rF p.1 p.2.toNat).map .int by rw [List.map_map]; rfl, dInts_map]
      rfl
    refine fnl_p rfl ?_
    rw [List.take_length]
    exact q
theorem law_cost_w (hT : Tabs N f T) {r : List Int} (hN : N ≤ 60) (hf : FOk N f) (hr : r ∈ rowsA N f) (q : Q (.int (cst T r)) C) : wR (m_law_cost [tabD T, tI r] C) Q X := by
  have lr := ((mem_rowsA hf).mp hr).1
  have ok := zip_ok hT hf hr
  rw [e_law_cost]
  apply w_fin
  unfold b_law_cost
  walk_at "p"
  refine w_zipX ?_
  walk_at "p"
  refine ⟨_, _, _, _, rfl, rfl, rfl, ?_⟩
  rw [zip_tI]
  refine lcY (l := T.zip r) (enc := fun q => D.tup [tI q.1, .int q.2]) (pure_C _) (fun p => .int (rF p.1 p.2.toNat)) (by rw [List.length_zip, hT.len]; omega) (fun p hp => ⟨_, rfl, fun acc => ?_⟩) (fun _ _ => rfl) ?_
  · obtain ⟨p0, p1⟩ := ok p hp
    walk_at "p"
    refine wo_ix (xs := p.1.map .int) (k := p.2.toNat) rfl (by omega) (by rw [List.getElem?_map, rF_getE (by omega)]; rfl) ?_
    exact ⟨rfl, rfl⟩
  · walk_at "p"
    refine wo_of (show oSum [.lst ((T.zip r).map fun p => D.int (rF p.1 p.2.toNat))] C = some (.int (cst T r), C) from ?_) ?_
    · unfold cst
      simp only [oSum, vL, Option.bind_some]
      rw [show ((T.zip r).map fun p => D.int (rF p.1 p.2.toNat)) = ((T.zip r).map fun p => rF p.1 p.2.toNat).map .int by rw [List.map_map]; rfl, dInts_map]
      rfl
    refine fnl_p rfl ?_
    rw [List.take_length]
    exact q
theorem best_rows_w (hT : Tabs N f T) (h : N ≤ 5) (hf : FOk N f) (hl : Light (numsL N f)) (q : Q (.cell C.length) (C ++ [some (.lst ((bestR N f T).map tI))])) : wR (m_best_rows [webD N f, tabD T] C) Q X := by
  have rl := rowsS_len hl
  rw [e_best_rows]
  apply w_finO
  unfold b_best_rows b_best_rows_0
  walk_at "p"
  refine granted_rows_w h hf hl ?_
  walk_at "p"
  unfold b_best_rows_1
  walk_at "p"
  refine lcY (l := rowsS N f) (enc := tI) (pure_C _) (fun r => .int (cst T r)) (by omega) (fun r hr => ⟨_, rfl, fun acc => ?_⟩) (fun _ _ => rfl) ?_
  · walk_at "p"
    exact displeasure_w hT (by omega) hf (mem_rowsS.mp hr) ⟨rfl, rfl⟩
  walk_at "p"
  refine wo_of (mn_rows hf (rowsS_ne hf)) ?_
  walk_at "p"
  unfold b_best_rows_2
  walk_at "p"
  refine lcMc (l := rowsS N f) (enc := tI) (pure_C _) (fun r => decide (cst T r = lstD N f T)) tI (by omega) (fun r hr => ⟨_, rfl, fun acc => ⟨?_, fun _ => ?_⟩⟩) ?_
  · walk_at "p"
    refine displeasure_w hT (by omega) hf (mem_rowsS.mp hr) ?_
    walk_at "p"
    exact ⟨rfl, rfl⟩
  · walk_at "p"
    exact ⟨rfl, rfl⟩
  refine fnlO_own (Nat.le_refl _) app_at (cb_tIs _ _) ?_
  rw [take_app rfl]
  exact q
end
/-! BR4: tables drawn. -/
/-- the table of these gaps -/
def runT (x : Int) (gs : List Int) : List Int := gs.foldl (fun acc g => acc ++ [rF acc (acc.length - 1) + g]) [x]
section
variable {N i : Nat} {C : Store} {Q : D → Store → Prop} {X : Exc → Store → Prop}
theorem run_snoc (x : Int) (gs : List Int) (g : Int) : runT x (gs ++ [g]) = runT x gs ++ [rF (runT x gs) ((runT x gs).length - 1) + g] := by
  unfold runT
  rw [List.foldl_append]
  rfl
theorem run_len (x : Int) (gs : List Int) : (runT x gs).length = gs.length + 1 := by
  induction gs using snoc_ind with
  | h0 => rfl
  | h1 gs g ih => rw [run_snoc, List.length_append, ih, List.length_append]; rfl
theorem rF_l {a b : List Int} {k : Nat} (h : k < a.length) : rF (a ++ b) k = rF a k := by
  unfold rF
  rw [List.getD_eq_getElem?_getD, List.getD_eq_getElem?_getD, List.getElem?_append_left h]
theorem rF_e {a : List Int} {x : Int} : rF (a ++ [x]) a.length = x := by
  unfold rF
  rw [List.getD_eq_getElem?_getD, List.getElem?_append_right (Nat.le_refl _), Nat.sub_self]
  rfl
theorem run_gap (x : Int) (gs : List Int) : ∀ k, k < gs.length → rF (runT x gs) (k + 1) = rF (runT x gs) k + rF gs k := by
  induction gs using snoc_ind with
  | h0 => intro k h; cases h
  | h1 gs g ih =>
    intro k hk
    have l := run_len x gs
    rw [List.length_append] at hk
    rw [run_snoc]
    by_cases e : k = gs.length
    · subst e
      have e1 := rF_e (a := runT x gs) (x := rF (runT x gs) ((runT x gs).length - 1) + g)
      rw [l] at e1
      rw [l, e1, rF_l (by omega), rF_e]
      rfl
    · have : k < gs.length := by simp at hk; omega
      rw [rF_l (by omega), rF_l (by omega), rF_l this, ih k this]
theorem run_cvx (x : Int) {gs : List Int} (h : ∀ k, k + 1 < gs.length → rF gs k ≤ rF gs (k + 1)) : Cvx (runT x gs) := fun k hk => by
  have l := run_len x gs
  have a := run_gap x gs k (by omega)
  have b := run_gap x gs (k + 1) (by omega)
  have c := h k (by omega)
  rw [show k + 2 = k + 1 + 1 from rfl, b, a]
  omega
theorem vee_cvx (n : Nat) : Cvx ((List.range n).map fun k : Nat => max (max 1 ((k : Int) - 1)) (2 - (k : Int))) := fun k hk => by
  have e : ∀ j, j < n → rF ((List.range n).map fun k : Nat => max (max 1 ((k : Int) - 1)) (2 - (k : Int))) j = max (max 1 ((j : Int) - 1)) (2 - (j : Int)) := fun j hj => by
    unfold rF
    rw [List.getD_eq_getElem?_getD, List.getElem?_map, List.getElem?_range hj]
    rfl
  rw [List.length_map, List.length_range] at hk
  rw [e _ (by omega), e _ (by omega), e _ (by omega)]
  omega
theorem five_cvx (n : Nat) : Cvx (List.replicate n 5) := fun k hk => by
  have e : ∀ j, j < n → rF (List.replicate n 5) j = 5 := fun j hj => by
    unfold rF
    rw [List.getD_eq_getElem?_getD, List.getElem?_replicate, if_pos hj]
    rfl
  rw [List.length_replicate] at hk
  rw [e _ (by omega), e _ (by omega), e _ (by omega)]
  omega
end
/-! BR5: a table drawn: walked. -/
def leI (a b : Int) : Bool := decide (a ≤ b)
section
variable {N i : Nat} {C : Store} {Q : D → Store → Prop} {X : Exc → Store → Prop}
theorem wo_last {x : D} {xs : List D} {d : D} {Q : D → Store → Prop} (e : vS x C = some xs) (hk : xs[xs.length - 1]? = some d) (h : Q d C) : wO (oIx x (.int (-1)) C) Q := by
  have hl : xs.length - 1 < xs.length := (List.getElem?_eq_some_iff.mp hk).1
  have e2 : atI xs (-1) = some d := by
    unfold atI ixN
    rw [if_neg (by omega), if_pos (by omega)]
    show xs[((xs.length : Int) + -1).toNat]? = _
    rw [show ((xs.length : Int) + -1).toNat = xs.length - 1 by omega]
    exact hk
  refine wo_of (show oIx x (.int (-1)) C = some (d, C) from ?_) h
  simp only [oIx, e, Option.bind_some, e2]
  rfl
theorem le_int (C : Store) (a b : Int) : PySem.W.dataLe false (encD C) (.int a) (.int b) = leI a b := by
  rw [PySem.W.dataLe_eq]
  show (!PySem.W.dataLt (.int b) (.int a)) = _
  rw [PySem.W.dataLt_int]
  unfold leI
  by_cases h : b < a
  · rw [decide_eq_true h, decide_eq_false (by omega)]
    rfl
  · rw [decide_eq_false h, decide_eq_true (by omega)]
    rfl
theorem sort_int (gs : List Int) (C : Store) : oSortL false [.lst (gs.map .int)] C = some (.lst ((gs.mergeSort leI).map .int), C) := by
  have ok : ((gs.map D.int).all (fun d => (toP C d).isSome && decide ((encD C d).depth ≤ 60)) && srtb ((gs.map D.int).map (encD C))) = true := by
    have e : ∀ p ∈ (gs.map D.int).map (encD C), ∃ g : Int, p = .int g := fun p hp => by
      obtain ⟨d, hd, rfl⟩ := List.mem_map.mp hp
      obtain ⟨g, _, rfl⟩ := List.mem_map.mp hd
      exact ⟨g, rfl⟩
    simp only [Bool.and_eq_true, srtb, Bool.or_eq_true, List.all_eq_true]
    refine ⟨fun d hd => ?_, fun x hx y hy => ?_, .inr fun x hx => ?_⟩
    · obtain ⟨t, _, rfl⟩ := List.mem_map.mp hd
      refine ⟨rfl, decide_eq_true ?_⟩
      show (PyData.int t).depth ≤ 60
      simp [PyData.depth]
    · obtain ⟨a, rfl⟩ := e x hx
      obtain ⟨b, rfl⟩ := e y hy
      rfl
    · obtain ⟨a, rfl⟩ := e x hx
      rfl
  have em := List.map_mergeSort (r := leI) (s := PySem.W.dataLe false (encD C)) (f := D.int) (l := gs) (fun a _ b _ => (le_int C a b).symm)
  simp only [oSortL, vL, ok, if_true, mkL, Bool.false_eq_true, if_false]
  rw [← em]
theorem sorted_at (gs : List Int) : ∀ k, k + 1 < (gs.mergeSort leI).length → rF (gs.mergeSort leI) k ≤ rF (gs.mergeSort leI) (k + 1) := fun k hk => by
  have p := List.pairwise_mergeSort (le := leI) (fun a b c h1 h2 => by unfold leI at *; simp at *; omega) (fun a b => by unfold leI; simp; omega) gs
  have := List.pairwise_iff_getElem.mp p k (k + 1) (by omega) hk (by omega)
  have a := rF_getE (ns := gs.mergeSort leI) (v := k) (by omega)
  have b := rF_getE (ns := gs.mergeSort leI) (v := k + 1) hk
  rw [List.getElem?_eq_getElem (by omega)] at a
  rw [List.getElem?_eq_getElem hk] at b
  rw [Option.some.inj a, Option.some.inj b] at this
  unfold leI at this
  exact of_decide_eq_true this
theorem ints_of : ∀ {ys : List D}, (∀ y ∈ ys, ∃ g : Int, y = .int g) → ∃ gs : List Int, ys = gs.map .int ∧ gs.length = ys.length
  | [], _ => ⟨[], rfl, rfl⟩
  | y :: ys, h => by
    obtain ⟨g, rfl⟩ := h y (List.mem_cons_self ..)
    obtain ⟨gs, rfl, e⟩ := ints_of fun z hz => h z (List.mem_cons_of_mem _ hz)
    exact ⟨g :: gs, rfl, by simp⟩
theorem take_n0 {n : Int} (hB : Bg i C) (hn : 0 < n) (hn2 : n < 4611686018427387904) (h : ∀ r C', 0 ≤ r → r < n → To i C C' → Q (.int r) C') : wR (m_law_take [.cell i, .int n] C) Q X := by
  have := take_L (X := X) (Q := Q) hB hn hn2 [] fun r C' r0 r1 t => by
    rw [List.append_nil]
    exact h r C' r0 r1 t
  rw [List.append_nil] at this
  exact this
theorem wide_int : ∀ x : Int, x ∈ ([1, 3, 10, 1000000] : List Int) → 1 ≤ x ∧ x ≤ 1000000 := by
  intro x h
  simp only [List.mem_cons, List.not_mem_nil, or_false] at h
  omega
theorem law_table_w {m : Nat} (hB : Bg i C) (hm : m ≤ 10000) (h : ∀ (t : List Int) C', Cvx t → t.length = m + 1 → To i C C' → Q (tI t) C') : wR (m_law_table [.cell i, .int m] C) Q X := by
  rw [e_law_table]
  apply w_fin
  unfold b_law_table b_law_table_0
  walk_at "p"
  refine one_0 (xs := ([1, 3, 10, 1000000] : List Int).map .int) hB (by simp) (by simp) (cbL_ints _ _) fun d C1 hd u1 => ?_
  obtain ⟨w, hw, rfl⟩ := List.mem_map.mp hd
  obtain ⟨w0, w1⟩ := wide_int w hw
  walk_at "p"
  unfold b_law_table_1
  walk_at "p"
  refine ⟨inR_of (by omega) (by omega), ?_⟩
  refine lc_d (pure_R 0 _) (fun C' => To i C1 C') (fun _ d => ∃ g : Int, d = .int g) (by simp [rngI]; omega) (To.refl u1.bg) (fun x d n _ hd => by obtain ⟨g, rfl⟩ := hd; rfl) (fun x hx => ⟨_, rfl, fun C2 acc t2 l2 => ?_⟩) fun ds C2 hdl hr t2 hl => ?_
  · walk_at "p"
    refine wo_of (show oMul (.int 2) (.int w) (accS C2 acc) = some (.int (2 * w), accS C2 acc) by simp [oMul, oI, cMul]) ?_
    walk_at "p"
    refine take_L (n := 2 * w + 1) t2.bg (by omega) (by omega) [some (.lst acc)] fun r C3 r0 r1 t3 => ?_
    walk_at "p"
    exact ⟨C3, rfl, t2.trans t3, by rw [t3.len, l2], _, rfl⟩
  obtain ⟨gs, rfl, gl⟩ := ints_of (ys := ds) fun y hy => by
    obtain ⟨k, hk⟩ := List.mem_iff_getElem?.mp hy
    have k1 := (List.getElem?_eq_some_iff.mp hk).1
    obtain ⟨x, hx⟩ : ∃ x, (rngI 0 (m : Int).toNat)[k]? = some x := ⟨_, List.getElem?_eq_getElem (by omega)⟩
    exact hr k x y hx hk
  have gm : gs.length = m := by
    rw [gl, hdl]
    simp [rngI]
  walk_at "p"
  refine wo_of (sort_int gs C2) ?_
  walk_at "p"
  have sl := List.length_mergeSort (le := leI) gs
  have cv := sorted_at gs
  generalize gs.mergeSort leI = ss at sl cv
  unfold b_law_table_2
  walk_at "p"
  refine take_n0 t2.bg (by decide) (by decide) fun x0 C3 x1 x2 t3 => ?_
  walk_at "p"
  unfold b_law_table_3
  walk_at "p"
  refine loopM (l := ss) (enc := D.int) (pure_C _) (fun j sl S => ∃ t5, S = C3 ++ [some (.lst ((runT (x0 - 10) (ss.take j)).map .int))] ∧ sl = [some (.cell i), some (.int m), some (.int w), some (.lst (ss.map .int)), some (.cell C3.length), t5, none]) ⟨none, rfl, rfl⟩ ?_ ?_
  · rintro j g sl S hj ⟨t5, rfl, rfl⟩
    have j1 := (List.getElem?_eq_some_iff.mp hj).1
    have rl := run_len (x0 - 10) (ss.take j)
    rw [List.length_take] at rl
    have nx : runT (x0 - 10) (ss.take (j + 1)) = runT (x0 - 10) (ss.take j) ++ [rF (runT (x0 - 10) (ss.take j)) ((runT (x0 - 10) (ss.take j)).length - 1) + g] := by
      rw [take_s1 hj, run_snoc]
    generalize runT (x0 - 10) (ss.take j) = acc at rl nx
    refine ⟨_, rfl, ?_⟩
    unfold b_law_table_3b_0
    walk_at "w"
    refine w_append ?_
    walk_at "p"
    refine ⟨by simp only [vL, app_at]; rfl, ?_⟩
    walk_at "p"
    refine wo_last (xs := acc.map .int) (d := .int (rF acc (acc.length - 1))) (by simp only [vS, app_at]) (by rw [List.length_map, List.getElem?_map, rF_getE (by omega)]; rfl) ?_
    walk_at "p"
    refine ⟨C3.length, acc.map .int, by simp only [cL, app_at], by simp only [List.length_append, List.length_singleton, t3.len, hl, u1.len]; omega, by rw [List.length_map]; omega, ?_⟩
    refine lp_nx ⟨_, ?_, rfl⟩
    rw [app_set, nx, List.map_append]
    rfl
  · rintro sl S ⟨t5, rfl, rfl⟩
    rw [List.take_length]
    walk_at "p"
    unfold b_law_table_4
    walk_at "p"
    refine wo_of (show oTupOf [.cell C3.length] (C3 ++ [some (.lst ((runT (x0 - 10) ss).map .int))]) = some (tI (runT (x0 - 10) ss), C3 ++ [some (.lst ((runT (x0 - 10) ss).map .int))]) by simp only [oTupOf, vL, app_at]; rfl) ?_
    refine fnl_p (cb_tI 0 _) ?_
    have el : C3.length = C.length := by rw [t3.len, hl, u1.len]
    rw [take_app el]
    exact h _ C3 (run_cvx _ cv) (by rw [run_len]; omega) ((u1.trans t2).trans t3)
end
/-! EQV: data that are equal to themselves. -/
mutual
theorem eqv_refl : ∀ p : PyData, p.canLay0 = true → p.eqv p = true
  | .none, _ => by simp [PyData.eqv]
  | .bool _, _ => by simp [PyData.eqv]
  | .int _, _ => by simp [PyData.eqv]
  | .str _, _ => by simp [PyData.eqv]
  | .list xs, h => by
    simp only [PyData.eqv]
    exact eqvAll_refl xs (by simpa only [PyData.canLay0] using h)
  | .tuple xs, h => by
    simp only [PyData.eqv]
    exact eqvAll_refl xs (by simpa only [PyData.canLay0] using h)
  | .dict _, h => by simp [PyData.canLay0] at h
theorem eqvAll_refl : ∀ xs : List PyData, PyData.canLayAll0 xs = true → PyData.eqvAll xs xs = true
  | [], _ => by simp [PyData.eqvAll]
  | x :: xs, h => by
    simp only [PyData.canLayAll0, Bool.and_eq_true] at h
    simp only [PyData.eqvAll, eqv_refl x h.1, eqvAll_refl xs h.2, Bool.and_self]
end
/-! ALK: own lists beside lists of plain data: alike. -/
mutual
theorem toP0_eq : ∀ d : D, toP0 d = toP [] d
  | .non => rfl
  | .bl _ => rfl
  | .int _ => rfl
  | .str _ => rfl
  | .lst xs => by simp only [toP0, toP, toP0s_eq xs]
  | .tup xs => by simp only [toP0, toP, toP0s_eq xs]
  | .kt xs => by simp only [toP0, toP, toP0s_eq xs]
  | .scr _ => rfl
  | .obj _ _ => rfl
  | .dT _ _ => rfl
  | .exn _ _ => rfl
  | .cls _ => rfl
  | .cell _ => by simp [toP0, toP]
theorem toP0s_eq : ∀ xs : List D, toP0s xs = toPs [] xs
  | [] => rfl
  | d :: ds => by simp only [toP0s, toPs, toP0_eq d, toP0s_eq ds]
end
section
variable {C : Store} {Q : D → Store → Prop} {X : Exc → Store → Prop} {k w dp n : Nat} {xs : List D} {ps : List PyData}
theorem toP_c (hS : C[k]? = some (some (.lst xs))) (g : GdL w dp xs ps) : toP C (.cell k) = some (.list ps) := by
  simp only [toP, hS, toP0s_eq, g.tp, Option.map_some]
theorem toP_l (g : GdL w dp xs ps) : toP C (.lst xs) = some (.list ps) := by simp only [toP, g.tp, Option.map_some]
theorem eqD_same {x y : D} {p : PyData} (hx : toP C x = some p) (hy : toP C y = some p) (hc : p.canLay0 = true) (hs : SeqAt.shaped p = true) (neg : Bool) : oEqD neg x y C = some (.bl (!neg), C) := by
  simp only [oEqD, hx, hy, hs, Bool.and_self, if_true, eqv_refl _ hc]
  cases neg <;> rfl
theorem alike_c (hS : C[k]? = some (some (.lst xs))) (g : GdL w dp xs ps) (hn : xs.length ≤ n) (hw : n * (w + 1) ≤ 300000) (hd : dp + 1 ≤ 60) (q : Q (.bl true) C) : wR (m_law_alike [.cell k, .lst xs] C) Q X := by
  have gd := gd_lst g hn
  rw [e_law_alike]
  apply w_fin
  unfold b_law_alike
  walk_at "p"
  refine wo_of (show oEqA false (.cell k) (.lst xs) C = some (.bl true, C) from eqD_same (toP_c hS g) (toP_l g) gd.cl (gd.shp hd) false) ?_
  refine ⟨_, rfl, wI_t ?_⟩
  walk_at "p"
  refine wo_of (repr_of (toP_c hS g) (gd.ok hw hd)) ?_
  walk_at "p"
  refine wo_of (repr_of (toP_l g) (gd.ok hw hd)) ?_
  walk_at "p"
  rw [decide_eq_true rfl]
  rw [List.take_length]
  exact q
end
/-! RGD: rows of webs as data: among the items of a list. -/
def rowQ (r : List Int) : PyData := .tuple (r.map .int)
section
variable {N i : Nat} {C S : Store} {Q : D → Store → Prop} {X : Exc → Store → Prop} {f : Int × Int → Int}
theorem toPs_int : ∀ r : List Int, toPs C (r.map .int) = some (r.map .int)
  | [] => rfl
  | x :: r => by
    show (match toP C (.int x), toPs C (r.map .int) with | some p, some ps => some (p :: ps) | _, _ => none) = _
    rw [toPs_int r]
    rfl
theorem toP_row (r : List Int) : toP C (tI r) = some (rowQ r) := by
  show (toPs C (r.map .int)).map PyData.tuple = _
  rw [toPs_int]
  rfl
theorem toPs_rows : ∀ L : List (List Int), toPs C (L.map tI) = some (L.map rowQ)
  | [] => rfl
  | r :: L => by
    show (match toP C (tI r), toPs C (L.map tI) with | some p, some ps => some (p :: ps) | _, _ => none) = _
    rw [toP_row, toPs_rows L]
    rfl
theorem eqvAll_int : ∀ r s : List Int, PyData.eqvAll (r.map .int) (s.map .int) = decide (r = s)
  | [], [] => rfl
  | [], _ :: _ => by simp [PyData.eqvAll]
  | _ :: _, [] => by simp [PyData.eqvAll]
  | a :: r, b :: s => by
    simp only [List.map_cons, PyData.eqvAll, eqvAll_int r s, PyData.eqv]
    by_cases h : a = b <;> by_cases h2 : r = s <;> simp [h, h2]
theorem eqv_row (r s : List Int) : PyData.eqv (rowQ r) (rowQ s) = decide (r = s) := eqvAll_int r s
/-- rows that can be shown and compared -/
def SmR (r : List Int) : Prop := r.length ≤ 5 ∧ ∀ x ∈ r, x.natAbs < 1000000000000
theorem sm_gd {r : List Int} (h : SmR r) : Gd 205 1 (tI r) (rowQ r) := by
  obtain ⟨ps, g⟩ := gdl_all (w := 40) (dp := 0) (xs := r.map D.int) fun d hd => by
    obtain ⟨x, hx, rfl⟩ := List.mem_map.mp hd
    exact ⟨_, gd_int (h.2 x hx)⟩
  have e : ps = r.map .int := by
    have := g.tp []
    rw [toPs_int] at this
    exact (Option.some.inj this).symm
  subst e
  exact gd_tup (n := 5) g (by rw [List.length_map]; exact h.1)
theorem sm_gdl {L : List (List Int)} (h : ∀ r ∈ L, SmR r) : GdL 205 1 (L.map tI) (L.map rowQ) := by
  obtain ⟨ps, g⟩ := gdl_all (w := 205) (dp := 1) (xs := L.map tI) fun d hd => by
    obtain ⟨x, hx, rfl⟩ := List.mem_map.mp hd
    exact ⟨_, sm_gd (h x hx)⟩
  have e : ps = L.map rowQ := by
    have := g.tp []
    rw [toPs_rows] at this
    exact (Option.some.inj this).symm
  subst e
  exact g
theorem in_rows {r : List Int} {L : List (List Int)} (hr : SmR r) (hL : ∀ r ∈ L, SmR r) (neg : Bool) : oInD neg (tI r) (.lst (L.map tI)) C = some (.bl (if neg = true then !decide (r ∈ L) else decide (r ∈ L)), C) := by
  have g := sm_gdl hL
  have s1 := (sm_gd hr).shp (by decide)
  have s2 := (gd_lst g (Nat.le_refl _)).shp (by decide)
  have e : ((L.map rowQ).any fun z => PyData.eqv z (rowQ r)) = decide (r ∈ L) := by
    rw [List.any_map]
    simp only [Function.comp_def, eqv_row]
    rw [Bool.eq_iff_iff, List.any_eq_true, decide_eq_true_eq]
    exact ⟨fun ⟨x, hx, e⟩ => of_decide_eq_true e ▸ hx, fun h => ⟨r, h, decide_eq_true rfl⟩⟩
  simp only [oInD, toP_row, toP_l g, s1, s2, Bool.and_self, if_true]
  show some (D.bl (if neg = true then !((L.map rowQ).any fun z => PyData.eqv z (rowQ r)) else (L.map rowQ).any fun z => PyData.eqv z (rowQ r)), C) = _
  rw [e]
/-- True among truths told -/
theorem in_true {bs : List Bool} (neg : Bool) (hS : C[i]? = some (some (.lst (bs.map .bl)))) : oInD neg (.bl true) (.cell i) C = some (.bl (if neg = true then !decide (true ∈ bs) else decide (true ∈ bs)), C) := by
  have t : ∀ (S : Store) (bs : List Bool), toPs S (bs.map .bl) = some (bs.map .bool) := fun S bs => by
    induction bs with
    | nil => rfl
    | cons b bs ih =>
      show (match toP S (.bl b), toPs S (bs.map .bl) with | some p, some ps => some (p :: ps) | _, _ => none) = _
      rw [ih]
      rfl
  obtain ⟨ps, g⟩ := gdl_all (w := 0) (dp := 0) (xs := bs.map D.bl) fun d hd => by
    obtain ⟨x, hx, rfl⟩ := List.mem_map.mp hd
    exact ⟨_, gd_bl x⟩
  have e0 : ps = bs.map .bool := by
    have := g.tp []
    rw [t] at this
    exact (Option.some.inj this).symm
  subst e0
  have s2 := (gd_lst g (Nat.le_refl _)).shp (by decide)
  have s1 := (gd_bl true).shp (by decide)
  have tt : toP C (.bl true) = some (.bool true) := rfl
  have e : ((bs.map PyData.bool).any fun z => PyData.eqv z (.bool true)) = decide (true ∈ bs) := by
    rw [List.any_map, Bool.eq_iff_iff, List.any_eq_true, decide_eq_true_eq]
    constructor
    · rintro ⟨x, hx, e⟩
      cases x
      · simp [PyData.eqv] at e
      · exact hx
    · intro h
      exact ⟨true, h, by simp [PyData.eqv]⟩
  simp only [oInD, tt, toP_c hS g, s1, s2, Bool.and_self, if_true]
  show some (D.bl (if neg = true then !((bs.map PyData.bool).any fun z => PyData.eqv z (.bool true)) else (bs.map PyData.bool).any fun z => PyData.eqv z (.bool true)), C) = _
  rw [e]
theorem sm_k (N : Nat) (c : Int) : (FF.sm N fun _ => c) = N * c := by
  induction N with
  | zero => simp [FF.sm]
  | succ N ih => rw [FF.sm_succ, ih, Int.natCast_succ, Int.add_mul, Int.one_mul]
theorem row_sm (h : N ≤ 5) (hf : FOk N f) {r : List Int} (hr : r ∈ rowsA N f) : SmR r := by
  obtain ⟨l, w, hw, k⟩ := (mem_rowsA hf).mp hr
  refine ⟨by omega, fun x hx => ?_⟩
  obtain ⟨v, hv, e⟩ := List.mem_iff_getElem.mp hx
  have e2 := rF_getE hv
  rw [List.getElem?_eq_getElem hv, e] at e2
  have e3 := Option.some.inj e2
  rw [e3, k v (by omega)]
  have a : 0 ≤ FF.dgr N w v := FF.sm_pos fun u _ => hw.ok.nn _ _
  have b : FF.dgr N w v ≤ FF.sm N fun _ => 1000000000 := FF.sm_le fun u _ => Int.le_trans (hw.le _ _) (hf.b _).2
  have c : (FF.sm N fun _ => (1000000000 : Int)) = N * 1000000000 := by
    exact sm_k N _
  omega
end
/-! LSTw: the law's rows moved, steps towards. -/
section
variable {C : Store} {Q : D → Store → Prop} {X : Exc → Store → Prop}
theorem law_moved_w {r : List Int} {ss : List Sp} (hs : ∀ s ∈ ss, s.1 < r.length) (q : Q (tI (mvL r ss)) C) : wR (m_law_moved [tI r, .lst (ss.map spD)] C) Q X := by
  rw [e_law_moved]
  apply w_fin
  unfold b_law_moved b_law_moved_0
  walk_at "p"
  refine wo_of list_c ?_
  walk_at "p"
  unfold b_law_moved_1
  walk_at "p"
  refine loopM (l := ss) (enc := spD) (pure_C _) (fun j sl S => ∃ t3 t4, S = C ++ [some (.lst ((mvL r (ss.take j)).map .int))] ∧ sl = [some (tI r), some (.lst (ss.map spD)), some (.cell C.length), t3, t4]) ⟨none, none, rfl, rfl⟩ ?_ ?_
  · rintro j s sl S hj ⟨t3, t4, rfl, rfl⟩
    have hm := hs s (List.mem_of_getElem? hj)
    have ml := mv_len (ss.take j) r
    have nx : mvL r (ss.take (j + 1)) = upL (mvL r (ss.take j)) s.1 s.2 := by
      unfold mvL
      rw [take_s1 hj, List.foldl_append]
      rfl
    generalize mvL r (ss.take j) = z at ml nx
    refine ⟨[some (tI r), some (.lst (ss.map spD)), some (.cell C.length), some (.int s.1), some (.int s.2)], rfl, ?_⟩
    unfold b_law_moved_1b_0
    refine w_augI ?_
    walk_at "p"
    refine ⟨s.1, C.length, z, rfl, rfl, app_at, by omega, Nat.le_refl _, ?_⟩
    walk_at "p"
    refine ⟨rfl, s.2, rfl, ?_⟩
    rw [app_set, ← nx]
    exact lp_nx ⟨_, _, rfl, rfl⟩
  · rintro sl S ⟨t3, t4, rfl, rfl⟩
    rw [List.take_length]
    walk_at "p"
    unfold b_law_moved_2
    walk_at "p"
    refine wo_tupC app_at ?_
    refine fnl_p (cb_tI 0 _) ?_
    rw [take_app rfl]
    exact q
theorem lmoved1_w {r : List Int} {s : Sp} (hs : s.1 < r.length) (q : Q (tI (upL r s.1 s.2)) C) : wR (m_law_moved [tI r, .lst [spD s]] C) Q X :=
  law_moved_w (ss := [s]) (by simpa using hs) q
theorem law_towards_w {r q' : List Int} (hl : r.length = q'.length) (h60 : r.length ≤ 1000) (q : Q (.lst ((twL r q').map spD)) C) : wR (m_law_towards [tI r, tI q'] C) Q X := by
  rw [e_law_towards]
  apply w_fin
  unfold b_law_towards b_law_towards_0
  walk_at "p"
  unfold b_law_towards_1
  walk_at "p"
  refine wo_of (show oLen [tI r] (C ++ [some (.lst [])]) = some (.int r.length, C ++ [some (.lst [])]) from by simp [oLen, tI, vS]) ?_
  walk_at "p"
  refine ⟨inR_of (by omega) (by omega), ?_⟩
  refine loopM (l := List.range r.length) (enc := fun k : Nat => .int (k : Int)) (pureR0 _) (fun j sl S => ∃ t3, S = C ++ [some (.lst ((twJ r q' j).map spD))] ∧ sl = [some (tI r), some (tI q'), some (.cell C.length), t3]) ⟨none, rfl, rfl⟩ ?_ ?_
  · rintro j p sl S hj ⟨t3, rfl, rfl⟩
    have kj : j = p := by
      have := (List.getElem?_eq_some_iff.mp hj).2
      simpa using this
    subst kj
    have jl : j < r.length := List.mem_range.mp (List.mem_of_getElem? hj)
    have jq : j < q'.length := by omega
    have rix : (r.map D.int)[j]? = some (.int (rF r j)) := by rw [List.getElem?_map, rF_getE jl]; rfl
    have qix : (q'.map D.int)[j]? = some (.int (rF q' j)) := by rw [List.getElem?_map, rF_getE jq]; rfl
    have tl := twJ_len r q' j
    refine ⟨[some (tI r), some (tI q'), some (.cell C.length), some (.int j)], rfl, ?_⟩
    unfold b_law_towards_1b_0
    walk_at "p"
    refine wo_ix (xs := r.map .int) (k := j) rfl rfl rix ?_
    walk_at "p"
    refine wo_ix (xs := q'.map .int) (k := j) rfl rfl qix ?_
    walk_at "p"
    refine wI_d (fun eq => ?_) fun ne => ?_
    · walk_at "p"
      exact ⟨_, by rw [twJ_eq eq], rfl⟩
    · have fin : ∀ z : Int, z = sgn (rF r j) (rF q' j) → lpP (fun j sl S => ∃ t3, S = C ++ [some (.lst ((twJ r q' j).map spD))] ∧ sl = [some (tI r), some (tI q'), some (.cell C.length), t3]) (j + 1) (CT.thn b_law_towards_2 C.length (fnl C.length Q X)) (.nx [some (tI r), some (tI q'), some (.cell C.length), some (.int j)] ((C ++ [some (Cell.lst ((twJ r q' j).map spD))]).set C.length (some (.lst ((twJ r q' j).map spD ++ [.tup [.int j, .int z]]))))) := fun z hz => by
        rw [app_set]
        refine lp_nx ⟨_, ?_, rfl⟩
        rw [twJ_ne ne, List.map_append, hz]
        rfl
      walk_at "p"
      refine w_append ?_
      walk_at "p"
      refine ⟨by simp only [vL, app_at]; rfl, ?_⟩
      walk_at "p"
      refine wo_ix (xs := r.map .int) (k := j) rfl rfl rix ?_
      walk_at "p"
      refine wo_ix (xs := q'.map .int) (k := j) rfl rfl qix ?_
      walk_at "p"
      refine wI_d (fun lt => ?_) fun nl => ?_
      · walk_at "p"
        refine ⟨C.length, (twJ r q' j).map spD, by simp only [cL, app_at], Nat.le_refl _, by rw [List.length_map]; omega, ?_⟩
        walk_at "p"
        exact fin 1 (by unfold sgn; rw [if_pos lt])
      · walk_at "p"
        refine ⟨C.length, (twJ r q' j).map spD, by simp only [cL, app_at], Nat.le_refl _, by rw [List.length_map]; omega, ?_⟩
        walk_at "p"
        exact fin (-1) (by unfold sgn; rw [if_neg nl])
  · rintro sl S ⟨t3, rfl, rfl⟩
    rw [List.length_range]
    walk_at "p"
    unfold b_law_towards_2
    walk_at "p"
    refine fnl_own (xs := (twJ r q' r.length).map spD) (Nat.le_refl _) app_at (cb_sp _ _) ?_
    rw [take_app rfl]
    exact q
end
/-! BR6: best rows exchanged: walked. -/
section
variable {N i : Nat} {C : Store} {Q : D → Store → Prop} {X : Exc → Store → Prop} {f : Int × Int → Int} {T : List (List Int)}
theorem mem_best {r : List Int} : r ∈ bestR N f T ↔ r ∈ rowsA N f ∧ cst T r = lstD N f T := by
  unfold bestR bestL
  rw [List.mem_filter, mem_rowsS, decide_eq_true_eq]
theorem lst_le {r : List Int} (hr : r ∈ rowsA N f) : lstD N f T ≤ cst T r := mnL_le _ (List.mem_map.mpr ⟨r, mem_rowsS.mpr hr, rfl⟩)
theorem best_len (hl : Light (numsL N f)) : (bestR N f T).length ≤ 1024 := Nat.le_trans (List.length_filter_le _ _) (rowsS_len hl)
theorem best_ne (hf : FOk N f) : bestR N f T ≠ [] := fun e => by
  have ne := rowsS_ne hf
  obtain ⟨r, hr, h⟩ := List.mem_map.mp (mnL_in (l := (rowsS N f).map (cst T)) fun z => ne (List.map_eq_nil_iff.mp z))
  have : r ∈ bestR N f T := mem_best.mpr ⟨mem_rowsS.mp hr, h⟩
  rw [e] at this
  cases this
theorem set_mid {A : Store} {x y z : Option Cell} : (A ++ [x] ++ [y]).set A.length z = A ++ [z] ++ [y] := by simp
theorem get_mid {A : Store} {x y : Option Cell} : (A ++ [x] ++ [y])[A.length]? = some x := by simp
theorem get_end {A : Store} {x y : Option Cell} : (A ++ [x] ++ [y])[(A ++ [x]).length]? = some y := by simp
theorem get_end2 {A : Store} {x x' y : Option Cell} : (A ++ [x] ++ [y])[(A ++ [x']).length]? = some y := by simp
theorem exchanged_w (hT : Tabs N f T) (h : N ≤ 5) (hf : FOk N f) (hl : Light (numsL N f)) {one other : List Int} (h1 : one ∈ bestR N f T) (h2 : other ∈ bestR N f T) (q : Q (.bl true) C) : wR (m_law_exchanged [webD N f, .lst ((bestR N f T).map tI), tI one, tI other] C) Q X := by
  obtain ⟨g1, c1⟩ := mem_best.mp h1
  obtain ⟨g2, c2⟩ := mem_best.mp h2
  have l1 := ((mem_rowsA hf).mp g1).1
  have l2 := ((mem_rowsA hf).mp g2).1
  have hL : ∀ r ∈ bestR N f T, SmR r := fun r hr => row_sm h hf (mem_best.mp hr).1
  rw [e_law_exchanged]
  apply w_fin
  unfold b_law_exchanged b_law_exchanged_0
  walk_at "p"
  refine law_towards_w (by omega) (by omega) ?_
  walk_at "p"
  refine loopM (l := twL one other) (enc := spD) (pure_C _) (fun j sl S => ∃ (Y : Store) (t4 t5 t6 t7 t8 t9 t10 t11 : Option D), S = C ++ Y ∧ sl = [some (webD N f), some (.lst ((bestR N f T).map tI)), some (tI one), some (tI other), t4, t5, t6, t7, t8, t9, t10, t11]) ⟨[], none, none, none, none, none, none, none, none, by simp, rfl⟩ ?_ ?_
  · rintro j s sl S hj ⟨Y, t4, t5, t6, t7, t8, t9, t10, t11, rfl, rfl⟩
    have sm := List.mem_of_getElem? hj
    have s1 : s.1 < N := by have := (mem_tw.mp sm).1; omega
    have ne := sec_ne hf g1 g2 sm
    have all := fun t => best_sec (m := lstD N f T) hf hT (fun r hr => lst_le hr) g1 g2 c1 c2 sm (t := t)
    have fl : (upL one s.1 s.2).length = N := by rw [upL_len]; exact l1
    have bl : (upL other s.1 (-s.2)).length = N := by rw [upL_len]; exact l2
    refine ⟨_, rfl, ?_⟩
    walk_at "w"
    unfold b_law_exchanged_0b_0
    walk_at "p"
    refine lmoved1_w (by omega) ?_
    walk_at "p"
    unfold b_law_exchanged_0b_1
    walk_at "p"
    refine wo_ix (xs := [.int s.1, .int s.2]) (k := 0) rfl rfl rfl ?_
    walk_at "p"
    refine wo_ix (xs := [.int s.1, .int s.2]) (k := 1) rfl rfl rfl ?_
    walk_at "p"
    refine lmoved1_w (s := (s.1, -s.2)) (by simp only; omega) ?_
    walk_at "p"
    unfold b_law_exchanged_0b_2
    walk_at "p"
    unfold b_law_exchanged_0b_3
    walk_at "p"
    refine second_w h hf hl l1 l2 s1 ?_
    walk_at "p"
    have lb : (secL (rowsA N f) one other s).length ≤ 5 := by
      unfold secL
      have a := List.length_filter_le (secB (rowsA N f) (upL one s.1 s.2) (upL other s.1 (-s.2))) (twL (upL one s.1 s.2) other)
      have b := tw_len (upL one s.1 s.2) other
      omega
    generalize hsec : secL (rowsA N f) one other s = sec at ne all lb
    refine w_itC (xs := sec.map spD) get_end ?_
    refine loopMo (l := sec) (enc := spD) (on_cell (i := (C ++ Y ++ [some (Cell.lst [])]).length) (xs := sec.map spD)) (fun j sl S => ∃ (t8 t9 t10 t11 : Option D), S = C ++ Y ++ [some (.lst ((List.replicate j true).map .bl))] ++ [some (.lst (sec.map spD))] ∧ sl = [some (webD N f), some (.lst ((bestR N f T).map tI)), some (tI one), some (tI other), some (spD s), some (tI (upL one s.1 s.2)), some (tI (upL other s.1 (-s.2))), some (.cell (C ++ Y).length), t8, t9, t10, t11]) (fun j sl S z => by
      obtain ⟨t8, t9, t10, t11, rfl, _⟩ := z
      exact get_end2) ⟨t8, t9, t10, t11, rfl, rfl⟩ ?_ ?_
    · rintro j' t sl S hj' ⟨t8, t9, t10, t11, rfl, rfl⟩
      have tm := List.mem_of_getElem? hj'
      have j1 := (List.getElem?_eq_some_iff.mp hj').1
      obtain ⟨n1, n2⟩ := all t tm
      have m1 := mem_best.mpr n1
      have m2 := mem_best.mpr n2
      have t1 : t.1 < N := by
        have := tm
        rw [← hsec] at this
        unfold secL at this
        have := (mem_tw.mp (List.mem_filter.mp this).1).1
        omega
      refine ⟨[some (webD N f), some (.lst ((bestR N f T).map tI)), some (tI one), some (tI other), some (spD s), some (tI (upL one s.1 s.2)), some (tI (upL other s.1 (-s.2))), some (.cell (C ++ Y).length), some (.int t.1), some (.int t.2), t10, t11], rfl, ?_⟩
      walk_at "w"
      unfold b_law_exchanged_0b_3b_0
      walk_at "p"
      refine lmoved1_w (s := t) (by omega) ?_
      walk_at "p"
      refine lmoved1_w (s := (t.1, -t.2)) (by simp only; omega) ?_
      walk_at "p"
      refine ⟨_, rfl, ?_⟩
      walk_at "p"
      unfold b_law_exchanged_0b_3b_1
      walk_at "w"
      refine w_append ?_
      walk_at "p"
      refine ⟨by simp only [vL, get_mid]; rfl, ?_⟩
      walk_at "p"
      refine wo_of (in_rows (hL _ m1) hL false) ?_
      rw [if_neg (by decide), decide_eq_true m1]
      walk_at "p"
      refine wo_of (in_rows (hL _ m2) hL false) ?_
      rw [if_neg (by decide), decide_eq_true m2]
      walk_at "p"
      refine ⟨(C ++ Y).length, (List.replicate j' true).map .bl, by simp only [cL, get_mid], by simp, by rw [List.length_map, List.length_replicate]; omega, ?_⟩
      refine lp_nx ⟨_, _, _, _, ?_, rfl⟩
      rw [set_mid, List.replicate_succ', List.map_append]
      rfl
    · rintro sl S ⟨t8, t9, t10, t11, rfl, rfl⟩
      walk_at "p"
      unfold b_law_exchanged_0b_4
      walk_at "p"
      refine wo_of (in_true (bs := List.replicate sec.length true) true get_mid) ?_
      have tr : true ∈ List.replicate sec.length true := List.mem_replicate.mpr ⟨fun z => ne (List.length_eq_zero_iff.mp z), rfl⟩
      rw [if_pos rfl, decide_eq_true tr]
      walk_at "p"
      exact ⟨Y ++ [_] ++ [_], _, _, _, _, _, _, _, _, by simp only [List.append_assoc]; rfl, rfl⟩
  · rintro sl S ⟨Y, t4, t5, t6, t7, t8, t9, t10, t11, rfl, rfl⟩
    walk_at "p"
    unfold b_law_exchanged_1
    walk_at "p"
    rw [take_app rfl]
    exact q
end
/-! LSTp: light ties (plain law). -/
section
variable {N : Nat} {L : List T3} {t : T3} {p : Int × Int} {zs : List (Int × Int)} {cap left n : Int} {j : Nat}
theorem fL_is (L : List T3) (p : Int × Int) : fL L p = tot L p := dg0_sums L p
theorem fL_app (L : List T3) (t : T3) (p : Int × Int) : fL (L ++ [t]) p = fL L p + if pr t = p then t.2.2 else 0 := by
  rw [fL_is, fL_is]
  unfold tot
  rw [List.map_append, List.sum_append]
  simp
theorem fL_no : ∀ {L : List T3}, (∀ s ∈ L, pr s ≠ p) → fL L p = 0 := by
  intro L h
  rw [fL_is]
  induction L with
  | nil => rfl
  | cons s L ih =>
    rw [tot_cons, ih fun x hx => h x (List.mem_cons_of_mem _ hx), if_neg (h s (List.mem_cons_self ..))]
    rfl
theorem fL_nn {L : List T3} (h : ∀ s ∈ L, 0 ≤ s.2.2) (p : Int × Int) : 0 ≤ fL L p := by
  rw [fL_is]
  induction L with
  | nil => exact Int.le_refl _
  | cons s L ih =>
    rw [tot_cons]
    have a := h s (List.mem_cons_self ..)
    have b := ih fun x hx => h x (List.mem_cons_of_mem _ hx)
    split <;> omega
theorem fold_mul : ∀ (l : List Int) (a : Int), l.foldl (fun a n => a * (n + 1)) a = a * prodN l
  | [], a => by simp [prodN]
  | n :: l, a => by
    show l.foldl (fun a n => a * (n + 1)) (a * (n + 1)) = a * l.foldl (fun a n => a * (n + 1)) (1 * (n + 1))
    rw [fold_mul l (a * (n + 1)), fold_mul l (1 * (n + 1)), Int.one_mul, Int.mul_assoc]
theorem prod_cons (n : Int) (l : List Int) : prodN (n :: l) = (n + 1) * prodN l := by
  show l.foldl (fun a n => a * (n + 1)) (1 * (n + 1)) = _
  rw [fold_mul, Int.one_mul]
theorem prod_perm {l m : List Int} (h : l.Perm m) : prodN l = prodN m := by
  induction h with
  | nil => rfl
  | cons x _ ih => rw [prod_cons, prod_cons, ih]
  | swap x y l => rw [prod_cons, prod_cons, prod_cons, prod_cons, ← Int.mul_assoc, ← Int.mul_assoc, Int.mul_comm (y + 1)]
  | trans _ _ i1 i2 => exact i1.trans i2
theorem prod_each {l : List Int} (h : ∀ n ∈ l, 0 ≤ n) : ∀ n ∈ l, n + 1 ≤ prodN l := by
  induction l using snoc_ind with
  | h0 => simp
  | h1 l x ih =>
    intro n hn
    have k := prod_le h
    rcases List.mem_append.mp hn with hn | hn
    · have := ih (fun y hy => h y (List.mem_append_left _ hy)) n hn
      omega
    · rw [List.mem_singleton.mp hn]
      exact k.2
/-- ties that leave room for so many choices -/
structure LI (N : Nat) (cap : Int) (zs : List (Int × Int)) (j : Nat) (L : List T3) (left : Int) : Prop where
  v : ∀ t ∈ L, ValidT N t ∧ 0 < t.2.2
  m : ∀ t ∈ L, pr t ∈ zs.take j
  p : prodN ((zs.take j).map (fL L)) * left ≤ cap
  l : 1 ≤ left
  n : L.length ≤ j
theorem li_0 (h : 1 ≤ cap) : LI N cap zs 0 [] cap := ⟨by simp, by simp, by simp [prodN], h, Nat.le_refl _⟩
theorem pairs_up (hp : p ∈ pairsL N) : 0 ≤ p.1 ∧ p.1 < p.2 ∧ p.2 < N := by
  obtain ⟨u, v, h1, h2, rfl⟩ := mem_pairs.mp hp
  simp only
  omega
theorem not_take {α : Type} {zs : List α} {j : Nat} {p : α} (nd : zs.Nodup) (hj : zs[j]? = some p) : p ∉ zs.take j := by
  have h := nd.sublist (List.take_sublist (j + 1) zs)
  rw [take_s1 hj, List.nodup_append] at h
  exact fun hm => h.2.2 p hm p (List.mem_singleton.mpr rfl) rfl
theorem li_new (h : LI N cap zs j L left) (nd : zs.Nodup) (hj : zs[j]? = some p) : ∀ s ∈ L, pr s ≠ p := fun s hs e => not_take nd hj (e ▸ h.m s hs)
theorem li_map (h : LI N cap zs j L left) (nd : zs.Nodup) (hj : zs[j]? = some p) (e : pr t = p) : (zs.take (j + 1)).map (fL (L ++ [t])) = (zs.take j).map (fL L) ++ [t.2.2] := by
  rw [take_s1 hj, List.map_append, List.map_cons, List.map_nil]
  congr 1
  · refine List.map_congr_left fun q hq => ?_
    rw [fL_app, if_neg, Int.add_zero]
    exact fun z => not_take nd hj (e ▸ z ▸ hq)
  · rw [fL_app, if_pos e, fL_no (li_new h nd hj), Int.zero_add]
theorem li_add (h : LI N cap zs j L left) (nd : zs.Nodup) (hj : zs[j]? = some p) (e : pr t = p) (ht : ValidT N t) (h0 : 0 < t.2.2) (h1 : t.2.2 ≤ left - 1) : LI N cap zs (j + 1) (L ++ [t]) (left / (t.2.2 + 1)) := by
  refine ⟨fun s hs => ?_, fun s hs => ?_, ?_, ?_, by rw [List.length_append]; have := h.n; simp; omega⟩
  · rcases List.mem_append.mp hs with hs | hs
    · exact h.v s hs
    · rw [List.mem_singleton.mp hs]
      exact ⟨ht, h0⟩
  · rw [take_s1 hj, List.mem_append]
    rcases List.mem_append.mp hs with hs | hs
    · exact .inl (h.m s hs)
    · rw [List.mem_singleton.mp hs, e]
      exact .inr (List.mem_singleton.mpr rfl)
  · rw [li_map h nd hj e, prod_snoc, Int.mul_assoc]
    have nn : ∀ x ∈ (zs.take j).map (fL L), 0 ≤ x := fun x hx => by
      obtain ⟨q, _, rfl⟩ := List.mem_map.mp hx
      exact fL_nn (fun s hs => Int.le_of_lt (h.v s hs).2) q
    have pp := prod_pos nn
    have d1 : (t.2.2 + 1) * (left / (t.2.2 + 1)) ≤ left := Int.mul_ediv_self_le (by omega)
    have d2 := Int.mul_le_mul_of_nonneg_left d1 (show 0 ≤ prodN ((zs.take j).map (fL L)) by omega)
    have := h.p
    omega
  · have : (1 : Int) * (t.2.2 + 1) ≤ left := by omega
    exact (Int.le_ediv_iff_mul_le (by omega)).mpr this
theorem li_skip (h : LI N cap zs j L left) (nd : zs.Nodup) (hj : zs[j]? = some p) : LI N cap zs (j + 1) L left := by
  refine ⟨h.v, fun s hs => ?_, ?_, h.l, Nat.le_succ_of_le h.n⟩
  · rw [take_s1 hj]
    exact List.mem_append_left _ (h.m s hs)
  · rw [take_s1 hj, List.map_append, List.map_cons, List.map_nil, prod_snoc, fL_no (li_new h nd hj)]
    have := h.p
    rw [Int.zero_add, Int.mul_one]
    exact this
/-- ties of a light web -/
structure LiT (N : Nat) (cap : Int) (L : List T3) : Prop where
  v : ∀ t ∈ L, ValidT N t ∧ 0 < t.2.2
  p : prodN (numsL N (fL L)) ≤ cap
  l : L.length ≤ N * N
theorem lt_of (h : LI N cap zs zs.length L left) (pm : zs.Perm (pairsL N)) : LiT N cap L := by
  have e : prodN (numsL N (fL L)) = prodN (zs.map (fL L)) := (prod_perm (pm.map (fL L))).symm
  have nn : ∀ x ∈ zs.map (fL L), 0 ≤ x := fun x hx => by
    obtain ⟨q, _, rfl⟩ := List.mem_map.mp hx
    exact fL_nn (fun s hs => Int.le_of_lt (h.v s hs).2) q
  have pp := prod_pos nn
  have hp := h.p
  have hl := h.l
  rw [List.take_length] at hp
  have : prodN (zs.map (fL L)) * 1 ≤ prodN (zs.map (fL L)) * left := Int.mul_le_mul_of_nonneg_left hl (by omega)
  have pl := pairs_lenL (N := N)
  have := pm.length_eq
  exact ⟨h.v, by rw [e]; omega, by have := h.n; omega⟩
theorem LiT.nn (h : LiT N cap L) : ∀ p, 0 ≤ fL L p := fL_nn fun s hs => Int.le_of_lt (h.v s hs).2
theorem LiT.out (h : LiT N cap L) (hp : p ∉ pairsL N) : fL L p = 0 := fL_no fun s hs e => by
  obtain ⟨⟨v1, v2, v3, v4, v5, v6, v7⟩, _⟩ := h.v s hs
  refine hp (e ▸ mem_pairs.mpr ⟨(min s.1 s.2.1).toNat, (max s.1 s.2.1).toNat, by omega, by omega, ?_⟩)
  show (min s.1 s.2.1, max s.1 s.2.1) = _
  rw [show (((min s.1 s.2.1).toNat : Nat) : Int) = min s.1 s.2.1 by omega, show (((max s.1 s.2.1).toNat : Nat) : Int) = max s.1 s.2.1 by omega]
theorem LiT.le (h : LiT N cap L) (c1 : 1 ≤ cap) (p : Int × Int) : fL L p ≤ cap - 1 := by
  by_cases hp : p ∈ pairsL N
  · have nn : ∀ x ∈ numsL N (fL L), 0 ≤ x := fun x hx => by
      obtain ⟨q, _, rfl⟩ := List.mem_map.mp hx
      exact h.nn q
    have := prod_each nn (fL L p) (List.mem_map.mpr ⟨p, hp, rfl⟩)
    have := h.p
    omega
  · rw [h.out hp]
    omega
theorem LiT.fok (h : LiT N cap L) (hN : N ≤ 60) (c1 : 1 ≤ cap) (c2 : cap ≤ 1000000000) : FOk N (fL L) := ⟨hN, fun p => ⟨h.nn p, by have := h.le c1 p; omega⟩, fun p hp => h.out hp⟩
theorem LiT.fits (h : LiT N cap L) (hN : N ≤ 60) (c1 : 1 ≤ cap) (c2 : cap ≤ 1000000000) : Fits N L := by
  have := h.l
  have nn : N * N ≤ 60 * 60 := Nat.mul_le_mul hN hN
  exact ⟨hN, fun t ht => (h.v t ht).1, by omega, fun u v _ _ => by have := h.le c1 (min (u : Int) (v : Int), max (u : Int) (v : Int)); omega⟩
theorem LiT.light (h : LiT N cap L) (c2 : cap ≤ 1024) : Light (numsL N (fL L)) := ⟨fun x hx => by
  obtain ⟨q, _, rfl⟩ := List.mem_map.mp hx
  exact h.nn q, by have := h.p; omega⟩
end
/-! LSTn: the law's numbers of a list of ties. -/
def pk (p : Int × Int) : List Int := [p.1, p.2]
theorem pk_inj {p q : Int × Int} (h : pk p = pk q) : p = q := by
  have h1 := List.cons.inj h
  have h2 := List.cons.inj h1.2
  exact Prod.ext h1.1 h2.1
section
variable {N : Nat} {C : Store} {Q : D → Store → Prop} {X : Exc → Store → Prop}
theorem pr_in {t : T3} (h : ValidT N t) : pr t ∈ pairsL N := by
  obtain ⟨v1, v2, v3, v4, v5, v6, v7⟩ := h
  refine mem_pairs.mpr ⟨(min t.1 t.2.1).toNat, (max t.1 t.2.1).toNat, by omega, by omega, ?_⟩
  show (min t.1 t.2.1, max t.1 t.2.1) = _
  rw [show (((min t.1 t.2.1).toNat : Nat) : Int) = min t.1 t.2.1 by omega, show (((max t.1 t.2.1).toNat : Nat) : Int) = max t.1 t.2.1 by omega]
theorem law_numbers_w {L : List T3} (hN : N ≤ 60) (hL : ∀ t ∈ L, ValidT N t) (hl : L.length ≤ 10000) (q : Q (tI (numsL N (fL L))) C) : wR (m_law_numbers [.int N, .lst (L.map triD)] C) Q X := by
  have pl := pairs_lenL (N := N)
  have nn : N * N ≤ 60 * 60 := Nat.mul_le_mul hN hN
  rw [e_law_numbers]
  apply w_fin
  unfold b_law_numbers b_law_numbers_0
  walk_at "w"
  walk_at "w"
  refine w_dnew ?_
  walk_at "p"
  unfold b_law_numbers_1
  walk_at "p"
  refine law_pairs_w hN ?_
  walk_at "p"
  refine loopM (l := pairsL N) (enc := pD) (pure_C _) (fun j sl S => ∃ (d : Rd) (t3 : Option D), S = C ++ [some (cdT' d)] ∧ d.length ≤ j ∧ (∀ p ∈ (pairsL N).take j, rg d (pk p) = some (.int 0)) ∧ sl = [some (.int N), some (.lst (L.map triD)), some (.cell C.length), t3, none, none, none]) ⟨[], none, rfl, Nat.le_refl _, by simp, rfl⟩ ?_ ?_
  · rintro j p sl S hj ⟨d, t3, rfl, dl, dv, rfl⟩
    have jl := (List.getElem?_eq_some_iff.mp hj).1
    refine ⟨_, rfl, ?_⟩
    unfold b_law_numbers_1b_0
    refine w_put ?_
    walk_at "p"
    refine ⟨_, app_put (r := pk p) (Nat.le_refl _) (by omega), ?_⟩
    refine lp_nx ⟨_, _, rfl, by have := rp_len d (pk p) (.int 0); omega, fun p' hp' => ?_, rfl⟩
    rw [rg_put]
    split
    · rfl
    · rename_i ne
      rw [take_s1 hj] at hp'
      rcases List.mem_append.mp hp' with h | h
      · exact dv p' h
      · exact absurd (by rw [List.mem_singleton.mp h]) ne
  · rintro sl S ⟨d, t3, rfl, dl, dv, rfl⟩
    rw [List.take_length] at dv
    walk_at "p"
    unfold b_law_numbers_2
    walk_at "p"
    refine loopM (l := L) (enc := triD) (pure_C _) (fun j sl S => ∃ (d : Rd) (t4 t5 t6 : Option D), S = C ++ [some (cdT' d)] ∧ d.length ≤ 3600 + j ∧ (∀ p ∈ pairsL N, rg d (pk p) = some (.int (fL (L.take j) p))) ∧ sl = [some (.int N), some (.lst (L.map triD)), some (.cell C.length), t3, t4, t5, t6]) ⟨d, none, none, none, rfl, by omega, fun p hp => by rw [dv p hp]; rfl, rfl⟩ ?_ ?_
    · rintro j t sl S hj ⟨d, t4, t5, t6, rfl, dl, dv, rfl⟩
      have jl := (List.getElem?_eq_some_iff.mp hj).1
      have tm := List.mem_of_getElem? hj
      refine ⟨[some (.int N), some (.lst (L.map triD)), some (.cell C.length), t3, some (.int t.1), some (.int t.2.1), some (.int t.2.2)], rfl, ?_⟩
      unfold b_law_numbers_2b_0
      refine w_augD ?_
      walk_at "p"
      refine ⟨C.length, d, pk (pr t), _, rfl, rfl, app_at, dv _ (pr_in (hL t tm)), ?_⟩
      walk_at "p"
      refine ⟨app_at, Nat.le_refl _, by omega, ?_⟩
      rw [app_set]
      refine lp_nx ⟨_, _, _, _, rfl, by have := rp_len d (pk (pr t)) (.int (fL (L.take j) (pr t) + t.2.2)); omega, fun p hp => ?_, rfl⟩
      rw [rg_put, take_s1 hj, fL_app]
      by_cases e : pk p = pk (pr t)
      · rw [if_pos e, if_pos (pk_inj e).symm, pk_inj e]
      · rw [if_neg e, if_neg (fun z => e (by rw [z])), Int.add_zero, dv p hp]
    · rintro sl S ⟨d, t4, t5, t6, rfl, dl, dv, rfl⟩
      rw [List.take_length] at dv
      walk_at "p"
      unfold b_law_numbers_3
      walk_at "p"
      refine law_pairs_w hN ?_
      walk_at "p"
      refine lcY (l := pairsL N) (enc := pD) (pure_C _) (fun p => .int (fL L p)) (by omega) (fun p hp => ⟨_, rfl, fun acc => ?_⟩) (fun _ _ => rfl) ?_
      · walk_at "p"
        have at2 : (accS (C ++ [some (cdT' d)]) acc)[C.length]? = some (some (cdT' d)) := by
          rw [List.getElem?_append_left (by simp)]
          exact app_at
        exact wo_of (dix_rd (r := pk p) (vD_c at2) (dv p hp)) ⟨rfl, rfl⟩
      · walk_at "p"
        have e : (pairsL N).map (fun p => D.int (fL L p)) = (numsL N (fL L)).map .int := by
          unfold numsL
          rw [List.map_map]
          rfl
        rw [e]
        refine fnl_p (cb_tI 0 _) ?_
        rw [take_app rfl]
        exact q
end
/-! GRS: the law's grid: its store (split off TU5). -/
def rowG (N : Nat) (G : Nat → Nat → Int) (u : Nat) : List Int := (List.range N).map fun v => G u v
def gridS (C : Store) (N : Nat) (G : Nat → Nat → Int) : Store := C ++ [some (.lst ((List.range N).map fun u => D.cell (C.length + 1 + u)))] ++ (List.range N).map fun u => some (Cell.lst ((rowG N G u).map .int))
theorem gridS_out {C : Store} {N : Nat} {G : Nat → Nat → Int} : (gridS C N G)[C.length]? = some (some (.lst ((List.range N).map fun u => D.cell (C.length + 1 + u)))) := by
  unfold gridS
  simp
theorem gridS_in {C : Store} {N u : Nat} {G : Nat → Nat → Int} (hu : u < N) : (gridS C N G)[C.length + 1 + u]? = some (some (.lst ((rowG N G u).map .int))) := by
  unfold gridS
  rw [List.getElem?_append_right (by simp)]
  have e : C.length + 1 + u - (C ++ [some (Cell.lst ((List.range N).map fun u => D.cell (C.length + 1 + u)))]).length = u := by simp
  rw [e, List.getElem?_map, List.getElem?_range hu]
  rfl
def bump (G : Nat → Nat → Int) (u v : Nat) (x : Int) : Nat → Nat → Int := fun a b => if a = u ∧ b = v then G a b + x else G a b
theorem rowG_bump {N : Nat} {G : Nat → Nat → Int} {u v : Nat} {x : Int} (hv : v < N) : (rowG N G u).set v (G u v + x) = rowG N (bump G u v x) u := by
  unfold rowG
  refine List.ext_getElem? fun k => ?_
  by_cases hk : k < N
  · by_cases e : v = k
    · subst e
      rw [List.getElem?_set_self (by simpa using hk), List.getElem?_map, List.getElem?_range hk]
      simp [bump]
    · rw [List.getElem?_set_ne e, List.getElem?_map, List.getElem?_map, List.getElem?_range hk]
      simp [bump, Ne.symm e]
  · rw [List.getElem?_eq_none (by simp; omega), List.getElem?_eq_none (by simp; omega)]
theorem gridS_set {C : Store} {N u v : Nat} {G : Nat → Nat → Int} {x : Int} (hu : u < N) (hv : v < N) : (gridS C N G).set (C.length + 1 + u) (some (.lst (((rowG N G u).map D.int).set v (.int (G u v + x))))) = gridS C N (bump G u v x) := by
  unfold gridS
  rw [List.set_append_right _ _ (by simp)]
  have e : C.length + 1 + u - (C ++ [some (Cell.lst ((List.range N).map fun u => D.cell (C.length + 1 + u)))]).length = u := by simp
  rw [e]
  congr 1
  refine List.ext_getElem? fun k => ?_
  by_cases hk : k < N
  · by_cases e : u = k
    · subst e
      rw [List.getElem?_set_self (by simpa using hk), List.getElem?_map, List.getElem?_range hk, ← List.map_set, rowG_bump hv]
      rfl
    · rw [List.getElem?_set_ne e, List.getElem?_map, List.getElem?_map, List.getElem?_range hk]
      have : rowG N G k = rowG N (bump G u v x) k := by
        unfold rowG
        refine List.map_congr_left fun w _ => ?_
        unfold bump
        rw [if_neg fun z => e z.1.symm]
      show some (some (Cell.lst ((rowG N G k).map .int))) = some (some (Cell.lst ((rowG N (bump G u v x) k).map .int)))
      rw [this]
  · rw [List.getElem?_eq_none (by simp; omega), List.getElem?_eq_none (by simp; omega)]
section
variable {C S : Store} {Q : D → Store → Prop} {X : Exc → Store → Prop} {N fl : Nat} {P : RS → Prop} {L : List T3} {s0 s1 s3 s4 s5 : Option D}
/-- one place of the grid is raised -/
theorem bump_w {io iv ia : Nat} {sl : List (Option D)} {G : Nat → Nat → Int} {u v : Nat} {x : Int} (h2 : sl[2]? = some (some (.cell C.length))) (hu' : sl[io]? = some (some (.int u))) (hv' : sl[iv]? = some (some (.int v))) (ha : sl[ia]? = some (some (.int x))) (hu : u < N) (hv : v < N)
    (q : P (.nx sl (gridS C N (bump G u v x)))) : wS (sAugL (· + ·) (mOp oIx (mVar 2) (mVar io)) (mVar iv) (mVar ia) ⟨C.length, sl⟩ (gridS C N G)) P := by
  refine w_augL (w_op (w_var h2 (w_var hu' ?_)))
  refine wo_ix (x := .cell C.length) (xs := (List.range N).map fun u => D.cell (C.length + 1 + u)) (k := u) (d := .cell (C.length + 1 + u)) (by simp only [vS, gridS_out]) rfl (by rw [List.getElem?_map, List.getElem?_range hu]; rfl) ?_
  refine w_var hv' ⟨v, C.length + 1 + u, (rowG N G u).map .int, G u v, rfl, by simp only [cL, gridS_in hu], ?_, ?_⟩
  · rw [List.getElem?_map, rowG, List.getElem?_map, List.getElem?_range hv]
    rfl
  · refine w_var ha ⟨x, (rowG N G u).map .int, gridS C N (bump G u v x), rfl, by simp only [cL, gridS_in hu], by simpa [rowG] using hv, ?_, q⟩
    rw [wr_hi (by omega), gridS_set hu hv]
theorem grid0_w {sl : List (Option D)} {fl0 : Nat} (hN : N ≤ 60) (h0 : sl[0]? = some (some (.int N))) (q : Q (.cell C.length) (gridS C N fun _ _ => 0)) :
    wR (mLc true (mRng1 (mVar 0)) (Tgt.nm 4).M tYesM (mOp (oRep true) (mAp (oLst false) (mCons (mC (.int 0)) mNil)) (mVar 0)) [4] ⟨fl0, sl⟩ C) Q X := by
  refine w_lcO (w_rng1 (w_var h0 ⟨(N : Int), rfl, inR_of (by omega) (by omega), ?_⟩))
  have eN : (N : Int).toNat = N := by omega
  rw [eN]
  have zr : ∀ S : Store, oRep true (.lst [.int 0]) (.int N) S = some (.cell S.length, S ++ [some (.lst ((rowG N (fun _ _ => 0) 0).map .int))]) := fun S => by
    have s1 : decide ((N : Int) < 2 ^ 63) = true := decide_eq_true (by omega)
    have s2 : decide (-(2 ^ 63) ≤ (N : Int)) = true := decide_eq_true (by omega)
    have s3 : szN ([D.int 0].length * N) = true := by simp [szN]; omega
    have e : ∀ n : Nat, (List.replicate n [D.int 0]).flatten = ((List.range n).map fun _ => (0 : Int)).map .int := fun n => by
      induction n with
      | zero => rfl
      | succ n ih =>
        rw [List.replicate_succ', List.flatten_append, ih, List.range_succ, List.map_append, List.map_append]
        rfl
    unfold oRep
    simp only [vL, eN, s1, s2, s3, Bool.and_self, if_true, e]
    rfl
  obtain ⟨acc, C', e, c, i⟩ := lc_w (tt := tYesM) (te := mOp (oRep true) (mAp (oLst false) (mCons (mC (.int 0)) mNil)) (mVar 0)) (g := (Tgt.nm 4).M) (n := C.length) (sl := wipeD sl [4]) ((pure_R 0 N).on fun _ => True)
    (fun j acc S => j ≤ N ∧ acc = (List.range j).map (fun u => D.cell (C.length + 1 + u)) ∧ S = C ++ [some (.lst ((List.range j).map fun u => D.cell (C.length + 1 + u)))] ++ (List.range j).map fun u => some (Cell.lst ((rowG N (fun _ _ => 0) u).map .int))) (fun _ _ _ _ => trivial)
    (fun j acc S z => by rw [z.2.1, List.length_map, List.length_range]; have := z.1; omega) (fun j x acc S hx hc z => by
      obtain ⟨hj, rfl, rfl⟩ := z
      have hj1 : j < N := by
        have := (List.getElem?_eq_some_iff.mp hx).1
        simpa [rngI] using this
      refine ⟨(wipeD sl [4]).set 4 (some x), rfl, w_yes (wI_t (w_op (w_ap (w_cons (w_c (w_nil (wo_lstF (by with_unfolding_all rfl) (w_var ?_ (wo_of (zr _) ?_)))))))))⟩
      · show ((sl.set 4 none).set 4 (some x))[0]? = _
        rw [List.getElem?_set_ne (by decide), List.getElem?_set_ne (by decide)]
        exact h0
      · have hlen : (C ++ [some (Cell.lst ((List.range j).map fun u => D.cell (C.length + 1 + u)))] ++ (List.range j).map fun u => some (Cell.lst ((rowG N (fun _ _ => 0) u).map D.int))).length = C.length + 1 + j := by simp; omega
        refine ⟨(List.range j).map fun u => D.cell (C.length + 1 + u), ?_, by rw [List.length_map, List.length_range]; omega, ⟨by omega, ?_, ?_⟩, by simp⟩
        · rw [List.getElem?_append_left (by rw [hlen]; omega)]
          exact hc
        · rw [hlen, List.range_succ, List.map_append]
          rfl
        · rw [hlen, List.range_succ, List.map_append, List.map_append]
          simp [rowG]) N 0 [] (C ++ [some (.lst [])]) (by simp [rngI]) (by simp) ⟨Nat.zero_le _, rfl, by simp⟩
  obtain ⟨_, rfl, rfl⟩ := i
  unfold mLc
  simp only [bnd_ok]
  have e' := e
  have en : (itR 0 N).n = N := rfl
  rw [en, e']
  simp only [bn0_ok]
  unfold lcEnd
  rw [if_pos rfl]
  have er : (rngI 0 N).length = N := by simp [rngI]
  rw [er]
  exact w_ok q
theorem tot_snoc (L : List T3) (t : T3) (k : Int × Int) : tot (L ++ [t]) k = tot L k + (if pr t = k then t.2.2 else 0) := by
  rw [tot_app]
  congr 1
  rw [tot_cons]
  simp [tot]
theorem bump_two {L : List T3} {u v : Nat} {x : Int} (ne : u ≠ v) (a b : Nat) : bump (bump (fun a b => tot L (min (a : Int) b, max (a : Int) b)) u v x) v u x a b = tot (L ++ [((u : Int), (v : Int), x)]) (min (a : Int) b, max (a : Int) b) := by
  rw [tot_snoc]
  unfold bump pr
  by_cases h1 : a = u ∧ b = v
  · obtain ⟨rfl, rfl⟩ := h1
    rw [if_neg (by omega), if_pos ⟨rfl, rfl⟩, if_pos rfl]
  · by_cases h2 : a = v ∧ b = u
    · obtain ⟨rfl, rfl⟩ := h2
      rw [if_pos ⟨rfl, rfl⟩, if_neg (by omega), if_pos (by
        show (min (b : Int) (a : Int), max (b : Int) (a : Int)) = (min (a : Int) b, max (a : Int) b)
        rw [show min (b : Int) (a : Int) = min (a : Int) b by omega, show max (b : Int) (a : Int) = max (a : Int) b by omega])]
    · rw [if_neg h2, if_neg h1, if_neg]
      · exact (Int.add_zero _).symm
      · intro z
        have z : (min (u : Int) (v : Int), max (u : Int) (v : Int)) = (min (a : Int) b, max (a : Int) b) := z
        injection z with z1 z2
        omega
end
/-! BR1: the law's grid of ties told as a list. -/
section
variable {C S : Store} {Q : D → Store → Prop} {X : Exc → Store → Prop} {N fl : Nat} {P : RS → Prop} {L : List T3} {s0 s1 s3 s4 s5 : Option D}
theorem lgrid_w (hN : N ≤ 60) (hv : ∀ t ∈ L, ValidT N t) (q : Q (gridD (rowsOf N (fL L))) C) : wR (m_law_grid [.int N, .lst (L.map triD)] C) Q X := by
  rw [e_law_grid]
  have fin : ∀ sl : List (Option D), sl[2]? = some (some (.cell C.length)) → wR (finNS C.length (b_law_grid_2 ⟨C.length, sl⟩ (gridS C N fun a b => tot L (min (a : Int) b, max (a : Int) b)))) Q X := fun sl h2 => by
    have e : b_law_grid_2 ⟨C.length, sl⟩ (gridS C N fun a b => tot L (min (a : Int) b, max (a : Int) b)) = .rt (.cell C.length) (gridS C N fun a b => tot L (min (a : Int) b, max (a : Int) b)) := by
      unfold b_law_grid_2
      show bndS _ (mVar 2 ⟨C.length, sl⟩ _) _ = _
      have : mVar 2 ⟨C.length, sl⟩ (gridS C N fun a b => tot L (min (a : Int) b, max (a : Int) b)) = .ok (.cell C.length) (gridS C N fun a b => tot L (min (a : Int) b, max (a : Int) b)) := by
        show (match sl[2]? with
          | some (some d) => R.ok d _
          | _ => R.stuck) = _
        rw [h2]
      rw [this]
      rfl
    rw [e]
    show wR (finN C.length (.cell C.length) _) Q X
    generalize hG : (fun a b : Nat => tot L (min (a : Int) b, max (a : Int) b)) = G
    have intz : ∀ (k : Nat) (l : List Int), (l.map D.int).map (fzF k C.length (gridS C N G)) = l.map D.int := fun k l => by
      rw [List.map_map]
      refine List.map_congr_left fun x _ => ?_
      cases k <;> rfl
    have inner : ∀ u, u < N → fzF 2 C.length (gridS C N G) (.cell (C.length + 1 + u)) = .lst ((rowG N G u).map .int) := fun u hu => by
      unfold fzF
      simp only [if_neg (show ¬ C.length + 1 + u < C.length by omega), gridS_in hu, intz]
    have outer : fzF 3 C.length (gridS C N G) (.cell C.length) = .lst (((List.range N).map fun u => rowG N G u).map fun r => .lst (r.map .int)) := by
      unfold fzF
      simp only [if_neg (Nat.lt_irrefl C.length), gridS_out]
      rw [List.map_map, List.map_map]
      congr 1
      exact List.map_congr_left fun u hu => inner u (List.mem_range.mp hu)
    unfold finN
    have cg := cb_grid C.length ((List.range N).map fun u => rowG N G u)
    unfold gridD at cg
    rw [outer, if_pos cg]
    have tk : (gridS C N G).take C.length = C := by
      unfold gridS
      rw [List.append_assoc, take_app rfl]
    rw [tk]
    refine w_ok ?_
    have e2 : ((List.range N).map fun u => rowG N G u) = rowsOf N (fL L) := by
      unfold rowsOf rowG fL
      refine List.map_congr_left fun u _ => List.map_congr_left fun v _ => ?_
      rw [← hG, dg0_sums]
    have q2 := q
    unfold gridD at q2
    rw [← e2] at q2
    exact q2
  have body : wS (b_law_grid ⟨C.length, [some (.int N), some (.lst (L.map triD)), none, none, none, none]⟩ C) (fun r => wR (finNS C.length r) Q X) := by
    unfold b_law_grid b_law_grid_0
    refine w_seq (w_asg (grid0_w hN rfl ?_))
    refine thn_nx (w_seq ?_)
    unfold b_law_grid_1
    walk_at "p"
    refine loop_o ((pure_C (L.map triD)).on fun _ => True) (fun j sl S => S = gridS C N (fun a b => tot (L.take j) (min (a : Int) b, max (a : Int) b)) ∧ ∃ t3 t4 t5, sl = [some (.int N), some (.lst (L.map triD)), some (.cell C.length), t3, t4, t5]) (fun _ _ _ _ => trivial) ⟨by
      congr 1, none, none, none, rfl⟩ ?_ ?_
    · rintro j y sl S hy ⟨rfl, t3, t4, t5, rfl⟩
      rw [List.getElem?_map] at hy
      obtain ⟨t, ht, rfl⟩ := Option.map_eq_some_iff.mp hy
      obtain ⟨a1, a2, a3, a4, a5, a6, a7⟩ := hv t (List.mem_of_getElem? ht)
      have tk := take_s1 ht
      obtain ⟨u0, v0, x⟩ := t
      simp only at a1 a2 a3 a4 a5 a6 a7
      obtain ⟨u, rfl⟩ : ∃ u : Nat, u0 = u := ⟨u0.toNat, by omega⟩
      obtain ⟨v, rfl⟩ : ∃ v : Nat, v0 = v := ⟨v0.toNat, by omega⟩
      refine ⟨_, rfl, ?_⟩
      unfold b_law_grid_1b_0 b_law_grid_1b_1
      refine w_seq (bump_w (u := u) (v := v) (x := x) rfl rfl rfl rfl (by omega) (by omega) ?_)
      refine thn_nx (bump_w (u := v) (v := u) (x := x) rfl rfl rfl rfl (by omega) (by omega) ?_)
      refine lp_nx ⟨?_, _, _, _, rfl⟩
      rw [tk]
      congr 1
      funext a b
      exact bump_two (by omega) a b
    · rintro sl S ⟨rfl, t3, t4, t5, rfl⟩
      rw [List.length_map, List.take_length]
      exact thn_nx ⟨fin _ rfl⟩
  exact body.h
end
/-! BR7: k85: limits and tables of the law. -/
/-- the degrees of a web -/
def degG (N : Nat) (f : Int × Int → Int) : List Int := (rowsOf N f).map List.sum
/-- tables told so far -/
structure TabJ (N : Nat) (f : Int × Int → Int) (j : Nat) (T : List (List Int)) : Prop where
  len : T.length = j
  cvx : ∀ v, v < j → Cvx (T.getD v [])
  big : ∀ v, v < j → ((T.getD v []).length : Int) = FF.dgr N (grO f) v + 1
section
variable {N i : Nat} {C : Store} {Q : D → Store → Prop} {X : Exc → Store → Prop} {P : RS → Prop} {f : Int × Int → Int} {T : List (List Int)}
theorem degG_at {v : Nat} (hv : v < N) : (degG N f)[v]? = some (FF.dgr N (grO f) v) := by
  unfold degG rowsOf
  rw [List.map_map, List.getElem?_map, List.getElem?_range hv]
  rfl
theorem degG_len : (degG N f).length = N := by simp [degG, rowsOf]
theorem deg_le (h : N ≤ 5) (hb : ∀ p, 0 ≤ f p ∧ f p ≤ 100) (v : Nat) : 0 ≤ FF.dgr N (grO f) v ∧ FF.dgr N (grO f) v ≤ 500 := by
  have a : FF.dgr N (grO f) v ≤ FF.sm N fun _ => 100 := FF.sm_le fun u _ => (hb _).2
  rw [sm_k] at a
  exact ⟨FF.sm_pos fun u _ => (hb _).1, by omega⟩
theorem tab_snoc {j : Nat} {t : List Int} (h : TabJ N f j T) (hc : Cvx t) (hl : (t.length : Int) = FF.dgr N (grO f) j + 1) : TabJ N f (j + 1) (T ++ [t]) := by
  have e : ∀ v, v < j → (T ++ [t]).getD v [] = T.getD v [] := fun v hv => by
    rw [List.getD_eq_getElem?_getD, List.getD_eq_getElem?_getD, List.getElem?_append_left (by rw [h.len]; exact hv)]
  have e2 : (T ++ [t]).getD j [] = t := by
    rw [List.getD_eq_getElem?_getD, List.getElem?_append_right (by rw [h.len]; exact Nat.le_refl _), h.len, Nat.sub_self]
    rfl
  refine ⟨by rw [List.length_append, h.len]; rfl, fun v hv => ?_, fun v hv => ?_⟩
  · by_cases k : v = j
    · rw [k, e2]; exact hc
    · rw [e v (by omega)]; exact h.cvx v (by omega)
  · by_cases k : v = j
    · rw [k, e2]; exact hl
    · rw [e v (by omega)]; exact h.big v (by omega)
theorem rep5 (n : Nat) (h1 : 1 ≤ n) (h2 : n ≤ 1000) (S : Store) : oRepA (.tup [.int 5]) (.int n) S = some (tI (List.replicate n 5), S) := by
  have e : ∀ n : Nat, (List.replicate n [D.int 5]).flatten = (List.replicate n (5 : Int)).map .int := fun n => by
    induction n with
    | zero => rfl
    | succ n ih =>
      rw [List.replicate_succ, List.flatten_cons, ih, List.replicate_succ]
      rfl
  by_cases k : n = 1
  · subst k
    rfl
  · have c1 : ((n : Int) = 1) = False := eq_false (by omega)
    have a1 : decide (2 ≤ (n : Int)) = true := decide_eq_true (by omega)
    have a2 : decide ((n : Int) ≤ 1000) = true := decide_eq_true (by omega)
    have eN : (n : Int).toNat = n := by omega
    show (if (n : Int) = 1 then some (D.tup [.int 5], S) else oRepT (.tup [.int 5]) (.int n) S) = _
    rw [if_neg (by omega)]
    show (if (decide (2 ≤ (n : Int)) && (decide ((n : Int) ≤ 1000) && (true && true))) = true then some (D.tup (List.replicate (n : Int).toNat [D.int 5]).flatten, S) else none) = _
    rw [a1, a2, eN, e]
    rfl
theorem max3_w (a b c : Int) (S : Store) : oMax3 [.int a, .int b, .int c] S = some (.int (max (max a b) c), S) := by
  have e : (if c > (if b > a then b else a) then c else (if b > a then b else a)) = max (max a b) c := by
    by_cases h1 : b > a
    · rw [if_pos h1]
      by_cases h2 : c > b
      · rw [if_pos h2]; omega
      · rw [if_neg h2]; omega
    · rw [if_neg h1]
      by_cases h2 : c > a
      · rw [if_pos h2]; omega
      · rw [if_neg h2]; omega
  show some (D.int (if c > (if b > a then b else a) then c else (if b > a then b else a)), S) = _
  rw [e]
theorem tables_w {menu : Int} {z0 z2 z3 z4 z5 z6 z8 z11 z12 z13 z14 z15 z16 z17 z18 z19 z20 z21 : Option D} (h : N ≤ 5) (hb : ∀ p, 0 ≤ f p ∧ f p ≤ 100) (hB : Bg 0 C)
    (q : ∀ T C' t11 t12, TabJ N f N T → Bg 0 C' → C'.length = C.length → P (.nx [z0, some (.cell 0), z2, z3, z4, z5, z6, some (.lst ((degG N f).map .int)), z8, some (.int menu), some (.cell C.length), t11, t12, z13, z14, z15, z16, z17, z18, z19, z20, z21] (C' ++ [some (.lst (T.map tI))]))) :
    wS (b_law_1b_7 ⟨0, [z0, some (.cell 0), z2, z3, z4, z5, z6, some (.lst ((degG N f).map .int)), z8, some (.int menu), some (.cell C.length), z11, z12, z13, z14, z15, z16, z17, z18, z19, z20, z21]⟩ (C ++ [some (.lst [])])) P := by
  unfold b_law_1b_7
  walk_at "w"
  walk_at "p"
  refine loopM (l := degG N f) (enc := D.int) (pure_C _) (fun j sl S => ∃ T C' t11 t12, TabJ N f j T ∧ Bg 0 C' ∧ C'.length = C.length ∧ S = C' ++ [some (.lst (T.map tI))] ∧ sl = [z0, some (.cell 0), z2, z3, z4, z5, z6, some (.lst ((degG N f).map .int)), z8, some (.int menu), some (.cell C.length), t11, t12, z13, z14, z15, z16, z17, z18, z19, z20, z21]) ⟨[], C, z11, z12, ⟨rfl, fun v hv => by omega, fun v hv => by omega⟩, hB, rfl, rfl, rfl⟩ ?_ ?_
  · rintro j x sl S hj ⟨T, C', t11, t12, tj, hB, cl, rfl, rfl⟩
    have j1 : j < N := by
      have := (List.getElem?_eq_some_iff.mp hj).1
      rwa [degG_len] at this
    rw [degG_at j1] at hj
    obtain ⟨d0, d1⟩ := deg_le h hb j
    generalize hd : FF.dgr N (grO f) j = dg at hj d0 d1
    obtain rfl : dg = x := Option.some.inj hj
    obtain ⟨m, rfl⟩ : ∃ m : Nat, dg = (m : Int) := ⟨dg.toNat, by omega⟩
    refine ⟨[z0, some (.cell 0), z2, z3, z4, z5, z6, some (.lst ((degG N f).map .int)), z8, some (.int menu), some (.cell C.length), some (.int m), t12, z13, z14, z15, z16, z17, z18, z19, z20, z21], rfl, ?_⟩
    have tail : ∀ (t : List Int) (C3 : Store), Cvx t → t.length = m + 1 → Bg 0 C3 → C3.length = C.length → wS (b_law_1b_7b_3 ⟨0, [z0, some (.cell 0), z2, z3, z4, z5, z6, some (.lst ((degG N f).map .int)), z8, some (.int menu), some (.cell C.length), some (.int m), some (tI t), z13, z14, z15, z16, z17, z18, z19, z20, z21]⟩ (C3 ++ [some (.lst (T.map tI))])) (lpP (fun j sl S => ∃ T C' t11 t12, TabJ N f j T ∧ Bg 0 C' ∧ C'.length = C.length ∧ S = C' ++ [some (.lst (T.map tI))] ∧ sl = [z0, some (.cell 0), z2, z3, z4, z5, z6, some (.lst ((degG N f).map .int)), z8, some (.int menu), some (.cell C.length), t11, t12, z13, z14, z15, z16, z17, z18, z19, z20, z21]) (j + 1) P) := by
      intro t C3 ct lt b3 l3
      unfold b_law_1b_7b_3
      walk_at "w"
      refine w_append ?_
      walk_at "p"
      refine ⟨by simp only [vL, ← l3, app_at]; rfl, ?_⟩
      walk_at "p"
      have tl := tj.len
      refine ⟨C.length, T.map tI, by simp only [cL, ← l3, app_at], Nat.zero_le _, by rw [List.length_map]; omega, ?_⟩
      refine lp_nx ⟨T ++ [t], C3, _, _, tab_snoc tj ct (by rw [lt, hd]; omega), b3, l3, ?_, rfl⟩
      rw [← l3, app_set, List.map_append]
      rfl
    have mid : ∀ (t : List Int) (C3 : Store), Cvx t → t.length = m + 1 → Bg 0 C3 → C3.length = C.length → wS (b_law_1b_7b_2 ⟨0, [z0, some (.cell 0), z2, z3, z4, z5, z6, some (.lst ((degG N f).map .int)), z8, some (.int menu), some (.cell C.length), some (.int m), some (tI t), z13, z14, z15, z16, z17, z18, z19, z20, z21]⟩ (C3 ++ [some (.lst (T.map tI))])) (CT.thn b_law_1b_7b_3 0 (lpP (fun j sl S => ∃ T C' t11 t12, TabJ N f j T ∧ Bg 0 C' ∧ C'.length = C.length ∧ S = C' ++ [some (.lst (T.map tI))] ∧ sl = [z0, some (.cell 0), z2, z3, z4, z5, z6, some (.lst ((degG N f).map .int)), z8, some (.int menu), some (.cell C.length), t11, t12, z13, z14, z15, z16, z17, z18, z19, z20, z21]) (j + 1) P)) := by
      intro t C3 ct lt b3 l3
      unfold b_law_1b_7b_2
      walk_at "p"
      refine wI_d (fun m1 => ?_) fun m1 => ?_
      · walk_at "p"
        refine take_L (n := 2) b3 (by decide) (by decide) _ fun r C4 r0 r1 t4 => ?_
        walk_at "p"
        refine wI_d (fun m2 => ?_) fun m2 => ?_
        · walk_at "p"
          refine wo_of (rep5 (m + 1) (by omega) (by omega) _) ?_
          refine thn_nx ?_
          exact tail _ C4 (five_cvx _) (by simp) t4.bg (by rw [t4.len, l3])
        · walk_at "p"
          refine thn_nx ?_
          exact tail t C4 ct lt t4.bg (by rw [t4.len, l3])
      · walk_at "p"
        exact tail t C3 ct lt b3 l3
    refine w_seq ?_
    unfold b_law_1b_7b_0
    walk_at "p"
    refine law_table_w (hB.app _) (by omega) fun t C2 ct lt u2 => ?_
    obtain ⟨C3, rfl, t3⟩ := To.cut hB.lt u2
    walk_at "p"
    unfold b_law_1b_7b_1
    walk_at "p"
    refine wI_d (fun m1 => ?_) fun m1 => ?_
    · walk_at "p"
      refine ⟨inR_of (by omega) (by omega), ?_⟩
      rw [show ((m : Int) + 1).toNat = m + 1 by omega]
      refine lcY (l := List.range (m + 1)) (enc := fun k : Nat => .int (k : Int)) (pureR0 _) (fun k : Nat => .int (max (max 1 ((k : Int) - 1)) (2 - (k : Int)))) (by simp; omega) (fun k hk => ⟨_, rfl, fun acc => ?_⟩) (fun _ _ => rfl) ?_
      · walk_at "p"
        refine wo_of (max3_w _ _ _ _) ?_
        exact ⟨rfl, rfl⟩
      · walk_at "p"
        have et : D.tup ((List.range (m + 1)).map fun k : Nat => D.int (max (max 1 ((k : Int) - 1)) (2 - (k : Int)))) = tI ((List.range (m + 1)).map fun k : Nat => max (max 1 ((k : Int) - 1)) (2 - (k : Int))) := by
          unfold tI
          rw [List.map_map]
          rfl
        rw [et]
        exact mid _ C3 (vee_cvx _) (by simp) t3.bg (by rw [t3.len, cl])
    · walk_at "p"
      exact mid t C3 ct lt t3.bg (by rw [t3.len, cl])
  · rintro sl S ⟨T, C', t11, t12, tj, hB, cl, rfl, rfl⟩
    rw [degG_len] at tj
    exact q T C' t11 t12 tj hB cl
end
/-! LSTb: the ties of a light web, drawn. -/
section
variable {N i : Nat} {C : Store} {Q : D → Store → Prop} {X : Exc → Store → Prop}
theorem pD_nat {zs : List (Int × Int)} (pm : zs.Perm (pairsL N)) {j : Nat} {p : Int × Int} (hj : zs[j]? = some p) : 0 ≤ p.1 ∧ p.1 < p.2 ∧ p.2 < N := pairs_up (pm.mem_iff.mp (List.mem_of_getElem? hj))
theorem cb_triL (n : Nat) (l : List T3) : cbL n (l.map triD) = true := cbL_allM fun d hd => by
  obtain ⟨t, _, rfl⟩ := List.mem_map.mp hd
  rfl
theorem law_light_w {cap : Int} (hB : Bg i C) (hN : N ≤ 5) (c1 : 1 ≤ cap) (c2 : cap ≤ 1000000) (h : ∀ (L : List T3) C', To i C C' → LiT N cap L → Q (.lst (L.map triD)) C') : wR (m_law_light [.cell i, .int N, .int cap] C) Q X := by
  have il := hB.lt
  have pl := pairs_lenL (N := N)
  have nn : N * N ≤ 5 * 5 := Nat.mul_le_mul hN hN
  rw [e_law_light]
  apply w_fin
  unfold b_law_light b_law_light_0
  walk_at "p"
  refine ⟨_, rfl, ?_⟩
  walk_at "p"
  unfold b_law_light_1
  walk_at "p"
  refine law_pairs_w (by omega) ?_
  walk_at "p"
  refine mixed_L (l := pairsL N) (enc := pD) (hB.app _) (by omega) (fun p => rfl) fun zs Z tZ pm => ?_
  obtain ⟨C0, rfl, t0⟩ := tZ.cut il
  walk_at "p"
  have nd : zs.Nodup := pm.nodup_iff.mpr (pairs_nodup N)
  have zl : zs.length ≤ 25 := by rw [pm.length_eq]; omega
  refine loopM (l := zs) (enc := pD) (pure_C _) (fun j sl S => ∃ (C' : Store) (L : List T3) (left : Int) (t5 t6 t7 t8 : Option D), S = C' ++ [some (.lst (L.map triD))] ∧ To i C C' ∧ LI N cap zs j L left ∧ left ≤ cap ∧ sl = [some (.cell i), some (.int N), some (.int cap), some (.cell C.length), some (.int left), t5, t6, t7, t8]) ⟨C0, [], cap, none, none, none, none, rfl, t0, li_0 c1, Int.le_refl _, rfl⟩ ?_ ?_
  · rintro j p sl S hj ⟨C1, L, left, t5, t6, t7, t8, rfl, t1, li, ll, rfl⟩
    obtain ⟨p0, p1, p2⟩ := pD_nat pm hj
    have jl : j < zs.length := (List.getElem?_eq_some_iff.mp hj).1
    have l1 := li.l
    have ln := li.n
    refine ⟨[some (.cell i), some (.int N), some (.int cap), some (.cell C.length), some (.int left), some (.int p.1), some (.int p.2), t7, t8], rfl, ?_⟩
    walk_at "w"
    unfold b_law_light_1b_0
    walk_at "p"
    refine take_L t1.bg (by omega) (by omega) _ fun r C2 r0 r1 t2 => ?_
    have t12 := t1.trans t2
    walk_at "p"
    unfold b_law_light_1b_1
    walk_at "p"
    refine one_L (xs := ([0, 1, 1, 2, 3, r] : List Int).map .int) t12.bg (by simp) (by simp) (cbL_ints _ _) _ fun x C3 hx t3 => ?_
    have t13 := t12.trans t3
    obtain ⟨m, hm, rfl⟩ := List.mem_map.mp hx
    have m0 : 0 ≤ m := by
      simp only [List.mem_cons, List.not_mem_nil, or_false] at hm
      rcases hm with rfl | rfl | rfl | rfl | rfl | rfl <;> omega
    walk_at "p"
    unfold b_law_light_1b_2
    walk_at "p"
    refine wI_d (fun pos => ?_) fun neg => ?_
    · have at_n : ∀ Z : Store, Z.length = C.length → (Z ++ [some (Cell.lst (L.map triD))])[C.length]? = some (some (.lst (L.map triD))) := fun Z hZ => by rw [← hZ]; exact app_at
      have fin : ∀ (C4 : Store) (t : T3), To i C C4 → pr t = p → ValidT N t → t.2.2 = min (left - 1) m → wS (b_law_light_1b_2t_1 ⟨C.length, [some (.cell i), some (.int N), some (.int cap), some (.cell C.length), some (.int left), some (.int p.1), some (.int p.2), some (.lst (([0, 1, 1, 2, 3, r] : List Int).map .int)), some (.int (min (left - 1) m))]⟩ (C4 ++ [some (.lst ((L ++ [t]).map triD))])) (lpP (fun j sl S => ∃ (C' : Store) (L : List T3) (left : Int) (t5 t6 t7 t8 : Option D), S = C' ++ [some (.lst (L.map triD))] ∧ To i C C' ∧ LI N cap zs j L left ∧ left ≤ cap ∧ sl = [some (.cell i), some (.int N), some (.int cap), some (.cell C.length), some (.int left), t5, t6, t7, t8]) (j + 1) (CT.thn b_law_light_2 C.length (fnl C.length Q X))) := fun C4 t t4 ep vt en => by
        have n1 := li_add li nd hj ep vt (by omega) (by omega)
        rw [en] at n1
        unfold b_law_light_1b_2t_1
        walk_at "p"
        refine wo_div (by omega) (by omega) ?_
        have : left / (min (left - 1) m + 1) ≤ left := Int.ediv_le_self _ (by omega)
        exact ⟨C4, L ++ [t], _, _, _, _, _, rfl, t4, n1, by omega, rfl⟩
      walk_at "p"
      unfold b_law_light_1b_2t_0
      walk_at "p"
      refine w_append ?_
      walk_at "p"
      refine ⟨by simp only [vL, at_n C3 t13.len]; rfl, ?_⟩
      walk_at "p"
      refine take_L t13.bg (by omega) (by omega) _ fun r2 C4 r20 r21 t4 => ?_
      have t14 := t13.trans t4
      walk_at "p"
      refine wI_d (fun _ => ?_) fun _ => ?_
      · walk_at "p"
        refine ⟨C.length, L.map triD, by simp only [cL, at_n C4 t14.len], Nat.le_refl _, by rw [List.length_map]; omega, ?_⟩
        walk_at "p"
        rw [← t14.len, app_set]
        have := fin C4 (p.1, p.2, min (left - 1) m) t14 (by show (min p.1 p.2, max p.1 p.2) = p; rw [show min p.1 p.2 = p.1 by omega, show max p.1 p.2 = p.2 by omega]) (by refine ⟨?_, ?_, ?_, ?_, ?_, ?_, ?_⟩ <;> simp only <;> omega) rfl
        rw [List.map_append] at this
        rw [t14.len]
        exact this
      · walk_at "p"
        refine ⟨C.length, L.map triD, by simp only [cL, at_n C4 t14.len], Nat.le_refl _, by rw [List.length_map]; omega, ?_⟩
        walk_at "p"
        rw [← t14.len, app_set]
        have := fin C4 (p.2, p.1, min (left - 1) m) t14 (by show (min p.2 p.1, max p.2 p.1) = p; rw [show min p.2 p.1 = p.1 by omega, show max p.2 p.1 = p.2 by omega]) (by refine ⟨?_, ?_, ?_, ?_, ?_, ?_, ?_⟩ <;> simp only <;> omega) rfl
        rw [List.map_append] at this
        rw [t14.len]
        exact this
    · walk_at "p"
      exact ⟨C3, L, left, _, _, _, _, rfl, t13, li_skip li nd hj, ll, rfl⟩
  · rintro sl S ⟨C1, L, left, t5, t6, t7, t8, rfl, t1, li, ll, rfl⟩
    walk_at "p"
    unfold b_law_light_2
    walk_at "p"
    refine fnl_own (xs := L.map triD) (Nat.le_refl _) (by rw [← t1.len]; exact app_at) (cb_triL _ _) ?_
    rw [take_app t1.len]
    exact h L C1 t1 (lt_of li pm)
end
/-! BR8: k85: the law. -/
section
variable {N i : Nat} {C S : Store} {Q : D → Store → Prop} {X : Exc → Store → Prop} {P : RS → Prop} {f : Int × Int → Int} {T : List (List Int)} {L : List T3}
theorem sumL_is (l : List Int) (C : Store) : oSum [.lst (l.map .int)] C = some (.int l.sum, C) := by
  simp [oSum, vL]
theorem best_at0 (hf : FOk N f) : ∃ r, r ∈ bestR N f T ∧ (bestR N f T)[0]? = some r := by
  have ne := best_ne (T := T) hf
  have l0 : 0 < (bestR N f T).length := List.length_pos_iff.mpr ne
  exact ⟨_, List.getElem_mem l0, List.getElem?_eq_getElem l0⟩
theorem best_at9 (hf : FOk N f) : ∃ r, r ∈ bestR N f T ∧ (bestR N f T)[(bestR N f T).length - 1]? = some r := by
  have ne := best_ne (T := T) hf
  have l0 : 0 < (bestR N f T).length := List.length_pos_iff.mpr ne
  have l1 : (bestR N f T).length - 1 < (bestR N f T).length := by omega
  exact ⟨_, List.getElem_mem l1, List.getElem?_eq_getElem l1⟩
/-- best_rows is asked thrice -/
theorem asked_w {z0 z2 z3 z4 z6 z7 z8 z9 z11 z12 z13 z15 z16 z17 z18 z19 z20 z21 : Option D} (h : N ≤ 5) (hf : FOk N f) (hl : Light (numsL N f)) (hT : Tabs N f T) (hB : Bg 0 S)
    (q : ∀ S' t15 t16, Bg 0 S' → P (.nx [z0, some (.cell 0), z2, z3, z4, some (webD N f), z6, z7, z8, z9, some (tabD T), z11, z12, z13, some (.lst ((bestR N f T).map tI)), t15, t16, z17, z18, z19, z20, z21] S')) :
    wS (b_law_1b_11 ⟨0, [z0, some (.cell 0), z2, z3, z4, some (webD N f), z6, z7, z8, z9, some (tabD T), z11, z12, z13, some (.lst ((bestR N f T).map tI)), z15, z16, z17, z18, z19, z20, z21]⟩ S) P := by
  have hL : ∀ r ∈ bestR N f T, SmR r := fun r hr => row_sm h hf (mem_best.mp hr).1
  have bl := best_len (T := T) hl
  unfold b_law_1b_11
  walk_at "w"
  walk_at "p"
  refine ⟨inR_of (by decide) (by decide), ?_⟩
  refine loopM (l := List.range 3) (enc := fun k : Nat => .int (k : Int)) (pureR0 3) (fun j sl S => ∃ t15 t16, Bg 0 S ∧ sl = [z0, some (.cell 0), z2, z3, z4, some (webD N f), z6, z7, z8, z9, some (tabD T), z11, z12, z13, some (.lst ((bestR N f T).map tI)), t15, t16, z17, z18, z19, z20, z21]) ⟨_, _, hB, rfl⟩ ?_ ?_
  · rintro j k sl S _ ⟨t15, t16, hB, rfl⟩
    refine ⟨_, rfl, ?_⟩
    walk_at "w"
    unfold b_law_1b_11b_0
    walk_at "p"
    refine best_rows_w hT h hf hl ?_
    walk_at "p"
    unfold b_law_1b_11b_1
    walk_at "p"
    refine alike_c (n := 1024) app_at (sm_gdl hL) (by rw [List.length_map]; exact bl) (by decide) (by decide) ?_
    walk_at "p"
    unfold b_law_1b_11b_2
    walk_at "w"
    refine w_revL ?_
    walk_at "p"
    refine ⟨S.length, _, by simp only [cL, app_at]; rfl, Nat.zero_le _, ?_⟩
    rw [app_set]
    walk_at "p"
    unfold b_law_1b_11b_3
    walk_at "w"
    refine w_append ?_
    walk_at "p"
    refine ⟨by simp only [vL, app_at]; rfl, ?_⟩
    walk_at "p"
    refine ⟨S.length, _, by simp only [cL, app_at]; rfl, Nat.zero_le _, by rw [List.length_reverse, List.length_map]; omega, ?_⟩
    rw [app_set]
    exact lp_nx ⟨_, _, hB.app _, rfl⟩
  · rintro sl S ⟨t15, t16, hB, rfl⟩
    exact q S t15 t16 hB
theorem rest_w {z0 z2 z5 z6 z7 z8 z9 z10 z11 z12 z13 z14 z15 z16 z17 z18 z19 z20 z21 : Option D} (h : N ≤ 5) (lt : LiT N 1024 L) (hb : ∀ p, fL L p ≤ 100) (hB : Bg 0 S)
    (q : ∀ S' t5 t6 t7 t8 t9 t10 t11 t12 t13 t14 t15 t16 t17 t18, Bg 0 S' → P (.nx [z0, some (.cell 0), z2, some (.int N), some (.lst (L.map triD)), t5, t6, t7, t8, t9, t10, t11, t12, t13, t14, t15, t16, t17, t18, z19, z20, z21] S')) :
    wS (b_law_1b_3 ⟨0, [z0, some (.cell 0), z2, some (.int N), some (.lst (L.map triD)), z5, z6, z7, z8, z9, z10, z11, z12, z13, z14, z15, z16, z17, z18, z19, z20, z21]⟩ S)
      (CT.thn (sSeq b_law_1b_4 (sSeq b_law_1b_5 (sSeq b_law_1b_6 (sSeq b_law_1b_7 (sSeq b_law_1b_8 (sSeq b_law_1b_9 (sSeq b_law_1b_10 (sSeq b_law_1b_11 (sSeq b_law_1b_12 b_law_1b_13))))))))) 0 P) := by
  have hf := lt.fok (by omega) (by decide) (by decide)
  have hli := lt.light (by decide)
  have fits := lt.fits (by omega) (by decide) (by decide)
  have lL := lt.l
  have n25 : N * N ≤ 5 * 5 := Nat.mul_le_mul (by omega) (by omega)
  have hb2 : ∀ p, 0 ≤ fL L p ∧ fL L p ≤ 100 := fun p => ⟨(hf.b p).1, hb p⟩
  have rl := rowsS_len hli
  unfold b_law_1b_3
  walk_at "w"
  refine w_cons (w_mkT ?_)
  walk_at "p"
  refine w_of (make_ok (L := L) (d := .lst (L.map triD)) (ds := [.int N, .lst (L.map triD)]) fits (.inl rfl) rfl rfl) ?_
  walk_at "p"
  refine lgrid_w (by omega) (fun t ht => (lt.v t ht).1) ?_
  walk_at "p"
  refine ⟨_, rfl, ?_⟩
  walk_at "p"
  unfold b_law_1b_4
  walk_at "p"
  refine ⟨_, rfl, ?_⟩
  refine lcY (l := rowsOf N (fL L)) (enc := fun r => .lst (r.map .int)) (pure_C _) (fun r => .int r.sum) (by simp [rowsOf]; omega) (fun r hr => ⟨_, rfl, fun acc => ?_⟩) (fun _ _ => rfl) ?_
  · walk_at "p"
    refine wo_of (sumL_is r _) ?_
    exact ⟨rfl, rfl⟩
  rw [show ((rowsOf N (fL L)).map fun r => D.int r.sum) = (degG N (fL L)).map .int by unfold degG; rw [List.map_map]; rfl]
  walk_at "p"
  unfold b_law_1b_5
  walk_at "p"
  refine law_numbers_w (by omega) (fun t ht => (lt.v t ht).1) (by omega) ?_
  walk_at "p"
  refine law_counts_w (by omega) hli ?_
  walk_at "p"
  refine wo_of (sort_rows hf) ?_
  walk_at "p"
  unfold b_law_1b_6
  walk_at "p"
  refine w_asgT (is := [9, 10]) ?_
  walk_at "p"
  refine take_n0 (n := 3) hB (by decide) (by decide) fun menu C1 m0 m1 u1 => ?_
  walk_at "p"
  refine ⟨_, _, rfl, rfl, ?_⟩
  walk_at "p"
  refine tables_w h hb2 u1.bg fun T C2 t11 t12 tj hB2 l2 => ?_
  have hT : Tabs N (fL L) T := ⟨tj.len, tj.cvx, tj.big⟩
  walk_at "p"
  unfold b_law_1b_8
  walk_at "p"
  refine wo_of (show oTupOf [.cell C1.length] (C2 ++ [some (.lst (T.map tI))]) = some (tabD T, C2 ++ [some (.lst (T.map tI))]) by simp only [oTupOf, vL, ← l2, app_at]; rfl) ?_
  walk_at "p"
  have hB3 := hB2.app [some (.lst (T.map tI))]
  generalize C2 ++ [some (.lst (T.map tI))] = S3 at hB3
  unfold b_law_1b_9
  walk_at "p"
  refine lcY (l := rowsS N (fL L)) (enc := tI) (pure_C _) (fun r => .int (cst T r)) (by omega) (fun r hr => ⟨_, rfl, fun acc => ?_⟩) (fun _ _ => rfl) ?_
  · walk_at "p"
    exact law_cost_w hT (by omega) hf (mem_rowsS.mp hr) ⟨rfl, rfl⟩
  walk_at "p"
  refine wo_of (mn_rows hf (rowsS_ne hf)) ?_
  walk_at "p"
  unfold b_law_1b_10
  walk_at "p"
  refine lcM (l := rowsS N (fL L)) (enc := tI) (pure_C _) (fun r => decide (cst T r = lstD N (fL L) T)) tI (by omega) (fun r hr => ⟨_, rfl, fun acc => ⟨?_, fun _ => ?_⟩⟩) (fun _ _ _ => cb_tI _ _) ?_
  · walk_at "p"
    refine law_cost_w hT (by omega) hf (mem_rowsS.mp hr) ?_
    walk_at "p"
    exact ⟨rfl, rfl⟩
  · walk_at "p"
    exact ⟨rfl, rfl⟩
  rw [show (((rowsS N (fL L)).filter fun r => decide (cst T r = lstD N (fL L) T)).map tI) = (bestR N (fL L) T).map tI from rfl]
  walk_at "p"
  refine asked_w h hf hli hT hB3 fun S4 t15 t16 hB4 => ?_
  have ne := best_ne (T := T) hf
  have bl := best_len (T := T) hli
  walk_at "p"
  unfold b_law_1b_12
  walk_at "p"
  refine one_0 (xs := (bestR N (fL L) T).map tI) hB4 (fun z => ne (List.map_eq_nil_iff.mp z)) (by rw [List.length_map]; omega) (cb_tIs _ _) fun d C5 hd u5 => ?_
  obtain ⟨one, ho, rfl⟩ := List.mem_map.mp hd
  walk_at "p"
  refine one_0 (xs := (bestR N (fL L) T).map tI) u5.bg (fun z => ne (List.map_eq_nil_iff.mp z)) (by rw [List.length_map]; omega) (cb_tIs _ _) fun d C6 hd u6 => ?_
  obtain ⟨other, hx, rfl⟩ := List.mem_map.mp hd
  walk_at "p"
  refine ⟨_, rfl, ?_⟩
  walk_at "p"
  unfold b_law_1b_13
  walk_at "p"
  refine exchanged_w hT h hf hli ho hx ?_
  walk_at "p"
  obtain ⟨r0, e0, k0⟩ := best_at0 (T := T) hf
  obtain ⟨r9, e9, k9⟩ := best_at9 (T := T) hf
  refine wo_ix (xs := (bestR N (fL L) T).map tI) (k := 0) (d := tI r0) rfl rfl (by rw [List.getElem?_map, k0]; rfl) ?_
  walk_at "p"
  refine wo_last (xs := (bestR N (fL L) T).map tI) (d := tI r9) rfl (by rw [List.length_map, List.getElem?_map, k9]; rfl) ?_
  walk_at "p"
  refine exchanged_w hT h hf hli e0 e9 ?_
  walk_at "p"
  exact q _ _ _ _ _ _ _ _ _ _ _ _ _ _ _ u6.bg
end
theorem size_int : ∀ x : Int, x ∈ ([3, 4, 5, 2, 1, 0] : List Int) → 0 ≤ x ∧ x ≤ 5 := by
  intro x h
  simp only [List.mem_cons, List.not_mem_nil, or_false] at h
  omega
theorem cap_int : ∀ x : Int, x ∈ ([30, 8, 60] : List Int) → 1 ≤ x ∧ x ≤ 60 := by
  intro x h
  simp only [List.mem_cons, List.not_mem_nil, or_false] at h
  omega
def tie31 : List T3 := [(0, 1, 31), (1, 2, 31)]
theorem lt31 : LiT 3 1024 tie31 := ⟨by
  intro t ht
  unfold tie31 at ht
  simp only [List.mem_cons, List.not_mem_nil, or_false] at ht
  rcases ht with rfl | rfl <;> exact ⟨by unfold ValidT; simp, by decide⟩, by decide, by decide⟩
theorem le31 : ∀ p, fL tie31 p ≤ 100 := fun p => by
  have e : fL tie31 p = (if pr (0, 1, 31) = p then (31 : Int) else 0) + ((if pr (1, 2, 31) = p then (31 : Int) else 0) + 0) := by
    unfold fL tie31
    rw [dg0_sums, tot_cons, tot_cons]
    rfl
  rw [e]
  split <;> split <;> decide
theorem law_true (ns : List Int) (hl : ns.length ≤ 63) : ∃ C, m_law [scrD ns] [] = .ok (.bl true) C := by
  obtain ⟨cs, hcs, eb⟩ := bag_ok ns hl
  have hB : Bg 0 [some (bagC 0 1234567891 0 cs)] := ⟨cs, hcs, 0, 1234567891, 0, rfl, by decide, by decide, by decide, by decide⟩
  refine ⟨[], w_eqv ?_⟩
  rw [e_law]
  apply w_fin
  unfold b_law b_law_0
  walk_at "p"
  refine w_of eb ?_
  walk_at "p"
  unfold b_law_1
  walk_at "p"
  refine ⟨inR_of (by decide) (by decide), ?_⟩
  refine loopM (l := List.range 2) (enc := fun k : Nat => .int (k : Int)) (pureR0 2) (fun j sl S => Bg 0 S ∧ ∃ t2 t3 t4 t5 t6 t7 t8 t9 t10 t11 t12 t13 t14 t15 t16 t17 t18 t19 t20 t21, sl = [some (scrD ns), some (.cell 0), t2, t3, t4, t5, t6, t7, t8, t9, t10, t11, t12, t13, t14, t15, t16, t17, t18, t19, t20, t21]) ⟨hB, _, _, _, _, _, _, _, _, _, _, _, _, _, _, _, _, _, _, _, _, rfl⟩ ?_ ?_
  · rintro j k sl S _ ⟨hB, t2, t3, t4, t5, t6, t7, t8, t9, t10, t11, t12, t13, t14, t15, t16, t17, t18, t19, t20, t21, rfl⟩
    refine ⟨_, rfl, ?_⟩
    walk_at "w"
    unfold b_law_1b_0
    walk_at "p"
    refine one_0 (xs := ([3, 4, 5, 2, 1, 0] : List Int).map .int) hB (by simp) (by simp) (cbL_ints _ _) fun d C1 hd u1 => ?_
    obtain ⟨n, hn, rfl⟩ := List.mem_map.mp hd
    obtain ⟨n0, n1⟩ := size_int n hn
    obtain ⟨N, rfl⟩ : ∃ N : Nat, n = (N : Int) := ⟨n.toNat, by omega⟩
    walk_at "p"
    unfold b_law_1b_1
    walk_at "p"
    refine one_0 (xs := ([30, 8, 60] : List Int).map .int) u1.bg (by simp) (by simp) (cbL_ints _ _) fun d C2 hd u2 => ?_
    obtain ⟨cap, hc, rfl⟩ := List.mem_map.mp hd
    obtain ⟨c0, c1⟩ := cap_int cap hc
    walk_at "p"
    refine law_light_w u2.bg (by omega) (by omega) (by omega) fun L C3 u3 lt => ?_
    have lt2 : LiT N 1024 L := ⟨lt.v, by have := lt.p; omega, lt.l⟩
    have hb : ∀ p, fL L p ≤ 100 := fun p => by have := lt.le c0 p; omega
    walk_at "p"
    unfold b_law_1b_2
    walk_at "p"
    refine wI_d (fun m1 => ?_) fun m1 => ?_
    · walk_at "p"
      refine take_n0 (n := 16) u3.bg (by decide) (by decide) fun r C4 r0 r1 u4 => ?_
      walk_at "p"
      refine wI_d (fun m2 => ?_) fun m2 => ?_
      · walk_at "p"
        refine ⟨_, rfl, ?_⟩
        walk_at "p"
        exact rest_w (N := 3) (L := tie31) (by decide) lt31 le31 u4.bg fun S' t5 t6 t7 t8 t9 t10 t11 t12 t13 t14 t15 t16 t17 t18 hB => lp_nx ⟨hB, _, _, _, _, _, _, _, _, _, _, _, _, _, _, _, _, _, _, _, _, rfl⟩
      · walk_at "p"
        exact rest_w (by omega) lt2 hb u4.bg fun S' t5 t6 t7 t8 t9 t10 t11 t12 t13 t14 t15 t16 t17 t18 hB => lp_nx ⟨hB, _, _, _, _, _, _, _, _, _, _, _, _, _, _, _, _, _, _, _, _, rfl⟩
    · walk_at "p"
      exact rest_w (by omega) lt2 hb u3.bg fun S' t5 t6 t7 t8 t9 t10 t11 t12 t13 t14 t15 t16 t17 t18 hB => lp_nx ⟨hB, _, _, _, _, _, _, _, _, _, _, _, _, _, _, _, _, _, _, _, _, rfl⟩
  · rintro sl S ⟨hB, t2, t3, t4, t5, t6, t7, t8, t9, t10, t11, t12, t13, t14, t15, t16, t17, t18, t19, t20, t21, rfl⟩
    refine thn_nx ?_
    unfold b_law_2
    walk_at "p"
    exact ⟨rfl, rfl⟩
end CL
theorem PySem.Challenge.cw_contentties_k85_whole_best_rows_holds : PySem.Challenge.rw_contentties_k85_whole_best_rows.Holds :=
  CL.holds_of fun ns hl => CL.law_true ns hl
