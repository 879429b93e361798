import PyProof.Rows.All
import Wide.All
import OpenK.AllK
import Wide.FinOn
import HandS.ForMost
import HandS.Exc
import HandS.CallSlots
import HandS.Wide
import HandS.Style
import HandS.More
import HandS.Defaults
import HandS.WordsExc
import HandS.Property
import PyProof.ReprRoads
import HandS.TupAny
import HandS.RaiseMore
import HandS.IsInst
import HandS.Codes
import HandS.Conv
import KE.SortData
import KE.KDictSum
import KE.KDictCopyH
import KE.GoesMore
import HandS.Iter
import HandS.Words
import HandS.Head0
import HandS.Head1
import HandS.Head2
import HandS.HeadEnd
import HandS.HeadHook1
import HandS.HeadHook2
import HandS.EndBits
import OpenK.KMeth
import HandS.SlotsOwn
import KE.KRevSl
import HandS.ExcInit
import HandS.ExcField
import HandS.ExcIs
import HandS.SetFor
import HandS.TupSets
import HandS.Strs
import KE.DataFind
import HandS.MakeKwOnly
import HandS.FStr
import HandS.Text
import KE.KCallOwn
import HandS.ClsMeth
import HandS.CallLocal
import HandS.HeadNt
import HandS.Small
import HandS.Flow
import HandS.TupMul
import HandS.Zip
import KE.DataMinMax
import HandS.SortKw
import KE.KOpsOwn
import HandS.SetBool
import HandS.OwnEq
import HandS.GenList
import KE.KTupSum
import PySem.Challenge.RW_contentties_k93_whole_complete_webs
set_option Elab.async false
set_option linter.all false
set_option maxRecDepth 100000
set_option maxHeartbeats 4000000
/-! DL1: plain data, a store of changing cells, how they lie in the abstract heap; expressions. -/
namespace CT
open PySem L2
/-! ### the domain -/
inductive D where
  | non | bl (b : Bool) | int (i : Int) | str (s : Str)
  | lst (xs : List D) | tup (xs : List D) | scr (xs : List D) | kt (xs : List D)
  | obj (c : Nat) (fs : List D)
  | dT (ks : List (List Key)) (vs : List D)
  | cell (i : Nat)
  | exn (c : Nat) (fs : List D)
  | cls (c : Nat)
inductive Cell where
  | lst (xs : List D)
  | dT (ks : List (List Key)) (vs : List D)
  | ins (c : Nat) (fs : List D)
abbrev Store := List (Option Cell)
structure Exc where
  c : Nat
  fs : List D
inductive R (α : Type) where
  | ok (a : α) (C : Store)
  | exc (e : Exc) (C : Store)
  | stuck
/-- a def's frame: the cells below fl are its callers'; the slots -/
structure Fr where
  fl : Nat
  sl : List (Option D)
abbrev ME := Fr → Store → R D
def ofO : Option (D × Store) → R D
  | some (d, C) => .ok d C
  | none => .stuck
def bnd {α β : Type} (m : R α) (f : α → Store → R β) : R β := match m with
  | .ok a C => f a C
  | .exc e C => .exc e C
  | .stuck => .stuck
@[simp] theorem bnd_ok {α β : Type} (a : α) (C : Store) (f : α → Store → R β) : bnd (.ok a C) f = f a C := rfl
@[simp] theorem bnd_exc {α β : Type} (e : Exc) (C : Store) (f : α → Store → R β) : bnd (.exc e C) f = .exc e C := rfl
@[simp] theorem bnd_stuck {α β : Type} (f : α → Store → R β) : bnd .stuck f = .stuck := rfl
mutual
def cb (n : Nat) : D → Bool
  | .lst xs => cbL n xs
  | .tup xs => cbL n xs
  | .scr xs => cbL n xs
  | .kt xs => cbL n xs
  | .obj _ fs => cbL n fs
  | .exn _ fs => cbL n fs
  | .cls _ => true
  | .dT _ vs => cbL n vs
  | .cell i => decide (i < n)
  | .non => true | .bl _ => true | .int _ => true | .str _ => true
def cbL (n : Nat) : List D → Bool
  | [] => true
  | d :: ds => cb n d && cbL n ds
end
/-! ### how data lie in the heap -/
structure Cn where
  K : PySem.W.Frag
  cl : Nat → Addr
  fn : Nat → List Str
  /-- the error that is held: its place, its class, its dict -/
  ex : Option (Addr × Nat × Addr) := none
def Live (A : Nat → Addr) (C : Store) (a : Addr) : Prop := ∃ i c, C[i]? = some (some c) ∧ A i = a
/-- the written part's list -/
def KL (K : PySem.W.Frag) (a : Addr) (xs : List V) : Prop := ∃ (o : Obj) (its : Array Value) (n : Nat), List.lookup a K = some o ∧ o.cls = Value.type "list" ∧ o.dict = none ∧ o.data = Data.seq its n ∧ its.size ≤ sizeLine ∧ Vals xs its.toList
/-- the written part's tuple -/
def KT (K : PySem.W.Frag) (a : Addr) (xs : List V) : Prop := ∃ o its n, List.lookup a K = some o ∧ o.cls = Value.type "tuple" ∧ o.data = Data.seq its n ∧ its.size ≤ sizeLine ∧ Vals xs its.toList
mutual
inductive Rep (k : Cn) (A : Nat → Addr) (C : Store) (H : Hp) : V → D → Prop where
  | non : Rep k A C H .non .non
  | bl (b : Bool) : Rep k A C H (.bl b) (.bl b)
  | int (i : Int) : Rep k A C H (.int i) (.int i)
  | str (s : Str) : Rep k A C H (.str s) (.str s)
  | lst {a : Addr} {vs : List V} {ds : List D} : ¬ Live A C a → H a = some (.lst vs) → RepL k A C H vs ds → Rep k A C H (.ref a) (.lst ds)
  | tup {a : Addr} {vs : List V} {ds : List D} : ¬ Live A C a → H a = some (.tup vs) → RepL k A C H vs ds → Rep k A C H (.ref a) (.tup ds)
  | ktup {a : Addr} {vs : List V} {ds : List D} : KT k.K a vs → RepL k A C H vs ds → Rep k A C H (.ref a) (.kt ds)
  | scr {a : Addr} {vs : List V} {ds : List D} {o : Obj} : ¬ Live A C a → H a = some (.frz o (.lst vs)) → RepL k A C H vs ds → Rep k A C H (.ref a) (.scr ds)
  | kscr {a : Addr} {vs : List V} {ds : List D} : KL k.K a vs → RepL k A C H vs ds → Rep k A C H (.ref a) (.scr ds)
  | obj {a dx : Addr} {c : Nat} {vs : List V} {ds : List D} : ¬ Live A C a → H a = some (.ins (k.cl c) dx ((k.fn c).zip vs)) → vs.length = (k.fn c).length → RepL k A C H vs ds → Rep k A C H (.ref a) (.obj c ds)
  | dT {a : Addr} {kvs : List (List Key × V)} {ds : List D} : ¬ Live A C a → H a = some (.dT kvs) → RepL k A C H (kvs.map (·.2)) ds → Rep k A C H (.ref a) (.dT (kvs.map (·.1)) ds)
  | cell {i : Nat} : i < C.length → Rep k A C H (.ref (A i)) (.cell i)
  | cls (c : Nat) : Rep k A C H (.ref (k.cl c)) (.cls c)
  | exn {a dd : Addr} {c : Nat} {vs : List V} {ds : List D} : k.ex = some (a, c, dd) → ¬ Live A C dd → H dd = some (.xd ((k.fn c).zip vs)) → vs.length = (k.fn c).length → RepL k A C H vs ds → Rep k A C H (.ref a) (.exn c ds)
inductive RepL (k : Cn) (A : Nat → Addr) (C : Store) (H : Hp) : List V → List D → Prop where
  | nil : RepL k A C H [] []
  | cons {v : V} {d : D} {vs : List V} {ds : List D} : Rep k A C H v d → RepL k A C H vs ds → RepL k A C H (v :: vs) (d :: ds)
end
section
variable {k : Cn} {A A' : Nat → Addr} {C C' : Store} {H H' : Hp} {v : V} {d : D} {vs : List V} {ds : List D}
theorem RepL.length : ∀ {vs : List V} {ds : List D}, RepL k A C H vs ds → vs.length = ds.length
  | _, _, .nil => rfl
  | _, _, .cons _ t => by simp [RepL.length t]
theorem RepL.append : ∀ {vs ws : List V} {ds es : List D}, RepL k A C H vs ds → RepL k A C H ws es → RepL k A C H (vs ++ ws) (ds ++ es)
  | _, _, _, _, .nil, t => t
  | _, _, _, _, .cons r s, t => .cons r (RepL.append s t)
theorem RepL.take : ∀ {vs : List V} {ds : List D} (n : Nat), RepL k A C H vs ds → RepL k A C H (vs.take n) (ds.take n)
  | _, _, 0, _ => by simp; exact .nil
  | _, _, _ + 1, .nil => .nil
  | _, _, n + 1, .cons r t => .cons r (RepL.take n t)
theorem RepL.drop : ∀ {vs : List V} {ds : List D} (n : Nat), RepL k A C H vs ds → RepL k A C H (vs.drop n) (ds.drop n)
  | _, _, 0, r => r
  | _, _, _ + 1, .nil => .nil
  | _, _, n + 1, .cons _ t => RepL.drop n t
theorem RepL.set {v : V} {d : D} (r : Rep k A C H v d) : ∀ {vs : List V} {ds : List D} (i : Nat), RepL k A C H vs ds → RepL k A C H (vs.set i v) (ds.set i d)
  | _, _, _, .nil => .nil
  | _, _, 0, .cons _ t => .cons r t
  | _, _, i + 1, .cons q t => .cons q (RepL.set r i t)
theorem RepL.rep : ∀ {vs : List V} {ds : List D} (n : Nat), RepL k A C H vs ds → RepL k A C H (List.replicate n vs).flatten (List.replicate n ds).flatten
  | _, _, 0, _ => by simp; exact .nil
  | _, _, n + 1, r => by
    rw [List.replicate_succ, List.replicate_succ, List.flatten_cons, List.flatten_cons]
    exact r.append (RepL.rep n r)
/-- every reading stays if the not-live objects stay and the live ones are the old ones, or new -/
structure Kp (A : Nat → Addr) (C : Store) (H : Hp) (A' : Nat → Addr) (C' : Store) (H' : Hp) : Prop where
  at_ : ∀ a o, ¬ Live A C a → H a = some o → ¬ Live A' C' a ∧ H' a = some o
  ix : ∀ i, i < C.length → A' i = A i
  len : C.length ≤ C'.length
mutual
theorem Rep.kp (q : Kp A C H A' C' H') : ∀ {v : V} {d : D}, Rep k A C H v d → Rep k A' C' H' v d
  | _, _, .non => .non
  | _, _, .bl b => .bl b
  | _, _, .int i => .int i
  | _, _, .str s => .str s
  | _, _, .lst l h r => .lst (q.at_ _ _ l h).1 (q.at_ _ _ l h).2 (r.kp q)
  | _, _, .tup l h r => .tup (q.at_ _ _ l h).1 (q.at_ _ _ l h).2 (r.kp q)
  | _, _, .ktup h r => .ktup h (r.kp q)
  | _, _, .scr l h r => .scr (q.at_ _ _ l h).1 (q.at_ _ _ l h).2 (r.kp q)
  | _, _, .kscr h r => .kscr h (r.kp q)
  | _, _, .obj l h z r => .obj (q.at_ _ _ l h).1 (q.at_ _ _ l h).2 z (r.kp q)
  | _, _, .dT l h r => .dT (q.at_ _ _ l h).1 (q.at_ _ _ l h).2 (r.kp q)
  | _, _, .cell (i := i) hi => by
    rw [← q.ix i hi]
    exact .cell (Nat.lt_of_lt_of_le hi q.len)
  | _, _, .exn x l h z r => .exn x (q.at_ _ _ l h).1 (q.at_ _ _ l h).2 z (r.kp q)
  | _, _, .cls c => .cls c
theorem RepL.kp (q : Kp A C H A' C' H') : ∀ {vs : List V} {ds : List D}, RepL k A C H vs ds → RepL k A' C' H' vs ds
  | _, _, .nil => .nil
  | _, _, .cons r t => .cons (r.kp q) (t.kp q)
end
mutual
theorem Rep.cb : ∀ {v : V} {d : D}, Rep k A C H v d → cb C.length d = true
  | _, _, .non => rfl
  | _, _, .bl b => rfl
  | _, _, .int i => rfl
  | _, _, .str s => rfl
  | _, _, .lst l h r => by simpa [CT.cb] using r.cb
  | _, _, .tup l h r => by simpa [CT.cb] using r.cb
  | _, _, .ktup h r => by simpa [CT.cb] using r.cb
  | _, _, .scr l h r => by simpa [CT.cb] using r.cb
  | _, _, .kscr h r => by simpa [CT.cb] using r.cb
  | _, _, .obj l h z r => by simpa [CT.cb] using r.cb
  | _, _, .dT l h r => by simpa [CT.cb] using r.cb
  | _, _, .cell (i := i) hi => by simpa [CT.cb] using hi
  | _, _, .exn x l h z r => by simpa [CT.cb] using r.cb
  | _, _, .cls c => rfl
theorem RepL.cb : ∀ {vs : List V} {ds : List D}, RepL k A C H vs ds → cbL C.length ds = true
  | _, _, .nil => rfl
  | _, _, .cons r t => by simp [CT.cbL, r.cb, t.cb]
end
/-- fewer live cells, all that is named still there -/
structure Fw (A : Nat → Addr) (C C' : Store) : Prop where
  lv : ∀ a, Live A C' a → Live A C a
mutual
theorem Rep.fw (q : Fw A C C') : ∀ {v : V} {d : D}, Rep k A C H v d → CT.cb C'.length d = true → Rep k A C' H v d
  | _, _, .non, _ => .non
  | _, _, .bl b, _ => .bl b
  | _, _, .int i, _ => .int i
  | _, _, .str s, _ => .str s
  | _, _, .lst l h r, z => .lst (fun y => l (q.lv _ y)) h (r.fw q (by simpa [CT.cb] using z))
  | _, _, .tup l h r, z => .tup (fun y => l (q.lv _ y)) h (r.fw q (by simpa [CT.cb] using z))
  | _, _, .ktup h r, z => .ktup h (r.fw q (by simpa [CT.cb] using z))
  | _, _, .scr l h r, z => .scr (fun y => l (q.lv _ y)) h (r.fw q (by simpa [CT.cb] using z))
  | _, _, .kscr h r, z => .kscr h (r.fw q (by simpa [CT.cb] using z))
  | _, _, .obj l h e r, z => .obj (fun y => l (q.lv _ y)) h e (r.fw q (by simpa [CT.cb] using z))
  | _, _, .dT l h r, z => .dT (fun y => l (q.lv _ y)) h (r.fw q (by simpa [CT.cb] using z))
  | _, _, .cell (i := i) hi, z => .cell (by simpa [CT.cb] using z)
  | _, _, .exn x l h e r, z => .exn x (fun y => l (q.lv _ y)) h e (r.fw q (by simpa [CT.cb] using z))
  | _, _, .cls c, _ => .cls c
theorem RepL.fw (q : Fw A C C') : ∀ {vs : List V} {ds : List D}, RepL k A C H vs ds → CT.cbL C'.length ds = true → RepL k A C' H vs ds
  | _, _, .nil, _ => .nil
  | _, _, .cons r t, z => by
    simp [CT.cbL] at z
    exact .cons (r.fw q z.1) (t.fw q z.2)
end
end
/-! ### the store -/
def CellAt (k : Cn) (A : Nat → Addr) (C : Store) (H : Hp) (a : Addr) : Cell → Prop
  | .lst ds => ∃ vs, H a = some (.lst vs) ∧ RepL k A C H vs ds
  | .dT ks ds => ∃ kvs : List (List Key × V), H a = some (.dT kvs) ∧ kvs.map (·.1) = ks ∧ RepL k A C H (kvs.map (·.2)) ds
  | .ins c ds => ∃ dx vs, H a = some (.ins (k.cl c) dx (((k.fn c).take ds.length).zip vs)) ∧ ds.length ≤ (k.fn c).length ∧ RepL k A C H vs ds
structure StOk (k : Cn) (A : Nat → Addr) (C : Store) (H : Hp) : Prop where
  at_ : ∀ i c, C[i]? = some (some c) → CellAt k A C H (A i) c
  inj : ∀ i j c e, C[i]? = some (some c) → C[j]? = some (some e) → A i = A j → i = j
def cbC (n : Nat) : Cell → Bool
  | .lst ds => cbL n ds
  | .dT _ ds => cbL n ds
  | .ins _ ds => cbL n ds
def LowC (f : Nat) (C : Store) : Prop := ∀ i c, i < f → C[i]? = some (some c) → cbC f c = true
/-- what held of values holds on; the callers' cells name the callers' cells alone -/
structure Stp (k : Cn) (fl : Nat) (A : Nat → Addr) (C : Store) (H : Hp) (A' : Nat → Addr) (C' : Store) (H' : Hp) : Prop where
  rep : ∀ v d, Rep k A C H v d → Rep k A' C' H' v d
  len : C.length ≤ C'.length
  low : ∀ f, f ≤ fl → f ≤ C.length → LowC f C → LowC f C'
section
variable {k : Cn} {fl : Nat} {A A' A'' : Nat → Addr} {C C' C'' : Store} {H H' H'' : Hp} {v : V} {d : D} {vs : List V} {ds : List D}
theorem Stp.trans (a : Stp k fl A C H A' C' H') (b : Stp k fl A' C' H' A'' C'' H'') : Stp k fl A C H A'' C'' H'' :=
  ⟨fun v d h => b.rep v d (a.rep v d h), Nat.le_trans a.len b.len, fun f h1 h2 h => b.low f h1 (Nat.le_trans h2 a.len) (a.low f h1 h2 h)⟩
theorem CellAt.kp {c : Cell} {a : Addr} (q : Kp A C H A' C' H') (h : H' a = H a) (x : CellAt k A C H a c) : CellAt k A' C' H' a c := by
  cases c with
  | lst ds => obtain ⟨vs, e, r⟩ := x; exact ⟨vs, by rw [h]; exact e, r.kp q⟩
  | dT ks ds => obtain ⟨kvs, e, z, r⟩ := x; exact ⟨kvs, by rw [h]; exact e, z, r.kp q⟩
  | ins c ds => obtain ⟨dx, vs, e, z, r⟩ := x; exact ⟨dx, vs, by rw [h]; exact e, z, r.kp q⟩
theorem CellAt.there {c : Cell} {a : Addr} (x : CellAt k A C H a c) : ∃ o, H a = some o := by
  cases c with
  | lst ds => obtain ⟨vs, e, r⟩ := x; exact ⟨_, e⟩
  | dT ks ds => obtain ⟨kvs, e, z, r⟩ := x; exact ⟨_, e⟩
  | ins c ds => obtain ⟨dx, vs, e, z, r⟩ := x; exact ⟨_, e⟩
/-- a new object, not live -/
theorem kp_new {p : Addr} {o : HO} (h : H p = none) : Kp A C H A C (upd H p o) :=
  ⟨fun a u l e => ⟨l, by rw [upd_ne (ne_of_none e h)]; exact e⟩, fun _ _ => rfl, Nat.le_refl _⟩
theorem StOk.new {p : Addr} {o : HO} (x : StOk k A C H) (h : H p = none) : StOk k A C (upd H p o) :=
  ⟨fun i c e => by
    have y := x.at_ i c e
    obtain ⟨u, hu⟩ := y.there
    exact y.kp (kp_new h) (upd_ne (ne_of_none hu h)), x.inj⟩
/-- a new object that becomes a cell -/
def ext (A : Nat → Addr) (n : Nat) (p : Addr) : Nat → Addr := fun j => if j = n then p else A j
theorem live_ext {p : Addr} {c : Cell} {a : Addr} (l : Live (ext A C.length p) (C ++ [some c]) a) : Live A C a ∨ a = p := by
  obtain ⟨i, c', e, rfl⟩ := l
  by_cases hi : i < C.length
  · rw [List.getElem?_append_left hi] at e
    refine .inl ⟨i, c', e, ?_⟩
    unfold ext
    rw [if_neg (Nat.ne_of_lt hi)]
  · have hl : i < (C ++ [some c]).length := (List.getElem?_eq_some_iff.mp e).1
    rw [List.length_append] at hl
    have : i = C.length := by simp at hl; omega
    subst this
    refine .inr ?_
    unfold ext
    rw [if_pos rfl]
theorem kp_cell {p : Addr} {o : HO} {c : Cell} (x : StOk k A C H) (h : H p = none) : Kp A C H (ext A C.length p) (C ++ [some c]) (upd H p o) :=
  ⟨fun a u l e => ⟨fun y => (live_ext y).elim l (fun z => by rw [z, h] at e; cases e), by rw [upd_ne (ne_of_none e h)]; exact e⟩, fun i hi => by unfold ext; rw [if_neg (Nat.ne_of_lt hi)], by simp⟩
theorem StOk.cell {p : Addr} {o : HO} {c : Cell} (x : StOk k A C H) (h : H p = none) (y : CellAt k (ext A C.length p) (C ++ [some c]) (upd H p o) p c) : StOk k (ext A C.length p) (C ++ [some c]) (upd H p o) := by
  have old : ∀ i c', (C ++ [some c])[i]? = some (some c') → i < C.length → C[i]? = some (some c') ∧ ext A C.length p i = A i := fun i c' e hi => by
    rw [List.getElem?_append_left hi] at e
    exact ⟨e, by unfold ext; rw [if_neg (Nat.ne_of_lt hi)]⟩
  have new : ∀ i c', (C ++ [some c])[i]? = some (some c') → ¬ i < C.length → i = C.length ∧ c' = c := fun i c' e hi => by
    have hl : i < (C ++ [some c]).length := (List.getElem?_eq_some_iff.mp e).1
    rw [List.length_append] at hl
    have : i = C.length := by simp at hl; omega
    subst this
    simp at e
    exact ⟨rfl, e.symm⟩
  have pos : ext A C.length p C.length = p := by unfold ext; rw [if_pos rfl]
  refine ⟨fun i c' e => ?_, fun i j c1 c2 e1 e2 z => ?_⟩
  · by_cases hi : i < C.length
    · obtain ⟨e', ea⟩ := old i c' e hi
      rw [ea]
      have w := x.at_ i c' e'
      obtain ⟨u, hu⟩ := w.there
      exact w.kp (kp_cell x h) (upd_ne (ne_of_none hu h))
    · obtain ⟨rfl, rfl⟩ := new i c' e hi
      rw [pos]
      exact y
  · have far : ∀ i c', C[i]? = some (some c') → A i ≠ p := fun i c' e z => by
      obtain ⟨u, hu⟩ := (x.at_ i c' e).there
      rw [z, h] at hu
      cases hu
    by_cases hi : i < C.length
    · obtain ⟨f1, a1⟩ := old i c1 e1 hi
      by_cases hj : j < C.length
      · obtain ⟨f2, a2⟩ := old j c2 e2 hj
        rw [a1, a2] at z
        exact x.inj i j _ _ f1 f2 z
      · obtain ⟨rfl, rfl⟩ := new j c2 e2 hj
        rw [a1, pos] at z
        exact absurd z (far i _ f1)
    · obtain ⟨rfl, rfl⟩ := new i c1 e1 hi
      by_cases hj : j < C.length
      · obtain ⟨f2, a2⟩ := old j c2 e2 hj
        rw [pos, a2] at z
        exact absurd z.symm (far j _ f2)
      · obtain ⟨rfl, _⟩ := new j c2 e2 hj
        rfl
/-- the store's end is forgotten -/
theorem fw_take (n : Nat) : Fw A C (C.take n) := ⟨fun a ⟨i, c, e, z⟩ => by
  by_cases hi : i < n
  · rw [List.getElem?_take_of_lt hi] at e
    exact ⟨i, c, e, z⟩
  · rw [List.getElem?_eq_none (by simp; omega)] at e
    cases e⟩
theorem CellAt.fw {c : Cell} {a : Addr} (q : Fw A C C') (x : CellAt k A C H a c) (z : cbC C'.length c = true) : CellAt k A C' H a c := by
  cases c with
  | lst ds => obtain ⟨vs, e, r⟩ := x; exact ⟨vs, e, r.fw q z⟩
  | dT ks ds => obtain ⟨kvs, e, y, r⟩ := x; exact ⟨kvs, e, y, r.fw q z⟩
  | ins c ds => obtain ⟨dx, vs, e, y, r⟩ := x; exact ⟨dx, vs, e, y, r.fw q z⟩
theorem CellAt.cb {c : Cell} {a : Addr} (x : CellAt k A C H a c) : cbC C.length c = true := by
  cases c with
  | lst ds => obtain ⟨vs, e, r⟩ := x; exact r.cb
  | dT ks ds => obtain ⟨kvs, e, y, r⟩ := x; exact r.cb
  | ins c ds => obtain ⟨dx, vs, e, y, r⟩ := x; exact r.cb
/-- at a call every cell is below the floor -/
theorem StOk.low (x : StOk k A C H) : LowC C.length C := fun i c _ e => (x.at_ i c e).cb
theorem StOk.take {n : Nat} (x : StOk k A C H) (hn : n ≤ C.length) (h : LowC n C) : StOk k A (C.take n) H := by
  have get : ∀ i c, (C.take n)[i]? = some (some c) → i < n ∧ C[i]? = some (some c) := fun i c e => by
    by_cases hi : i < n
    · rw [List.getElem?_take_of_lt hi] at e
      exact ⟨hi, e⟩
    · rw [List.getElem?_eq_none (by simp; omega)] at e
      cases e
  have ln : (C.take n).length = n := by rw [List.length_take]; omega
  refine ⟨fun i c e => ?_, fun i j c e h1 h2 z => x.inj i j c e (get i c h1).2 (get j e h2).2 z⟩
  obtain ⟨hi, e'⟩ := get i c e
  exact (x.at_ i c e').fw (fw_take n) (by rw [ln]; exact h i c hi e')
end
/-! ### frames -/
structure SR (k : Cn) (A : Nat → Addr) (F : Fr) (C : Store) (σ : L2.St) (H : Hp) : Prop where
  st : StOk k A C H
  low : LowC F.fl C
  fl : F.fl ≤ C.length
  len : F.sl.length = σ.length
  sl : ∀ (i : Nat) (d : D), F.sl[i]? = some (some d) → ∃ v : V, σ[i]? = some (some v) ∧ Rep k A C H v d
section
variable {k : Cn} {A A' A1 : Nat → Addr} {F : Fr} {C C' C1 : Store} {H H' H1 : Hp} {σ : L2.St} {fl : Nat}
theorem SR.set {i : Nat} {v : V} {d : D} (s : SR k A F C σ H) (r : Rep k A C H v d) : SR k A ⟨F.fl, F.sl.set i (some d)⟩ C (σ.set i (some v)) H :=
  ⟨s.st, s.low, s.fl, by simp [s.len], fun j e h => by
    have h' : (F.sl.set i (some d))[j]? = some (some e) := h
    by_cases hij : i = j
    · subst hij
      by_cases hl : i < F.sl.length
      · rw [List.getElem?_set_self hl] at h'
        refine ⟨v, List.getElem?_set_self (by rw [← s.len]; exact hl), ?_⟩
        rw [← Option.some.inj (Option.some.inj h')]
        exact r
      · rw [List.getElem?_eq_none (by simp; omega)] at h'
        cases h'
    · rw [List.getElem?_set_ne hij] at h'
      obtain ⟨u, h1, h2⟩ := s.sl j e h'
      exact ⟨u, by rw [List.getElem?_set_ne hij]; exact h1, h2⟩⟩
variable {α β γ δ : Type} {rel : (Nat → Addr) → Store → Hp → β → α → Prop} {rel2 : (Nat → Addr) → Store → Hp → δ → γ → Prop} {m : R α} {Q : α → Store → (Nat → Addr) → Hp → β → Prop} {W : XK}
end
abbrev MA := Fr → Store → R (List D)
abbrev MT := Fr → Store → R Bool
end CT
set_option maxHeartbeats 4000000
/-! DL2: expressions over data: names, constants, operators, displays, subscripts, calls of built-ins. -/
namespace CT
open PySem L2
/-! ### names, constants -/
def mVar (i : Nat) : ME := fun F C => match F.sl[i]? with
  | some (some d) => .ok d C
  | _ => .stuck
def mC (d : D) : ME := fun _ C => .ok d C
/-! ### operators -/
abbrev O2 := D → D → Store → Option (D × Store)
abbrev O1 := D → Store → Option (D × Store)
abbrev OA := List D → Store → Option (D × Store)
def mOp (o : O2) (a b : ME) : ME := fun F C => bnd (a F C) fun x C1 => bnd (b F C1) fun y C2 => ofO (o x y C2)
def mUn (o : O1) (a : ME) : ME := fun F C => bnd (a F C) fun x C1 => ofO (o x C1)
def mNil : MA := fun _ C => .ok [] C
def mCons (a : ME) (r : MA) : MA := fun F C => bnd (a F C) fun x C1 => bnd (r F C1) fun xs C2 => .ok (x :: xs) C2
def mAp (o : OA) (a : MA) : ME := fun F C => bnd (a F C) fun xs C1 => ofO (o xs C1)
/-! ### tests, and, or, not -/
def mTst (a : ME) : MT := fun F C => bnd (a F C) fun x C1 => match x with
  | .bl b => .ok b C1
  | _ => .stuck
def tAndM (a b : MT) : MT := fun F C => bnd (a F C) fun x C1 => if x = true then b F C1 else .ok false C1
def tOrM (a b : MT) : MT := fun F C => bnd (a F C) fun x C1 => if x = true then .ok true C1 else b F C1
def tNotM (a : MT) : MT := fun F C => bnd (a F C) fun x C1 => .ok (!x) C1
def mAnd (a b : ME) : ME := fun F C => bnd (a F C) fun x C1 => match x with
  | .bl true => b F C1
  | .bl false => .ok (.bl false) C1
  | _ => .stuck
def mOr (a b : ME) : ME := fun F C => bnd (a F C) fun x C1 => match x with
  | .bl true => .ok (.bl true) C1
  | .bl false => b F C1
  | _ => .stuck
def mNot (a : ME) : ME := fun F C => bnd (a F C) fun x C1 => match x with
  | .bl b => .ok (.bl (!b)) C1
  | _ => .stuck
def mIf (t : MT) (a b : ME) : ME := fun F C => bnd (t F C) fun x C1 => if x = true then a F C1 else b F C1
/-! ### numbers -/
def oI0 (g : Int → Int → D) : O2 := fun x y C => match x, y with
  | .int i, .int j => some (g i j, C)
  | _, _ => none
def oAdd : O2 := oI0 fun i j => .int (i + j)
def oSub : O2 := oI0 fun i j => .int (i - j)
def oLt : O2 := oI0 fun i j => .bl (decide (i < j))
def oLe : O2 := oI0 fun i j => .bl (decide (i ≤ j))
def oGt : O2 := oI0 fun i j => .bl (decide (j < i))
def oGe : O2 := oI0 fun i j => .bl (decide (j ≤ i))
def oNeg : O1 := fun x C => match x with
  | .int i => some (.int (-i), C)
  | _ => none
/-! ### a chain of two comparisons -/
def mChain (o o' : O2) (a b c : ME) : ME := fun F C => bnd (a F C) fun x C1 => bnd (b F C1) fun y C2 => bnd (ofO (o x y C2)) fun z C3 => match z with
  | .bl true => bnd (c F C3) fun w C4 => ofO (o' y w C4)
  | .bl false => .ok (.bl false) C3
  | _ => .stuck
end CT
set_option maxHeartbeats 4000000
/-! DL3: lists, tuples, dicts over data. -/
namespace CT
open PySem L2
/-! ### what a datum is as a list, a tuple, a dict -/
def vL (d : D) (C : Store) : Option (List D) := match d with
  | .lst xs => some xs
  | .cell i => match C[i]? with
    | some (some (.lst xs)) => some xs
    | _ => none
  | _ => none
def vT : D → Option (List D)
  | .tup xs => some xs
  | .kt xs => some xs
  | _ => none
def vD (d : D) (C : Store) : Option (List (List Key) × List D) := match d with
  | .dT ks vs => some (ks, vs)
  | .cell i => match C[i]? with
    | some (some (.dT ks vs)) => some (ks, vs)
    | _ => none
  | _ => none
section
variable {k : Cn} {A : Nat → Addr} {C : Store} {H : Hp} {v : V} {d : D} {ds : List D}
/-! ### new lists, tuples, dicts: own cells or plain data -/
def mkL (own : Bool) (ds : List D) (C : Store) : D × Store := if own = true then (.cell C.length, C ++ [some (.lst ds)]) else (.lst ds, C)
def mkD (own : Bool) (ks : List (List Key)) (ds : List D) (C : Store) : D × Store := if own = true then (.cell C.length, C ++ [some (.dT ks ds)]) else (.dT ks ds, C)
end
/-! ### displays -/
def szN (n : Nat) : Bool := decide (n ≤ 16777216)
def oLst (own : Bool) : OA := fun xs C => if szN xs.length = true then some (mkL own xs C) else none
def oTup : OA := fun xs C => if szN xs.length = true then some (.tup xs, C) else none
section
variable {X : Cx} {k : Cn} {W : WX} {es : List Expr} {ma : MA} {pos : Pos}
/-- {} whose keys will be tuples -/
def mDNew (own : Bool) : ME := fun _ C => .ok (mkD own [] [] C).1 (mkD own [] [] C).2
end
/-! ### subscripts -/
/-! ### dicts with tuple keys -/
def keyL : List D → Option (List Key)
  | [] => some []
  | .int i :: r => (keyL r).map fun l => .inl i :: l
  | .str s :: r => (keyL r).map fun l => .inr s :: l
  | _ :: _ => none
def lookT : List (List Key) → List D → List Key → Option D
  | k :: ks, d :: ds, key => if k = key then some d else lookT ks ds key
  | _, _, _ => none
def setT : List (List Key) → List D → List Key → D → List D
  | k :: ks, d :: ds, key, x => (if k = key then x else d) :: setT ks ds key x
  | _, _, _, _ => []
def putT (ks : List (List Key)) (ds : List D) (key : List Key) (x : D) : List (List Key) × List D := if (ks.any fun k => decide (k = key)) = true then (ks, setT ks ds key x) else (ks ++ [key], ds ++ [x])
def oDGet (x y z : D) (C : Store) : Option (D × Store) := match y with
  | .tup ds => (vD x C).bind fun p => (keyL ds).map fun key => ((lookT p.1 p.2 key).getD z, C)
  | _ => none
def mDGet (a b c : ME) : ME := fun F C => bnd (a F C) fun x C1 => if (vD x C1).isSome = true then bnd (b F C1) fun y C2 => bnd (c F C2) fun z C3 => ofO (oDGet x y z C3) else .stuck
end CT
set_option maxHeartbeats 4000000
/-! DL4: statements, defs over data. -/
namespace CT
open PySem L2
inductive RS where
  | nx (sl : List (Option D)) (C : Store)
  | rt (d : D) (C : Store)
  | bk (sl : List (Option D)) (C : Store)
  | ct (sl : List (Option D)) (C : Store)
  | xc (e : Exc) (sl : List (Option D)) (C : Store)
  | stuck
abbrev MS := Fr → Store → RS
/-! ### simple statements -/
def bndS {α : Type} (sl : List (Option D)) (m : R α) (f : α → Store → RS) : RS := match m with
  | .ok a C => f a C
  | .exc e C => .xc e sl C
  | .stuck => .stuck
@[simp] theorem bndS_ok {α : Type} (sl : List (Option D)) (a : α) (C : Store) (f : α → Store → RS) : bndS sl (.ok a C) f = f a C := rfl
@[simp] theorem bndS_exc {α : Type} (sl : List (Option D)) (e : Exc) (C : Store) (f : α → Store → RS) : bndS sl (.exc e C) f = .xc e sl C := rfl
@[simp] theorem bndS_stuck {α : Type} (sl : List (Option D)) (f : α → Store → RS) : bndS (α := α) sl .stuck f = .stuck := rfl
def sNext : MS := fun F C => .nx F.sl C
def sSeq (a b : MS) : MS := fun F C => match a F C with
  | .nx sl C1 => b ⟨F.fl, sl⟩ C1
  | r => r
def sBrk : MS := fun F C => .bk F.sl C
def sCnt : MS := fun F C => .ct F.sl C
def sDrop (m : ME) : MS := fun F C => bndS F.sl (m F C) fun _ C1 => .nx F.sl C1
def sRet (m : ME) : MS := fun F C => bndS F.sl (m F C) fun d C1 => .rt d C1
def sRetN : MS := fun F C => .rt .non C
def sIf (t : MT) (a b : MS) : MS := fun F C => bndS F.sl (t F C) fun x C1 => if x = true then a F C1 else b F C1
/-! ### targets -/
abbrev MG := D → List (Option D) → Option (List (Option D))
def gN (i : Nat) : MG := fun d sl => some (sl.set i (some d))
def setAll : List Nat → List D → List (Option D) → Option (List (Option D))
  | [], [], sl => some sl
  | i :: is, d :: ds, sl => setAll is ds (sl.set i (some d))
  | _, _, _ => none
def gT (is : List Nat) : MG := fun d sl => (vT d).bind fun ds => setAll is ds sl
end CT
set_option maxHeartbeats 4000000
/-! DL5: stores, loops over data. -/
namespace CT
open PySem L2
section
variable {X : Cx} {k : Cn} {W : WX} {E : Ends} {σ : L2.St} {H : Hp}
/-! ### assignments -/
def sAsg (m : ME) (g : MG) : MS := fun F C => bndS F.sl (m F C) fun d C1 => match g d F.sl with
  | some sl => .nx sl C1
  | none => .stuck
/-- a, b = x, y of plain local names -/
def sPar (is : List Nat) (m : MA) : MS := fun F C => bndS F.sl (m F C) fun ds C1 => match setAll is ds F.sl with
  | some sl => .nx sl C1
  | none => .stuck
end
/-! ### cells written -/
/-- the cell is written with c: below the floor c names no cells -/
def wr (fl : Nat) (i : Nat) (c : Cell) (C : Store) : Option Store := if i < fl ∧ cbC 0 c = false then none else some (C.set i (some c))
/-- the list cell's place and items -/
def cL (d : D) (C : Store) : Option (Nat × List D) := match d with
  | .cell i => match C[i]? with
    | some (some (.lst xs)) => some (i, xs)
    | _ => none
  | _ => none
def cD (d : D) (C : Store) : Option (Nat × List (List Key) × List D) := match d with
  | .cell i => match C[i]? with
    | some (some (.dT ks vs)) => some (i, ks, vs)
    | _ => none
  | _ => none
/-- xs[i] = e -/
def sSetL (me mo mi : ME) : MS := fun F C => bndS F.sl (me F C) fun v C1 => bndS F.sl (mo F C1) fun o C2 => bndS F.sl (mi F C2) fun x C3 => match x, cL o C3 with
  | .int n, some (i, ds) => match ixN ds.length n with
    | some j => match wr F.fl i (.lst (ds.set j v)) C3 with
      | some C4 => .nx F.sl C4
      | none => .stuck
    | none => .stuck
  | _, _ => .stuck
/-- d[k] = e -/
def sPut (me mo mi : ME) : MS := fun F C => bndS F.sl (me F C) fun v C1 => bndS F.sl (mo F C1) fun o C2 => bndS F.sl (mi F C2) fun x C3 => match x, cD o C3 with
  | .tup ds, some (i, ks, vs) => match keyL ds with
    | some key => if szN (ks.length + 1) = true then match wr F.fl i (.dT (putT ks vs key v).1 (putT ks vs key v).2) C3 with
      | some C4 => .nx F.sl C4
      | none => .stuck
      else .stuck
    | none => .stuck
  | _, _ => .stuck
/-! ### list methods that write -/
end CT
set_option maxHeartbeats 4000000
/-! DL6: targets, loops, comprehensions over data. -/
namespace CT
open PySem L2
/-! ### targets of names -/
inductive Tgt where
  | nm (i : Nat) | tp (is : List Nat)
def Tgt.M : Tgt → MG
  | .nm i => gN i
  | .tp is => gT is
def Tgt.slots : Tgt → List Nat
  | .nm i => [i]
  | .tp is => is
def wipeD (sl : List (Option D)) : List Nat → List (Option D)
  | [] => sl
  | v :: vs => (wipeD sl vs).set v none
/-! ### what is walked -/
structure ItD where
  n : Nat
  item : Nat → Store → Option D
  fin : Store → Bool
abbrev MI := Fr → Store → R ItD
/-! ### for -/
def loopN (it : ItD) (g : MG) (body : MS) (fl : Nat) : Nat → Nat → List (Option D) → Store → RS
  | 0, _, sl, C => if it.fin C = true then .nx sl C else .stuck
  | r + 1, j, sl, C => match it.item j C with
    | none => .stuck
    | some d => match g d sl with
      | none => .stuck
      | some sl1 => match body ⟨fl, sl1⟩ C with
        | .nx sl2 C2 => loopN it g body fl r (j + 1) sl2 C2
        | .ct sl2 C2 => loopN it g body fl r (j + 1) sl2 C2
        | .bk sl2 C2 => .nx sl2 C2
        | .rt d C2 => .rt d C2
        | .xc e sl2 C2 => .xc e sl2 C2
        | .stuck => .stuck
def sFor (mi : MI) (g : MG) (body : MS) : MS := fun F C => bndS F.sl (mi F C) fun it C1 => loopN it g body F.fl it.n 0 F.sl C1
/-! ### list comprehensions -/
def bn0 {α β : Type} (m : R α) (f : α → Store → R β) : R β := match m with
  | .ok a C => f a C
  | _ => .stuck
@[simp] theorem bn0_ok {α β : Type} (a : α) (C : Store) (f : α → Store → R β) : bn0 (.ok a C) f = f a C := rfl
def lcN (it : ItD) (g : MG) (tt : MT) (te : ME) (n : Nat) (sl : List (Option D)) : Nat → Nat → Store → R Unit
  | 0, _, C => if it.fin C = true then .ok () C else .stuck
  | r + 1, j, C => match it.item j C with
    | none => .stuck
    | some d => match g d sl with
      | none => .stuck
      | some sl1 => bn0 (tt ⟨n, sl1⟩ C) fun b C1 => if b = true then bn0 (te ⟨n, sl1⟩ C1) fun y C2 => match C2[n]? with
          | some (some (.lst acc)) => if szN (acc.length + 1) = true then lcN it g tt te n sl r (j + 1) (C2.set n (some (.lst (acc ++ [y])))) else .stuck
          | _ => .stuck
        else lcN it g tt te n sl r (j + 1) C1
/-- behind the loop: an own list; or plain data, the cell forgotten -/
def lcEnd (own : Bool) (n : Nat) (C : Store) : R D := if own = true then .ok (.cell n) C else match C[n]? with
  | some (some (.lst acc)) => if cbL n acc = true then .ok (.lst acc) (C.take n) else .stuck
  | _ => .stuck
def mLc (own : Bool) (mi : MI) (g : MG) (tt : MT) (te : ME) (vs : List Nat) : ME := fun F C => bnd (mi F C) fun it C1 => bn0 (lcN it g tt te C1.length (wipeD F.sl vs) it.n 0 (C1 ++ [some (.lst [])])) fun _ C2 => lcEnd own C1.length C2
end CT
set_option maxHeartbeats 4000000
/-! DL7: what is walked; defs. -/
namespace CT
open PySem L2
section
variable {X : Cx} {k : Cn} {W : WX} {E : Ends} {σ : L2.St} {H : Hp}
/-! ### lists and tuples -/
def itC (xs : List D) : ItD := ⟨xs.length, fun j _ => xs[j]?, fun _ => true⟩
def itV (i n : Nat) : ItD := ⟨n, fun j C => match C[i]? with
    | some (some (.lst ys)) => if ys.length = n then ys[j]? else none
    | _ => none, fun C => match C[i]? with
    | some (some (.lst ys)) => decide (ys.length = n)
    | _ => false⟩
def itS (d : D) (C : Store) : Option ItD := match d with
  | .tup xs => some (itC xs)
  | .kt xs => some (itC xs)
  | .lst xs => some (itC xs)
  | .cell i => match C[i]? with
    | some (some (.lst ys)) => some (itV i ys.length)
    | _ => none
  | _ => none
def mSeq (m : ME) : MI := fun F C => bnd (m F C) fun d C1 => match itS d C1 with
  | some it => .ok it C1
  | none => .stuck
/-! ### ranges -/
def inR (i : Int) : Bool := decide (-(2 ^ 62) ≤ i) && decide (i < 2 ^ 62)
def itR (lo : Int) (n : Nat) : ItD := ⟨n, fun j _ => some (.int (lo + j)), fun _ => true⟩
def mRng1 (a : ME) : MI := fun F C => bnd (a F C) fun d C1 => match d with
  | .int j => if inR j = true then .ok (itR 0 j.toNat) C1 else .stuck
  | _ => .stuck
def mRng2 (a b : ME) : MI := fun F C => bnd (a F C) fun d C1 => bnd (b F C1) fun e C2 => match d, e with
  | .int i, .int j => if (inR i && inR j) = true then .ok (itR i (j - i).toNat) C2 else .stuck
  | _, _ => .stuck
end
/-! ### defs -/
abbrev MF := List D → Store → R D
/-- what a def hands back: an own list or dict that it made becomes plain data; its cells are forgotten -/
def fz (n : Nat) (d : D) (C : Store) : D := match d with
  | .cell i => if i < n then d else match C[i]? with
    | some (some (.lst xs)) => .lst xs
    | some (some (.dT ks vs)) => .dT ks vs
    | _ => d
  | _ => d
def fin (n : Nat) (d : D) (C : Store) : R D := if cb n (fz n d C) = true then .ok (fz n d C) (C.take n) else .stuck
end CT
set_option maxHeartbeats 4000000
/-! DL8: defs, calls, instances over data. -/
namespace CT
open PySem L2 PySem.Spec PyProof.Rows
/-! ### defs that know that no repr runs around them -/
structure RoomG (lev : Nat) (A : Around) : Prop where
  room : Room lev A
  gd : A.guards = some []
/-! ### calls -/
def mCall (m : MF) (dds : List D) (a : MA) : ME := fun F C => bnd (a F C) fun ds C1 => m (ds ++ dds) C1
section
variable {X : Cx} {k : Cn} {W : WX} {σ : L2.St} {H : Hp} {Q : VK} {lev : Nat} {f C p g : Addr} {fd : FuncData} {ps : List Str} {np : Nat} {m : MF} {dvs : List V} {dds : List D} {ds : List Value} {x nm : Str} {pn pos apos : Pos} {e o : Expr} {es : List Expr} {ma : MA} {mo : ME}
/-! ### instances -/
/-- the class and the attributes of an instance -/
def vO (d : D) (C : Store) : Option (Nat × List D) := match d with
  | .obj c fs => some (c, fs)
  | .cell i => match C[i]? with
    | some (some (.ins c fs)) => some (c, fs)
    | _ => none
  | _ => none
/-- o.f, the n-th attribute of the class c -/
def oFld (c n : Nat) : O1 := fun x C => match vO x C with
  | some (c', fs) => if c' = c then (fs[n]?).map fun d => (d, C) else none
  | none => none
/-! ### methods, properties -/
/-- the receiver is an instance of c -/
def mMeth (c : Nat) (m : MF) (dds : List D) (mo : ME) (a : MA) : ME := fun F C => bnd (mo F C) fun x C1 => match vO x C1 with
  | some (c', _) => if c' = c then bnd (a F C1) fun ds C2 => m (x :: (ds ++ dds)) C2 else .stuck
  | none => .stuck
end
end CT
set_option maxHeartbeats 4000000
/-! DL9: built-in functions over data. -/
namespace CT
open PySem L2 PySem.Spec PyProof.Rows
/-! ### data as the library's own -/
mutual
def toP0 : D → Option PyData
  | .non => some .none
  | .bl b => some (.bool b)
  | .int i => some (.int i)
  | .str s => some (.str s)
  | .lst xs => (toP0s xs).map .list
  | .tup xs => (toP0s xs).map .tuple
  | .kt xs => (toP0s xs).map .tuple
  | .scr _ => none | .obj _ _ => none | .dT _ _ => none | .cell _ => none | .exn _ _ => none | .cls _ => none
def toP0s : List D → Option (List PyData)
  | [] => some []
  | d :: ds => match toP0 d, toP0s ds with
    | some p, some ps => some (p :: ps)
    | _, _ => none
end
mutual
/-- cells are looked into, one deep -/
def toP (C : Store) : D → Option PyData
  | .non => some .none
  | .bl b => some (.bool b)
  | .int i => some (.int i)
  | .str s => some (.str s)
  | .lst xs => (toPs C xs).map .list
  | .tup xs => (toPs C xs).map .tuple
  | .kt xs => (toPs C xs).map .tuple
  | .cell i => match C[i]? with
    | some (some (.lst xs)) => (toP0s xs).map .list
    | _ => none
  | .scr _ => none | .obj _ _ => none | .dT _ _ => none | .exn _ _ => none | .cls _ => none
def toPs (C : Store) : List D → Option (List PyData)
  | [] => some []
  | d :: ds => match toP C d, toPs C ds with
    | some p, some ps => some (p :: ps)
    | _, _ => none
end
/-! ### == and != of data -/
def oEqD (neg : Bool) : O2 := fun x y C => match toP C x, toP C y with
  | some p, some q => if (SeqAt.shaped p && SeqAt.shaped q) = true then some (.bl (if neg = true then !PyData.eqv p q else PyData.eqv p q), C) else none
  | _, _ => none
/-! ### repr -/
def repOk (p : PyData) : Bool := p.showable && !p.hasDict && decide (p.depth ≤ 60) && szN p.shown.length
/-! ### len, sums, least, greatest, conversions -/
def dInts : List D → Option (List Int)
  | [] => some []
  | .int i :: r => (dInts r).map fun l => i :: l
  | _ :: _ => none
@[simp] theorem dInts_map (ns : List Int) : dInts (ns.map D.int) = some ns := by
  induction ns with
  | nil => rfl
  | cons n r ih => simp [dInts, ih]
def dBools : List D → Option (List Bool)
  | [] => some []
  | .bl i :: r => (dBools r).map fun l => i :: l
  | _ :: _ => none
@[simp] theorem dBools_map (ns : List Bool) : dBools (ns.map D.bl) = some ns := by
  induction ns with
  | nil => rfl
  | cons n r ih => simp [dBools, ih]
def o2I (g : Int → Int → Int) : OA := fun xs C => match xs with
  | [.int i, .int j] => some (.int (g i j), C)
  | _ => none
def oMax2 : OA := o2I fun i j => if j > i then j else i
def oMin2 : OA := o2I fun i j => if j < i then j else i
def oAbs : OA := fun xs C => match xs with
  | [.int i] => some (.int (if i < 0 then -i else i), C)
  | _ => none
def oInt : OA := fun xs C => match xs with
  | [.int i] => some (.int i, C)
  | [.bl b] => some (.int (if b then 1 else 0), C)
  | _ => none
/-- tuple(list), tuple(tuple) -/
def oTupOf : OA := fun xs C => match xs with
  | [.tup ys] => some (.tup ys, C)
  | [.kt ys] => some (.kt ys, C)
  | [d] => (vL d C).map fun ys => (.tup ys, C)
  | _ => none
/-! ### + and * of lists, + of tuples -/
/-! ### slices of lists -/
def mNoPart : Fr → Store → R (Option Int) := fun _ C => .ok none C
def mPart (m : ME) : Fr → Store → R (Option Int) := fun F C => bnd (m F C) fun d C1 => match d with
  | .int i => .ok (some i) C1
  | _ => .stuck
def cutD (xs : List D) (lo hi : Option Int) : List D := (xs.drop (HT.sIx xs.length 0 lo)).take (HT.sIx xs.length xs.length hi - HT.sIx xs.length 0 lo)
def vLs (d : D) (C : Store) : Option (List D) := match d with
  | .scr xs => some xs
  | _ => vL d C
/-- xs[lo:hi] of a list, a new list -/
def mSlL (own : Bool) (a : ME) (l h : Fr → Store → R (Option Int)) : ME := fun F C => bnd (a F C) fun x C1 => bnd (l F C1) fun lo C2 => bnd (h F C2) fun hi C3 => match vLs x C3 with
  | some xs => ofO (some (mkL own (cutD xs lo hi) C3))
  | none => .stuck
end CT
set_option maxHeartbeats 4000000
/-! DLA: instances made, attributes stored, properties, isinstance. -/
namespace CT
open PySem L2 PySem.Spec PyProof.Rows
/-! ### C(..) -/
end CT
set_option maxHeartbeats 4000000
/-! DLB: properties, isinstance, comprehensions as statements, two clauses. -/
namespace CT
open PySem L2 PySem.Spec PyProof.Rows
/-! ### o.f, a property -/
def mProp (c : Nat) (m : MF) (mo : ME) : ME := fun F C => bnd (mo F C) fun x C1 => match vO x C1 with
  | some (c', _) => if c' = c then (match m [x] C1 with
    | .ok d C2 => .ok d C2
    | _ => .stuck) else .stuck
  | none => .stuck
/-! ### isinstance -/
inductive Bt where
  | int | bool | str | list | tuple | dict | none
  deriving DecidableEq
def Bt.name : Bt → String
  | .int => "int" | .bool => "bool" | .str => "str" | .list => "list" | .tuple => "tuple" | .dict => "dict" | .none => "NoneType"
inductive Cc where
  | ty (b : Bt) | own (c : Nat)
def isaT : Bt → Bt → Bool
  | .bool, .int => true
  | a, b => decide (a = b)
def tyD (d : D) (C : Store) : Option Cc := match d with
  | .non => some (.ty .none) | .bl _ => some (.ty .bool) | .int _ => some (.ty .int) | .str _ => some (.ty .str)
  | .lst _ => some (.ty .list) | .tup _ => some (.ty .tuple) | .kt _ => some (.ty .tuple) | .dT _ _ => some (.ty .dict)
  | .obj c _ => some (.own c)
  | .scr _ => none
  | .exn _ _ => none
  | .cls _ => none
  | .cell i => match C[i]? with
    | some (some (.lst _)) => some (.ty .list)
    | some (some (.dT _ _)) => some (.ty .dict)
    | some (some (.ins c _)) => some (.own c)
    | _ => none
def isi (kn : List Nat) (d : D) (C : Store) (t : Cc) : Option Bool := match tyD d C with
  | some (.ty a) => (match t with
    | .ty b => some (isaT a b)
    | .own _ => some false)
  | some (.own c) => if c ∈ kn then (match t with
    | .ty _ => some false
    | .own c' => some (decide (c = c'))) else none
  | none => none
def mIsi (kn : List Nat) (t : Cc) (m : ME) : ME := fun F C => bnd (m F C) fun d C1 => match isi kn d C1 t with
  | some b => .ok (.bl b) C1
  | none => .stuck
def mIsi2 (kn : List Nat) (t u : Cc) (m : ME) : ME := fun F C => bnd (m F C) fun d C1 => match isi kn d C1 t, isi kn d C1 u with
  | some b, some b' => .ok (.bl (b || b')) C1
  | _, _ => .stuck
def Cc.val (k : Cn) : Cc → Value
  | .ty b => .type b.name
  | .own c => .ref (k.cl c)
def Cc.v (k : Cn) : Cc → V
  | .ty b => .ty b.name
  | .own c => .ref (k.cl c)
theorem Cc.cls {k : Cn} (t : Cc) : ClsV (t.v k) (t.val k) := by
  cases t with
  | ty b => exact .ty _
  | own c => exact .own _
end CT
set_option maxHeartbeats 4000000
/-! DLC: isinstance as an expression; comprehensions that are assigned, and of two clauses; xs[i] += e; membership; list(range(..)). -/
namespace CT
open PySem L2 PySem.Spec PyProof.Rows
section
variable {X : Cx} {k : Cn} {W : WX} {σ : L2.St} {H : Hp} {Q : VK} {E : Ends}
/-! ### tests of a clause -/
def tYesM : MT := fun _ C => .ok true C
/-! ### y = [..] -/
/-! ### two clauses -/
/-! ### xs[i] += e -/
def sAugL (o : Int → Int → Int) (mo mi me : ME) : MS := fun F C => bndS F.sl (mo F C) fun l C1 => bndS F.sl (mi F C1) fun x C2 => match x, cL l C2 with
  | .int n, some (_, ds) => if 0 ≤ n then (match ds[n.toNat]? with
    | some (.int a) => bndS F.sl (me F C2) fun v C3 => (match v, cL l C3 with
      | .int b, some (i, es) => (match ixN es.length n with
        | some j => (match wr F.fl i (.lst (es.set j (.int (o a b)))) C3 with
          | some C4 => .nx F.sl C4
          | none => .stuck)
        | none => .stuck)
      | _, _ => .stuck)
    | _ => .stuck) else .stuck
  | _, _ => .stuck
/-! ### x in a tuple or list of data -/
end
end CT
set_option maxHeartbeats 4000000
/-! DLD: list(range(..)), sorted(..), dict(..). -/
namespace CT
open PySem L2 PySem.Spec PyProof.Rows
/-! ### sorted -/
end CT
set_option maxHeartbeats 4000000
/-! DLE: sorted and dict(d) over data. -/
namespace CT
open PySem L2 PySem.Spec PyProof.Rows
/-! ### dict(d), keys that are tuples -/
end CT
set_option maxHeartbeats 4000000
/-! DLF: dict(d) over data; enumerate. -/
namespace CT
open PySem L2 PySem.Spec PyProof.Rows
/-! ### a list of unlike numbers -/
inductive BT where
  | lf | nd (l : BT) (x : Nat) (r : BT)
def BT.ins (x : Nat) : BT → Option BT
  | .lf => some (.nd .lf x .lf)
  | .nd l y r => bif Nat.blt x y then (match l.ins x with
      | some l' => some (.nd l' y r)
      | none => none) else bif Nat.blt y x then (match r.ins x with
      | some r' => some (.nd l y r')
      | none => none) else none
/-! ### enumerate(tuple) -/
def prI (it : ItD) : ItD := ⟨it.n, fun j C => (it.item j C).map fun x => .tup [.int (j : Nat), x], it.fin⟩
def mEnum (m : ME) : MI := fun F C => bnd (m F C) fun d C1 => match itS d C1 with
  | some it => .ok (prI it) C1
  | none => .stuck
end CT
set_option maxHeartbeats 4000000
/-! DLG: what the head tells (defs by addresses, checks), the law's end for data. -/
namespace CT
open PySem L2 PySem.Spec PyProof.Rows
/-! ### defs, by where they stand -/
structure DefX where
  adr : PySem.W.Frag → Addr
  name : Str
  qual : Str
  params : Arguments
  body : List Stmt
  scope : Scope
  dfl : PySem.W.Frag → List V := fun _ => []
def fnX (K : PySem.W.Frag) (a : Addr) : He.FnW := match K.lookup a with
  | some ⟨_, _, .func fd, _⟩ => some (fd.name, fd.qualname, fd.params, fd.body, fd.scope, fd.globals, fd.closure, fd.builtins)
  | _ => none
def DefX.val (d : DefX) : He.FnW := some (d.name, d.qual, d.params, .stmts d.body, d.scope, mainGlobals, [], builtinsNs)
def DefX.ok (K : PySem.W.Frag) (d : DefX) : Bool := PySem.W.keepIn K (.ref (d.adr K)) && (match K.lookup (d.adr K) with
  | some ⟨_, _, .func fd, _⟩ => PySem.W.codeIn K fd.code d.qual && He.dflB K fd.defaults (d.dfl K)
  | _ => false)
/-! ### the head's look -/
abbrev AlX : Type := Bool × List He.FnW
def obX (fs : List (PySem.W.Frag → Bool)) (fn : List DefX) (K : PySem.W.Frag) : AlX := ((fs.all fun f => f K) && fn.all fun d => d.ok K, fn.map fun d => fnX K (d.adr K))
def vlX (fn : List DefX) : AlX := (true, fn.map DefX.val)
def SaysX (fs : List (PySem.W.Frag → Bool)) (fn : List DefX) (K : PySem.W.Frag) : Prop := obX fs fn K = vlX fn
/-! ### checks -/
section
variable {K : PySem.W.Frag}
def allBt : List Bt := [.int, .bool, .str, .list, .tuple, .dict, .none]
def insB (C : Addr) (K : PySem.W.Frag) : Bool := PySem.W.plainGet K C Str.empty && (PySem.W.hasDictIn K C && (PySem.W.plainOver K C && (He.eqO (PySem.W.findIn K (.ref C) "__setattr__") (some (some (.builtin "object.__setattr__"))) &&
  (He.eqO (PySem.W.findIn K (.ref C) "__class__") (some (some (.builtin "object.__class__"))) && (He.eqO (PySem.W.specialIn K (.builtin "object.__class__") "__get__") (some (some (.builtin "getset_descriptor.__get__"))) &&
  (decide (PySem.W.takesIn K (.builtin "object.__class__") = some true) && (decide (PySem.W.mroIn K C (.type "object") = some true) && decide (PySem.W.kitOne K (.ref C) (.ref C) = some true))))))))
def isaB (cl : PySem.W.Frag → Nat → Addr) (kn : List Nat) (K : PySem.W.Frag) : Bool := (kn.all fun c => insB (cl K c) K) && ((kn.all fun c => kn.all fun c' => decide (PySem.W.kitOne K (.ref (cl K c)) (.ref (cl K c')) = some (decide (c = c')))) &&
  (kn.all fun c => allBt.all fun b => decide (PySem.W.kitOne K (.ref (cl K c)) (.type b.name) = some false) && decide (PySem.W.kitOne K (.type b.name) (.ref (cl K c)) = some false)))
/-- an empty tuple of the written part -/
def ktB (a : PySem.W.Frag → Addr) (K : PySem.W.Frag) : Bool := match K.lookup (a K) with
  | some ⟨.type c, _, .seq its _, _⟩ => decide (c = "tuple") && decide (its.size = 0)
  | _ => false
end
/-! ### the end -/
end CT
set_option maxHeartbeats 4000000
/-! DLH: a def that hands back a list of its own, to be changed by its caller. -/
namespace CT
open PySem L2 PySem.Spec PyProof.Rows
end CT
set_option maxHeartbeats 4000000
/-! DLI: comparisons as tests. -/
namespace CT
open PySem L2 PySem.Spec PyProof.Rows
/-! ### == and !=, scalars or data -/
def oEqA (neg : Bool) : O2 := fun x y C => match x, y with
  | .int a, .int b => some (.bl (if neg = true then !decide (a = b) else decide (a = b)), C)
  | .str a, .str b => some (.bl (if neg = true then !decide (a = b) else decide (a = b)), C)
  | x, y => oEqD neg x y C
end CT
set_option maxHeartbeats 4000000
/-! DLJ: operators that a class defines: ==, !=, +, in, []. -/
namespace CT
open PySem L2 PySem.Spec PyProof.Rows
end CT
set_option maxHeartbeats 4000000
/-! DLK: != by an own __eq__; x[i] by an own __getitem__. -/
namespace CT
open PySem L2 PySem.Spec PyProof.Rows
end CT
set_option maxHeartbeats 4000000
/-! DLL: own operators over data. -/
namespace CT
open PySem L2 PySem.Spec PyProof.Rows
/-! ### the terms -/
/-! ### readings -/
end CT
set_option maxHeartbeats 4000000
/-! DLM: what the head says of own operators. -/
namespace CT
open PySem L2 PySem.Spec PyProof.Rows
end CT
set_option maxHeartbeats 4000000
/-! DLN: t[::-1], xs[::-1], t[lo:hi]. -/
namespace CT
open PySem L2 PySem.Spec PyProof.Rows HT
def mRevT (m : ME) : ME := fun F C => bnd (m F C) fun x C1 => match vT x with
  | some xs => .ok (.tup xs.reverse) C1
  | none => .stuck
/-- t[lo:hi], the whole tuple too -/
def mSlA (a : ME) (l h : Fr → Store → R (Option Int)) : ME := fun F C => bnd (a F C) fun x C1 => bnd (l F C1) fun lo C2 => bnd (h F C2) fun hi C3 => match vT x with
  | some xs => if HT.sIx xs.length 0 lo = 0 ∧ HT.sIx xs.length xs.length hi = xs.length then .ok x C3 else .ok (.tup (cutD xs lo hi)) C3
  | none => .stuck
end CT
set_option maxHeartbeats 4000000
/-! DLO: errors of the program's own: made and raised. -/
namespace CT
open PySem L2 PySem.Spec PyProof.Rows
/-! ### what the head says of an error class -/
/-! ### __init__: one field, two fields -/
/-! ### raise C(e, ..) -/
def sRaise (c n : Nat) (ma : MA) : MS := fun F C => bndS F.sl (ma F C) fun ds C1 => if ds.length = n then .xc ⟨c, ds.reverse⟩ F.sl C1 else .stuck
end CT
set_option maxHeartbeats 4000000
/-! DLP: try: .. except C as n: .. return; the error is held as data. -/
namespace CT
open PySem L2 PySem.Spec PyProof.Rows
mutual
/-- no held error within -/
def nx : D → Bool
  | .lst xs => nxL xs
  | .tup xs => nxL xs
  | .scr xs => nxL xs
  | .kt xs => nxL xs
  | .obj _ fs => nxL fs
  | .dT _ vs => nxL vs
  | .exn _ _ => false
  | .cls _ => true
  | .cell _ => true | .non => true | .bl _ => true | .int _ => true | .str _ => true
def nxL : List D → Bool
  | [] => true
  | d :: ds => nx d && nxL ds
end
section
variable {k : Cn} {A A' : Nat → Addr} {C C' : Store} {H H' : Hp} {a dd : Addr} {c : Nat} {fl : Nat}
mutual
theorem Rep.nx (hk : k.ex = none) : ∀ {v : V} {d : D}, Rep k A C H v d → CT.nx d = true
  | _, _, .non => rfl
  | _, _, .bl b => rfl
  | _, _, .int i => rfl
  | _, _, .str s => rfl
  | _, _, .lst l h r => by simpa [CT.nx] using r.nx hk
  | _, _, .tup l h r => by simpa [CT.nx] using r.nx hk
  | _, _, .ktup h r => by simpa [CT.nx] using r.nx hk
  | _, _, .scr l h r => by simpa [CT.nx] using r.nx hk
  | _, _, .kscr h r => by simpa [CT.nx] using r.nx hk
  | _, _, .obj l h z r => by simpa [CT.nx] using r.nx hk
  | _, _, .dT l h r => by simpa [CT.nx] using r.nx hk
  | _, _, .cell hi => rfl
  | _, _, .cls c => rfl
  | _, _, .exn x l h z r => by rw [hk] at x; cases x
theorem RepL.nx (hk : k.ex = none) : ∀ {vs : List V} {ds : List D}, RepL k A C H vs ds → CT.nxL ds = true
  | _, _, .nil => rfl
  | _, _, .cons r t => by simp [CT.nxL, r.nx hk, t.nx hk]
end
end
end CT
set_option maxHeartbeats 4000000
/-! DLQ: isinstance of the held error. -/
namespace CT
open PySem L2 PySem.Spec PyProof.Rows PySem.W
end CT
set_option maxHeartbeats 4000000
/-! DLR: web * k. -/
namespace CT
open PySem L2 PySem.Spec PyProof.Rows PySem.W
/-! ### over data -/
end CT
set_option maxHeartbeats 4000000
/-! DLS: is None; sorted(set(xs)) of ints, len(set(xs)) of tuples of ints. -/
namespace CT
open PySem L2 PySem.Spec PyProof.Rows
/-! ### is None, is not None -/
/-! ### set(xs), xs a list of ints -/
end CT
set_option maxHeartbeats 4000000
/-! E1: how the terms of the layer are worked out. -/
namespace CT
open PySem L2
/-! ### named steps; simp looks at what is done first alone -/
def getV (o : Option (Option D)) (C : Store) : R D := match o with
  | some (some d) => .ok d C
  | _ => .stuck
@[simp] theorem getV_some (d : D) (C : Store) : getV (some (some d)) C = .ok d C := rfl
def thenS (r : RS) (f : List (Option D) → Store → RS) : RS := match r with
  | .nx sl C => f sl C
  | r => r
@[simp] theorem thenS_nx (sl : List (Option D)) (C : Store) (f : List (Option D) → Store → RS) : thenS (.nx sl C) f = f sl C := rfl
@[simp] theorem thenS_rt (d : D) (C : Store) (f : List (Option D) → Store → RS) : thenS (.rt d C) f = .rt d C := rfl
@[simp] theorem thenS_bk (sl : List (Option D)) (C : Store) (f : List (Option D) → Store → RS) : thenS (.bk sl C) f = .bk sl C := rfl
@[simp] theorem thenS_ct (sl : List (Option D)) (C : Store) (f : List (Option D) → Store → RS) : thenS (.ct sl C) f = .ct sl C := rfl
def asB (d : D) (C : Store) : R Bool := match d with
  | .bl b => .ok b C
  | _ => .stuck
@[simp] theorem asB_bl (b : Bool) (C : Store) : asB (.bl b) C = .ok b C := rfl
def asgS (o : Option (List (Option D))) (C : Store) : RS := match o with
  | some sl => .nx sl C
  | none => .stuck
@[simp] theorem asgS_some (sl : List (Option D)) (C : Store) : asgS (some sl) C = .nx sl C := rfl
def finS (n : Nat) (r : RS) : R D := match r with
  | .nx _ C' => fin n .non C'
  | .rt d C' => fin n d C'
  | .xc e _ C' => if cbL n e.fs = true then .exc e (C'.take n) else .stuck
  | _ => .stuck
@[simp] theorem finS_nx (n : Nat) (sl : List (Option D)) (C : Store) : finS n (.nx sl C) = fin n .non C := rfl
@[simp] theorem finS_rt (n : Nat) (d : D) (C : Store) : finS n (.rt d C) = fin n d C := rfl
@[simp] theorem fin_int (n : Nat) (i : Int) (C : Store) : fin n (.int i) C = .ok (.int i) (C.take n) := rfl
@[simp] theorem fin_bl (n : Nat) (i : Bool) (C : Store) : fin n (.bl i) C = .ok (.bl i) (C.take n) := rfl
@[simp] theorem fin_non (n : Nat) (C : Store) : fin n .non C = .ok .non (C.take n) := rfl
@[simp] theorem fin_str (n : Nat) (i : Str) (C : Store) : fin n (.str i) C = .ok (.str i) (C.take n) := rfl
section
variable (fl : Nat) (sl : List (Option D)) (C : Store) (F : Fr)
@[simp] theorem ev_var (i : Nat) : mVar i ⟨fl, sl⟩ C = getV sl[i]? C := rfl
@[simp] theorem ev_c (d : D) : mC d F C = .ok d C := rfl
@[simp] theorem ev_nil : mNil F C = .ok [] C := rfl
@[simp] theorem ev_next : sNext F C = .nx F.sl C := rfl
@[simp] theorem ev_yes : tYesM F C = .ok true C := rfl
@[simp] theorem ev_retN : sRetN F C = .rt .non C := rfl
@[simp] theorem ev_gN (i : Nat) (d : D) : gN i d sl = some (sl.set i (some d)) := rfl
@[simp] theorem ev_ofO_some (d : D) : ofO (some (d, C)) = .ok d C := rfl
@[simp] theorem ev_ofO_none : ofO none = .stuck := rfl
@[simp] theorem ev_add (a b : Int) : oAdd (.int a) (.int b) C = some (.int (a + b), C) := rfl
@[simp] theorem ev_sub (a b : Int) : oSub (.int a) (.int b) C = some (.int (a - b), C) := rfl
@[simp] theorem ev_lt (a b : Int) : oLt (.int a) (.int b) C = some (.bl (decide (a < b)), C) := rfl
@[simp] theorem ev_le (a b : Int) : oLe (.int a) (.int b) C = some (.bl (decide (a ≤ b)), C) := rfl
@[simp] theorem ev_gt (a b : Int) : oGt (.int a) (.int b) C = some (.bl (decide (b < a)), C) := rfl
@[simp] theorem ev_ge (a b : Int) : oGe (.int a) (.int b) C = some (.bl (decide (b ≤ a)), C) := rfl
@[simp] theorem ev_neg (a : Int) : oNeg (.int a) C = some (.int (-a), C) := rfl
@[simp] theorem ev_min (a b : Int) : oMin2 [.int a, .int b] C = some (.int (min a b), C) := by
  show some (D.int (if b < a then b else a), C) = _
  congr 3
  by_cases h : b < a
  · rw [if_pos h]; omega
  · rw [if_neg h]; omega
@[simp] theorem ev_max (a b : Int) : oMax2 [.int a, .int b] C = some (.int (max a b), C) := by
  show some (D.int (if b > a then b else a), C) = _
  congr 3
  by_cases h : b > a
  · rw [if_pos h]; omega
  · rw [if_neg h]; omega
@[simp] theorem ev_int (a : Int) : oInt [.int a] C = some (.int a, C) := rfl
@[simp] theorem ev_abs (a : Int) : oAbs [.int a] C = some (.int (a.natAbs : Int), C) := by
  show some (D.int (if a < 0 then -a else a), C) = _
  congr 3
  by_cases h : a < 0
  · rw [if_pos h]; omega
  · rw [if_neg h]; omega
@[simp] theorem ev_eq (a b : Int) : oEqA false (.int a) (.int b) C = some (.bl (decide (a = b)), C) := rfl
@[simp] theorem ev_ne (a b : Int) : oEqA true (.int a) (.int b) C = some (.bl (!decide (a = b)), C) := rfl
@[simp] theorem ev_eqS (a b : Str) : oEqA false (.str a) (.str b) C = some (.bl (decide (a = b)), C) := rfl
@[simp] theorem ev_neS (a b : Str) : oEqA true (.str a) (.str b) C = some (.bl (!decide (a = b)), C) := rfl
end
/-! ### what is done next, as constants -/
section
variable {α β : Type}
def opK2 (o : O2) (x : D) (m : R D) : R D := bnd m fun y C2 => ofO (o x y C2)
@[simp] theorem opK2_ok (o : O2) (x y : D) (C : Store) : opK2 o x (.ok y C) = ofO (o x y C) := rfl
def opK (o : O2) (b : ME) (F : Fr) (m : R D) : R D := bnd m fun x C1 => opK2 o x (b F C1)
@[simp] theorem opK_ok (o : O2) (b : ME) (F : Fr) (x : D) (C : Store) : opK o b F (.ok x C) = opK2 o x (b F C) := rfl
@[simp] theorem ev_op (o : O2) (a b : ME) (F : Fr) (C : Store) : mOp o a b F C = opK o b F (a F C) := rfl
def unK (o : O1) (m : R D) : R D := bnd m fun x C1 => ofO (o x C1)
@[simp] theorem unK_ok (o : O1) (x : D) (C : Store) : unK o (.ok x C) = ofO (o x C) := rfl
@[simp] theorem ev_un (o : O1) (a : ME) (F : Fr) (C : Store) : mUn o a F C = unK o (a F C) := rfl
def consK2 (x : D) (m : R (List D)) : R (List D) := bnd m fun xs C2 => .ok (x :: xs) C2
@[simp] theorem consK2_ok (x : D) (xs : List D) (C : Store) : consK2 x (.ok xs C) = .ok (x :: xs) C := rfl
def consK (r : MA) (F : Fr) (m : R D) : R (List D) := bnd m fun x C1 => consK2 x (r F C1)
@[simp] theorem consK_ok (r : MA) (F : Fr) (x : D) (C : Store) : consK r F (.ok x C) = consK2 x (r F C) := rfl
@[simp] theorem ev_cons (a : ME) (r : MA) (F : Fr) (C : Store) : mCons a r F C = consK r F (a F C) := rfl
def apK (o : OA) (m : R (List D)) : R D := bnd m fun xs C1 => ofO (o xs C1)
@[simp] theorem apK_ok (o : OA) (xs : List D) (C : Store) : apK o (.ok xs C) = ofO (o xs C) := rfl
@[simp] theorem ev_ap (o : OA) (a : MA) (F : Fr) (C : Store) : mAp o a F C = apK o (a F C) := rfl
def tstK (m : R D) : R Bool := bnd m asB
@[simp] theorem tstK_ok (b : Bool) (C : Store) : tstK (.ok (.bl b) C) = .ok b C := rfl
@[simp] theorem ev_tst (a : ME) (F : Fr) (C : Store) : mTst a F C = tstK (a F C) := rfl
def tandK (b : MT) (F : Fr) (m : R Bool) : R Bool := bnd m fun x C1 => if x = true then b F C1 else .ok false C1
@[simp] theorem tandK_t (b : MT) (F : Fr) (C : Store) : tandK b F (.ok true C) = b F C := rfl
@[simp] theorem tandK_f (b : MT) (F : Fr) (C : Store) : tandK b F (.ok false C) = .ok false C := rfl
@[simp] theorem ev_tand (a b : MT) (F : Fr) (C : Store) : tAndM a b F C = tandK b F (a F C) := rfl
def torK (b : MT) (F : Fr) (m : R Bool) : R Bool := bnd m fun x C1 => if x = true then .ok true C1 else b F C1
@[simp] theorem torK_t (b : MT) (F : Fr) (C : Store) : torK b F (.ok true C) = .ok true C := rfl
@[simp] theorem torK_f (b : MT) (F : Fr) (C : Store) : torK b F (.ok false C) = b F C := rfl
@[simp] theorem ev_tor (a b : MT) (F : Fr) (C : Store) : tOrM a b F C = torK b F (a F C) := rfl
def tnotK (m : R Bool) : R Bool := bnd m fun x C1 => .ok (!x) C1
@[simp] theorem tnotK_ok (x : Bool) (C : Store) : tnotK (.ok x C) = .ok (!x) C := rfl
@[simp] theorem ev_tnot (a : MT) (F : Fr) (C : Store) : tNotM a F C = tnotK (a F C) := rfl
def ifK (a b : ME) (F : Fr) (m : R Bool) : R D := bnd m fun x C1 => if x = true then a F C1 else b F C1
@[simp] theorem ifK_t (a b : ME) (F : Fr) (C : Store) : ifK a b F (.ok true C) = a F C := rfl
@[simp] theorem ifK_f (a b : ME) (F : Fr) (C : Store) : ifK a b F (.ok false C) = b F C := rfl
@[simp] theorem ev_if (t : MT) (a b : ME) (F : Fr) (C : Store) : mIf t a b F C = ifK a b F (t F C) := rfl
def andK (b : ME) (F : Fr) (m : R D) : R D := bnd m fun x C1 => match x with
  | .bl true => b F C1
  | .bl false => .ok (.bl false) C1
  | _ => .stuck
@[simp] theorem andK_t (b : ME) (F : Fr) (C : Store) : andK b F (.ok (.bl true) C) = b F C := rfl
@[simp] theorem andK_f (b : ME) (F : Fr) (C : Store) : andK b F (.ok (.bl false) C) = .ok (.bl false) C := rfl
@[simp] theorem ev_and (a b : ME) (F : Fr) (C : Store) : mAnd a b F C = andK b F (a F C) := rfl
def orK (b : ME) (F : Fr) (m : R D) : R D := bnd m fun x C1 => match x with
  | .bl true => .ok (.bl true) C1
  | .bl false => b F C1
  | _ => .stuck
@[simp] theorem orK_t (b : ME) (F : Fr) (C : Store) : orK b F (.ok (.bl true) C) = .ok (.bl true) C := rfl
@[simp] theorem orK_f (b : ME) (F : Fr) (C : Store) : orK b F (.ok (.bl false) C) = b F C := rfl
@[simp] theorem ev_or (a b : ME) (F : Fr) (C : Store) : mOr a b F C = orK b F (a F C) := rfl
def notK (m : R D) : R D := bnd m fun x C1 => match x with
  | .bl b => .ok (.bl (!b)) C1
  | _ => .stuck
@[simp] theorem notK_ok (b : Bool) (C : Store) : notK (.ok (.bl b) C) = .ok (.bl (!b)) C := rfl
@[simp] theorem ev_not (a : ME) (F : Fr) (C : Store) : mNot a F C = notK (a F C) := rfl
def chK4 (o' : O2) (y : D) (m : R D) : R D := bnd m fun w C4 => ofO (o' y w C4)
@[simp] theorem chK4_ok (o' : O2) (y w : D) (C : Store) : chK4 o' y (.ok w C) = ofO (o' y w C) := rfl
def chK3 (o' : O2) (c : ME) (F : Fr) (y : D) (m : R D) : R D := bnd m fun z C3 => match z with
  | .bl true => chK4 o' y (c F C3)
  | .bl false => .ok (.bl false) C3
  | _ => .stuck
@[simp] theorem chK3_t (o' : O2) (c : ME) (F : Fr) (y : D) (C : Store) : chK3 o' c F y (.ok (.bl true) C) = chK4 o' y (c F C) := rfl
@[simp] theorem chK3_f (o' : O2) (c : ME) (F : Fr) (y : D) (C : Store) : chK3 o' c F y (.ok (.bl false) C) = .ok (.bl false) C := rfl
def chK2 (o o' : O2) (c : ME) (F : Fr) (x : D) (m : R D) : R D := bnd m fun y C2 => chK3 o' c F y (ofO (o x y C2))
@[simp] theorem chK2_ok (o o' : O2) (c : ME) (F : Fr) (x y : D) (C : Store) : chK2 o o' c F x (.ok y C) = chK3 o' c F y (ofO (o x y C)) := rfl
def chK (o o' : O2) (b c : ME) (F : Fr) (m : R D) : R D := bnd m fun x C1 => chK2 o o' c F x (b F C1)
@[simp] theorem chK_ok (o o' : O2) (b c : ME) (F : Fr) (x : D) (C : Store) : chK o o' b c F (.ok x C) = chK2 o o' c F x (b F C) := rfl
@[simp] theorem ev_chain (o o' : O2) (a b c : ME) (F : Fr) (C : Store) : mChain o o' a b c F C = chK o o' b c F (a F C) := rfl
def seqK (b : MS) (fl : Nat) (r : RS) : RS := match r with
  | .nx sl C1 => b ⟨fl, sl⟩ C1
  | r => r
@[simp] theorem seqK_nx (b : MS) (fl : Nat) (sl : List (Option D)) (C : Store) : seqK b fl (.nx sl C) = b ⟨fl, sl⟩ C := rfl
@[simp] theorem seqK_rt (b : MS) (fl : Nat) (d : D) (C : Store) : seqK b fl (.rt d C) = .rt d C := rfl
@[simp] theorem ev_seq (a b : MS) (F : Fr) (C : Store) : sSeq a b F C = seqK b F.fl (a F C) := by
  unfold sSeq seqK
  cases a F C <;> rfl
def dropK (sl : List (Option D)) (m : R D) : RS := bndS sl m fun _ C1 => .nx sl C1
@[simp] theorem dropK_ok (sl : List (Option D)) (d : D) (C : Store) : dropK sl (.ok d C) = .nx sl C := rfl
@[simp] theorem ev_sdrop (m : ME) (F : Fr) (C : Store) : sDrop m F C = dropK F.sl (m F C) := rfl
def retK (sl : List (Option D)) (m : R D) : RS := bndS sl m fun d C1 => .rt d C1
@[simp] theorem retK_ok (sl : List (Option D)) (d : D) (C : Store) : retK sl (.ok d C) = .rt d C := rfl
@[simp] theorem ev_sret (m : ME) (F : Fr) (C : Store) : sRet m F C = retK F.sl (m F C) := rfl
def sifK (a b : MS) (F : Fr) (m : R Bool) : RS := bndS F.sl m fun x C1 => if x = true then a F C1 else b F C1
@[simp] theorem sifK_t (a b : MS) (F : Fr) (C : Store) : sifK a b F (.ok true C) = a F C := rfl
@[simp] theorem sifK_f (a b : MS) (F : Fr) (C : Store) : sifK a b F (.ok false C) = b F C := rfl
@[simp] theorem ev_sif (t : MT) (a b : MS) (F : Fr) (C : Store) : sIf t a b F C = sifK a b F (t F C) := rfl
def asgK (g : MG) (sl : List (Option D)) (m : R D) : RS := bndS sl m fun d C1 => asgS (g d sl) C1
@[simp] theorem asgK_ok (g : MG) (sl : List (Option D)) (d : D) (C : Store) : asgK g sl (.ok d C) = asgS (g d sl) C := rfl
@[simp] theorem ev_asg (m : ME) (g : MG) (F : Fr) (C : Store) : sAsg m g F C = asgK g F.sl (m F C) := rfl
def parK (is : List Nat) (sl : List (Option D)) (m : R (List D)) : RS := bndS sl m fun ds C1 => asgS (setAll is ds sl) C1
@[simp] theorem parK_ok (is : List Nat) (sl : List (Option D)) (ds : List D) (C : Store) : parK is sl (.ok ds C) = asgS (setAll is ds sl) C := rfl
@[simp] theorem ev_par (is : List Nat) (m : MA) (F : Fr) (C : Store) : sPar is m F C = parK is F.sl (m F C) := rfl
@[simp] theorem setAll_nil (sl : List (Option D)) : setAll [] [] sl = some sl := rfl
@[simp] theorem setAll_cons (i : Nat) (is : List Nat) (d : D) (ds : List D) (sl : List (Option D)) : setAll (i :: is) (d :: ds) sl = setAll is ds (sl.set i (some d)) := rfl
@[simp] theorem ev_gT (is : List Nat) (ds : List D) (sl : List (Option D)) : gT is (.tup ds) sl = setAll is ds sl := rfl
def callK (m : MF) (dds : List D) (r : R (List D)) : R D := bnd r fun ds C1 => m (ds ++ dds) C1
@[simp] theorem callK_ok (m : MF) (dds ds : List D) (C : Store) : callK m dds (.ok ds C) = m (ds ++ dds) C := rfl
@[simp] theorem ev_call (m : MF) (dds : List D) (a : MA) (F : Fr) (C : Store) : mCall m dds a F C = callK m dds (a F C) := rfl
def forK (g : MG) (body : MS) (F : Fr) (m : R ItD) : RS := bndS F.sl m fun it C1 => loopN it g body F.fl it.n 0 F.sl C1
@[simp] theorem forK_ok (g : MG) (body : MS) (F : Fr) (it : ItD) (C : Store) : forK g body F (.ok it C) = loopN it g body F.fl it.n 0 F.sl C := rfl
@[simp] theorem ev_for (mi : MI) (g : MG) (body : MS) (F : Fr) (C : Store) : sFor mi g body F C = forK g body F (mi F C) := rfl
/-! #### methods, properties, dicts -/
def mthK2 (m : MF) (dds : List D) (x : D) (r : R (List D)) : R D := bnd r fun ds C2 => m (x :: (ds ++ dds)) C2
@[simp] theorem mthK2_ok (m : MF) (dds ds : List D) (x : D) (C : Store) : mthK2 m dds x (.ok ds C) = m (x :: (ds ++ dds)) C := rfl
def mthK (c : Nat) (m : MF) (dds : List D) (a : MA) (F : Fr) (r : R D) : R D := bnd r fun x C1 => match vO x C1 with
  | some (c', _) => if c' = c then mthK2 m dds x (a F C1) else .stuck
  | none => .stuck
@[simp] theorem mthK_ok (c : Nat) (m : MF) (dds : List D) (a : MA) (F : Fr) (fs : List D) (C : Store) : mthK c m dds a F (.ok (.obj c fs) C) = mthK2 m dds (.obj c fs) (a F C) := by
  show (if c = c then mthK2 m dds (.obj c fs) (a F C) else .stuck) = _
  rw [if_pos rfl]
@[simp] theorem ev_meth (c : Nat) (m : MF) (dds : List D) (mo : ME) (a : MA) (F : Fr) (C : Store) : mMeth c m dds mo a F C = mthK c m dds a F (mo F C) := rfl
def prpK (c : Nat) (m : MF) (r : R D) : R D := bnd r fun x C1 => match vO x C1 with
  | some (c', _) => if c' = c then (match m [x] C1 with
    | .ok d C2 => .ok d C2
    | _ => .stuck) else .stuck
  | none => .stuck
@[simp] theorem ev_prop (c : Nat) (m : MF) (mo : ME) (F : Fr) (C : Store) : mProp c m mo F C = prpK c m (mo F C) := rfl
@[simp] theorem ev_fld (c n : Nat) (fs : List D) (C : Store) : oFld c n (.obj c fs) C = (fs[n]?).map fun d => (d, C) := by
  unfold oFld
  simp [vO]
def getK3 (x y : D) (m : R D) : R D := bnd m fun z C3 => ofO (oDGet x y z C3)
@[simp] theorem getK3_ok (x y z : D) (C : Store) : getK3 x y (.ok z C) = ofO (oDGet x y z C) := rfl
def getK2 (c : ME) (F : Fr) (x : D) (m : R D) : R D := bnd m fun y C2 => getK3 x y (c F C2)
@[simp] theorem getK2_ok (c : ME) (F : Fr) (x y : D) (C : Store) : getK2 c F x (.ok y C) = getK3 x y (c F C) := rfl
def getK (b c : ME) (F : Fr) (m : R D) : R D := bnd m fun x C1 => if (vD x C1).isSome = true then getK2 c F x (b F C1) else .stuck
@[simp] theorem ev_dget (a b c : ME) (F : Fr) (C : Store) : mDGet a b c F C = getK b c F (a F C) := rfl
def isiK (kn : List Nat) (t : Cc) (m : R D) : R D := bnd m fun d C1 => match isi kn d C1 t with
  | some b => .ok (.bl b) C1
  | none => .stuck
@[simp] theorem ev_isi (kn : List Nat) (t : Cc) (m : ME) (F : Fr) (C : Store) : mIsi kn t m F C = isiK kn t (m F C) := rfl
@[simp] theorem isiK_ok (kn : List Nat) (t : Cc) (d : D) (C : Store) : isiK kn t (.ok d C) = ofO ((isi kn d C t).map fun b => (.bl b, C)) := by
  show (match isi kn d C t with
    | some b => R.ok (D.bl b) C
    | none => R.stuck) = _
  cases isi kn d C t <;> rfl
/-! #### lists written -/
def stK4 (F : Fr) (v o : D) (x : D) (C3 : Store) : RS := match x, cL o C3 with
  | .int n, some (i, ds) => match ixN ds.length n with
    | some j => match wr F.fl i (.lst (ds.set j v)) C3 with
      | some C4 => .nx F.sl C4
      | none => .stuck
    | none => .stuck
  | _, _ => .stuck
def stK3 (F : Fr) (v o : D) (m : R D) : RS := bndS F.sl m fun x C3 => stK4 F v o x C3
@[simp] theorem stK3_ok (F : Fr) (v o x : D) (C : Store) : stK3 F v o (.ok x C) = stK4 F v o x C := rfl
def stK2 (mi : ME) (F : Fr) (v : D) (m : R D) : RS := bndS F.sl m fun o C2 => stK3 F v o (mi F C2)
@[simp] theorem stK2_ok (mi : ME) (F : Fr) (v o : D) (C : Store) : stK2 mi F v (.ok o C) = stK3 F v o (mi F C) := rfl
def stK (mo mi : ME) (F : Fr) (m : R D) : RS := bndS F.sl m fun v C1 => stK2 mi F v (mo F C1)
@[simp] theorem stK_ok (mo mi : ME) (F : Fr) (v : D) (C : Store) : stK mo mi F (.ok v C) = stK2 mi F v (mo F C) := rfl
@[simp] theorem ev_setL (me mo mi : ME) (F : Fr) (C : Store) : sSetL me mo mi F C = stK mo mi F (me F C) := rfl
def auK4 (o : Int → Int → Int) (F : Fr) (l : D) (n a : Int) (v : D) (C3 : Store) : RS := match v, cL l C3 with
  | .int b, some (i, es) => (match ixN es.length n with
    | some j => (match wr F.fl i (.lst (es.set j (.int (o a b)))) C3 with
      | some C4 => .nx F.sl C4
      | none => .stuck)
    | none => .stuck)
  | _, _ => .stuck
def auK3 (o : Int → Int → Int) (F : Fr) (l : D) (n a : Int) (m : R D) : RS := bndS F.sl m fun v C3 => auK4 o F l n a v C3
@[simp] theorem auK3_ok (o : Int → Int → Int) (F : Fr) (l : D) (n a : Int) (v : D) (C : Store) : auK3 o F l n a (.ok v C) = auK4 o F l n a v C := rfl
def auK2 (o : Int → Int → Int) (me : ME) (F : Fr) (l : D) (x : D) (C2 : Store) : RS := match x, cL l C2 with
  | .int n, some (_, ds) => if 0 ≤ n then (match ds[n.toNat]? with
    | some (.int a) => auK3 o F l n a (me F C2)
    | _ => .stuck) else .stuck
  | _, _ => .stuck
def auK1 (o : Int → Int → Int) (me : ME) (F : Fr) (l : D) (m : R D) : RS := bndS F.sl m fun x C2 => auK2 o me F l x C2
@[simp] theorem auK1_ok (o : Int → Int → Int) (me : ME) (F : Fr) (l x : D) (C : Store) : auK1 o me F l (.ok x C) = auK2 o me F l x C := rfl
def auK (o : Int → Int → Int) (mi me : ME) (F : Fr) (m : R D) : RS := bndS F.sl m fun l C1 => auK1 o me F l (mi F C1)
@[simp] theorem auK_ok (o : Int → Int → Int) (mi me : ME) (F : Fr) (l : D) (C : Store) : auK o mi me F (.ok l C) = auK1 o me F l (mi F C) := rfl
@[simp] theorem ev_augL (o : Int → Int → Int) (mo mi me : ME) (F : Fr) (C : Store) : sAugL o mo mi me F C = auK o mi me F (mo F C) := rfl
@[simp] theorem cbL_ints (n : Nat) : ∀ cs : List Int, cbL n (cs.map D.int) = true
  | [] => rfl
  | c :: cs => by
    show (cb n (.int c) && cbL n (cs.map D.int)) = true
    rw [cbL_ints n cs]
    rfl
end
end CT
set_option maxHeartbeats 4000000
/-! DLT: sorted(set(xs)) of ints, len(set(xs)) of tuples of ints. -/
namespace CT
open PySem L2 PySem.Spec PyProof.Rows
/-! ### unlike members, ascending -/
/-! ### unlike rows -/
/-! ### the calls -/
/-! ### over data -/
end CT
set_option maxHeartbeats 4000000
/-! DLU: repr of an empty dict. -/
namespace CT
open PySem L2 PySem.Spec PyProof.Rows
end CT
set_option maxHeartbeats 4000000
/-! DLV: l.count(x) over data. -/
namespace CT
open PySem L2 PySem.Spec PyProof.Rows
end CT
set_option maxHeartbeats 4000000
/-! DLW: a class whose __init__ takes *numbers and a keyword. -/
namespace CT
open PySem L2 PySem.Spec PyProof.Rows
abbrev tupO (its : List Value) : Obj := { cls := .type "tuple", data := .seq its.toArray }
abbrev pushT (s : Shared) (its : List Value) : Shared := { s with heap := s.heap.push (tupO its) }
/-- binding makes a tuple of the rest -/
def BindsW (s : Shared) (fd : FuncData) (args : Args) (binds : List (Str × Value)) (its : List Value) : Prop :=
  ∀ (M : Model) (A : Around) (E : Value → Shared → Prop) (Q : List (Str × Value) → Shared → Prop), Q binds (pushT s its) → wpAny M A (bindArgs fd args) Q E s
structure FnW (P : Program) (w : World) (K : PySem.W.Frag) (mg : Str → Option Value) (base : Heap) (lev : Nat) (f : Addr) (fd : FuncData) (ps : List Str) (sp : Sp) : Prop where
  len : ∀ vs H Q E, sp vs H Q E → vs.length = ps.length
  run : ∀ (A : Around) (outer : List Env) (s : Shared) (H : Hp) (args : Args) (us its : List Value) (vs ws : List V) (Q : VK) (E : XK), RoomG lev A → Env0 P w K mg base A outer s H → its.length ≤ sizeLine → Vals ws its → BindsW s fd args (ps.zip us) its → Vals vs us → sp vs (upd H s.heap.objs.size (.tup ws)) Q E →
    codeAny (model P w) A (.call (.ref f) args) (CR (L2.CX P w) outer P w H s Q E) s
/-! ### C(e, ..), C(k = e) -/
/-- what the call's arguments become: the keyword's value, the rest -/
inductive Vg where
  | pos | kw
def Vg.d : Vg → List D → D × List D
  | .pos, ds => (.non, ds)
  | .kw, ds => (ds.headD .non, [])
def Vg.v : Vg → List V → V × List V
  | .pos, ds => (.non, ds)
  | .kw, ds => (ds.headD .non, [])
section
variable {k : Cn} {A : Nat → Addr} {C : Store} {H : Hp}
theorem Vg.rep (g : Vg) {vs : List V} {ds : List D} (r : RepL k A C H vs ds) : Rep k A C H (g.v vs).1 (g.d ds).1 ∧ RepL k A C H (g.v vs).2 (g.d ds).2 := by
  cases g with
  | pos => exact ⟨.non, r⟩
  | kw => cases r with
    | nil => exact ⟨.non, .nil⟩
    | cons h t => exact ⟨h, .nil⟩
end
end CT
set_option maxHeartbeats 4000000
/-! DLX: len(set(t)) of a tuple of ints; sorted(t); str(n), f-strings, join. -/
namespace CT
open PySem L2 PySem.Spec PyProof.Rows
/-! ### len(set(t)) -/
/-! ### sorted(t) -/
end CT
set_option maxHeartbeats 4000000
/-! DLY: sorted of lists or tuples; str(n), f-strings, join; str(o) by the class's own __str__. -/
namespace CT
open PySem L2 PySem.Spec PyProof.Rows
end CT
set_option maxHeartbeats 4000000
/-! DLZ: binding of *numbers and a keyword that is None by itself. -/
namespace CT
open PySem L2 PySem.Spec PyProof.Rows
end CT
set_option maxHeartbeats 4000000
/-! DM1: classmethods (C.m(..), cls(k = e)); + of texts. -/
namespace CT
open PySem L2 PySem.Spec PyProof.Rows
end CT
set_option maxHeartbeats 4000000
/-! DM2: the head's Hook where attributes of classes are read. -/
namespace CT
open PySem L2 PySem.Spec PyProof.Rows
end CT
set_option maxHeartbeats 4000000
/-! DG4a: a tuple of ints of the written part. -/
namespace CT
open PySem L2
def intsV : List Value → List Int → Bool
  | [], [] => true
  | .int i _ :: vs, n :: ns => decide (i = n) && intsV vs ns
  | _, _ => false
def ktIB (x : String) (ns : List Int) (K : PySem.W.Frag) : Bool := match K.lookup (He.ga K x) with
  | some ⟨.type c, _, .seq its _, _⟩ => decide (c = "tuple") && (decide (its.size ≤ sizeLine) && intsV its.toList ns)
  | _ => false
end CT
set_option maxHeartbeats 8000000
set_option pp.maxSteps 60
namespace CL
open PySem L2 PySem.Spec PyProof.Rows CT
def top (i : Nat) : Stmt := PySem.Challenge.pw_contentties_k93_whole_complete_webs.main.body.getD i (.Pass ⟨0, 0, 0, 0⟩)
def mem (i j : Nat) : Stmt := match top i with
  | .ClassDef _ _ _ b _ _ _ _ _ _ _ => b.getD j (.Pass ⟨0, 0, 0, 0⟩)
  | s => s
def clA (K : PySem.W.Frag) (c : Nat) : Addr := match c with
  | 0 => He.ga K "Web"
  | _ => 0
abbrev s_is_integer : Stmt := top 10
abbrev a_is_integer (K : PySem.W.Frag) : Addr := He.ga K "is_integer"
abbrev s_is_count : Stmt := top 11
abbrev a_is_count (K : PySem.W.Frag) : Addr := He.ga K "is_count"
abbrev s_is_tie : Stmt := top 13
abbrev a_is_tie (K : PySem.W.Frag) : Addr := He.ga K "is_tie"
abbrev s_summed : Stmt := top 14
abbrev a_summed (K : PySem.W.Frag) : Addr := He.ga K "summed"
abbrev s_grid_of : Stmt := top 15
abbrev a_grid_of (K : PySem.W.Frag) : Addr := He.ga K "grid_of"
abbrev s_Web__init : Stmt := mem 16 0
abbrev a_Web__init (K : PySem.W.Frag) : Addr := He.ma K (He.ga K "Web") "__init__"
abbrev s_Web_crossing : Stmt := mem 16 12
abbrev a_Web_crossing (K : PySem.W.Frag) : Addr := He.ma K (He.ga K "Web") "crossing"
abbrev s_check_size : Stmt := top 19
abbrev a_check_size (K : PySem.W.Frag) : Addr := He.ga K "check_size"
abbrev s_every_lots : Stmt := top 20
abbrev a_every_lots (K : PySem.W.Frag) : Addr := He.ga K "every_lots"
abbrev s_reached : Stmt := top 21
abbrev a_reached (K : PySem.W.Frag) : Addr := He.ga K "reached"
abbrev s_pieces : Stmt := top 22
abbrev a_pieces (K : PySem.W.Frag) : Addr := He.ga K "pieces"
abbrev s_odd_pieces : Stmt := top 23
abbrev a_odd_pieces (K : PySem.W.Frag) : Addr := He.ga K "odd_pieces"
abbrev s_excess : Stmt := top 24
abbrev a_excess (K : PySem.W.Frag) : Addr := He.ga K "excess"
abbrev s_front : Stmt := top 26
abbrev a_front (K : PySem.W.Frag) : Addr := He.ga K "front"
abbrev s_fronts_hold : Stmt := top 27
abbrev a_fronts_hold (K : PySem.W.Frag) : Addr := He.ga K "fronts_hold"
abbrev s_lowest_excess : Stmt := top 29
abbrev a_lowest_excess (K : PySem.W.Frag) : Addr := He.ga K "lowest_excess"
abbrev s_lack : Stmt := top 30
abbrev a_lack (K : PySem.W.Frag) : Addr := He.ga K "lack"
abbrev s_complete : Stmt := top 32
abbrev a_complete (K : PySem.W.Frag) : Addr := He.ga K "complete"
abbrev s_law_bag : Stmt := top 34
abbrev a_law_bag (K : PySem.W.Frag) : Addr := He.ga K "_law_bag"
abbrev s_law_take : Stmt := top 35
abbrev a_law_take (K : PySem.W.Frag) : Addr := He.ga K "_law_take"
abbrev s_law_one : Stmt := top 36
abbrev a_law_one (K : PySem.W.Frag) : Addr := He.ga K "_law_one"
abbrev s_law_alike : Stmt := top 37
abbrev a_law_alike (K : PySem.W.Frag) : Addr := He.ga K "_law_alike"
abbrev s_law_mixed : Stmt := top 38
abbrev a_law_mixed (K : PySem.W.Frag) : Addr := He.ga K "_law_mixed"
abbrev s_law_front : Stmt := top 39
abbrev a_law_front (K : PySem.W.Frag) : Addr := He.ga K "_law_front"
abbrev s_law_far_right : Stmt := top 40
abbrev a_law_far_right (K : PySem.W.Frag) : Addr := He.ga K "_law_far_right"
abbrev s_law : Stmt := top 41
abbrev a_law (K : PySem.W.Frag) : Addr := He.ga K "law"
def d_Web__init (K : PySem.W.Frag) : Addr := He.dflAt ("Web", some "__init__") 0 K
def fs : List (PySem.W.Frag → Bool) := [(He.Fa.free "abs").ok,
  (He.Fa.free "all").ok,
  (He.Fa.free "any").ok,
  (He.Fa.free "bool").ok,
  (He.Fa.free "enumerate").ok,
  (He.Fa.free "int").ok,
  (He.Fa.free "isinstance").ok,
  (He.Fa.free "len").ok,
  (He.Fa.free "list").ok,
  (He.Fa.free "max").ok,
  (He.Fa.free "min").ok,
  (He.Fa.free "range").ok,
  (He.Fa.free "repr").ok,
  (He.Fa.free "sorted").ok,
  (He.Fa.free "sum").ok,
  (He.Fa.free "tuple").ok,
  (He.Fa.int "MOST" 1000000000).ok,
  (He.Fa.glo "is_integer").ok,
  (He.Fa.glo "is_count").ok,
  (He.Fa.glo "is_tie").ok,
  (He.Fa.glo "summed").ok,
  (He.Fa.glo "grid_of").ok,
  (He.Fa.glo "check_size").ok,
  (He.Fa.glo "every_lots").ok,
  (He.Fa.glo "reached").ok,
  (He.Fa.glo "pieces").ok,
  (He.Fa.glo "odd_pieces").ok,
  (He.Fa.glo "excess").ok,
  (He.Fa.glo "front").ok,
  (He.Fa.glo "fronts_hold").ok,
  (He.Fa.glo "lowest_excess").ok,
  (He.Fa.glo "lack").ok,
  (He.Fa.glo "complete").ok,
  (He.Fa.glo "_law_bag").ok,
  (He.Fa.glo "_law_take").ok,
  (He.Fa.glo "_law_one").ok,
  (He.Fa.glo "_law_alike").ok,
  (He.Fa.glo "_law_mixed").ok,
  (He.Fa.glo "_law_front").ok,
  (He.Fa.glo "_law_far_right").ok,
  (He.Fa.glo "law").ok,
  (He.Fa.glo "Web").ok,
  (He.Fa.cls "Web").ok,
  (He.Fa.noat "Web" "size").ok,
  (He.Fa.noat "Web" "grid").ok,
  (He.Fa.noat "Web" "ties").ok,
  (He.Fa.mkr "Web").ok,
  ktB d_Web__init,
  (He.Fa.meth "Web" "crossing").ok,
  (He.Fa.glo "POWERS").ok,
  ktIB "POWERS" [1, 3, 9, 27, 81, 243],
  isaB clA [0]]
def dx_is_integer : DefX := ⟨a_is_integer, "is_integer", "is_integer", defArgs s_is_integer, defBody s_is_integer, defScope s_is_integer, fun _ => []⟩
def dx_is_count : DefX := ⟨a_is_count, "is_count", "is_count", defArgs s_is_count, defBody s_is_count, defScope s_is_count, fun _ => []⟩
def dx_is_tie : DefX := ⟨a_is_tie, "is_tie", "is_tie", defArgs s_is_tie, defBody s_is_tie, defScope s_is_tie, fun _ => []⟩
def dx_summed : DefX := ⟨a_summed, "summed", "summed", defArgs s_summed, defBody s_summed, defScope s_summed, fun _ => []⟩
def dx_grid_of : DefX := ⟨a_grid_of, "grid_of", "grid_of", defArgs s_grid_of, defBody s_grid_of, defScope s_grid_of, fun _ => []⟩
def dx_Web__init : DefX := ⟨a_Web__init, "__init__", "Web.__init__", defArgs s_Web__init, defBody s_Web__init, defScope s_Web__init, fun K => [V.ref (d_Web__init K)]⟩
def dx_Web_crossing : DefX := ⟨a_Web_crossing, "crossing", "Web.crossing", defArgs s_Web_crossing, defBody s_Web_crossing, defScope s_Web_crossing, fun _ => []⟩
def dx_check_size : DefX := ⟨a_check_size, "check_size", "check_size", defArgs s_check_size, defBody s_check_size, defScope s_check_size, fun _ => []⟩
def dx_every_lots : DefX := ⟨a_every_lots, "every_lots", "every_lots", defArgs s_every_lots, defBody s_every_lots, defScope s_every_lots, fun _ => []⟩
def dx_reached : DefX := ⟨a_reached, "reached", "reached", defArgs s_reached, defBody s_reached, defScope s_reached, fun _ => []⟩
def dx_pieces : DefX := ⟨a_pieces, "pieces", "pieces", defArgs s_pieces, defBody s_pieces, defScope s_pieces, fun _ => []⟩
def dx_odd_pieces : DefX := ⟨a_odd_pieces, "odd_pieces", "odd_pieces", defArgs s_odd_pieces, defBody s_odd_pieces, defScope s_odd_pieces, fun _ => []⟩
def dx_excess : DefX := ⟨a_excess, "excess", "excess", defArgs s_excess, defBody s_excess, defScope s_excess, fun _ => []⟩
def dx_front : DefX := ⟨a_front, "front", "front", defArgs s_front, defBody s_front, defScope s_front, fun _ => []⟩
def dx_fronts_hold : DefX := ⟨a_fronts_hold, "fronts_hold", "fronts_hold", defArgs s_fronts_hold, defBody s_fronts_hold, defScope s_fronts_hold, fun _ => []⟩
def dx_lowest_excess : DefX := ⟨a_lowest_excess, "lowest_excess", "lowest_excess", defArgs s_lowest_excess, defBody s_lowest_excess, defScope s_lowest_excess, fun _ => []⟩
def dx_lack : DefX := ⟨a_lack, "lack", "lack", defArgs s_lack, defBody s_lack, defScope s_lack, fun _ => []⟩
def dx_complete : DefX := ⟨a_complete, "complete", "complete", defArgs s_complete, defBody s_complete, defScope s_complete, fun _ => []⟩
def dx_law_bag : DefX := ⟨a_law_bag, "_law_bag", "_law_bag", defArgs s_law_bag, defBody s_law_bag, defScope s_law_bag, fun _ => []⟩
def dx_law_take : DefX := ⟨a_law_take, "_law_take", "_law_take", defArgs s_law_take, defBody s_law_take, defScope s_law_take, fun _ => []⟩
def dx_law_one : DefX := ⟨a_law_one, "_law_one", "_law_one", defArgs s_law_one, defBody s_law_one, defScope s_law_one, fun _ => []⟩
def dx_law_alike : DefX := ⟨a_law_alike, "_law_alike", "_law_alike", defArgs s_law_alike, defBody s_law_alike, defScope s_law_alike, fun _ => []⟩
def dx_law_mixed : DefX := ⟨a_law_mixed, "_law_mixed", "_law_mixed", defArgs s_law_mixed, defBody s_law_mixed, defScope s_law_mixed, fun _ => []⟩
def dx_law_front : DefX := ⟨a_law_front, "_law_front", "_law_front", defArgs s_law_front, defBody s_law_front, defScope s_law_front, fun _ => []⟩
def dx_law_far_right : DefX := ⟨a_law_far_right, "_law_far_right", "_law_far_right", defArgs s_law_far_right, defBody s_law_far_right, defScope s_law_far_right, fun _ => []⟩
def dx_law : DefX := ⟨a_law, "law", "law", defArgs s_law, defBody s_law, defScope s_law, fun _ => []⟩
def fn : List DefX := [dx_is_integer, dx_is_count, dx_is_tie, dx_summed, dx_grid_of, dx_Web__init, dx_Web_crossing, dx_check_size, dx_every_lots, dx_reached, dx_pieces, dx_odd_pieces, dx_excess, dx_front, dx_fronts_hold, dx_lowest_excess, dx_lack, dx_complete, dx_law_bag, dx_law_take, dx_law_one, dx_law_alike, dx_law_mixed, dx_law_front, dx_law_far_right, dx_law]
end CL
set_option maxHeartbeats 4000000
/-! DM28: the head's Hook, its objects gathered by a walk that marks what it has seen in one number. -/
namespace CT
open PySem L2 PySem.Spec PyProof.Rows
/-- the addresses that are not marked, each once -/
def erB : Nat → List Addr → List Addr
  | _, [] => []
  | seen, a :: r => match Nat.beq (Nat.land (Nat.shiftRight seen a) 1) 1 with
    | true => erB seen r
    | false => a :: erB (Nat.lor seen (Nat.shiftLeft 1 a)) r
def mkB : Nat → List Addr → Nat
  | seen, [] => seen
  | seen, a :: r => mkB (Nat.lor seen (Nat.shiftLeft 1 a)) r
def nxB (g : Addr → Option Obj) : List Addr → List Addr
  | [] => []
  | a :: r => (match g a with
    | some o => He.refsD o
    | none => []) ++ nxB g r
def digB (g : Addr → Option Obj) : Nat → Nat → List Addr → List Addr
  | 0, _, _ => []
  | n + 1, seen, f => (fun t => t ++ digB g n (mkB seen t) t) (erB seen (nxB g f))
def agB (g : Addr → Option Obj) (n : Nat) : List Addr := mainGlobals :: (digB g n (Nat.shiftLeft 1 mainGlobals) [mainGlobals] ++ [cStatics])
def obGb (n : Nat) (fs : List (PySem.W.Frag → Bool)) (fn : List DefX) (g : Addr → Option Obj) : AlX := obX fs fn (He.frG g (agB g n))
def hookXb (n : Nat) (fs : List (PySem.W.Frag → Bool)) (fn : List DefX) : PySem.W.Hook where
  α := AlX
  obs := fun s => obGb n fs fn s.heap.get?
  val := fun _ => vlX fn
  says := fun _ h => ∃ K : PySem.W.Frag, K.In h ∧ SaysX fs fn K
  of := fun _ _ e => ⟨_, He.frG_in, e⟩
  keeps := fun _ _ _ ⟨K, hK, c⟩ k => ⟨K, PySem.W.Frag.In.keeps hK k, c⟩
end CT
set_option maxHeartbeats 0
namespace CL
open PySem L2 PySem.Spec PyProof.Rows CT
abbrev RR : PySem.W.OpenRow := PySem.W.OpenLaw.row PySem.Challenge.rw_contentties_k93_whole_complete_webs
abbrev hk : PySem.W.Hook := hookXb 6 fs fn
def ob (s : PySem.W.SharedT) : AlX := obGb 6 fs fn (HandSHeadRun.getT s)
def loose : List Str := (["_wall", "ContentError", "Wrong", "TooMany", "BadTie", "TooFew", "Unequal", "MOST", "is_integer", "is_count", "is_tie", "summed", "grid_of", "Web", "POWERS", "check_size"] : List Str) ++ (["every_lots", "reached", "pieces", "odd_pieces", "excess", "front", "fronts_hold", "lowest_excess", "lack", "complete", "_law_bag", "_law_take", "_law_one", "_law_alike", "_law_mixed", "_law_front"] : List Str) ++ (["_law_far_right"] : List Str)
section
open HandSHeadRun PySem.W PySem.Calls
theorem run_looks (w : World) (os : OsState) : (HandSHeadRun.endF (HandSHeadRun.stepQ (HandSHeadRun.denQ HandSHeadRun.tabQ) RR.prog w) 20000 RR.prog w os).map (fun s => HandSHeadRun.looksF RR.prog (boot_heap w.params) s.abs) = some (true) := by kernel_rfl
theorem run_seen (w : World) (os : OsState) : (HandSHeadRun.endF (HandSHeadRun.stepQ (HandSHeadRun.denQ HandSHeadRun.tabQ) RR.prog w) 20000 RR.prog w os).map (fun s => HandSHeadRun.seenQ (PySem.W.view RR.prog [41]) loose (importedModules RR.prog.main.body) (fun s => xlAt (PySem.W.view RR.prog [41]) [] s && recOk RR.toRowW.records s) s.abs) = some (openGood (PySem.W.view RR.prog [41]) loose) := by kernel_rfl
theorem run_ob (w : World) (os : OsState) : (HandSHeadRun.endF (HandSHeadRun.stepQ (HandSHeadRun.denQ HandSHeadRun.tabQ) RR.prog w) 20000 RR.prog w os).map (ob) = some (hk.val w) := by kernel_rfl
theorem opt3 {α β γ : Type _} {δ : Type _} {x : Option α} {f : α → β} {g : α → γ} {h : α → δ} {a : β} {b : γ} {c : δ} (h1 : x.map f = some a) (h2 : x.map g = some b) (h3 : x.map h = some c) : x.map (fun s => (f s, g s, h s)) = some (a, b, c) := by
  cases x with
  | none => cases h1
  | some s =>
    have e1 : f s = a := Option.some.inj h1
    have e2 : g s = b := Option.some.inj h2
    have e3 : h s = c := Option.some.inj h3
    show some (f s, g s, h s) = some (a, b, c)
    rw [e1, e2, e3]
end
theorem run (w : World) : HandSHeadRun.RunEq RR (PySem.W.view RR.prog [41]) hk ob 20000 loose w := by
  intro os
  have z := opt3 (run_looks w os) (run_seen w os) (run_ob w os)
  exact z
end CL
/-! DM3: is True; t * n; bool(o) by the class's own __bool__; a or b of tuples, bool(t). -/
namespace CT
/-! ### t * n -/
/-! ### a or b of tuples; bool(t) -/
end CT
/-! DM4: bool(o) by the class's own __bool__. -/
namespace CT
/-! ### bool(o) -/
end CT
/-! DM5: zip of two tuples; min and max of a list of ints with a default. -/
namespace CT
end CT
/-! DM6: min and max of a list of ints with a default. -/
namespace CT
end CT
/-! DM7: x + k, k + x, x - k, k - x, -x for an own x and an int k. -/
namespace CT
end CT
/-! DM8: list(range(a, b, 2)); sorted(set(xs)), len(set(xs)) of up to 4,000 ints. -/
namespace CT
/-! ### sets of more ints -/
end CT
/-! DM9: xs[i], ys[j] = e, f. -/
namespace CT
end CT
/-! DM10: a def that hands back an own list, as an equation. -/
namespace CT
end CT
/-! DM11: {x for u in a if .. for x in b if ..} of ints, two clauses; its members in a list beside the heap. -/
namespace CT
end CT
/-! DM12: sorted({x for u in a if .. for x in b if ..}) over data. -/
namespace CT
end CT
/-! DM13: min and max of one list of ints, not empty. -/
namespace CT
end CT
/-! DM14: in, not in by an own __contains__, as values and as tests. -/
namespace CT
end CT
/-! DM15: == and != of two lists of own objects that are equal item by item. -/
namespace CT
end CT
/-! DM16: an own object as a test, by the class's own __bool__. -/
namespace CT
end CT
/-! DM17: xs.reverse(). -/
namespace CT
end CT
/-! DM18: while, of at most so many turns. -/
namespace CT
end CT
/-! GN1: a run that wakes no sleeping generator runs alike whatever the sleepers hold. -/
namespace GV
end GV
/-! GN2: weakest preconditions under the veil. -/
namespace GV
end GV
/-! GN3: for over a generator: the rule of the consumer. -/
namespace GV
end GV
/-! GN4: for over a generator: the rule. -/
namespace GV
end GV
/-! GN5: next of a generator (it sleeps behind); for in a generator's own code. -/
namespace GV
/-! ### for, in a generator's code -/
end GV
/-! GN6: one stretch of a generator's run, whatever is wanted of its end. -/
namespace GV
/-! ### waking it -/
end GV
/-! GN7: a generator's code at work: its context anew at each waking. -/
namespace GV
/-! ### the heap as far as n -/
/-! ### a generator: its def, where it was made -/
end GV
/-! GN8: for x in range(..): .. ; yield e — all its stretches. -/
namespace GV
end GV
/-! GN9: a generator is made by a call. -/
namespace GV
end GV
/-! GN10: behind a generator's stretch: the consumer's state. -/
namespace GV
end GV
/-! GN11: a generator made by a call, walked by for. -/
namespace GV
/-! ### the call -/
end GV
/-! DG1: for over a generator, at data. -/
namespace CT
end CT
/-! DG2: for over a generator, at data. -/
namespace CT
/-! ### the generator's promise at data -/
end CT
/-! DG3: a generator def, by its parts over data. -/
namespace CT
end CT
/-! DM26: t * 1. -/
namespace CT
end CT
/-! DM29: sorted(t, reverse=True) of a tuple of ints. -/
namespace CT
end CT
/-! DM19: a def that hands back data with own lists and dicts inside: all become plain data. -/
namespace CT
end CT
/-! DM20: == of two tuples of own objects that are equal item by item. -/
namespace CT
end CT
/-! DM21: sum of a tuple of ints. -/
namespace CT
end CT
/-! E2: loops, comprehensions, dicts worked out. -/
namespace CT
/-! ### comprehensions that change nothing -/
/-! ### two clauses -/
/-! ### dicts from pairs to numbers -/
end CT
/-! E3: walks over cells; own operators worked out. -/
namespace CT
/-! ### own operators -/
end CT
/-! E4: what a run must lead to, told backwards. -/
namespace CT
/-! ### results -/
/-! ### expressions -/
/-! ### operators -/
/-! ### statements -/
/-! ### loops -/
/-! ### comprehensions -/
end CT
/-! E5: more steps told backwards. -/
namespace CT
/-! ### writing -/
end CT
/-! E6: walks and comprehensions, step by step. -/
namespace CT
end CT
/-! M22: the bag. -/
/-! M2: sums of ties, grids, webs. -/
/-! M3: a web is made. -/
/-! M4: Web(size, ties). -/
/-! M5: Web(size, ties), made. -/
/-! M6: the instance. -/
/-! Q0: a web's fields. -/
/-! M7: total, degrees, within, changed, crossing. -/
/-! N8c: crossing. -/
/-! PI1: the pieces of a graph. -/
/-! E7: own operators with an int, list(range), extend, two writes, told backwards. -/
namespace CT
/-! ### a comprehension whose list is an own one -/
/-! ### a def that hands back an own list -/
end CT
/-! XK1: pieces are closed; two graphs that differ at one pair of places. -/
/-! XK2: how the excess changes with the row and with a tie; granted rows have no excess below 0. -/
/-! M9: plain facts on sums. -/
/-! M10: a dict's keys in order; _law_made. -/
set_option Elab.async false
set_option linter.all false
set_option maxRecDepth 100000
set_option maxHeartbeats 4000000
/-! DL1: plain data, a store of changing cells, how they lie in the abstract heap; expressions. -/
namespace CT
open PySem L2
/-! ### the domain -/
/-! ### how data lie in the heap -/
section
variable {k : Cn} {A A' : Nat → Addr} {C C' : Store} {H H' : Hp} {v : V} {d : D} {vs : List V} {ds : List D}
theorem RepL.get : ∀ {vs : List V} {ds : List D} {i : Nat} {d : D}, RepL k A C H vs ds → ds[i]? = some d → ∃ v, vs[i]? = some v ∧ Rep k A C H v d
  | _, _, _, _, .nil, e => by simp at e
  | _, _, 0, _, .cons r _, e => by simp at e; subst e; exact ⟨_, rfl, r⟩
  | _, _, i + 1, d, .cons _ t, e => by
    obtain ⟨u, h1, h2⟩ := RepL.get (i := i) (d := d) t (by simpa using e)
    exact ⟨u, by simpa using h1, h2⟩
theorem RepL.ints : ∀ {ns : List Int}, RepL k A C H (ns.map V.int) (ns.map D.int)
  | [] => .nil
  | n :: ns => .cons (.int n) RepL.ints
theorem RepL.ints_inv : ∀ {ns : List Int} {vs : List V}, RepL k A C H vs (ns.map D.int) → vs = ns.map V.int
  | [], _, .nil => rfl
  | n :: ns, _, .cons r t => by
    cases r
    rw [RepL.ints_inv t]
    rfl
theorem RepL.bls_inv : ∀ {ns : List Bool} {vs : List V}, RepL k A C H vs (ns.map D.bl) → vs = ns.map V.bl
  | [], _, .nil => rfl
  | n :: ns, _, .cons r t => by
    cases r
    rw [RepL.bls_inv t]
    rfl
end
/-! ### the store -/
section
variable {k : Cn} {fl : Nat} {A A' A'' : Nat → Addr} {C C' C'' : Store} {H H' H'' : Hp} {v : V} {d : D} {vs : List V} {ds : List D}
theorem Stp.refl : Stp k fl A C H A C H := ⟨fun _ _ h => h, Nat.le_refl _, fun _ _ _ h => h⟩
theorem Stp.reps (a : Stp k fl A C H A' C' H') : ∀ {vs : List V} {ds : List D}, RepL k A C H vs ds → RepL k A' C' H' vs ds
  | _, _, .nil => .nil
  | _, _, .cons r t => .cons (a.rep _ _ r) (a.reps t)
theorem Kp.stp (q : Kp A C H A' C' H') (h : ∀ f, f ≤ fl → f ≤ C.length → LowC f C → LowC f C') : Stp k fl A C H A' C' H' := ⟨fun _ _ r => r.kp q, q.len, h⟩
theorem Kp.stp0 (q : Kp A C H A' C H') : Stp k fl A C H A' C H' := q.stp fun _ _ _ h => h
theorem low_app {c : Option Cell} {f : Nat} (hf : f ≤ C.length) (h : LowC f C) : LowC f (C ++ [c]) := fun i e hi he => by
  rw [List.getElem?_append_left (Nat.lt_of_lt_of_le hi hf)] at he
  exact h i e hi he
mutual
theorem cb_mono {n m : Nat} (h : n ≤ m) : ∀ {d : D}, cb n d = true → cb m d = true
  | .non, _ => rfl
  | .bl _, _ => rfl
  | .int _, _ => rfl
  | .str _, _ => rfl
  | .lst xs, z => by simp only [cb] at z ⊢; exact cbL_mono h z
  | .tup xs, z => by simp only [cb] at z ⊢; exact cbL_mono h z
  | .scr xs, z => by simp only [cb] at z ⊢; exact cbL_mono h z
  | .kt xs, z => by simp only [cb] at z ⊢; exact cbL_mono h z
  | .obj _ xs, z => by simp only [cb] at z ⊢; exact cbL_mono h z
  | .exn _ xs, z => by simp only [cb] at z ⊢; exact cbL_mono h z
  | .cls _, _ => rfl
  | .dT _ xs, z => by simp only [cb] at z ⊢; exact cbL_mono h z
  | .cell i, z => by simp only [cb, decide_eq_true_eq] at z ⊢; omega
theorem cbL_mono {n m : Nat} (h : n ≤ m) : ∀ {ds : List D}, cbL n ds = true → cbL m ds = true
  | [], _ => rfl
  | d :: ds, z => by
    simp only [cbL, Bool.and_eq_true] at z ⊢
    exact ⟨cb_mono h z.1, cbL_mono h z.2⟩
end
theorem cbC_mono {n m : Nat} (h : n ≤ m) {c : Cell} (z : cbC n c = true) : cbC m c = true := by
  cases c <;> exact cbL_mono h z
/-- a write: below the floor no cells are named -/
theorem low_set {i : Nat} {c : Cell} (hc : i < fl → cbC 0 c = true) {f : Nat} (hf : f ≤ fl) (h : LowC f C) : LowC f (C.set i (some c)) := fun j e hj he => by
  by_cases hij : i = j
  · subst hij
    by_cases hl : i < C.length
    · rw [List.getElem?_set_self hl] at he
      rw [← Option.some.inj (Option.some.inj he)]
      exact cbC_mono (Nat.zero_le _) (hc (by omega))
    · rw [List.getElem?_eq_none (by simp; omega)] at he
      cases he
  · rw [List.getElem?_set_ne hij] at he
    exact h j e hj he
theorem low_take {f n : Nat} (h : LowC f C) : LowC f (C.take n) := fun j e hj he => by
  by_cases hn : j < n
  · rw [List.getElem?_take_of_lt hn] at he
    exact h j e hj he
  · rw [List.getElem?_eq_none (by simp; omega)] at he
    cases he
theorem StOk.live (x : StOk k A C H) {a : Addr} (l : Live A C a) : ∃ o, H a = some o := by
  obtain ⟨i, c, e, rfl⟩ := l
  exact (x.at_ i c e).there
theorem StOk.notLive (x : StOk k A C H) {a : Addr} (h : H a = none) : ¬ Live A C a := fun l => by
  obtain ⟨o, e⟩ := x.live l
  rw [h] at e
  cases e
/-- a cell changes -/
theorem live_set {i : Nat} {c c0 : Cell} {a : Addr} (hi : C[i]? = some (some c0)) (l : Live A (C.set i (some c)) a) : Live A C a := by
  obtain ⟨j, c', e, rfl⟩ := l
  by_cases hj : i = j
  · subst hj
    exact ⟨i, c0, hi, rfl⟩
  · rw [List.getElem?_set_ne hj] at e
    exact ⟨j, c', e, rfl⟩
theorem kp_write {i : Nat} {c c0 : Cell} {o : HO} (hi : C[i]? = some (some c0)) : Kp A C H A (C.set i (some c)) (upd H (A i) o) :=
  ⟨fun a u l e => ⟨fun y => l (live_set hi y), by rw [upd_ne (fun z => l ⟨i, c0, hi, z.symm⟩)]; exact e⟩, fun _ _ => rfl, by simp⟩
theorem StOk.write {i : Nat} {c c0 : Cell} {o : HO} (x : StOk k A C H) (hi : C[i]? = some (some c0)) (y : CellAt k A (C.set i (some c)) (upd H (A i) o) (A i) c) : StOk k A (C.set i (some c)) (upd H (A i) o) := by
  have get : ∀ j c', (C.set i (some c))[j]? = some (some c') → j ≠ i → C[j]? = some (some c') := fun j c' e hj => by
    rw [List.getElem?_set_ne (Ne.symm hj)] at e
    exact e
  have here : ∀ c', (C.set i (some c))[i]? = some (some c') → c' = c := fun c' e => by
    rw [List.getElem?_set_self (List.getElem?_eq_some_iff.mp hi).1] at e
    exact (Option.some.inj (Option.some.inj e)).symm
  have some_ : ∀ j c', (C.set i (some c))[j]? = some (some c') → ∃ c'', C[j]? = some (some c'') := fun j c' e => by
    by_cases hj : j = i
    · rw [hj]
      exact ⟨c0, hi⟩
    · exact ⟨c', get j c' e hj⟩
  refine ⟨fun j c' e => ?_, fun j l c1 c2 e1 e2 z => ?_⟩
  · by_cases hj : j = i
    · subst hj
      rw [here c' e]
      exact y
    · have e' := get j c' e hj
      exact (x.at_ j c' e').kp (kp_write hi) (upd_ne (fun z => hj (x.inj j i _ _ e' hi z)))
  · obtain ⟨d1, f1⟩ := some_ j c1 e1
    obtain ⟨d2, f2⟩ := some_ l c2 e2
    exact x.inj j l _ _ f1 f2 z
theorem Rep.cut {n : Nat} (hn : n ≤ C.length) (r : Rep k A C H v d) (h : CT.cb n d = true) : Rep k A (C.take n) H v d :=
  r.fw (fw_take n) (by rw [List.length_take, Nat.min_eq_left hn]; exact h)
theorem RepL.cut {n : Nat} (hn : n ≤ C.length) (r : RepL k A C H vs ds) (h : CT.cbL n ds = true) : RepL k A (C.take n) H vs ds :=
  r.fw (fw_take n) (by rw [List.length_take, Nat.min_eq_left hn]; exact h)
end
/-! ### frames -/
/-- behind a computation m that began at A, C, H -/
def Aft (k : Cn) (fl : Nat) (A : Nat → Addr) (C : Store) (H : Hp) {α β : Type} (rel : (Nat → Addr) → Store → Hp → β → α → Prop) (m : R α) (Q : α → Store → (Nat → Addr) → Hp → β → Prop) (W : XK) : Prop := match m with
  | .ok d C' => ∀ A' H' v, Stp k fl A C H A' C' H' → StOk k A' C' H' → rel A' C' H' v d → Q d C' A' H' v
  | .exc e C' => ∀ A' H' dd vs, Stp k fl A C H A' C' H' → StOk k A' C' H' → H' dd = some (.xd ((k.fn e.c).zip vs)) → vs.length = (k.fn e.c).length → RepL k A' C' H' vs e.fs → W (.ref (k.cl e.c)) (some dd) H'
  | .stuck => False
section
variable {k : Cn} {A A' A1 : Nat → Addr} {F : Fr} {C C' C1 : Store} {H H' H1 : Hp} {σ : L2.St} {fl : Nat}
theorem SR.step (s : SR k A F C σ H) (p : Stp k F.fl A C H A' C' H') (st : StOk k A' C' H') : SR k A' F C' σ H' :=
  ⟨st, p.low _ (Nat.le_refl _) s.fl s.low, Nat.le_trans s.fl p.len, s.len, fun i d e => let ⟨v, h1, h2⟩ := s.sl i d e; ⟨v, h1, p.rep v d h2⟩⟩
theorem SR.unset {i : Nat} (s : SR k A F C σ H) : SR k A ⟨F.fl, F.sl.set i none⟩ C (σ.set i none) H :=
  ⟨s.st, s.low, s.fl, by simp [s.len], fun j e h => by
    have h' : (F.sl.set i none)[j]? = some (some e) := h
    by_cases hij : i = j
    · subst hij
      by_cases hl : i < F.sl.length
      · rw [List.getElem?_set_self hl] at h'
        cases h'
      · rw [List.getElem?_eq_none (by simp; omega)] at h'
        cases h'
    · rw [List.getElem?_set_ne hij] at h'
      obtain ⟨u, h1, h2⟩ := s.sl j e h'
      exact ⟨u, by rw [List.getElem?_set_ne hij]; exact h1, h2⟩⟩
variable {α β γ δ : Type} {rel : (Nat → Addr) → Store → Hp → β → α → Prop} {rel2 : (Nat → Addr) → Store → Hp → δ → γ → Prop} {m : R α} {Q : α → Store → (Nat → Addr) → Hp → β → Prop} {W : XK}
theorem Aft.shift (s : Stp k fl A C H A1 C1 H1) (h : Aft k fl A C H rel m Q W) : Aft k fl A1 C1 H1 rel m Q W := by
  cases m with
  | ok d C' => exact fun A' H' v p st r => h A' H' v (s.trans p) st r
  | exc e C' => exact fun A' H' dd vs p st x l r => h A' H' dd vs (s.trans p) st x l r
  | stuck => exact h
theorem Aft.mono {Q' : α → Store → (Nat → Addr) → Hp → β → Prop} (h : Aft k fl A C H rel m Q W) (hq : ∀ d C' A' H' v, Stp k fl A C H A' C' H' → StOk k A' C' H' → rel A' C' H' v d → Q d C' A' H' v → Q' d C' A' H' v) : Aft k fl A C H rel m Q' W := by
  cases m with
  | ok d C' => exact fun A' H' v p st r => hq _ _ _ _ _ p st r (h A' H' v p st r)
  | exc e C' => exact h
  | stuck => exact h
theorem Aft.bnd {f : α → Store → R γ} {Q : γ → Store → (Nat → Addr) → Hp → δ → Prop} (h : Aft k fl A C H rel2 (bnd m f) Q W) :
    Aft k fl A C H rel m (fun d C1 A1 H1 v => Aft k fl A1 C1 H1 rel2 (f d C1) Q W) W := by
  cases m with
  | ok d C' => exact fun A' H' v p st r => Aft.shift p h
  | exc e C' => exact h
  | stuck => exact h
end
abbrev RepD (k : Cn) : (Nat → Addr) → Store → Hp → V → D → Prop := fun A C H v d => Rep k A C H v d
abbrev RepDs (k : Cn) : (Nat → Addr) → Store → Hp → List V → List D → Prop := fun A C H v d => RepL k A C H v d
/-- an expression's reading by data -/
def LE (k : Cn) (W : WX) (m : ME) : TE := fun σ H Q => ∃ A F C, SR k A F C σ H ∧ Aft k F.fl A C H (RepD k) (m F C) (fun _ _ _ H' v => Q v H') (fun c d H' => W c d σ H')
def LA (k : Cn) (W : WX) (m : MA) : TA := fun σ H Q => ∃ A F C, SR k A F C σ H ∧ Aft k F.fl A C H (RepDs k) (m F C) (fun _ _ _ H' v => Q v H') (fun c d H' => W c d σ H')
def LT (k : Cn) (W : WX) (m : MT) : TT := fun σ H Q => ∃ A F C, SR k A F C σ H ∧ Aft k F.fl A C H (fun _ _ _ (v d : Bool) => v = d) (m F C) (fun _ _ _ H' v => Q v H') (fun c d H' => W c d σ H')
end CT
set_option maxHeartbeats 4000000
/-! DL2: expressions over data: names, constants, operators, displays, subscripts, calls of built-ins. -/
namespace CT
open PySem L2
theorem _root_.L2.PE.cq {X : Cx} {e : Expr} {t t' : TE} (h : PE X e t) (c : ∀ σ H Q, t' σ H Q → t σ H Q) : PE X e t' := ⟨fun pins s σ H Q I q => h.run pins s σ H Q I (c σ H Q q)⟩
theorem _root_.L2.PT.cq {X : Cx} {e : Expr} {t t' : TT} (h : PT X e t) (c : ∀ σ H Q, t' σ H Q → t σ H Q) : PT X e t' := ⟨fun pins s σ H Q I q => h.run pins s σ H Q I (c σ H Q q)⟩
theorem _root_.L2.PW.cq {X : Cx} {e : Expr} {t t' : TT} (h : PW X e t) (c : ∀ σ H Q, t' σ H Q → t σ H Q) : PW X e t' := ⟨fun w pins s σ H Q I q => h.run w pins s σ H Q I (c σ H Q q)⟩
theorem _root_.L2.PA.cq {X : Cx} {e : List Expr} {t t' : TA} (h : PA X e t) (c : ∀ σ H Q, t' σ H Q → t σ H Q) : PA X e t' := ⟨fun p pins s σ H Q I q => h.run p pins s σ H Q I (c σ H Q q)⟩
theorem _root_.L2.PS.cq {X : Cx} {e : Stmt} {t t' : TS} (h : PS X e t) (c : ∀ D σ H, t' D σ H → t D σ H) : PS X e t' := ⟨fun pins s σ H Q I q => h.run pins s σ H Q I (c Q σ H q)⟩
theorem _root_.L2.PSs.cq {X : Cx} {e : List Stmt} {t t' : TS} (h : PSs X e t) (c : ∀ D σ H, t' D σ H → t D σ H) : PSs X e t' := ⟨fun pins s σ H Q I q => h.run pins s σ H Q I (c Q σ H q)⟩
/-! ### names, constants -/
section
variable {X : Cx} {k : Cn} {W : WX}
theorem le_var {i : Nat} {σ : L2.St} {H : Hp} {Q : VK} (h : LE k W (mVar i) σ H Q) : tVar i σ H Q := by
  obtain ⟨A, F, C, s, h⟩ := h
  unfold mVar at h
  split at h
  · rename_i d e
    obtain ⟨v, h1, h2⟩ := s.sl i d e
    exact ⟨v, h1, h A H v Stp.refl s.st h2⟩
  · exact h.elim
theorem dv (i : Nat) {x : Str} {pos : Pos} (hN : X.N[i]? = some x := by rfl) (hv : Vis X.env.scope x := by first | exact Or.inl rfl | exact Or.inr (Or.inl rfl) | exact Or.inr (Or.inr rfl)) (hd : (x == ("__debug__" : Str)) = false := by decide)
    (hcd : (x == ("__classdict__" : Str)) = false := by decide) : PE X (.Name x pos) (LE k W (mVar i)) := (pe_var hN hv hd hcd).cq fun _ _ _ h => le_var h
/-- a value that every heap reads as d -/
theorem le_c {v : V} {d : D} (hr : ∀ A C H, Rep k A C H v d) {σ : L2.St} {H : Hp} {Q : VK} (h : LE k W (mC d) σ H Q) : tC v σ H Q := by
  obtain ⟨A, F, C, s, h⟩ := h
  exact h A H v Stp.refl s.st (hr _ _ _)
theorem de_int {i j pos} : PE X (.Constant (.int i) j pos) (LE k W (mC (.int i))) := pe_int.cq fun _ _ _ h => le_c (fun _ _ _ => .int i) h
theorem de_bl {i j pos} : PE X (.Constant (.bool i) j pos) (LE k W (mC (.bl i))) := pe_bl.cq fun _ _ _ h => le_c (fun _ _ _ => .bl i) h
theorem de_non {j pos} : PE X (.Constant .none j pos) (LE k W (mC .non)) := pe_non.cq fun _ _ _ h => le_c (fun _ _ _ => .non) h
theorem de_glob {x : Str} {v : V} {d : D} {u : Value} {pos : Pos} (hr : ∀ A C H, Rep k A C H v d) (hg : Gl X x) (hm : X.mg x = some u) (r : RelV v u) (hd : (x == ("__debug__" : Str)) = false := by decide) : PE X (.Name x pos) (LE k W (mC d)) :=
  (pe_glob hg hm r hd).cq fun _ _ _ h => le_c hr h
end
/-! ### operators -/
/-- an operation on values that the data's operation o tells -/
def OpD (k : Cn) (r : R2) (o : O2) : Prop := ∀ fl A C H x y dx dy d C' (Q : VK), fl ≤ C.length → LowC fl C → StOk k A C H → Rep k A C H x dx → Rep k A C H y dy → o dx dy C = some (d, C') →
  (∀ A' H' v, Stp k fl A C H A' C' H' → StOk k A' C' H' → Rep k A' C' H' v d → Q v H') → r x y H Q
def UnD (k : Cn) (r : V → Hp → VK → Prop) (o : O1) : Prop := ∀ fl A C H x dx d C' (Q : VK), fl ≤ C.length → LowC fl C → StOk k A C H → Rep k A C H x dx → o dx C = some (d, C') →
  (∀ A' H' v, Stp k fl A C H A' C' H' → StOk k A' C' H' → Rep k A' C' H' v d → Q v H') → r x H Q
def ApD (k : Cn) (r : List V → Hp → VK → Prop) (o : OA) : Prop := ∀ fl A C H x dx d C' (Q : VK), fl ≤ C.length → LowC fl C → StOk k A C H → RepL k A C H x dx → o dx C = some (d, C') →
  (∀ A' H' v, Stp k fl A C H A' C' H' → StOk k A' C' H' → Rep k A' C' H' v d → Q v H') → r x H Q
theorem aft_ofO {k : Cn} {fl : Nat} {A : Nat → Addr} {C : Store} {H : Hp} {W : XK} {o : Option (D × Store)} {Q : D → Store → (Nat → Addr) → Hp → V → Prop} (h : Aft k fl A C H (RepD k) (ofO o) Q W) :
    ∃ d C', o = some (d, C') ∧ ∀ A' H' v, Stp k fl A C H A' C' H' → StOk k A' C' H' → Rep k A' C' H' v d → Q d C' A' H' v := by
  cases o with
  | none => exact h.elim
  | some p => exact ⟨p.1, p.2, rfl, h⟩
section
variable {X : Cx} {k : Cn} {W : WX} {σ : L2.St} {H : Hp} {Q : VK}
theorem le_op {r : R2} {o : O2} {ma mb : ME} (ho : OpD k r o) (h : LE k W (mOp o ma mb) σ H Q) : tOp r (LE k W ma) (LE k W mb) σ H Q := by
  obtain ⟨A, F, C, s, h⟩ := h
  refine ⟨A, F, C, s, (Aft.bnd (rel := RepD k) h).mono fun dx C1 A1 H1 x p1 st1 rx h1 => ?_⟩
  have s1 := s.step p1 st1
  refine ⟨A1, F, C1, s1, (Aft.bnd (rel := RepD k) h1).mono fun dy C2 A2 H2 y p2 st2 ry h2 => ?_⟩
  have s2 := s1.step p2 st2
  obtain ⟨d, C', e, q⟩ := aft_ofO h2
  exact ho F.fl A2 C2 H2 x y dx dy d C' Q s2.fl s2.low st2 (p2.rep _ _ rx) ry e q
theorem le_un {r : V → Hp → VK → Prop} {o : O1} {ma : ME} (ho : UnD k r o) (h : LE k W (mUn o ma) σ H Q) : tUn r (LE k W ma) σ H Q := by
  obtain ⟨A, F, C, s, h⟩ := h
  refine ⟨A, F, C, s, (Aft.bnd (rel := RepD k) h).mono fun dx C1 A1 H1 x p1 st1 rx h1 => ?_⟩
  have s1 := s.step p1 st1
  obtain ⟨d, C', e, q⟩ := aft_ofO h1
  exact ho F.fl A1 C1 H1 x dx d C' Q s1.fl s1.low st1 rx e q
theorem la_nil {Q : List V → Hp → Prop} (h : LA k W mNil σ H Q) : tNil σ H Q := by
  obtain ⟨A, F, C, s, h⟩ := h
  exact h A H [] Stp.refl s.st .nil
theorem la_cons {Q : List V → Hp → Prop} {ma : ME} {mr : MA} (h : LA k W (mCons ma mr) σ H Q) : tCons (LE k W ma) (LA k W mr) σ H Q := by
  obtain ⟨A, F, C, s, h⟩ := h
  refine ⟨A, F, C, s, (Aft.bnd (rel := RepD k) h).mono fun dx C1 A1 H1 x p1 st1 rx h1 => ?_⟩
  have s1 := s.step p1 st1
  refine ⟨A1, F, C1, s1, (Aft.bnd (rel := RepDs k) h1).mono fun dy C2 A2 H2 y p2 st2 ry h2 => ?_⟩
  exact h2 A2 H2 (x :: y) Stp.refl st2 (.cons (p2.rep _ _ rx) ry)
theorem le_ap {r : List V → Hp → VK → Prop} {o : OA} {ma : MA} (ho : ApD k r o) (h : LE k W (mAp o ma) σ H Q) : tCB r (LA k W ma) σ H Q := by
  obtain ⟨A, F, C, s, h⟩ := h
  refine ⟨A, F, C, s, (Aft.bnd (rel := RepDs k) h).mono fun dx C1 A1 H1 x p1 st1 rx h1 => ?_⟩
  have s1 := s.step p1 st1
  obtain ⟨d, C', e, q⟩ := aft_ofO h1
  exact ho F.fl A1 C1 H1 x dx d C' Q s1.fl s1.low st1 rx e q
theorem de_op {a b : Expr} {pos : Pos} {op : Operator} {r : R2} {o : O2} {ma mb : ME} (hR : OpR X (binaryOp op) r) (hD : OpD k r o) (ha : PE X a (LE k W ma)) (hb : PE X b (LE k W mb)) : PE X (.BinOp a op b pos) (LE k W (mOp o ma mb)) :=
  (pe_op hR ha hb).cq fun _ _ _ h => le_op hD h
theorem de_cmp {a b : Expr} {pos : Pos} {op : CmpOp} {r : R2} {o : O2} {ma mb : ME} (hR : OpR X (compareOp op) r) (hD : OpD k r o) (ha : PE X a (LE k W ma)) (hb : PE X b (LE k W mb)) (hm : behindInMarks op b = false) : PE X (.Compare a [op] [b] pos) (LE k W (mOp o ma mb)) :=
  (pe_cmpR hR ha hb hm).cq fun _ _ _ h => le_op hD h
theorem de_un {a : Expr} {pos : Pos} {op : UnaryOp} {r : V → Hp → VK → Prop} {o : O1} {ma : ME} (hR : UnR X (unaryOp op) r) (hD : UnD k r o) (ha : PE X a (LE k W ma)) : PE X (.UnaryOp op a pos) (LE k W (mUn o ma)) :=
  (pe_un hR ha).cq fun _ _ _ h => le_un hD h
theorem de_ix {a b : Expr} {pos : Pos} {r : R2} {o : O2} {ma mb : ME} (hR : IxR X r) (hD : OpD k r o) (ha : PE X a (LE k W ma)) (hb : PE X b (LE k W mb)) (hs : PlainIx b := by exact fun _ _ => rfl) : PE X (.Subscript a b pos) (LE k W (mOp o ma mb)) :=
  (pe_ix hR ha hb hs).cq fun _ _ _ h => le_op hD h
theorem da_nil : PA X [] (LA k W mNil) := pa_nil.cq fun _ _ _ h => la_nil h
theorem da_cons {e : Expr} {es : List Expr} {ma : ME} {mr : MA} (ha : PE X e (LE k W ma)) (hr : PA X es (LA k W mr)) (hs : starEach (e :: es) X.env = (false, eval e X.env) :: starEach es X.env := by rfl) : PA X (e :: es) (LA k W (mCons ma mr)) :=
  (pa_cons ha hr hs).cq fun _ _ _ h => la_cons h
theorem de_callB {x : Str} {id : String} {e : Expr} {es : List Expr} {p pos : Pos} {r : List V → Hp → VK → Prop} {o : OA} {ma : MA} (hc : CallR X (.builtin id) r) (hD : ApD k r o) (hg : Gl X x) (hm : X.mg x = none) (hv : bootBuiltins x = some (.builtin id))
    (ha : PA X (e :: es) (LA k W ma)) (hn : x ≠ "__name__" := by decide) (hdb : (x == ("__debug__" : Str)) = false := by decide) (he : starEach (e :: es) X.env = (false, eval e X.env) :: starEach es X.env := by rfl) (hpl : (backTo pos (starEach es X.env)).any (·.1) = false := by rfl) :
    PE X (.Call (.Name x p) (e :: es) [] pos) (LE k W (mAp o ma)) := (pe_callB hc hg hm hv ha hn hdb he hpl).cq fun _ _ _ h => le_ap hD h
theorem de_callTy {x : Str} {id : String} {e : Expr} {es : List Expr} {p pos : Pos} {r : List V → Hp → VK → Prop} {o : OA} {ma : MA} (hc : CallR X (.type id) r) (hD : ApD k r o) (hg : Gl X x) (hm : X.mg x = none) (hv : bootBuiltins x = some (.type id))
    (ha : PA X (e :: es) (LA k W ma)) (hn : x ≠ "__name__" := by decide) (hdb : (x == ("__debug__" : Str)) = false := by decide) (he : starEach (e :: es) X.env = (false, eval e X.env) :: starEach es X.env := by rfl) (hpl : (backTo pos (starEach es X.env)).any (·.1) = false := by rfl) :
    PE X (.Call (.Name x p) (e :: es) [] pos) (LE k W (mAp o ma)) := (pe_callTy hc hg hm hv ha hn hdb he hpl).cq fun _ _ _ h => le_ap hD h
end
/-! ### tests, and, or, not -/
abbrev RepB : (Nat → Addr) → Store → Hp → Bool → Bool → Prop := fun _ _ _ v d => v = d
section
variable {X : Cx} {k : Cn} {W : WX} {σ : L2.St} {H : Hp}
theorem lt_val {ma : ME} {Q : Bool → Hp → Prop} (h : LT k W (mTst ma) σ H Q) : tB (LE k W ma) σ H Q := by
  obtain ⟨A, F, C, s, h⟩ := h
  refine ⟨A, F, C, s, (Aft.bnd (rel := RepD k) h).mono fun dx C1 A1 H1 x p1 st1 rx h1 => ?_⟩
  cases rx with
  | bl b => exact ⟨b, rfl, h1 A1 H1 b Stp.refl st1 rfl⟩
  | _ => exact h1.elim
theorem dt_val {e : Expr} {ma : ME} (h : PE X e (LE k W ma)) (he : ∀ whole, isTrue e X.env whole = (do let v ← whole; standAt e.pos; holding [v] (truthy v)) := by intro _; rfl) : PT X e (LT k W (mTst ma)) :=
  (pt_val h he).cq fun _ _ _ h => lt_val h
theorem lt_and {a b : MT} {Q : Bool → Hp → Prop} (h : LT k W (tAndM a b) σ H Q) : tAnd (LT k W a) (LT k W b) σ H Q := by
  obtain ⟨A, F, C, s, h⟩ := h
  refine ⟨A, F, C, s, (Aft.bnd (rel := RepB) h).mono fun dx C1 A1 H1 x p1 st1 rx h1 => ?_⟩
  have rx : x = dx := rx
  subst rx
  cases x with
  | true => exact iteT ⟨A1, F, C1, s.step p1 st1, h1⟩
  | false => exact iteF (h1 A1 H1 false Stp.refl st1 rfl)
theorem lt_or {a b : MT} {Q : Bool → Hp → Prop} (h : LT k W (tOrM a b) σ H Q) : tOr (LT k W a) (LT k W b) σ H Q := by
  obtain ⟨A, F, C, s, h⟩ := h
  refine ⟨A, F, C, s, (Aft.bnd (rel := RepB) h).mono fun dx C1 A1 H1 x p1 st1 rx h1 => ?_⟩
  have rx : x = dx := rx
  subst rx
  cases x with
  | true => exact iteT (h1 A1 H1 true Stp.refl st1 rfl)
  | false => exact iteF ⟨A1, F, C1, s.step p1 st1, h1⟩
theorem lt_not {a : MT} {Q : Bool → Hp → Prop} (h : LT k W (tNotM a) σ H Q) : tNot (LT k W a) σ H Q := by
  obtain ⟨A, F, C, s, h⟩ := h
  refine ⟨A, F, C, s, (Aft.bnd (rel := RepB) h).mono fun dx C1 A1 H1 x p1 st1 rx h1 => ?_⟩
  have rx : x = dx := rx
  subst rx
  exact h1 A1 H1 (!x) Stp.refl st1 rfl
theorem dw_and1 {a : Expr} {pos : Pos} {m : MT} (ha : PT X a (LT k W m)) : PW X (.BoolOp .And [a] pos) (LT k W m) := pw_and1 ha
theorem dw_or1 {a : Expr} {pos : Pos} {m : MT} (ha : PT X a (LT k W m)) : PW X (.BoolOp .Or [a] pos) (LT k W m) := pw_or1 ha
theorem dw_and {a b : Expr} {rest : List Expr} {pos : Pos} {m n : MT} (ha : PT X a (LT k W m)) (hb : PW X (.BoolOp .And (b :: rest) pos) (LT k W n)) : PW X (.BoolOp .And (a :: b :: rest) pos) (LT k W (tAndM m n)) := (pw_and ha hb).cq fun _ _ _ h => lt_and h
theorem dw_or {a b : Expr} {rest : List Expr} {pos : Pos} {m n : MT} (ha : PT X a (LT k W m)) (hb : PW X (.BoolOp .Or (b :: rest) pos) (LT k W n)) : PW X (.BoolOp .Or (a :: b :: rest) pos) (LT k W (tOrM m n)) := (pw_or ha hb).cq fun _ _ _ h => lt_or h
theorem dt_not {a : Expr} {pos : Pos} {m : MT} (ha : PT X a (LT k W m)) : PT X (.UnaryOp .Not a pos) (LT k W (tNotM m)) := (pt_not ha).cq fun _ _ _ h => lt_not h
theorem le_and {a b : ME} {Q : VK} (h : LE k W (mAnd a b) σ H Q) : tAndV (LE k W a) (LE k W b) σ H Q := by
  obtain ⟨A, F, C, s, h⟩ := h
  refine ⟨A, F, C, s, (Aft.bnd (rel := RepD k) h).mono fun dx C1 A1 H1 x p1 st1 rx h1 => ?_⟩
  cases rx with
  | bl b =>
    refine ⟨b, rfl, ?_⟩
    cases b with
    | true => exact iteT ⟨A1, F, C1, s.step p1 st1, h1⟩
    | false => exact iteF (h1 A1 H1 (.bl false) Stp.refl st1 (.bl false))
  | _ => exact h1.elim
theorem le_not {a : ME} {Q : VK} (h : LE k W (mNot a) σ H Q) : tNotV (LE k W a) σ H Q := by
  obtain ⟨A, F, C, s, h⟩ := h
  refine ⟨A, F, C, s, (Aft.bnd (rel := RepD k) h).mono fun dx C1 A1 H1 x p1 st1 rx h1 => ?_⟩
  cases rx with
  | bl b => exact ⟨b, rfl, h1 A1 H1 (.bl (!b)) Stp.refl st1 (.bl _)⟩
  | _ => exact h1.elim
theorem de_one {op} {a : Expr} {pos : Pos} {m : ME} (h : PE X a (LE k W m)) : PE X (.BoolOp op [a] pos) (LE k W m) := pe_one h
theorem de_and {a b : Expr} {rest : List Expr} {pos : Pos} {m n : ME} (ha : PE X a (LE k W m)) (hb : PE X (.BoolOp .And (b :: rest) pos) (LE k W n)) : PE X (.BoolOp .And (a :: b :: rest) pos) (LE k W (mAnd m n)) := (pe_and ha hb).cq fun _ _ _ h => le_and h
theorem de_not {a : Expr} {pos : Pos} {m : ME} (ha : PE X a (LE k W m)) : PE X (.UnaryOp .Not a pos) (LE k W (mNot m)) := (pe_not ha).cq fun _ _ _ h => le_not h
end
/-! ### numbers -/
def oI (c : Int → Int → Bool) (g : Int → Int → D) : O2 := fun x y C => match x, y with
  | .int i, .int j => if c i j = true then some (g i j, C) else none
  | _, _ => none
theorem opD_I0 {k : Cn} {g : Int → Int → V} {g' : Int → Int → D} (hg : ∀ i j A C H, Rep k A C H (g i j) (g' i j)) : OpD k (rI0 g) (oI0 g') := by
  intro fl A C H x y dx dy d C' Q hf hl st rx ry e q
  unfold oI0 at e
  split at e
  · cases rx; cases ry; cases e
    exact ⟨_, _, rfl, rfl, q A H _ Stp.refl st (hg _ _ _ _ _)⟩
  · cases e
theorem opD_I {k : Cn} {P : Int → Int → Prop} {c : Int → Int → Bool} {g : Int → Int → V} {g' : Int → Int → D} (hc : ∀ i j, c i j = true → P i j) (hg : ∀ i j A C H, Rep k A C H (g i j) (g' i j)) : OpD k (rI P g) (oI c g') := by
  intro fl A C H x y dx dy d C' Q hf hl st rx ry e q
  unfold oI at e
  split at e
  · split at e
    · rename_i h
      cases rx; cases ry; cases e
      exact ⟨_, _, rfl, rfl, hc _ _ h, q A H _ Stp.refl st (hg _ _ _ _ _)⟩
    · cases e
  · cases e
def cMul (i j : Int) : Bool := (decide (-(2 ^ 64) < i) && decide (i < 2 ^ 64)) || (decide (-(2 ^ 64) < j) && decide (j < 2 ^ 64))
def oMul : O2 := oI cMul fun i j => .int (i * j)
def cDiv (i j : Int) : Bool := decide (0 < j) && decide (j < 4611686018427387904)
def oDiv : O2 := oI cDiv fun i j => .int (i / j)
def oMod : O2 := oI (fun _ j => decide (0 < j)) fun i j => .int (i % j)
section
variable {k : Cn}
theorem d_add : OpD k (rI0 fun i j => .int (i + j)) oAdd := opD_I0 fun i j _ _ _ => .int _
theorem d_sub : OpD k (rI0 fun i j => .int (i - j)) oSub := opD_I0 fun i j _ _ _ => .int _
theorem d_mul : OpD k (rI CMul fun i j => .int (i * j)) oMul := opD_I (fun i j h => by
  simp only [cMul, Bool.or_eq_true, Bool.and_eq_true, decide_eq_true_eq] at h
  exact h) fun i j _ _ _ => .int _
theorem d_div : OpD k (rI CDivW fun i j => .int (i / j)) oDiv := opD_I (fun i j h => by
  simp only [cDiv, Bool.and_eq_true, decide_eq_true_eq] at h
  refine ⟨h.1, Nat.lt_of_lt_of_le ((Nat.log2_lt (by omega)).mpr (show j.natAbs < 2 ^ 62 by omega)) (by decide)⟩) fun i j _ _ _ => .int _
theorem d_mod : OpD k (rI (fun _ j => 0 < j) fun i j => .int (i % j)) oMod := opD_I (fun i j h => by simpa using h) fun i j _ _ _ => .int _
theorem d_lt : OpD k (rI0 fun i j => .bl (decide (i < j))) oLt := opD_I0 fun i j _ _ _ => .bl _
theorem d_le : OpD k (rI0 fun i j => .bl (decide (i ≤ j))) oLe := opD_I0 fun i j _ _ _ => .bl _
theorem d_gt : OpD k (rI0 fun i j => .bl (decide (j < i))) oGt := opD_I0 fun i j _ _ _ => .bl _
theorem d_ge : OpD k (rI0 fun i j => .bl (decide (j ≤ i))) oGe := opD_I0 fun i j _ _ _ => .bl _
theorem d_neg : UnD k (rU fun i => .int (-i)) oNeg := by
  intro fl A C H x dx d C' Q hf hl st rx e q
  unfold oNeg at e
  split at e
  · cases rx; cases e
    exact ⟨_, rfl, q A H _ Stp.refl st (.int _)⟩
  · cases e
end
/-! ### a chain of two comparisons -/
theorem le_chain {k : Cn} {W : WX} {σ : L2.St} {H : Hp} {Q : VK} {r r' : R2} {o o' : O2} {ma mb mc : ME} (ho : OpD k r o) (ho' : OpD k r' o') (h : LE k W (mChain o o' ma mb mc) σ H Q) : tChain r r' (LE k W ma) (LE k W mb) (LE k W mc) σ H Q := by
  obtain ⟨A, F, C, s, h⟩ := h
  refine ⟨A, F, C, s, (Aft.bnd (rel := RepD k) h).mono fun dx C1 A1 H1 x p1 st1 rx h1 => ?_⟩
  have s1 := s.step p1 st1
  refine ⟨A1, F, C1, s1, (Aft.bnd (rel := RepD k) h1).mono fun dy C2 A2 H2 y p2 st2 ry h2 => ?_⟩
  have s2 := s1.step p2 st2
  obtain ⟨d, C', e, q⟩ := aft_ofO (Aft.bnd (rel := RepD k) h2)
  refine ho F.fl A2 C2 H2 x y dx dy d C' _ s2.fl s2.low st2 (p2.rep _ _ rx) ry e fun A3 H3 z p3 st3 rz => ?_
  have h3 := q A3 H3 z p3 st3 rz
  cases rz with
  | bl b =>
    refine ⟨b, rfl, ?_⟩
    cases b with
    | true =>
      have s3 := s2.step p3 st3
      refine iteT ⟨A3, F, C', s3, (Aft.bnd (rel := RepD k) h3).mono fun dw C4 A4 H4 w p4 st4 rw h4 => ?_⟩
      have s4 := s3.step p4 st4
      obtain ⟨d', C'', e', q'⟩ := aft_ofO h4
      exact ho' F.fl A4 C4 H4 y w dy dw d' C'' Q s4.fl s4.low st4 (p4.rep _ _ (p3.rep _ _ ry)) rw e' q'
    | false => exact iteF (h3 A3 H3 (.bl false) Stp.refl st3 (.bl false))
  | _ => exact h3.elim
theorem de_chain {X : Cx} {k : Cn} {W : WX} {a b c : Expr} {pos : Pos} {op op' : CmpOp} {r r' : R2} {o o' : O2} {ma mb mc : ME} (hR : OpR X (compareOp op) r) (hD : OpD k r o) (hR' : OpR X (compareOp op') r') (hD' : OpD k r' o') (ha : PE X a (LE k W ma)) (hb : PE X b (LE k W mb)) (hc : PE X c (LE k W mc))
    (hm : lastMarks [op, op'] [b, c] = false := by with_unfolding_all rfl) : PE X (.Compare a [op, op'] [b, c] pos) (LE k W (mChain o o' ma mb mc)) :=
  (pe_chain hR hR' ha hb hc hm).cq fun _ _ _ h => le_chain hD hD' h
end CT
set_option maxHeartbeats 4000000
/-! DL3: lists, tuples, dicts over data. -/
namespace CT
open PySem L2
/-! ### what a datum is as a list, a tuple, a dict -/
def vS (d : D) (C : Store) : Option (List D) := match d with
  | .tup xs => some xs
  | .kt xs => some xs
  | .lst xs => some xs
  | .cell i => match C[i]? with
    | some (some (.lst xs)) => some xs
    | _ => none
  | _ => none
section
variable {k : Cn} {A : Nat → Addr} {C : Store} {H : Hp} {v : V} {d : D} {ds : List D}
theorem vL_at (st : StOk k A C H) (r : Rep k A C H v d) (e : vL d C = some ds) : ∃ a vs, v = .ref a ∧ H a = some (.lst vs) ∧ RepL k A C H vs ds := by
  cases r with
  | lst l h q => cases e; exact ⟨_, _, rfl, h, q⟩
  | cell hi =>
    rename_i i
    simp only [vL] at e
    split at e
    · rename_i xs ec
      cases e
      obtain ⟨vs, h, q⟩ := st.at_ i _ ec
      exact ⟨_, vs, rfl, h, q⟩
    · cases e
  | _ => cases e
theorem vT_at (r : Rep k A C H v d) (e : vT d = some ds) : ∃ a vs, v = .ref a ∧ SqT k.K H a vs ∧ RepL k A C H vs ds := by
  cases r with
  | tup l h q => cases e; exact ⟨_, _, rfl, .inl (.inl h), q⟩
  | ktup h q => cases e; exact ⟨_, _, rfl, .inr h, q⟩
  | _ => cases e
theorem vS_at (st : StOk k A C H) (r : Rep k A C H v d) (e : vS d C = some ds) : ∃ a vs, v = .ref a ∧ (SqL k.K H a vs ∨ SqT k.K H a vs) ∧ RepL k A C H vs ds := by
  cases r with
  | lst l h q => cases e; exact ⟨_, _, rfl, .inl (.inl (.inl h)), q⟩
  | tup l h q => cases e; exact ⟨_, _, rfl, .inr (.inl (.inl h)), q⟩
  | ktup h q => cases e; exact ⟨_, _, rfl, .inr (.inr h), q⟩
  | cell hi =>
    rename_i i
    simp only [vS] at e
    split at e
    · rename_i xs ec
      cases e
      obtain ⟨vs, h, q⟩ := st.at_ i _ ec
      exact ⟨_, vs, rfl, .inl (.inl (.inl h)), q⟩
    · cases e
  | _ => cases e
theorem vD_at {ks : List (List Key)} (st : StOk k A C H) (r : Rep k A C H v d) (e : vD d C = some (ks, ds)) : ∃ a kvs, v = .ref a ∧ H a = some (.dT kvs) ∧ kvs.map (·.1) = ks ∧ RepL k A C H (kvs.map (·.2)) ds := by
  cases r with
  | dT l h q => cases e; exact ⟨_, _, rfl, h, rfl, q⟩
  | cell hi =>
    rename_i i
    simp only [vD] at e
    split at e
    · rename_i xs ec
      cases e
      obtain ⟨vs, h, z, q⟩ := st.at_ i _ ec
      exact ⟨_, vs, rfl, h, z, q⟩
    · cases e
  | _ => cases e
/-! ### new lists, tuples, dicts: own cells or plain data -/
theorem ext_at (A : Nat → Addr) (n : Nat) (p : Addr) : ext A n p n = p := if_pos rfl
theorem rep_new {p : Addr} (n : Nat) (c : Cell) {H : Hp} {C : Store} : Rep k (ext A C.length p) (C ++ [some c]) H (.ref p) (.cell C.length) := by
  have h : Rep k (ext A C.length p) (C ++ [some c]) H (.ref (ext A C.length p C.length)) (.cell C.length) := .cell (by simp)
  rw [ext_at] at h
  exact h
theorem fresh_L {fl : Nat} {own : Bool} {p : Addr} {vs : List V} (hf : fl ≤ C.length) (st : StOk k A C H) (r : RepL k A C H vs ds) (h : H p = none) :
    ∃ A', Stp k fl A C H A' (mkL own ds C).2 (upd H p (.lst vs)) ∧ StOk k A' (mkL own ds C).2 (upd H p (.lst vs)) ∧ Rep k A' (mkL own ds C).2 (upd H p (.lst vs)) (.ref p) (mkL own ds C).1 := by
  cases own with
  | true =>
    have q : Kp A C H (ext A C.length p) (C ++ [some (.lst ds)]) (upd H p (.lst vs)) := kp_cell (k := k) st h
    exact ⟨ext A C.length p, q.stp fun f h1 h2 l => low_app h2 l, st.cell h ⟨vs, upd_same, r.kp q⟩, rep_new C.length _⟩
  | false =>
    have q : Kp A C H A C (upd H p (.lst vs)) := kp_new h
    exact ⟨A, q.stp0, st.new h, .lst (st.notLive h) upd_same (r.kp q)⟩
theorem fresh_T {fl : Nat} {p : Addr} {vs : List V} (st : StOk k A C H) (r : RepL k A C H vs ds) (h : H p = none) :
    Stp k fl A C H A C (upd H p (.tup vs)) ∧ StOk k A C (upd H p (.tup vs)) ∧ Rep k A C (upd H p (.tup vs)) (.ref p) (.tup ds) := by
  have q : Kp A C H A C (upd H p (.tup vs)) := kp_new h
  exact ⟨q.stp0, st.new h, .tup (st.notLive h) upd_same (r.kp q)⟩
theorem fresh_D {fl : Nat} {own : Bool} {p : Addr} {kvs : List (List Key × V)} (hf : fl ≤ C.length) (st : StOk k A C H) (r : RepL k A C H (kvs.map (·.2)) ds) (h : H p = none) :
    ∃ A', Stp k fl A C H A' (mkD own (kvs.map (·.1)) ds C).2 (upd H p (.dT kvs)) ∧ StOk k A' (mkD own (kvs.map (·.1)) ds C).2 (upd H p (.dT kvs)) ∧ Rep k A' (mkD own (kvs.map (·.1)) ds C).2 (upd H p (.dT kvs)) (.ref p) (mkD own (kvs.map (·.1)) ds C).1 := by
  cases own with
  | true =>
    have q : Kp A C H (ext A C.length p) (C ++ [some (.dT (kvs.map (·.1)) ds)]) (upd H p (.dT kvs)) := kp_cell (k := k) st h
    exact ⟨ext A C.length p, q.stp fun f h1 h2 l => low_app h2 l, st.cell h ⟨kvs, upd_same, rfl, r.kp q⟩, rep_new C.length _⟩
  | false =>
    have q : Kp A C H A C (upd H p (.dT kvs)) := kp_new h
    exact ⟨A, q.stp0, st.new h, .dT (st.notLive h) upd_same (r.kp q)⟩
end
/-! ### displays -/
theorem szN_le {n : Nat} (h : szN n = true) : n ≤ sizeLine := by
  rw [sizeLine_eq]
  exact of_decide_eq_true h
section
variable {X : Cx} {k : Cn} {W : WX} {es : List Expr} {ma : MA} {pos : Pos}
theorem le_lst {own : Bool} {σ : L2.St} {H : Hp} {Q : VK} (h : LE k W (mAp (oLst own) ma) σ H Q) : tLst (LA k W ma) σ H Q := by
  obtain ⟨A, F, C, s, h⟩ := h
  refine ⟨A, F, C, s, (Aft.bnd (rel := RepDs k) h).mono fun dx C1 A1 H1 x p1 st1 rx h1 => ?_⟩
  have s1 := s.step p1 st1
  obtain ⟨d, C', e, q⟩ := aft_ofO h1
  unfold oLst at e
  split at e
  · rename_i hz
    refine ⟨by rw [rx.length]; exact szN_le hz, fun p hp => ?_⟩
    obtain ⟨A2, w1, w2, w3⟩ := fresh_L (own := own) s1.fl st1 rx hp
    have e1 := Option.some.inj e
    rw [e1] at w1 w2 w3
    exact q A2 _ _ w1 w2 w3
  · cases e
theorem de_lst (own : Bool) (h : PA X es (LA k W ma)) : PE X (.List es pos) (LE k W (mAp (oLst own) ma)) := (pe_lst h).cq fun _ _ _ h => le_lst h
theorem le_tup {σ : L2.St} {H : Hp} {Q : VK} (h : LE k W (mAp oTup ma) σ H Q) : tTup (LA k W ma) σ H Q := by
  obtain ⟨A, F, C, s, h⟩ := h
  refine ⟨A, F, C, s, (Aft.bnd (rel := RepDs k) h).mono fun dx C1 A1 H1 x p1 st1 rx h1 => ?_⟩
  obtain ⟨d, C', e, q⟩ := aft_ofO h1
  unfold oTup at e
  split at e
  · rename_i hz
    cases e
    refine ⟨by rw [rx.length]; exact szN_le hz, fun p hp => ?_⟩
    obtain ⟨w1, w2, w3⟩ := fresh_T st1 rx hp
    exact q A1 _ _ w1 w2 w3
  · cases e
theorem de_tup {x1} (h : PA X es (LA k W ma)) : PE X (.Tuple es x1 pos) (LE k W (mAp oTup ma)) := (pe_tup h).cq fun _ _ _ h => le_tup h
theorem de_dnew (own : Bool) : PE X (.Dict [] [] pos) (LE k W (mDNew own)) := pe_dnewT.cq fun σ H Q h => by
  obtain ⟨A, F, C, s, h⟩ := h
  intro p hp
  obtain ⟨A2, w1, w2, w3⟩ := fresh_D (own := own) (kvs := []) (ds := []) s.fl s.st .nil hp
  exact h A2 _ _ w1 w2 w3
end
/-! ### subscripts -/
def oIx : O2 := fun x y C => match y with
  | .int i => (vS x C).bind fun xs => (atI xs i).map fun d => (d, C)
  | _ => none
theorem atI_rep {k : Cn} {A : Nat → Addr} {C : Store} {H : Hp} {vs : List V} {ds : List D} {i : Int} {d : D} (r : RepL k A C H vs ds) (h : atI ds i = some d) : ∃ v, atI vs i = some v ∧ Rep k A C H v d := by
  unfold atI at h ⊢
  rw [r.length]
  cases e : ixN ds.length i with
  | none => rw [e] at h; cases h
  | some j =>
    rw [e] at h
    exact r.get h
theorem d_ix {k : Cn} : OpD k (rIx k.K) oIx := by
  intro fl A C H x y dx dy d C' Q hf hl st rx ry e q
  cases ry with
  | int i =>
    simp only [oIx] at e
    cases ev : vS dx C with
    | none => rw [ev] at e; cases e
    | some xs =>
      rw [ev] at e
      simp only [Option.bind_some, Option.map_eq_some_iff] at e
      obtain ⟨d', e1, e2⟩ := e
      cases e2
      obtain ⟨a, vs, rfl, hs, r⟩ := vS_at st rx ev
      obtain ⟨v, hv, rv⟩ := atI_rep r e1
      rcases hs with hs | hs
      · exact .inl ⟨a, vs, i, v, rfl, rfl, hs, hv, q A H v Stp.refl st rv⟩
      · exact .inr (.inl ⟨a, vs, i, v, rfl, rfl, hs, hv, q A H v Stp.refl st rv⟩)
  | _ => cases e
/-! ### dicts with tuple keys -/
theorem keyL_rep {k : Cn} {A : Nat → Addr} {C : Store} {H : Hp} : ∀ {vs : List V} {ds : List D} {ks : List Key}, RepL k A C H vs ds → keyL ds = some ks → vs = ks.map kV
  | _, _, _, .nil, e => by cases e; rfl
  | _, _, _, .cons r t, e => by
    cases r with
    | int i =>
      simp only [keyL, Option.map_eq_some_iff] at e
      obtain ⟨l, e1, e2⟩ := e
      cases e2
      rw [keyL_rep t e1]
      rfl
    | str s =>
      simp only [keyL, Option.map_eq_some_iff] at e
      obtain ⟨l, e1, e2⟩ := e
      cases e2
      rw [keyL_rep t e1]
      rfl
    | _ => cases e
theorem lookT_rep {k : Cn} {A : Nat → Addr} {C : Store} {H : Hp} (key : List Key) : ∀ {kvs : List (List Key × V)} {ds : List D}, RepL k A C H (kvs.map (·.2)) ds →
    (∀ d, lookT (kvs.map (·.1)) ds key = some d → ∃ v, valV kvs key = some v ∧ Rep k A C H v d) ∧ (lookT (kvs.map (·.1)) ds key = none → valV kvs key = none)
  | [], _, .nil => ⟨fun d h => (by cases h), fun _ => rfl⟩
  | p :: kvs, _, .cons r t => by
    have ih := lookT_rep key t
    by_cases e : p.1 = key
    · refine ⟨fun d h => ?_, fun h => ?_⟩
      · simp only [List.map_cons, lookT, if_pos e] at h
        cases h
        exact ⟨p.2, valV_pos e, r⟩
      · simp only [List.map_cons, lookT, if_pos e] at h
        cases h
    · refine ⟨fun d h => ?_, fun h => ?_⟩
      · simp only [List.map_cons, lookT, if_neg e] at h
        obtain ⟨v, h1, h2⟩ := ih.1 d h
        exact ⟨v, by rw [valV_neg e]; exact h1, h2⟩
      · simp only [List.map_cons, lookT, if_neg e] at h
        rw [valV_neg e]
        exact ih.2 h
theorem setT_rep {k : Cn} {A : Nat → Addr} {C : Store} {H : Hp} {v : V} {x : D} (key : List Key) (rx : Rep k A C H v x) : ∀ {kvs : List (List Key × V)} {ds : List D}, RepL k A C H (kvs.map (·.2)) ds →
    RepL k A C H ((kvs.map fun kv => if kv.1 = key then (kv.1, v) else kv).map (·.2)) (setT (kvs.map (·.1)) ds key x)
  | [], _, .nil => .nil
  | p :: kvs, _, .cons r t => by
    have ih := setT_rep key rx t
    by_cases e : p.1 = key
    · simp only [setT, List.map_cons, if_pos e]
      exact .cons rx ih
    · simp only [setT, List.map_cons, if_neg e]
      exact .cons r ih
theorem keys_map (key : List Key) (v : V) : ∀ kvs : List (List Key × V), (kvs.map fun kv => if kv.1 = key then (kv.1, v) else kv).map (·.1) = kvs.map (·.1)
  | [] => rfl
  | p :: kvs => by
    simp only [List.map_cons, keys_map key v kvs]
    split <;> rfl
theorem putK_rep {k : Cn} {A : Nat → Addr} {C : Store} {H : Hp} {v : V} {x : D} (key : List Key) (rx : Rep k A C H v x) {kvs : List (List Key × V)} {ds : List D} (r : RepL k A C H (kvs.map (·.2)) ds) :
    (putK kvs key v).map (·.1) = (putT (kvs.map (·.1)) ds key x).1 ∧ RepL k A C H ((putK kvs key v).map (·.2)) (putT (kvs.map (·.1)) ds key x).2 := by
  have ea : ((kvs.map (·.1)).any fun k => decide (k = key)) = (kvs.any fun kv => decide (kv.1 = key)) := by rw [List.any_map]; rfl
  unfold putK putT
  rw [ea]
  split
  · exact ⟨keys_map key v kvs, setT_rep key rx r⟩
  · rw [List.map_append, List.map_append]
    exact ⟨rfl, r.append (.cons rx .nil)⟩
/-- a key that lies in the heap as a tuple -/
theorem key_at {k : Cn} {A : Nat → Addr} {C : Store} {H : Hp} {y : V} {ds : List D} {key : List Key} (r : Rep k A C H y (.tup ds)) (hk : keyL ds = some key) : ∃ b, y = .ref b ∧ H b = some (.tup (key.map kV)) := by
  cases r with
  | tup l h t =>
    have e := keyL_rep t hk
    subst e
    exact ⟨_, rfl, h⟩
section
variable {X : Cx} {k : Cn} {W : WX} {σ : L2.St} {H : Hp} {Q : VK}
theorem le_dget {ma mb mc : ME} (h : LE k W (mDGet ma mb mc) σ H Q) : tDGet2 (LE k W ma) (LE k W mb) (LE k W mc) σ H Q := by
  obtain ⟨A, F, C, s, h⟩ := h
  refine ⟨A, F, C, s, (Aft.bnd (rel := RepD k) h).mono fun dx C1 A1 H1 x p1 st1 rx h1 => ?_⟩
  have s1 := s.step p1 st1
  have key1 : ∀ (A1 : Nat → Addr) (H1 : Hp) (x : V), StOk k A1 C1 H1 → Rep k A1 C1 H1 x dx → (vD dx C1).isSome = true → ∃ a, x = .ref a ∧ IsD H1 a := fun A1 H1 x st1 rx hs => by
    obtain ⟨⟨ks, vs⟩, e1⟩ := Option.isSome_iff_exists.mp hs
    obtain ⟨a, kvs, rfl, ha, _, _⟩ := vD_at st1 rx e1
    exact ⟨a, rfl, .inr ⟨kvs, .inl ha⟩⟩
  by_cases hs : (vD dx C1).isSome = true
  · obtain ⟨a, rfl, hd⟩ := key1 A1 H1 x st1 rx hs
    rw [if_pos hs] at h1
    refine ⟨a, rfl, hd, A1, F, C1, s1, (Aft.bnd (rel := RepD k) h1).mono fun dy C2 A2 H2 y p2 st2 ry h2 => ?_⟩
    have s2 := s1.step p2 st2
    refine ⟨A2, F, C2, s2, (Aft.bnd (rel := RepD k) h2).mono fun dz C3 A3 H3 z p3 st3 rz h3 => ?_⟩
    obtain ⟨d, C', e, q⟩ := aft_ofO h3
    unfold oDGet at e
    split at e
    · rename_i ds
      simp only [Option.bind_eq_some_iff, Option.map_eq_some_iff] at e
      obtain ⟨⟨ks, vs⟩, e1, key, e2, e4⟩ := e
      cases e4
      obtain ⟨a', kvs, ea, ha, hk, hr⟩ := vD_at st3 (p3.rep _ _ (p2.rep _ _ rx)) e1
      cases ea
      obtain ⟨b, rfl, hb⟩ := key_at (p3.rep _ _ ry) e2
      subst hk
      refine ⟨_, DGet.t ha hb, ?_⟩
      cases el : lookT (kvs.map (·.1)) vs key with
      | none =>
        rw [(lookT_rep key hr).2 el]
        rw [el] at q
        exact q A3 H3 z Stp.refl st3 rz
      | some d =>
        obtain ⟨v, hv, rv⟩ := (lookT_rep key hr).1 _ el
        rw [hv]
        rw [el] at q
        exact q A3 H3 v Stp.refl st3 rv
    · cases e
  · rw [if_neg hs] at h1
    exact h1.elim
theorem de_dget {o e f : Expr} {apos cpos : Pos} {ma mb mc : ME} (hu : X.A.units + 1 < cLine) (ho : PE X o (LE k W ma)) (he : PE X e (LE k W mb)) (hf : PE X f (LE k W mc)) (m : M2 X o "get" apos e f cpos := by exact ⟨rfl, rfl, rfl, rfl⟩) :
    PE X (.Call (.Attribute o "get" apos) [e, f] [] cpos) (LE k W (mDGet ma mb mc)) := (pe_dget2 hu ho he hf m).cq fun _ _ _ h => le_dget h
end
end CT
set_option maxHeartbeats 4000000
/-! DL4: statements, defs over data. -/
namespace CT
open PySem L2
def AftS (k : Cn) (W : WX) (fl : Nat) (A : Nat → Addr) (C : Store) (H : Hp) (m : RS) (E : Ends) : Prop := match m with
  | .nx sl C' => ∀ A' σ' H', Stp k fl A C H A' C' H' → SR k A' ⟨fl, sl⟩ C' σ' H' → E.nx σ' H'
  | .bk sl C' => ∀ A' σ' H', Stp k fl A C H A' C' H' → SR k A' ⟨fl, sl⟩ C' σ' H' → E.bk σ' H'
  | .ct sl C' => ∀ A' σ' H', Stp k fl A C H A' C' H' → SR k A' ⟨fl, sl⟩ C' σ' H' → E.ct σ' H'
  | .rt d C' => ∀ A' H' v, Stp k fl A C H A' C' H' → StOk k A' C' H' → Rep k A' C' H' v d → E.rt v H'
  | .xc e sl C' => ∀ A' σ' H' dd vs, Stp k fl A C H A' C' H' → SR k A' ⟨fl, sl⟩ C' σ' H' → H' dd = some (.xd ((k.fn e.c).zip vs)) → vs.length = (k.fn e.c).length → RepL k A' C' H' vs e.fs → W (.ref (k.cl e.c)) (some dd) σ' H'
  | .stuck => False
def LS (k : Cn) (W : WX) (m : MS) : TS := fun E σ H => ∃ A F C, SR k A F C σ H ∧ AftS k W F.fl A C H (m F C) E
section
variable {k : Cn} {W : WX} {fl : Nat} {A A1 : Nat → Addr} {C C1 : Store} {H H1 : Hp} {m : RS} {E E' : Ends}
theorem AftS.shift (s : Stp k fl A C H A1 C1 H1) (h : AftS k W fl A C H m E) : AftS k W fl A1 C1 H1 m E := by
  cases m with
  | nx sl C' => exact fun A' σ' H' p r => h A' σ' H' (s.trans p) r
  | bk sl C' => exact fun A' σ' H' p r => h A' σ' H' (s.trans p) r
  | ct sl C' => exact fun A' σ' H' p r => h A' σ' H' (s.trans p) r
  | rt d C' => exact fun A' H' v p st r => h A' H' v (s.trans p) st r
  | xc e sl C' => exact fun A' σ' H' dd vs p r x l t => h A' σ' H' dd vs (s.trans p) r x l t
  | stuck => exact h
end
/-! ### simple statements -/
theorem AftS.bnd {k : Cn} {W : WX} {F : Fr} {A : Nat → Addr} {C : Store} {σ : L2.St} {H : Hp} {E : Ends} {α β : Type} {rel : (Nat → Addr) → Store → Hp → β → α → Prop} {m : R α} {f : α → Store → RS} (s : SR k A F C σ H)
    (h : AftS k W F.fl A C H (bndS F.sl m f) E) : Aft k F.fl A C H rel m (fun d C1 A1 H1 v => AftS k W F.fl A1 C1 H1 (f d C1) E) (fun c d H' => W c d σ H') := by
  cases m with
  | ok d C' => exact fun A' H' v p st r => AftS.shift p h
  | exc e C' => exact fun A' H' dd vs p st x l r => h A' σ H' dd vs p (s.step p st) x l r
  | stuck => exact h
def sNever : MS := fun _ _ => .stuck
section
variable {X : Cx} {k : Cn} {W : WX} {E : Ends} {σ : L2.St} {H : Hp}
theorem ls_next (h : LS k W sNext E σ H) : tNext E σ H := by
  obtain ⟨A, F, C, s, h⟩ := h
  exact h A σ H Stp.refl s
theorem ls_seq {a b : MS} (h : LS k W (sSeq a b) E σ H) : tSeq (LS k W a) (LS k W b) E σ H := by
  obtain ⟨A, F, C, s, h⟩ := h
  refine ⟨A, F, C, s, ?_⟩
  unfold sSeq at h
  cases e : a F C with
  | nx sl C' =>
    rw [e] at h
    exact fun A' σ' H' p r => ⟨A', ⟨F.fl, sl⟩, C', r, AftS.shift p h⟩
  | bk sl C' => rw [e] at h; exact h
  | ct sl C' => rw [e] at h; exact h
  | rt d C' => rw [e] at h; exact h
  | xc x sl C' => rw [e] at h; exact h
  | stuck => rw [e] at h; exact h
theorem ls_drop {m : ME} (h : LS k W (sDrop m) E σ H) : tDrop (LE k W m) E σ H := by
  obtain ⟨A, F, C, s, h⟩ := h
  exact ⟨A, F, C, s, (AftS.bnd (rel := RepD k) s h).mono fun d C1 A1 H1 v p st r h1 => h1 A1 σ H1 Stp.refl (s.step p st)⟩
theorem ls_ret {m : ME} (h : LS k W (sRet m) E σ H) : tRet (LE k W m) E σ H := by
  obtain ⟨A, F, C, s, h⟩ := h
  exact ⟨A, F, C, s, (AftS.bnd (rel := RepD k) s h).mono fun d C1 A1 H1 v p st r h1 => h1 A1 H1 v Stp.refl st r⟩
theorem ls_if {t : MT} {a b : MS} (h : LS k W (sIf t a b) E σ H) : tIfS (LT k W t) (LS k W a) (LS k W b) E σ H := by
  obtain ⟨A, F, C, s, h⟩ := h
  refine ⟨A, F, C, s, (AftS.bnd (rel := RepB) s h).mono fun dx C1 A1 H1 x p st rx h1 => ?_⟩
  have rx : x = dx := rx
  subst rx
  cases x with
  | true => exact iteT ⟨A1, F, C1, s.step p st, h1⟩
  | false => exact iteF ⟨A1, F, C1, s.step p st, h1⟩
theorem dss_nil : PSs X [] (LS k W sNext) := pss_nil.cq fun _ _ _ h => ls_next h
theorem dss_cons {st : Stmt} {rest : List Stmt} {a b : MS} (h1 : PS X st (LS k W a)) (h2 : PSs X rest (LS k W b)) : PSs X (st :: rest) (LS k W (sSeq a b)) := (pss_cons h1 h2).cq fun _ _ _ h => ls_seq h
theorem dss_one {st : Stmt} {a : MS} (h1 : PS X st (LS k W a)) : PSs X [st] (LS k W a) := pss_one h1
theorem ds_expr {e : Expr} {pos : Pos} {m : ME} (he : PE X e (LE k W m)) (hs : swapsWith e none pos.line X.env = pure false := by rfl) : PS X (.Expr e pos) (LS k W (sDrop m)) := (ps_expr he hs).cq fun _ _ _ h => ls_drop h
theorem ds_ret {e : Expr} {pos : Pos} {m : ME} (he : PE X e (LE k W m)) : PS X (.Return (some e) pos) (LS k W (sRet m)) := (ps_ret he).cq fun _ _ _ h => ls_ret h
theorem ds_if {c : Expr} {a b : List Stmt} {pos : Pos} {t : MT} {m n : MS} (hc : PT X c (LT k W t)) (ha : PSs X a (LS k W m)) (hb : PSs X b (LS k W n)) : PS X (.If c a b pos) (LS k W (sIf t m n)) := (ps_if hc ha hb).cq fun _ _ _ h => ls_if h
theorem ds_never {st : Stmt} : PS X st (LS k W sNever) := ps_never.cq fun E σ H h => by
  obtain ⟨A, F, C, s, h⟩ := h
  exact h.elim
end
/-! ### targets -/
def gsN : List Nat → TGs
  | [] => gNil
  | i :: is => gCons (gName i) (gsN is)
section
variable {X : Cx} {k : Cn}
theorem setAll_len : ∀ {is : List Nat} {ds : List D} {sl sl' : List (Option D)}, setAll is ds sl = some sl' → ds.length = is.length
  | [], [], _, _, _ => rfl
  | _ :: is, _ :: ds, _, _, h => by
    have := setAll_len (is := is) (ds := ds) h
    simp [this]
  | [], _ :: _, _, _, h => by cases h
  | _ :: _, [], _, _, h => by cases h
theorem _root_.L2.PG.cq {X : Cx} {e : Expr} {t t' : TG} (h : PG X e t) (c : ∀ v σ H Q, t' v σ H Q → t v σ H Q) : PG X e t' := ⟨fun pins s σ H v u Q I r q => h.run pins s σ H v u Q I r (c v σ H Q q)⟩
end
end CT
set_option maxHeartbeats 4000000
/-! DL5: stores, loops over data. -/
namespace CT
open PySem L2
section
variable {X : Cx} {k : Cn} {W : WX} {E : Ends} {σ : L2.St} {H : Hp}
/-! ### assignments -/
theorem ls_set {m : ME} {i : Nat} (h : LS k W (sAsg m (gN i)) E σ H) : tAsg (LE k W m) (gName i) E σ H := by
  obtain ⟨A, F, C, s, h⟩ := h
  exact ⟨A, F, C, s, (AftS.bnd (rel := RepD k) s h).mono fun d C1 A1 H1 v p st r h1 => h1 A1 _ H1 Stp.refl ((s.step p st).set r)⟩
theorem ds_set {i : Nat} {x : Str} {e : Expr} {pos pos' : Pos} {m : ME} (hN : X.N.Nodup) (hi : X.N[i]? = some x) (hx : Loc X.env.scope x) (he : PE X e (LE k W m)) (hs : swapsWith e (some (.Name x pos')) pos.line X.env = pure false := by rfl) (hf : X.fn x = true ∨ X.env.scope.names.lookup x = some .local := by first | exact .inl rfl | exact .inr rfl | assumption) :
    PS X (.Assign [.Name x pos'] e pos) (LS k W (sAsg m (gN i))) := (ps_set hN hi hx he hs hf).cq fun _ _ _ h => ls_set h
theorem ls_par {i j : Nat} {m : MA} (h : LS k W (sPar [i, j] m) E σ H) : tPar i j (LA k W m) E σ H := by
  obtain ⟨A, F, C, s, h⟩ := h
  refine ⟨A, F, C, s, (AftS.bnd (rel := RepDs k) s h).mono fun d C1 A1 H1 vs p st r h1 => ?_⟩
  cases r with
  | nil => exact h1.elim
  | cons r1 t1 =>
    cases t1 with
    | nil => exact h1.elim
    | cons r2 t2 =>
      cases t2 with
      | nil => exact ⟨_, _, rfl, h1 A1 _ H1 Stp.refl (((s.step p st).set r1).set r2)⟩
      | cons r3 t3 => exact h1.elim
theorem ds_par {i j : Nat} {x y : Str} {a b : Expr} {px py pt pos : Pos} {kt k2 pt2} {m : MA} (hc : X.calm = true) (hN : X.N.Nodup) (hi : X.N[i]? = some x) (hj : X.N[j]? = some y) (hij : i ≠ j)
    (hx : X.env.scope.names.lookup x = some .local) (hy : X.env.scope.names.lookup y = some .local) (ha : PA X [a, b] (LA k W m))
    (hw : swappedStores [.Tuple [.Name x px, .Name y py] kt pt] (.Tuple [a, b] k2 pt2) X.env = pure (some [x, y]) := by rfl)
    (hs : swapsWithSole [.Tuple [.Name x px, .Name y py] kt pt] (.Tuple [a, b] k2 pt2) pos.line X.env = pure false := by rfl) :
    PS X (.Assign [.Tuple [.Name x px, .Name y py] kt pt] (.Tuple [a, b] k2 pt2) pos) (LS k W (sPar [i, j] m)) := (ps_par hc hN hi hj hij hx hy ha hw hs).cq fun _ _ _ h => ls_par h
/-- x += e of ints -/
def sAug (i : Nat) (o : Int → Int → Int) (m : ME) : MS := fun F C => match F.sl[i]? with
  | some (some (.int a)) => bndS F.sl (m F C) fun d C1 => match d with
    | .int b => .nx (F.sl.set i (some (.int (o a b)))) C1
    | _ => .stuck
  | _ => .stuck
theorem ls_aug {i : Nat} {o : Int → Int → Int} {m : ME} (h : LS k W (sAug i o m) E σ H) : tAug i (LE k W m) (ipI o) E σ H := by
  obtain ⟨A, F, C, s, h⟩ := h
  unfold sAug at h
  split at h
  · rename_i a e
    obtain ⟨v, h1, h2⟩ := s.sl i _ e
    cases h2
    refine ⟨_, h1, A, F, C, s, (AftS.bnd (rel := RepD k) s h).mono fun d C1 A1 H1 v p st r h3 => ?_⟩
    cases r with
    | int b => exact ⟨a, b, rfl, rfl, h3 A1 _ H1 Stp.refl ((s.step p st).set (.int _))⟩
    | _ => exact h3.elim
  · exact h.elim
theorem ds_aug {i : Nat} {x : Str} {e : Expr} {op : Operator} {o : Int → Int → Int} {pos pos' : Pos} {m : ME} (hN : X.N.Nodup) (hi : X.N[i]? = some x) (hx : Loc X.env.scope x) (he : PE X e (LE k W m)) (ho : PIp X op (ipI o)) (hf : X.fn x = true ∨ X.env.scope.names.lookup x = some .local := by first | exact .inl rfl | exact .inr rfl | assumption) :
    PS X (.AugAssign (.Name x pos') op e pos) (LS k W (sAug i o m)) := (ps_aug hN hi hx he ho hf).cq fun _ _ _ h => ls_aug h
end
/-! ### cells written -/
theorem wr_some {fl i : Nat} {c : Cell} {C C' : Store} (h : wr fl i c C = some C') : C' = C.set i (some c) ∧ (i < fl → cbC 0 c = true) := by
  unfold wr at h
  split at h
  · cases h
  · rename_i hn
    cases h
    refine ⟨rfl, fun hi => ?_⟩
    cases e : cbC 0 c with
    | true => rfl
    | false => exact absurd ⟨hi, e⟩ hn
section
variable {k : Cn} {A : Nat → Addr} {C C' : Store} {H : Hp} {fl i : Nat}
theorem write_L {c0 : Cell} {ds : List D} {vs : List V} (st : StOk k A C H) (hi : C[i]? = some (some c0)) (r : RepL k A C H vs ds) (h : wr fl i (.lst ds) C = some C') :
    Stp k fl A C H A C' (upd H (A i) (.lst vs)) ∧ StOk k A C' (upd H (A i) (.lst vs)) := by
  obtain ⟨rfl, hc⟩ := wr_some h
  have q : Kp A C H A (C.set i (some (.lst ds))) (upd H (A i) (.lst vs)) := kp_write hi
  exact ⟨q.stp fun f h1 h2 l => low_set hc h1 l, st.write hi ⟨vs, upd_same, r.kp q⟩⟩
theorem write_D {c0 : Cell} {ks : List (List Key)} {ds : List D} {kvs : List (List Key × V)} (st : StOk k A C H) (hi : C[i]? = some (some c0)) (hk : kvs.map (·.1) = ks) (r : RepL k A C H (kvs.map (·.2)) ds) (h : wr fl i (.dT ks ds) C = some C') :
    Stp k fl A C H A C' (upd H (A i) (.dT kvs)) ∧ StOk k A C' (upd H (A i) (.dT kvs)) := by
  obtain ⟨rfl, hc⟩ := wr_some h
  have q : Kp A C H A (C.set i (some (.dT ks ds))) (upd H (A i) (.dT kvs)) := kp_write hi
  exact ⟨q.stp fun f h1 h2 l => low_set hc h1 l, st.write hi ⟨kvs, upd_same, hk, r.kp q⟩⟩
end
section
variable {k : Cn} {A : Nat → Addr} {C : Store} {H : Hp} {v : V} {d : D} {i : Nat}
theorem cL_at {ds : List D} (st : StOk k A C H) (r : Rep k A C H v d) (e : cL d C = some (i, ds)) : d = .cell i ∧ v = .ref (A i) ∧ C[i]? = some (some (.lst ds)) ∧ ∃ vs, H (A i) = some (.lst vs) ∧ RepL k A C H vs ds := by
  cases r with
  | cell hi =>
    simp only [cL] at e
    split at e
    · rename_i xs ec
      cases e
      exact ⟨rfl, rfl, ec, st.at_ i _ ec⟩
    · cases e
  | _ => cases e
theorem cD_at {ks : List (List Key)} {ds : List D} (st : StOk k A C H) (r : Rep k A C H v d) (e : cD d C = some (i, ks, ds)) : d = .cell i ∧ v = .ref (A i) ∧ C[i]? = some (some (.dT ks ds)) ∧ ∃ kvs : List (List Key × V), H (A i) = some (.dT kvs) ∧ kvs.map (·.1) = ks ∧ RepL k A C H (kvs.map (·.2)) ds := by
  cases r with
  | cell hi =>
    simp only [cD] at e
    split at e
    · rename_i xs ec
      cases e
      exact ⟨rfl, rfl, ec, st.at_ i _ ec⟩
    · cases e
  | _ => cases e
end
section
variable {X : Cx} {k : Cn} {W : WX} {E : Ends} {σ : L2.St} {H : Hp}
theorem ls_setL {me mo mi : ME} (h : LS k W (sSetL me mo mi) E σ H) : tAsg (LE k W me) (gSub (LE k W mo) (LE k W mi) rSetL) E σ H := by
  obtain ⟨A, F, C, s, h⟩ := h
  refine ⟨A, F, C, s, (AftS.bnd (rel := RepD k) s h).mono fun dv C1 A1 H1 v p1 st1 rv h1 => ?_⟩
  have s1 := s.step p1 st1
  refine ⟨A1, F, C1, s1, (AftS.bnd (rel := RepD k) s1 h1).mono fun dO C2 A2 H2 o p2 st2 ro h2 => ?_⟩
  have s2 := s1.step p2 st2
  refine ⟨A2, F, C2, s2, (AftS.bnd (rel := RepD k) s2 h2).mono fun dx C3 A3 H3 x p3 st3 rx h3 => ?_⟩
  have s3 := s2.step p3 st3
  cases rx with
  | int n =>
    cases ec : cL dO C3 with
    | none => simp only [ec] at h3; exact h3.elim
    | some q =>
      obtain ⟨i, ds⟩ := q
      simp only [ec] at h3
      obtain ⟨rfl, rfl, hi, vs, hv, rvs⟩ := cL_at st3 (p3.rep _ _ ro) ec
      cases ej : ixN ds.length n with
      | none => simp only [ej] at h3; exact h3.elim
      | some j =>
        simp only [ej] at h3
        cases ew : wr F.fl i (.lst (ds.set j dv)) C3 with
        | none => simp only [ew] at h3; exact h3.elim
        | some C4 =>
          simp only [ew] at h3
          obtain ⟨q1, q2⟩ := write_L st3 hi (rvs.set (p3.rep _ _ (p2.rep _ _ rv)) j) ew
          exact ⟨A3 i, vs, n, j, rfl, rfl, hv, by rw [rvs.length]; exact ej, h3 A3 σ _ q1 (s3.step q1 q2)⟩
  | _ => exact h3.elim
theorem ls_put {me mo mi : ME} (h : LS k W (sPut me mo mi) E σ H) : sDPut (LE k W mo) (LE k W mi) (LE k W me) E σ H := by
  obtain ⟨A, F, C, s, h⟩ := h
  refine ⟨A, F, C, s, (AftS.bnd (rel := RepD k) s h).mono fun dv C1 A1 H1 v p1 st1 rv h1 => ?_⟩
  have s1 := s.step p1 st1
  refine ⟨A1, F, C1, s1, (AftS.bnd (rel := RepD k) s1 h1).mono fun dO C2 A2 H2 o p2 st2 ro h2 => ?_⟩
  have s2 := s1.step p2 st2
  refine ⟨A2, F, C2, s2, (AftS.bnd (rel := RepD k) s2 h2).mono fun dx C3 A3 H3 x p3 st3 rx h3 => ?_⟩
  have s3 := s2.step p3 st3
  cases dx with
  | tup ds =>
    cases ec : cD dO C3 with
    | none => simp only [ec] at h3; exact h3.elim
    | some q =>
      obtain ⟨i, ks, vs⟩ := q
      simp only [ec] at h3
      obtain ⟨rfl, rfl, hi, kvs, hv, hk, rvs⟩ := cD_at st3 (p3.rep _ _ ro) ec
      cases ej : keyL ds with
      | none => simp only [ej] at h3; exact h3.elim
      | some key =>
        simp only [ej] at h3
        split at h3
        · rename_i hz
          cases ew : wr F.fl i (.dT (putT ks vs key dv).1 (putT ks vs key dv).2) C3 with
          | none => simp only [ew] at h3; exact h3.elim
          | some C4 =>
            simp only [ew] at h3
            obtain ⟨b, rfl, hb⟩ := key_at rx ej
            subst hk
            have hz' : kvs.length < sizeLine := by
              have := szN_le hz
              rw [List.length_map] at this
              omega
            obtain ⟨k1, k2⟩ := putK_rep key (p3.rep _ _ (p2.rep _ _ rv)) rvs
            obtain ⟨q1, q2⟩ := write_D st3 hi k1 k2 ew
            exact ⟨A3 i, _, rfl, DPut.t hv hb hz', h3 A3 σ _ q1 (s3.step q1 q2)⟩
        · exact h3.elim
  | _ => exact h3.elim
theorem ds_setL {o i e : Expr} {pos pos' : Pos} {me mo mi : ME} (he : PE X e (LE k W me)) (hg : PG X (.Subscript o i pos') (gSub (LE k W mo) (LE k W mi) rSetL))
    (hs : swapsWithSole [.Subscript o i pos'] e pos.line X.env = pure false := by rfl) (hw : swappedStores [.Subscript o i pos'] e X.env = pure none := by rfl) (h1 : (assignEach [.Subscript o i pos'] X.env).map (·.2) = [assign (.Subscript o i pos') X.env] := by rfl) :
    PS X (.Assign [.Subscript o i pos'] e pos) (LS k W (sSetL me mo mi)) := (ps_asg he hg hs hw h1).cq fun _ _ _ h => ls_setL h
theorem ds_put {o i e : Expr} {pos pos' : Pos} {me mo mi : ME} (hu : X.A.units + 1 < cLine) (he : PE X e (LE k W me)) (ho : PE X o (LE k W mo)) (hi : PE X i (LE k W mi)) (hs : swapsWith e (some (.Subscript o i pos')) pos.line X.env = pure false := by rfl) :
    PS X (.Assign [.Subscript o i pos'] e pos) (LS k W (sPut me mo mi)) := (ps_dput hu ho hi he hs).cq fun _ _ _ h => ls_put h
end
/-! ### list methods that write -/
def mAppend (mo me : ME) : ME := fun F C => bnd (mo F C) fun o C1 => if (vL o C1).isSome = true then bnd (me F C1) fun v C2 => match cL o C2 with
    | some (i, ds) => if szN (ds.length + 1) = true then match wr F.fl i (.lst (ds ++ [v])) C2 with
      | some C3 => .ok .non C3
      | none => .stuck
      else .stuck
    | none => .stuck
  else .stuck
def mInsert (mo mi me : ME) : ME := fun F C => bnd (mo F C) fun o C1 => if (vL o C1).isSome = true then bnd (mi F C1) fun x C2 => bnd (me F C2) fun v C3 => match x, cL o C3 with
    | .int n, some (i, ds) => if szN (ds.length + 1) = true ∧ 0 ≤ n ∧ n < 2 ^ 63 then match wr F.fl i (.lst (ds.take n.toNat ++ [v] ++ ds.drop n.toNat)) C3 with
      | some C4 => .ok .non C4
      | none => .stuck
      else .stuck
    | _, _ => .stuck
  else .stuck
def mExtend (mo me : ME) : ME := fun F C => bnd (mo F C) fun o C1 => if (vL o C1).isSome = true then bnd (me F C1) fun v C2 => match cL o C2, vL v C2 with
    | some (i, ds), some es => if szN (ds.length + es.length) = true then match wr F.fl i (.lst (ds ++ es)) C2 with
      | some C3 => .ok .non C3
      | none => .stuck
      else .stuck
    | _, _ => .stuck
  else .stuck
section
variable {X : Cx} {k : Cn} {W : WX} {σ : L2.St} {H : Hp} {Q : VK}
theorem tyL {A : Nat → Addr} {C : Store} {v : V} {d : D} (st : StOk k A C H) (r : Rep k A C H v d) (h : (vL d C).isSome = true) : tyV k.K "list" v H := by
  obtain ⟨xs, e⟩ := Option.isSome_iff_exists.mp h
  obtain ⟨a, vs, rfl, ha, _⟩ := vL_at st r e
  exact Or.inl ⟨rfl, vs, .inl (.inl ha)⟩
theorem le_append {mo me : ME} (h : LE k W (mAppend mo me) σ H Q) : tBM k.K "list" rAppend (LE k W mo) (tCons (LE k W me) tNil) σ H Q := by
  obtain ⟨A, F, C, s, h⟩ := h
  refine ⟨A, F, C, s, (Aft.bnd (rel := RepD k) h).mono fun dO C1 A1 H1 o p1 st1 ro h1 => ?_⟩
  have s1 := s.step p1 st1
  split at h1
  · rename_i hs
    refine ⟨tyL st1 ro hs, A1, F, C1, s1, (Aft.bnd (rel := RepD k) h1).mono fun dv C2 A2 H2 v p2 st2 rv h2 => ?_⟩
    cases ec : cL dO C2 with
    | none => simp only [ec] at h2; exact h2.elim
    | some q =>
      obtain ⟨i, ds⟩ := q
      simp only [ec] at h2
      obtain ⟨rfl, rfl, hi, vs, hv, rvs⟩ := cL_at st2 (p2.rep _ _ ro) ec
      split at h2
      · rename_i hz
        cases ew : wr F.fl i (.lst (ds ++ [dv])) C2 with
        | none => simp only [ew] at h2; exact h2.elim
        | some C3 =>
          simp only [ew] at h2
          obtain ⟨q1, q2⟩ := write_L st2 hi (rvs.append (.cons rv .nil)) ew
          exact ⟨A2 i, vs, v, rfl, rfl, hv, by have := szN_le hz; rw [rvs.length]; omega, h2 A2 _ .non q1 q2 .non⟩
      · exact h2.elim
  · exact h1.elim
theorem le_insert {mo mi me : ME} (h : LE k W (mInsert mo mi me) σ H Q) : tBM k.K "list" (fun x vs H Q => ∃ (l : Addr) (xs : List V) (i : Int) (y : V), x = .ref l ∧ vs = [.int i, y] ∧ H l = some (.lst xs) ∧ xs.length < sizeLine ∧ 0 ≤ i ∧ i < 2 ^ 63 ∧
    Q .non (upd H l (.lst (xs.take i.toNat ++ [y] ++ xs.drop i.toNat)))) (LE k W mo) (tCons (LE k W mi) (tCons (LE k W me) tNil)) σ H Q := by
  obtain ⟨A, F, C, s, h⟩ := h
  refine ⟨A, F, C, s, (Aft.bnd (rel := RepD k) h).mono fun dO C1 A1 H1 o p1 st1 ro h1 => ?_⟩
  have s1 := s.step p1 st1
  split at h1
  · rename_i hs
    refine ⟨tyL st1 ro hs, A1, F, C1, s1, (Aft.bnd (rel := RepD k) h1).mono fun dx C2 A2 H2 x p2 st2 rx h2 => ?_⟩
    have s2 := s1.step p2 st2
    refine ⟨A2, F, C2, s2, (Aft.bnd (rel := RepD k) h2).mono fun dv C3 A3 H3 v p3 st3 rv h3 => ?_⟩
    cases rx with
    | int n =>
      cases ec : cL dO C3 with
      | none => simp only [ec] at h3; exact h3.elim
      | some q =>
        obtain ⟨i, ds⟩ := q
        simp only [ec] at h3
        obtain ⟨rfl, rfl, hi, vs, hv, rvs⟩ := cL_at st3 (p3.rep _ _ (p2.rep _ _ ro)) ec
        split at h3
        · rename_i hz
          obtain ⟨hz, hn0, hn1⟩ := hz
          cases ew : wr F.fl i (.lst (ds.take n.toNat ++ [dv] ++ ds.drop n.toNat)) C3 with
          | none => simp only [ew] at h3; exact h3.elim
          | some C4 =>
            simp only [ew] at h3
            obtain ⟨q1, q2⟩ := write_L st3 hi (((rvs.take n.toNat).append (.cons rv .nil)).append (rvs.drop n.toNat)) ew
            exact ⟨A3 i, vs, n, v, rfl, rfl, hv, by have := szN_le hz; rw [rvs.length]; omega, hn0, hn1, h3 A3 _ .non q1 q2 .non⟩
        · exact h3.elim
    | _ => exact h3.elim
  · exact h1.elim
theorem le_extend {mo me : ME} (h : LE k W (mExtend mo me) σ H Q) : tBM k.K "list" rExtend (LE k W mo) (tCons (LE k W me) tNil) σ H Q := by
  obtain ⟨A, F, C, s, h⟩ := h
  refine ⟨A, F, C, s, (Aft.bnd (rel := RepD k) h).mono fun dO C1 A1 H1 o p1 st1 ro h1 => ?_⟩
  have s1 := s.step p1 st1
  split at h1
  · rename_i hs
    refine ⟨tyL st1 ro hs, A1, F, C1, s1, (Aft.bnd (rel := RepD k) h1).mono fun dv C2 A2 H2 v p2 st2 rv h2 => ?_⟩
    cases ec : cL dO C2 with
    | none => simp only [ec] at h2; exact h2.elim
    | some q =>
      obtain ⟨i, ds⟩ := q
      cases el : vL dv C2 with
      | none => simp only [ec, el] at h2; exact h2.elim
      | some es =>
        simp only [ec, el] at h2
        obtain ⟨rfl, rfl, hi, vs, hv, rvs⟩ := cL_at st2 (p2.rep _ _ ro) ec
        obtain ⟨b, ws, rfl, hb, rws⟩ := vL_at st2 rv el
        split at h2
        · rename_i hz
          cases ew : wr F.fl i (.lst (ds ++ es)) C2 with
          | none => simp only [ew] at h2; exact h2.elim
          | some C3 =>
            simp only [ew] at h2
            obtain ⟨q1, q2⟩ := write_L st2 hi (rvs.append rws) ew
            exact ⟨A2 i, b, vs, ws, rfl, rfl, hv, hb, by have := szN_le hz; rw [rvs.length, rws.length]; omega, h2 A2 _ .non q1 q2 .non⟩
        · exact h2.elim
  · exact h1.elim
variable {o e e2 : Expr} {apos cpos : Pos} {mo me mi : ME}
theorem de_append (hK : X.K = k.K := by rfl) (ho : PE X o (LE k W mo)) (he : PE X e (LE k W me)) (hs : starEach [e] X.env = (false, eval e X.env) :: starEach [] X.env := by rfl) (hbase : attributeBase o "append" X.env (eval o X.env) = eval o X.env := by rfl)
    (hfew : ((backTo cpos (starEach [e] X.env)).all (fun x => !x.1) && (backToKw cpos (keywordEach [] X.env)).all (fun x => x.1.isSome) && decide ([e].length + ([] : List Keyword).length + (if ([] : List Keyword).isEmpty then 0 else 1) < 30)) = true := by rfl)
    (hline : (apos.endLine == cpos.line) = true := by rfl) (hplain : (backTo cpos (starEach [] X.env)).any (·.1) = false := by rfl) : PE X (.Call (.Attribute o "append" apos) [e] [] cpos) (LE k W (mAppend mo me)) :=
  (pe_bm PySem.F.plainAttrs_list PySem.F.slot_list_append PySem.F.type_list_append mt_append ho (pa_cons he pa_nil hs) hbase hfew hline hs hplain).cq fun _ _ _ h => by
    rw [hK]
    exact le_append h
theorem de_extend (hK : X.K = k.K := by rfl) (ho : PE X o (LE k W mo)) (he : PE X e (LE k W me)) (hs : starEach [e] X.env = (false, eval e X.env) :: starEach [] X.env := by rfl) (hbase : attributeBase o "extend" X.env (eval o X.env) = eval o X.env := by rfl)
    (hfew : ((backTo cpos (starEach [e] X.env)).all (fun x => !x.1) && (backToKw cpos (keywordEach [] X.env)).all (fun x => x.1.isSome) && decide ([e].length + ([] : List Keyword).length + (if ([] : List Keyword).isEmpty then 0 else 1) < 30)) = true := by rfl)
    (hline : (apos.endLine == cpos.line) = true := by rfl) (hplain : (backTo cpos (starEach [] X.env)).any (·.1) = false := by rfl) : PE X (.Call (.Attribute o "extend" apos) [e] [] cpos) (LE k W (mExtend mo me)) :=
  (pe_bm PySem.F.plainAttrs_list PySem.F.slot_list_extend PySem.F.type_list_extend mt_extend ho (pa_cons he pa_nil hs) hbase hfew hline hs hplain).cq fun _ _ _ h => by
    rw [hK]
    exact le_extend h
theorem de_insert (hK : X.K = k.K := by rfl) (ho : PE X o (LE k W mo)) (hi : PE X e (LE k W mi)) (he : PE X e2 (LE k W me)) (hs : starEach [e, e2] X.env = (false, eval e X.env) :: starEach [e2] X.env := by rfl) (hs2 : starEach [e2] X.env = (false, eval e2 X.env) :: starEach [] X.env := by rfl) (hbase : attributeBase o "insert" X.env (eval o X.env) = eval o X.env := by rfl)
    (hfew : ((backTo cpos (starEach [e, e2] X.env)).all (fun x => !x.1) && (backToKw cpos (keywordEach [] X.env)).all (fun x => x.1.isSome) && decide ([e, e2].length + ([] : List Keyword).length + (if ([] : List Keyword).isEmpty then 0 else 1) < 30)) = true := by rfl)
    (hline : (apos.endLine == cpos.line) = true := by rfl) (hplain : (backTo cpos (starEach [e2] X.env)).any (·.1) = false := by rfl) : PE X (.Call (.Attribute o "insert" apos) [e, e2] [] cpos) (LE k W (mInsert mo mi me)) :=
  (pe_bm PySem.F.plainAttrs_list PySem.F.slot_list_insert PySem.F.type_list_insert mt_insert ho (pa_cons hi (pa_cons he pa_nil hs2) hs) hbase hfew hline hs hplain).cq fun _ _ _ h => by
    rw [hK]
    exact le_insert h
end
end CT
set_option maxHeartbeats 4000000
/-! DL6: targets, loops, comprehensions over data. -/
namespace CT
open PySem L2
/-! ### targets of names -/
def Tgt.T (K : PySem.W.Frag) : Tgt → TG
  | .nm i => gName i
  | .tp is => gTup K is.length (gsN is)
theorem wipe_get {σ : L2.St} {j : Nat} : ∀ {vs : List Nat}, (wipe σ vs)[j]? = if j ∈ vs then (if j < σ.length then some none else none) else σ[j]?
  | [] => by simp [wipe]
  | v :: vs => by
    unfold wipe
    have ih := wipe_get (σ := σ) (j := j) (vs := vs)
    by_cases e : v = j
    · subst e
      by_cases hl : v < σ.length
      · rw [List.getElem?_set_self (by rw [wipe_length]; exact hl), if_pos (by simp), if_pos hl]
      · rw [List.getElem?_eq_none (by rw [List.length_set, wipe_length]; omega), if_pos (by simp), if_neg hl]
    · rw [List.getElem?_set_ne e, ih]
      by_cases hj : j ∈ vs
      · rw [if_pos hj, if_pos (List.mem_cons_of_mem _ hj)]
      · rw [if_neg hj, if_neg (by simp; exact ⟨fun z => e z.symm, hj⟩)]
theorem wipe_set {σ : L2.St} {i : Nat} {x : Option V} {vs : List Nat} (h : i ∈ vs) : wipe (σ.set i x) vs = wipe σ vs := by
  apply List.ext_getElem?
  intro j
  rw [wipe_get, wipe_get, List.length_set]
  by_cases hj : j ∈ vs
  · rw [if_pos hj, if_pos hj]
  · rw [if_neg hj, if_neg hj, List.getElem?_set_ne (fun (e : i = j) => hj (by rw [← e]; exact h))]
theorem wipe_wipe {σ : L2.St} {vs : List Nat} : wipe (wipe σ vs) vs = wipe σ vs := by
  apply List.ext_getElem?
  intro j
  rw [wipe_get, wipe_length]
  by_cases hj : j ∈ vs
  · rw [if_pos hj, wipe_get, if_pos hj]
  · rw [if_neg hj]
section
variable {k : Cn} {A : Nat → Addr} {F : Fr} {C : Store} {σ : L2.St} {H : Hp} {fl : Nat} {sl : List (Option D)}
theorem SR.wipe (s : SR k A ⟨fl, sl⟩ C σ H) : ∀ vs : List Nat, SR k A ⟨fl, wipeD sl vs⟩ C (L2.wipe σ vs) H
  | [] => s
  | v :: vs => (SR.wipe s vs).unset
theorem gsN_of2 {Q : L2.St → Hp → Prop} {vs0 : List Nat} : ∀ {is : List Nat} {vs : List V} {ds : List D} {sl sl' : List (Option D)} {σ : L2.St}, SR k A ⟨fl, sl⟩ C σ H → RepL k A C H vs ds → setAll is ds sl = some sl' →
    (∀ σ', SR k A ⟨fl, sl'⟩ C σ' H → ((∀ i ∈ is, i ∈ vs0) → L2.wipe σ' vs0 = L2.wipe σ vs0) → Q σ' H) → gsN is vs σ H Q
  | [], _, _, _, _, _, s, .nil, e, q => by
    cases e
    exact ⟨rfl, q _ s fun _ => rfl⟩
  | i :: is, _, _, _, _, _, s, .cons r t, e, q => by
    refine ⟨_, _, rfl, gsN_of2 (vs0 := vs0) (is := is) (s.set (i := i) r) t e fun σ' s' w => q σ' s' fun hi => ?_⟩
    rw [w fun j hj => hi j (List.mem_cons_of_mem _ hj)]
    exact wipe_set (hi i (List.mem_cons_self ..))
  | [], _, _, _, _, _, s, .cons r t, e, q => by cases e
  | i :: is, _, _, _, _, _, s, .nil, e, q => by cases e
theorem Tgt.of {t : Tgt} {v : V} {d : D} {sl' : List (Option D)} {Q : L2.St → Hp → Prop} {vs0 : List Nat} (s : SR k A ⟨fl, sl⟩ C σ H) (r : Rep k A C H v d) (e : t.M d sl = some sl')
    (q : ∀ σ', SR k A ⟨fl, sl'⟩ C σ' H → ((∀ i ∈ t.slots, i ∈ vs0) → L2.wipe σ' vs0 = L2.wipe σ vs0) → Q σ' H) : t.T k.K v σ H Q := by
  cases t with
  | nm i =>
    cases e
    exact q _ (s.set r) fun hi => wipe_set (hi i (by simp [Tgt.slots]))
  | tp is =>
    simp only [Tgt.M, gT] at e
    cases ev : vT d with
    | none => rw [ev] at e; cases e
    | some ds =>
      rw [ev] at e
      obtain ⟨a, vs, rfl, hs, rl⟩ := vT_at r ev
      exact ⟨a, vs, rfl, hs, by rw [rl.length, setAll_len e], gsN_of2 (vs0 := vs0) s rl e q⟩
end
section
variable {X : Cx} {k : Cn} {W : WX} {E : Ends} {σ : L2.St} {H : Hp}
theorem tg_nm {i : Nat} {x : Str} {pos : Pos} (hN : X.N.Nodup) (hi : X.N[i]? = some x) (hx : Loc X.env.scope x) (hf : X.fn x = true ∨ X.env.scope.names.lookup x = some .local := by first | exact .inl rfl | exact .inr rfl | assumption) : PG X (.Name x pos) (Tgt.T k.K (.nm i)) := pg_name hN hi hx hf
theorem tg_tp {es : List Expr} {kk : Nat} {pos : Pos} (is : List Nat) (hK : X.K = k.K) (hc : X.calm = true) (h : PGs X es (gsN is)) (hn : (assignEach es X.env).length = is.length := by rfl) (hst : (assignEach es X.env).findIdx? (·.1) = none := by rfl) :
    PG X (.Tuple es kk pos) (Tgt.T k.K (.tp is)) := by
  have h' := pg_tup (k := kk) (pos := pos) hc h hn hst
  rw [hK] at h'
  exact h'
theorem ls_asg2 {m : ME} {t : Tgt} (h : LS k W (sAsg m t.M) E σ H) : tAsg (LE k W m) (t.T k.K) E σ H := by
  obtain ⟨A, F, C, s, h⟩ := h
  refine ⟨A, F, C, s, (AftS.bnd (rel := RepD k) s h).mono fun d C1 A1 H1 v p st r h1 => ?_⟩
  cases e : t.M d F.sl with
  | none => rw [e] at h1; exact h1.elim
  | some sl =>
    rw [e] at h1
    exact Tgt.of (vs0 := []) (s.step p st) r e fun σ' s' _ => h1 A1 σ' H1 Stp.refl s'
theorem ds_asgT {tg e : Expr} {pos : Pos} {m : ME} {t : Tgt} (he : PE X e (LE k W m)) (hg : PG X tg (t.T k.K)) (hs : swapsWithSole [tg] e pos.line X.env = pure false := by rfl) (hw : swappedStores [tg] e X.env = pure none := by rfl)
    (h1 : (assignEach [tg] X.env).map (·.2) = [assign tg X.env] := by rfl) : PS X (.Assign [tg] e pos) (LS k W (sAsg m t.M)) := (ps_asg he hg hs hw h1).cq fun _ _ _ h => ls_asg2 h
end
/-! ### what is walked -/
def ItOk (k : Cn) (fl : Nat) (J : It) (it : ItD) (A : Nat → Addr) (C : Store) (H : Hp) : Prop := ∀ A' C' H', Stp k fl A C H A' C' H' → StOk k A' C' H' →
  (∀ j d, j < it.n → it.item j C' = some d → J.go j H' ∧ ∀ x H'', J.yld j H' x H'' → ∃ A'', Stp k fl A' C' H' A'' C' H'' ∧ StOk k A'' C' H'' ∧ Rep k A'' C' H'' x d) ∧ (it.fin C' = true → J.stop it.n H')
def LI (k : Cn) (W : WX) (m : MI) : TI := fun σ H Rr => ∃ A F C, SR k A F C σ H ∧ Aft k F.fl A C H (fun A C H (J : It) (it : ItD) => ItOk k F.fl J it A C H) (m F C) (fun _ _ _ H' J => Rr J H') (fun c d H' => W c d σ H')
/-! ### for -/
section
variable {X : Cx} {k : Cn} {W : WX} {E : Ends} {σ : L2.St} {H : Hp}
theorem ls_for {mi : MI} {t : Tgt} {body : MS} (h : LS k W (sFor mi t.M body) E σ H) : tFor (LI k W mi) (t.T k.K) (LS k W body) E σ H := by
  obtain ⟨A, F, C, s, h⟩ := h
  refine ⟨A, F, C, s, (AftS.bnd (rel := fun A C H (J : It) (it : ItD) => ItOk k F.fl J it A C H) s h).mono fun it C1 A1 H1 J p1 st1 ok h1 => ?_⟩
  refine ⟨fun i m σ' H' => ∃ A' C' sl, m = it.n - i ∧ i ≤ it.n ∧ Stp k F.fl A1 C1 H1 A' C' H' ∧ SR k A' ⟨F.fl, sl⟩ C' σ' H' ∧ AftS k W F.fl A' C' H' (loopN it t.M body F.fl (it.n - i) i sl C') E,
    ⟨it.n, A1, C1, F.sl, rfl, Nat.zero_le _, Stp.refl, s.step p1 st1, h1⟩, ?_⟩
  rintro i m σ' H' ⟨A', C', sl, rfl, hi, p, s', h'⟩
  obtain ⟨o1, o2⟩ := ok A' C' H' p s'.st
  cases er : it.n - i with
  | zero =>
    rw [er] at h'
    unfold loopN at h'
    have e : i = it.n := by omega
    split at h'
    · rename_i hf
      subst e
      exact .inl ⟨o2 hf, h' A' σ' H' Stp.refl s'⟩
    · exact h'.elim
  | succ r =>
    rw [er] at h'
    unfold loopN at h'
    have hlt : i < it.n := by omega
    cases ei : it.item i C' with
    | none => simp only [ei] at h'; exact h'.elim
    | some d =>
      simp only [ei] at h'
      obtain ⟨g1, g2⟩ := o1 i d hlt ei
      cases eg : t.M d sl with
      | none => simp only [eg] at h'; exact h'.elim
      | some sl1 =>
        simp only [eg] at h'
        refine .inr ⟨g1, fun σ2 H2 => ∃ A2 C2 sl2, i + 1 ≤ it.n ∧ Stp k F.fl A1 C1 H1 A2 C2 H2 ∧ SR k A2 ⟨F.fl, sl2⟩ C2 σ2 H2 ∧ AftS k W F.fl A2 C2 H2 (loopN it t.M body F.fl (it.n - (i + 1)) (i + 1) sl2 C2) E,
          fun σ2 H2 ⟨A2, C2, sl2, a, b, c, d⟩ => ⟨it.n - (i + 1), by omega, A2, C2, sl2, rfl, a, b, c, d⟩, fun x H'' y => ?_⟩
        obtain ⟨A'', p2, st2, rx⟩ := g2 x H'' y
        have s2 := s'.step p2 st2
        refine Tgt.of (vs0 := []) s2 rx eg fun σ2 s3 _ => ⟨A'', ⟨F.fl, sl1⟩, C', s3, ?_⟩
        have hr : it.n - (i + 1) = r := by omega
        cases eb : body ⟨F.fl, sl1⟩ C' with
        | nx sl2 C2 =>
          simp only [eb] at h'
          intro A3 σ3 H3 p3 s4
          have pp := p2.trans p3
          exact ⟨A3, C2, sl2, by omega, p.trans pp, s4, by rw [hr]; exact h'.shift pp⟩
        | ct sl2 C2 =>
          simp only [eb] at h'
          intro A3 σ3 H3 p3 s4
          have pp := p2.trans p3
          exact ⟨A3, C2, sl2, by omega, p.trans pp, s4, by rw [hr]; exact h'.shift pp⟩
        | bk sl2 C2 =>
          simp only [eb] at h'
          exact fun A3 σ3 H3 p3 s4 => h' A3 σ3 H3 (p2.trans p3) s4
        | rt d C2 =>
          simp only [eb] at h'
          exact fun A3 H3 v p3 st r => h' A3 H3 v (p2.trans p3) st r
        | xc e sl2 C2 =>
          simp only [eb] at h'
          exact fun A3 σ3 H3 dd vs p3 s4 x l r => h' A3 σ3 H3 dd vs (p2.trans p3) s4 x l r
        | stuck =>
          simp only [eb] at h'
          exact h'.elim
theorem _root_.L2.PI.cq {X : Cx} {tg e : Expr} {t t' : TI} (h : PI X tg e t) (c : ∀ σ H R, t' σ H R → t σ H R) : PI X tg e t' := ⟨fun pins s σ H R I q => h.run pins s σ H R I (c σ H R q)⟩
end
/-! ### list comprehensions -/
abbrev WF : WX := fun _ _ _ _ => False
section
variable {X : Cx} {k : Cn} {W : WX} {σ : L2.St} {H : Hp} {Q : VK}
/-- the list cell becomes plain data -/
theorem fz_end {fl n : Nat} {A A' : Nat → Addr} {C C' : Store} {H H' : Hp} {p : Addr} {acc : List D} (hn : n = C.length) (st0 : StOk k A C H) (st : StOk k A' C' H') (s : Stp k fl A C H A' C' H') (hf : fl ≤ n) (hl : n ≤ C'.length) (low : LowC n C') (ha : A' n = p) (hc : C'[n]? = some (some (.lst acc))) (hcb : cbL n acc = true) :
    Stp k fl A C H A' (C'.take n) H' ∧ StOk k A' (C'.take n) H' ∧ Rep k A' (C'.take n) H' (.ref p) (.lst acc) := by
  obtain ⟨vs, hv, rv⟩ := st.at_ n _ hc
  have tl : (C'.take n).length = n := by rw [List.length_take]; omega
  refine ⟨⟨fun v d r => (s.rep v d r).cut hl (by rw [hn]; exact r.cb), by rw [tl, hn]; exact Nat.le_refl _, fun f h1 h2 l => low_take (s.low f h1 h2 l)⟩, st.take hl low, ?_⟩
  rw [← ha]
  refine .lst (fun l => ?_) hv (rv.cut hl hcb)
  obtain ⟨i, c, e, z⟩ := l
  by_cases hi : i < n
  · rw [List.getElem?_take_of_lt hi] at e
    exact absurd (st.inj i n _ _ e hc z) (Nat.ne_of_lt hi)
  · rw [List.getElem?_eq_none (by rw [tl]; omega)] at e
    cases e
/-- the new list: at D, the cell n -/
theorem cell_at {A A' : Nat → Addr} {C C' : Store} {H H' : Hp} {fl n : Nat} {p : Addr} (s : Stp k fl A C H A' C' H') (h : A n = p) (hn : n < C.length) : A' n = p ∧ n < C'.length := by
  have r : Rep k A C H (.ref (A n)) (.cell n) := .cell hn
  have r' := s.rep _ _ r
  rw [h] at r'
  have inv : ∀ {v : V} {d : D}, Rep k A' C' H' v d → v = .ref p → d = .cell n → A' n = p ∧ n < C'.length := by
    intro v d r hv hd
    cases r with
    | cell hi => cases hd; cases hv; exact ⟨rfl, hi⟩
    | _ => cases hd
  exact inv r' rfl rfl
theorem push_L {A : Nat → Addr} {C : Store} {H : Hp} {fl n : Nat} {p : Addr} {acc : List D} {y : D} {v : V} {ws : List V} (hf : fl ≤ n) (st : StOk k A C H) (ha : A n = p) (hc : C[n]? = some (some (.lst acc))) (hw : H p = some (.lst ws)) (r : Rep k A C H v y) :
    Stp k fl A C H A (C.set n (some (.lst (acc ++ [y])))) (upd H p (.lst (ws ++ [v]))) ∧ StOk k A (C.set n (some (.lst (acc ++ [y])))) (upd H p (.lst (ws ++ [v]))) := by
  obtain ⟨vs, hv, rv⟩ := st.at_ n _ hc
  rw [ha, hw] at hv
  cases hv
  have q : Kp A C H A (C.set n (some (.lst (acc ++ [y])))) (upd H (A n) (.lst (ws ++ [v]))) := kp_write hc
  rw [← ha]
  exact ⟨q.stp fun f h1 h2 l => low_set (fl := fl) (fun hi => absurd hi (Nat.not_lt.mpr hf)) h1 l, st.write hc ⟨_, upd_same, (rv.append (.cons r .nil)).kp q⟩⟩
theorem bn0_inv {fl : Nat} {A : Nat → Addr} {C : Store} {H : Hp} {m : R Unit} {f : Unit → Store → R D} {Q : D → Store → (Nat → Addr) → Hp → V → Prop} {W' : XK} (h : Aft k fl A C H (RepD k) (CT.bn0 m f) Q W') : ∃ C3, m = .ok () C3 ∧ Aft k fl A C H (RepD k) (f () C3) Q W' := by
  cases m with
  | ok d C' => exact ⟨C', rfl, h⟩
  | exc e C' => exact h.elim
  | stuck => exact h.elim
theorem Stp.less {fl n : Nat} {A A' : Nat → Addr} {C C' : Store} {H H' : Hp} (p : Stp k n A C H A' C' H') (h : fl ≤ n) : Stp k fl A C H A' C' H' := ⟨p.rep, p.len, fun f hf => p.low f (Nat.le_trans hf h)⟩
theorem SR.re {fl n : Nat} {A A' : Nat → Addr} {F : Fr} {C C' : Store} {H H' : Hp} (s : SR k A F C σ H) (p : Stp k fl A C H A' C' H') (st : StOk k A' C' H') (low : LowC n C') (hn : n ≤ C'.length) : SR k A' ⟨n, F.sl⟩ C' σ H' :=
  ⟨st, low, hn, s.len, fun i d e => let ⟨v, h1, h2⟩ := s.sl i d e; ⟨v, h1, p.rep v d h2⟩⟩
theorem le_lcEnd {own : Bool} {fl : Nat} {A A1 A' : Nat → Addr} {C C1 C' : Store} {H H1 H' : Hp} {Dl : Addr} {W' : XK} (hf : fl ≤ C1.length) (p : Stp k fl A C H A1 C1 H1) (st1 : StOk k A1 C1 H1) (p' : Stp k fl A1 C1 H1 A' C' H') (low : LowC C1.length C') (st' : StOk k A' C' H') (ha : A' C1.length = Dl) (hl : C1.length < C'.length)
    (h : Aft k fl A C H (RepD k) (lcEnd own C1.length C') (fun _ _ _ H' v => Q v H') W') : Q (.ref Dl) H' := by
  unfold lcEnd at h
  cases own with
  | true =>
    have r : Rep k A' C' H' (.ref (A' C1.length)) (.cell C1.length) := .cell hl
    rw [ha] at r
    exact h A' H' _ (p.trans p') st' r
  | false =>
    split at h
    · rename_i z; cases z
    · split at h
      · rename_i acc hc
        split at h
        · rename_i hcb
          obtain ⟨q1, q2, q3⟩ := fz_end (k := k) (fl := fl) rfl st1 st' p' hf (Nat.le_of_lt hl) low ha hc hcb
          exact h A' H' _ (p.trans q1) q2 q3
        · exact h.elim
      · exact h.elim
theorem le_lc {own : Bool} {mi : MI} {t : Tgt} {tt : MT} {te : ME} {vs : List Nat} (hv : ∀ i ∈ t.slots, i ∈ vs) (h : LE k W (mLc own mi t.M tt te vs) σ H Q) : tLc (LI k W mi) (t.T k.K) (LT k WF tt) (LE k WF te) vs σ H Q := by
  obtain ⟨A, F, C, s, h⟩ := h
  refine ⟨A, F, C, s, (Aft.bnd (rel := fun A C H (J : It) (it : ItD) => ItOk k F.fl J it A C H) h).mono fun it C1 A1 H1 J p1 st1 ok h1 => ?_⟩
  have s1 := s.step p1 st1
  intro Dl hD
  have q0 : Kp A1 C1 H1 (ext A1 C1.length Dl) (C1 ++ [some (.lst [])]) (upd H1 Dl (.lst [])) := kp_cell (k := k) st1 hD
  have p2 : Stp k C1.length A1 C1 H1 (ext A1 C1.length Dl) (C1 ++ [some (.lst [])]) (upd H1 Dl (.lst [])) := q0.stp fun f h1 h2 l => low_app h2 l
  have p2' : Stp k F.fl A1 C1 H1 (ext A1 C1.length Dl) (C1 ++ [some (.lst [])]) (upd H1 Dl (.lst [])) := ⟨p2.rep, p2.len, fun f hf => p2.low f (Nat.le_trans hf s1.fl)⟩
  have st2 : StOk k (ext A1 C1.length Dl) (C1 ++ [some (.lst [])]) (upd H1 Dl (.lst [])) := st1.cell hD ⟨[], upd_same, .nil⟩
  have n1 : C1.length < (C1 ++ [some (Cell.lst [])]).length := by simp
  have low1 : LowC C1.length (C1 ++ [some (Cell.lst [])]) := p2.low _ (Nat.le_refl _) (Nat.le_refl _) st1.low
  obtain ⟨C3, e3, h3⟩ := bn0_inv h1
  refine ⟨fun i m H' => ∃ A' C', m = it.n - i ∧ i ≤ it.n ∧ Stp k C1.length (ext A1 C1.length Dl) (C1 ++ [some (.lst [])]) (upd H1 Dl (.lst [])) A' C' H' ∧ StOk k A' C' H' ∧ lcN it t.M tt te C1.length (wipeD F.sl vs) (it.n - i) i C' = .ok () C3,
    ⟨it.n, _, _, rfl, Nat.zero_le _, Stp.refl, st2, e3⟩, ?_⟩
  rintro i m H' ⟨A', C', rfl, hi, p, st', h'⟩
  obtain ⟨ha', hl'⟩ := cell_at p (ext_at A1 C1.length Dl) n1
  have low' : LowC C1.length C' := p.low _ (Nat.le_refl _) (Nat.le_of_lt n1) low1
  have pF : Stp k F.fl (ext A1 C1.length Dl) (C1 ++ [some (.lst [])]) (upd H1 Dl (.lst [])) A' C' H' := p.less s1.fl
  obtain ⟨o1, o2⟩ := ok A' C' H' (p2'.trans pF) st'
  cases er : it.n - i with
  | zero =>
    rw [er] at h'
    unfold lcN at h'
    have e : i = it.n := by omega
    split at h'
    · rename_i hf
      cases h'
      subst e
      exact .inl ⟨o2 hf, le_lcEnd s1.fl Stp.refl st1 (p2'.trans pF) low' st' ha' hl' h3⟩
    · cases h'
  | succ r =>
    rw [er] at h'
    unfold lcN at h'
    have hlt : i < it.n := by omega
    have hr : it.n - (i + 1) = r := by omega
    cases ei : it.item i C' with
    | none => simp only [ei] at h'; cases h'
    | some d =>
      simp only [ei] at h'
      obtain ⟨g1, g2⟩ := o1 i d hlt ei
      cases eg : t.M d (wipeD F.sl vs) with
      | none => simp only [eg] at h'; cases h'
      | some sl1 =>
        simp only [eg] at h'
        refine .inr ⟨g1, fun H4 => ∃ A4 C4, Stp k C1.length (ext A1 C1.length Dl) (C1 ++ [some (.lst [])]) (upd H1 Dl (.lst [])) A4 C4 H4 ∧ StOk k A4 C4 H4 ∧ lcN it t.M tt te C1.length (wipeD F.sl vs) (it.n - (i + 1)) (i + 1) C4 = .ok () C3,
          fun H4 ⟨A4, C4, a, b, c⟩ => ⟨it.n - (i + 1), by omega, A4, C4, rfl, by omega, a, b, c⟩, fun x H'' y => ?_⟩
        obtain ⟨A'', py, sty, rx⟩ := g2 x H'' y
        have py' : Stp k C1.length A' C' H' A'' C' H'' := ⟨py.rep, py.len, fun f _ _ h => h⟩
        have sr : SR k A'' ⟨C1.length, wipeD F.sl vs⟩ C' (L2.wipe σ vs) H'' := ((s1.re (p2.trans (p.trans py')) sty low' (Nat.le_of_lt hl')).wipe vs)
        refine Tgt.of (vs0 := vs) sr rx eg fun σ2 s2 w2 => ⟨by rw [w2 hv, wipe_wipe], A'', ⟨C1.length, sl1⟩, C', s2, ?_⟩
        cases et : tt ⟨C1.length, sl1⟩ C' with
        | ok b C5 =>
          rw [et] at h'
          simp only [bn0_ok] at h'
          intro A5 H5 v5 p5 st5 e5
          have e5 : v5 = b := e5
          subst e5
          have s5 := s2.step p5 st5
          cases v5 with
          | true =>
            rw [if_pos rfl] at h'
            refine iteT ⟨A5, ⟨C1.length, sl1⟩, C5, s5, ?_⟩
            cases ee : te ⟨C1.length, sl1⟩ C5 with
            | ok yd C6 =>
              rw [ee] at h'
              simp only [bn0_ok] at h'
              intro A6 H6 v6 p6 st6 r6
              have pall := (p.trans py').trans (p5.trans p6)
              obtain ⟨ha6, hl6⟩ := cell_at pall (ext_at A1 C1.length Dl) n1
              split at h'
              · rename_i acc hc
                split at h'
                · rename_i hz
                  obtain ⟨ws, hw, rw6⟩ := st6.at_ _ _ hc
                  rw [ha6] at hw
                  obtain ⟨q1, q2⟩ := push_L (k := k) (fl := C1.length) (Nat.le_refl _) st6 ha6 hc hw r6
                  refine ⟨ws, hw, by have := szN_le hz; rw [rw6.length]; omega, A6, _, pall.trans q1, q2, ?_⟩
                  rw [hr]
                  exact h'
                · cases h'
              · cases h'
            | exc e C6 => rw [ee] at h'; cases h'
            | stuck => rw [ee] at h'; cases h'
          | false =>
            rw [if_neg (by decide)] at h'
            refine iteF ⟨A5, C5, (p.trans py').trans p5, st5, ?_⟩
            rw [hr]
            exact h'
        | exc e C5 => rw [et] at h'; cases h'
        | stuck => rw [et] at h'; cases h'
theorem de_lc {elt tg iter : Expr} {ifs : List Expr} {scope : Scope} {own : List (Str × Nat)} {pos : Pos} {mi : MI} {t : Tgt} {tt : MT} {te : ME} (ow : Bool) (hK : X.K = k.K) (hc : X.calm = true) (hN : X.N.Nodup) (hi : PI X tg iter (LI k W mi)) (ok : BlkOk X.N X.env.scope scope own) (hv : ∀ i ∈ t.slots, i ∈ own.map (·.2))
    (hg : ∀ (s : Shared) (H : Hp) (C : Addr) (cl : List (Str × Addr)) (fp : List Addr), PG (X.blk s H scope (compEnvC scope cl C X.env) fp) tg (t.T k.K)) (ht : ∀ (s : Shared) (H : Hp) (C : Addr) (cl : List (Str × Addr)) (fp : List Addr), PTs (X.blk s H scope (compEnvC scope cl C X.env) fp) ifs (LT k WF tt))
    (he : ∀ (s : Shared) (H : Hp) (C : Addr) (cl : List (Str × Addr)) (fp : List Addr), PE (X.blk s H scope (compEnvC scope cl C X.env) fp) elt (LE k WF te)) (hs : ∀ x, foldedSetIterable iter X.env x = pure x := by intro _; rfl) :
    PE X (.ListComp elt [⟨tg, iter, ifs, 0⟩] scope pos) (LE k W (mLc ow mi t.M tt te (own.map (·.2)))) := (pe_lc hc hN hi ok hg ht he hs).cq fun _ _ _ h => le_lc hv h
end
end CT
set_option maxHeartbeats 4000000
/-! DL7: what is walked; defs. -/
namespace CT
open PySem L2
section
variable {X : Cx} {k : Cn} {W : WX} {E : Ends} {σ : L2.St} {H : Hp}
theorem ds_for {tg iter : Expr} {body : List Stmt} {pos : Pos} {mi : MI} {t : Tgt} {mb : MS} (hp : PassesOwn (model X.prog X.w) X.A X.env X.xe) (hc : X.calm = true) (hi : PI X tg iter (LI k W mi)) (hg : PG X tg (t.T k.K)) (hb : PSs X body (LS k W mb))
    (hs : ∀ x, foldedSetIterable iter X.env x = pure x := by intro _; rfl) : PS X (.For tg iter body [] pos) (LS k W (sFor mi t.M mb)) := (ps_for hp hc hi hg hb hs).cq fun _ _ _ h => ls_for h
/-! ### lists and tuples -/
def iSeq (K : PySem.W.Frag) (tl : TE) : TI := fun σ H R => tl σ H fun x H1 => ∃ a, x = .ref a ∧ (((∃ xs, SqL K H1 a xs) ∧ R (Itl K a) H1) ∨ ((∃ xs, SqT K H1 a xs) ∧ R (Itt K a) H1))
theorem pi_seq {tg l : Expr} {tl : TE} (hl : PE X l tl) : PI X tg l (iSeq X.K tl) := by
  refine ⟨fun pins s σ H R I h => ?_⟩
  refine thn (hl.run pins s σ H _ I h) fun v s1 ⟨x, H1, I1, r1, q1⟩ => ?_
  obtain ⟨a, e, ⟨⟨xs, hq⟩, q⟩ | ⟨⟨xs, hq⟩, q⟩⟩ := q1
  · subst e
    cases r1
    obtain ⟨its, rv, p, hz⟩ := I1.list hq
    refine wpAny_pyIter_list p.isList ?_
    refine ⟨s1.heap.objs.size, [s1.heap.objs.size], _, _, H1, rfl, I1.kept (t' := s1.toks) fun b o e => Heap.get?_push_of_some _ e, turn_list a _, ⟨_, Heap.get?_push_size _ rfl, rfl, rfl⟩, fun b hb => ?_, q⟩
    have e : b = s1.heap.objs.size := by simpa using hb
    subst e
    exact I1.fpOk (Nat.le_refl _) (I1.hok.fresh (Nat.le_refl _))
  · subst e
    cases r1
    obtain ⟨its, rv, p, hz⟩ := I1.tuple hq
    refine wpAny_pyIter_tuple (show s1.heap.IsTuple a its.toArray from p) ?_
    refine ⟨s1.heap.objs.size, [s1.heap.objs.size], _, _, H1, rfl, I1.kept (t' := s1.toks) fun b o e => Heap.get?_push_of_some _ e, turn_tuple a _, ⟨_, Heap.get?_push_size _ rfl, rfl, rfl⟩, fun b hb => ?_, q⟩
    have e : b = s1.heap.objs.size := by simpa using hb
    subst e
    exact I1.fpOk (Nat.le_refl _) (I1.hok.fresh (Nat.le_refl _))
theorem itC_L {fl : Nat} {A : Nat → Addr} {C : Store} {a : Addr} {xs : List D} (r : Rep k A C H (.ref a) (.lst xs)) : ItOk k fl (Itl k.K a) (itC xs) A C H := fun A' C' H' p st' => by
  cases p.rep _ _ r with
  | lst l h rv =>
    have hl : SqL k.K H' a _ := .inl (.inl h)
    refine ⟨fun j y hj ey => ?_, fun _ => ⟨_, hl, by rw [rv.length]; exact Nat.le_refl _⟩⟩
    obtain ⟨v, hv, rv1⟩ := rv.get ey
    exact ⟨⟨_, v, hl, hv⟩, fun x H'' ⟨e1, e2⟩ => by
      subst e1
      cases (e2 _ hl).symm.trans hv
      exact ⟨A', Stp.refl, st', rv1⟩⟩
theorem itC_T {fl : Nat} {A : Nat → Addr} {C : Store} {v : V} {d : D} {xs : List D} (r : Rep k A C H v d) (e : vT d = some xs) : ∃ a, v = .ref a ∧ (∃ vs, SqT k.K H a vs) ∧ ItOk k fl (Itt k.K a) (itC xs) A C H := by
  obtain ⟨a, vs, rfl, hs, _⟩ := vT_at r e
  refine ⟨a, rfl, ⟨vs, hs⟩, fun A' C' H' p st' => ?_⟩
  obtain ⟨a', vs', ea, hl, rv⟩ := vT_at (p.rep _ _ r) e
  cases ea
  refine ⟨fun j y hj ey => ?_, fun _ => ⟨_, hl, by rw [rv.length]; exact Nat.le_refl _⟩⟩
  obtain ⟨v, hv, rv1⟩ := rv.get ey
  exact ⟨⟨_, v, hl, hv⟩, fun x H'' ⟨e1, e2⟩ => by
    subst e1
    cases (e2 _ hl).symm.trans hv
    exact ⟨A', Stp.refl, st', rv1⟩⟩
theorem itV_L {fl : Nat} {A : Nat → Addr} {C : Store} {a : Addr} {i n : Nat} (r : Rep k A C H (.ref a) (.cell i)) : ItOk k fl (Itl k.K a) (itV i n) A C H := fun A' C' H' p st' => by
  cases p.rep _ _ r with
  | cell hi =>
    refine ⟨fun j y hj ey => ?_, fun hf => ?_⟩
    · simp only [itV] at ey
      split at ey
      · rename_i ys ec
        split at ey
        · obtain ⟨vs, hv, rv⟩ := st'.at_ i _ ec
          have hl : SqL k.K H' (A' i) vs := .inl (.inl hv)
          obtain ⟨v, hw, rv1⟩ := rv.get ey
          exact ⟨⟨_, v, hl, hw⟩, fun x H'' ⟨e1, e2⟩ => by
            subst e1
            cases (e2 _ hl).symm.trans hw
            exact ⟨A', Stp.refl, st', rv1⟩⟩
        · cases ey
      · cases ey
    · simp only [itV] at hf
      split at hf
      · rename_i ys ec
        obtain ⟨vs, hv, rv⟩ := st'.at_ i _ ec
        have := of_decide_eq_true hf
        exact ⟨vs, .inl (.inl hv), by show vs.length ≤ n; rw [rv.length]; omega⟩
      · cases hf
theorem li_seq {m : ME} {R : It → Hp → Prop} (h : LI k W (mSeq m) σ H R) : iSeq k.K (LE k W m) σ H R := by
  obtain ⟨A, F, C, s, h⟩ := h
  refine ⟨A, F, C, s, (Aft.bnd (rel := RepD k) h).mono fun d C1 A1 H1 v p st r h1 => ?_⟩
  have tup : ∀ xs, vT d = some xs → itS d C1 = some (itC xs) → ∃ a, v = .ref a ∧ (((∃ xs, SqL k.K H1 a xs) ∧ R (Itl k.K a) H1) ∨ ((∃ xs, SqT k.K H1 a xs) ∧ R (Itt k.K a) H1)) := fun xs e ei => by
    rw [ei] at h1
    obtain ⟨a, rfl, hs, ok⟩ := itC_T (fl := F.fl) r e
    exact ⟨a, rfl, .inr ⟨hs, h1 A1 H1 _ Stp.refl st ok⟩⟩
  cases d with
  | tup xs => exact tup xs rfl rfl
  | kt xs => exact tup xs rfl rfl
  | lst xs =>
    cases r with
    | lst l hh rv => exact ⟨_, rfl, .inl ⟨⟨_, .inl (.inl hh)⟩, h1 A1 H1 _ Stp.refl st (itC_L (.lst l hh rv))⟩⟩
  | cell i =>
    cases r with
    | cell hi =>
      simp only [itS] at h1
      split at h1
      · rename_i it e
        split at e
        · rename_i ys ec
          cases e
          obtain ⟨vs, hv, rv⟩ := st.at_ i _ ec
          exact ⟨_, rfl, .inl ⟨⟨vs, .inl (.inl hv)⟩, h1 A1 H1 _ Stp.refl st (itV_L (.cell hi))⟩⟩
        · cases e
      · exact h1.elim
  | _ => exact h1.elim
theorem di_seq {tg l : Expr} {m : ME} (hK : X.K = k.K) (hl : PE X l (LE k W m)) : PI X tg l (LI k W (mSeq m)) := (pi_seq hl).cq fun _ _ _ h => by
  rw [hK]
  exact li_seq h
/-! ### ranges -/
theorem itR_ok {fl : Nat} {A : Nat → Addr} {C : Store} {lo : Int} {n : Nat} : ItOk k fl (Itr lo n) (itR lo n) A C H := fun A' C' H' p st' =>
  ⟨fun j y hj ey => ⟨hj, fun x H'' ⟨e1, e2⟩ => by
    subst e1
    subst e2
    cases ey
    exact ⟨A', Stp.refl, st', .int _⟩⟩, fun _ => Nat.le_refl _⟩
theorem li_rng1 {m : ME} {R : It → Hp → Prop} (h : LI k W (mRng1 m) σ H R) : iRng1 (tCons (LE k W m) tNil) σ H R := by
  obtain ⟨A, F, C, s, h⟩ := h
  refine ⟨A, F, C, s, (Aft.bnd (rel := RepD k) h).mono fun d C1 A1 H1 v p st r h1 => ?_⟩
  cases r with
  | int j =>
    simp only at h1
    split at h1
    · rename_i hb
      simp only [inR, Bool.and_eq_true, decide_eq_true_eq] at hb
      exact ⟨j, rfl, hb.1, hb.2, h1 A1 H1 _ Stp.refl st itR_ok⟩
    · exact h1.elim
  | _ => exact h1.elim
theorem li_rng2 {m m2 : ME} {R : It → Hp → Prop} (h : LI k W (mRng2 m m2) σ H R) : iRng2 (tCons (LE k W m) (tCons (LE k W m2) tNil)) σ H R := by
  obtain ⟨A, F, C, s, h⟩ := h
  refine ⟨A, F, C, s, (Aft.bnd (rel := RepD k) h).mono fun d C1 A1 H1 v p st r h1 => ?_⟩
  have s1 := s.step p st
  refine ⟨A1, F, C1, s1, (Aft.bnd (rel := RepD k) h1).mono fun e C2 A2 H2 v2 p2 st2 r2 h2 => ?_⟩
  cases r with
  | int i =>
    cases r2 with
    | int j =>
      simp only at h2
      split at h2
      · rename_i hb
        simp only [inR, Bool.and_eq_true, decide_eq_true_eq] at hb
        exact ⟨i, j, rfl, ⟨hb.1.1, hb.1.2, hb.2.1, hb.2.2⟩, h2 A2 H2 _ Stp.refl st2 itR_ok⟩
      · exact h2.elim
    | _ => exact h2.elim
  | _ =>
    cases r2 <;> exact h2.elim
theorem di_rng1 {tg a : Expr} {p pos : Pos} {m : ME} (hg : Gl X "range") (hm : X.mg "range" = none) (ha : PE X a (LE k W m)) (hs : starEach [a] X.env = [(false, eval a X.env)] := by rfl) : PI X tg (.Call (.Name "range" p) [a] [] pos) (LI k W (mRng1 m)) :=
  (pi_range1 hg hm (pa_cons ha pa_nil hs) hs).cq fun _ _ _ h => li_rng1 h
theorem di_rng2 {tg a b : Expr} {p pos : Pos} {m m2 : ME} (hg : Gl X "range") (hm : X.mg "range" = none) (ha : PE X a (LE k W m)) (hb : PE X b (LE k W m2)) (hs : starEach [a, b] X.env = [(false, eval a X.env), (false, eval b X.env)] := by rfl) (hs2 : starEach [b] X.env = [(false, eval b X.env)] := by rfl) :
    PI X tg (.Call (.Name "range" p) [a, b] [] pos) (LI k W (mRng2 m m2)) :=
  (pi_range2 hg hm (pa_cons ha (pa_cons hb pa_nil hs2) (by rw [hs, hs2])) hs hs2).cq fun _ _ _ h => li_rng2 h
end
/-! ### defs -/
def mDef (np ns : Nat) (body : MS) : MF := fun ds C => if ds.length = np then (match body ⟨C.length, ds.map some ++ List.replicate (ns - np) none⟩ C with
    | .nx _ C' => fin C.length .non C'
    | .rt d C' => fin C.length d C'
    | .xc e _ C' => if cbL C.length e.fs = true then .exc e (C'.take C.length) else .stuck
    | _ => .stuck) else .stuck
/-- the promise of a def that computes m -/
def SpD (k : Cn) (np : Nat) (m : MF) : Sp := fun vs H Q E => vs.length = np ∧ ∃ A C ds, StOk k A C H ∧ RepL k A C H vs ds ∧ Aft k C.length A C H (RepD k) (m ds C) (fun _ _ _ H' v => Q v H') E
section
variable {k : Cn}
theorem cut_stp {n : Nat} {A A' : Nat → Addr} {C C' : Store} {H H' : Hp} (hn : n = C.length) (st0 : StOk k A C H) (st : StOk k A' C' H') (s : Stp k n A C H A' C' H') :
    Stp k n A C H A' (C'.take n) H' ∧ StOk k A' (C'.take n) H' ∧ n ≤ C'.length ∧ (C'.take n).length = n := by
  have hl : n ≤ C'.length := by rw [hn]; exact s.len
  have tl : (C'.take n).length = n := by rw [List.length_take]; omega
  have low : LowC n C' := s.low n (Nat.le_refl _) (by omega) (by rw [hn]; exact st0.low)
  exact ⟨⟨fun v d r => (s.rep v d r).cut hl (by rw [hn]; exact r.cb), by rw [tl, hn]; exact Nat.le_refl _, fun f h1 h2 l => low_take (s.low f h1 h2 l)⟩, st.take hl low, hl, tl⟩
theorem fz_rep {n : Nat} {A : Nat → Addr} {C : Store} {H : Hp} {v : V} {d : D} (st : StOk k A C H) (hl : n ≤ C.length) (r : Rep k A C H v d) (h : cb n (fz n d C) = true) : Rep k A (C.take n) H v (fz n d C) := by
  have tl : (C.take n).length = n := by rw [List.length_take]; omega
  have nl : ∀ i c, ¬ i < n → C[i]? = some (some c) → ¬ Live A (C.take n) (A i) := fun i c hi e l => by
    obtain ⟨j, c', e', z⟩ := l
    by_cases hj : j < n
    · rw [List.getElem?_take_of_lt hj] at e'
      have := st.inj j i _ _ e' e z
      omega
    · rw [List.getElem?_eq_none (by rw [tl]; omega)] at e'
      cases e'
  cases d with
  | cell i =>
    by_cases hi : i < n
    · have e : fz n (.cell i) C = .cell i := by simp [fz, hi]
      rw [e] at h ⊢
      exact r.cut hl h
    · cases r with
      | cell hi' =>
        simp only [fz, if_neg hi] at h ⊢
        split
        · rename_i xs ec
          rw [ec] at h
          obtain ⟨vs, hv, rv⟩ := st.at_ i _ ec
          exact .lst (nl i _ hi ec) hv (rv.cut hl (by simpa [cb] using h))
        · rename_i ks xs ec
          rw [ec] at h
          obtain ⟨kvs, hv, hk, rv⟩ := st.at_ i _ ec
          subst hk
          exact .dT (nl i _ hi ec) hv (rv.cut hl (by simpa [cb] using h))
        · rename_i n1 n2
          exfalso
          split at h
          · rename_i ec; exact n1 _ ec
          · rename_i ec; exact n2 _ _ ec
          · simp only [cb, decide_eq_true_eq] at h
            exact hi h
  | _ => exact r.cut hl h
/-- from a body to the promise -/
theorem spD_body {np ns : Nat} {body : MS} {N : List Str} {vs : List V} {H : Hp} {Q : VK} {E : XK} (hN : N.length = ns) (hp : np ≤ ns) (h : SpD k np (mDef np ns body) vs H Q E) :
    LS k (fun c d _ H' => E c d H') body { nx := fun _ H' => Q .non H', rt := Q } (L2.start N vs) H := by
  obtain ⟨hv, A, C, ds, st, rl, h⟩ := h
  have hd : ds.length = np := by rw [← rl.length]; exact hv
  unfold mDef at h
  rw [if_pos hd] at h
  have sl : (L2.start N vs) = vs.map some ++ List.replicate (ns - np) none := by unfold L2.start; rw [hN, hv]
  have sr : SR k A ⟨C.length, ds.map some ++ List.replicate (ns - np) none⟩ C (L2.start N vs) H := by
    refine ⟨st, st.low, Nat.le_refl _, ?_, fun i d e => ?_⟩
    · rw [sl]
      simp [rl.length]
    · rw [sl]
      have e' : (ds.map some ++ List.replicate (ns - np) none)[i]? = some (some d) := e
      by_cases hi : i < ds.length
      · rw [List.getElem?_append_left (by simpa using hi), List.getElem?_map] at e'
        cases ed : ds[i]? with
        | none => rw [ed] at e'; cases e'
        | some d' =>
          rw [ed] at e'
          cases e'
          obtain ⟨v, h1, h2⟩ := rl.get ed
          refine ⟨v, ?_, h2⟩
          rw [List.getElem?_append_left (by rw [List.length_map, rl.length]; exact hi), List.getElem?_map, h1]
          rfl
      · rw [List.getElem?_append_right (by simpa using hi)] at e'
        have := List.getElem?_eq_some_iff.mp e'
        obtain ⟨h1, h2⟩ := this
        rw [List.getElem_replicate] at h2
        cases h2
  refine ⟨A, _, C, sr, ?_⟩
  have done : ∀ (d : D) (C' : Store), Aft k C.length A C H (RepD k) (fin C.length d C') (fun _ _ _ H' v => Q v H') E → ∀ A' H' v, Stp k C.length A C H A' C' H' → StOk k A' C' H' → Rep k A' C' H' v d → Q v H' := fun d C' hf A' H' v p st' r => by
    unfold fin at hf
    split at hf
    · rename_i hc
      obtain ⟨q1, q2, q3, q4⟩ := cut_stp rfl st st' p
      exact hf A' H' v q1 q2 (fz_rep st' q3 r hc)
    · exact hf.elim
  show AftS k _ C.length A C H (body ⟨C.length, ds.map some ++ List.replicate (ns - np) none⟩ C) _
  cases eb : body ⟨C.length, ds.map some ++ List.replicate (ns - np) none⟩ C with
  | nx sl' C' =>
    rw [eb] at h
    exact fun A' σ' H' p s' => done .non C' h A' H' .non p s'.st .non
  | rt d C' =>
    rw [eb] at h
    exact fun A' H' v p st' r => done d C' h A' H' v p st' r
  | bk sl' C' => rw [eb] at h; exact h.elim
  | ct sl' C' => rw [eb] at h; exact h.elim
  | stuck => rw [eb] at h; exact h.elim
  | xc e sl' C' =>
    rw [eb] at h
    intro A' σ' H' dd ws p s' x l r
    simp only at h
    split at h
    · rename_i hc
      obtain ⟨q1, q2, q3, q4⟩ := cut_stp rfl st s'.st p
      exact h A' H' dd ws q1 q2 x l (r.cut q3 hc)
    · exact h.elim
end
end CT
set_option maxHeartbeats 4000000
/-! DL8: defs, calls, instances over data. -/
namespace CT
open PySem L2 PySem.Spec PyProof.Rows
theorem Aft.more {k : Cn} {fl n : Nat} {A : Nat → Addr} {C : Store} {H : Hp} {α β : Type} {rel : (Nat → Addr) → Store → Hp → β → α → Prop} {m : R α} {Q : α → Store → (Nat → Addr) → Hp → β → Prop} {W : XK} (hn : fl ≤ n) (h : Aft k fl A C H rel m Q W) : Aft k n A C H rel m Q W := by
  cases m with
  | ok d C' => exact fun A' H' v p st r => h A' H' v (p.less hn) st r
  | exc e C' => exact fun A' H' dd vs p st x l r => h A' H' dd vs (p.less hn) st x l r
  | stuck => exact h
/-- a def of np parameters -/
def Ar (np : Nat) (m : MF) : Prop := ∀ ds C, ds.length ≠ np → m ds C = .stuck
theorem mDef_ar {np ns : Nat} {body : MS} : Ar np (mDef np ns body) := fun ds C h => by
  unfold mDef
  rw [if_neg h]
/-! ### defs that know that no repr runs around them -/
theorem RoomG.mono {i j : Nat} {A : Around} (r : RoomG j A) (h : i ≤ j) : RoomG i A := ⟨r.room.mono h, r.gd⟩
theorem RoomG.in1 {j : Nat} {A : Around} (r : RoomG (j + 1) A) : RoomG j A.in1 := ⟨r.room.in1, r.gd⟩
theorem RoomG.make {j : Nat} {A : Around} (r : RoomG (j + 1) A) (C : Addr) (us : List Value) (kw : List (Str × Value)) : RoomG j (A.under (.builtin "type.__call__" ⟨.ref C :: us, kw⟩)) :=
  ⟨r.room.make C us kw, by
    have e : (A.under (.builtin "type.__call__" ⟨.ref C :: us, kw⟩)).guards = A.guards := by
      first
        | rfl
        | simp [Around.under, Code.guards, Code.isGuard, pushGuards, guardIds]
    rw [e]
    exact r.gd⟩
structure FnG (P : Program) (w : World) (K : PySem.W.Frag) (mg : Str → Option Value) (base : Heap) (lev : Nat) (f : Addr) (fd : FuncData) (ps : List Str) (sp : Sp) : Prop where
  len : ∀ vs H Q E, sp vs H Q E → vs.length = ps.length
  run : ∀ (A : Around) (outer : List Env) (s : Shared) (H : Hp) (args : Args) (us : List Value) (vs : List V) (Q : VK) (E : XK), RoomG lev A → Env0 P w K mg base A outer s H → BindsTo s fd args (ps.zip us) → Vals vs us → sp vs H Q E →
    codeAny (model P w) A (.call (.ref f) args) (CR (L2.CX P w) outer P w H s Q E) s
theorem FnG.mono {P : Program} {w : World} {K : PySem.W.Frag} {mg : Str → Option Value} {base : Heap} {i j : Nat} {f : Addr} {fd : FuncData} {ps : List Str} {sp : Sp} (F : FnG P w K mg base i f fd ps sp) (h : i ≤ j) : FnG P w K mg base j f fd ps sp :=
  ⟨F.len, fun A outer s H args us vs Q E hr => F.run A outer s H args us vs Q E (hr.mono h)⟩
theorem fn_ofG {P : Program} {w : World} {K : PySem.W.Frag} {mg : Str → Option Value} {base : Heap} {lev : Nat} {f : Addr} {name qual : Str} {params : Arguments} {body : List Stmt} {scope : Scope} {dV kV doc pm cdv ct oc : Value} {an od : Option Addr}
    {osl : Array (Option Value)} {N ps : List Str} {sp : Sp} (lk : K.lookup f = some ⟨oc, od, .func (PySem.W.fnOf name qual params body scope dV kV doc pm an cdv ct), osl⟩) (hcd : PySem.W.codeIn K cdv qual = true) (S : FnScope N ps scope)
    (len : ∀ vs H Q E, sp vs H Q E → vs.length = ps.length)
    (hbody : ∀ (A : Around) (outer : List Env) (s : Shared) (H : Hp) (vs : List V) (Q : VK) (E : XK), RoomG lev (A.deeper (envOfC qual scope s.heap.objs.size f cdv)) → sp vs H Q E →
      ∃ t, PSs (cxOf (L2.CX P w) P w K mg base N qual scope f cdv A outer s H E) body t ∧ t { nx := fun _ H' => Q .non H', rt := Q } (L2.start N vs) H) :
    FnG P w K mg base (lev + 1) f (PySem.W.fnOf name qual params body scope dV kV doc pm an cdv ct) ps sp := by
  refine ⟨len, fun A outer s H args us vs Q E hr e0 hb r hsp => ?_⟩
  have hl := len _ _ _ _ hsp
  have KX : K.In s.heap := e0.mod.kin.keeps fun b o e => (e0.bs b o e).1
  have lim : s.heap.NoLimit := e0.mod.nolimit.keeps fun b o e => (e0.bs b o e).1
  have hkind : ∀ y ∈ ps.zip us, scope.names.lookup y.1 = some .local ∨ (scope.names.lookup y.1 = some .cell ∧ ((cellsFrom (s.heap.objs.size + 1) scope.names []).lookup y.1).isSome = true) := fun ⟨n, v⟩ hy => by
    rcases S.par n (List.of_mem_zip hy).1 with q | q
    · exact .inl q
    · exact .inr ⟨q, PySem.W.cellsFrom_some _ _ _ (.inl q)⟩
  refine codeAny_call_function hr.room.depth (KX _ _ lk) rfl S.co S.gen rfl (PySem.W.codeRec_of KX hcd) (hb _ _ _ _ ?_)
  refine wpAny_newFunctionEnv_cells S.kind hkind fun env he s1 x => ?_
  subst he
  refine ⟨lim.keeps x.toInCall.keep, codeAny_func ?_⟩
  obtain ⟨t, ht, hq⟩ := hbody A outer s H vs Q E ⟨hr.room.deeper _, hr.gd⟩ hsp
  have I : Inv (cxOf (L2.CX P w) P w K mg base N qual scope f cdv A outer s H E) [] (L2.start N vs) H s1 := inv_start S hr.room.hd e0 hl r x
  refine wpAny_mono (ht.run [] s1 (L2.start N vs) H _ I hq) (fun fl s' hs => ?_) fun e s' hs => hs
  have fin : ∀ {σ' : L2.St} {H' : Hp} {v : V} {u : Value}, Inv (cxOf (L2.CX P w) P w K mg base N qual scope f cdv A outer s H E) [] σ' H' s' → RelV v u → Q v H' → CE outer P w H s Q u s' :=
    fun {σ' H' v u} J rv q => ⟨v, H', J.os, J.bare, J.base, J.hok, rv, q⟩
  cases fl with
  | ret u =>
    obtain ⟨v, σ', H', J, rv, q⟩ := hs
    exact fin J rv q
  | next =>
    obtain ⟨σ', H', J, q⟩ := hs
    exact fin (v := V.non) (u := Value.none) J rfl q
  | brk =>
    obtain ⟨_, _, _, q⟩ := hs
    exact False.elim q
  | cont =>
    obtain ⟨_, _, _, q⟩ := hs
    exact False.elim q
section
variable {P : Program} {w : World} {k : Cn} {mg : Str → Option Value} {base : Heap} {x qual : Str} {params : Arguments} {body : List Stmt} {scope : Scope} {dvs : List V} {kws : List (Str × V)} {f : Addr} {fd : FuncData}
/-- THE RULE for a def: its body's derivation -/
theorem fn_ok {N ps : List Str} {lev : Nat} {m : MS} (F : FunD k.K x qual params body scope dvs kws f fd) (S : FnScope N ps scope) (hp : ps.length ≤ N.length)
    (hb : ∀ (cdv : Value) (A : Around) (outer : List Env) (s : Shared) (H : Hp) (E : XK), RoomG lev (A.deeper (envOfC qual scope s.heap.objs.size f cdv)) → PSs (cxOf (L2.CX P w) P w k.K mg base N qual scope f cdv A outer s H E) body (LS k (fun c d _ H' => E c d H') m)) :
    FnG P w k.K mg base (lev + 1) f fd ps (SpD k ps.length (mDef ps.length N.length m)) := by
  obtain ⟨oc, od, dV, kV, doc, pm, an, cdv, ct, osl, rfl, lk, hcd, _, _⟩ := F.ex
  exact fn_ofG lk hcd S (fun vs H Q E h => h.1) fun A outer s H vs Q E hr h => ⟨_, hb cdv A outer s H E hr, spD_body rfl hp h⟩
end
/-! ### calls -/
section
variable {X : Cx} {k : Cn} {W : WX} {σ : L2.St} {H : Hp} {Q : VK} {lev : Nat} {f C p g : Addr} {fd : FuncData} {ps : List Str} {np : Nat} {m : MF} {dvs : List V} {dds : List D} {ds : List Value} {x nm : Str} {pn pos apos : Pos} {e o : Expr} {es : List Expr} {ma : MA} {mo : ME}
theorem sp_of {A : Nat → Addr} {C : Store} {fl : Nat} {vs : List V} {xs : List D} {E : XK} (hf : fl ≤ C.length) (ar : Ar np m) (st : StOk k A C H) (r : RepL k A C H vs xs) (h : Aft k fl A C H (RepD k) (m xs C) (fun _ _ _ H' v => Q v H') E) : SpD k np m vs H Q E := by
  refine ⟨?_, A, C, xs, st, r, h.more hf⟩
  rw [r.length]
  by_cases hl : xs.length = np
  · exact hl
  · rw [ar xs C hl] at h
    exact h.elim
theorem run_fnG {sp : Sp} {E : L2.St → XK} {pins : List (Addr × Obj)} {σ : L2.St} {H : Hp} {s : Shared} {Q : VK} {us : List Value} {vs : List V} (F : FnG X.prog X.w X.K X.mg X.base lev f fd ps sp) (hr : RoomG lev X.A) (hb : Binds X.K fd ps ds) (hd : Vals dvs ds) (hx : PassesAt (L2.CX X.prog X.w) X σ (E σ))
    (I : Inv X pins σ H s) (r : Vals vs us) (h : sp (vs ++ dvs) H Q (E σ)) : wpAny (model X.prog X.w) X.A (call (.ref f) us) (EP X pins σ Q) X.xe s := by
  have r2 : Vals (vs ++ dvs) (us ++ ds) := r.append hd
  have hl : (us ++ ds).length = ps.length := by rw [← r2.length]; exact F.len _ _ _ _ h
  refine wpAny_call (codeAny_mono (F.run X.A X.stack s H ⟨us, []⟩ (us ++ ds) (vs ++ dvs) Q (E σ) hr I.env0 (hb s us I.kIn hl) r2 h) fun r s' hq => ?_)
  cases r with
  | error e => exact hx pins H s e s' I hq
  | ok fl =>
    cases fl with
    | ret u => exact I.after hq
    | next => exact False.elim hq
    | brk => exact False.elim hq
    | cont => exact False.elim hq
theorem pe_callG {sp : Sp} {E : L2.St → XK} {t : TA} (F : FnG X.prog X.w X.K X.mg X.base lev f fd ps sp) (hr : RoomG lev X.A) (hg : Gl X x) (hm : X.mg x = some (.ref f)) (hk : PySem.W.keepIn X.K (.ref f) = true) (hb : Binds X.K fd ps ds) (hd : Vals dvs ds) (hx : ∀ σ, PassesAt (L2.CX X.prog X.w) X σ (E σ))
    (ha : PA X (e :: es) t) (hdb : (x == ("__debug__" : Str)) = false := by decide) (he : starEach (e :: es) X.env = (false, eval e X.env) :: starEach es X.env := by rfl) (hpl : (backTo pos (starEach es X.env)).any (·.1) = false := by rfl) :
    PE X (.Call (.Name x pn) (e :: es) [] pos) (tCallSD sp dvs E t) := by
  refine ⟨fun pins s σ H Q I h => ?_⟩
  refine wpAny_Call_Name_kw (ld_glob I hg hm ?_ hdb)
  refine PySem.W.callWith_K (h₀ := X.base) I.ok.mod.kin hk (thn (ha.run pos pins s σ H _ I h) fun us s1 ⟨vs, H1, I1, r, q⟩ => ⟨I1.kIn, ?_⟩) he hpl
  exact run_fnG F hr hb hd (hx σ) I1 r q
theorem le_call (ar : Ar np m) (hd : ∀ A C H, RepL k A C H dvs dds) (h : LE k W (mCall m dds ma) σ H Q) : tCallSD (SpD k np m) dvs (WE W) (LA k W ma) σ H Q := by
  obtain ⟨A, F, C, s, h⟩ := h
  refine ⟨A, F, C, s, (Aft.bnd (rel := RepDs k) h).mono fun xs C1 A1 H1 vs p1 st1 r1 h1 => ?_⟩
  exact sp_of (s.step p1 st1).fl ar st1 (r1.append (hd _ _ _)) h1
/-- f(e, ..) -/
theorem de_call (tk : Takes X W) (F : FnG X.prog X.w X.K X.mg X.base lev f fd ps (SpD k np m)) (ar : Ar np m) (hr : RoomG lev X.A) (hg : Gl X x) (hm : X.mg x = some (.ref f)) (hk : PySem.W.keepIn X.K (.ref f) = true) (hb : Binds X.K fd ps ds) (hd : Vals dvs ds) (hdd : ∀ A C H, RepL k A C H dvs dds)
    (ha : PA X (e :: es) (LA k W ma)) (hdb : (x == ("__debug__" : Str)) = false := by decide) (he : starEach (e :: es) X.env = (false, eval e X.env) :: starEach es X.env := by rfl) (hpl : (backTo pos (starEach es X.env)).any (·.1) = false := by rfl) :
    PE X (.Call (.Name x pn) (e :: es) [] pos) (LE k W (mCall m dds ma)) := (pe_callG F hr hg hm hk hb hd (fun σ => passAt tk σ) ha hdb he hpl).cq fun _ _ _ h => le_call ar hdd h
/-! ### instances -/
theorem vO_at {A : Nat → Addr} {C : Store} {v : V} {d : D} {c : Nat} {fs : List D} (st : StOk k A C H) (r : Rep k A C H v d) (e : vO d C = some (c, fs)) : ∃ a dx vs, v = .ref a ∧ H a = some (.ins (k.cl c) dx (((k.fn c).take fs.length).zip vs)) ∧ fs.length ≤ (k.fn c).length ∧ RepL k A C H vs fs := by
  cases r with
  | @obj a0 dx0 c0 vs0 ds0 l h z rv =>
    cases e
    have hl : fs.length = (k.fn c).length := by rw [← rv.length]; exact z
    refine ⟨a0, dx0, vs0, rfl, ?_, Nat.le_of_eq hl, rv⟩
    rw [hl, List.take_length]
    exact h
  | cell hi =>
    rename_i i
    simp only [vO] at e
    split at e
    · rename_i c' fs' ec
      cases e
      obtain ⟨dx, vs, h, z, rv⟩ := st.at_ i _ ec
      exact ⟨_, dx, vs, rfl, h, z, rv⟩
    · cases e
  | _ => cases e
theorem zip_look {names : List Str} {vs : List V} {n : Nat} {f : Str} {v : V} (nd : names.Nodup) (hn : names[n]? = some f) (hv : vs[n]? = some v) : (names.zip vs).lookup f = some v := by
  induction names generalizing vs n with
  | nil => simp at hn
  | cons a r ih =>
    cases vs with
    | nil => simp at hv
    | cons b t =>
      cases n with
      | zero =>
        simp at hn hv
        subst hn
        subst hv
        simp [List.lookup]
      | succ n =>
        simp at hn hv
        have ne : (f == a) = false := by
          simp only [List.nodup_cons] at nd
          have : f ≠ a := fun e => nd.1 (by rw [← e]; exact List.mem_of_getElem? hn)
          simpa using this
        rw [List.zip_cons_cons, List.lookup_cons, ne]
        exact ih (by simp only [List.nodup_cons] at nd; exact nd.2) hn hv
theorem zip_none {names : List Str} {vs : List V} {f : Str} (h : f ∉ names) : (names.zip vs).lookup f = none := by
  induction names generalizing vs with
  | nil => simp
  | cons a r ih =>
    cases vs with
    | nil => simp
    | cons b t =>
      simp only [List.mem_cons, not_or] at h
      have ne : (f == a) = false := by simpa using h.1
      rw [List.zip_cons_cons, List.lookup_cons, ne]
      exact ih h.2
theorem d_fld {c n : Nat} {f : Str} (hc : Cls k.K (k.cl c)) (hno : NoAttr k.K (k.cl c) f) (nd : (k.fn c).Nodup) (hf : (k.fn c)[n]? = some f) : ∀ fl A C H x dx d C' (Q : VK), fl ≤ C.length → LowC fl C → StOk k A C H → Rep k A C H x dx → oFld c n dx C = some (d, C') →
    (∀ A' H' v, Stp k fl A C H A' C' H' → StOk k A' C' H' → Rep k A' C' H' v d → Q v H') → ∃ a Cc dxx fs v, x = .ref a ∧ H a = some (.ins Cc dxx fs) ∧ Cls k.K Cc ∧ NoAttr k.K Cc f ∧ fs.lookup f = some v ∧ Q v H := by
  intro fl A C H x dx d C' Q hfl hl st r e q
  unfold oFld at e
  split at e
  · rename_i c' fs ev
    split at e
    · rename_i hcc
      subst hcc
      simp only [Option.map_eq_some_iff] at e
      obtain ⟨d', e1, e2⟩ := e
      cases e2
      obtain ⟨a, dx', vs, rfl, ha, hle, rv⟩ := vO_at st r ev
      obtain ⟨v, hv, rv1⟩ := rv.get e1
      have hn : n < fs.length := (List.getElem?_eq_some_iff.mp e1).1
      refine ⟨a, _, dx', _, v, rfl, ha, hc, hno, zip_look (nd.sublist (List.take_sublist _ _)) (by rw [List.getElem?_take_of_lt hn]; exact hf) hv, q A H v Stp.refl st rv1⟩
    · cases e
  · cases e
theorem le_fld {c n : Nat} {f : Str} (hc : Cls k.K (k.cl c)) (hno : NoAttr k.K (k.cl c) f) (nd : (k.fn c).Nodup) (hf : (k.fn c)[n]? = some f) (h : LE k W (mUn (oFld c n) mo) σ H Q) : tFld k.K (LE k W mo) f σ H Q := by
  obtain ⟨A, F, C, s, h⟩ := h
  refine ⟨A, F, C, s, (Aft.bnd (rel := RepD k) h).mono fun dx C1 A1 H1 v p1 st1 r1 h1 => ?_⟩
  obtain ⟨d, C', e, q⟩ := aft_ofO h1
  have s1 := s.step p1 st1
  exact d_fld hc hno nd hf F.fl A1 C1 H1 v dx d C' Q s1.fl s1.low st1 r1 e q
theorem de_fld (c n : Nat) {f : Str} (hK : X.K = k.K) (hc : Cls k.K (k.cl c)) (hno : NoAttr k.K (k.cl c) f) (nd : (k.fn c).Nodup) (hf : (k.fn c)[n]? = some f) (he : PE X o (LE k W mo)) (hb : attributeBase o f X.env (eval o X.env) = eval o X.env := by rfl) : PE X (.Attribute o f pos) (LE k W (mUn (oFld c n) mo)) :=
  (pe_fld he hb).cq fun _ _ _ h => by
    rw [hK]
    exact le_fld hc hno nd hf h
/-! ### methods, properties -/
def tMethS (Cc : Addr) (nm : Str) (sp : Sp) (dvs : List V) (E : L2.St → XK) (ta : TE) (t : TA) : TE := fun σ H Q => ta σ H fun x H1 => ∃ a dx fs, x = .ref a ∧ H1 a = some (.ins Cc dx fs) ∧ fs.lookup nm = none ∧
  t σ H1 fun vs H2 => sp (x :: (vs ++ dvs)) H2 Q (E σ)
theorem pe_methSD {pl : Sem Bool} {ta : TE} {t : TA} {sp : Sp} {E : L2.St → XK} (he : PE X o ta) (c : Cls X.K C) (hm : Meth X.K C nm f) (F : FnG X.prog X.w X.K X.mg X.base lev f fd ps sp) (hr : RoomG lev X.A) (hb : Binds X.K fd ps ds) (hd : Vals dvs ds) (hx : ∀ σ, PassesAt (L2.CX X.prog X.w) X σ (E σ)) (ha : PA X (e :: es) t)
    (hst : starEach (e :: es) X.env = (false, eval e X.env) :: starEach es X.env := by rfl) (hpl : (backTo pos (starEach es X.env)).any (·.1) = false := by rfl)
    (ht : eval (.Call (.Attribute o nm apos) (e :: es) [] pos) X.env = (do
      let ov ← eval o X.env
      standAt apos.atName
      let (f, first) ← holding [ov] (getMethod ov nm pl)
      callWith pos f first (backTo pos (starEach (e :: es) X.env)) (backToKw pos (keywordEach [] X.env))) := by rfl) :
    PE X (.Call (.Attribute o nm apos) (e :: es) [] pos) (tMethS C nm sp dvs E ta t) := by
  refine ⟨fun pins s σ H Q I h => ?_⟩
  refine PySem.W.methodCall_KW (pl := pl) (thn (he.run pins s σ H _ I h) fun u s1 ⟨x, H1, I1, rx, a, dx, fs, ex, ea, l, q⟩ => ?_) ht
  subst ex
  obtain rfl : u = Value.ref a := rx
  refine getmeth_ok I1 ea c hm l ?_
  refine PySem.W.callWith_K (first := [.ref a]) (h₀ := X.base) I.ok.mod.kin hm.kp (thn (ha.run pos pins s1 σ H1 _ I1 q) fun us s2 ⟨vs, H2, I2, r, q2⟩ => ⟨I2.kIn, ?_⟩) hst hpl
  exact run_fnG (us := .ref a :: us) (vs := .ref a :: vs) F hr hb hd (hx σ) I2 (.cons rfl r) q2
theorem le_meth {c : Nat} (ar : Ar np m) (hno : nm ∉ k.fn c) (hdd : ∀ A C H, RepL k A C H dvs dds) (h : LE k W (mMeth c m dds mo ma) σ H Q) : tMethS (k.cl c) nm (SpD k np m) dvs (WE W) (LE k W mo) (LA k W ma) σ H Q := by
  obtain ⟨A, F, C, s, h⟩ := h
  refine ⟨A, F, C, s, (Aft.bnd (rel := RepD k) h).mono fun dx C1 A1 H1 v p1 st1 r1 h1 => ?_⟩
  have s1 := s.step p1 st1
  split at h1
  · rename_i c' fs ev
    split at h1
    · rename_i hcc
      subst hcc
      obtain ⟨a, dx', vs, rfl, ha, hle, rv⟩ := vO_at st1 r1 ev
      refine ⟨a, dx', _, rfl, ha, zip_none (fun z => hno (List.mem_of_mem_take z)), A1, F, C1, s1, (Aft.bnd (rel := RepDs k) h1).mono fun xs C2 A2 H2 ws p2 st2 r2 h2 => ?_⟩
      exact sp_of (s1.step p2 st2).fl ar st2 (.cons (p2.rep _ _ r1) (r2.append (hdd _ _ _))) h2
    · exact h1.elim
  · exact h1.elim
theorem de_meth {pl : Sem Bool} (c : Nat) (tk : Takes X W) (hK : X.K = k.K) (he : PE X o (LE k W mo)) (hc : Cls k.K (k.cl c)) (hm : Meth k.K (k.cl c) nm f) (F : FnG X.prog X.w X.K X.mg X.base lev f fd ps (SpD k np m)) (ar : Ar np m) (hno : nm ∉ k.fn c) (hr : RoomG lev X.A) (hb : Binds X.K fd ps ds) (hd : Vals dvs ds) (hdd : ∀ A C H, RepL k A C H dvs dds)
    (ha : PA X (e :: es) (LA k W ma)) (hst : starEach (e :: es) X.env = (false, eval e X.env) :: starEach es X.env := by rfl) (hpl : (backTo pos (starEach es X.env)).any (·.1) = false := by rfl)
    (ht : eval (.Call (.Attribute o nm apos) (e :: es) [] pos) X.env = (do
      let ov ← eval o X.env
      standAt apos.atName
      let (f, first) ← holding [ov] (getMethod ov nm pl)
      callWith pos f first (backTo pos (starEach (e :: es) X.env)) (backToKw pos (keywordEach [] X.env))) := by rfl) :
    PE X (.Call (.Attribute o nm apos) (e :: es) [] pos) (LE k W (mMeth c m dds mo ma)) :=
  (pe_methSD (pl := pl) he (by rw [hK]; exact hc) (by rw [hK]; exact hm) F hr hb hd (fun σ => passAt tk σ) ha hst hpl ht).cq fun _ _ _ h => le_meth ar hno hdd h
end
end CT
set_option maxHeartbeats 4000000
/-! DL9: built-in functions over data. -/
namespace CT
open PySem L2 PySem.Spec PyProof.Rows
/-! ### data as the library's own -/
section
variable {k : Cn} {A : Nat → Addr} {C : Store} {H : Hp}
mutual
theorem toP0_dp : ∀ {v : V} {d : D} {p : PyData}, Rep k A C H v d → toP0 d = some p → Dp k.K H v p
  | _, _, _, .non, e => by simp only [toP0] at e; cases e; exact .non
  | _, _, _, .bl b, e => by simp only [toP0] at e; cases e; exact .bl b
  | _, _, _, .int i, e => by simp only [toP0] at e; cases e; exact .int i
  | _, _, _, .str s, e => by simp only [toP0] at e; cases e; exact .str s
  | _, _, _, .lst l h r, e => by
    simp only [toP0, Option.map_eq_some_iff] at e
    obtain ⟨ps, e1, rfl⟩ := e
    exact .lst (.inl (.inl h)) (toP0s_dp r e1)
  | _, _, _, .tup l h r, e => by
    simp only [toP0, Option.map_eq_some_iff] at e
    obtain ⟨ps, e1, rfl⟩ := e
    exact .tup (.inl (.inl h)) (toP0s_dp r e1)
  | _, _, _, .ktup h r, e => by
    simp only [toP0, Option.map_eq_some_iff] at e
    obtain ⟨ps, e1, rfl⟩ := e
    exact .tup (.inr h) (toP0s_dp r e1)
  | _, _, _, .scr l h r, e => by simp only [toP0] at e; cases e
  | _, _, _, .kscr h r, e => by simp only [toP0] at e; cases e
  | _, _, _, .obj l h z r, e => by simp only [toP0] at e; cases e
  | _, _, _, .exn x l h z r, e => by simp only [toP0] at e; cases e
  | _, _, _, .cls c, e => by simp only [toP0] at e; cases e
  | _, _, _, .dT l h r, e => by simp only [toP0] at e; cases e
  | _, _, _, .cell hi, e => by simp only [toP0] at e; cases e
theorem toP0s_dp : ∀ {vs : List V} {ds : List D} {ps : List PyData}, RepL k A C H vs ds → toP0s ds = some ps → DpAll k.K H vs ps
  | _, _, _, .nil, e => by simp only [toP0s] at e; cases e; exact .nil
  | _, _, _, .cons (d := d) (ds := ds) r t, e => by
    simp only [toP0s] at e
    cases e1 : toP0 d with
    | none => rw [e1] at e; cases e
    | some p =>
      cases e2 : toP0s ds with
      | none => rw [e1, e2] at e; cases e
      | some ps =>
        rw [e1, e2] at e
        cases e
        exact .cons (toP0_dp r e1) (toP0s_dp t e2)
end
mutual
theorem toP_dp (st : StOk k A C H) : ∀ {v : V} {d : D} {p : PyData}, Rep k A C H v d → toP C d = some p → Dp k.K H v p
  | _, _, _, .non, e => by simp only [toP] at e; cases e; exact .non
  | _, _, _, .bl b, e => by simp only [toP] at e; cases e; exact .bl b
  | _, _, _, .int i, e => by simp only [toP] at e; cases e; exact .int i
  | _, _, _, .str s, e => by simp only [toP] at e; cases e; exact .str s
  | _, _, _, .lst l h r, e => by
    simp only [toP, Option.map_eq_some_iff] at e
    obtain ⟨ps, e1, rfl⟩ := e
    exact .lst (.inl (.inl h)) (toPs_dp st r e1)
  | _, _, _, .tup l h r, e => by
    simp only [toP, Option.map_eq_some_iff] at e
    obtain ⟨ps, e1, rfl⟩ := e
    exact .tup (.inl (.inl h)) (toPs_dp st r e1)
  | _, _, _, .ktup h r, e => by
    simp only [toP, Option.map_eq_some_iff] at e
    obtain ⟨ps, e1, rfl⟩ := e
    exact .tup (.inr h) (toPs_dp st r e1)
  | _, _, _, .scr l h r, e => by simp only [toP] at e; cases e
  | _, _, _, .kscr h r, e => by simp only [toP] at e; cases e
  | _, _, _, .obj l h z r, e => by simp only [toP] at e; cases e
  | _, _, _, .exn x l h z r, e => by simp only [toP] at e; cases e
  | _, _, _, .cls c, e => by simp only [toP] at e; cases e
  | _, _, _, .dT l h r, e => by simp only [toP] at e; cases e
  | _, _, _, .cell (i := i) hi, e => by
    simp only [toP] at e
    split at e
    · rename_i xs ec
      simp only [Option.map_eq_some_iff] at e
      obtain ⟨ps, e1, rfl⟩ := e
      obtain ⟨vs, hv, rv⟩ := st.at_ i _ ec
      exact .lst (.inl (.inl hv)) (toP0s_dp rv e1)
    · cases e
theorem toPs_dp (st : StOk k A C H) : ∀ {vs : List V} {ds : List D} {ps : List PyData}, RepL k A C H vs ds → toPs C ds = some ps → DpAll k.K H vs ps
  | _, _, _, .nil, e => by simp only [toPs] at e; cases e; exact .nil
  | _, _, _, .cons (d := d) (ds := ds) r t, e => by
    simp only [toPs] at e
    cases e1 : toP C d with
    | none => rw [e1] at e; cases e
    | some p =>
      cases e2 : toPs C ds with
      | none => rw [e1, e2] at e; cases e
      | some ps =>
        rw [e1, e2] at e
        cases e
        exact .cons (toP_dp st r e1) (toPs_dp st t e2)
end
end
/-! ### == and != of data -/
theorem d_eqD {k : Cn} : OpD k (rEqD k.K) (oEqD false) := by
  intro fl A C H x y dx dy d C' Q hf hl st rx ry e q
  simp only [oEqD] at e
  split at e
  · rename_i p q' e1 e2
    split at e
    · rename_i hs
      simp only [Bool.and_eq_true] at hs
      cases e
      exact ⟨p, q', toP_dp st rx e1, toP_dp st ry e2, hs.1, hs.2, q A H _ Stp.refl st (.bl _)⟩
    · cases e
  · cases e
theorem d_neD {k : Cn} : OpD k (rNeD k.K) (oEqD true) := by
  intro fl A C H x y dx dy d C' Q hf hl st rx ry e q
  simp only [oEqD] at e
  split at e
  · rename_i p q' e1 e2
    split at e
    · rename_i hs
      simp only [Bool.and_eq_true] at hs
      cases e
      exact ⟨p, q', toP_dp st rx e1, toP_dp st ry e2, hs.1, hs.2, q A H _ Stp.refl st (.bl _)⟩
    · cases e
  · cases e
/-! ### repr -/
def rReprD (K : PySem.W.Frag) : List V → Hp → VK → Prop := fun xs H Q => ∃ v d, xs = [v] ∧ Dp K H v d ∧ d.showable = true ∧ d.hasDict = false ∧ d.depth ≤ 60 ∧ d.shown.length ≤ sizeLine ∧ Q (.str d.shown) H
theorem call_reprD {X : Cx} (hr : RoomG 0 X.A) : CallR X (.builtin "repr") (rReprD X.K) := by
  intro pins s σ H xs us Q I r h
  obtain ⟨v, d, rfl, hd, h1, h2, h3, h4, q⟩ := h
  obtain ⟨u, rfl, ru⟩ := Vals.one r
  have un : X.A.units + 200 < cLine := by have := hr.room.un; omega
  obtain ⟨as, rd⟩ := Dp.reads I d v u hd ru
  have fin : ∀ (t : Tok) (h' : Heap) (tk : Nat), (∀ b o, s.heap.get? b = some o → h'.get? b = some o) → EP X pins σ Q (.str d.shown t) { s with heap := h', toks := tk } := fun t h' tk hk => ⟨.str d.shown, H, I.kept (t' := tk) hk, ⟨_, rfl⟩, q⟩
  cases hd with
  | non =>
    cases ru
    exact PySem.P.repr_of_none (fin _ _ _ fun _ _ e => e)
  | bl b =>
    cases ru
    exact PySem.P.repr_of_bool (fin _ _ _ fun _ _ e => e)
  | int i =>
    obtain ⟨t, rfl⟩ := ru
    exact PySem.P.repr_of_int (by simpa [PyData.showable] using h1) (fin _ _ _ fun _ _ e => e)
  | str x =>
    obtain ⟨t, rfl⟩ := ru
    exact PySem.P.repr_of_str (fin _ _ _ fun _ _ e => e) h4
  | lst hs ha =>
    cases ru
    exact repr_of_reads' rd h1 (PyData.noDict_hsm h2) hr.gd (by omega) (fun _ _ e => e) (fun h' u tk hk => fin u h' tk hk) h4
  | tup hs ha =>
    cases ru
    exact repr_of_reads' rd h1 (PyData.noDict_hsm h2) hr.gd (by omega) (fun _ _ e => e) (fun h' u tk hk => fin u h' tk hk) h4
def oRepr : OA := fun xs C => match xs with
  | [d] => match toP C d with
    | some p => if repOk p = true then some (.str p.shown, C) else none
    | none => none
  | _ => none
theorem d_repr {k : Cn} : ApD k (rReprD k.K) oRepr := by
  intro fl A C H x dx d C' Q hf hl st rx e q
  unfold oRepr at e
  split at e
  · rename_i d0
    split at e
    · rename_i p ep
      split at e
      · rename_i ho
        cases e
        cases rx with
        | cons r t =>
          cases t
          simp only [repOk, Bool.and_eq_true, Bool.not_eq_true', decide_eq_true_eq] at ho
          exact ⟨_, p, rfl, toP_dp st r ep, ho.1.1.1, ho.1.1.2, ho.1.2, szN_le ho.2, q A H _ Stp.refl st (.str _)⟩
      · cases e
    · cases e
  · cases e
/-! ### len, sums, least, greatest, conversions -/
def oLen : OA := fun xs C => match xs with
  | [d] => (vS d C).map fun ys => (.int ys.length, C)
  | _ => none
theorem d_len {k : Cn} : ApD k (fun xs H Q => ∃ p ys, xs = [.ref p] ∧ (SqL k.K H p ys ∨ SqT k.K H p ys) ∧ Q (.int ys.length) H) oLen := by
  intro fl A C H x dx d C' Q hf hl st rx e q
  unfold oLen at e
  split at e
  · rename_i d0
    simp only [Option.map_eq_some_iff] at e
    obtain ⟨ys, e1, e2⟩ := e
    cases e2
    cases rx with
    | cons r t =>
      cases t
      obtain ⟨a, vs, rfl, hs, rv⟩ := vS_at st r e1
      exact ⟨a, vs, rfl, hs, q A H _ Stp.refl st (by rw [rv.length]; exact .int _)⟩
  · cases e
theorem dInts_eq : ∀ {ds : List D} {ns : List Int}, dInts ds = some ns → ds = ns.map D.int
  | [], _, e => by cases e; rfl
  | .int i :: r, _, e => by
    simp only [dInts, Option.map_eq_some_iff] at e
    obtain ⟨l, e1, rfl⟩ := e
    rw [dInts_eq e1]
    rfl
  | .non :: _, _, e => by cases e
  | .bl _ :: _, _, e => by cases e
  | .str _ :: _, _, e => by cases e
  | .lst _ :: _, _, e => by cases e
  | .tup _ :: _, _, e => by cases e
  | .scr _ :: _, _, e => by cases e
  | .kt _ :: _, _, e => by cases e
  | .obj _ _ :: _, _, e => by cases e
  | .exn _ _ :: _, _, e => by cases e
  | .cls _ :: _, _, e => by cases e
  | .dT _ _ :: _, _, e => by cases e
  | .cell _ :: _, _, e => by cases e
theorem dBools_eq : ∀ {ds : List D} {ns : List Bool}, dBools ds = some ns → ds = ns.map D.bl
  | [], _, e => by cases e; rfl
  | .bl i :: r, _, e => by
    simp only [dBools, Option.map_eq_some_iff] at e
    obtain ⟨l, e1, rfl⟩ := e
    rw [dBools_eq e1]
    rfl
  | .non :: _, _, e => by cases e
  | .int _ :: _, _, e => by cases e
  | .str _ :: _, _, e => by cases e
  | .lst _ :: _, _, e => by cases e
  | .tup _ :: _, _, e => by cases e
  | .scr _ :: _, _, e => by cases e
  | .kt _ :: _, _, e => by cases e
  | .obj _ _ :: _, _, e => by cases e
  | .exn _ _ :: _, _, e => by cases e
  | .cls _ :: _, _, e => by cases e
  | .dT _ _ :: _, _, e => by cases e
  | .cell _ :: _, _, e => by cases e
def oSum : OA := fun xs C => match xs with
  | [d] => (vL d C).bind fun ys => (dInts ys).map fun ns => (.int ns.sum, C)
  | _ => none
def oAny : OA := fun xs C => match xs with
  | [d] => (vL d C).bind fun ys => (dBools ys).map fun ns => (.bl (ns.any id), C)
  | _ => none
def oAll : OA := fun xs C => match xs with
  | [d] => (vL d C).bind fun ys => (dBools ys).map fun ns => (.bl (ns.all id), C)
  | _ => none
theorem d_sum {k : Cn} : ApD k (rSum k.K) oSum := by
  intro fl A C H x dx d C' Q hf hl st rx e q
  unfold oSum at e
  split at e
  · simp only [Option.bind_eq_some_iff, Option.map_eq_some_iff] at e
    obtain ⟨ys, e1, ns, e2, e3⟩ := e
    cases e3
    cases rx with
    | cons r t =>
      cases t
      obtain ⟨a, vs, rfl, ha, rv⟩ := vL_at st r e1
      rw [dInts_eq e2] at rv
      have := rv.ints_inv
      subst this
      exact ⟨a, ns, rfl, .inl (.inl ha), q A H _ Stp.refl st (.int _)⟩
  · cases e
theorem d_any {k : Cn} : ApD k (rAny k.K) oAny := by
  intro fl A C H x dx d C' Q hf hl st rx e q
  unfold oAny at e
  split at e
  · simp only [Option.bind_eq_some_iff, Option.map_eq_some_iff] at e
    obtain ⟨ys, e1, ns, e2, e3⟩ := e
    cases e3
    cases rx with
    | cons r t =>
      cases t
      obtain ⟨a, vs, rfl, ha, rv⟩ := vL_at st r e1
      rw [dBools_eq e2] at rv
      have := rv.bls_inv
      subst this
      exact ⟨a, ns, rfl, .inl (.inl ha), q A H _ Stp.refl st (.bl _)⟩
  · cases e
theorem d_all {k : Cn} : ApD k (rAll k.K) oAll := by
  intro fl A C H x dx d C' Q hf hl st rx e q
  unfold oAll at e
  split at e
  · simp only [Option.bind_eq_some_iff, Option.map_eq_some_iff] at e
    obtain ⟨ys, e1, ns, e2, e3⟩ := e
    cases e3
    cases rx with
    | cons r t =>
      cases t
      obtain ⟨a, vs, rfl, ha, rv⟩ := vL_at st r e1
      rw [dBools_eq e2] at rv
      have := rv.bls_inv
      subst this
      exact ⟨a, ns, rfl, .inl (.inl ha), q A H _ Stp.refl st (.bl _)⟩
  · cases e
theorem d_2I {k : Cn} (g : Int → Int → Int) : ApD k (fun xs H Q => ∃ i j, xs = [.int i, .int j] ∧ Q (.int (g i j)) H) (o2I g) := by
  intro fl A C H x dx d C' Q hf hl st rx e q
  unfold o2I at e
  split at e
  · rename_i i j
    cases e
    cases rx with
    | cons r t =>
      cases t with
      | cons r2 t2 =>
        cases t2
        cases r
        cases r2
        exact ⟨i, j, rfl, q A H _ Stp.refl st (.int _)⟩
  · cases e
theorem d_max2 {k : Cn} : ApD k (fun xs H Q => ∃ i j, xs = [.int i, .int j] ∧ Q (.int (if j > i then j else i)) H) oMax2 := d_2I _
theorem d_min2 {k : Cn} : ApD k (fun xs H Q => ∃ i j, xs = [.int i, .int j] ∧ Q (.int (if j < i then j else i)) H) oMin2 := d_2I _
theorem d_abs {k : Cn} : ApD k (fun xs H Q => ∃ i, xs = [.int i] ∧ Q (.int (if i < 0 then -i else i)) H) oAbs := by
  intro fl A C H x dx d C' Q hf hl st rx e q
  unfold oAbs at e
  split at e
  · rename_i i
    cases e
    cases rx with
    | cons r t =>
      cases t
      cases r
      exact ⟨i, rfl, q A H _ Stp.refl st (.int _)⟩
  · cases e
theorem d_int {k : Cn} : ApD k (fun xs H Q => (∃ i, xs = [.int i] ∧ Q (.int i) H) ∨ ∃ k, xs = [.bl k] ∧ Q (.int (if k then 1 else 0)) H) oInt := by
  intro fl A C H x dx d C' Q hf hl st rx e q
  unfold oInt at e
  split at e
  · rename_i i
    cases e
    cases rx with
    | cons r t =>
      cases t
      cases r
      exact .inl ⟨i, rfl, q A H _ Stp.refl st (.int _)⟩
  · rename_i i
    cases e
    cases rx with
    | cons r t =>
      cases t
      cases r
      exact .inr ⟨i, rfl, q A H _ Stp.refl st (.int _)⟩
  · cases e
theorem d_tupOf {k : Cn} : ApD k (fun xs H Q => ∃ p ys, xs = [.ref p] ∧ ((SqL k.K H p ys ∧ ∀ l, H l = none → Q (.ref l) (upd H l (.tup ys))) ∨ (SqT k.K H p ys ∧ Q (.ref p) H))) oTupOf := by
  intro fl A C H x dx d C' Q hf hl st rx e q
  unfold oTupOf at e
  split at e
  · cases e
    cases rx with
    | cons r t =>
      cases t
      obtain ⟨a, vs, rfl, hs, rv⟩ := vT_at r rfl
      exact ⟨a, vs, rfl, .inr ⟨hs, q A H _ Stp.refl st r⟩⟩
  · cases e
    cases rx with
    | cons r t =>
      cases t
      obtain ⟨a, vs, rfl, hs, rv⟩ := vT_at r rfl
      exact ⟨a, vs, rfl, .inr ⟨hs, q A H _ Stp.refl st r⟩⟩
  · simp only [Option.map_eq_some_iff] at e
    obtain ⟨ys, e1, e2⟩ := e
    cases e2
    cases rx with
    | cons r t =>
      cases t
      obtain ⟨a, vs, rfl, ha, rv⟩ := vL_at st r e1
      refine ⟨a, vs, rfl, .inl ⟨.inl (.inl ha), fun l hl => ?_⟩⟩
      obtain ⟨w1, w2, w3⟩ := fresh_T (fl := fl) st rv hl
      exact q A _ _ w1 w2 w3
  · cases e
/-! ### + and * of lists, + of tuples -/
def oRep (own : Bool) : O2 := fun x y C => match vL x C, y with
  | some xs, .int n => if (decide (-(2 ^ 63) ≤ n) && decide (n < 2 ^ 63) && szN (xs.length * n.toNat)) = true then some (mkL own (List.replicate n.toNat xs).flatten C) else none
  | _, _ => none
theorem d_rep {k : Cn} (own : Bool) : OpD k rRep (oRep own) := by
  intro fl A C H x y dx dy d C' Q hf hl st rx ry e q
  unfold oRep at e
  split at e
  · rename_i xs n e1
    split at e
    · rename_i hz
      simp only [Bool.and_eq_true, decide_eq_true_eq] at hz
      obtain ⟨a, vs, rfl, ha, rv⟩ := vL_at st rx e1
      cases ry
      refine ⟨a, n, vs, rfl, rfl, ha, hz.1.1, hz.1.2, by rw [rv.length]; exact szN_le hz.2, fun p hp => ?_⟩
      obtain ⟨A2, w1, w2, w3⟩ := fresh_L (own := own) hf st (rv.rep n.toNat) hp
      have e' := Option.some.inj e
      rw [e'] at w1 w2 w3
      exact q A2 _ _ w1 w2 w3
    · cases e
  · cases e
def oCatT : O2 := fun x y C => match vT x, vT y with
  | some xs, some ys => if szN (xs.length + ys.length) = true then (if xs.isEmpty = true then some (y, C) else if ys.isEmpty = true then some (x, C) else some (.tup (xs ++ ys), C)) else none
  | _, _ => none
theorem d_catT {k : Cn} : OpD k (rCatA k.K) oCatT := by
  intro fl A C H x y dx dy d C' Q hf hl st rx ry e q
  unfold oCatT at e
  split at e
  · rename_i xs ys e1 e2
    obtain ⟨a, vs, rfl, ha, rv⟩ := vT_at rx e1
    obtain ⟨b, ws, rfl, hb, rw⟩ := vT_at ry e2
    have z1 : vs = [] ↔ xs = [] := by
      have := rv.length
      constructor
      · intro h; subst h; exact List.length_eq_zero_iff.mp (by simpa using this.symm)
      · intro h; subst h; exact List.length_eq_zero_iff.mp (by simpa using this)
    have z2 : ws = [] ↔ ys = [] := by
      have := rw.length
      constructor
      · intro h; subst h; exact List.length_eq_zero_iff.mp (by simpa using this.symm)
      · intro h; subst h; exact List.length_eq_zero_iff.mp (by simpa using this)
    split at e
    · rename_i hz
      refine ⟨a, b, vs, ws, rfl, rfl, ha, hb, by rw [rv.length, rw.length]; exact szN_le hz, fun h => ?_, fun h h' => ?_, fun h h' p hp => ?_⟩
      · rw [if_pos (by simpa using z1.mp h)] at e
        cases e
        exact q A H _ Stp.refl st ry
      · have n1 : ¬ (xs.isEmpty = true) := by simpa using fun z => h (z1.mpr z)
        rw [if_neg n1, if_pos (by simpa using z2.mp h')] at e
        cases e
        exact q A H _ Stp.refl st rx
      · have n1 : ¬ (xs.isEmpty = true) := by simpa using fun z => h (z1.mpr z)
        have n2 : ¬ (ys.isEmpty = true) := by simpa using fun z => h' (z2.mpr z)
        rw [if_neg n1, if_neg n2] at e
        cases e
        obtain ⟨w1, w2, w3⟩ := fresh_T (fl := fl) st (rv.append rw) hp
        exact q A _ _ w1 w2 w3
    · cases e
  · cases e
/-! ### slices of lists -/
theorem cutD_rep {k : Cn} {A : Nat → Addr} {C : Store} {H : Hp} {vs : List V} {xs : List D} (r : RepL k A C H vs xs) (lo hi : Option Int) : RepL k A C H (cutV vs lo hi) (cutD xs lo hi) := by
  unfold cutV cutD
  rw [r.length]
  exact (r.drop _).take _
def LO (k : Cn) (W : WX) (m : Fr → Store → R (Option Int)) : TO := fun σ H Q => ∃ A F C, SR k A F C σ H ∧ Aft k F.fl A C H (fun _ _ _ (v d : Option Int) => v = d) (m F C) (fun _ _ _ H' v => Q v H') (fun c d H' => W c d σ H')
section
variable {X : Cx} {k : Cn} {W : WX} {σ : L2.St} {H : Hp} {Q : VK}
theorem _root_.L2.PO.cq {X : Cx} {e : Option Expr} {t t' : TO} (h : PO X e t) (c : ∀ σ H Q, t' σ H Q → t σ H Q) : PO X e t' := ⟨fun pins s σ H Q I q => h.run pins s σ H Q I (c σ H Q q)⟩
theorem do_none : PO X none (LO k W mNoPart) := po_none.cq fun σ H Q h => by
  obtain ⟨A, F, C, s, h⟩ := h
  exact h A H none Stp.refl s.st rfl
theorem do_some {e : Expr} {m : ME} (h : PE X e (LE k W m)) : PO X (some e) (LO k W (mPart m)) := (po_some h).cq fun σ H Q h => by
  obtain ⟨A, F, C, s, h⟩ := h
  refine ⟨A, F, C, s, (Aft.bnd (rel := RepD k) h).mono fun dx C1 A1 H1 x p1 st1 rx h1 => ?_⟩
  cases rx with
  | int i => exact ⟨i, rfl, h1 A1 H1 (some i) Stp.refl st1 rfl⟩
  | _ => exact h1.elim
theorem vLs_at {A : Nat → Addr} {C : Store} {v : V} {d : D} {ds : List D} (st : StOk k A C H) (r : Rep k A C H v d) (e : vLs d C = some ds) : ∃ a vs, v = .ref a ∧ SqL k.K H a vs ∧ RepL k A C H vs ds := by
  cases d with
  | scr xs =>
    cases r with
    | scr l h rv => cases e; exact ⟨_, _, rfl, .inl (.inr ⟨_, h⟩), rv⟩
    | kscr h rv => cases e; exact ⟨_, _, rfl, .inr h, rv⟩
  | lst xs => obtain ⟨a, vs, rfl, ha, rv⟩ := vL_at st r e; exact ⟨a, vs, rfl, .inl (.inl ha), rv⟩
  | cell i => obtain ⟨a, vs, rfl, ha, rv⟩ := vL_at st r e; exact ⟨a, vs, rfl, .inl (.inl ha), rv⟩
  | _ => cases e
theorem le_slL {own : Bool} {ma : ME} {l h' : Fr → Store → R (Option Int)} (h : LE k W (mSlL own ma l h') σ H Q) : tSl (rSlL k.K) (LE k W ma) (LO k W l) (LO k W h') σ H Q := by
  obtain ⟨A, F, C, s, h⟩ := h
  refine ⟨A, F, C, s, (Aft.bnd (rel := RepD k) h).mono fun dx C1 A1 H1 x p1 st1 rx h1 => ?_⟩
  have s1 := s.step p1 st1
  refine ⟨A1, F, C1, s1, (Aft.bnd (rel := fun _ _ _ (v d : Option Int) => v = d) h1).mono fun lo C2 A2 H2 lo' p2 st2 rl h2 => ?_⟩
  have rl : lo' = lo := rl
  subst rl
  have s2 := s1.step p2 st2
  refine ⟨A2, F, C2, s2, (Aft.bnd (rel := fun _ _ _ (v d : Option Int) => v = d) h2).mono fun hi C3 A3 H3 hi' p3 st3 rh h3 => ?_⟩
  have rh : hi' = hi := rh
  subst rh
  have s3 := s2.step p3 st3
  split at h3
  · rename_i xs ev
    obtain ⟨a, vs, rfl, ha, rv⟩ := vLs_at st3 (p3.rep _ _ (p2.rep _ _ rx)) ev
    refine ⟨a, vs, rfl, ha, fun p hp => ?_⟩
    obtain ⟨A4, w1, w2, w3⟩ := fresh_L (own := own) s3.fl st3 (cutD_rep rv lo' hi') hp
    exact h3 A4 _ _ w1 w2 w3
  · exact h3.elim
theorem de_slL (own : Bool) {e : Expr} {lo hi : Option Expr} {p2 pos : Pos} {ma : ME} {l h : Fr → Store → R (Option Int)} (hK : X.K = k.K) (he : PE X e (LE k W ma)) (hl : PO X lo (LO k W l)) (hu : PO X hi (LO k W h)) : PE X (.Subscript e (.Slice lo hi none p2) pos) (LE k W (mSlL own ma l h)) :=
  (pe_slice sl_list he hl hu).cq fun _ _ _ h => by
    rw [hK]
    exact le_slL h
end
end CT
set_option maxHeartbeats 4000000
/-! DLA: instances made, attributes stored, properties, isinstance. -/
namespace CT
open PySem L2 PySem.Spec PyProof.Rows
/-! ### C(..) -/
def mMake (own : Bool) (c nf : Nat) (m : MF) (dds : List D) (a : MA) : ME := fun F C => bnd (a F C) fun ds C1 => match m (.cell C1.length :: (ds ++ dds)) (C1 ++ [some (.ins c [])]) with
  | .ok .non C2 => if own = true then .ok (.cell C1.length) C2 else (match C2[C1.length]? with
    | some (some (.ins c' fs)) => if c' = c ∧ fs.length = nf ∧ cbL C1.length fs = true then .ok (.obj c fs) (C2.take C1.length) else .stuck
    | _ => .stuck)
  | .exc e C2 => if cbL C1.length e.fs = true then .exc e (C2.take C1.length) else .stuck
  | _ => .stuck
def tMakeS (Cc : Addr) (sp : Sp) (dvs : List V) (E : L2.St → XK) (t : TA) : TE := fun σ H Q => t σ H fun vs H1 => ∀ x dx, H1 x = none → H1 dx = none → dx ≠ x →
  sp (.ref x :: (vs ++ dvs)) (upd (upd H1 dx (.own x)) x (.ins Cc dx [])) (fun v H2 => v = .non ∧ Q (.ref x) H2) (E σ)
section
variable {X : Cx} {k : Cn} {W : WX} {σ : L2.St} {H : Hp} {Q : VK} {lev : Nat} {f C p g : Addr} {fd : FuncData} {ps : List Str} {np : Nat} {m : MF} {dvs : List V} {dds : List D} {ds : List Value} {x nm : Str} {pn pos apos : Pos} {e o : Expr} {es : List Expr} {ma : MA} {mo : ME}
theorem run_makeG {sp : Sp} {E : L2.St → XK} {pins : List (Addr × Obj)} {σ : L2.St} {H : Hp} {s : Shared} {Q : VK} {us : List Value} {vs : List V} (M : Mk X.K C f) (F : FnG X.prog X.w X.K X.mg X.base lev f fd ps sp) (hr : RoomG (lev + 1) X.A) (hb : Binds X.K fd ps ds) (hd : Vals dvs ds)
    (hx : ∀ σ, PassesAt (L2.CX X.prog X.w) X σ (E σ)) (I : Inv X pins σ H s) (r : Vals vs us)
    (h : ∀ x dx, H x = none → H dx = none → dx ≠ x → sp (.ref x :: (vs ++ dvs)) (upd (upd H dx (.own x)) x (.ins C dx [])) (fun v H2 => v = .non ∧ Q (.ref x) H2) (E σ)) :
    wpAny (model X.prog X.w) X.A (call (.ref C) us) (EP X pins σ Q) X.xe s := by
  have hq := h (s.heap.objs.size + 1) s.heap.objs.size (I.hok.fresh (Nat.le_succ _)) (I.hok.fresh (Nat.le_refl _)) (Nat.ne_of_lt (Nat.lt_succ_self _))
  have I2 := Inv.made (C := C) I
  have r2 : Vals (V.ref (s.heap.objs.size + 1) :: (vs ++ dvs)) (Value.ref (s.heap.objs.size + 1) :: (us ++ ds)) := .cons rfl (r.append hd)
  have hl : (Value.ref (s.heap.objs.size + 1) :: us ++ ds).length = ps.length := by
    have e := r2.length
    rw [F.len _ _ _ _ hq] at e
    exact e.symm
  refine wpAny_call (make_map (f := f) I.kIn M.makes M.init (beq_iff_eq.mp M.fn) (codeAny_mono (F.run _ X.stack _ _ ⟨Value.ref (s.heap.objs.size + 1) :: us, []⟩ (Value.ref (s.heap.objs.size + 1) :: (us ++ ds)) _ _ (E σ) (hr.make C us [])
    (I2.env0.make C us []) (hb _ (Value.ref (s.heap.objs.size + 1) :: us) I2.kIn hl) r2 hq) fun r s' hq' => ?_))
  cases r with
  | error e => exact hx σ pins _ _ e s' I2 hq'
  | ok fl =>
    cases fl with
    | ret u =>
      obtain ⟨v, H', I3, rv, ev, q3⟩ := I2.after hq'
      subst ev
      exact ⟨rv, ⟨V.ref (s.heap.objs.size + 1), H', I3, rfl, q3⟩⟩
    | next => exact False.elim hq'
    | brk => exact False.elim hq'
    | cont => exact False.elim hq'
theorem pe_makeG {sp : Sp} {E : L2.St → XK} {t : TA} (M : Mk X.K C f) (F : FnG X.prog X.w X.K X.mg X.base lev f fd ps sp) (hr : RoomG (lev + 1) X.A) (hg : Gl X x) (hm : X.mg x = some (.ref C)) (hb : Binds X.K fd ps ds) (hd : Vals dvs ds) (hx : ∀ σ, PassesAt (L2.CX X.prog X.w) X σ (E σ))
    (ha : PA X (e :: es) t) (hdb : (x == ("__debug__" : Str)) = false := by decide) (he : starEach (e :: es) X.env = (false, eval e X.env) :: starEach es X.env := by rfl) (hpl : (backTo pos (starEach es X.env)).any (·.1) = false := by rfl) :
    PE X (.Call (.Name x pn) (e :: es) [] pos) (tMakeS C sp dvs E t) := by
  refine ⟨fun pins s σ H Q I h => ?_⟩
  refine wpAny_Call_Name_kw (ld_glob I hg hm ?_ hdb)
  refine PySem.W.callWith_K (h₀ := X.base) I.ok.mod.kin M.kp (thn (ha.run pos pins s σ H _ I h) fun us s1 ⟨vs, H1, I1, r, q⟩ => ⟨I1.kIn, ?_⟩) he hpl
  exact run_makeG M F hr hb hd hx I1 r q
theorem le_make {own : Bool} {c nf : Nat} (ar : Ar np m) (hnf : (k.fn c).length = nf) (hdd : ∀ A C H, RepL k A C H dvs dds) (h : LE k W (mMake own c nf m dds ma) σ H Q) : tMakeS (k.cl c) (SpD k np m) dvs (WE W) (LA k W ma) σ H Q := by
  obtain ⟨A, F, C, s, h⟩ := h
  refine ⟨A, F, C, s, (Aft.bnd (rel := RepDs k) h).mono fun xs C1 A1 H1 vs p1 st1 r1 h1 => ?_⟩
  have s1 := s.step p1 st1
  intro x dx hx hdx hne
  have hx' : (upd H1 dx (.own x)) x = none := by rw [upd_ne (Ne.symm hne)]; exact hx
  have k1 : Kp A1 C1 H1 A1 C1 (upd H1 dx (.own x)) := kp_new hdx
  have st2 : StOk k A1 C1 (upd H1 dx (.own x)) := st1.new hdx
  have k2 : Kp A1 C1 (upd H1 dx (.own x)) (ext A1 C1.length x) (C1 ++ [some (.ins c [])]) (upd (upd H1 dx (.own x)) x (.ins (k.cl c) dx [])) := kp_cell (k := k) st2 hx'
  have st3 : StOk k (ext A1 C1.length x) (C1 ++ [some (.ins c [])]) (upd (upd H1 dx (.own x)) x (.ins (k.cl c) dx [])) := st2.cell hx' ⟨dx, [], upd_same, Nat.zero_le _, .nil⟩
  have pp : Stp k C1.length A1 C1 H1 (ext A1 C1.length x) (C1 ++ [some (.ins c [])]) (upd (upd H1 dx (.own x)) x (.ins (k.cl c) dx [])) := (k1.stp0).trans (k2.stp fun f h1 h2 l => low_app h2 l)
  have ppF := pp.less s1.fl
  have n1 : C1.length < (C1 ++ [some (Cell.ins c [])]).length := by simp
  have rs : RepL k (ext A1 C1.length x) (C1 ++ [some (.ins c [])]) (upd (upd H1 dx (.own x)) x (.ins (k.cl c) dx [])) (.ref x :: (vs ++ dvs)) (.cell C1.length :: (xs ++ dds)) := .cons (rep_new C1.length _) ((pp.reps r1).append (hdd _ _ _))
  have low0 : LowC C1.length (C1 ++ [some (Cell.ins c [])]) := low_app (Nat.le_refl _) st1.low
  refine sp_of (fl := C1.length) (Nat.le_of_lt n1) ar st3 rs ?_
  cases em : m (.cell C1.length :: (xs ++ dds)) (C1 ++ [some (.ins c [])]) with
  | ok d C2 =>
    rw [em] at h1
    intro A3 H3 v p3 st4 r3
    obtain ⟨ha3, hl3⟩ := cell_at p3 (ext_at A1 C1.length x) n1
    have p3n : Stp k C1.length A1 C1 H1 A3 C2 H3 := pp.trans p3
    have low3 : LowC C1.length C2 := p3.low _ (Nat.le_refl _) (Nat.le_of_lt n1) low0
    cases d with
    | non =>
      cases r3
      refine ⟨rfl, ?_⟩
      simp only at h1
      cases own with
      | true =>
        rw [if_pos rfl] at h1
        have r : Rep k A3 C2 H3 (.ref (A3 C1.length)) (.cell C1.length) := .cell hl3
        rw [ha3] at r
        exact h1 A3 H3 _ (p3n.less s1.fl) st4 r
      | false =>
        rw [if_neg (by decide)] at h1
        split at h1
        · rename_i c' fs ec
          split at h1
          · rename_i hc
            obtain ⟨rfl, hfs, hcb⟩ := hc
            obtain ⟨dx3, ws, hw, hle, rw3⟩ := st4.at_ _ _ ec
            have tl : (C2.take C1.length).length = C1.length := by rw [List.length_take]; omega
            have p4 : Stp k F.fl A1 C1 H1 A3 (C2.take C1.length) H3 := ⟨fun v d r => (p3n.rep v d r).cut (Nat.le_of_lt hl3) r.cb, by rw [tl]; exact Nat.le_refl _, fun f h1 h2 l => low_take ((p3n.less s1.fl).low f h1 h2 l)⟩
            refine h1 A3 H3 _ p4 (st4.take (Nat.le_of_lt hl3) low3) ?_
            rw [← ha3]
            refine .obj (fun l => ?_) (dx := dx3) (vs := ws) ?_ ?_ (rw3.cut (Nat.le_of_lt hl3) hcb)
            · obtain ⟨i, c, e, z⟩ := l
              by_cases hi : i < C1.length
              · rw [List.getElem?_take_of_lt hi] at e
                exact absurd (st4.inj i _ _ _ e ec z) (Nat.ne_of_lt hi)
              · rw [List.getElem?_eq_none (by rw [tl]; omega)] at e
                cases e
            · rw [hw, hfs, ← hnf, List.take_length]
            · rw [rw3.length, hfs, hnf]
          · exact h1.elim
        · exact h1.elim
    | _ => simp only at h1; exact h1.elim
  | exc e C2 =>
    rw [em] at h1
    simp only at h1
    intro A3 H3 dd ws p3 st4 hx3 hl3' r3
    obtain ⟨ha3, hl3⟩ := cell_at p3 (ext_at A1 C1.length x) n1
    have p3n : Stp k C1.length A1 C1 H1 A3 C2 H3 := pp.trans p3
    have low3 : LowC C1.length C2 := p3.low _ (Nat.le_refl _) (Nat.le_of_lt n1) low0
    split at h1
    · rename_i hcb
      have tl : (C2.take C1.length).length = C1.length := by rw [List.length_take]; omega
      have p4 : Stp k F.fl A1 C1 H1 A3 (C2.take C1.length) H3 := ⟨fun v d r => (p3n.rep v d r).cut (Nat.le_of_lt hl3) r.cb, by rw [tl]; exact Nat.le_refl _, fun f h1 h2 l => low_take ((p3n.less s1.fl).low f h1 h2 l)⟩
      exact h1 A3 H3 dd ws p4 (st4.take (Nat.le_of_lt hl3) low3) hx3 hl3' (r3.cut (Nat.le_of_lt hl3) hcb)
    · exact h1.elim
  | stuck =>
    rw [em] at h1
    exact h1.elim
theorem de_make (own : Bool) (c nf : Nat) (tk : Takes X W) (hK : X.K = k.K) (M : Mk k.K (k.cl c) f) (F : FnG X.prog X.w X.K X.mg X.base lev f fd ps (SpD k np m)) (ar : Ar np m) (hnf : (k.fn c).length = nf) (hr : RoomG (lev + 1) X.A) (hg : Gl X x) (hm : X.mg x = some (.ref (k.cl c))) (hb : Binds X.K fd ps ds) (hd : Vals dvs ds) (hdd : ∀ A C H, RepL k A C H dvs dds)
    (ha : PA X (e :: es) (LA k W ma)) (hdb : (x == ("__debug__" : Str)) = false := by decide) (he : starEach (e :: es) X.env = (false, eval e X.env) :: starEach es X.env := by rfl) (hpl : (backTo pos (starEach es X.env)).any (·.1) = false := by rfl) :
    PE X (.Call (.Name x pn) (e :: es) [] pos) (LE k W (mMake own c nf m dds ma)) := (pe_makeG (by rw [hK]; exact M) F hr hg hm hb hd (fun σ => passAt tk σ) ha hdb he hpl).cq fun _ _ _ h => le_make ar hnf hdd h
/-! ### o.f = e -/
def sFldS (c n : Nat) (me mo : ME) : MS := fun F C => bndS F.sl (me F C) fun v C1 => bndS F.sl (mo F C1) fun o C2 => match o with
  | .cell i => match C2[i]? with
    | some (some (.ins c' fs)) => if c' = c ∧ n ≤ fs.length then (match wr F.fl i (.ins c (if n < fs.length then fs.set n v else fs ++ [v])) C2 with
      | some C3 => .nx F.sl C3
      | none => .stuck) else .stuck
    | _ => .stuck
  | _ => .stuck
end
theorem putF_set {y : V} {f : Str} : ∀ {names : List Str} {vs : List V} {n : Nat}, names.Nodup → vs.length = names.length → names[n]? = some f → putF f y (names.zip vs) = names.zip (vs.set n y)
  | [], _, _, _, _, h => by simp at h
  | a :: r, [], _, _, hl, _ => by simp at hl
  | a :: r, b :: t, 0, nd, hl, h => by
    simp at h
    subst h
    simp [putF]
  | a :: r, b :: t, n + 1, nd, hl, h => by
    simp at h hl
    simp only [List.nodup_cons] at nd
    have ne : ¬ (a = f) := fun e => nd.1 (by rw [e]; exact List.mem_of_getElem? h)
    rw [List.zip_cons_cons, List.set_cons_succ, List.zip_cons_cons]
    show (if a = f then _ else (a, b) :: putF f y (r.zip t)) = _
    rw [if_neg ne, putF_set nd.2 hl h]
theorem putF_new {y : V} {f : Str} : ∀ {names : List Str} {vs : List V}, f ∉ names → vs.length = names.length → putF f y (names.zip vs) = (names ++ [f]).zip (vs ++ [y])
  | [], [], _, _ => rfl
  | [], _ :: _, _, hl => by simp at hl
  | a :: r, [], _, hl => by simp at hl
  | a :: r, b :: t, h, hl => by
    simp only [List.mem_cons, not_or] at h
    simp at hl
    rw [List.zip_cons_cons]
    show (if a = f then _ else (a, b) :: putF f y (r.zip t)) = _
    rw [if_neg (fun e => h.1 e.symm), putF_new h.2 hl]
    rfl
section
variable {X : Cx} {k : Cn} {W : WX} {σ : L2.St} {H : Hp} {E : Ends} {e o : Expr} {me mo : ME} {pos pos' : Pos}
theorem ls_fld {c n : Nat} {f : Str} (hc : Cls k.K (k.cl c)) (hno : NoAttr k.K (k.cl c) f) (nd : (k.fn c).Nodup) (hf : (k.fn c)[n]? = some f) (h9 : (k.fn c).length < 1000) (h : LS k W (sFldS c n me mo) E σ H) : sFld k.K (LE k W mo) (LE k W me) f E σ H := by
  obtain ⟨A, F, C, s, h⟩ := h
  refine ⟨A, F, C, s, (AftS.bnd (rel := RepD k) s h).mono fun dv C1 A1 H1 v p1 st1 rv h1 => ?_⟩
  have s1 := s.step p1 st1
  refine ⟨A1, F, C1, s1, (AftS.bnd (rel := RepD k) s1 h1).mono fun dO C2 A2 H2 o p2 st2 ro h2 => ?_⟩
  have s2 := s1.step p2 st2
  cases ro with
  | @cell i hi =>
    simp only at h2
    split at h2
    · rename_i c' fs ec
      split at h2
      · rename_i hcn
        obtain ⟨rfl, hn⟩ := hcn
        cases ew : wr F.fl i (.ins c' (if n < fs.length then fs.set n dv else fs ++ [dv])) C2 with
        | none => simp only [ew] at h2; exact h2.elim
        | some C3 =>
          simp only [ew] at h2
          obtain ⟨dx, vs, ha, hle, rvs⟩ := st2.at_ i _ ec
          have hnl : n < (k.fn c').length := (List.getElem?_eq_some_iff.mp hf).1
          obtain ⟨rfl, hcb⟩ := wr_some ew
          have hz : (((k.fn c').take fs.length).zip vs).length < 1000 := by rw [List.length_zip, List.length_take]; omega
          refine ⟨A2 i, k.cl c', dx, _, rfl, ha, hc, hno, hz, ?_⟩
          have vl : vs.length = ((k.fn c').take fs.length).length := by rw [rvs.length, List.length_take]; omega
          have rv2 := p2.rep _ _ rv
          by_cases hlt : n < fs.length
          · rw [if_pos hlt] at h2 hcb
            have e1 : putF f v (((k.fn c').take fs.length).zip vs) = ((k.fn c').take (fs.set n dv).length).zip (vs.set n v) := by
              rw [List.length_set]
              exact putF_set (nd.sublist (List.take_sublist _ _)) vl (by rw [List.getElem?_take_of_lt hlt]; exact hf)
            rw [e1]
            have q : Kp A2 C2 H2 A2 (C2.set i (some (.ins c' (fs.set n dv)))) (upd H2 (A2 i) (.ins (k.cl c') dx (((k.fn c').take (fs.set n dv).length).zip (vs.set n v)))) := kp_write ec
            have w1 : Stp k F.fl A2 C2 H2 A2 _ _ := q.stp fun f h1 h2 l => low_set hcb h1 l
            have w2 : StOk k A2 _ _ := st2.write ec (c := .ins c' (fs.set n dv)) ⟨dx, vs.set n v, upd_same, by simpa using hle, (rvs.set rv2 n).kp q⟩
            exact h2 A2 σ _ w1 (s2.step w1 w2)
          · have en : n = fs.length := by omega
            rw [if_neg hlt] at h2 hcb
            have e1 : putF f v (((k.fn c').take fs.length).zip vs) = ((k.fn c').take (fs ++ [dv]).length).zip (vs ++ [v]) := by
              have e2 : (k.fn c').take (fs ++ [dv]).length = (k.fn c').take fs.length ++ [f] := by
                rw [List.length_append, List.length_singleton, List.take_add_one, ← en, hf]
                rfl
              rw [e2]
              refine putF_new (fun hm => ?_) vl
              obtain ⟨j, hj⟩ := List.mem_iff_getElem?.mp hm
              have hjl : j < fs.length := by
                have := (List.getElem?_eq_some_iff.mp hj).1
                rw [List.length_take] at this
                omega
              rw [List.getElem?_take_of_lt hjl] at hj
              have := nd_ix nd hj hf
              omega
            rw [e1]
            have q : Kp A2 C2 H2 A2 (C2.set i (some (.ins c' (fs ++ [dv])))) (upd H2 (A2 i) (.ins (k.cl c') dx (((k.fn c').take (fs ++ [dv]).length).zip (vs ++ [v])))) := kp_write ec
            have w1 : Stp k F.fl A2 C2 H2 A2 _ _ := q.stp fun f h1 h2 l => low_set hcb h1 l
            have w2 : StOk k A2 _ _ := st2.write ec (c := .ins c' (fs ++ [dv])) ⟨dx, vs ++ [v], upd_same, by simp; omega, (rvs.append (.cons rv2 .nil)).kp q⟩
            exact h2 A2 σ _ w1 (s2.step w1 w2)
      · exact h2.elim
    · exact h2.elim
  | _ => exact h2.elim
theorem ds_fld (c n : Nat) {f : Str} (hK : X.K = k.K) (hc : Cls k.K (k.cl c)) (hno : NoAttr k.K (k.cl c) f) (nd : (k.fn c).Nodup) (hf : (k.fn c)[n]? = some f) (h9 : (k.fn c).length < 1000) (ho : PE X o (LE k W mo)) (he : PE X e (LE k W me)) (hs : swapsWith e (some (.Attribute o f pos')) pos.line X.env = pure false := by rfl) :
    PS X (.Assign [.Attribute o f pos'] e pos) (LS k W (sFldS c n me mo)) := (ps_fld ho he hs).cq fun _ _ _ h => by
  rw [hK]
  exact ls_fld hc hno nd hf h9 h
end
end CT
set_option maxHeartbeats 4000000
/-! DLB: properties, isinstance, comprehensions as statements, two clauses. -/
namespace CT
open PySem L2 PySem.Spec PyProof.Rows
/-! ### o.f, a property -/
/-! ### isinstance -/
theorem isaT_ok : ∀ a b : Bt, kitB a.name b.name = some (isaT a b) := by
  intro a b
  cases a <;> cases b <;> decide +kernel
/-- what the written part says of the own classes in kn -/
structure IsaOk (k : Cn) (kn : List Nat) : Prop where
  ins : ∀ c ∈ kn, C8.InsC k.K (k.cl c)
  own : ∀ c ∈ kn, ∀ c' ∈ kn, PySem.W.kitOne k.K (.ref (k.cl c)) (.ref (k.cl c')) = some (decide (c = c'))
  bty : ∀ c ∈ kn, ∀ b : Bt, PySem.W.kitOne k.K (.ref (k.cl c)) (.type b.name) = some false
  tyb : ∀ c ∈ kn, ∀ b : Bt, PySem.W.kitOne k.K (.type b.name) (.ref (k.cl c)) = some false
def Cc.inn (kn : List Nat) : Cc → Bool
  | .ty _ => true
  | .own c => decide (c ∈ kn)
section
variable {X : Cx} {k : Cn} {W : WX} {σ : L2.St} {H : Hp} {Q : VK}
theorem isi_ok {kn : List Nat} (ok : IsaOk k kn) {A : Nat → Addr} {C : Store} {v : V} {d : D} {t : Cc} {b : Bool} (ht : t.inn kn = true) (st : StOk k A C H) (r : Rep k A C H v d) (e : isi kn d C t = some b) : ∃ c0 : Cc, tyD d C = some c0 ∧ TyX k.K H v (c0.val k) ∧ PySem.W.kitOne k.K (c0.val k) (t.val k) = some b := by
  have base : ∀ a : Bt, tyD d C = some (.ty a) → PySem.W.kitOne k.K (.type a.name) (t.val k) = some b := fun a ea => by
    unfold isi at e
    rw [ea] at e
    cases t with
    | ty b' =>
      cases e
      exact kit_ty (isaT_ok a b')
    | own c =>
      cases e
      exact ok.tyb c (of_decide_eq_true ht) a
  have inst : ∀ c fs dx (a : Addr), tyD d C = some (.own c) → H a = some (.ins (k.cl c) dx fs) → ∃ c0 : Cc, tyD d C = some c0 ∧ TyX k.K H (.ref a) (c0.val k) ∧ PySem.W.kitOne k.K (c0.val k) (t.val k) = some b := fun c fs dx a ea ha => by
    unfold isi at e
    rw [ea] at e
    simp only at e
    split at e
    · rename_i hc
      have I := ok.ins c hc
      refine ⟨.own c, ea, .base (.ins ha I.cl I.ha I.hn I.htk I.hm), ?_⟩
      cases t with
      | ty b' => cases e; exact ok.bty c hc b'
      | own c' => cases e; exact ok.own c hc c' (of_decide_eq_true ht)
    · cases e
  cases r with
  | non => exact ⟨.ty .none, rfl, .base .non, base .none rfl⟩
  | bl b => exact ⟨.ty .bool, rfl, .base (.bl b), base .bool rfl⟩
  | int i => exact ⟨.ty .int, rfl, .base (.int i), base .int rfl⟩
  | str s => exact ⟨.ty .str, rfl, .base (.str s), base .str rfl⟩
  | lst l h rv => exact ⟨.ty .list, rfl, .base (.lst h), base .list rfl⟩
  | tup l h rv => exact ⟨.ty .tuple, rfl, .base (.tup h), base .tuple rfl⟩
  | ktup h rv =>
    obtain ⟨o, its, n, h1, h2, _⟩ := h
    exact ⟨.ty .tuple, rfl, .kTuple h1 h2, base .tuple rfl⟩
  | scr l h rv => cases e
  | kscr h rv => cases e
  | obj l h z rv => exact inst _ _ _ _ rfl h
  | exn x l h z rv => cases e
  | cls c => cases e
  | dT l h rv => exact ⟨.ty .dict, rfl, .base (.dT h), base .dict rfl⟩
  | @cell i hi =>
    cases ec : C[i]? with
    | none => simp only [isi, tyD, ec] at e; cases e
    | some oc =>
      cases oc with
      | none => simp only [isi, tyD, ec] at e; cases e
      | some c =>
        cases c with
        | lst xs =>
          obtain ⟨vs, hv, _⟩ := st.at_ i _ ec
          exact ⟨.ty .list, by simp only [tyD, ec], .base (.lst hv), base .list (by simp only [tyD, ec])⟩
        | dT ks xs =>
          obtain ⟨vs, hv, _⟩ := st.at_ i _ ec
          exact ⟨.ty .dict, by simp only [tyD, ec], .base (.dT hv), base .dict (by simp only [tyD, ec])⟩
        | ins c xs =>
          obtain ⟨dx, vs, hv, _⟩ := st.at_ i _ ec
          exact inst c _ dx _ (by simp only [tyD, ec]) hv
theorem le_isi {kn : List Nat} {t : Cc} {m : ME} (ok : IsaOk k kn) (ht : t.inn kn = true) (h : LE k W (mIsi kn t m) σ H Q) : tCB (rIsi k.K) (tCons (LE k W m) (tCons (tC (t.v k)) tNil)) σ H Q := by
  obtain ⟨A, F, C, s, h⟩ := h
  refine ⟨A, F, C, s, (Aft.bnd (rel := RepD k) h).mono fun d C1 A1 H1 v p1 st1 r1 h1 => ?_⟩
  split at h1
  · rename_i b e
    obtain ⟨c0, _, h2, h3⟩ := isi_ok ok ht st1 r1 e
    exact ⟨v, t.v k, c0.val k, t.val k, b, rfl, t.cls, h2, h3, h1 A1 H1 _ Stp.refl st1 (.bl b)⟩
  · exact h1.elim
theorem le_isi2 {kn : List Nat} {t u : Cc} {m : ME} (ok : IsaOk k kn) (ht : t.inn kn = true) (hu : u.inn kn = true) (h : LE k W (mIsi2 kn t u m) σ H Q) : tCB (rIsiT k.K) (tCons (LE k W m) (tCons (tTup (tCons (tC (t.v k)) (tCons (tC (u.v k)) tNil))) tNil)) σ H Q := by
  obtain ⟨A, F, C, s, h⟩ := h
  refine ⟨A, F, C, s, (Aft.bnd (rel := RepD k) h).mono fun d C1 A1 H1 v p1 st1 r1 h1 => ?_⟩
  split at h1
  · rename_i b b' e e'
    refine ⟨by show 2 ≤ sizeLine; decide, fun p hp => ?_⟩
    have q : Kp A1 C1 H1 A1 C1 (upd H1 p (.tup [t.v k, u.v k])) := kp_new hp
    have r2 := r1.kp (k := k) q
    have st2 := st1.new (o := .tup [t.v k, u.v k]) hp
    obtain ⟨c0, g1, h2, h3⟩ := isi_ok ok ht st2 r2 e
    obtain ⟨c1, g2, h2', h3'⟩ := isi_ok ok hu st2 r2 e'
    rw [g1] at g2
    cases g2
    refine ⟨v, p, [t.v k, u.v k], c0.val k, [t.val k, u.val k], b || b', rfl, upd_same, .cons t.cls (.cons u.cls .nil), h2, ?_, h1 A1 _ _ q.stp0 st2 (.bl _)⟩
    refine kitAny_cons h3 (fun hb => ?_) fun hb => by rw [hb]; rfl
    refine kitAny_cons h3' (fun hb' => ?_) fun hb' => by rw [hb']; simp
    rw [hb, hb']
    rfl
  · exact h1.elim
end
end CT
set_option maxHeartbeats 4000000
/-! DLC: isinstance as an expression; comprehensions that are assigned, and of two clauses; xs[i] += e; membership; list(range(..)). -/
namespace CT
open PySem L2 PySem.Spec PyProof.Rows
section
variable {X : Cx} {k : Cn} {W : WX} {σ : L2.St} {H : Hp} {Q : VK} {E : Ends}
theorem de_isi {e c : Expr} {p pos : Pos} {kn : List Nat} {t : Cc} {m : ME} (hg : Gl X "isinstance") (hm : X.mg "isinstance" = none) (ok : IsaOk k kn) (ht : t.inn kn = true) (hK : X.K = k.K) (he : PE X e (LE k W m)) (hc : PE X c (tC (t.v k)))
    (hs : starEach [e, c] X.env = (false, eval e X.env) :: starEach [c] X.env := by rfl) (hs2 : starEach [c] X.env = (false, eval c X.env) :: starEach [] X.env := by rfl) (hpl : (backTo pos (starEach [c] X.env)).any (·.1) = false := by rfl) : PE X (.Call (.Name "isinstance" p) [e, c] [] pos) (LE k W (mIsi kn t m)) :=
  (pe_callB call_isi hg hm (by decide +kernel) (pa_cons he (pa_cons hc pa_nil hs2) hs) (he := hs) (hpl := hpl)).cq fun _ _ _ h => by
    rw [hK]
    exact le_isi ok ht h
theorem de_isi2 {e c c' : Expr} {p pos tp : Pos} {kk : Nat} {kn : List Nat} {t u : Cc} {m : ME} (hg : Gl X "isinstance") (hm : X.mg "isinstance" = none) (ok : IsaOk k kn) (ht : t.inn kn = true) (hu : u.inn kn = true) (hK : X.K = k.K) (he : PE X e (LE k W m)) (hc : PE X c (tC (t.v k))) (hc' : PE X c' (tC (u.v k)))
    (hs : starEach [e, .Tuple [c, c'] kk tp] X.env = (false, eval e X.env) :: starEach [.Tuple [c, c'] kk tp] X.env := by rfl) (hs2 : starEach [.Tuple [c, c'] kk tp] X.env = (false, eval (.Tuple [c, c'] kk tp) X.env) :: starEach [] X.env := by rfl) (hpl : (backTo pos (starEach [.Tuple [c, c'] kk tp] X.env)).any (·.1) = false := by rfl)
    (h3 : starEach [c, c'] X.env = (false, eval c X.env) :: starEach [c'] X.env := by rfl) (h4 : starEach [c'] X.env = (false, eval c' X.env) :: starEach [] X.env := by rfl) : PE X (.Call (.Name "isinstance" p) [e, .Tuple [c, c'] kk tp] [] pos) (LE k W (mIsi2 kn t u m)) :=
  (pe_callB call_isiT hg hm (by decide +kernel) (pa_cons he (pa_cons (pe_tup (pa_cons hc (pa_cons hc' pa_nil h4) h3)) pa_nil hs2) hs) (he := hs) (hpl := hpl)).cq fun _ _ _ h => by
    rw [hK]
    exact le_isi2 ok ht hu h
/-! ### tests of a clause -/
theorem _root_.L2.PTs.cq {X : Cx} {e : List Expr} {t t' : TT} (h : PTs X e t) (c : ∀ σ H Q, t' σ H Q → t σ H Q) : PTs X e t' := ⟨fun pins s σ H Q I q => h.run pins s σ H Q I (c σ H Q q)⟩
theorem dts_nil : PTs X [] (LT k W tYesM) := pts_nil.cq fun σ H Q h => by
  obtain ⟨A, F, C, s, h⟩ := h
  exact h A H true Stp.refl s.st rfl
/-! ### y = [..] -/
theorem ds_setLc {i : Nat} {y : Str} {py : Pos} {elt tg iter : Expr} {ifs : List Expr} {scope : Scope} {own : List (Str × Nat)} {pos spos : Pos} {mi : MI} {t : Tgt} {tt : MT} {te : ME} (ow : Bool) (hK : X.K = k.K) (hc : X.calm = true) (hN : X.N.Nodup) (hy : X.N[i]? = some y) (hyl : X.env.scope.names.lookup y = some .local)
    (hsw : swapsWith (.ListComp elt [⟨tg, iter, ifs, 0⟩] scope pos) (some (.Name y py)) spos.line X.env = pure true) (hi : PI X tg iter (LI k W mi)) (ok : BlkOk X.N X.env.scope scope own) (hv : ∀ i ∈ t.slots, i ∈ own.map (·.2))
    (hg : ∀ (s : Shared) (H : Hp) (C : Addr) (cl : List (Str × Addr)) (fp : List Addr), PG (X.blk s H scope (compEnvC scope cl C X.env) fp) tg (t.T k.K)) (ht : ∀ (s : Shared) (H : Hp) (C : Addr) (cl : List (Str × Addr)) (fp : List Addr), PTs (X.blk s H scope (compEnvC scope cl C X.env) fp) ifs (LT k WF tt))
    (he : ∀ (s : Shared) (H : Hp) (C : Addr) (cl : List (Str × Addr)) (fp : List Addr), PE (X.blk s H scope (compEnvC scope cl C X.env) fp) elt (LE k WF te)) (hs : ∀ x, foldedSetIterable iter X.env x = pure x := by intro _; rfl) :
    PS X (.Assign [.Name y py] (.ListComp elt [⟨tg, iter, ifs, 0⟩] scope pos) spos) (LS k W (sAsg (mLc ow mi t.M tt te (own.map (·.2))) (gN i))) :=
  (ps_setLc hc hN hy hyl hsw hi ok hg ht he hs).cq fun _ _ _ h => le_lc hv (ls_asg2 (t := .nm i) h)
/-! ### two clauses -/
def lc2N (it : ItD) (g : MG) (tt : MT) (mi1 : MI) (g1 : MG) (tt1 : MT) (te : ME) (n : Nat) (sl : List (Option D)) (vs1 : List Nat) : Nat → Nat → Store → R Unit
  | 0, _, C => if it.fin C = true then .ok () C else .stuck
  | r + 1, j, C => match it.item j C with
    | none => .stuck
    | some d => match g d sl with
      | none => .stuck
      | some sl1 => bn0 (tt ⟨n, sl1⟩ C) fun b C1 => if b = true then bn0 (mi1 ⟨n, sl1⟩ C1) fun it1 C2 => bn0 (lcN it1 g1 tt1 te n (wipeD sl1 vs1) it1.n 0 C2) fun _ C3 => lc2N it g tt mi1 g1 tt1 te n sl vs1 r (j + 1) C3
        else lc2N it g tt mi1 g1 tt1 te n sl vs1 r (j + 1) C1
def mLc2 (own : Bool) (mi : MI) (g : MG) (tt : MT) (mi1 : MI) (g1 : MG) (tt1 : MT) (te : ME) (vs vs1 : List Nat) : ME := fun F C => bnd (mi F C) fun it C1 => bn0 (lc2N it g tt mi1 g1 tt1 te C1.length (wipeD F.sl vs) vs1 it.n 0 (C1 ++ [some (.lst [])])) fun _ C2 => lcEnd own C1.length C2
theorem bn0_out {α β : Type} {m : R α} {f : α → Store → R β} {b : β} {C : Store} (h : bn0 m f = .ok b C) : ∃ a C1, m = .ok a C1 ∧ f a C1 = .ok b C := by
  cases m with
  | ok a C1 => exact ⟨a, C1, rfl, h⟩
  | exc e C1 => cases h
  | stuck => cases h
/-- the inner loop -/
theorem lc_inner {fl n : Nat} {J : It} {it : ItD} {t : Tgt} {tt : MT} {te : ME} {vs : List Nat} {sl0 : List (Option D)} {A : Nat → Addr} {C C3 : Store} {Dl : Addr} {Nx : Hp → Prop} (hv : ∀ i ∈ t.slots, i ∈ vs) (hf : fl ≤ n) (ok : ItOk k fl J it A C H) (sr : SR k A ⟨n, sl0⟩ C σ H) (hn : n < C.length) (ha : A n = Dl)
    (e : lcN it t.M tt te n (wipeD sl0 vs) it.n 0 C = .ok () C3) (hN : ∀ A' H', Stp k n A C H A' C3 H' → StOk k A' C3 H' → Nx H') :
    ∃ W1 : Nat → Nat → Hp → Prop, (∃ m, W1 0 m H) ∧ ∀ i m H, W1 i m H → (J.stop i H ∧ Nx H) ∨ (J.go i H ∧ ∃ Nx1 : Hp → Prop, (∀ H', Nx1 H' → ∃ m', m' < m ∧ W1 (i + 1) m' H') ∧ ∀ x H', J.yld i H x H' → t.T k.K x (L2.wipe σ vs) H' fun σ3 H5 => L2.wipe σ3 vs = L2.wipe σ vs ∧ LT k WF tt σ3 H5 fun b H6 =>
      if b = true then LE k WF te σ3 H6 fun y H7 => ∃ acc, H7 Dl = some (.lst acc) ∧ acc.length < sizeLine ∧ Nx1 (upd H7 Dl (.lst (acc ++ [y]))) else Nx1 H6) := by
  refine ⟨fun i m H' => ∃ A' C', m = it.n - i ∧ i ≤ it.n ∧ Stp k n A C H A' C' H' ∧ StOk k A' C' H' ∧ lcN it t.M tt te n (wipeD sl0 vs) (it.n - i) i C' = .ok () C3,
    ⟨it.n, _, _, rfl, Nat.zero_le _, Stp.refl, sr.st, e⟩, ?_⟩
  rintro i m H' ⟨A', C', rfl, hi, p, st', h'⟩
  obtain ⟨ha', hl'⟩ := cell_at p ha hn
  have low' : LowC n C' := p.low _ (Nat.le_refl _) (Nat.le_of_lt hn) sr.low
  obtain ⟨o1, o2⟩ := ok A' C' H' (p.less hf) st'
  cases er : it.n - i with
  | zero =>
    rw [er] at h'
    unfold lcN at h'
    have e : i = it.n := by omega
    split at h'
    · rename_i hf
      cases h'
      subst e
      exact .inl ⟨o2 hf, hN A' H' p st'⟩
    · cases h'
  | succ r =>
    rw [er] at h'
    unfold lcN at h'
    have hlt : i < it.n := by omega
    have hr : it.n - (i + 1) = r := by omega
    cases ei : it.item i C' with
    | none => simp only [ei] at h'; cases h'
    | some d =>
      simp only [ei] at h'
      obtain ⟨g1, g2⟩ := o1 i d hlt ei
      cases eg : t.M d (wipeD sl0 vs) with
      | none => simp only [eg] at h'; cases h'
      | some sl1 =>
        simp only [eg] at h'
        refine .inr ⟨g1, fun H4 => ∃ A4 C4, Stp k n A C H A4 C4 H4 ∧ StOk k A4 C4 H4 ∧ lcN it t.M tt te n (wipeD sl0 vs) (it.n - (i + 1)) (i + 1) C4 = .ok () C3,
          fun H4 ⟨A4, C4, a, b, c⟩ => ⟨it.n - (i + 1), by omega, A4, C4, rfl, by omega, a, b, c⟩, fun x H'' y => ?_⟩
        obtain ⟨A'', py, sty, rx⟩ := g2 x H'' y
        have py' : Stp k n A' C' H' A'' C' H'' := ⟨py.rep, py.len, fun f _ _ h => h⟩
        have s9 : SR k A'' ⟨n, wipeD sl0 vs⟩ C' (L2.wipe σ vs) H'' := ((sr.re (p.trans py') sty low' (Nat.le_of_lt hl')).wipe vs)
        refine Tgt.of (vs0 := vs) s9 rx eg fun σ2 s2 w2 => ⟨by rw [w2 hv, wipe_wipe], A'', ⟨n, sl1⟩, C', s2, ?_⟩
        cases et : tt ⟨n, sl1⟩ C' with
        | ok b C5 =>
          rw [et] at h'
          simp only [bn0_ok] at h'
          intro A5 H5 v5 p5 st5 e5
          have e5 : v5 = b := e5
          subst e5
          have s5 := s2.step p5 st5
          cases v5 with
          | true =>
            rw [if_pos rfl] at h'
            refine iteT ⟨A5, ⟨n, sl1⟩, C5, s5, ?_⟩
            cases ee : te ⟨n, sl1⟩ C5 with
            | ok yd C6 =>
              rw [ee] at h'
              simp only [bn0_ok] at h'
              intro A6 H6 v6 p6 st6 r6
              have pall := (p.trans py').trans (p5.trans p6)
              obtain ⟨ha6, hl6⟩ := cell_at pall ha hn
              split at h'
              · rename_i acc hc
                split at h'
                · rename_i hz
                  obtain ⟨ws, hw, rw6⟩ := st6.at_ _ _ hc
                  rw [ha6] at hw
                  obtain ⟨q1, q2⟩ := push_L (k := k) (fl := n) (Nat.le_refl _) st6 ha6 hc hw r6
                  refine ⟨ws, hw, by have := szN_le hz; rw [rw6.length]; omega, A6, _, pall.trans q1, q2, ?_⟩
                  rw [hr]
                  exact h'
                · cases h'
              · cases h'
            | exc e C6 => rw [ee] at h'; cases h'
            | stuck => rw [ee] at h'; cases h'
          | false =>
            rw [if_neg (by decide)] at h'
            refine iteF ⟨A5, C5, (p.trans py').trans p5, st5, ?_⟩
            rw [hr]
            exact h'
        | exc e C5 => rw [et] at h'; cases h'
        | stuck => rw [et] at h'; cases h'
theorem le_lc2 {own : Bool} {mi mi1 : MI} {t t1 : Tgt} {tt tt1 : MT} {te : ME} {vs vs1 : List Nat} (hv : ∀ i ∈ t.slots, i ∈ vs) (hv1 : ∀ i ∈ t1.slots, i ∈ vs1) (h : LE k W (mLc2 own mi t.M tt mi1 t1.M tt1 te vs vs1) σ H Q) :
    tLc2 (LI k W mi) (t.T k.K) (LT k WF tt) (LI k WF mi1) (t1.T k.K) (LT k WF tt1) (LE k WF te) vs vs1 σ H Q := by
  obtain ⟨A, F, C, s, h⟩ := h
  refine ⟨A, F, C, s, (Aft.bnd (rel := fun A C H (J : It) (it : ItD) => ItOk k F.fl J it A C H) h).mono fun it C1 A1 H1 J p1 st1 ok h1 => ?_⟩
  have s1 := s.step p1 st1
  intro Dl hD
  have q0 : Kp A1 C1 H1 (ext A1 C1.length Dl) (C1 ++ [some (.lst [])]) (upd H1 Dl (.lst [])) := kp_cell (k := k) st1 hD
  have p2 : Stp k C1.length A1 C1 H1 (ext A1 C1.length Dl) (C1 ++ [some (.lst [])]) (upd H1 Dl (.lst [])) := q0.stp fun f h1 h2 l => low_app h2 l
  have p2' : Stp k F.fl A1 C1 H1 (ext A1 C1.length Dl) (C1 ++ [some (.lst [])]) (upd H1 Dl (.lst [])) := p2.less s1.fl
  have st2 : StOk k (ext A1 C1.length Dl) (C1 ++ [some (.lst [])]) (upd H1 Dl (.lst [])) := st1.cell hD ⟨[], upd_same, .nil⟩
  have n1 : C1.length < (C1 ++ [some (Cell.lst [])]).length := by simp
  have low1 : LowC C1.length (C1 ++ [some (Cell.lst [])]) := p2.low _ (Nat.le_refl _) (Nat.le_refl _) st1.low
  obtain ⟨C3, e3, h3⟩ := bn0_inv h1
  refine ⟨fun i m H' => ∃ A' C', m = it.n - i ∧ i ≤ it.n ∧ Stp k C1.length (ext A1 C1.length Dl) (C1 ++ [some (.lst [])]) (upd H1 Dl (.lst [])) A' C' H' ∧ StOk k A' C' H' ∧ lc2N it t.M tt mi1 t1.M tt1 te C1.length (wipeD F.sl vs) vs1 (it.n - i) i C' = .ok () C3,
    ⟨it.n, _, _, rfl, Nat.zero_le _, Stp.refl, st2, e3⟩, ?_⟩
  rintro i m H' ⟨A', C', rfl, hi, p, st', h'⟩
  obtain ⟨ha', hl'⟩ := cell_at p (ext_at A1 C1.length Dl) n1
  have low' : LowC C1.length C' := p.low _ (Nat.le_refl _) (Nat.le_of_lt n1) low1
  have pF : Stp k F.fl (ext A1 C1.length Dl) (C1 ++ [some (.lst [])]) (upd H1 Dl (.lst [])) A' C' H' := p.less s1.fl
  obtain ⟨o1, o2⟩ := ok A' C' H' (p2'.trans pF) st'
  cases er : it.n - i with
  | zero =>
    rw [er] at h'
    unfold lc2N at h'
    have e : i = it.n := by omega
    split at h'
    · rename_i hf
      cases h'
      subst e
      exact .inl ⟨o2 hf, le_lcEnd s1.fl Stp.refl st1 (p2'.trans pF) low' st' ha' hl' h3⟩
    · cases h'
  | succ r =>
    rw [er] at h'
    unfold lc2N at h'
    have hlt : i < it.n := by omega
    have hr : it.n - (i + 1) = r := by omega
    cases ei : it.item i C' with
    | none => simp only [ei] at h'; cases h'
    | some d =>
      simp only [ei] at h'
      obtain ⟨g1, g2⟩ := o1 i d hlt ei
      cases eg : t.M d (wipeD F.sl vs) with
      | none => simp only [eg] at h'; cases h'
      | some sl1 =>
        simp only [eg] at h'
        refine .inr ⟨g1, fun H4 => ∃ A4 C4, Stp k C1.length (ext A1 C1.length Dl) (C1 ++ [some (.lst [])]) (upd H1 Dl (.lst [])) A4 C4 H4 ∧ StOk k A4 C4 H4 ∧ lc2N it t.M tt mi1 t1.M tt1 te C1.length (wipeD F.sl vs) vs1 (it.n - (i + 1)) (i + 1) C4 = .ok () C3,
          fun H4 ⟨A4, C4, a, b, c⟩ => ⟨it.n - (i + 1), by omega, A4, C4, rfl, by omega, a, b, c⟩, fun x H'' y => ?_⟩
        obtain ⟨A'', py, sty, rx⟩ := g2 x H'' y
        have py' : Stp k C1.length A' C' H' A'' C' H'' := ⟨py.rep, py.len, fun f _ _ h => h⟩
        have sr : SR k A'' ⟨C1.length, wipeD F.sl vs⟩ C' (L2.wipe σ vs) H'' := ((s1.re (p2.trans (p.trans py')) sty low' (Nat.le_of_lt hl')).wipe vs)
        refine Tgt.of (vs0 := vs) sr rx eg fun σ2 s2 w2 => ⟨by rw [w2 hv, wipe_wipe], A'', ⟨C1.length, sl1⟩, C', s2, ?_⟩
        obtain ⟨b, C5, et, h'⟩ := bn0_out h'
        rw [et]
        intro A5 H5 v5 p5 st5 e5
        have e5 : v5 = b := e5
        subst e5
        have s5 := s2.step p5 st5
        cases v5 with
        | true =>
          rw [if_pos rfl] at h'
          obtain ⟨it1, C6, em, h'⟩ := bn0_out h'
          obtain ⟨u, C7, el, h'⟩ := bn0_out h'
          refine iteT ⟨A5, ⟨C1.length, sl1⟩, C5, s5, ?_⟩
          rw [em]
          intro A6 H6 J1 p6 st6 ok6
          have pall := (p.trans py').trans (p5.trans p6)
          obtain ⟨ha6, hl6⟩ := cell_at pall (ext_at A1 C1.length Dl) n1
          refine lc_inner (fl := C1.length) (n := C1.length) hv1 (Nat.le_refl _) ok6 (s5.step p6 st6) hl6 ha6 el fun A7 H7 p7 st7 => ⟨A7, C7, pall.trans p7, st7, ?_⟩
          rw [hr]
          exact h'
        | false =>
          rw [if_neg (by decide)] at h'
          refine iteF ⟨A5, C5, (p.trans py').trans p5, st5, ?_⟩
          rw [hr]
          exact h'
section
variable {elt tg iter tg1 iter1 : Expr} {ifs ifs1 : List Expr} {scope : Scope} {own : List (Str × Nat)} {vs1 : List Nat} {pos : Pos} {mi mi1 : MI} {t t1 : Tgt} {tt tt1 : MT} {te : ME}
theorem de_lc2 (ow : Bool) (hK : X.K = k.K) (hc : X.calm = true) (hN : X.N.Nodup) (hi : PI X tg iter (LI k W mi)) (ok : BlkOk X.N X.env.scope scope own) (hv : ∀ i ∈ vs1, i ∈ own.map (·.2)) (hv0 : ∀ i ∈ t.slots, i ∈ own.map (·.2)) (hv1 : ∀ i ∈ t1.slots, i ∈ vs1)
    (hg : ∀ (s : Shared) (H : Hp) (C : Addr) (cl : List (Str × Addr)) (fp : List Addr), PG (X.blk s H scope (compEnvC scope cl C X.env) fp) tg (t.T k.K)) (ht : ∀ (s : Shared) (H : Hp) (C : Addr) (cl : List (Str × Addr)) (fp : List Addr), PTs (X.blk s H scope (compEnvC scope cl C X.env) fp) ifs (LT k WF tt))
    (hi1 : ∀ (s : Shared) (H : Hp) (C : Addr) (cl : List (Str × Addr)) (fp : List Addr), PI (X.blk s H scope (compEnvC scope cl C X.env) fp) tg1 iter1 (LI k WF mi1))
    (hg1 : ∀ (s : Shared) (H : Hp) (C : Addr) (cl : List (Str × Addr)) (fp : List Addr), PG (X.blk s H scope (compEnvC scope cl C X.env) fp) tg1 (t1.T k.K)) (ht1 : ∀ (s : Shared) (H : Hp) (C : Addr) (cl : List (Str × Addr)) (fp : List Addr), PTs (X.blk s H scope (compEnvC scope cl C X.env) fp) ifs1 (LT k WF tt1))
    (he : ∀ (s : Shared) (H : Hp) (C : Addr) (cl : List (Str × Addr)) (fp : List Addr), PE (X.blk s H scope (compEnvC scope cl C X.env) fp) elt (LE k WF te)) (hs : ∀ x, foldedSetIterable iter X.env x = pure x := by intro _; rfl) (hs1 : ∀ env x, foldedSetIterable iter1 env x = pure x := by intro _ _; rfl) :
    PE X (.ListComp elt [⟨tg, iter, ifs, 0⟩, ⟨tg1, iter1, ifs1, 0⟩] scope pos) (LE k W (mLc2 ow mi t.M tt mi1 t1.M tt1 te (own.map (·.2)) vs1)) :=
  (pe_lc2 hc hN hi ok hv hg ht hi1 hg1 ht1 he hs hs1).cq fun _ _ _ h => le_lc2 hv0 hv1 h
theorem ds_setLc2 {i : Nat} {y : Str} {py spos : Pos} (ow : Bool) (hK : X.K = k.K) (hc : X.calm = true) (hN : X.N.Nodup) (hy : X.N[i]? = some y) (hyl : X.env.scope.names.lookup y = some .local)
    (hsw : swapsWith (.ListComp elt [⟨tg, iter, ifs, 0⟩, ⟨tg1, iter1, ifs1, 0⟩] scope pos) (some (.Name y py)) spos.line X.env = pure true) (hi : PI X tg iter (LI k W mi)) (ok : BlkOk X.N X.env.scope scope own) (hv : ∀ i ∈ vs1, i ∈ own.map (·.2)) (hv0 : ∀ i ∈ t.slots, i ∈ own.map (·.2)) (hv1 : ∀ i ∈ t1.slots, i ∈ vs1)
    (hg : ∀ (s : Shared) (H : Hp) (C : Addr) (cl : List (Str × Addr)) (fp : List Addr), PG (X.blk s H scope (compEnvC scope cl C X.env) fp) tg (t.T k.K)) (ht : ∀ (s : Shared) (H : Hp) (C : Addr) (cl : List (Str × Addr)) (fp : List Addr), PTs (X.blk s H scope (compEnvC scope cl C X.env) fp) ifs (LT k WF tt))
    (hi1 : ∀ (s : Shared) (H : Hp) (C : Addr) (cl : List (Str × Addr)) (fp : List Addr), PI (X.blk s H scope (compEnvC scope cl C X.env) fp) tg1 iter1 (LI k WF mi1))
    (hg1 : ∀ (s : Shared) (H : Hp) (C : Addr) (cl : List (Str × Addr)) (fp : List Addr), PG (X.blk s H scope (compEnvC scope cl C X.env) fp) tg1 (t1.T k.K)) (ht1 : ∀ (s : Shared) (H : Hp) (C : Addr) (cl : List (Str × Addr)) (fp : List Addr), PTs (X.blk s H scope (compEnvC scope cl C X.env) fp) ifs1 (LT k WF tt1))
    (he : ∀ (s : Shared) (H : Hp) (C : Addr) (cl : List (Str × Addr)) (fp : List Addr), PE (X.blk s H scope (compEnvC scope cl C X.env) fp) elt (LE k WF te)) (hs : ∀ x, foldedSetIterable iter X.env x = pure x := by intro _; rfl) (hs1 : ∀ env x, foldedSetIterable iter1 env x = pure x := by intro _ _; rfl) :
    PS X (.Assign [.Name y py] (.ListComp elt [⟨tg, iter, ifs, 0⟩, ⟨tg1, iter1, ifs1, 0⟩] scope pos) spos) (LS k W (sAsg (mLc2 ow mi t.M tt mi1 t1.M tt1 te (own.map (·.2)) vs1) (gN i))) :=
  (ps_setLc2 hc hN hy hyl hsw hi ok hv hg ht hi1 hg1 ht1 he hs hs1).cq fun _ _ _ h => le_lc2 hv0 hv1 (ls_asg2 (t := .nm i) h)
end
/-! ### xs[i] += e -/
def rGetL : V → V → Hp → VK → Prop := fun o i H Q => ∃ p xs n v, o = .ref p ∧ i = .int n ∧ H p = some (.lst xs) ∧ 0 ≤ n ∧ xs[n.toNat]? = some v ∧ Q v H
theorem pget_L : PGet X rGetL := by
  intro pins s σ H o i ov iv Q I ro ri h
  obtain ⟨p, xs, n, v, rfl, rfl, hp, h0, hx, q⟩ := h
  cases ro
  obtain ⟨t, rfl⟩ := ri
  obtain ⟨its, r, pl, hz⟩ := I.list (Or.inl (Or.inl hp))
  obtain ⟨w, ew, rw'⟩ := r.get hx
  have hl := r.length
  have hn := line63
  have hlt : n.toNat < xs.length := (List.getElem?_eq_some_iff.mp hx).1
  exact wpAny_getItem_list pl.isList h0 (by omega) (by simpa using ew) ⟨v, H, I, rw', q⟩
theorem ls_augL {o : Int → Int → Int} {mo mi me : ME} (h : LS k W (sAugL o mo mi me) E σ H) : tAugS (LE k W mo) (LE k W mi) (LE k W me) rGetL (ipI o) rSetL E σ H := by
  obtain ⟨A, F, C, s, h⟩ := h
  refine ⟨A, F, C, s, (AftS.bnd (rel := RepD k) s h).mono fun dl C1 A1 H1 l p1 st1 rl h1 => ?_⟩
  have s1 := s.step p1 st1
  refine ⟨A1, F, C1, s1, (AftS.bnd (rel := RepD k) s1 h1).mono fun dx C2 A2 H2 x p2 st2 rx h2 => ?_⟩
  have s2 := s1.step p2 st2
  have rl2 := p2.rep _ _ rl
  cases rx with
  | int n =>
    cases ec : cL dl C2 with
    | none => simp only [ec] at h2; exact h2.elim
    | some q =>
      obtain ⟨i, ds⟩ := q
      simp only [ec] at h2
      obtain ⟨rfl, rfl, hi, vs, hv, rvs⟩ := cL_at st2 rl2 ec
      split at h2
      · rename_i h0
        split at h2
        · rename_i a ea
          obtain ⟨v, ev, rv⟩ := rvs.get ea
          cases rv
          refine ⟨A2 i, vs, n, _, rfl, rfl, hv, h0, ev, A2, F, C2, s2, (AftS.bnd (rel := RepD k) s2 h2).mono fun dv C3 A3 H3 w p3 st3 rw3 h3 => ?_⟩
          have s3 := s2.step p3 st3
          cases rw3 with
          | int b =>
            cases ec3 : cL (.cell i) C3 with
            | none => simp only [ec3] at h3; exact h3.elim
            | some q =>
              obtain ⟨i', es⟩ := q
              simp only [ec3] at h3
              obtain ⟨ei, ev3, hi3, ws, hw, rws⟩ := cL_at st3 (p3.rep _ _ rl2) ec3
              cases ei
              cases ej : ixN es.length n with
              | none => simp only [ej] at h3; exact h3.elim
              | some j =>
                simp only [ej] at h3
                cases ew : wr F.fl i (.lst (es.set j (.int (o a b)))) C3 with
                | none => simp only [ew] at h3; exact h3.elim
                | some C4 =>
                  simp only [ew] at h3
                  obtain ⟨q1, q2⟩ := write_L st3 hi3 (rws.set (.int (o a b)) j) ew
                  exact ⟨a, b, rfl, rfl, A3 i, ws, n, j, ev3, rfl, hw, by rw [rws.length]; exact ej, h3 A3 σ _ q1 (s3.step q1 q2)⟩
          | _ => exact h3.elim
        · exact h2.elim
      · exact h2.elim
  | _ => exact h2.elim
theorem ds_augL {o i e : Expr} {op : Operator} {f : Int → Int → Int} {tpos pos : Pos} {mo mi me : ME} (hp : PIp X op (ipI f)) (ho : PE X o (LE k W mo)) (hi : PE X i (LE k W mi)) (he : PE X e (LE k W me))
    (ha : ∀ ov iv new, augStore i ov iv new = (do holding [new, ov, iv] (setItem ov iv new); release [new, ov, iv] []; pure .next) := by intros; rfl) : PS X (.AugAssign (.Subscript o i tpos) op e pos) (LS k W (sAugL f mo mi me)) :=
  (ps_augS ho hi pget_L he hp set_list ha).cq fun _ _ _ h => ls_augL h
/-! ### x in a tuple or list of data -/
end
end CT
set_option maxHeartbeats 4000000
/-! DLD: list(range(..)), sorted(..), dict(..). -/
namespace CT
open PySem L2 PySem.Spec PyProof.Rows
/-! ### sorted -/
def rSortA (K : PySem.W.Frag) : List V → Hp → VK → Prop := fun xs H Q => ∃ (a : Addr) (β : Type) (bs : List β) (f : β → V) (enc : β → PyData), xs = [.ref a] ∧ SqL K H a (bs.map f) ∧ (∀ b ∈ bs, Dp K H (f b) (enc b)) ∧ PySem.W.AllAlike (bs.map enc) ∧ PySem.W.Sortable (bs.map enc) ∧ (∀ b ∈ bs, (enc b).depth ≤ 60) ∧
  ∀ p, H p = none → Q (.ref p) (upd H p (.lst ((bs.mergeSort (PySem.W.dataLe false enc)).map f)))
theorem each_vals {β : Type} {f : β → V} : ∀ {bs : List β} {us : List Value}, Vals (bs.map f) us → PySem.W.EachIs (fun u b => RelV (f b) u) us bs
  | [], _, .nil => .nil
  | _ :: _, _, .cons r t => .cons r (each_vals t)
theorem vals_each {β : Type} {f : β → V} : ∀ {bs : List β} {us : List Value}, PySem.W.EachIs (fun u b => RelV (f b) u) us bs → Vals (bs.map f) us
  | _, _, .nil => .nil
  | _, _, .cons r t => .cons r (vals_each t)
theorem each_in {α β : Type} {R S : α → β → Prop} : ∀ {us : List α} {bs : List β}, PySem.W.EachIs R us bs → (∀ u b, b ∈ bs → R u b → S u b) → PySem.W.EachIs S us bs
  | _, _, .nil, _ => .nil
  | _, _, .cons r t, h => .cons (h _ _ (List.mem_cons_self ..) r) (each_in t fun u b hb => h u b (List.mem_cons_of_mem _ hb))
section
variable {X : Cx} {k : Cn} {W : WX} {σ : L2.St} {H : Hp} {Q : VK}
theorem cr_sortA (hu : X.A.units + 200 < cLine) : CallR X (.builtin "sorted") (rSortA X.K) := by
  intro pins s σ H xs us Q I r h
  obtain ⟨a, β, bs, f, enc, rfl, hs, hd, hal, hk, hdp, q⟩ := h
  obtain ⟨its, rv, hl, hz⟩ := I.list hs
  obtain ⟨u, rfl, ru⟩ := vals1 r
  obtain rfl : u = Value.ref a := ru
  have e := each_vals rv
  rw [List.length_map] at hz
  refine PySem.W.sorted_data hl.isList e (each_in e fun u b hb rb => Dp.reads I _ _ _ (hd b hb) rb) hal hk hz (fun b hb => by have := hdp b hb; omega) fun out ho eo => ?_
  obtain ⟨c, hc⟩ := sortedAll_at s.heap its out.toArray
  have hle : s.heap.objs.size ≤ s.heap.objs.size + 1 := Nat.le_succ _
  refine ⟨.ref (s.heap.objs.size + 1), _, I.laid (t' := s.toks) (o := .lst ((bs.mergeSort (PySem.W.dataLe false enc)).map f)) (fun b o hb => sortedAll_old hb) hle ⟨?_, out, c, vals_each eo, hc⟩, rfl, q _ (I.hok.fresh hle)⟩
  rw [List.length_map, List.length_mergeSort]
  exact hz
end
end CT
set_option maxHeartbeats 4000000
/-! DLE: sorted and dict(d) over data. -/
namespace CT
open PySem L2 PySem.Spec PyProof.Rows
def encD (C : Store) (d : D) : PyData := (toP C d).getD .none
def tup1 : PyData → Bool
  | .tuple (_ :: _) => true
  | _ => false
def nTup : PyData → Bool
  | .tuple _ => false
  | .none => false
  | _ => true
def srtb (ps : List PyData) : Bool := (ps.all fun d => ps.all fun e => PySem.W.alike d e) && (ps.all tup1 || ps.all nTup)
theorem srtb_ok {ps : List PyData} (h : srtb ps = true) : PySem.W.AllAlike ps ∧ PySem.W.Sortable ps := by
  simp only [srtb, Bool.and_eq_true, Bool.or_eq_true, List.all_eq_true] at h
  refine ⟨fun d hd e he => h.1 d hd e he, ?_⟩
  rcases h.2 with h | h
  · refine .inl fun d hd => ?_
    have := h d hd
    cases d with
    | tuple xs =>
      cases xs with
      | nil => simp [tup1] at this
      | cons x r => exact ⟨x, r, rfl⟩
    | _ => simp [tup1] at this
  · refine .inr fun d hd => ?_
    have := h d hd
    cases d with
    | tuple xs => simp [nTup] at this
    | none => simp [nTup] at this
    | _ => exact ⟨by simp, by simp⟩
def oSortL (own : Bool) : OA := fun xs C => match xs with
  | [x] => (match vL x C with
    | some ds => if (ds.all (fun d => (toP C d).isSome && decide ((encD C d).depth ≤ 60)) && srtb (ds.map (encD C))) = true then some (mkL own (ds.mergeSort (PySem.W.dataLe false (encD C))) C) else none
    | none => none)
  | _ => none
section
variable {X : Cx} {k : Cn} {W : WX} {σ : L2.St} {H : Hp} {Q : VK} {A : Nat → Addr} {C : Store}
theorem repL_zip : ∀ {vs : List V} {ds : List D}, RepL k A C H vs ds → (∀ x ∈ vs.zip ds, Rep k A C H x.1 x.2) ∧ (vs.zip ds).map (·.1) = vs ∧ (vs.zip ds).map (·.2) = ds
  | _, _, .nil => ⟨by simp, rfl, rfl⟩
  | _, _, .cons r t => by
    obtain ⟨h1, h2, h3⟩ := repL_zip t
    refine ⟨fun x hx => ?_, by simp [h2], by simp [h3]⟩
    rw [List.zip_cons_cons, List.mem_cons] at hx
    rcases hx with rfl | hx
    · exact r
    · exact h1 x hx
theorem repL_of : ∀ {l : List (V × D)}, (∀ x ∈ l, Rep k A C H x.1 x.2) → RepL k A C H (l.map (·.1)) (l.map (·.2))
  | [], _ => .nil
  | x :: l, h => .cons (h x (List.mem_cons_self ..)) (repL_of fun y hy => h y (List.mem_cons_of_mem _ hy))
theorem d_sortL {own : Bool} : ApD k (rSortA k.K) (oSortL own) := by
  intro fl A C H x dx d C' Q hf hl st rx e q
  cases rx with
  | nil => cases e
  | cons r t =>
    cases t with
    | cons _ _ => cases e
    | nil =>
      rename_i v0 d0
      simp only [oSortL] at e
      split at e
      · rename_i ds ev
        split at e
        · rename_i hb
          obtain ⟨a, vs, rfl, ha, rv⟩ := vL_at st r ev
          obtain ⟨z1, z2, z3⟩ := repL_zip rv
          simp only [Bool.and_eq_true, List.all_eq_true, decide_eq_true_eq] at hb
          obtain ⟨hb1, hb2⟩ := hb
          obtain ⟨al, so⟩ := srtb_ok hb2
          have em : (vs.zip ds).map (fun x => encD C x.2) = ds.map (encD C) := by
            have := congrArg (List.map (encD C)) z3
            rw [List.map_map] at this
            exact this
          have hm : ∀ x ∈ vs.zip ds, x.2 ∈ ds := fun x hx => by rw [← z3]; exact List.mem_map.mpr ⟨x, hx, rfl⟩
          refine ⟨a, V × D, vs.zip ds, (·.1), fun x => encD C x.2, rfl, by rw [z2]; exact .inl (.inl ha), fun b hb => ?_, by rw [em]; exact al, by rw [em]; exact so, fun b hb => (hb1 b.2 (hm b hb)).2, fun p hp => ?_⟩
          · have := (hb1 b.2 (hm b hb)).1
            obtain ⟨pd, e3⟩ := Option.isSome_iff_exists.mp this
            have := toP_dp st (z1 b hb) e3
            have e5 : encD C b.2 = pd := by unfold encD; rw [e3]; rfl
            show Dp k.K H b.1 (encD C b.2)
            rw [e5]
            exact this
          · have e4 : ((vs.zip ds).mergeSort (PySem.W.dataLe false fun x => encD C x.2)).map (·.2) = ds.mergeSort (PySem.W.dataLe false (encD C)) := by
              have em2 := List.map_mergeSort (r := PySem.W.dataLe false fun x : V × D => encD C x.2) (s := PySem.W.dataLe false (encD C)) (f := fun x : V × D => x.2) (l := vs.zip ds) (fun a _ b _ => rfl)
              rw [em2, z3]
            have rr : RepL k A C H (((vs.zip ds).mergeSort (PySem.W.dataLe false fun x => encD C x.2)).map (·.1)) (ds.mergeSort (PySem.W.dataLe false (encD C))) := by
              rw [← e4]
              exact repL_of fun y hy => z1 y (List.mem_mergeSort.mp hy)
            obtain ⟨A2, w1, w2, w3⟩ := fresh_L (own := own) hf st rr hp
            have e1 := Option.some.inj e
            rw [e1] at w1 w2 w3
            exact q A2 _ _ w1 w2 w3
        · cases e
      · cases e
theorem tup_nl (st : StOk k A C H) {b : Addr} {vs : List V} (h : H b = some (.tup vs)) : ¬ Live A C b := by
  rintro ⟨i, c, hc, rfl⟩
  have := st.at_ i c hc
  cases c with
  | lst ds => obtain ⟨ws, e, _⟩ := this; rw [h] at e; cases e
  | dT ks ds => obtain ⟨ws, e, _⟩ := this; rw [h] at e; cases e
  | ins c ds => obtain ⟨dx, ws, e, _⟩ := this; rw [h] at e; cases e
end
/-! ### dict(d), keys that are tuples -/
end CT
set_option maxHeartbeats 4000000
/-! DLF: dict(d) over data; enumerate. -/
namespace CT
open PySem L2 PySem.Spec PyProof.Rows
/-! ### a list of unlike numbers -/
theorem nodup_map_on {α β : Type} {f : α → β} : ∀ {l : List α}, l.Nodup → (∀ x ∈ l, ∀ y ∈ l, f x = f y → x = y) → (l.map f).Nodup
  | [], _, _ => List.nodup_nil
  | x :: l, h, i => by
    obtain ⟨h1, h2⟩ := List.nodup_cons.mp h
    refine List.nodup_cons.mpr ⟨fun hm => ?_, nodup_map_on h2 fun a ha b hb => i a (List.mem_cons_of_mem _ ha) b (List.mem_cons_of_mem _ hb)⟩
    obtain ⟨y, hy, e⟩ := List.mem_map.mp hm
    have := i y (List.mem_cons_of_mem _ hy) x (List.mem_cons_self ..) e
    exact h1 (this ▸ hy)
/-! ### enumerate(tuple) -/
section
variable {prog : Program} {w : World} {A : Around} {E : Value → Shared → Prop} {s : Shared}
theorem meets_enum1 {v : Value} {o : Obj} {H : Heap → Prop} (B : Begins v o H) :
    Meets (Builtin.«enumerate.__new__» ⟨[.type "enumerate", v], []⟩) (fun _ R s => H s.heap ∧
      R (.ok (.ret (.ref (s.heap.push o).objs.size))) { s with heap := (s.heap.push o).push { cls := .type "enumerate", data := .fields #[.none, .bool false, .ref s.heap.objs.size, rawInt 0, .none, .none] } }) :=
  .of_wp fun prog w A R s h => by
    obtain ⟨hp, g, d, tk, os⟩ := s; obtain ⟨h1, h⟩ := h
    have hsub := sub_enumerate
    have q1 : ∀ {A' : Around} {E : Value → Shared → Prop} {Q : Value → Shared → Prop}, Q (.ref hp.objs.size) ⟨hp.push o, g, d, tk, os⟩ → wpAny (model prog w) A' (pyIter v) Q E ⟨hp, g, d, tk, os⟩ :=
      fun q => B.iter prog w _ _ ⟨hp, g, d, tk, os⟩ _ h1 q
    wp_walk using q1
    refine wpAny_stack_any fun st => wpAny_pure ?_
    split
    · rename_i c _ _ _ _ _
      cases (c == Value.type "enumerate")
      · wp_walk using q1
        exact ⟨_, rfl, h⟩
      · wp_walk using q1
        exact ⟨_, rfl, h⟩
    · wp_walk using q1
      exact ⟨_, rfl, h⟩
theorem call_enum1 {v : Value} {o : Obj} {H : Heap → Prop} {Q : Value → Shared → Prop} (B : Begins v o H) (h1 : H s.heap)
    (h : ∀ h', IsEnum h' (s.heap.objs.size + 1) s.heap.objs.size 0 .none → h'.get? s.heap.objs.size = some o → (∀ b o, s.heap.get? b = some o → h'.get? b = some o) → Q (.ref (s.heap.objs.size + 1)) { s with heap := h' }) :
    wpAny (model prog w) A (call (.type "enumerate") [v]) Q E s := by
  refine callType_new F.called_enumerate (by decide) (F.typeCall_enumerate_1 _) (F.newCall_enumerate_1 _) (fun obj => F.args_object_init_2 obj _) F.entry_enumerate_new (meets_enum1 B) ⟨h1, ?_⟩
  have hz : (s.heap.push o).objs.size = s.heap.objs.size + 1 := Heap.size_push ..
  show _ ∧ _
  rw [hz]
  have he : IsEnum ((s.heap.push o).push { cls := .type "enumerate", data := .fields #[.none, .bool false, .ref s.heap.objs.size, rawInt 0, .none, .none] }) (s.heap.objs.size + 1) s.heap.objs.size 0 .none := by
    have := Heap.get?_push_size (s.heap.push o) (o := { cls := .type "enumerate", data := .fields #[.none, .bool false, .ref s.heap.objs.size, rawInt 0, .none, .none] }) rfl
    rw [hz] at this; exact this
  exact ⟨⟨_, he, rfl⟩, h _ he (Heap.get?_push_of_some _ (Heap.get?_push_size _ B.free)) fun b o x => Heap.get?_push_of_some _ (Heap.get?_push_of_some _ x)⟩
end
def IteT (K : PySem.W.Frag) (a : Addr) : It :=
  ⟨fun i H => ∃ (xs : List V) (x : V), SqT K H a xs ∧ xs[i]? = some x, fun i H v H' => ∃ T x, v = .ref T ∧ H T = none ∧ H' = upd H T (.tup [.int (i : Nat), x]) ∧ ∀ xs, SqT K H a xs → xs[i]? = some x, fun i H => ∃ xs : List V, SqT K H a xs ∧ xs.length ≤ i⟩
theorem enumT_end {prog : Program} {w : World} {A : Around} {E : Value → Shared → Prop} {s : Shared} {e it t : Addr} {i : Nat} {c : Int} {items : Array Value} {old : Value} {Q : Option Value → Shared → Prop} (hh : A.handled = none)
    (he : IsEnum s.heap e it c old) (hit : s.heap.IsTupleIter it t i) (ht : s.heap.IsTuple t items) (hx : items[i]? = none) (hQ : ∀ h', Heap.ExtBut it s.heap h' → Q none { s with heap := h' }) : wpAny (model prog w) A (pyNext (.ref e)) Q E s := by
  have hT : s.TypeIs (.ref e) "enumerate" := ⟨_, he, rfl⟩
  unfold pyNext
  refine wpAny_bind (wpAny_attempt (wpAny_callSpecial?_slot (name := Str.ofString "__next__") hT F.slot_enumerate_next
    (wpAny_call_entry F.slot_enumerate_next hT F.entry_enumerate_next ?_ (F.args_enumerate_next_1 _))))
  show wpAny _ _ (field (.ref e) 2 >>= _) _ _ _
  refine wpAny_bind (wpAny_field he rfl (x := .ref it) rfl ?_)
  refine wpAny_bind (wpAny_nextOf_tuple_end (show A.in1.handled = none from hh) hit ht hx fun h' x he' hx' => ?_)
  obtain ⟨o, ho, hc⟩ := hx'
  refine wpAny_bind (wpAny_isInstance (T := "StopIteration") (b := true) ⟨o, ho, hc⟩ isSubtype_stop ?_)
  exact wpAny_pure (hQ _ he')
theorem turn_enumT {P : Program} {w : World} {K : PySem.W.Frag} {elts : List Expr} {kk : Nat} {tpos : Pos} (a e it : Addr) :
    Turn P w K (.Tuple elts kk tpos) (IteT K a) [e, it] e (fun i h => (∃ old, IsEnum h e it ((i : Nat) : Int) old) ∧ h.IsTupleIter it a i ∧ e ≠ it ∧ a ≠ it ∧ a ≠ e) where
  mem := by simp
  obj := fun i h st b hb => by
    obtain ⟨⟨old, he⟩, ⟨o, ho, hc, hd⟩, _⟩ := st
    have e' : b = e ∨ b = it := by simpa using hb
    rcases e' with z | z
    · rw [z]; exact ⟨_, he, fun v q => nomatch q⟩
    · rw [z]; exact ⟨o, ho, fun v q => by rw [hd] at q; cases q⟩
  keep := fun i h h' st k => let ⟨⟨old, he⟩, hi, hne⟩ := st; ⟨⟨old, k e (by simp) _ he⟩, hi.at fun o q => k it (by simp) o q, hne⟩
  item := by
    intro X hP hw hK hc i pins s σ H E I hf st hg
    subst hP hw hK
    obtain ⟨⟨old, he⟩, hit, hne, hai, hae⟩ := st
    obtain ⟨xs, x, hq, hx⟩ := hg
    obtain ⟨its, rv, p, hz⟩ := I.tuple hq
    have hlt : i < its.toArray.size := by
      have h1 := rv.length
      have h2 := (List.getElem?_eq_some_iff.mp hx).1
      simp
      omega
    have hel : e < s.heap.objs.size := Heap.lt_size he
    have hil : it < s.heap.objs.size := by obtain ⟨_, q, _⟩ := hit; exact Heap.lt_size q
    have D := Draws.tuple (prog := X.prog) (w := X.w) (A := X.A.in1) (I.ok.hd hc) it a hai its.toArray
    refine wpAny_pyNext_enum_itemD D he ⟨hit, p⟩ hlt hne (by simp; exact ⟨hne, fun z => hae z.symm⟩) fun u h' tk hu ho hit' hT hsz hk => ?_
    have hu' : its[i]? = some u := by simpa using hu
    obtain ⟨u2, hu2, ru⟩ := rv.get hx
    have e2 : u2 = u := by
      rw [hu'] at hu2
      exact (Option.some.inj hu2).symm
    subst e2
    refine ⟨_, rfl, wpAny_letOwnedTupleGo_enum (s := { s with heap := h', toks := tk + 1 }) ho fun h'' he' sb => ?_⟩
    have hT2 : h''.get? s.heap.objs.size = some { cls := .type "tuple", data := .seq #[.int i tk, u2] } := (sb.2 _ (Nat.ne_of_gt hel)).trans hT
    have new : ObjOk X.prog X.w (upd H s.heap.objs.size (.tup [.int (i : Nat), x])) h'' s.heap.objs.size (.tup [.int (i : Nat), x]) :=
      ⟨by show 2 ≤ sizeLine; decide, [.int i tk, u2], .cons ⟨_, rfl⟩ (.cons ru .nil), ⟨_, hT2, rfl, _, rfl⟩⟩
    have I1 : Inv X pins σ (upd H s.heap.objs.size (.tup [.int (i : Nat), x])) { s with heap := h'', toks := tk + 1 } :=
      I.turnedNew (ch := [e, it]) (fun b ob hb q => (sb.2 b (fun z => hb (by simp [z]))).trans (hk b ob (fun z => hb (by simp [z])) (fun z => hb (by simp [z])) q)) hf (Nat.le_refl _) new
    refine ⟨.ref s.heap.objs.size, _, I1, rfl, ⟨_, x, rfl, I.hok.fresh (Nat.le_refl _), rfl, fun ys hy => by rw [I.tuple_inj hy hq]; exact hx⟩, ⟨⟨u2, ?_⟩, hit'.1.at fun o q => (sb.2 it (Ne.symm hne)).trans q, hne, hai, hae⟩, fun b hb => ?_⟩
    · have e1 : ((i + 1 : Nat) : Int) = (i : Int) + 1 := by omega
      rw [e1]; exact he'
    · have hb' : b < s.heap.objs.size := by
        have e' : b = e ∨ b = it := by simpa using hb
        rcases e' with z | z
        · rw [z]; exact hel
        · rw [z]; exact hil
      rw [upd_ne (Nat.ne_of_lt hb')]
      exact (hf b hb).1
  done := by
    intro X hP hw hK hc i pins s σ H E I hf st hg
    subst hP hw hK
    obtain ⟨⟨old, he⟩, hit, hne, hai, hae⟩ := st
    obtain ⟨xs, hq, hx⟩ := hg
    obtain ⟨its, rv, p, hz⟩ := I.tuple hq
    obtain ⟨f0, f1, f2, f3, f4, f5⟩ := hf it (by simp)
    have hl := rv.length
    exact enumT_end (I.ok.hd hc) he hit p (by simp; omega) fun h' eb => ⟨rfl, I.turned (t' := s.toks) (fun b o hb q => eb b o hb q) f0 f1 f3 f4 f5⟩
  self := fun A i s Q E st h => let ⟨⟨_, he⟩, _⟩ := st; wpAny_pyIter_enum he h
def iEnumA (K : PySem.W.Frag) (ta : TA) : TI := fun σ H R => ta σ H fun vs H1 => ∃ a, vs = [.ref a] ∧ (((∃ xs, SqL K H1 a xs) ∧ R (Ite K a) H1) ∨ ((∃ xs, SqT K H1 a xs) ∧ R (IteT K a) H1))
theorem pi_enumA {X : Cx} {e : Expr} {ta : TA} {p pos tpos : Pos} {elts : List Expr} {kk : Nat} (hg : Gl X "enumerate") (hm : X.mg "enumerate" = none) (ha : PA X [e] ta) (hs : starEach [e] X.env = [(false, eval e X.env)] := by rfl) :
    PI X (.Tuple elts kk tpos) (.Call (.Name "enumerate" p) [e] [] pos) (iEnumA X.K ta) := by
  refine ⟨fun pins s σ H R I h => ?_⟩
  refine Call_ (ld_blt I hg hm boot_enumerate (PyProof.Rows.callWith_type1 (thn (ha.run pos pins s σ H _ I h) fun us s1 ⟨vs, H1, I1, r1, q1⟩ => ?_) hs rfl))
  have fp2 : ∀ b ∈ [s1.heap.objs.size + 1, s1.heap.objs.size], FpOk X pins H1 b := fun b hb => by
    have e' : b = s1.heap.objs.size + 1 ∨ b = s1.heap.objs.size := by simpa using hb
    have hle : s1.heap.objs.size ≤ b := by omega
    exact I1.fpOk hle (I1.hok.fresh hle)
  obtain ⟨a, ex, ⟨⟨xs, hq⟩, q⟩ | ⟨⟨xs, hq⟩, q⟩⟩ := q1
  · subst ex
    obtain ⟨u, rfl, ru⟩ := vals1 r1
    obtain rfl : u = Value.ref a := ru
    obtain ⟨its, rv, p', hz⟩ := I1.list hq
    refine call_enumerate_list p'.isList fun h' he hit hsz hk => wpAny_pyIter_enum he ?_
    exact ⟨s1.heap.objs.size + 1, [s1.heap.objs.size + 1, s1.heap.objs.size], _, _, H1, rfl, I1.kept (t' := s1.toks) hk, turn_enum a (s1.heap.objs.size + 1) s1.heap.objs.size, ⟨⟨.none, he⟩, hit, Nat.succ_ne_self _⟩, fp2, q⟩
  · subst ex
    obtain ⟨u, rfl, ru⟩ := vals1 r1
    obtain rfl : u = Value.ref a := ru
    obtain ⟨its, rv, p', hz⟩ := I1.tuple hq
    refine call_enum1 (begins_tuple a its.toArray) p' fun h' he hit hk => wpAny_pyIter_enum he ?_
    have hlt : a < s1.heap.objs.size := by obtain ⟨o, ho, _⟩ := p'; exact Heap.lt_size ho
    exact ⟨s1.heap.objs.size + 1, [s1.heap.objs.size + 1, s1.heap.objs.size], _, _, H1, rfl, I1.kept (t' := s1.toks) hk, turn_enumT a (s1.heap.objs.size + 1) s1.heap.objs.size, ⟨⟨.none, he⟩, ⟨_, hit, rfl, rfl⟩, Nat.succ_ne_self _, Nat.ne_of_lt hlt, Nat.ne_of_lt (Nat.lt_succ_of_lt hlt)⟩, fp2, q⟩
section
variable {X : Cx} {k : Cn} {W : WX} {σ : L2.St} {H : Hp}
theorem pr_L {fl : Nat} {A : Nat → Addr} {C : Store} {a : Addr} {it : ItD} (ok : ItOk k fl (Itl k.K a) it A C H) : ItOk k fl (Ite k.K a) (prI it) A C H := fun A' C' H' p st' => by
  obtain ⟨o1, o2⟩ := ok A' C' H' p st'
  refine ⟨fun j d hj e => ?_, fun hf => o2 hf⟩
  simp only [prI, Option.map_eq_some_iff] at e
  obtain ⟨x, ex, rfl⟩ := e
  obtain ⟨⟨xs, v, hq, hv⟩, h2⟩ := o1 j x hj ex
  refine ⟨⟨xs, v, hq, hv⟩, fun y H'' ⟨T, z, ey, hT, eH, hz⟩ => ?_⟩
  subst ey eH
  have ez : z = v := Option.some.inj ((hz xs hq).symm.trans hv)
  subst ez
  obtain ⟨A3, p3, st3, r3⟩ := h2 z H' ⟨rfl, fun ys hy => hz ys hy⟩
  have q : Kp A3 C' H' A3 C' (upd H' T (.tup [.int (j : Nat), z])) := kp_new hT
  refine ⟨A3, p3.trans q.stp0, st3.new hT, ?_⟩
  have st4 := st3.new (o := .tup [.int (j : Nat), z]) hT
  exact .tup (tup_nl st4 upd_same) upd_same (.cons (.int _) (.cons (r3.kp q) .nil))
theorem pr_T {fl : Nat} {A : Nat → Addr} {C : Store} {a : Addr} {it : ItD} (ok : ItOk k fl (Itt k.K a) it A C H) : ItOk k fl (IteT k.K a) (prI it) A C H := fun A' C' H' p st' => by
  obtain ⟨o1, o2⟩ := ok A' C' H' p st'
  refine ⟨fun j d hj e => ?_, fun hf => o2 hf⟩
  simp only [prI, Option.map_eq_some_iff] at e
  obtain ⟨x, ex, rfl⟩ := e
  obtain ⟨⟨xs, v, hq, hv⟩, h2⟩ := o1 j x hj ex
  refine ⟨⟨xs, v, hq, hv⟩, fun y H'' ⟨T, z, ey, hT, eH, hz⟩ => ?_⟩
  subst ey eH
  have ez : z = v := Option.some.inj ((hz xs hq).symm.trans hv)
  subst ez
  obtain ⟨A3, p3, st3, r3⟩ := h2 z H' ⟨rfl, fun ys hy => hz ys hy⟩
  have q : Kp A3 C' H' A3 C' (upd H' T (.tup [.int (j : Nat), z])) := kp_new hT
  refine ⟨A3, p3.trans q.stp0, st3.new hT, ?_⟩
  have st4 := st3.new (o := .tup [.int (j : Nat), z]) hT
  exact .tup (tup_nl st4 upd_same) upd_same (.cons (.int _) (.cons (r3.kp q) .nil))
theorem li_enum {m : ME} {R : It → Hp → Prop} (h : LI k W (mEnum m) σ H R) : iEnumA k.K (tCons (LE k W m) tNil) σ H R := by
  obtain ⟨A, F, C, s, h⟩ := h
  refine ⟨A, F, C, s, (Aft.bnd (rel := RepD k) h).mono fun d C1 A1 H1 v p st r h1 => ?_⟩
  have tup : ∀ xs, vT d = some xs → itS d C1 = some (itC xs) → ∃ a, [v] = [.ref a] ∧ (((∃ xs, SqL k.K H1 a xs) ∧ R (Ite k.K a) H1) ∨ ((∃ xs, SqT k.K H1 a xs) ∧ R (IteT k.K a) H1)) := fun xs e ei => by
    rw [ei] at h1
    obtain ⟨a, rfl, hs, ok⟩ := itC_T (fl := F.fl) r e
    exact ⟨a, rfl, .inr ⟨hs, h1 A1 H1 _ Stp.refl st (pr_T ok)⟩⟩
  show ∃ a, [v] = [.ref a] ∧ _
  cases d with
  | tup xs => exact tup xs rfl rfl
  | kt xs => exact tup xs rfl rfl
  | lst xs =>
    cases r with
    | lst l hh rv => exact ⟨_, rfl, .inl ⟨⟨_, .inl (.inl hh)⟩, h1 A1 H1 _ Stp.refl st (pr_L (itC_L (.lst l hh rv)))⟩⟩
  | cell i =>
    cases r with
    | cell hi =>
      simp only [itS] at h1
      split at h1
      · rename_i it e
        split at e
        · rename_i ys ec
          cases e
          obtain ⟨vs, hv, rv⟩ := st.at_ i _ ec
          exact ⟨_, rfl, .inl ⟨⟨vs, .inl (.inl hv)⟩, h1 A1 H1 _ Stp.refl st (pr_L (itV_L (.cell hi)))⟩⟩
        · cases e
      · exact h1.elim
  | _ => exact h1.elim
theorem di_enum {e : Expr} {p pos tpos : Pos} {elts : List Expr} {kk : Nat} {m : ME} (hg : Gl X "enumerate") (hm : X.mg "enumerate" = none) (hK : X.K = k.K) (he : PE X e (LE k W m)) (hs : starEach [e] X.env = [(false, eval e X.env)] := by rfl) :
    PI X (.Tuple elts kk tpos) (.Call (.Name "enumerate" p) [e] [] pos) (LI k W (mEnum m)) := (pi_enumA hg hm (pa_cons he pa_nil (by rw [hs]; rfl)) hs).cq fun _ _ _ h => by
  rw [hK]
  exact li_enum h
end
end CT
set_option maxHeartbeats 4000000
/-! DLG: what the head tells (defs by addresses, checks), the law's end for data. -/
namespace CT
open PySem L2 PySem.Spec PyProof.Rows
/-! ### defs, by where they stand -/
theorem DefX.funD {K : PySem.W.Frag} {d : DefX} (e : fnX K (d.adr K) = d.val) (c : d.ok K = true) : ∃ fd, FunD K d.name d.qual d.params d.body d.scope (d.dfl K) [] (d.adr K) fd := by
  obtain ⟨kp, c2⟩ := He.ba c
  unfold fnX at e
  split at c2
  · rename_i oc od fd osl q
    rw [q] at e
    obtain ⟨k1, k2⟩ := He.ba c2
    cases fd
    simp only [DefX.val, Option.some.injEq, Prod.mk.injEq] at e
    obtain ⟨h1, h2, h3, h4, h5, h6, h7, h8⟩ := e
    subst h1 h2 h3 h4 h5 h6 h7 h8
    exact ⟨_, ⟨_, _, _, _, _, _, _, _, _, _, rfl, q, k1, He.dflB_ok k2, .inl rfl⟩, kp⟩
  · cases c2
/-! ### the head's look -/
section
variable {fs : List (PySem.W.Frag → Bool)} {fn : List DefX} {K : PySem.W.Frag}
theorem SaysX.fact (c : SaysX fs fn K) (i : Nat) {f : PySem.W.Frag → Bool} (h : fs[i]? = some f := by rfl) : f K = true :=
  List.all_eq_true.mp (He.ba (show ((fs.all fun f => f K) && fn.all fun d => d.ok K) = true from congrArg (fun z : AlX => z.1) c)).1 f (List.mem_of_getElem? h)
theorem SaysX.def_ (c : SaysX fs fn K) (i : Nat) {d : DefX} (h : fn[i]? = some d := by rfl) : ∃ fd, FunD K d.name d.qual d.params d.body d.scope (d.dfl K) [] (d.adr K) fd := by
  have c2 := (He.ba (show ((fs.all fun f => f K) && fn.all fun d => d.ok K) = true from congrArg (fun z : AlX => z.1) c)).2
  have e2 : (fn.map fun d => fnX K (d.adr K))[i]? = (fn.map DefX.val)[i]? := congrArg (fun z : AlX => z.2[i]?) c
  rw [List.getElem?_map, List.getElem?_map, h] at e2
  exact DefX.funD (Option.some.inj e2) (List.all_eq_true.mp c2 d (List.mem_of_getElem? h))
end
/-! ### checks -/
section
variable {K : PySem.W.Frag}
theorem mem_allBt (b : Bt) : b ∈ allBt := by cases b <;> simp [allBt]
theorem insB_ok {C : Addr} (h : insB C K = true) : C8.InsC K C := by
  obtain ⟨h1, h⟩ := He.ba h
  obtain ⟨h2, h⟩ := He.ba h
  obtain ⟨h3, h⟩ := He.ba h
  obtain ⟨h4, h⟩ := He.ba h
  obtain ⟨h5, h⟩ := He.ba h
  obtain ⟨h6, h⟩ := He.ba h
  obtain ⟨h7, h⟩ := He.ba h
  obtain ⟨h8, h9⟩ := He.ba h
  exact ⟨⟨h1, h2, h3, He.eqO_ok h4⟩, He.eqO_ok h5, He.eqO_ok h6, of_decide_eq_true h7, of_decide_eq_true h8, of_decide_eq_true h9⟩
theorem isaB_ok {cl : PySem.W.Frag → Nat → Addr} {kn : List Nat} {k : Cn} (hK : k.K = K) (hc : k.cl = cl K) (h : isaB cl kn K = true) : IsaOk k kn := by
  obtain ⟨h1, h⟩ := He.ba h
  obtain ⟨h2, h3⟩ := He.ba h
  rw [List.all_eq_true] at h1 h2 h3
  refine ⟨fun c hm => ?_, fun c hm c' hm' => ?_, fun c hm b => ?_, fun c hm b => ?_⟩
  · rw [hK, hc]
    exact insB_ok (h1 c hm)
  · rw [hK, hc]
    exact of_decide_eq_true (List.all_eq_true.mp (h2 c hm) c' hm')
  · rw [hK, hc]
    exact of_decide_eq_true (He.ba (List.all_eq_true.mp (h3 c hm) b (mem_allBt b))).1
  · rw [hK, hc]
    exact of_decide_eq_true (He.ba (List.all_eq_true.mp (h3 c hm) b (mem_allBt b))).2
theorem ktB_ok {a : PySem.W.Frag → Addr} (h : ktB a K = true) : KT K (a K) [] := by
  unfold ktB at h
  split at h
  · rename_i c od its n osl q
    obtain ⟨h1, h2⟩ := He.ba h
    have e : its.toList = [] := List.length_eq_zero_iff.mp (by rw [Array.length_toList]; exact of_decide_eq_true h2)
    refine ⟨_, its, n, q, congrArg Value.type (of_decide_eq_true h1), rfl, by rw [of_decide_eq_true h2]; exact Nat.zero_le _, ?_⟩
    rw [e]
    exact .nil
  · cases h
end
/-! ### the end -/
def scrD (ns : List Int) : D := .scr (ns.map D.int)
theorem rep_scr {k : Cn} {H : Hp} {a : Addr} {ns : List Int} (hO : Only H) (h : SqL k.K H a (ns.map V.int)) : Rep k (fun _ => 0) [] H (.ref a) (scrD ns) := by
  have nl : ¬ Live (fun _ => 0) [] a := by
    rintro ⟨i, c, e, _⟩
    simp at e
  rcases h with h | ⟨o, its, n, h1, h2, h3, h4, h5, h6⟩
  · rcases h with h | ⟨o, h⟩
    · rcases hO a with z | ⟨o, xs, z⟩
      · rw [h] at z; cases z
      · rw [h] at z; cases z
    · exact .scr nl h RepL.ints
  · exact .kscr ⟨o, its, n, h1, h2, h3, h4, h5, h6⟩ RepL.ints
theorem law_core {P : Program} {w : World} {K : PySem.W.Frag} {mg mb : Str → Option Value} {fa a : Addr} {sp : Sp} {s₁ : Shared} {vs : List Value} {ns : List Int}
    (KX : K.In s₁.heap) (hns : s₁.heap.Ns mainGlobals mg) (hb : s₁.heap.Ns builtinsNs mb) (hbb : ∀ x : Str, x ≠ "__name__" → mb x = bootBuiltins x) (hlim : s₁.heap.NoLimit) (hg : s₁.gens = #[])
    (ha : s₁.heap.get? a = some { cls := .type "list", data := .seq vs.toArray }) (hi : IntsAre vs ns) (hl : ns.length ≤ sizeLine)
    (key : ∀ base : Heap, K.In base → base.Ns mainGlobals mg → ∀ (s : Shared) (H : Hp), Env0 P w K mg base callerA [] s H → sp [.ref a] H (fun v _ => v = .bl true) (fun _ _ _ => False) →
      codeAny (model P w) callerA (.call (.ref fa) ⟨[.ref a], []⟩) (CR (L2.CX P w) [] P w H s (fun v _ => v = .bl true) fun _ _ _ => False) s)
    (hsp : ∀ H : Hp, Only H → SqL K H a (ns.map V.int) → sp [.ref a] H (fun v _ => v = .bl true) fun _ _ _ => False) :
    codeAny (model P w) callerA (.call (.ref fa) ⟨[.ref a], []⟩) (fun r s' => r = .ok (.ret (.bool true)) ∧ OldK s₁.heap s'.heap ∧ s'.os = s₁.os ∧ AllBare s'.gens) s₁ := by
  have rv := vals_ints hi
  have lenV := hi.length
  -- from an abstract heap in which nothing but the script may be tracked
  have core : ∀ H : Hp, Only H → SqL K H a (ns.map V.int) → HOk P w H s₁.heap → (∀ b, H b ≠ none → b = a) → (H a ≠ none → K.lookup a = none) →
      codeAny (model P w) callerA (.call (.ref fa) ⟨[.ref a], []⟩) (fun r s' => r = .ok (.ret (.bool true)) ∧ OldK s₁.heap s'.heap ∧ s'.os = s₁.os ∧ AllBare s'.gens) s₁ := by
    intro H hO hS hok hA hK
    have base_of : ∀ {b : Addr} {o : Obj}, s₁.heap.get? b = some o → H b = none → (hidT s₁.heap H).get? b = some o := fun e n => hidT_get e n
    have noA : ∀ {b : Addr} {o : Obj} {es : Array DictEntry} {ep : Nat}, s₁.heap.get? b = some o → o.data = .dict es ep → H b = none := fun {b o es ep} e d => by
      cases q : H b with
      | none => rfl
      | some u =>
        have e' : b = a := hA b (by rw [q]; simp)
        subst e'
        rw [ha] at e; cases e
        have d' : Data.seq vs.toArray _ = Data.dict es ep := d
        cases d'
    have nsK : ∀ {b : Addr} {m : Str → Option Value}, s₁.heap.Ns b m → (hidT s₁.heap H).Ns b m := fun {b m} ⟨o, es, ep, e, d, r⟩ => ⟨o, es, ep, base_of e (noA e d), d, r⟩
    have hKb : K.In (hidT s₁.heap H) := fun b o e => base_of (KX b o e) (by
      cases q : H b with
      | none => rfl
      | some u =>
        have e' : b = a := hA b (by rw [q]; simp)
        subst e'
        rw [hK (by rw [q]; simp)] at e; cases e)
    have hM : Mod K mg (hidT s₁.heap H) := ⟨hKb, nsK hns, ⟨mb, nsK hb, hbb⟩, let ⟨mc, h1, h2⟩ := hlim; ⟨mc, nsK h1, h2⟩⟩
    have e0 : Env0 P w K mg (hidT s₁.heap H) callerA [] s₁ H := ⟨rfl, hM, fun b o e => of_hidT e, Nat.le_of_eq (hidT_size _ _), trivial, fun b hb => absurd (show b ∈ ([] : List Addr) from hb) (by simp), hok, .of_eq hg⟩
    refine codeAny_mono (key _ hKb (nsK hns) s₁ H e0 (hsp H hO hS)) fun r s' h => ?_
    cases r with
    | error e =>
      obtain ⟨_, _, _, _, _, _, _, _, _, _, _, _, z⟩ := h
      exact z.elim
    | ok fl =>
      cases fl with
      | next => exact False.elim h
      | brk => exact False.elim h
      | cont => exact False.elim h
      | ret u =>
        obtain ⟨v, H', os, bare, un, hok', r', q⟩ := h
        have q' : v = .bl true := q
        subst q'
        obtain rfl : u = Value.bool true := r'
        refine ⟨rfl, OldK.of_keep fun b o e => ?_, os, bare⟩
        cases q : H b with
        | none => exact un.keep b o e q (by intro z; exact absurd (show b ∈ ([] : List Addr) from z) (by simp)) (by simp)
        | some u =>
          rcases hO b with z | ⟨ob, xs, z⟩
          · rw [q] at z; cases z
          · have z2 := un.frzs b ob _ z
            obtain ⟨e1, _⟩ := hok b _ z
            obtain ⟨e2, _⟩ := hok' b _ z2
            rw [e] at e1; cases e1
            exact e2
  cases hk : K.lookup a with
  | some o =>
    -- the script is one of the module's own objects
    have e := KX a o hk
    rw [ha] at e
    cases e
    refine core (fun _ => none) (fun _ => .inl rfl) (.inr ⟨_, vs.toArray, _, hk, rfl, rfl, rfl, by rw [List.size_toArray, lenV]; exact hl, by simpa using rv⟩) (fun b u z => by have z' : (none : Option HO) = some u := z; cases z') (fun b z => absurd rfl z) fun z => absurd rfl z
  | none =>
    refine core (fun b => if b = a then some (.frz { cls := .type "list", data := .seq vs.toArray } (.lst (ns.map V.int))) else none) (fun b => ?_) (.inl (.inr ⟨{ cls := .type "list", data := .seq vs.toArray }, if_pos rfl⟩)) (fun b u z => ?_) (fun b z => ?_) fun _ => hk
    · by_cases hb : b = a
      · exact .inr ⟨_, _, if_pos hb⟩
      · exact .inl (if_neg hb)
    · by_cases hb : b = a
      · have z' := (if_pos hb).symm.trans z
        cases z'
        subst hb
        exact ⟨ha, by rw [List.length_map]; exact hl, vs, _, rv, ha⟩
      · have z' := (if_neg hb).symm.trans z
        cases z'
    · by_cases hb : b = a
      · exact hb
      · exact absurd (if_neg hb) z
end CT
set_option maxHeartbeats 4000000
/-! DLH: a def that hands back a list of its own, to be changed by its caller. -/
namespace CT
open PySem L2 PySem.Spec PyProof.Rows
section
variable {k : Cn} {A A2 : Nat → Addr} {C C2 : Store} {H : Hp} {n : Nat}
structure Fw2 (n : Nat) (A : Nat → Addr) (C : Store) (A2 : Nat → Addr) (C2 : Store) : Prop where
  lv : ∀ a, Live A2 C2 a → Live A C a
  ix : ∀ j, j < n → A2 j = A j
  len : n ≤ C2.length
mutual
theorem Rep.fw2 (q : Fw2 n A C A2 C2) : ∀ {v : V} {d : D}, Rep k A C H v d → CT.cb n d = true → Rep k A2 C2 H v d
  | _, _, .non, _ => .non
  | _, _, .bl b, _ => .bl b
  | _, _, .int i, _ => .int i
  | _, _, .str s, _ => .str s
  | _, _, .lst l h r, z => .lst (fun y => l (q.lv _ y)) h (r.fw2 q (by simpa [CT.cb] using z))
  | _, _, .tup l h r, z => .tup (fun y => l (q.lv _ y)) h (r.fw2 q (by simpa [CT.cb] using z))
  | _, _, .ktup h r, z => .ktup h (r.fw2 q (by simpa [CT.cb] using z))
  | _, _, .scr l h r, z => .scr (fun y => l (q.lv _ y)) h (r.fw2 q (by simpa [CT.cb] using z))
  | _, _, .kscr h r, z => .kscr h (r.fw2 q (by simpa [CT.cb] using z))
  | _, _, .obj l h e r, z => .obj (fun y => l (q.lv _ y)) h e (r.fw2 q (by simpa [CT.cb] using z))
  | _, _, .exn x l h e r, z => .exn x (fun y => l (q.lv _ y)) h e (r.fw2 q (by simpa [CT.cb] using z))
  | _, _, .cls c, _ => .cls c
  | _, _, .dT l h r, z => .dT (fun y => l (q.lv _ y)) h (r.fw2 q (by simpa [CT.cb] using z))
  | _, _, .cell (i := i) hi, z => by
    have hi : i < n := by simpa [CT.cb] using z
    rw [← q.ix i hi]
    exact .cell (Nat.lt_of_lt_of_le hi q.len)
theorem RepL.fw2 (q : Fw2 n A C A2 C2) : ∀ {vs : List V} {ds : List D}, RepL k A C H vs ds → CT.cbL n ds = true → RepL k A2 C2 H vs ds
  | _, _, .nil, _ => .nil
  | _, _, .cons r t, z => by
    simp [CT.cbL] at z
    exact .cons (r.fw2 q z.1) (t.fw2 q z.2)
end
end
def finO (n : Nat) (d : D) (C : Store) : R D := match d with
  | .cell i => if n ≤ i then (match C[i]? with
    | some (some (.lst xs)) => if cbL n xs = true then .ok (.cell n) (C.take n ++ [some (.lst xs)]) else .stuck
    | _ => .stuck) else .stuck
  | _ => .stuck
def mDefO (np ns : Nat) (body : MS) : MF := fun ds C => if ds.length = np then (match body ⟨C.length, ds.map some ++ List.replicate (ns - np) none⟩ C with
    | .rt d C' => finO C.length d C'
    | .xc e _ C' => if cbL C.length e.fs = true then .exc e (C'.take C.length) else .stuck
    | _ => .stuck) else .stuck
theorem mDefO_ar {np ns : Nat} {body : MS} : Ar np (mDefO np ns body) := fun ds C h => by
  unfold mDefO
  rw [if_neg h]
section
variable {k : Cn}
theorem start_sr {np ns : Nat} {N : List Str} {vs : List V} {ds : List D} {H : Hp} {A : Nat → Addr} {C : Store} (hN : N.length = ns) (hv : vs.length = np) (hd : ds.length = np) (hp : np ≤ ns) (st : StOk k A C H) (rl : RepL k A C H vs ds) :
    SR k A ⟨C.length, ds.map some ++ List.replicate (ns - np) none⟩ C (L2.start N vs) H := by
  have sl : (L2.start N vs) = vs.map some ++ List.replicate (ns - np) none := by unfold L2.start; rw [hN, hv]
  refine ⟨st, st.low, Nat.le_refl _, ?_, fun i d e => ?_⟩
  · rw [sl]
    simp [rl.length]
  · rw [sl]
    have e' : (ds.map some ++ List.replicate (ns - np) none)[i]? = some (some d) := e
    by_cases hi : i < ds.length
    · rw [List.getElem?_append_left (by simpa using hi), List.getElem?_map] at e'
      cases ed : ds[i]? with
      | none => rw [ed] at e'; cases e'
      | some d' =>
        rw [ed] at e'
        cases e'
        obtain ⟨v, h1, h2⟩ := rl.get ed
        refine ⟨v, ?_, h2⟩
        rw [List.getElem?_append_left (by rw [List.length_map, rl.length]; exact hi), List.getElem?_map, h1]
        rfl
    · rw [List.getElem?_append_right (by simpa using hi)] at e'
      have := List.getElem?_eq_some_iff.mp e'
      obtain ⟨h1, h2⟩ := this
      rw [List.getElem_replicate] at h2
      cases h2
theorem spDO_body {np ns : Nat} {body : MS} {N : List Str} {vs : List V} {H : Hp} {Q : VK} {E : XK} (hN : N.length = ns) (hp : np ≤ ns) (h : SpD k np (mDefO np ns body) vs H Q E) :
    LS k (fun c d _ H' => E c d H') body { nx := fun _ H' => Q .non H', rt := Q } (L2.start N vs) H := by
  obtain ⟨hv, A, C, ds, st, rl, h⟩ := h
  have hd : ds.length = np := by rw [← rl.length]; exact hv
  unfold mDefO at h
  rw [if_pos hd] at h
  refine ⟨A, _, C, start_sr hN hv hd hp st rl, ?_⟩
  show AftS k _ C.length A C H (body ⟨C.length, ds.map some ++ List.replicate (ns - np) none⟩ C) _
  cases eb : body ⟨C.length, ds.map some ++ List.replicate (ns - np) none⟩ C with
  | nx sl' C' => rw [eb] at h; exact h.elim
  | bk sl' C' => rw [eb] at h; exact h.elim
  | ct sl' C' => rw [eb] at h; exact h.elim
  | stuck => rw [eb] at h; exact h.elim
  | rt d C' =>
    rw [eb] at h
    intro A' H' v p st' r
    simp only at h
    unfold finO at h
    split at h
    · rename_i i
      split at h
      · rename_i hi
        split at h
        · rename_i xs ec
          split at h
          · rename_i hc
            obtain ⟨q1, q2, q3, q4⟩ := cut_stp rfl st st' p
            cases r with
            | cell hi' =>
              obtain ⟨ws, hw, rw'⟩ := st'.at_ i _ ec
              have tl : (C'.take C.length ++ [some (Cell.lst xs)]).length = C.length + 1 := by simp [List.length_take]; omega
              have at_lt : ∀ j, j < C.length → (C'.take C.length ++ [some (Cell.lst xs)])[j]? = C'[j]? := fun j hj => by
                rw [List.getElem?_append_left (by rw [q4]; exact hj), List.getElem?_take_of_lt hj]
              have at_n : (C'.take C.length ++ [some (Cell.lst xs)])[C.length]? = some (some (.lst xs)) := by
                rw [List.getElem?_append_right (by rw [q4]; exact Nat.le_refl _), q4]
                simp
              have ex_lt : ∀ j, j < C.length → ext A' C.length (A' i) j = A' j := fun j hj => if_neg (Nat.ne_of_lt hj)
              have fw : Fw2 C.length A' C' (ext A' C.length (A' i)) (C'.take C.length ++ [some (.lst xs)]) := by
                refine ⟨fun a l => ?_, ex_lt, by rw [tl]; exact Nat.le_succ _⟩
                obtain ⟨j, c, e, z⟩ := l
                have hj : j < C.length + 1 := by rw [← tl]; exact (List.getElem?_eq_some_iff.mp e).1
                by_cases hj' : j < C.length
                · rw [at_lt j hj'] at e
                  rw [ex_lt j hj'] at z
                  exact ⟨j, c, e, z⟩
                · have ej : j = C.length := by omega
                  subst ej
                  rw [ext_at] at z
                  exact ⟨i, _, ec, z⟩
              have low : LowC C.length C' := p.low _ (Nat.le_refl _) (Nat.le_refl _) st.low
              have cellOk : ∀ c a, cbC C.length c = true → CellAt k A' C' H' a c → CellAt k (ext A' C.length (A' i)) (C'.take C.length ++ [some (.lst xs)]) H' a c := fun c a hb hx => by
                cases c with
                | lst ds => obtain ⟨ws, e, r⟩ := hx; exact ⟨ws, e, r.fw2 fw hb⟩
                | dT ks ds => obtain ⟨ws, e, z, r⟩ := hx; exact ⟨ws, e, z, r.fw2 fw hb⟩
                | ins c ds => obtain ⟨dx, ws, e, z, r⟩ := hx; exact ⟨dx, ws, e, z, r.fw2 fw hb⟩
              have st2 : StOk k (ext A' C.length (A' i)) (C'.take C.length ++ [some (.lst xs)]) H' := by
                refine ⟨fun j c e => ?_, fun j j' c c' e e' z => ?_⟩
                · have hj : j < C.length + 1 := by rw [← tl]; exact (List.getElem?_eq_some_iff.mp e).1
                  by_cases hj' : j < C.length
                  · rw [at_lt j hj'] at e
                    rw [ex_lt j hj']
                    exact cellOk c _ (low j c hj' e) (st'.at_ j c e)
                  · have ej : j = C.length := by omega
                    subst ej
                    rw [at_n] at e
                    cases e
                    rw [ext_at]
                    exact cellOk _ _ hc (st'.at_ i _ ec)
                · have hj : j < C.length + 1 := by rw [← tl]; exact (List.getElem?_eq_some_iff.mp e).1
                  have hk : j' < C.length + 1 := by rw [← tl]; exact (List.getElem?_eq_some_iff.mp e').1
                  by_cases hj' : j < C.length
                  · by_cases hk' : j' < C.length
                    · rw [at_lt j hj'] at e
                      rw [at_lt j' hk'] at e'
                      rw [ex_lt j hj', ex_lt j' hk'] at z
                      exact st'.inj j j' c c' e e' z
                    · have ek : j' = C.length := by omega
                      subst ek
                      rw [at_lt j hj'] at e
                      rw [ex_lt j hj', ext_at] at z
                      have := st'.inj j i c _ e ec z
                      omega
                  · have ej : j = C.length := by omega
                    subst ej
                    by_cases hk' : j' < C.length
                    · rw [at_lt j' hk'] at e'
                      rw [ex_lt j' hk', ext_at] at z
                      have := st'.inj j' i c' _ e' ec z.symm
                      omega
                    · omega
              refine h (ext A' C.length (A' i)) H' (.ref (A' i)) ⟨fun v d r => (p.rep v d r).fw2 fw r.cb, by rw [tl]; exact Nat.le_succ _, fun f h1 h2 l => low_app (by rw [q4]; exact h1) (low_take (p.low f h1 h2 l))⟩ st2 ?_
              have r9 : Rep k (ext A' C.length (A' i)) (C'.take C.length ++ [some (.lst xs)]) H' (.ref (ext A' C.length (A' i) C.length)) (.cell C.length) := .cell (by rw [tl]; exact Nat.lt_succ_self _)
              rw [ext_at] at r9
              exact r9
          · exact h.elim
        · exact h.elim
      · exact h.elim
    · exact h.elim
  | xc e sl' C' =>
    rw [eb] at h
    intro A' σ' H' dd ws p s' x l r
    simp only at h
    split at h
    · rename_i hc
      obtain ⟨q1, q2, q3, q4⟩ := cut_stp rfl st s'.st p
      exact h A' H' dd ws q1 q2 x l (r.cut q3 hc)
    · exact h.elim
variable {P : Program} {w : World} {mg : Str → Option Value} {base : Heap} {x qual : Str} {params : Arguments} {body : List Stmt} {scope : Scope} {dvs : List V} {kws : List (Str × V)} {f : Addr} {fd : FuncData}
theorem fn_okO {N ps : List Str} {lev : Nat} {m : MS} (F : FunD k.K x qual params body scope dvs kws f fd) (S : FnScope N ps scope) (hp : ps.length ≤ N.length)
    (hb : ∀ (cdv : Value) (A : Around) (outer : List Env) (s : Shared) (H : Hp) (E : XK), RoomG lev (A.deeper (envOfC qual scope s.heap.objs.size f cdv)) → PSs (cxOf (L2.CX P w) P w k.K mg base N qual scope f cdv A outer s H E) body (LS k (fun c d _ H' => E c d H') m)) :
    FnG P w k.K mg base (lev + 1) f fd ps (SpD k ps.length (mDefO ps.length N.length m)) := by
  obtain ⟨oc, od, dV, kV, doc, pm, an, cdv, ct, osl, rfl, lk, hcd, _, _⟩ := F.ex
  exact fn_ofG lk hcd S (fun vs H Q E h => h.1) fun A outer s H vs Q E hr h => ⟨_, hb cdv A outer s H E hr, spDO_body rfl hp h⟩
end
end CT
set_option maxHeartbeats 4000000
/-! DLI: comparisons as tests. -/
namespace CT
open PySem L2 PySem.Spec PyProof.Rows
theorem RoomG.u200 {n : Nat} {A : Around} (hr : RoomG n A) : A.units + 200 < cLine := by have := hr.room.un; omega
section
variable {X : Cx} {k : Cn} {W : WX} {a b c : Expr} {pos : Pos} {op op' : CmpOp} {r r' : R2} {o o' : O2} {ma mb mc : ME}
theorem dt_cmp (hR : OpR X (compareOp op) r) (hD : OpD k r o) (ha : PE X a (LE k W ma)) (hb : PE X b (LE k W mb)) (hm : behindInMarks op b = false) : PT X (.Compare a [op] [b] pos) (LT k W (mTst (mOp o ma mb))) :=
  (pt_cmpR hR ha hb hm).cq fun _ _ _ h => le_op hD (lt_val h)
end
/-! ### == and !=, scalars or data -/
theorem d_eqA {k : Cn} : OpD k (fun x y H Q => rEq x y H Q ∨ rEqD k.K x y H Q) (oEqA false) := by
  intro fl A C H x y dx dy d C' Q hf hl st rx ry e q
  unfold oEqA at e
  split at e
  · cases rx; cases ry; cases e
    refine .inl ⟨rfl, ?_⟩
    have := q A H _ Stp.refl st (.bl _)
    simpa using this
  · cases rx; cases ry; cases e
    refine .inl ⟨rfl, ?_⟩
    have := q A H _ Stp.refl st (.bl _)
    simpa using this
  · exact .inr (d_eqD fl A C H x y _ _ d C' Q hf hl st rx ry e q)
theorem d_neA {k : Cn} : OpD k (fun x y H Q => rNe x y H Q ∨ rNeD k.K x y H Q) (oEqA true) := by
  intro fl A C H x y dx dy d C' Q hf hl st rx ry e q
  unfold oEqA at e
  split at e
  · cases rx; cases ry; cases e
    refine .inl ⟨rfl, ?_⟩
    have := q A H _ Stp.refl st (.bl _)
    simpa using this
  · cases rx; cases ry; cases e
    refine .inl ⟨rfl, ?_⟩
    have := q A H _ Stp.refl st (.bl _)
    simpa using this
  · exact .inr (d_neD fl A C H x y _ _ d C' Q hf hl st rx ry e q)
end CT
set_option maxHeartbeats 4000000
/-! DLJ: operators that a class defines: ==, !=, +, in, []. -/
namespace CT
open PySem L2 PySem.Spec PyProof.Rows
end CT
set_option maxHeartbeats 4000000
/-! DLK: != by an own __eq__; x[i] by an own __getitem__. -/
namespace CT
open PySem L2 PySem.Spec PyProof.Rows
end CT
set_option maxHeartbeats 4000000
/-! DLL: own operators over data. -/
namespace CT
open PySem L2 PySem.Spec PyProof.Rows
/-! ### the terms -/
/-! ### readings -/
end CT
set_option maxHeartbeats 4000000
/-! DLM: what the head says of own operators. -/
namespace CT
open PySem L2 PySem.Spec PyProof.Rows
end CT
set_option maxHeartbeats 4000000
/-! DLN: t[::-1], xs[::-1], t[lo:hi]. -/
namespace CT
open PySem L2 PySem.Spec PyProof.Rows HT
def mRevL (own : Bool) (m : ME) : ME := fun F C => bnd (m F C) fun x C1 => match vL x C1 with
  | some xs => ofO (some (mkL own xs.reverse C1))
  | none => .stuck
section
variable {X : Cx} {k : Cn} {W : WX} {σ : L2.St} {H : Hp} {Q : VK} {e : Expr} {te : TE} {kk : Nat} {p1 p2 p3 pos : Pos} {ma : ME}
theorem rep_rev {A : Nat → Addr} {S : Store} : ∀ {vs : List V} {xs : List D}, RepL k A S H vs xs → RepL k A S H vs.reverse xs.reverse
  | _, _, .nil => .nil
  | _, _, .cons h t => by
    rw [List.reverse_cons, List.reverse_cons]
    exact (rep_rev t).append (.cons h .nil)
theorem le_revL {own : Bool} (h : LE k W (mRevL own ma) σ H Q) : tRevL k.K (LE k W ma) σ H Q := by
  obtain ⟨A, F, C, s, h⟩ := h
  refine ⟨A, F, C, s, (Aft.bnd (rel := RepD k) h).mono fun dx C1 A1 H1 v p1 st1 r1 h1 => ?_⟩
  have s1 := s.step p1 st1
  split at h1
  · rename_i xs ev
    obtain ⟨a, vs, rfl, ha, rv⟩ := vL_at st1 r1 ev
    refine ⟨a, vs, rfl, .inl (.inl ha), fun p hp => ?_⟩
    obtain ⟨A4, w1, w2, w3⟩ := fresh_L (own := own) s1.fl st1 (rep_rev rv) hp
    exact h1 A4 _ _ w1 w2 w3
  · exact h1.elim
theorem de_revL (own : Bool) (hK : X.K = k.K) (he : PE X e (LE k W ma)) : PE X (.Subscript e (.Slice none none (some (.UnaryOp .USub (.Constant (.int 1) kk p1) p2)) p3) pos) (LE k W (mRevL own ma)) :=
  (pe_revL he).cq fun _ _ _ h => by
    rw [hK]
    exact le_revL h
end
end CT
set_option maxHeartbeats 4000000
/-! DLO: errors of the program's own: made and raised. -/
namespace CT
open PySem L2 PySem.Spec PyProof.Rows
/-! ### what the head says of an error class -/
/-! ### __init__: one field, two fields -/
/-! ### raise C(e, ..) -/
end CT
set_option maxHeartbeats 4000000
/-! DLP: try: .. except C as n: .. return; the error is held as data. -/
namespace CT
open PySem L2 PySem.Spec PyProof.Rows
section
variable {k : Cn} {A A' : Nat → Addr} {C C' : Store} {H H' : Hp} {a dd : Addr} {c : Nat} {fl : Nat}
end
end CT
set_option maxHeartbeats 4000000
/-! DLQ: isinstance of the held error. -/
namespace CT
open PySem L2 PySem.Spec PyProof.Rows PySem.W
end CT
set_option maxHeartbeats 4000000
/-! DLR: web * k. -/
namespace CT
open PySem L2 PySem.Spec PyProof.Rows PySem.W
/-! ### over data -/
def mulB (x : Str) (K : Frag) : Bool := selfFirst K (He.ga K x) && (He.eqO (findIn K (.ref (He.ga K x)) (PySem.dunder "mul")) (some (some (.ref (He.ma K (He.ga K x) "__mul__")))) && (He.eqO (findIn K (.ref (He.ga K x)) (PySem.dunderR "mul")) (some (some (.ref (He.ma K (He.ga K x) "__rmul__")))) &&
  (isFn K (.ref (He.ma K (He.ga K x) "__mul__")) && (isFn K (.ref (He.ma K (He.ga K x) "__rmul__")) && (decide (subIn K (.type "int") (.ref (He.ga K x)) = some false) && decide (subIn K (.ref (He.ga K x)) (.type "int") = some false))))))
end CT
set_option maxHeartbeats 4000000
/-! DLS: is None; sorted(set(xs)) of ints, len(set(xs)) of tuples of ints. -/
namespace CT
open PySem L2 PySem.Spec PyProof.Rows
/-! ### is None, is not None -/
def oIsN (neg : Bool) : O2 := fun x y C => match y with
  | .non => (match x with
    | .non => some (.bl (!neg), C)
    | _ => some (.bl neg, C))
  | _ => none
section
variable {k : Cn}
theorem d_isN : OpD k (fun x y H Q => y = .non ∧ Q (.bl (decide (x = .non))) H) (oIsN false) := by
  intro fl A C H x y dx dy d C' Q hf hl st rx ry e q
  cases ry with
  | non =>
    refine ⟨rfl, ?_⟩
    cases rx with
    | non => cases e; exact q A H _ .refl st (.bl _)
    | _ => cases e; exact q A H _ .refl st (.bl _)
  | _ => cases e
end
/-! ### set(xs), xs a list of ints -/
end CT
set_option maxHeartbeats 4000000
/-! E1: how the terms of the layer are worked out. -/
namespace CT
open PySem L2
/-! ### named steps; simp looks at what is done first alone -/
theorem ev_def {np ns : Nat} {body : MS} {ds : List D} {C : Store} (h : ds.length = np) : mDef np ns body ds C = finS C.length (body ⟨C.length, ds.map some ++ List.replicate (ns - np) none⟩ C) := by
  unfold mDef
  rw [if_pos h]
  rfl
section
variable (fl : Nat) (sl : List (Option D)) (C : Store) (F : Fr)
theorem ev_mul {a b : Int} (h : cMul a b = true) : oMul (.int a) (.int b) C = some (.int (a * b), C) := by
  show (if cMul a b = true then some (D.int (a * b), C) else none) = _
  rw [if_pos h]
theorem ev_mod {a b : Int} (h : 0 < b) : oMod (.int a) (.int b) C = some (.int (a % b), C) := by
  show (if decide (0 < b) = true then some (D.int (a % b), C) else none) = _
  rw [if_pos (decide_eq_true h)]
theorem ev_div {a b : Int} (h : 0 < b) (h2 : b < 4611686018427387904) : oDiv (.int a) (.int b) C = some (.int (a / b), C) := by
  show (if cDiv a b = true then some (D.int (a / b), C) else none) = _
  rw [if_pos (by simp [cDiv, h, h2])]
end
/-! ### what is done next, as constants -/
section
variable {α β : Type}
/-! #### methods, properties, dicts -/
theorem getK_ok (b c : ME) (F : Fr) {x : D} {C : Store} (h : (vD x C).isSome = true) : getK b c F (.ok x C) = getK2 c F x (b F C) := by
  show (if (vD x C).isSome = true then getK2 c F x (b F C) else .stuck) = _
  rw [if_pos h]
/-! #### lists written -/
end
end CT
set_option maxHeartbeats 4000000
/-! DLT: sorted(set(xs)) of ints, len(set(xs)) of tuples of ints. -/
namespace CT
open PySem L2 PySem.Spec PyProof.Rows
theorem mDef_e {np ns : Nat} {b : MS} {ds : List D} {C : Store} {sl : List (Option D)} (h : ds.length = np) (hs : ds.map some ++ List.replicate (ns - np) none = sl) : mDef np ns b ds C = finS C.length (b ⟨C.length, sl⟩ C) := by
  rw [← hs]
  exact ev_def h
/-! ### unlike members, ascending -/
theorem up_one : ∀ {a b : List Int}, a.Pairwise (· < ·) → b.Pairwise (· < ·) → (∀ z, z ∈ a ↔ z ∈ b) → a = b
  | [], [], _, _, _ => rfl
  | [], y :: r, _, _, h => absurd ((h y).mpr (List.mem_cons_self ..)) (by simp)
  | x :: q, [], _, _, h => absurd ((h x).mp (List.mem_cons_self ..)) (by simp)
  | x :: q, y :: r, ha, hb, h => by
    have ⟨a1, a2⟩ := List.pairwise_cons.mp ha
    have ⟨b1, b2⟩ := List.pairwise_cons.mp hb
    have e : x = y := by
      rcases List.mem_cons.mp ((h x).mp (List.mem_cons_self ..)) with e | e
      · exact e
      · rcases List.mem_cons.mp ((h y).mpr (List.mem_cons_self ..)) with e' | e'
        · exact e'.symm
        · have := a1 y e'
          have := b1 x e
          omega
    subst e
    rw [up_one a2 b2 fun z => ?_]
    constructor
    · intro hz
      rcases List.mem_cons.mp ((h z).mp (List.mem_cons_of_mem _ hz)) with e | e
      · have := a1 z hz; omega
      · exact e
    · intro hz
      rcases List.mem_cons.mp ((h z).mpr (List.mem_cons_of_mem _ hz)) with e | e
      · have := b1 z hz; omega
      · exact e
/-! ### unlike rows -/
theorem nd_len : ∀ {a b : List (List Int)}, a.Nodup → b.Nodup → (∀ z, z ∈ a ↔ z ∈ b) → a.length = b.length
  | [], b, _, _, h => by
    cases b with
    | nil => rfl
    | cons y r => exact absurd ((h y).mpr (List.mem_cons_self ..)) (by simp)
  | x :: q, b, ha, hb, h => by
    have ⟨a1, a2⟩ := List.nodup_cons.mp ha
    have hx : x ∈ b := (h x).mp (List.mem_cons_self ..)
    have e := nd_len a2 (hb.erase x) fun z => by
      rw [List.Nodup.mem_erase_iff hb]
      constructor
      · exact fun hz => ⟨fun e => a1 (e ▸ hz), (h z).mp (List.mem_cons_of_mem _ hz)⟩
      · rintro ⟨h1, h2⟩
        rcases List.mem_cons.mp ((h z).mpr h2) with e | e
        · exact absurd e h1
        · exact e
    rw [List.length_cons, e, List.length_erase_of_mem hx]
    have : 0 < b.length := List.length_pos_of_mem hx
    omega
/-! ### the calls -/
/-! ### over data -/
end CT
set_option maxHeartbeats 4000000
/-! DLU: repr of an empty dict. -/
namespace CT
open PySem L2 PySem.Spec PyProof.Rows
end CT
set_option maxHeartbeats 4000000
/-! DLV: l.count(x) over data. -/
namespace CT
open PySem L2 PySem.Spec PyProof.Rows
end CT
set_option maxHeartbeats 4000000
/-! DLW: a class whose __init__ takes *numbers and a keyword. -/
namespace CT
open PySem L2 PySem.Spec PyProof.Rows
/-! ### C(e, ..), C(k = e) -/
section
variable {k : Cn} {A : Nat → Addr} {C : Store} {H : Hp}
end
end CT
set_option maxHeartbeats 4000000
/-! DLX: len(set(t)) of a tuple of ints; sorted(t); str(n), f-strings, join. -/
namespace CT
open PySem L2 PySem.Spec PyProof.Rows
/-! ### len(set(t)) -/
/-! ### sorted(t) -/
mutual
theorem reads_lt {h : Heap} : ∀ {v : Value} {d : PyData} {as : List Addr}, Reads h v d as → ∀ a ∈ as, a < h.objs.size
  | _, _, _, .none, a, ha => by cases ha
  | _, _, _, .bool _, a, ha => by cases ha
  | _, _, _, .int _ _, a, ha => by cases ha
  | _, _, _, .str _ _, a, ha => by cases ha
  | _, _, _, .list h1 _ _ h4, a, ha => by
    rcases List.mem_cons.mp ha with rfl | ha
    · exact Heap.lt_size h1
    · exact readsAll_lt h4 a ha
  | _, _, _, .tuple _ _ _ h4, a, ha => readsAll_lt h4 a ha
  | _, _, _, .dict h1 _ _ h4 h5, a, ha => by
    simp only [List.cons_append, List.mem_cons, List.mem_append] at ha
    rcases ha with rfl | ha | ha
    · exact Heap.lt_size h1
    · exact readsAll_lt h4 a ha
    · exact readsAll_lt h5 a ha
theorem readsAll_lt {h : Heap} : ∀ {vs : List Value} {ds : List PyData} {as : List Addr}, ReadsAll h vs ds as → ∀ a ∈ as, a < h.objs.size
  | _, _, _, .nil, a, ha => by cases ha
  | _, _, _, .cons r t, a, ha => by
    rcases List.mem_append.mp ha with ha | ha
    · exact reads_lt r a ha
    · exact readsAll_lt t a ha
end
def rSortP (K : PySem.W.Frag) : List V → Hp → VK → Prop := fun xs H Q => ∃ (a : Addr) (β : Type) (bs : List β) (f : β → V) (enc : β → PyData), xs = [.ref a] ∧ SqT K H a (bs.map f) ∧ (∀ b ∈ bs, Dp K H (f b) (enc b)) ∧ PySem.W.AllAlike (bs.map enc) ∧ PySem.W.Sortable (bs.map enc) ∧ (∀ b ∈ bs, (enc b).depth ≤ 60) ∧
  ∀ p, H p = none → Q (.ref p) (upd H p (.lst ((bs.mergeSort (PySem.W.dataLe false enc)).map f)))
section
variable {X : Cx}
theorem cr_sortP (hu : X.A.units + 200 < cLine) : CallR X (.builtin "sorted") (rSortP X.K) := by
  intro pins s σ H xs us Q I r h
  obtain ⟨a, β, bs, f, enc, rfl, hs, hd, hal, hk, hdp, q⟩ := h
  obtain ⟨its, rv, ⟨o, ho, hoc, n, hod⟩, hz⟩ := I.tuple hs
  obtain ⟨u, rfl, ru⟩ := vals1 r
  obtain rfl : u = Value.ref a := ru
  have hL : bs.length ≤ sizeLine := by rw [List.length_map] at hz; exact hz
  have hzi : its.toArray.size ≤ sizeLine := by rw [List.size_toArray, ← rv.length]; exact hz
  refine Calls.call_function_entry PyProof.Rows.kind_sorted PyProof.Rows.plain_sorted PyProof.Rows.entry_sorted (PyProof.Rows.args_sorted1 _) ?_
  unfold Builtin.«sorted»
  refine wpAny_bind (m := checkCount "sorted" 1 1 _) (wpAny_pure ?_)
  refine wpAny_bind (wpAny_collect_seq a (.inr rfl) ho hoc hod (fun h' hk' => ?_) hzi)
  have I1 : Inv X pins σ H { s with heap := h' } := I.kept (t' := s.toks) hk'
  have ea : its.toArray.toList = its := by simp
  rw [ea]
  refine wpAny_bind (wpAny_newList ?_ (by rw [List.size_toArray] at hzi; exact hzi))
  have hoL : (h'.push (seqObj "list" its.toArray 0)).get? h'.objs.size = some (seqObj "list" its.toArray 0) := Heap.get?_push_size _ rfl
  show wpAny _ _ _ _ _ { s with heap := h'.push (seqObj "list" its.toArray 0) }
  have each1 := each_vals rv
  have each2 : PySem.W.EachIs (fun u b => ∃ as, Reads (h'.push (seqObj "list" its.toArray 0)) u (enc b) as ∧ h'.objs.size ∉ as) its bs := each_in each1 fun u b hb e => by
    obtain ⟨as, ra⟩ := Dp.reads I1 _ _ _ (hd b hb) e
    exact ⟨as, PyProof.Rows.Reads.keeps (fun b o q => Heap.get?_push_of_some _ q) ra, fun hm => absurd (reads_lt ra _ hm) (Nat.lt_irrefl _)⟩
  refine wpAny_bind (wpAny_holding (PySem.W.list_sort_data (s := { s with heap := h'.push (seqObj "list" its.toArray 0) }) (R := fun u b => RelV (f b) u) (enc := enc) (bs := bs) hoL each1 each2 hal hk hL (fun b hb => ?_) fun out hout eo => ?_))
  · have := hdp b hb
    show X.A.units + 1 + 1 + _ < _
    omega
  · obtain ⟨e', he'⟩ := PyProof.Rows.sortedHeap_at (vs := its) (out := out.toArray) hoL
    refine wpAny_pure ⟨_, rfl, .ref h'.objs.size, _, I1.laid (t' := s.toks) (o := .lst ((bs.mergeSort (PySem.W.dataLe false enc)).map f)) (fun b u e => ?_) (Nat.le_refl _) ⟨?_, out, e', vals_each eo, he'⟩, rfl, q _ (I1.hok.fresh (Nat.le_refl _))⟩
    · have hb : b < h'.objs.size := Heap.lt_size e
      rw [PyProof.Rows.sortedHeap_old (Nat.ne_of_lt hb) (by rw [size_push']; exact Nat.lt_succ_of_lt hb)]
      exact Heap.get?_push_of_some _ e
    · rw [List.length_map, List.length_mergeSort]
      exact hL
end
end CT
set_option maxHeartbeats 4000000
/-! DLY: sorted of lists or tuples; str(n), f-strings, join; str(o) by the class's own __str__. -/
namespace CT
open PySem L2 PySem.Spec PyProof.Rows
def oSortQ (own : Bool) : OA := fun xs C => match xs with
  | [x] => (match vL x C with
    | some ds => oSortL own [x] C
    | none => (match vT x with
      | some ds => if (ds.all (fun d => (toP C d).isSome && decide ((encD C d).depth ≤ 60)) && srtb (ds.map (encD C))) = true then some (mkL own (ds.mergeSort (PySem.W.dataLe false (encD C))) C) else none
      | none => none))
  | _ => none
section
variable {X : Cx} {k : Cn} {W : WX} {σ : L2.St} {H : Hp} {Q : VK}
theorem d_sortQ {own : Bool} : ApD k (fun xs H Q => rSortA k.K xs H Q ∨ rSortP k.K xs H Q) (oSortQ own) := by
  intro fl A C H x dx d C' Q hf hl st rx e q
  cases rx with
  | nil => cases e
  | cons r t =>
    cases t with
    | cons _ _ => cases e
    | nil =>
      rename_i v0 d0
      simp only [oSortQ] at e
      split at e
      · exact .inl (d_sortL fl A C H _ _ d C' Q hf hl st (.cons r .nil) e q)
      · split at e
        · rename_i ds ev
          split at e
          · rename_i hb
            obtain ⟨a, vs, rfl, ha, rv⟩ := vT_at r ev
            obtain ⟨z1, z2, z3⟩ := repL_zip rv
            simp only [Bool.and_eq_true, List.all_eq_true, decide_eq_true_eq] at hb
            obtain ⟨hb1, hb2⟩ := hb
            obtain ⟨al, so⟩ := srtb_ok hb2
            have em : (vs.zip ds).map (fun x => encD C x.2) = ds.map (encD C) := by
              have := congrArg (List.map (encD C)) z3
              rw [List.map_map] at this
              exact this
            have hm : ∀ x ∈ vs.zip ds, x.2 ∈ ds := fun x hx => by rw [← z3]; exact List.mem_map.mpr ⟨x, hx, rfl⟩
            refine .inr ⟨a, V × D, vs.zip ds, (·.1), fun x => encD C x.2, rfl, by rw [z2]; exact ha, fun b hb => ?_, by rw [em]; exact al, by rw [em]; exact so, fun b hb => (hb1 b.2 (hm b hb)).2, fun p hp => ?_⟩
            · have := (hb1 b.2 (hm b hb)).1
              obtain ⟨pd, e3⟩ := Option.isSome_iff_exists.mp this
              have := toP_dp st (z1 b hb) e3
              have e5 : encD C b.2 = pd := by unfold encD; rw [e3]; rfl
              show Dp k.K H b.1 (encD C b.2)
              rw [e5]
              exact this
            · have e4 : ((vs.zip ds).mergeSort (PySem.W.dataLe false fun x => encD C x.2)).map (·.2) = ds.mergeSort (PySem.W.dataLe false (encD C)) := by
                have em2 := List.map_mergeSort (r := PySem.W.dataLe false fun x : V × D => encD C x.2) (s := PySem.W.dataLe false (encD C)) (f := fun x : V × D => x.2) (l := vs.zip ds) (fun a _ b _ => rfl)
                rw [em2, z3]
              have rr : RepL k A C H (((vs.zip ds).mergeSort (PySem.W.dataLe false fun x => encD C x.2)).map (·.1)) (ds.mergeSort (PySem.W.dataLe false (encD C))) := by
                rw [← e4]
                exact repL_of fun y hy => z1 y (List.mem_mergeSort.mp hy)
              obtain ⟨A2, w1, w2, w3⟩ := fresh_L (own := own) hf st rr hp
              have e1 := Option.some.inj e
              rw [e1] at w1 w2 w3
              exact q A2 _ _ w1 w2 w3
          · cases e
        · cases e
/-! ### str(n) -/
/-! ### f-strings -/
inductive FP where
  | txt (s : Str) | ex (m : ME)
def FP.t (k : Cn) (W : WX) : FP → TE
  | .txt s => tC (.str s)
  | .ex m => tFmt (LE k W m)
variable {v1 v2 : Expr} {rest : List Expr} {pos : Pos}
/-! ### join -/
variable {mo me : ME}
variable {o e : Expr} {apos : Pos}
/-! ### str(o) -/
variable {lev : Nat} {g : Addr} {fd : FuncData} {ps : List Str} {m : MF} {p : Pos}
end
end CT
set_option maxHeartbeats 4000000
/-! DLZ: binding of *numbers and a keyword that is None by itself. -/
namespace CT
open PySem L2 PySem.Spec PyProof.Rows
end CT
set_option maxHeartbeats 4000000
/-! DM1: classmethods (C.m(..), cls(k = e)); + of texts. -/
namespace CT
open PySem L2 PySem.Spec PyProof.Rows
end CT
set_option maxHeartbeats 4000000
/-! DM2: the head's Hook where attributes of classes are read. -/
namespace CT
open PySem L2 PySem.Spec PyProof.Rows
end CT
set_option maxHeartbeats 4000000
/-! DG4a: a tuple of ints of the written part. -/
namespace CT
open PySem L2
def ktI (ns : List Int) : D := .kt (ns.map D.int)
theorem intsV_ok : ∀ {vs : List Value} {ns : List Int}, intsV vs ns = true → Vals (ns.map V.int) vs
  | [], [], _ => .nil
  | v :: vs, n :: ns, h => by
    cases v with
    | int i t =>
      simp only [intsV, Bool.and_eq_true, decide_eq_true_eq] at h
      obtain ⟨rfl, h2⟩ := h
      exact .cons ⟨t, rfl⟩ (intsV_ok h2)
    | _ => simp [intsV] at h
  | [], _ :: _, h => by simp [intsV] at h
  | _ :: _, [], h => by simp [intsV] at h
theorem ktIB_ok {x : String} {ns : List Int} {K : PySem.W.Frag} (h : ktIB x ns K = true) : KT K (He.ga K x) (ns.map V.int) := by
  unfold ktIB at h
  split at h
  · rename_i c od its n osl q
    obtain ⟨h1, h2⟩ := He.ba h
    obtain ⟨h2, h3⟩ := He.ba h2
    exact ⟨_, its, n, q, congrArg Value.type (of_decide_eq_true h1), rfl, of_decide_eq_true h2, intsV_ok h3⟩
  · cases h
end CT
set_option maxHeartbeats 8000000
set_option pp.maxSteps 60
namespace CL
open PySem L2 PySem.Spec PyProof.Rows CT
def flA (c : Nat) : List Str := match c with
  | 0 => ["size", "grid", "ties"]
  | _ => []
abbrev cn (K : PySem.W.Frag) : Cn := ⟨K, clA K, flA, none⟩
structure Txt (K : PySem.W.Frag) (mg : Str → Option Value) : Prop where
  n_abs : mg "abs" = none
  n_all : mg "all" = none
  n_any : mg "any" = none
  n_bool : mg "bool" = none
  n_enumerate : mg "enumerate" = none
  n_int : mg "int" = none
  n_isinstance : mg "isinstance" = none
  n_len : mg "len" = none
  n_list : mg "list" = none
  n_max : mg "max" = none
  n_min : mg "min" = none
  n_range : mg "range" = none
  n_repr : mg "repr" = none
  n_sorted : mg "sorted" = none
  n_sum : mg "sum" = none
  n_tuple : mg "tuple" = none
  c_MOST : ∃ t, mg "MOST" = some (.int 1000000000 t)
  g_is_integer : mg "is_integer" = some (.ref (a_is_integer K))
  g_is_count : mg "is_count" = some (.ref (a_is_count K))
  g_is_tie : mg "is_tie" = some (.ref (a_is_tie K))
  g_summed : mg "summed" = some (.ref (a_summed K))
  g_grid_of : mg "grid_of" = some (.ref (a_grid_of K))
  g_check_size : mg "check_size" = some (.ref (a_check_size K))
  g_every_lots : mg "every_lots" = some (.ref (a_every_lots K))
  g_reached : mg "reached" = some (.ref (a_reached K))
  g_pieces : mg "pieces" = some (.ref (a_pieces K))
  g_odd_pieces : mg "odd_pieces" = some (.ref (a_odd_pieces K))
  g_excess : mg "excess" = some (.ref (a_excess K))
  g_front : mg "front" = some (.ref (a_front K))
  g_fronts_hold : mg "fronts_hold" = some (.ref (a_fronts_hold K))
  g_lowest_excess : mg "lowest_excess" = some (.ref (a_lowest_excess K))
  g_lack : mg "lack" = some (.ref (a_lack K))
  g_complete : mg "complete" = some (.ref (a_complete K))
  g_law_bag : mg "_law_bag" = some (.ref (a_law_bag K))
  g_law_take : mg "_law_take" = some (.ref (a_law_take K))
  g_law_one : mg "_law_one" = some (.ref (a_law_one K))
  g_law_alike : mg "_law_alike" = some (.ref (a_law_alike K))
  g_law_mixed : mg "_law_mixed" = some (.ref (a_law_mixed K))
  g_law_front : mg "_law_front" = some (.ref (a_law_front K))
  g_law_far_right : mg "_law_far_right" = some (.ref (a_law_far_right K))
  g_law : mg "law" = some (.ref (a_law K))
  g_Web : mg "Web" = some (.ref (He.ga K "Web"))
  cl_Web : Cls K (He.ga K "Web")
  no_Web_size : NoAttr K (He.ga K "Web") "size"
  no_Web_grid : NoAttr K (He.ga K "Web") "grid"
  no_Web_ties : NoAttr K (He.ga K "Web") "ties"
  mk_Web : Mk K (He.ga K "Web") (a_Web__init K)
  kt_Web__init : KT K (d_Web__init K) []
  me_Web_crossing : Meth K (He.ga K "Web") "crossing" (a_Web_crossing K)
  g_POWERS : mg "POWERS" = some (.ref (He.ga K "POWERS"))
  kt_POWERS : KT K (He.ga K "POWERS") ([1, 3, 9, 27, 81, 243].map V.int)
  isa : IsaOk (cn K) [0]
  f_is_integer : ∃ fd, FunD K "is_integer" "is_integer" (defArgs s_is_integer) (defBody s_is_integer) (defScope s_is_integer) [] [] (a_is_integer K) fd
  f_is_count : ∃ fd, FunD K "is_count" "is_count" (defArgs s_is_count) (defBody s_is_count) (defScope s_is_count) [] [] (a_is_count K) fd
  f_is_tie : ∃ fd, FunD K "is_tie" "is_tie" (defArgs s_is_tie) (defBody s_is_tie) (defScope s_is_tie) [] [] (a_is_tie K) fd
  f_summed : ∃ fd, FunD K "summed" "summed" (defArgs s_summed) (defBody s_summed) (defScope s_summed) [] [] (a_summed K) fd
  f_grid_of : ∃ fd, FunD K "grid_of" "grid_of" (defArgs s_grid_of) (defBody s_grid_of) (defScope s_grid_of) [] [] (a_grid_of K) fd
  f_Web__init : ∃ fd, FunD K "__init__" "Web.__init__" (defArgs s_Web__init) (defBody s_Web__init) (defScope s_Web__init) [V.ref (d_Web__init K)] [] (a_Web__init K) fd
  f_Web_crossing : ∃ fd, FunD K "crossing" "Web.crossing" (defArgs s_Web_crossing) (defBody s_Web_crossing) (defScope s_Web_crossing) [] [] (a_Web_crossing K) fd
  f_check_size : ∃ fd, FunD K "check_size" "check_size" (defArgs s_check_size) (defBody s_check_size) (defScope s_check_size) [] [] (a_check_size K) fd
  f_every_lots : ∃ fd, FunD K "every_lots" "every_lots" (defArgs s_every_lots) (defBody s_every_lots) (defScope s_every_lots) [] [] (a_every_lots K) fd
  f_reached : ∃ fd, FunD K "reached" "reached" (defArgs s_reached) (defBody s_reached) (defScope s_reached) [] [] (a_reached K) fd
  f_pieces : ∃ fd, FunD K "pieces" "pieces" (defArgs s_pieces) (defBody s_pieces) (defScope s_pieces) [] [] (a_pieces K) fd
  f_odd_pieces : ∃ fd, FunD K "odd_pieces" "odd_pieces" (defArgs s_odd_pieces) (defBody s_odd_pieces) (defScope s_odd_pieces) [] [] (a_odd_pieces K) fd
  f_excess : ∃ fd, FunD K "excess" "excess" (defArgs s_excess) (defBody s_excess) (defScope s_excess) [] [] (a_excess K) fd
  f_front : ∃ fd, FunD K "front" "front" (defArgs s_front) (defBody s_front) (defScope s_front) [] [] (a_front K) fd
  f_fronts_hold : ∃ fd, FunD K "fronts_hold" "fronts_hold" (defArgs s_fronts_hold) (defBody s_fronts_hold) (defScope s_fronts_hold) [] [] (a_fronts_hold K) fd
  f_lowest_excess : ∃ fd, FunD K "lowest_excess" "lowest_excess" (defArgs s_lowest_excess) (defBody s_lowest_excess) (defScope s_lowest_excess) [] [] (a_lowest_excess K) fd
  f_lack : ∃ fd, FunD K "lack" "lack" (defArgs s_lack) (defBody s_lack) (defScope s_lack) [] [] (a_lack K) fd
  f_complete : ∃ fd, FunD K "complete" "complete" (defArgs s_complete) (defBody s_complete) (defScope s_complete) [] [] (a_complete K) fd
  f_law_bag : ∃ fd, FunD K "_law_bag" "_law_bag" (defArgs s_law_bag) (defBody s_law_bag) (defScope s_law_bag) [] [] (a_law_bag K) fd
  f_law_take : ∃ fd, FunD K "_law_take" "_law_take" (defArgs s_law_take) (defBody s_law_take) (defScope s_law_take) [] [] (a_law_take K) fd
  f_law_one : ∃ fd, FunD K "_law_one" "_law_one" (defArgs s_law_one) (defBody s_law_one) (defScope s_law_one) [] [] (a_law_one K) fd
  f_law_alike : ∃ fd, FunD K "_law_alike" "_law_alike" (defArgs s_law_alike) (defBody s_law_alike) (defScope s_law_alike) [] [] (a_law_alike K) fd
  f_law_mixed : ∃ fd, FunD K "_law_mixed" "_law_mixed" (defArgs s_law_mixed) (defBody s_law_mixed) (defScope s_law_mixed) [] [] (a_law_mixed K) fd
  f_law_front : ∃ fd, FunD K "_law_front" "_law_front" (defArgs s_law_front) (defBody s_law_front) (defScope s_law_front) [] [] (a_law_front K) fd
  f_law_far_right : ∃ fd, FunD K "_law_far_right" "_law_far_right" (defArgs s_law_far_right) (defBody s_law_far_right) (defScope s_law_far_right) [] [] (a_law_far_right K) fd
  f_law : ∃ fd, FunD K "law" "law" (defArgs s_law) (defBody s_law) (defScope s_law) [] [] (a_law K) fd
end CL
set_option maxHeartbeats 4000000
/-! DM28: the head's Hook, its objects gathered by a walk that marks what it has seen in one number. -/
namespace CT
open PySem L2 PySem.Spec PyProof.Rows
theorem obGb_eq {n : Nat} {fs : List (PySem.W.Frag → Bool)} {fn : List DefX} (s : PySem.W.SharedT) : obGb n fs fn (HandSHeadRun.getT s) = (hookXb n fs fn).obs s.abs := by
  have e : HandSHeadRun.getT s = s.abs.heap.get? := funext (HandSHeadRun.getT_eq s)
  rw [e]
  rfl
end CT
set_option maxHeartbeats 0
namespace CL
open PySem L2 PySem.Spec PyProof.Rows CT
section
open HandSHeadRun PySem.W PySem.Calls
end
end CL
set_option maxHeartbeats 4000000
/-! DM3: is True; t * n; bool(o) by the class's own __bool__; a or b of tuples, bool(t). -/
namespace CT
open PySem L2 PySem.Spec PyProof.Rows
/-! ### t * n -/
/-! ### a or b of tuples; bool(t) -/
end CT
set_option maxHeartbeats 4000000
/-! DM4: bool(o) by the class's own __bool__. -/
namespace CT
open PySem L2 PySem.Spec PyProof.Rows
/-! ### bool(o) -/
end CT
set_option maxHeartbeats 4000000
/-! DM5: zip of two tuples; min and max of a list of ints with a default. -/
namespace CT
open PySem L2 PySem.Spec PyProof.Rows RZ
end CT
set_option maxHeartbeats 4000000
/-! DM6: min and max of a list of ints with a default. -/
namespace CT
open PySem L2 PySem.Spec PyProof.Rows
end CT
set_option maxHeartbeats 4000000
/-! DM7: x + k, k + x, x - k, k - x, -x for an own x and an int k. -/
namespace CT
open PySem L2 PySem.Spec PyProof.Rows PySem.W
end CT
set_option maxHeartbeats 4000000
/-! DM8: list(range(a, b, 2)); sorted(set(xs)), len(set(xs)) of up to 4,000 ints. -/
namespace CT
open PySem L2 PySem.Spec PyProof.Rows
/-! ### sets of more ints -/
end CT
set_option maxHeartbeats 4000000
/-! DM9: xs[i], ys[j] = e, f. -/
namespace CT
open PySem L2 PySem.Spec PyProof.Rows
end CT
set_option maxHeartbeats 4000000
/-! DM10: a def that hands back an own list, as an equation. -/
namespace CT
open PySem L2
def finOS (n : Nat) (r : RS) : R D := match r with
  | .rt d C' => finO n d C'
  | .xc e _ C' => if cbL n e.fs = true then .exc e (C'.take n) else .stuck
  | _ => .stuck
theorem mDefO_e {np ns : Nat} {b : MS} {ds : List D} {C : Store} {sl : List (Option D)} (h : ds.length = np) (hs : ds.map some ++ List.replicate (ns - np) none = sl) : mDefO np ns b ds C = finOS C.length (b ⟨C.length, sl⟩ C) := by
  subst hs
  unfold mDefO
  rw [if_pos h]
  rfl
end CT
set_option maxHeartbeats 4000000
/-! DM11: {x for u in a if .. for x in b if ..} of ints, two clauses; its members in a list beside the heap. -/
namespace CT
open PySem L2 PySem.Spec PyProof.Rows
/-- the set at D holds the ints of acc -/
def SetI (w : World) (h : Heap) (D : Addr) (acc : List Int) : Prop := ∃ c, c ≤ acc.length ∧ SetR w h D (fun j => decide (j ∈ acc)) c
theorem SetI.at {w : World} {h h' : Heap} {D : Addr} {acc : List Int} (R : SetI w h D acc) (k : ∀ o, h.get? D = some o → h'.get? D = some o) : SetI w h' D acc := by
  obtain ⟨c, hc, R⟩ := R
  exact ⟨c, hc, R.at k⟩
theorem SetI.obj {w : World} {h : Heap} {D : Addr} {acc : List Int} (R : SetI w h D acc) : ∃ o, h.get? D = some o ∧ ∀ v, o.data ≠ .cell v := by
  obtain ⟨c, hc, o, es, ep, t, ho, hx, hd, _⟩ := R
  exact ⟨o, ho, fun v z => by rw [hd] at z; cases z⟩
end CT
set_option maxHeartbeats 4000000
/-! DM12: sorted({x for u in a if .. for x in b if ..}) over data. -/
namespace CT
open PySem L2 PySem.Spec PyProof.Rows
end CT
set_option maxHeartbeats 4000000
/-! DM13: min and max of one list of ints, not empty. -/
namespace CT
open PySem L2 PySem.Spec PyProof.Rows
end CT
set_option maxHeartbeats 4000000
/-! DM14: in, not in by an own __contains__, as values and as tests. -/
namespace CT
open PySem L2 PySem.Spec PyProof.Rows
end CT
set_option maxHeartbeats 4000000
/-! DM15: == and != of two lists of own objects that are equal item by item. -/
namespace CT
open PySem L2 PySem.Spec PyProof.Rows
end CT
set_option maxHeartbeats 4000000
/-! DM16: an own object as a test, by the class's own __bool__. -/
namespace CT
open PySem L2 PySem.Spec PyProof.Rows
end CT
set_option maxHeartbeats 4000000
/-! DM17: xs.reverse(). -/
namespace CT
open PySem L2 PySem.Spec PyProof.Rows
end CT
set_option maxHeartbeats 4000000
/-! DM18: while, of at most so many turns. -/
namespace CT
open PySem L2
def whN (t : MT) (b : MS) (fl : Nat) : Nat → List (Option D) → Store → RS
  | 0, _, _ => .stuck
  | r + 1, sl, C => match t ⟨fl, sl⟩ C with
    | .ok true C1 => (match b ⟨fl, sl⟩ C1 with
      | .nx sl2 C2 => whN t b fl r sl2 C2
      | .ct sl2 C2 => whN t b fl r sl2 C2
      | .bk sl2 C2 => .nx sl2 C2
      | .rt d C2 => .rt d C2
      | .xc e sl2 C2 => .xc e sl2 C2
      | .stuck => .stuck)
    | .ok false C1 => .nx sl C1
    | .exc e C1 => .xc e sl C1
    | .stuck => .stuck
def sWhile (n : Nat) (t : MT) (b : MS) : MS := fun F C => whN t b F.fl n F.sl C
section
variable {X : Cx} {k : Cn} {W : WX} {E : Ends} {σ : L2.St} {H : Hp}
theorem ls_while {n : Nat} {t : MT} {b : MS} (h : LS k W (sWhile n t b) E σ H) : tWhile (LT k W t) (LS k W b) E σ H := by
  obtain ⟨A, F, C, s, h⟩ := h
  refine ⟨fun m σ' H' => ∃ A' C' sl, Stp k F.fl A C H A' C' H' ∧ SR k A' ⟨F.fl, sl⟩ C' σ' H' ∧ AftS k W F.fl A' C' H' (whN t b F.fl m sl C') E, ⟨n, A, C, F.sl, Stp.refl, s, h⟩, ?_⟩
  rintro m σ' H' ⟨A', C', sl, p, s', h'⟩
  cases m with
  | zero => unfold whN at h'; exact h'.elim
  | succ r =>
    unfold whN at h'
    refine ⟨A', ⟨F.fl, sl⟩, C', s', ?_⟩
    cases et : t ⟨F.fl, sl⟩ C' with
    | stuck => simp only [et] at h'; exact h'.elim
    | exc e C1 =>
      simp only [et] at h'
      exact fun A3 H3 dd vs p3 s4 x l r => h' A3 σ' H3 dd vs p3 (s'.step p3 s4) x l r
    | ok d C1 =>
      simp only [et] at h'
      cases d with
      | false =>
        simp only at h'
        rintro A1 H1 v p1 st1 rfl
        exact h' A1 σ' H1 p1 (s'.step p1 st1)
      | true =>
        simp only at h'
        rintro A1 H1 v p1 st1 rfl
        rw [if_pos rfl]
        have s1 := s'.step p1 st1
        refine ⟨fun σ2 H2 => ∃ A2 C2 sl2, Stp k F.fl A C H A2 C2 H2 ∧ SR k A2 ⟨F.fl, sl2⟩ C2 σ2 H2 ∧ AftS k W F.fl A2 C2 H2 (whN t b F.fl r sl2 C2) E, fun σ2 H2 q => ⟨r, Nat.lt_succ_self r, q⟩, A1, ⟨F.fl, sl⟩, C1, s1, ?_⟩
        cases eb : b ⟨F.fl, sl⟩ C1 with
        | nx sl2 C2 =>
          simp only [eb] at h'
          intro A3 σ3 H3 p3 s4
          have pp := p1.trans p3
          exact ⟨A3, C2, sl2, p.trans pp, s4, h'.shift pp⟩
        | ct sl2 C2 =>
          simp only [eb] at h'
          intro A3 σ3 H3 p3 s4
          have pp := p1.trans p3
          exact ⟨A3, C2, sl2, p.trans pp, s4, h'.shift pp⟩
        | bk sl2 C2 =>
          simp only [eb] at h'
          exact fun A3 σ3 H3 p3 s4 => h' A3 σ3 H3 (p1.trans p3) s4
        | rt d C2 =>
          simp only [eb] at h'
          exact fun A3 H3 v p3 st r => h' A3 H3 v (p1.trans p3) st r
        | xc e sl2 C2 =>
          simp only [eb] at h'
          exact fun A3 σ3 H3 dd vs p3 s4 x l r => h' A3 σ3 H3 dd vs (p1.trans p3) s4 x l r
        | stuck =>
          simp only [eb] at h'
          exact h'.elim
theorem ds_while {c : Expr} {body : List Stmt} {pos : Pos} {t : MT} {mb : MS} (n : Nat) (hp : PassesOwn (model X.prog X.w) X.A X.env X.xe) (hc : PT X c (LT k W t)) (hb : PSs X body (LS k W mb)) : PS X (.While c body [] pos) (LS k W (sWhile n t mb)) := (ps_while hp hc hb).cq fun _ _ _ h => ls_while h
end
end CT
set_option maxHeartbeats 4000000
/-! GN1: a run that wakes no sleeping generator runs alike whatever the sleepers hold. -/
namespace GV
open PySem
open Sem (wp)
def stuckK : Resume → Sem PySem.Fin := fun _ => .unsupported "asleep"
def veilG : GenState → GenState
  | .suspended _ l c p fs cl => .suspended stuckK l c p fs cl
  | x => x
def isSusp : GenState → Bool
  | .suspended .. => true
  | _ => false
theorem veil_seen (x : GenState) : (veilG x).seen = x.seen := by cases x <;> rfl
theorem veil_bare (x : GenState) : (veilG x).bare = x.bare := by cases x <;> rfl
/-- s: veiled at Z; t: the true state -/
structure Hid (Z : Nat → Option GenState) (s t : Shared) : Prop where
  heap : t.heap = s.heap
  drawn : t.drawn = s.drawn
  toks : t.toks = s.toks
  os : t.os = s.os
  size : t.gens.size = s.gens.size
  hid : ∀ g R, Z g = some R → isSusp R = true ∧ s.gens[g]? = some (veilG R) ∧ t.gens[g]? = some R
  oth : ∀ g, Z g = none → t.gens[g]? = s.gens[g]?
/-- what is not veiled holds no frame of a generator -/
def OkG (Z : Nat → Option GenState) (s : Shared) : Prop := ∀ g, Z g = none → ∀ k l c p fs cl, s.gens[g]? = some (.suspended k l c p fs cl) → splitAtGen fs = none
section
variable {Z : Nat → Option GenState} {s t : Shared} {M : Model}
theorem Hid.heap_ (h : Hid Z s t) (hp : Heap) : Hid Z { s with heap := hp } { t with heap := hp } := ⟨rfl, h.drawn, h.toks, h.os, h.size, h.hid, h.oth⟩
theorem Hid.drawn_ (h : Hid Z s t) (d : Drawn) : Hid Z { s with drawn := d } { t with drawn := d } := ⟨h.heap, rfl, h.toks, h.os, h.size, h.hid, h.oth⟩
theorem Hid.toks_ (h : Hid Z s t) (k : Nat) : Hid Z { s with toks := k } { t with toks := k } := ⟨h.heap, h.drawn, rfl, h.os, h.size, h.hid, h.oth⟩
theorem Hid.os_ (h : Hid Z s t) (o : OsState) : Hid Z { s with os := o } { t with os := o } := ⟨h.heap, h.drawn, h.toks, rfl, h.size, h.hid, h.oth⟩
theorem gens_set {s : Shared} {g i : Nat} {x : GenState} : (s.setGen g x).gens[i]? = if i = g then (if g < s.gens.size then some x else none) else s.gens[i]? := by
  show (s.gens.setIfInBounds g x)[i]? = _
  by_cases e : i = g
  · subst e
    rw [if_pos rfl]
    split
    · rename_i h
      simp [h]
    · rename_i h
      simp [h]
  · rw [if_neg e, Array.getElem?_setIfInBounds_ne (Ne.symm e)]
theorem Hid.set (h : Hid Z s t) {g : Nat} (hz : Z g = none) (x : GenState) : Hid Z (s.setGen g x) (t.setGen g x) := by
  refine ⟨h.heap, h.drawn, h.toks, h.os, ?_, fun i R hi => ?_, fun i hi => ?_⟩
  · show (t.gens.setIfInBounds g x).size = (s.gens.setIfInBounds g x).size
    simp [h.size]
  · have ne : i ≠ g := fun e => by subst e; rw [hz] at hi; cases hi
    rw [gens_set, gens_set, if_neg ne, if_neg ne]
    exact h.hid i R hi
  · rw [gens_set, gens_set, h.size]
    split
    · rfl
    · exact h.oth i hi
theorem Hid.lt (h : Hid Z s t) {g : Nat} {R : GenState} (hz : Z g = some R) : g < s.gens.size := (Array.getElem?_eq_some_iff.mp (h.hid g R hz).2.1).1
theorem Hid.push (h : Hid Z s t) (x : GenState) : Hid Z { s with gens := s.gens.push x } { t with gens := t.gens.push x } := by
  refine ⟨h.heap, h.drawn, h.toks, h.os, by simp [h.size], fun i R hi => ?_, fun i hi => ?_⟩
  · have l := h.lt hi
    obtain ⟨a, b, c⟩ := h.hid i R hi
    refine ⟨a, ?_, ?_⟩
    · show (s.gens.push x)[i]? = _
      rw [Array.getElem?_push, if_neg (by omega)]
      exact b
    · show (t.gens.push x)[i]? = _
      rw [Array.getElem?_push, if_neg (by rw [h.size]; omega)]
      exact c
  · show (t.gens.push x)[i]? = (s.gens.push x)[i]?
    rw [Array.getElem?_push, Array.getElem?_push, h.size, h.oth i hi]
theorem OkG.set (h : OkG Z s) {g : Nat} {x : GenState} (hx : ∀ k l c p fs cl, x = .suspended k l c p fs cl → splitAtGen fs = none) : OkG Z (s.setGen g x) := fun i hi k l c p fs cl e => by
  rw [gens_set] at e
  split at e
  · split at e
    · exact hx k l c p fs cl (Option.some.inj e)
    · cases e
  · exact h i hi k l c p fs cl e
theorem OkG.push (h : OkG Z s) {x : GenState} (hx : ∀ k l c p fs cl, x = .suspended k l c p fs cl → splitAtGen fs = none) : OkG Z { s with gens := s.gens.push x } := fun i hi k l c p fs cl e => by
  have e' : (s.gens.push x)[i]? = some (.suspended k l c p fs cl) := e
  rw [Array.getElem?_push] at e'
  split at e'
  · exact hx k l c p fs cl (Option.some.inj e')
  · exact h i hi k l c p fs cl e'
theorem split_app : ∀ {a b : List Frame}, splitAtGen a = none → splitAtGen b = none → splitAtGen (a ++ b) = none
  | [], _, _, h => h
  | .gen .. :: a, _, h, _ => by cases h
  | .ret k hh gg l c p kp :: a, b, h, hb => by
    have h' : splitAtGen a = none := by
      have : (splitAtGen a).map (fun (fs, b, r) => (Frame.ret k hh gg l c p kp :: fs, b, r)) = none := h
      exact Option.map_eq_none_iff.mp this
    show (splitAtGen (a ++ b)).map _ = none
    rw [split_app h' hb]
    rfl
theorem split_ret {k : Result → Sem PySem.Fin} {hh : Option Value} {gg : Bool} {l kp : List Value} {c : Code} {p : Pos} {a : List Frame} : splitAtGen (.ret k hh gg l c p kp :: a) = none ↔ splitAtGen a = none := by
  show (splitAtGen a).map _ = none ↔ _
  exact Option.map_eq_none_iff
/-- what is unsupported does not run -/
theorem no_unsup {Γ : Ctx} {p : Pos} {x : Sem PySem.Fin} {fs : List Frame} {s s' : Shared} {e : End} (h : Runs M Γ p x fs s e s') : ∀ w, x ≠ .unsupported w := by
  induction h with
  | segRet _ _ ih _ => exact ih
  | segGen _ _ ih _ => exact ih
  | segSuspOut _ _ ih => exact ih
  | segSuspGen _ _ _ _ ih _ => exact ih
  | _ => intro w e; cases e
/-- the run goes alike at the true state -/
theorem sim {Γ : Ctx} {p : Pos} {x : Sem PySem.Fin} {fs : List Frame} {s s' : Shared} {e : End} (h : Runs M Γ p x fs s e s') :
    splitAtGen fs = none → ∀ t, Hid Z s t → OkG Z s → ∃ t', Runs M Γ p x fs t e t' ∧ Hid Z s' t' ∧ OkG Z s' ∧ ∀ v g l k c q fs', e = .susp v g l k c q fs' → splitAtGen fs' = none := by
  induction h with
  | done => exact fun _ t h o => ⟨t, .done, h, o, fun _ _ _ _ _ _ _ z => by cases z⟩
  | raise => exact fun _ t h o => ⟨t, .raise, h, o, fun _ _ _ _ _ _ _ z => by cases z⟩
  | again q _ ih =>
    intro f t h o
    obtain ⟨t', r, z⟩ := ih f t h o
    exact ⟨t', .again q r, z⟩
  | rule _ ih =>
    intro f t h o
    obtain ⟨t', r, z⟩ := ih f t h o
    exact ⟨t', .rule r, z⟩
  | «at» _ ih =>
    intro f t h o
    obtain ⟨t', r, z⟩ := ih f t h o
    exact ⟨t', .at r, z⟩
  | load e _ ih =>
    intro f t h o
    obtain ⟨t', r, z⟩ := ih f t h o
    exact ⟨t', .load (by rw [h.heap]; exact e) r, z⟩
  | update e1 _ ih =>
    intro f t h o
    obtain ⟨t', r, z⟩ := ih f _ (h.heap_ _) o
    exact ⟨t', .update (by rw [h.heap]; exact e1) (by rw [h.heap]; exact r), z⟩
  | loadIfAlive _ ih =>
    intro f t h o
    obtain ⟨t', r, z⟩ := ih f t h o
    exact ⟨t', .loadIfAlive (by rw [h.heap]; exact r), z⟩
  | point _ ih =>
    intro f t h o
    obtain ⟨t', r, z⟩ := ih f t h o
    exact ⟨t', .point r, z⟩
  | alloc _ ih =>
    intro f t h o
    obtain ⟨t', r, z⟩ := ih f _ (h.heap_ _) o
    exact ⟨t', .alloc (by rw [h.heap]; exact r), z⟩
  | fresh _ ih =>
    intro f t h o
    obtain ⟨t', r, z⟩ := ih f _ (h.toks_ _) o
    exact ⟨t', .fresh (by rw [h.toks]; exact r), z⟩
  | ask _ ih =>
    intro f t h o
    obtain ⟨t', r, z⟩ := ih f t h o
    exact ⟨t', .ask r, z⟩
  | choose hn _ ih =>
    intro f t h o
    obtain ⟨t', r, z⟩ := ih f _ (h.drawn_ _) o
    exact ⟨t', .choose hn (by rw [h.drawn]; exact r), z⟩
  | os _ ih =>
    intro f t h o
    obtain ⟨t', r, z⟩ := ih f _ (h.os_ _) o
    exact ⟨t', .os (by rw [h.os]; exact r), z⟩
  | handled _ ih =>
    intro f t h o
    obtain ⟨t', r, z⟩ := ih f t h o
    exact ⟨t', .handled r, z⟩
  | @genState g st Γ p k s e s' e1 _ ih =>
    intro f t h o
    obtain ⟨t', r, z⟩ := ih f t h o
    cases hz : Z g with
    | none => exact ⟨t', .genState (by rw [h.oth g hz]; exact e1) r, z⟩
    | some R =>
      obtain ⟨_, b, c⟩ := h.hid g R hz
      rw [e1] at b
      have eq : st.seen = R.seen := by rw [Option.some.inj b, veil_seen]
      rw [eq] at r
      exact ⟨t', .genState c r, z⟩
  | stack _ ih =>
    intro f t h o
    obtain ⟨t', r, z⟩ := ih f t h o
    exact ⟨t', .stack r, z⟩
  | thread _ ih =>
    intro f t h o
    obtain ⟨t', r, z⟩ := ih f t h o
    exact ⟨t', .thread r, z⟩
  | newGen _ ih =>
    intro f t h o
    obtain ⟨t', r, z⟩ := ih f _ (h.push _) (o.push fun _ _ _ _ _ _ z => by cases z)
    exact ⟨t', .newGen (by rw [h.size]; exact r), z⟩
  | call _ _ ih1 ih2 =>
    intro f t h o
    obtain ⟨t1, r1, h1, o1, _⟩ := ih1 rfl t h o
    obtain ⟨t2, r2, z⟩ := ih2 f t1 h1 o1
    exact ⟨t2, .call r1 r2, z⟩
  | @callSusp Γ p c h g l k s v g₀ l₀ k₀ c₀ p₀ fs s' _ ih =>
    intro f t hh o
    obtain ⟨t1, r1, h1, o1, z⟩ := ih rfl t hh o
    refine ⟨t1, .callSusp r1, h1, o1, fun v' g' l' k' c' q' fs' e => ?_⟩
    have z' := z _ _ _ _ _ _ _ rfl
    injection e with _ _ _ _ _ _ e7
    rw [← e7]
    exact split_app z' rfl
  | yield => exact fun _ t h o => ⟨t, .yield, h, o, fun _ _ _ _ _ _ _ z => by injection z with _ _ _ _ _ _ e7; rw [← e7]; rfl⟩
  | @resumeFresh Γ p g l k s c e₁ s₁ e s' e1 _ q _ ih1 ih2 =>
    intro f t h o
    have hz : Z g = none := by
      cases hz : Z g with
      | none => rfl
      | some R =>
        obtain ⟨a, b, _⟩ := h.hid g R hz
        rw [e1] at b
        cases R <;> simp_all [isSusp, veilG]
    obtain ⟨t1, r1, h1, o1, z1⟩ := ih1 rfl (t.setGen g .running) (h.set hz _) (o.set fun _ _ _ _ _ _ z => by cases z)
    obtain ⟨t2, r2, z⟩ := ih2 f (t1.setGen g e₁.genState) (h1.set hz _) (o1.set fun k l c p fs cl ee => by
      cases e₁ with
      | ret r => cases ee
      | susp v g l k c p fs =>
        cases ee
        exact z1 _ _ _ _ _ _ _ rfl)
    exact ⟨t2, .resumeFresh (by rw [h.oth g hz]; exact e1) r1 q r2, z⟩
  | @resumeSuspended Γ p g r l k s k₀ l₀ c₀ p₀ fs cl e₁ s₁ e s' e1 hr q _ ih1 ih2 =>
    intro f t h o
    have hz : Z g = none := by
      cases hz : Z g with
      | none => rfl
      | some R =>
        exfalso
        obtain ⟨a, b, _⟩ := h.hid g R hz
        rw [e1] at b
        cases R with
        | suspended kk ll cc pp ff cl2 =>
          have b' := Option.some.inj b
          simp only [veilG] at b'
          injection b' with b1
          subst b1
          exact no_unsup hr _ rfl
        | _ => simp_all [isSusp]
    have hfs : splitAtGen fs = none := o g hz _ _ _ _ _ _ e1
    obtain ⟨t1, r1, h1, o1, z1⟩ := ih1 hfs (t.setGen g .running) (h.set hz _) (o.set fun _ _ _ _ _ _ z => by cases z)
    obtain ⟨t2, r2, z⟩ := ih2 f (t1.setGen g e₁.genState) (h1.set hz _) (o1.set fun k l c p fs cl ee => by
      cases e₁ with
      | ret r => cases ee
      | susp v g l k c p fs =>
        cases ee
        exact z1 _ _ _ _ _ _ _ rfl)
    exact ⟨t2, .resumeSuspended (by rw [h.oth g hz]; exact e1) r1 q r2, z⟩
  | @resumeJustStarted g v Γ p k s e s' l c e1 hv _ ih =>
    intro f t h o
    have hz : Z g = none := by
      cases hz : Z g with
      | none => rfl
      | some R =>
        obtain ⟨a, b, _⟩ := h.hid g R hz
        rw [e1] at b
        cases R <;> simp_all [isSusp, veilG]
    obtain ⟨t', r, z⟩ := ih f t h o
    exact ⟨t', .resumeJustStarted (by rw [h.oth g hz]; exact e1) hv r, z⟩
  | @resumeThrowFresh g Γ p k e s' x l s c e1 _ ih =>
    intro f t h o
    have hz : Z g = none := by
      cases hz : Z g with
      | none => rfl
      | some R =>
        obtain ⟨a, b, _⟩ := h.hid g R hz
        rw [e1] at b
        cases R <;> simp_all [isSusp, veilG]
    obtain ⟨t', r, z⟩ := ih f (t.setGen g .finished) (h.set hz _) (o.set fun _ _ _ _ _ _ z => by cases z)
    exact ⟨t', .resumeThrowFresh (by rw [h.oth g hz]; exact e1) r, z⟩
  | @resumeRunning g Γ p k s e s' r l e1 _ ih =>
    intro f t h o
    have hz : Z g = none := by
      cases hz : Z g with
      | none => rfl
      | some R =>
        obtain ⟨a, b, _⟩ := h.hid g R hz
        rw [e1] at b
        cases R <;> simp_all [isSusp, veilG]
    obtain ⟨t', r, z⟩ := ih f t h o
    exact ⟨t', .resumeRunning (by rw [h.oth g hz]; exact e1) r, z⟩
  | @resumeFinished g Γ p k s e s' r l e1 _ ih =>
    intro f t h o
    have hz : Z g = none := by
      cases hz : Z g with
      | none => rfl
      | some R =>
        obtain ⟨a, b, _⟩ := h.hid g R hz
        rw [e1] at b
        cases R <;> simp_all [isSusp, veilG]
    obtain ⟨t', r, z⟩ := ih f t h o
    exact ⟨t', .resumeFinished (by rw [h.oth g hz]; exact e1) r, z⟩
  | segRet _ _ ih1 ih2 =>
    intro f t h o
    obtain ⟨t1, r1, h1, o1, _⟩ := ih1 rfl t h o
    obtain ⟨t2, r2, z⟩ := ih2 (split_ret.mp f) t1 h1 o1
    exact ⟨t2, .segRet r1 r2, z⟩
  | segGen => intro f; cases f
  | @segSuspOut Γ p t F fs s v g₀ l₀ k₀ c₀ p₀ fs₀ s' hs _ ih =>
    intro f t h o
    obtain ⟨t1, r1, h1, o1, z⟩ := ih rfl t h o
    refine ⟨t1, .segSuspOut hs r1, h1, o1, fun v' g' l' k' c' q' fs' e => ?_⟩
    have z' := z _ _ _ _ _ _ _ rfl
    injection e with _ _ _ _ _ _ e7
    rw [← e7]
    exact split_app z' f
  | segSuspGen hs => intro f; rw [f] at hs; cases hs
end
end GV
set_option maxHeartbeats 4000000
/-! GN2: weakest preconditions under the veil. -/
namespace GV
open PySem PyProof.Rows
open Sem (wp)
section
variable {Z : Nat → Option GenState} {M : Model}
theorem zn_of {s t : Shared} {g : Nat} {x : GenState} (h : Hid Z s t) (e : s.gens[g]? = some x) (hx : isSusp x = false) : Z g = none := by
  cases hz : Z g with
  | none => rfl
  | some R =>
    obtain ⟨a, b, _⟩ := h.hid g R hz
    rw [e] at b
    have : isSusp (veilG R) = isSusp R := by cases R <;> rfl
    rw [← Option.some.inj b, hx, a] at this
    cases this
theorem end_ok {e₁ : End} (z : ∀ v g l k c q fs', e₁ = .susp v g l k c q fs' → splitAtGen fs' = none) : ∀ k l c p fs cl, e₁.genState = .suspended k l c p fs cl → splitAtGen fs = none := fun k l c p fs cl ee => by
  cases e₁ with
  | ret r => cases ee
  | susp v g l k c p fs =>
    cases ee
    exact z _ _ _ _ _ _ _ rfl
theorem wakes_sim {Γ : Ctx} {p : Pos} {g : Nat} {r : Resume} {s s' t : Shared} {res : GenResult} (w : Wakes M Γ p g r s res s') (h : Hid Z s t) (o : OkG Z s) : ∃ t', Wakes M Γ p g r t res t' ∧ Hid Z s' t' ∧ OkG Z s' := by
  unfold Wakes at w
  cases e1 : s.gens[g]? with
  | none => rw [e1] at w; exact w.elim
  | some x =>
    rw [e1] at w
    cases x with
    | fresh c =>
      have hz := zn_of h e1 rfl
      have e2 : t.gens[g]? = some (.fresh c) := by rw [h.oth g hz, e1]
      cases r with
      | send v =>
        by_cases hv : v = .none
        · subst hv
          obtain ⟨e₁, s₁, hr, q, rfl, rfl⟩ := w
          obtain ⟨t1, r1, h1, o1, z1⟩ := sim hr rfl (t.setGen g .running) (h.set hz _) (o.set fun _ _ _ _ _ _ z => by cases z)
          refine ⟨t1.setGen g e₁.genState, ?_, h1.set hz _, o1.set (end_ok z1)⟩
          unfold Wakes
          rw [e2]
          exact ⟨e₁, t1, r1, q, rfl, rfl⟩
        · have w2 : res = .justStarted ∧ s' = s := by
            cases v <;> first | exact w | exact absurd rfl hv
          refine ⟨t, ?_, by rw [w2.2]; exact h, by rw [w2.2]; exact o⟩
          unfold Wakes
          rw [e2]
          cases v <;> first | exact ⟨w2.1, rfl⟩ | exact absurd rfl hv
      | throw x =>
        obtain ⟨rfl, rfl⟩ := w
        refine ⟨t.setGen g .finished, ?_, h.set hz _, o.set fun _ _ _ _ _ _ z => by cases z⟩
        unfold Wakes
        rw [e2]
        exact ⟨rfl, rfl⟩
    | suspended k₀ l₀ c₀ p₀ fs cl =>
      obtain ⟨e₁, s₁, hr, q, rfl, rfl⟩ := w
      have hz : Z g = none := by
        cases hz : Z g with
        | none => rfl
        | some R =>
          exfalso
          obtain ⟨a, b, _⟩ := h.hid g R hz
          rw [e1] at b
          cases R with
          | suspended kk ll cc pp ff cl2 =>
            have b' := Option.some.inj b
            simp only [veilG] at b'
            injection b' with b1
            subst b1
            exact no_unsup hr _ rfl
          | _ => simp_all [isSusp]
      have e2 : t.gens[g]? = some (.suspended k₀ l₀ c₀ p₀ fs cl) := by rw [h.oth g hz, e1]
      obtain ⟨t1, r1, h1, o1, z1⟩ := sim hr (o g hz _ _ _ _ _ _ e1) (t.setGen g .running) (h.set hz _) (o.set fun _ _ _ _ _ _ z => by cases z)
      refine ⟨t1.setGen g e₁.genState, ?_, h1.set hz _, o1.set (end_ok z1)⟩
      unfold Wakes
      rw [e2]
      exact ⟨e₁, t1, r1, q, rfl, rfl⟩
    | running =>
      obtain ⟨rfl, rfl⟩ := w
      refine ⟨t, ?_, h, o⟩
      unfold Wakes
      rw [h.oth g (zn_of h e1 rfl), e1]
      exact ⟨rfl, rfl⟩
    | finished =>
      obtain ⟨rfl, rfl⟩ := w
      refine ⟨t, ?_, h, o⟩
      unfold Wakes
      rw [h.oth g (zn_of h e1 rfl), e1]
      exact ⟨rfl, rfl⟩
def Un {α : Type} (Z : Nat → Option GenState) (Q : α → Pos → Shared → Prop) : α → Pos → Shared → Prop := fun a p t => ∃ s, Hid Z s t ∧ OkG Z s ∧ Q a p s
theorem wp_hid {α : Type} {Γ : Ctx} (m : Sem α) : ∀ (Q : α → Pos → Shared → Prop) (E : Value → Pos → Shared → Prop) (p : Pos) (s t : Shared), Hid Z s t → OkG Z s → wp M Γ m Q E p s → wp M Γ m (Un Z Q) (Un Z E) p t := by
  induction m with
  | pure a => intro Q E p s t h o w; exact ⟨s, h, o, w⟩
  | raise e => intro Q E p s t h o w; exact ⟨s, h, o, w⟩
  | unsupported _ => intro Q E p s t h o w; exact w
  | finish _ => intro Q E p s t h o w; exact w
  | rule _ k ih => intro Q E p s t h o w; exact ih () Q E p s t h o w
  | «at» p' k ih => intro Q E p s t h o w; exact ih () Q E p' s t h o w
  | load a _ k ih =>
    intro Q E p s t h o w
    obtain ⟨x, hx, w⟩ := w
    exact ⟨x, by rw [h.heap]; exact hx, ih x Q E p s t h o w⟩
  | update a _ f k ih =>
    intro Q E p s t h o w
    refine ⟨by rw [h.heap]; exact w.1, ?_⟩
    have := ih () Q E p _ _ (h.heap_ (s.heap.update a f)) o w.2
    rw [h.heap]
    exact this
  | loadIfAlive a k ih =>
    intro Q E p s t h o w
    have := ih _ Q E p s t h o w
    show wp M _ (k (t.heap.get? a)) _ _ p t
    rw [h.heap]
    exact this
  | point _ k ih => intro Q E p s t h o w; exact ih () Q E p s t h o w
  | register _ _ => intro Q E p s t h o w; exact w
  | alloc x k ih =>
    intro Q E p s t h o w
    have := ih s.heap.objs.size Q E p _ _ (h.heap_ (s.heap.push x)) o w
    show wp M _ (k t.heap.objs.size) _ _ p { t with heap := t.heap.push x }
    rw [h.heap]
    exact this
  | fresh k ih =>
    intro Q E p s t h o w
    have := ih s.toks Q E p _ _ (h.toks_ (s.toks + 1)) o w
    show wp M _ (k t.toks) _ _ p { t with toks := t.toks + 1 }
    rw [h.toks]
    exact this
  | ask k ih => intro Q E p s t h o w; exact ih _ Q E p s t h o w
  | choose src n k ih =>
    intro Q E p s t h o w
    refine ⟨w.1, ?_⟩
    have := ih _ Q E p _ _ (h.drawn_ (s.drawn.bump src)) o w.2
    rw [h.drawn]
    exact this
  | os q _ k ih =>
    intro Q E p s t h o w
    have := ih (Os.step s.os q).2 Q E p _ _ (h.os_ (Os.step s.os q).1) o w
    show wp M _ (k (Os.step t.os q).2) _ _ p { t with os := (Os.step t.os q).1 }
    rw [h.os]
    exact this
  | call c hd _ _ k ih =>
    intro Q E p s t h o w
    obtain ⟨r, s1, hr, w⟩ := w
    obtain ⟨t1, r1, h1, o1, _⟩ := sim hr rfl t h o
    exact ⟨r, t1, r1, ih r Q E p s1 t1 h1 o1 w⟩
  | handled own k ih => intro Q E p s t h o w; exact ih _ Q E p s t h o w
  | genState g k ih =>
    intro Q E p s t h o w
    obtain ⟨st, hs, w⟩ := w
    have w' := ih _ Q E p s t h o w
    cases hz : Z g with
    | none => exact ⟨st, by rw [h.oth g hz]; exact hs, w'⟩
    | some R =>
      obtain ⟨_, b, c⟩ := h.hid g R hz
      rw [hs] at b
      have eq : st.seen = R.seen := by rw [Option.some.inj b, veil_seen]
      rw [eq] at w'
      exact ⟨R, c, w'⟩
  | newGen c k ih =>
    intro Q E p s t h o w
    have := ih _ Q E p _ _ (h.push (.fresh c)) (o.push fun _ _ _ _ _ _ z => by cases z) w
    show wp M _ (k t.gens.size) _ _ p { t with gens := t.gens.push (.fresh c) }
    rw [h.size]
    exact this
  | resume g r _ k ih =>
    intro Q E p s t h o w
    obtain ⟨res, s1, hw, w⟩ := w
    obtain ⟨t1, w1, h1, o1⟩ := wakes_sim hw h o
    exact ⟨res, t1, w1, ih res Q E p s1 t1 h1 o1 w⟩
  | yield _ _ _ _ => intro Q E p s t h o w; exact w
  | stack k ih => intro Q E p s t h o w; exact ih _ Q E p s t h o w
  | fork _ _ => intro Q E p s t h o w; exact w
  | thread k ih => intro Q E p s t h o w; exact ih _ Q E p s t h o w
  | await _ _ _ _ _ => intro Q E p s t h o w; exact w
end
/-- all that sleeps -/
def asleep (t : Shared) : Nat → Option GenState := fun g => match t.gens[g]? with
  | some x => if isSusp x = true then some x else none
  | none => none
def veil (t : Shared) : Shared := { t with gens := t.gens.map veilG }
theorem asleep_some {t : Shared} {g : Nat} {R : GenState} (h : asleep t g = some R) : isSusp R = true ∧ t.gens[g]? = some R := by
  unfold asleep at h
  split at h
  · rename_i x e
    split at h
    · rename_i hx
      cases h
      exact ⟨hx, e⟩
    · cases h
  · cases h
theorem asleep_of {t : Shared} {g : Nat} {R : GenState} (h : isSusp R = true) (e : t.gens[g]? = some R) : asleep t g = some R := by
  unfold asleep
  rw [e]
  simp only [h, if_true]
theorem veil_get {t : Shared} {g : Nat} : (veil t).gens[g]? = (t.gens[g]?).map veilG := by
  show (t.gens.map veilG)[g]? = _
  simp
theorem veil_hid (t : Shared) : Hid (asleep t) (veil t) t := by
  refine ⟨rfl, rfl, rfl, rfl, by simp [veil], fun g R h => ?_, fun g h => ?_⟩
  · obtain ⟨a, b⟩ := asleep_some h
    exact ⟨a, by rw [veil_get, b]; rfl, b⟩
  · rw [veil_get]
    cases e : t.gens[g]? with
    | none => rfl
    | some x =>
      cases hx : isSusp x with
      | true => rw [asleep_of hx e] at h; cases h
      | false =>
        have : veilG x = x := by cases x <;> first | rfl | cases hx
        rw [Option.map_some, this]
theorem veil_ok (t : Shared) : OkG (asleep t) (veil t) := fun g h k l c p fs cl e => by
  rw [veil_get] at e
  cases e1 : t.gens[g]? with
  | none => rw [e1] at e; cases e
  | some x =>
    rw [e1] at e
    have : isSusp x = true := by
      have e2 : veilG x = .suspended k l c p fs cl := Option.some.inj e
      cases x <;> first | rfl | (simp only [veilG] at e2; cases e2)
    rw [asleep_of this e1] at h
    cases h
theorem wpAny_veil {α : Type} {M : Model} {A : Around} {m : Sem α} {Q : α → Shared → Prop} {E : Value → Shared → Prop} {t : Shared} (h : wpAny M A m Q E (veil t)) :
    wpAny M A m (fun a t1 => ∃ s1, Hid (asleep t) s1 t1 ∧ Q a s1) (fun e t1 => ∃ s1, Hid (asleep t) s1 t1 ∧ E e s1) t := fun Γ p hΓ =>
  Sem.wp_mono M Γ m (fun _ _ _ ⟨s, a, _, c⟩ => ⟨s, a, c⟩) (fun _ _ _ ⟨s, a, _, c⟩ => ⟨s, a, c⟩) p t (wp_hid m _ _ p (veil t) t (veil_hid t) (veil_ok t) (h Γ p hΓ))
theorem veil_bares {t : Shared} (h : AllBare t.gens) : AllBare (veil t).gens := fun x hx => by
  obtain ⟨y, hy, rfl⟩ := Array.mem_map.mp hx
  rw [veil_bare]
  exact h y hy
theorem hid_bares {t s1 t1 : Shared} (h : AllBare t.gens) (hh : Hid (asleep t) s1 t1) (h1 : AllBare s1.gens) : AllBare t1.gens := fun x hx => by
  obtain ⟨g, hg, e⟩ := Array.mem_iff_getElem.mp hx
  have e1 : t1.gens[g]? = some x := by rw [Array.getElem?_eq_getElem hg, e]
  cases hz : asleep t g with
  | none =>
    rw [hh.oth g hz] at e1
    exact h1 x (Array.mem_of_getElem? e1)
  | some R =>
    obtain ⟨_, _, c⟩ := hh.hid g R hz
    rw [c] at e1
    cases e1
    exact h x (Array.mem_of_getElem? (asleep_some hz).2)
end GV
set_option maxHeartbeats 4000000
/-! GN3: for over a generator: the rule of the consumer. -/
namespace GV
open PySem L2 PySem.Spec PyProof.Rows
/-- the generator's own objects, locked while the body runs -/
def lockH (pv : List Addr) (h : Heap) (H : Hp) : Hp := fun b => if b ∈ pv then (h.get? b).map fun o => .frz o (.own 0) else H b
def dropH (pv : List Addr) (H : Hp) : Hp := fun b => if b ∈ pv then none else H b
/-- the context of the body -/
def bodyX (X : Cx) (H0 : Hp) : Cx := { X with H_0 := H0, xe := fun _ _ => False }
section
variable {X : Cx} {pins : List (Addr × Obj)} {σ : L2.St} {H : Hp} {s s' : Shared} {pv : List Addr}
theorem Inv.gens (I : Inv X pins σ H s) (h : s'.heap = s.heap) (o : s'.os = s.os) (b : AllBare s'.gens) : Inv X pins σ H s' := by
  obtain ⟨a1, a2, a3, a4, a5, a6, a7, a8, a9, a10, a11⟩ := I
  exact ⟨a1, o.trans a2, b, by rw [h]; exact a4, by rw [h]; exact a5, by rw [h]; exact a6, a7, a8, by rw [h]; exact a9, by rw [h]; exact a10, a11⟩
def startH (pv : List Addr) (h : Heap) (X : Cx) : Hp := fun b => if b ∈ pv then (h.get? b).map fun o => .frz o (.own 0) else X.H_0 b
theorem lockH_in {h : Heap} {b : Addr} {o : Obj} (hb : b ∈ pv) (e : h.get? b = some o) : lockH pv h H b = some (.frz o (.own 0)) := by
  unfold lockH
  rw [if_pos hb, e]
  rfl
theorem lockH_out {h : Heap} {b : Addr} (hb : b ∉ pv) : lockH pv h H b = H b := by unfold lockH; rw [if_neg hb]
theorem dropH_in {b : Addr} (hb : b ∈ pv) : dropH pv H b = none := by unfold dropH; rw [if_pos hb]
theorem dropH_out {b : Addr} (hb : b ∉ pv) : dropH pv H b = H b := by unfold dropH; rw [if_neg hb]
/-- the body begins -/
theorem inv_lock (I : Inv X pins σ H s) (hf : ∀ b ∈ pv, FpOk X pins H b) (ho : ∀ b ∈ pv, ∃ o, s.heap.get? b = some o) : Inv (bodyX X (startH pv s.heap X)) pins σ (lockH pv s.heap H) s := by
  have nH : ∀ b u, H b = some u → b ∉ pv := fun b u e hb => by rw [(hf b hb).1] at e; cases e
  have n0 : ∀ b o, X.s_0.heap.get? b = some o → b ∉ X.ex → b ∉ pv := fun b o e hx hb => by
    rcases (hf b hb).2.2.2.1 with z | z
    · exact hx z
    · exact absurd (Nat.lt_of_lt_of_le (Heap.lt_size e) z) (Nat.lt_irrefl _)
  have n00 : ∀ b u, X.H_0 b = some u → b ∉ pv → startH pv s.heap X b = some u := fun b u e hb => by unfold startH; rw [if_neg hb]; exact e
  have ns : ∀ b, b ∉ pv → startH pv s.heap X b = X.H_0 b := fun b hb => by unfold startH; rw [if_neg hb]
  have nsi : ∀ b u, b ∈ pv → startH pv s.heap X b = some u → lockH pv s.heap H b = some u := fun b u hb e => by
    unfold startH at e
    unfold lockH
    rw [if_pos hb] at e ⊢
    exact e
  refine ⟨⟨I.ok.mod, I.ok.kind, I.ok.glob, I.ok.blt, I.ok.above, I.ok.inj, I.ok.has, I.ok.cab, I.ok.hd, I.ok.frames, I.ok.stk, I.ok.exf, fun b o e => ?_, I.ok.bsz, I.ok.noex, I.ok.exfs, I.ok.funs, fun b hb => ?_⟩, I.os, I.bare,
    ⟨fun b o e n hb hx => I.base.keep b o e ?_ hb hx, fun b o e n hb hx => I.base.slot b o e ?_ hb hx, fun b o e n hx => ?_, I.base.there, fun b xs e => ?_, fun b o u e => ?_, fun b ps e => ?_⟩, I.loc, I.cell, ?_, fun x c e => ?_, fun p hp => ?_, fun b u e => ?_, I.len⟩
  · obtain ⟨e1, e2⟩ := I.ok.bs b o e
    exact ⟨e1, by show startH pv s.heap X b = none; rw [ns b (n0 b o e1 (I.ok.noex b o e))]; exact e2⟩
  · have hb' : b ∉ pv := fun z => (hf b z).2.2.1 hb
    show startH pv s.heap X b = none
    rw [ns b hb']
    exact I.ok.frf b hb
  · have n' : startH pv s.heap X b = none := n
    rw [ns b (n0 b o e hx)] at n'
    exact n'
  · have n' : startH pv s.heap X b = none := n
    rw [ns b (n0 b o e hx)] at n'
    exact n'
  · have hb := n0 b o e hx
    have n' : startH pv s.heap X b = none := n
    rw [ns b hb] at n'
    rw [lockH_out hb]
    exact I.base.free b o e n' hx
  · have e' : startH pv s.heap X b = some (.tup xs) := e
    by_cases hb : b ∈ pv
    · exact nsi b _ hb e'
    · rw [ns b hb] at e'
      rw [lockH_out hb]
      exact I.base.tups b xs e'
  · have e' : startH pv s.heap X b = some (.frz o u) := e
    by_cases hb : b ∈ pv
    · exact nsi b _ hb e'
    · rw [ns b hb] at e'
      rw [lockH_out hb]
      exact I.base.frzs b o u e'
  · have e' : startH pv s.heap X b = some (.tbl ps) := e
    by_cases hb : b ∈ pv
    · obtain ⟨o, ho'⟩ := ho b hb
      unfold startH at e'
      rw [if_pos hb, ho'] at e'
      cases e'
    · rw [ns b hb] at e'
      rw [lockH_out hb]
      exact I.base.tbls b ps e'
  · have hb : X.env.locals ∉ pv := fun z => (hf _ z).2.1 rfl
    show lockH pv s.heap H X.env.locals = none
    rw [lockH_out hb]
    exact I.free
  · have hb : c ∉ pv := fun z => (hf c z).2.2.2.2.1 x c e rfl
    rw [lockH_out hb]
    exact I.freeC x c e
  · obtain ⟨e, n, r⟩ := I.pin p hp
    have hb : p.1 ∉ pv := fun z => (hf p.1 z).2.2.2.2.2 p hp rfl
    exact ⟨e, by rw [lockH_out hb]; exact n, r⟩
  · by_cases hb : b ∈ pv
    · obtain ⟨o, ho'⟩ := ho b hb
      rw [lockH_in hb ho'] at e
      cases e
      exact ⟨ho', o, ho'⟩
    · rw [lockH_out hb] at e
      refine (I.hok b u e).stay (fun _ _ _ q => q) (fun c q => ?_) fun c xs q => ?_
      · rw [lockH_out (nH c _ q)]; exact q
      · rw [lockH_out (nH c _ q)]; exact q
/-- the body's end: the locked objects stand as they stood -/
theorem inv_held {h0 : Heap} (I : Inv (bodyX X (startH pv h0 X)) pins σ H s) {b : Addr} {o : Obj} (hb : b ∈ pv) (e : h0.get? b = some o) : H b = some (.frz o (.own 0)) ∧ s.heap.get? b = some o := by
  have e1 : startH pv h0 X b = some (.frz o (.own 0)) := by
    unfold startH
    rw [if_pos hb, e]
    rfl
  have e2 := I.base.frzs b o _ e1
  exact ⟨e2, (I.hok b _ e2).1⟩
theorem inv_drop {h0 : Heap} {H1 : Hp} {pins1 : List (Addr × Obj)} {σ1 : L2.St} {s1 : Shared} (I0 : Inv X pins1 σ1 H1 s1) (I : Inv (bodyX X (startH pv h0 X)) pins σ H s) (hf : ∀ b ∈ pv, FpOk X pins1 H1 b) (ho : ∀ b ∈ pv, ∃ o, h0.get? b = some o) : Inv X pins σ (dropH pv H) s := by
  have n0 : ∀ b o, X.s_0.heap.get? b = some o → b ∉ X.ex → b ∉ pv := fun b o e hx hb => by
    rcases (hf b hb).2.2.2.1 with z | z
    · exact hx z
    · exact absurd (Nat.lt_of_lt_of_le (Heap.lt_size e) z) (Nat.lt_irrefl _)
  have ns : ∀ b, b ∉ pv → startH pv h0 X b = X.H_0 b := fun b hb => by unfold startH; rw [if_neg hb]
  have frz : ∀ b ∈ pv, ∃ o, H b = some (.frz o (.own 0)) := fun b hb => by
    obtain ⟨o, e⟩ := ho b hb
    exact ⟨o, (inv_held I hb e).1⟩
  have nT : ∀ b u, H b = some u → (∀ o, u ≠ .frz o (.own 0)) → b ∉ pv := fun b u e hu hb => by
    obtain ⟨o, e2⟩ := frz b hb
    rw [e] at e2
    exact hu o (Option.some.inj e2)
  have dn : ∀ b, H b = none → dropH pv H b = none := fun b e => by
    by_cases hb : b ∈ pv
    · exact dropH_in hb
    · rw [dropH_out hb]; exact e
  refine ⟨I0.ok, I.os, I.bare, ⟨fun b o e n hb hx => I.base.keep b o e ?_ hb hx, fun b o e n hb hx => I.base.slot b o e ?_ hb hx, fun b o e n hx => ?_, I.base.there, fun b xs e => ?_, fun b o u e => ?_, fun b ps e => ?_⟩, I.loc, I.cell, ?_, fun x c e => ?_, fun p hp => ?_, fun b u e => ?_, I.len⟩
  · show startH pv h0 X b = none
    rw [ns b (n0 b o e hx)]; exact n
  · show startH pv h0 X b = none
    rw [ns b (n0 b o e hx)]; exact n
  · refine dn b (I.base.free b o e ?_ hx)
    show startH pv h0 X b = none
    rw [ns b (n0 b o e hx)]; exact n
  · have hb : b ∉ pv := fun hb => by
      have := I0.base.tups b xs e
      rw [(hf b hb).1] at this
      cases this
    have := I.base.tups b xs (by show startH pv h0 X b = _; rw [ns b hb]; exact e)
    rw [dropH_out hb]; exact this
  · have hb : b ∉ pv := fun hb => by
      have := I0.base.frzs b o u e
      rw [(hf b hb).1] at this
      cases this
    have := I.base.frzs b o u (by show startH pv h0 X b = _; rw [ns b hb]; exact e)
    rw [dropH_out hb]; exact this
  · have hb : b ∉ pv := fun hb => by
      obtain ⟨m, this⟩ := I0.base.tbls b ps e
      rw [(hf b hb).1] at this
      cases this
    have := I.base.tbls b ps (by show startH pv h0 X b = _; rw [ns b hb]; exact e)
    rw [dropH_out hb]; exact this
  · exact dn _ I.free
  · exact dn _ (I.freeC x c e)
  · obtain ⟨e, n, r⟩ := I.pin p hp
    exact ⟨e, dn _ n, r⟩
  · by_cases hb : b ∈ pv
    · rw [dropH_in hb] at e; cases e
    · rw [dropH_out hb] at e
      refine (I.hok b u e).stay (fun _ _ _ q => q) (fun c q => ?_) fun c xs q => ?_
      · rw [dropH_out (nT c _ q fun o z => by cases z)]; exact q
      · rw [dropH_out (nT c _ q fun o z => by cases z)]; exact q
end
end GV
set_option maxHeartbeats 4000000
/-! GN4: for over a generator: the rule. -/
namespace GV
open PySem L2 PySem.Spec PyProof.Rows
structure TurnG (X : Cx) (tg : Expr) (J : It) (a : Addr) (g : Nat) (St : Nat → List Addr → Shared → Prop) : Prop where
  obj : ∀ {i : Nat} {pv : List Addr} {s : Shared}, St i pv s → ∀ b ∈ pv, ∃ o, s.heap.get? b = some o
  zzz : ∀ {i : Nat} {pv : List Addr} {s : Shared}, St (i + 1) pv s → ∃ R, isSusp R = true ∧ s.gens[g]? = some R
  keep : ∀ {i : Nat} {pv : List Addr} {s s' : Shared} {pins : List (Addr × Obj)} {σ : L2.St} {H : Hp}, St (i + 1) pv s → Inv X pins σ H s' → (∀ b ∈ pv, ∀ o, s.heap.get? b = some o → s'.heap.get? b = some o) → s'.gens[g]? = s.gens[g]? → St (i + 1) pv s'
  item : ∀ {i : Nat} {pv : List Addr} {pins : List (Addr × Obj)} {s : Shared} {σ : L2.St} {H : Hp} (E : Value → Shared → Prop), Inv X pins σ H s → (∀ b ∈ pv, FpOk X pins H b) → St i pv s → J.go i H →
    wpAny (model X.prog X.w) X.A (pyNext (.ref a)) (fun r s1 => ∃ u, r = some u ∧ wpAny (model X.prog X.w) X.A (letOwnedTupleGo tg (.ref a) u) (fun _ s2 => ∃ x H' pv', Inv X pins σ H' s2 ∧ RelV x u ∧ J.yld i H x H' ∧ St (i + 1) pv' s2 ∧ ∀ b ∈ pv', FpOk X pins H' b) E s1) E s
  done : ∀ {i : Nat} {pv : List Addr} {pins : List (Addr × Obj)} {s : Shared} {σ : L2.St} {H : Hp} (E : Value → Shared → Prop), Inv X pins σ H s → (∀ b ∈ pv, FpOk X pins H b) → St i pv s → J.stop i H →
    wpAny (model X.prog X.w) X.A (pyNext (.ref a)) (fun r s1 => r = none ∧ Inv X pins σ H s1) E s
def PIEG (X : Cx) (pins : List (Addr × Obj)) (σ : L2.St) (tg : Expr) (R : It → Hp → Prop) (itv : Value) (s2 : Shared) : Prop :=
  ∃ (a : Addr) (g : Nat) (pv : List Addr) (St : Nat → List Addr → Shared → Prop) (J : It) (H' : Hp), itv = .ref a ∧ Inv X pins σ H' s2 ∧ TurnG X tg J a g St ∧ St 0 pv s2 ∧ (∀ b ∈ pv, FpOk X pins H' b) ∧ R J H'
structure PIG (X : Cx) (tg iter : Expr) (wi : TI) : Prop where
  run : ∀ (pins : List (Addr × Obj)) (s : Shared) (σ : L2.St) (H : Hp) (R : It → Hp → Prop), Inv X pins σ H s → wi σ H R →
    wpAny (model X.prog X.w) X.A (eval iter X.env) (fun v s1 => wpAny (model X.prog X.w) X.A (pyIter v) (PIEG X pins σ tg R) X.xe s1) X.xe s
/-- what was tracked, and the generator's own objects locked -/
structure Lock (pv : List Addr) (H H1 : Hp) : Prop where
  no : ∀ b ∈ pv, H b = none
  inn : ∀ b ∈ pv, ∃ o, H1 b = some (.frz o (.own 0))
  out : ∀ b, b ∉ pv → H1 b = H b
def endN (pv : List Addr) (D : Ends) (N : L2.St → Hp → Prop) : Ends :=
  { nx := fun σ H => (∀ b ∈ pv, ∃ o, H b = some (.frz o (.own 0))) → N σ (dropH pv H), ct := fun σ H => (∀ b ∈ pv, ∃ o, H b = some (.frz o (.own 0))) → N σ (dropH pv H), bk := fun σ H => (∀ b ∈ pv, ∃ o, H b = some (.frz o (.own 0))) → D.nx σ (dropH pv H), rt := fun v H => (∀ b ∈ pv, ∃ o, H b = some (.frz o (.own 0))) → D.rt v (dropH pv H) }
def tForG (wi : TI) (g : TG) (tb : TS) : TS := fun D σ H => wi σ H fun J H1 => ∃ W : Nat → Nat → L2.St → Hp → Prop, (∃ m, W 0 m σ H1) ∧ ∀ i m σ H, W i m σ H →
  (J.stop i H ∧ D.nx σ H) ∨ (J.go i H ∧ ∃ N : L2.St → Hp → Prop, (∀ σ' H', N σ' H' → ∃ m', m' < m ∧ W (i + 1) m' σ' H') ∧ ∀ x H', J.yld i H x H' → ∀ pv H2, Lock pv H' H2 → g x σ H2 fun σ3 H3 => tb (endN pv D N) σ3 H3)
section
variable {X : Cx} {tg : Expr}
theorem fp_drop {pins : List (Addr × Obj)} {H H2 : Hp} {pv : List Addr} (h : ∀ b ∈ pv, FpOk X pins H b) : ∀ b ∈ pv, FpOk X pins (dropH pv H2) b := fun b hb => ⟨dropH_in hb, (h b hb).2⟩
theorem ps_forG {iter : Expr} {body : List Stmt} {wi : TI} {g : TG} {tb : TS} {pos : Pos} (hp : PassesOwn (model X.prog X.w) X.A X.env X.xe) (hi : PIG X tg iter wi) (hg : ∀ H0, PG (bodyX X H0) tg g) (hb : ∀ H0, PSs (bodyX X H0) body tb)
    (hs : ∀ x, foldedSetIterable iter X.env x = pure x := by intro _; rfl) : PS X (.For tg iter body [] pos) (tForG wi g tb) := by
  refine ⟨fun pins s σ H D I h => ?_⟩
  refine wpAny_For (thn (hi.run pins s σ H _ I h) fun v s1 h1 => thn h1 fun itv s2 h2 => ?_) hs
  obtain ⟨a, gi, pv, St, J, H2, e, I2, T, st2, f2, W, ⟨m0, w0⟩, turn⟩ := h2
  subst e
  refine codeAny_forLoop_any (fun n s' => ∃ i pv σ' H', Inv X pins σ' H' s' ∧ St i pv s' ∧ (∀ b ∈ pv, FpOk X pins H' b) ∧ W i n σ' H') ?_ m0 ⟨0, pv, σ, H2, I2, st2, f2, w0⟩
  rintro n s3 ⟨i, pv, σ3, H3, I3, st3, fr3, w3⟩
  rcases turn i n σ3 H3 w3 with ⟨stop, qn⟩ | ⟨go, N, hN, step⟩
  · refine wpAny_passesOwn hp (thn (T.done X.xe I3 fr3 st3 stop) fun r s4 ⟨hr, I4⟩ => ?_)
    subst hr
    exact wpAny_execs_nil ⟨σ3, H3, I4, qn⟩
  · refine wpAny_passesOwn hp (thn (T.item X.xe I3 fr3 st3 go) fun r s4 ⟨u, hr, h4⟩ => ?_)
    subst hr
    refine wpAny_passesOwn hp (thn h4 fun _ s5 ⟨x, H5, pv5, I5, r5, y5, st5, fr5⟩ => ?_)
    obtain ⟨R, hR, eR⟩ := T.zzz st5
    have ob5 := T.obj st5
    have I6 := inv_lock I5 fr5 ob5
    have lk : Lock pv5 H5 (lockH pv5 s5.heap H5) := ⟨fun b hb => (fr5 b hb).1, fun b hb => by
      obtain ⟨o, e⟩ := ob5 b hb
      exact ⟨o, lockH_in hb e⟩, fun b hb => lockH_out hb⟩
    have aR : asleep s5 gi = some R := asleep_of hR eR
    have I6v : Inv (bodyX X (startH pv5 s5.heap X)) pins σ3 (lockH pv5 s5.heap H5) (veil s5) := Inv.gens I6 rfl rfl (veil_bares I6.bare)
    -- the store
    refine wpAny_mono (wpAny_veil ((hg (startH pv5 s5.heap X)).run pins (veil s5) σ3 _ x u _ I6v r5 (step x H5 y5 pv5 _ lk))) (fun _ t6 h6 => ?_) (fun _ _ ⟨_, _, z⟩ => z.elim)
    obtain ⟨v6, hd6, σ6, H6, J6, q6⟩ := h6
    have J6t : Inv (bodyX X (startH pv5 s5.heap X)) pins σ6 H6 t6 := Inv.gens J6 hd6.heap hd6.os (hid_bares I5.bare hd6 J6.bare)
    have e6 : t6.gens[gi]? = some R := (hd6.hid gi R aR).2.2
    have aR6 : asleep t6 gi = some R := asleep_of hR e6
    have J6v : Inv (bodyX X (startH pv5 s5.heap X)) pins σ6 H6 (veil t6) := Inv.gens J6t rfl rfl (veil_bares J6t.bare)
    -- the body
    refine wpAny_mono (wpAny_veil ((hb (startH pv5 s5.heap X)).run pins (veil t6) σ6 H6 _ J6v q6)) (fun f t7 h7 => ?_) (fun _ _ ⟨_, _, z⟩ => z.elim)
    obtain ⟨v7, hd7, q7⟩ := h7
    have e7 : t7.gens[gi]? = some R := (hd7.hid gi R aR6).2.2
    have real : ∀ {σ7 : L2.St} {H7 : Hp}, Inv (bodyX X (startH pv5 s5.heap X)) pins σ7 H7 v7 → Inv (bodyX X (startH pv5 s5.heap X)) pins σ7 H7 t7 := fun I7 => Inv.gens I7 hd7.heap hd7.os (hid_bares J6t.bare hd7 I7.bare)
    have held : ∀ {σ7 : L2.St} {H7 : Hp}, Inv (bodyX X (startH pv5 s5.heap X)) pins σ7 H7 v7 → Inv X pins σ7 (dropH pv5 H7) t7 ∧ ∀ b ∈ pv5, ∃ o, H7 b = some (.frz o (.own 0)) := fun {σ7 H7} I7 => ⟨inv_drop I5 (real I7) fr5 ob5, fun b hb => by
      obtain ⟨o, e⟩ := ob5 b hb
      exact ⟨o, (inv_held (real I7) hb e).1⟩⟩
    have again : ∀ {σ7 : L2.St} {H7 : Hp}, Inv (bodyX X (startH pv5 s5.heap X)) pins σ7 H7 v7 → N σ7 (dropH pv5 H7) → ∃ m, m < n ∧ ∃ i pv σ' H', Inv X pins σ' H' t7 ∧ St i pv t7 ∧ (∀ b ∈ pv, FpOk X pins H' b) ∧ W i m σ' H' := fun {σ7 H7} I7 n7 => by
      obtain ⟨m', hm, w7⟩ := hN σ7 _ n7
      have I8 := (held I7).1
      refine ⟨m', hm, i + 1, pv5, σ7, _, I8, T.keep st5 I8 (fun b hb o e => (inv_held (real I7) hb e).2) (by rw [e7, eR]), fp_drop fr5, w7⟩
    cases f with
    | next => obtain ⟨σ7, H7, I7, n7⟩ := q7; exact again I7 (n7 (held I7).2)
    | cont => obtain ⟨σ7, H7, I7, n7⟩ := q7; exact again I7 (n7 (held I7).2)
    | brk => obtain ⟨σ7, H7, I7, q7⟩ := q7; exact ⟨σ7, _, (held I7).1, q7 (held I7).2⟩
    | ret v => obtain ⟨x7, σ7, H7, I7, r7, q7⟩ := q7; exact ⟨x7, σ7, _, (held I7).1, r7, q7 (held I7).2⟩
end
end GV
set_option maxHeartbeats 4000000
/-! GN5: next of a generator (it sleeps behind); for in a generator's own code. -/
namespace GV
open PySem L2 PySem.Spec PyProof.Rows
open Sem (wp)
/-! ### for, in a generator's code -/
section
variable {prog : Program} {w : World} {A : Around} {R : GenEnd} {Y : Protocol} {n : Nat} {s₀ : Shared} {c : Code} {fs : List Frame} {s : Shared} {env : Env} {K : Flow → Sem PySem.Fin} {J : Value → Sem PySem.Fin} {gd : Bool → Bool} {lv : List Value → List Value}
abbrev nov : Value → Shared → Prop := fun _ _ => False
/-- what a loop's call does with what comes back -/
def backK (env : Env) (K : Flow → Sem PySem.Fin) (J : Value → Sem PySem.Fin) (gd : Bool → Bool) (lv : List Value → List Value) : Result → Sem PySem.Fin := fun r => ((match r with | .ok f => (.pure f : Sem Flow) | .error e => .raise e).onRaise fun (x : Value) => do
        if (← field x 1) == Value.none then unsupported "frame.own-activation:exception-without-traceback"
        setFlight x env.frame).wrap K J gd lv
/-- what a loop's code does with an exception of its own -/
def outJ (env : Env) : Value → Sem PySem.Fin := fun e => (do noteFrame e env; theTreesLotGoes e : Sem Unit).wrap (fun _ => .raise e) .raise id id
end
end GV
set_option maxHeartbeats 4000000
/-! GN6: one stretch of a generator's run, whatever is wanted of its end. -/
namespace GV
open PySem L2 PySem.Spec PyProof.Rows
open Sem (wp)
def S1 (M : Model) (A : Around) (Φ : End → Shared → Prop) (c : Code) (t : Sem PySem.Fin) (fs : List Frame) (s : Shared) : Prop := ∀ Γ p, Γ.code = c → Γ.Woken A → ∃ e s', Runs M Γ p t fs s e s' ∧ Φ e s'
section
variable {M : Model} {A : Around} {Φ : End → Shared → Prop} {c : Code} {fs : List Frame} {s : Shared}
theorem s1_wrap {α : Type} {m : Sem α} {K : α → Sem PySem.Fin} {J : Value → Sem PySem.Fin} {gd lv} (h : wpAny M (A.over c fs) m (fun a s' => S1 M A Φ c (K a) fs s') (fun x s' => S1 M A Φ c (J x) fs s') s) : S1 M A Φ c (m.wrap K J gd lv) fs s := by
  rintro Γ p rfl hΓ
  exact runs_wrap_of_wp K J gd lv m (h (Γ.over fs) p (hΓ.over fs)) (fun a p' s' h' => h' Γ p' rfl hΓ) (fun x p' s' h' => h' Γ p' rfl hΓ)
theorem s1_wrap0 {α : Type} {m : Sem α} {K : α → Sem PySem.Fin} {J : Value → Sem PySem.Fin} {gd lv} (h : wpAny M (A.over c fs) m (fun a s' => S1 M A Φ c (K a) fs s') nov s) : S1 M A Φ c (m.wrap K J gd lv) fs s := s1_wrap (wpAny_mono h (fun _ _ q => q) fun _ _ z => z.elim)
theorem s1_bind {α β : Type} {m : Sem α} {K : α → Sem β} {K' : β → Sem PySem.Fin} {J : Value → Sem PySem.Fin} {gd lv} (h : wpAny M (A.over c fs) m (fun a s' => S1 M A Φ c ((K a).wrap K' J gd lv) fs s') nov s) : S1 M A Φ c ((m >>= K).wrap K' J gd lv) fs s := by
  rw [Sem.bind_eq_wrap', Sem.wrap_wrap]; exact s1_wrap0 h
theorem s1_at {p' : Pos} {k : Unit → Sem PySem.Fin} (h : S1 M A Φ c (k ()) fs s) : S1 M A Φ c (.at p' k) fs s := s1_wrap0 (m := standAt p') (K := k) (J := .raise) (gd := id) (lv := id) (wpAny_standAt h)
theorem s1_point {l : List Value} {k : Unit → Sem PySem.Fin} (h : S1 M A Φ c (k ()) fs s) : S1 M A Φ c (.point l k) fs s := s1_wrap0 (m := point) (K := k) (J := .raise) (gd := id) (lv := fun _ => l) (wpAny_point h)
theorem s1_call {c' : Code} {h g l} {k : Result → Sem PySem.Fin} (hc : ∀ p, S1 M A Φ c' (M.den c') (.ret k h g l c p [] :: fs) s) : S1 M A Φ c (.call c' h g l k) fs s := by
  rintro Γ p rfl hΓ
  obtain ⟨e, s', hr, he⟩ := hc p (Γ.goto c') p rfl (hΓ.goto c')
  exact ⟨e, s', runs_call_seg hr, he⟩
theorem s1_leaf {k h g l c₁ p₁ kp} (r : Result) (hk : S1 M A Φ c₁ (k r) fs s) : S1 M A Φ c (leafOf r) (.ret k h g l c₁ p₁ kp :: fs) s := by
  rintro Γ p rfl hΓ
  obtain ⟨e, s', hr, he⟩ := hk (Γ.goto c₁) p₁ rfl (hΓ.goto c₁)
  exact ⟨e, s', Runs.pop r hr, he⟩
theorem s1_again {c' : Code} (hq : c'.quiet = true) (hc : S1 M A Φ c' (M.den c') fs s) : S1 M A Φ c (.pure (.again c')) fs s := by
  rintro Γ p rfl hΓ
  obtain ⟨e, s', hr, he⟩ := hc (Γ.goto c') p rfl (hΓ.goto c')
  exact ⟨e, s', Runs.head (c₁ := c') (fun _ _ x => .again hq x) hr, he⟩
theorem s1_end (r : Result) (h : Φ (.ret r) s) : S1 M A Φ c (leafOf r) [] s := by
  rintro Γ p rfl _
  exact ⟨.ret r, s, Runs.leaf r, h⟩
theorem s1_yield {v g l} {k : Resume → Sem PySem.Fin} (hfs : splitAtGen fs = none) (h : ∀ p, Φ (.susp v g l k c p fs) s) : S1 M A Φ c (.yield v g l k) fs s := by
  rintro Γ p rfl _
  exact ⟨_, s, Runs.yield' fs hfs, h p⟩
end
section
variable {prog : Program} {w : World} {A : Around} {Φ : End → Shared → Prop} {c : Code} {fs : List Frame} {s : Shared} {env : Env} {K : Flow → Sem PySem.Fin} {J : Value → Sem PySem.Fin} {gd : Bool → Bool} {lv : List Value → List Value}
theorem s1_cons {st : Stmt} {rest : List Stmt} (h : S1 (model prog w) A Φ c ((exec st env).wrap (fun f => match f with | .next => (execs rest env).wrap K J gd lv | f => K f) J gd lv) fs s) :
    S1 (model prog w) A Φ c ((execs (st :: rest) env).wrap K J gd lv) fs s := by rw [execs_cons_wrap]; exact h
theorem execs_app_wrap : ∀ (a b : List Stmt) {K : Flow → Sem PySem.Fin}, (execs (a ++ b) env).wrap K J gd lv = (execs a env).wrap (fun f => match f with | .next => (execs b env).wrap K J gd lv | f => K f) J gd lv
  | [], b, K => rfl
  | st :: a, b, K => by
    rw [List.cons_append, execs_cons_wrap, execs_cons_wrap]
    refine Sem.wrap_congr _ _ _ (fun f => ?_) fun _ => rfl
    cases f with
    | next => exact execs_app_wrap a b
    | _ => rfl
theorem s1_app {a b : List Stmt} (h : S1 (model prog w) A Φ c ((execs a env).wrap (fun f => match f with | .next => (execs b env).wrap K J gd lv | f => K f) J gd lv) fs s) : S1 (model prog w) A Φ c ((execs (a ++ b) env).wrap K J gd lv) fs s := by rw [execs_app_wrap]; exact h
theorem s1_Yield {e : Expr} {ypos pos : Pos} (hfs : splitAtGen fs = none) (hgd : gd false = false)
    (h : wpAny (model prog w) (A.over c fs) (eval e env) (fun v s' => ∀ (k : Resume → Sem PySem.Fin) (l : List Value) (p : Pos), (∀ (Ψ : End → Shared → Prop) s'', S1 (model prog w) A Ψ c (K .next) fs s'' → S1 (model prog w) A Ψ c (k (.send .none)) fs s'') → Φ (.susp v false l k c p fs) s') nov s)
    (hco : env.scope.isCoroutine = false := by rfl) (hi : interactive env = false := by rfl) :
    S1 (model prog w) A Φ c ((exec (.Expr (.Yield (some e) ypos) pos) env).wrap K J gd lv) fs s := by
  rw [exec_Expr env _ pos hi rfl]
  show S1 (model prog w) A Φ c (.at pos fun _ => ((eval e env >>= fun v => (standAt ypos >>= fun _ => yieldOut env v)) >>= fun x => dropValue (.Yield (some e) ypos) pos x).wrap K J gd lv) fs s
  have hy : ∀ v, yieldOut env v = yieldValue v := fun v => by simp only [yieldOut, hco, Bool.false_eq_true, if_false]
  simp only [hy]
  refine s1_at ?_
  rw [Sem.bind_eq_wrap', Sem.bind_eq_wrap', Sem.wrap_wrap, Sem.wrap_wrap]
  refine s1_wrap0 (wpAny_mono h (fun v s' h' => ?_) fun _ _ z => z.elim)
  refine s1_at (s1_yield hfs fun p => ?_)
  have e1 : (fun g => gd (id g)) false = false := hgd
  rw [e1]
  refine h' _ _ p ?_
  intro Ψ s'' hx
  exact hx
theorem s1_func {body : List Stmt} (h : S1 (model prog w) A Φ (.func body env) ((execs body env).wrap (fun f => .pure (.done (.ret (match f with | .ret v => v | _ => .none)))) (fun e => (leaving env e).wrap (fun _ => .raise e) .raise id id) id id) fs s) :
    S1 (model prog w) A Φ (.func body env) ((model prog w).den (.func body env)) fs s := by
  show S1 _ A Φ _ (.point [] fun _ => ((execs body env).onRaise (leaving env)) >>= _) fs s
  refine s1_point ?_
  rw [Sem.onRaise_eq_wrap, Sem.bind_eq_wrap', Sem.wrap_wrap]
  rw [Sem.wrap_congr (execs body env) _ _ (K' := fun f => .pure (.done (.ret (match f with | .ret v => v | _ => .none)))) (H' := fun e => (leaving env e).wrap (fun _ => .raise e) .raise id id) (fun f => by cases f <;> rfl) (fun e => by rw [Sem.bind_eq_wrap, Sem.wrap_wrap]; rfl)]
  exact h
theorem s1_For {tg iter : Expr} {body orelse : List Stmt} {pos : Pos}
    (h : wpAny (model prog w) (A.over c fs) (eval iter env) (fun x s₁ => wpAny (model prog w) (A.over c fs) (pyIter x) (fun it s₂ =>
      ∀ p, S1 (model prog w) A Φ (.forLoop tg it body orelse env) ((model prog w).den (.forLoop tg it body orelse env)) (.ret (backK env K J gd lv) none (gd false) (lv []) c p [] :: fs) s₂) nov s₁) nov s)
    (hs : ∀ x, foldedSetIterable iter env x = pure x) :
    S1 (model prog w) A Φ c ((exec (.For tg iter body orelse pos) env).wrap K J gd lv) fs s := by
  rw [exec_For]
  refine s1_bind (wpAny_standAt ?_)
  refine s1_bind (wpAny_mono h (fun x s₁ h₁ => ?_) fun _ _ z => z)
  refine s1_bind (wpAny_of_eq (hs x) ?_)
  refine s1_bind (wpAny_standAt ?_)
  refine s1_bind (wpAny_holding (wpAny_mono h₁ (fun it s₂ h₂ => ?_) fun _ _ z => z))
  exact s1_call h₂
theorem s1_forLoop {tg : Expr} {it : Value} {body : List Stmt}
    (h : wpAny (model prog w) (A.over (.forLoop tg it body [] env) fs) (pyNext it) (fun r s₁ => match r with
      | none => S1 (model prog w) A Φ (.block [] env) (.pure (.done .next)) fs s₁
      | some v => wpAny (model prog w) (A.over (.forLoop tg it body [] env) fs) (letOwnedTupleGo tg it v) (fun _ s₂ => wpAny (model prog w) (A.over (.forLoop tg it body [] env) fs) (assign tg env v) (fun _ s₃ =>
          S1 (model prog w) A Φ (.forLoop tg it body [] env) ((execs body env).wrap (fun f => match f with
            | .next | .cont => .pure (.again (.forLoop tg it body [] env))
            | .brk => .pure (.done .next)
            | .ret v => .pure (.done (.ret v))) (outJ env) id id) fs s₃) nov s₂) nov s₁) nov s) :
    S1 (model prog w) A Φ (.forLoop tg it body [] env) ((model prog w).den (.forLoop tg it body [] env)) fs s := by
  show S1 _ A Φ _ ((forTurn tg it body [] env).onRaise (fun x => do noteFrame x env; theTreesLotGoes x)) fs s
  unfold forTurn
  rw [Sem.onRaise_eq_wrap]
  refine s1_bind (wpAny_standAt ?_)
  refine s1_bind (wpAny_onRaise (wpAny_mono h (fun r s₁ h₁ => ?_) fun _ _ z => z.elim))
  cases r with
  | none =>
    show S1 _ A Φ _ (.pure (.again (.block [] env))) fs s₁
    exact s1_again rfl h₁
  | some v =>
    refine s1_bind (wpAny_mono h₁ (fun _ s₂ h₂ => ?_) fun _ _ z => z)
    refine s1_bind (wpAny_mono h₂ (fun _ s₃ h₃ => ?_) fun _ _ z => z)
    rw [Sem.bind_eq_wrap', Sem.wrap_wrap]
    rw [Sem.wrap_congr (execs body env) _ _ (K' := fun f => match f with
            | .next | .cont => .pure (.again (.forLoop tg it body [] env))
            | .brk => .pure (.done .next)
            | .ret v => .pure (.done (.ret v))) (H' := outJ env)
        (fun f => by cases f <;> rfl)
        (fun e => by first | exact Sem.bind_eq_wrap _ _ | (show (do noteFrame e env; theTreesLotGoes e : Sem Unit).bind (fun _ => .raise e) = _; rw [Sem.bind_eq_wrap]; rfl) | rfl)]
    exact h₃
end
/-! ### waking it -/
def Goes1 (M : Model) (A : Around) (Φ : End → Shared → Prop) (r : Resume) (s : Shared) : GenState → Prop
  | .fresh c => r = .send .none ∧ S1 M A Φ c (M.den c) [] s
  | .suspended k _ c _ fs _ => S1 M A Φ c (k r) fs s
  | _ => False
section
variable {M : Model}
theorem resume1 {A : Around} {Φ : End → Shared → Prop} {E : Value → Shared → Prop} {s : Shared} {g : Nat} {gs : GenState} {r : Resume} {l : List Value} {α : Type} {k : GenResult → Sem α} {Q : α → Shared → Prop} (hg : s.gens[g]? = some gs)
    (hgo : Goes1 M A Φ r (s.setGen g .running) gs)
    (hq : ∀ e s₁, Φ e s₁ → e.quiet = true ∧ wpAny M A (k e.result) Q E (s₁.setGen g e.genState)) :
    wpAny M A (.resume g r l k) Q E s := by
  intro Γ p hΓ
  rw [Sem.wp_resume]
  cases gs with
  | fresh c =>
    obtain ⟨rfl, hs⟩ := hgo
    obtain ⟨e₁, s₁, hr, he⟩ := hs (Γ.wake c p) p rfl (hΓ.wake c p)
    obtain ⟨q, f⟩ := hq e₁ s₁ he
    exact ⟨_, _, by unfold Wakes; rw [hg]; exact ⟨e₁, s₁, hr, q, rfl, rfl⟩, f Γ p hΓ⟩
  | suspended k₀ l₀ c₀ p₀ fs₀ cl =>
    obtain ⟨e₁, s₁, hr, he⟩ := hgo (Γ.wake c₀ p) p₀ rfl (hΓ.wake c₀ p)
    obtain ⟨q, f⟩ := hq e₁ s₁ he
    exact ⟨_, _, by unfold Wakes; rw [hg]; exact ⟨e₁, s₁, hr, q, rfl, rfl⟩, f Γ p hΓ⟩
  | running => exact hgo.elim
  | finished => exact hgo.elim
end
section
variable {P : Program} {w : World} {A : Around} {E : Value → Shared → Prop} {s : Shared}
/-- next(g): an item -/
theorem next_item {a : Addr} {g : Nat} {gs : GenState} {Φ : End → Shared → Prop} {Q : Option Value → Shared → Prop}
    (hl : s.heap.NoLimit) (hroom : A.depth < recursionLimit) (hg : s.heap.IsGen a g) (hgs : s.gens[g]? = some gs) (hgo : Goes1 (model P w) A.in1 Φ (.send .none) (s.setGen g .running) gs)
    (hY : ∀ e s₁, Φ e s₁ → ∃ v gd l k c p fs, e = .susp v gd l k c p fs ∧ e.quiet = true ∧ Q (some v) (s₁.setGen g e.genState)) :
    wpAny (model P w) A (pyNext (.ref a)) Q E s := by
  unfold pyNext
  refine wpAny_bind (wpAny_attempt (wpAny_callSpecial?_slot (name := Str.ofString "__next__") hg.typeIs slot_gen_next
    (wpAny_call_entry slot_gen_next hg.typeIs entry_gen_next ?_ (args_gen_next _))))
  show wpAny _ A.in1 (Builtin.Generator.genWake (.ref a) (.send .none)) _ _ s
  unfold Builtin.Generator.genWake
  refine wpAny_bind (wpAny_holding (wpAny_genNumber hg (wpAny_bind (wpAny_genState hgs ?_))))
  cases gs with
  | running => exact hgo.elim
  | finished => exact hgo.elim
  | _ =>
    refine wpAny_bind (wpAny_roomToWake hl hroom ?_)
    show wpAny _ A.in1 (.resume g (.send .none) [] _) _ _ s
    refine resume1 hgs hgo fun e s₁ he => ?_
    obtain ⟨v, gd, l, k, c, p, fs, rfl, q, hq⟩ := hY e s₁ he
    exact ⟨q, wpAny_pure ⟨v, rfl, wpAny_pure hq⟩⟩
/-- next(g): the end -/
theorem next_end {a : Addr} {g : Nat} {gs : GenState} {Φ : End → Shared → Prop} {Q : Option Value → Shared → Prop} (hh : A.handled = none)
    (hl : s.heap.NoLimit) (hroom : A.depth < recursionLimit) (hg : s.heap.IsGen a g) (hgs : s.gens[g]? = some gs) (hgo : Goes1 (model P w) A.in1 Φ (.send .none) (s.setGen g .running) gs)
    (hY : ∀ e s₁, Φ e s₁ → (e = .ret (.ok (.ret .none)) ∨ e = .ret (.ok .next)) ∧ ∀ h', (∀ b o, s₁.heap.get? b = some o → h'.get? b = some o) → Q none { s₁.setGen g .finished with heap := h' }) :
    wpAny (model P w) A (pyNext (.ref a)) Q E s := by
  unfold pyNext
  refine wpAny_bind (wpAny_attempt (wpAny_callSpecial?_slot (name := Str.ofString "__next__") hg.typeIs slot_gen_next
    (wpAny_call_entry slot_gen_next hg.typeIs entry_gen_next ?_ (args_gen_next _))))
  show wpAny _ A.in1 (Builtin.Generator.genWake (.ref a) (.send .none)) _ _ s
  unfold Builtin.Generator.genWake
  refine wpAny_bind (wpAny_holding (wpAny_genNumber hg (wpAny_bind (wpAny_genState hgs ?_))))
  cases gs with
  | running => exact hgo.elim
  | finished => exact hgo.elim
  | _ =>
    refine wpAny_bind (wpAny_roomToWake hl hroom ?_)
    show wpAny _ A.in1 (.resume g (.send .none) [] _) _ _ s
    refine resume1 hgs hgo fun e s₁ he => ?_
    obtain ⟨hr, hP⟩ := hY e s₁ he
    have hres : e.result = .returned .none ∧ e.quiet = true ∧ e.genState = .finished := by rcases hr with rfl | rfl <;> exact ⟨rfl, rfl, rfl⟩
    refine ⟨hres.2.1, ?_⟩
    rw [hres.2.2]
    first | rw [hres.1] | simp only [hres.1]
    show wpAny _ A.in1 (newExc (.type "StopIteration") [] >>= _) _ _ _
    refine wpAny_bind ?_
    simp only [newExc, newTuple]
    refine wpAny_bind (wpAny_newObj_type ?_ (by size_fits))
    refine wpAny_bind (m := firstArgMember _ _) (wpAny_of_eq (a := Value.none) (by first | rfl | (simp only [firstArgMember]; rfl)) ?_)
    refine wpAny_newObj_type ?_ (by size_fits)
    simp only [raiseNew]
    refine wpAny_bind (wpAny_bind (wpAny_handled ?_))
    first | rw [show A.in1.handled = none from hh] | rw [hh]
    refine wpAny_throw ?_
    refine wpAny_bind (wpAny_isInstance (T := "StopIteration") (b := true) ⟨_, Heap.get?_push_size _ rfl, rfl⟩ isSubtype_stop ?_)
    exact wpAny_pure (hP _ fun b o hb => Heap.get?_push_of_some _ (Heap.get?_push_of_some _ hb))
end
end GV
set_option maxHeartbeats 4000000
/-! GN7: a generator's code at work: its context anew at each waking. -/
namespace GV
open PySem L2 PySem.Spec PyProof.Rows
/-! ### the heap as far as n -/
def truncH (n : Nat) (h : Heap) : Heap := { h with objs := h.objs.extract 0 n }
theorem trunc_get {n : Nat} {h : Heap} {b : Addr} (hb : b < n) : (truncH n h).get? b = h.get? b := by
  have e : (truncH n h).objs[b]? = h.objs[b]? := by
    show (h.objs.extract 0 n)[b]? = _
    rw [Array.getElem?_extract, Nat.zero_add, Nat.sub_zero]
    by_cases hs : b < h.objs.size
    · rw [if_pos (Nat.lt_min.mpr ⟨hb, hs⟩)]
    · rw [if_neg (fun z => hs (Nat.lt_min.mp z).2), Array.getElem?_eq_none (Nat.le_of_not_lt hs)]
  unfold Heap.get?
  rw [e]
theorem trunc_size (n : Nat) (h : Heap) : (truncH n h).objs.size ≤ n := by
  show (h.objs.extract 0 n).size ≤ n
  simp only [Array.size_extract]
  omega
theorem trunc_lt {n : Nat} {h : Heap} {b : Addr} {o : Obj} (e : (truncH n h).get? b = some o) : b < n := Nat.lt_of_lt_of_le (Heap.lt_size e) (trunc_size n h)
theorem trunc_of {n : Nat} {h : Heap} {b : Addr} {o : Obj} (e : (truncH n h).get? b = some o) : b < n ∧ h.get? b = some o := ⟨trunc_lt e, by rw [← trunc_get (trunc_lt e)]; exact e⟩
theorem frames_trunc {n : Nat} {h base : Heap} : ∀ {l : List Env}, (∀ b ∈ frs l, b < n) → h.FunFrames base l → (truncH n h).FunFrames base l
  | [], _, _ => trivial
  | env :: r, hb, ⟨hk, ⟨L, o, hf, hn, ho, hd⟩, hr⟩ => by
    have e : frs (env :: r) = L :: frs r := by
      unfold frs
      rw [List.filterMap_cons, hf]
    rw [e] at hb
    exact ⟨hk, ⟨L, o, hf, hn, by rw [trunc_get (hb L (List.mem_cons_self ..))]; exact ho, hd⟩, frames_trunc (fun b q => hb b (List.mem_cons_of_mem _ q)) hr⟩
/-! ### a generator: its def, where it was made -/
structure GP where
  P : Program
  w : World
  K : PySem.W.Frag
  mg : Str → Option Value
  base : Heap
  N : List Str
  qual : Str
  scope : Scope
  f : Addr
  cdv : Value
  Aw : Around
  outer : List Env
  n0 : Nat
  a : Addr
  go : Obj
  os0 : OsState
def GP.env (G : GP) : Env := envOfC G.qual G.scope G.n0 G.f G.cdv
def GP.cx (G : GP) (H0 : Hp) (s0 : Shared) : Cx where
  prog := G.P
  w := G.w
  K := G.K
  mg := G.mg
  base := G.base
  A := G.Aw.deeper G.env
  N := G.N
  s_0 := { s0 with heap := truncH G.n0 s0.heap }
  H_0 := H0
  env := G.env
  outer := G.outer
  stack := G.env :: G.outer
  ex := []
  calm := true
  fn := fun _ => true
  pn := [(G.a, G.go)]
  xe := nov
structure GP.Ok (G : GP) : Prop where
  mod : Mod G.K G.mg G.base
  kind : G.scope.kind = .function
  frames : G.Aw.frames = some G.outer
  hd : G.Aw.handled = none
  inj : ∀ x y c, G.env.cells.lookup x = some c → G.env.cells.lookup y = some c → x = y
  has : ∀ x, (G.env.kindOf x = some .cell ∨ G.env.kindOf x = some .free) → ∃ c, G.env.cells.lookup x = some c
  cab : ∀ x c, G.env.cells.lookup x = some c → G.n0 < c
  bsz : G.base.objs.size ≤ G.n0
  fr : ∀ b ∈ frs G.outer, b < G.n0
  frb : ∀ b ∈ frs G.outer, G.base.get? b = none
  a0 : G.n0 < G.a
  ac : ∀ x c, G.env.cells.lookup x = some c → c ≠ G.a
  goc : ∀ v, G.go.data ≠ .cell v
def GP.pv0 (G : GP) : List Addr := G.n0 :: (G.env.cells.filterMap (fun p => G.env.cells.lookup p.1) ++ [G.a])
theorem GP.in_cell {G : GP} {x : Str} {c : Addr} (h : G.env.cells.lookup x = some c) : c ∈ G.pv0 := List.mem_cons_of_mem _ (List.mem_append_left _ (List.mem_filterMap.mpr ⟨(x, c), PySem.mem_of_lookup h, h⟩))
theorem GP.in_L {G : GP} : G.n0 ∈ G.pv0 := List.mem_cons_self ..
theorem GP.in_a {G : GP} : G.a ∈ G.pv0 := List.mem_cons_of_mem _ (List.mem_append_right _ (List.mem_singleton.mpr rfl))
/-- all else, locked -/
def GP.allH (G : GP) (pv : List Addr) (s0 : Shared) : Hp := fun b => if G.n0 ≤ b ∧ b ∉ pv then (s0.heap.get? b).map fun o => .frz o (.own 0) else none
theorem GP.allH_lt {G : GP} {pv : List Addr} {s0 : Shared} {b : Addr} (h : b < G.n0) : G.allH pv s0 b = none := by
  unfold GP.allH
  rw [if_neg (fun z => absurd h (Nat.not_lt.mpr z.1))]
theorem GP.allH_in {G : GP} {pv : List Addr} {s0 : Shared} {b : Addr} (h : b ∈ pv) : G.allH pv s0 b = none := by
  unfold GP.allH
  rw [if_neg (fun z => z.2 h)]
theorem GP.allH_out {G : GP} {pv : List Addr} {s0 : Shared} {b : Addr} {o : Obj} (h : G.n0 ≤ b) (hb : b ∉ pv) (e : s0.heap.get? b = some o) : G.allH pv s0 b = some (.frz o (.own 0)) := by
  unfold GP.allH
  rw [if_pos ⟨h, hb⟩, e]
  rfl
theorem GP.allH_some {G : GP} {pv : List Addr} {s0 : Shared} {b : Addr} {u : HO} (e : G.allH pv s0 b = some u) : G.n0 ≤ b ∧ b ∉ pv ∧ ∃ o, s0.heap.get? b = some o ∧ u = .frz o (.own 0) := by
  unfold GP.allH at e
  split at e
  · rename_i h
    obtain ⟨o, h1, h2⟩ := Option.map_eq_some_iff.mp e
    exact ⟨h.1, h.2, o, h1, h2.symm⟩
  · cases e
/-- a state in which it may be woken -/
structure GoodW (G : GP) (s : Shared) : Prop where
  os : s.os = G.os0
  bare : AllBare s.gens
  base : ∀ b o, G.base.get? b = some o → s.heap.get? b = some o
  frames : s.heap.FunFrames G.base G.outer
/-- its names, its cells -/
structure LocAt (G : GP) (σ : L2.St) (h : Heap) : Prop where
  loc : ∃ m, h.Ns G.n0 m ∧ ∀ (i : Nat) (x : Str) (v : V), G.N[i]? = some x → σ[i]? = some (some v) → Vis G.scope x → ∃ u, RelV v u ∧ Look G.env h m x u
  cell : ∀ x c, G.env.cells.lookup x = some c → ∃ v, h.IsCell c v
  me : h.get? G.a = some G.go
section
variable {G : GP} {pv fp : List Addr} {σ σ' : L2.St} {H : Hp} {s s0 s' : Shared} {pins : List (Addr × Obj)}
theorem LocAt.keep {h h' : Heap} (x : LocAt G σ h) (hp : ∀ b ∈ G.pv0, b ∈ pv) (k : ∀ b ∈ pv, ∀ o, h.get? b = some o → h'.get? b = some o) : LocAt G σ h' := by
  have ck : ∀ y c, G.env.cells.lookup y = some c → ∀ v, h.IsCell c v → h'.IsCell c v := fun y c e v ⟨o, ho, hd⟩ => ⟨o, k c (hp c (GP.in_cell e)) o ho, hd⟩
  refine ⟨?_, fun y c e => ?_, k _ (hp _ GP.in_a) _ x.me⟩
  · obtain ⟨m, ⟨o, es, ep, ho, r⟩, hl⟩ := x.loc
    refine ⟨m, ⟨o, es, ep, k _ (hp _ GP.in_L) o ho, r⟩, fun i y v h1 h2 h3 => ?_⟩
    obtain ⟨u, ru, lk⟩ := hl i y v h1 h2 h3
    refine ⟨u, ru, ?_⟩
    rcases lk with l | ⟨q, c, e, z⟩
    · exact .inl l
    · exact .inr ⟨q, c, e, ck y c e _ z⟩
  · obtain ⟨v, z⟩ := x.cell y c e
    exact ⟨v, ck y c e v z⟩
theorem LocAt.of (I : Inv (G.cx H s0) pins σ' H' s) (hs : ∀ (i : Nat) (v : V), σ[i]? = some (some v) → σ'[i]? = some (some v)) : LocAt G σ s.heap := by
  refine ⟨?_, I.cell, (I.pin (G.a, G.go) (List.mem_append_left _ (List.mem_singleton.mpr rfl))).1⟩
  obtain ⟨m, hn, hl⟩ := I.loc
  exact ⟨m, hn, fun i x v h1 h2 h3 => hl i x v h1 (hs i v h2) h3⟩
/-- woken: the context of this stretch -/
theorem inv_wake (ok : G.Ok) (W : GoodW G s) (L : LocAt G σ s.heap) (hl : σ.length = G.N.length) (hp : ∀ b ∈ G.pv0, b ∈ pv) : Inv (G.cx (G.allH pv s) s) [] σ (G.allH pv s) s := by
  have nL : G.allH pv s G.n0 = none := GP.allH_in (hp _ GP.in_L)
  refine ⟨⟨ok.mod, ok.kind, rfl, rfl, trunc_size _ _, ok.inj, ok.has, fun x c _ e => Nat.le_trans (trunc_size _ _) (Nat.le_of_lt (ok.cab x c e)), fun _ => ok.hd, Around.frames_deeper ok.frames, .inr ⟨rfl, rfl⟩, fun b z => absurd (show b ∈ ([] : List Addr) from z) (by simp), fun b o e => ?_, ?_, fun b o e z => absurd (show b ∈ ([] : List Addr) from z) (by simp), fun b z => absurd (show b ∈ ([] : List Addr) from z) (by simp), frames_trunc ok.fr W.frames, fun b hb => GP.allH_lt (ok.fr b hb)⟩,
    rfl, W.bare, ⟨fun b o e n _ _ => (trunc_of e).2, fun b o e n _ _ => ⟨o.slots, (trunc_of e).2⟩, fun b o e n _ => n, fun b o e _ => ⟨o, (trunc_of e).2⟩, fun _ _ e => e, fun _ _ _ e => e, fun b ps e => ⟨#[], by have e' : G.allH pv s b = some (.tbl ps) := e; rw [e']; simp⟩⟩, L.loc, L.cell, nL, fun x c e => GP.allH_in (hp c (GP.in_cell e)), fun p hq => ?_, fun b u e => ?_, hl⟩
  · have lt : b < G.n0 := Nat.lt_of_lt_of_le (Heap.lt_size e) ok.bsz
    exact ⟨by show (truncH G.n0 s.heap).get? b = some o; rw [trunc_get lt]; exact W.base b o e, GP.allH_lt lt⟩
  · show G.base.objs.size ≤ (truncH G.n0 s.heap).objs.size
    have := L.loc
    obtain ⟨m, hn, _⟩ := this
    have h1 : G.n0 < s.heap.objs.size := hn.lt
    have h2 := ok.bsz
    show _ ≤ (s.heap.objs.extract 0 G.n0).size
    rw [Array.size_extract, Nat.sub_zero, Nat.min_eq_left (Nat.le_of_lt h1)]
    exact h2
  · have e : p = (G.a, G.go) := by
      rcases List.mem_append.mp hq with z | z
      · exact List.mem_singleton.mp z
      · cases z
    subst e
    exact ⟨L.me, GP.allH_in (hp _ GP.in_a), Nat.ne_of_gt ok.a0, fun z => absurd (ok.fr _ z) (Nat.not_lt.mpr (Nat.le_of_lt ok.a0)), ok.goc⟩
  · obtain ⟨_, _, o, ho, rfl⟩ := GP.allH_some e
    exact ⟨ho, o, ho⟩
/-- what else there was stands -/
def KeepG (G : GP) (pv : List Addr) (s0 s : Shared) : Prop := ∀ b o, s0.heap.get? b = some o → b ∉ pv → ∃ sl, s.heap.get? b = some { o with slots := sl } ∧ (b ∉ frs G.outer → s.heap.get? b = some o)
theorem keep_of (I : Inv (G.cx (G.allH pv s0) s0) pins σ H s) : KeepG G pv s0 s := fun b o e hb => by
  by_cases lt : b < G.n0
  · have e1 : (truncH G.n0 s0.heap).get? b = some o := by rw [trunc_get lt]; exact e
    obtain ⟨sl, q⟩ := I.base.any (b := b) e1 (GP.allH_lt lt) (by simp [GP.cx])
    exact ⟨sl, q, fun hf => I.base.keep b o e1 (GP.allH_lt lt) hf (by simp [GP.cx])⟩
  · have e1 := I.base.frzs b o _ (GP.allH_out (Nat.le_of_not_lt lt) hb e)
    have e2 := (I.hok b _ e1).1
    exact ⟨o.slots, e2, fun _ => e2⟩
/-- its new tuples stand at new places -/
theorem fresh_of (ok : G.Ok) (I : Inv (G.cx (G.allH pv s0) s0) pins σ H s) (hp : ∀ b ∈ pv, b ∈ G.pv0 ∨ H b = none) {b : Addr} {xs : List V} (e : H b = some (.tup xs)) : s0.heap.get? b = none := by
  cases q : s0.heap.get? b with
  | none => rfl
  | some o =>
    exfalso
    by_cases lt : b < G.n0
    · have e1 : (truncH G.n0 s0.heap).get? b = some o := by rw [trunc_get lt]; exact q
      have := I.base.free b o e1 (GP.allH_lt lt) (by simp [GP.cx])
      rw [this] at e
      cases e
    · by_cases hb : b ∈ pv
      · rcases hp b hb with h | h
        · have h : b = G.n0 ∨ b ∈ G.env.cells.filterMap (fun p => G.env.cells.lookup p.1) ++ [G.a] := List.mem_cons.mp h
          rcases h with h | h
          · have := I.free
            rw [h] at e
            have e' : H (G.cx (G.allH pv s0) s0).env.locals = some (.tup xs) := e
            rw [this] at e'
            cases e'
          · rcases List.mem_append.mp h with h | h
            · obtain ⟨⟨x, c⟩, hc, h1⟩ := List.mem_filterMap.mp h
              have := I.freeC x b h1
              rw [this] at e
              cases e
            · have e2 : b = G.a := List.mem_singleton.mp h
              subst e2
              have := (I.pin (G.a, G.go) (List.mem_append_left _ (List.mem_singleton.mpr rfl))).2.1
              rw [this] at e
              cases e
        · rw [h] at e; cases e
      · have e1 := I.base.frzs b o _ (GP.allH_out (Nat.le_of_not_lt lt) hb q)
        rw [e1] at e
        cases e
end
end GV
set_option maxHeartbeats 4000000
/-! GN8: for x in range(..): .. ; yield e — all its stretches. -/
namespace GV
open PySem L2 PySem.Spec PyProof.Rows
abbrev bodyY (bs : List Stmt) (e : Expr) (yp pos : Pos) : List Stmt := bs ++ [.Expr (.Yield (some e) yp) pos]
structure GSpec (G : GP) (tg iter : Expr) (bs : List Stmt) (e : Expr) (ta : TA) (tt : TG) (tb : TS) (te : TE) (σw : L2.St) (tot : Nat) (Yl : Nat → V → Hp → Prop) : Prop where
  hi : ∀ H0 s0, PI (G.cx H0 s0) tg iter (iRng1 ta)
  hg : ∀ H0 s0, PG (G.cx H0 s0) tg tt
  hb : ∀ H0 s0, PSs (G.cx H0 s0) bs tb
  he : ∀ H0 s0, PE (G.cx H0 s0) e te
  hs : ∀ x, foldedSetIterable iter G.env x = pure x
  co : G.env.scope.isCoroutine = false
  intr : interactive G.env = false
  start : ∀ H, ta σw H fun vs _ => vs = [.int (tot : Nat)]
  small : (tot : Int) < 2 ^ 62
  turn : ∀ j, j < tot → ∀ H, tt (.int ((j : Nat) : Int)) σw H fun σ2 H2 => tb { nx := fun σ3 H3 => (∀ (i : Nat) (v : V), σw[i]? = some (some v) → σ3[i]? = some (some v)) ∧ te σ3 H3 fun y H4 => Yl j y H4, rt := fun _ _ => False, bk := fun _ _ => False, ct := fun _ _ => False } σ2 H2
  ar : ∀ H (Q Q' : List V → Hp → Prop), (∀ vs H1, Q vs H1 → Q' vs H1) → ta σw H Q → ta σw H Q'
  len : σw.length = G.N.length
abbrev lcode (G : GP) (tg : Expr) (it : Addr) (bs : List Stmt) (e : Expr) (yp pos : Pos) : Code := .forLoop tg (.ref it) (bodyY bs e yp pos) [] G.env
section
variable {G : GP} {tg iter : Expr} {bs : List Stmt} {e : Expr} {ta : TA} {tt : TG} {tb : TS} {te : TE} {σw : L2.St} {tot : Nat} {Yl : Nat → V → Hp → Prop} {yp pos : Pos}
theorem turn1 (S : GSpec G tg iter bs e ta tt tb te σw tot Yl) {H0 : Hp} {s0 s : Shared} {fp : List Addr} {it : Addr} {tn : Nat → Heap → Prop} (T : Turn G.P G.w G.K tg (Itr 0 tot) fp it tn) {fs : List Frame} (hfs : splitAtGen fs = none)
    (hov : G.Aw.over (lcode G tg it bs e yp pos) fs = G.Aw.deeper G.env) {j : Nat} (hj : j < tot) {H : Hp} (I : Inv (G.cx H0 s0) [] σw H s) (hf : ∀ b ∈ fp, FpOk (G.cx H0 s0) [] H b) (st : tn j s.heap) {Φ : End → Shared → Prop}
    (hΦ : ∀ v y σ5 H5 s5 k l p, Inv (G.cx H0 s0) [] σ5 H5 s5 → RelV y v → Yl j y H5 → (∀ (i : Nat) (v : V), σw[i]? = some (some v) → σ5[i]? = some (some v)) → tn (j + 1) s5.heap → (∀ b ∈ fp, H5 b = none) →
      (∀ (Ψ : End → Shared → Prop) s'', S1 (model G.P G.w) G.Aw Ψ (lcode G tg it bs e yp pos) ((model G.P G.w).den (lcode G tg it bs e yp pos)) fs s'' → S1 (model G.P G.w) G.Aw Ψ (lcode G tg it bs e yp pos) (k (.send .none)) fs s'') → Φ (.susp v false l k (lcode G tg it bs e yp pos) p fs) s5) :
    S1 (model G.P G.w) G.Aw Φ (lcode G tg it bs e yp pos) ((model G.P G.w).den (lcode G tg it bs e yp pos)) fs s := by
  refine s1_forLoop ?_
  rw [hov]
  refine wpAny_mono (T.item (G.cx H0 s0) rfl rfl rfl rfl j [] s σw H nov I hf st hj) (fun r s1 h1 => ?_) fun _ _ z => z
  obtain ⟨u, rfl, h1⟩ := h1
  refine wpAny_mono h1 (fun _ s2 h2 => ?_) fun _ _ z => z
  obtain ⟨x, H', I2, rx, yl, st2, fn2⟩ := h2
  obtain ⟨rfl, rfl⟩ := yl
  have hf2 : ∀ b ∈ fp, FpOk (G.cx H0 s0) [] H' b := hf
  have I3 := I2.pinned hf2 (T.obj _ _ st2)
  have ex : (0 : Int) + ((j : Nat) : Int) = ((j : Nat) : Int) := Int.zero_add _
  rw [ex] at rx
  refine wpAny_mono ((S.hg H0 s0).run _ s2 σw H' (.int ((j : Nat) : Int)) u _ I3 rx (S.turn j hj H')) (fun _ s3 h3 => ?_) fun _ _ z => z
  obtain ⟨σ3, H3, I3b, q3⟩ := h3
  refine s1_app ?_
  refine s1_wrap0 ?_
  rw [hov]
  refine wpAny_mono ((S.hb H0 s0).run _ s3 σ3 H3 _ I3b q3) (fun f s4 h4 => ?_) fun _ _ z => z
  cases f with
  | brk => obtain ⟨_, _, _, z⟩ := h4; exact z.elim
  | cont => obtain ⟨_, _, _, z⟩ := h4; exact z.elim
  | ret u => obtain ⟨_, _, _, _, _, z⟩ := h4; exact z.elim
  | next =>
    obtain ⟨σ4, H4, I4, x4, q4⟩ := h4
    refine s1_cons ?_
    refine s1_Yield hfs rfl ?_ S.co S.intr
    rw [hov]
    refine wpAny_mono ((S.he H0 s0).run _ s4 σ4 H4 _ I4 q4) (fun v s5 h5 => ?_) fun _ _ z => z
    obtain ⟨y, H5, I5, ry, yl⟩ := h5
    intro k l p hk
    have st5 : tn (j + 1) s5.heap := T.keep _ _ _ st2 fun b hb o eo => (I5.pin (b, o) (List.mem_append_right _ (List.mem_append_right _ (mem_pinsAt hb eo)))).1
    refine hΦ v y σ4 H5 s5 k l p (Inv.unpinned I5) ry yl x4 st5 (fun b hb => ?_) fun Ψ s'' h => hk Ψ s'' ?_
    · obtain ⟨o, eo, _⟩ := T.obj _ _ st2 b hb
      exact (I5.pin (b, o) (List.mem_append_right _ (List.mem_append_right _ (mem_pinsAt hb eo)))).2.1
    · show S1 _ _ Ψ _ (.pure (.again (lcode G tg it bs e yp pos))) fs s''
      exact s1_again rfl h
/-- the frame under the loop -/
abbrev frame0 (G : GP) (K : Flow → Sem PySem.Fin) (J : Value → Sem PySem.Fin) (c : Code) (p : Pos) : Frame := .ret (backK G.env K J id id) none (id false) (id []) c p []
theorem end1 {H0 : Hp} {s0 s : Shared} {fp : List Addr} {it : Addr} {tn : Nat → Heap → Prop} (T : Turn G.P G.w G.K tg (Itr 0 tot) fp it tn) {K : Flow → Sem PySem.Fin} {J : Value → Sem PySem.Fin} {c : Code} {p : Pos}
    (hov : G.Aw.over (lcode G tg it bs e yp pos) [frame0 G K J c p] = G.Aw.deeper G.env) {H : Hp} (I : Inv (G.cx H0 s0) [] σw H s) (hf : ∀ b ∈ fp, FpOk (G.cx H0 s0) [] H b) (st : tn tot s.heap) {Φ : End → Shared → Prop}
    (hK : K .next = .pure (.done (.ret .none))) (hΦ : ∀ s5, Inv (G.cx H0 s0) [] σw H s5 → Φ (.ret (.ok (.ret .none))) s5) :
    S1 (model G.P G.w) G.Aw Φ (lcode G tg it bs e yp pos) ((model G.P G.w).den (lcode G tg it bs e yp pos)) [frame0 G K J c p] s := by
  refine s1_forLoop ?_
  rw [hov]
  refine wpAny_mono (T.done (G.cx H0 s0) rfl rfl rfl rfl tot [] s σw H nov I hf st (Nat.le_refl _)) (fun r s1 h1 => ?_) fun _ _ z => z
  obtain ⟨rfl, I1⟩ := h1
  refine s1_leaf (.ok .next) ?_
  show S1 _ _ Φ _ (K .next) [] s1
  rw [hK]
  exact s1_end (.ok (.ret .none)) (hΦ s1 I1)
/-! ### the chain of its stretches -/
structure GoodEnd (G : GP) (pv : List Addr) (s0 s : Shared) : Prop where
  keep : KeepG G pv s0 s
  os : s.os = G.os0
  bare : AllBare s.gens
def chain (G : GP) (Yl : Nat → V → Hp → Prop) (pv : List Addr) : Nat → Nat → Shared → End → Shared → Prop
  | 0, _, s0, e, s' => e = .ret (.ok (.ret .none)) ∧ GoodEnd G pv s0 s'
  | r + 1, j, s0, e, s' => ∃ v y l k c p fs H5, e = .susp v false l k c p fs ∧ e.quiet = true ∧ RelV y v ∧ Yl j y H5 ∧ HOk G.P G.w H5 s'.heap ∧ (∀ b xs, H5 b = some (.tup xs) → s0.heap.get? b = none) ∧ (∀ b ∈ pv, H5 b = none) ∧ GoodEnd G pv s0 s' ∧ (∀ b ∈ pv, ∃ o, s'.heap.get? b = some o) ∧
      s'.heap.get? G.a = some G.go ∧ ∀ s'', GoodW G s'' → (∀ b ∈ pv, ∀ o, s'.heap.get? b = some o → s''.heap.get? b = some o) → S1 (model G.P G.w) G.Aw (chain G Yl pv r (j + 1) s'') c (k (.send .none)) fs s''
/-- what is known of the walked thing's own objects -/
structure FpSt (G : GP) (fp : List Addr) : Prop where
  ge : ∀ b ∈ fp, G.n0 ≤ b
  nl : ∀ b ∈ fp, b ≠ G.n0
  nf : ∀ b ∈ fp, b ∉ frs G.outer
  nc : ∀ b ∈ fp, ∀ x c, G.env.cells.lookup x = some c → c ≠ b
  na : ∀ b ∈ fp, G.a ≠ b
theorem trunc_le {n : Nat} {h : Heap} {b : Addr} (hb : n ≤ b) : (truncH n h).objs.size ≤ b := Nat.le_trans (trunc_size n h) hb
theorem FpSt.ok {fp : List Addr} (h : FpSt G fp) {H0 H : Hp} {s0 : Shared} (hn : ∀ b ∈ fp, H b = none) : ∀ b ∈ fp, FpOk (G.cx H0 s0) [] H b := fun b hb => ⟨hn b hb, h.nl b hb, h.nf b hb, .inr (trunc_le (h.ge b hb)), h.nc b hb, fun p hp => by
  have e : p = (G.a, G.go) := by
    rcases List.mem_append.mp hp with z | z
    · exact List.mem_singleton.mp z
    · cases z
  subst e
  exact h.na b hb⟩
theorem held_all {pv : List Addr} {σ5 : L2.St} {H5 H0 : Hp} {s0 s5 : Shared} {pins : List (Addr × Obj)} {fp : List Addr} {it : Addr} {tn : Nat → Heap → Prop} {j : Nat} (T : Turn G.P G.w G.K tg (Itr 0 tot) fp it tn) (I5 : Inv (G.cx H0 s0) pins σ5 H5 s5) (st5 : tn j s5.heap) :
    ∀ b ∈ G.pv0 ++ fp, ∃ o, s5.heap.get? b = some o := fun b hb => by
  rcases List.mem_append.mp hb with hb | hb
  · have hb : b = G.n0 ∨ b ∈ G.env.cells.filterMap (fun p => G.env.cells.lookup p.1) ++ [G.a] := List.mem_cons.mp hb
    rcases hb with rfl | hb
    · obtain ⟨m, ⟨o, _, _, ho, _⟩, _⟩ := I5.loc
      exact ⟨o, ho⟩
    · rcases List.mem_append.mp hb with h | h
      · obtain ⟨⟨x, c⟩, hc, h1⟩ := List.mem_filterMap.mp h
        obtain ⟨v, o, ho, _⟩ := I5.cell x b h1
        exact ⟨o, ho⟩
      · rw [List.mem_singleton.mp h]
        exact ⟨_, (I5.pin (G.a, G.go) (List.mem_append_left _ (List.mem_singleton.mpr rfl))).1⟩
  · obtain ⟨o, ho, _⟩ := T.obj _ _ st5 b hb
    exact ⟨o, ho⟩
theorem none_all {σ5 : L2.St} {H5 H0 : Hp} {s0 s5 : Shared} {fp : List Addr} (I5 : Inv (G.cx H0 s0) [] σ5 H5 s5) (fn5 : ∀ b ∈ fp, H5 b = none) : ∀ b ∈ G.pv0 ++ fp, H5 b = none := fun b hb => by
  rcases List.mem_append.mp hb with hb | hb
  · have hb : b = G.n0 ∨ b ∈ G.env.cells.filterMap (fun p => G.env.cells.lookup p.1) ++ [G.a] := List.mem_cons.mp hb
    rcases hb with rfl | hb
    · exact I5.free
    · rcases List.mem_append.mp hb with h | h
      · obtain ⟨⟨x, c⟩, hc, h1⟩ := List.mem_filterMap.mp h
        exact I5.freeC x b h1
      · rw [List.mem_singleton.mp h]
        exact (I5.pin (G.a, G.go) (List.mem_append_left _ (List.mem_singleton.mpr rfl))).2.1
  · exact fn5 b hb
theorem top (ok : G.Ok) (S : GSpec G tg iter bs e ta tt tb te σw tot Yl) {fp : List Addr} {it : Addr} {tn : Nat → Heap → Prop} (T : Turn G.P G.w G.K tg (Itr 0 tot) fp it tn) (hF : FpSt G fp) {K : Flow → Sem PySem.Fin} {J : Value → Sem PySem.Fin} {c : Code} {p : Pos}
    (hov : G.Aw.over (lcode G tg it bs e yp pos) [frame0 G K J c p] = G.Aw.deeper G.env) (hK : K .next = .pure (.done (.ret .none))) :
    ∀ r j, j + r = tot → ∀ s, GoodW G s → LocAt G σw s.heap → tn j s.heap → S1 (model G.P G.w) G.Aw (chain G Yl (G.pv0 ++ fp) r j s) (lcode G tg it bs e yp pos) ((model G.P G.w).den (lcode G tg it bs e yp pos)) [frame0 G K J c p] s := by
  have inF : ∀ b ∈ fp, b ∈ G.pv0 ++ fp := fun b hb => List.mem_append_right _ hb
  have in0 : ∀ b ∈ G.pv0, b ∈ G.pv0 ++ fp := fun b hb => List.mem_append_left _ hb
  intro r
  induction r with
  | zero =>
    intro j hj s W L st
    have e : j = tot := by omega
    subst e
    have I := inv_wake ok W L S.len in0
    exact end1 T hov I (hF.ok fun b hb => GP.allH_in (inF b hb)) st hK fun s5 I5 => ⟨rfl, keep_of I5, I5.os.trans W.os, I5.bare⟩
  | succ r ih =>
    intro j hj s W L st
    have I := inv_wake ok W L S.len in0
    refine turn1 S T rfl hov (by omega) I (hF.ok fun b hb => GP.allH_in (inF b hb)) st fun v y σ5 H5 s5 k l p I5 ry yl x5 st5 fn5 hk => ?_
    refine ⟨v, y, l, k, _, p, _, H5, rfl, rfl, ry, yl, I5.hok, fun b xs eb => fresh_of ok I5 (fun b hb => ?_) eb, none_all I5 fn5, ⟨keep_of I5, I5.os.trans W.os, I5.bare⟩, held_all (pv := []) T I5 st5, (I5.pin (G.a, G.go) (List.mem_append_left _ (List.mem_singleton.mpr rfl))).1, fun s'' W'' hp => ?_⟩
    · rcases List.mem_append.mp hb with hb | hb
      · exact .inl hb
      · exact .inr (fn5 b hb)
    · have L5 : LocAt G σw s5.heap := LocAt.of I5 x5
      exact hk _ s'' (ih (j + 1) (by omega) s'' W'' (L5.keep in0 hp) (T.keep _ _ _ st5 fun b hb o eo => hp b (inF b hb) o eo))
/-- the first stretch -/
theorem first (ok : G.Ok) (S : GSpec G tg iter bs e ta tt tb te σw tot Yl) {fpos : Pos} {s : Shared} (W : GoodW G s) (L : LocAt G σw s.heap) :
    S1 (model G.P G.w) G.Aw (fun en s' => ∃ fp, FpSt G fp ∧ chain G Yl (G.pv0 ++ fp) tot 0 s en s' ∧ ∀ b ∈ fp, s.heap.get? b = none) (.func [.For tg iter (bodyY bs e yp pos) [] fpos] G.env) ((model G.P G.w).den (.func [.For tg iter (bodyY bs e yp pos) [] fpos] G.env)) [] s := by
  have I := inv_wake ok W L S.len (pv := G.pv0) fun b hb => hb
  refine s1_func ?_
  refine s1_cons ?_
  refine s1_For ?_ S.hs
  have ov0 : G.Aw.over (.func [.For tg iter (bodyY bs e yp pos) [] fpos] G.env) [] = G.Aw.deeper G.env := GenW.over_func
  rw [ov0]
  have st0 : iRng1 ta σw (G.allH G.pv0 s) fun J _ => J = Itr 0 tot := S.ar _ _ _ (fun vs H1 q => ⟨(tot : Nat), q, by omega, S.small, by simp⟩) (S.start _)
  refine wpAny_mono ((S.hi _ _).run [] s σw _ _ I st0) (fun x s1 h1 => ?_) fun _ _ z => z
  refine wpAny_mono h1 (fun itv s2 h2 => ?_) fun _ _ z => z
  obtain ⟨it, fp, tn, J, H', rfl, I2, T, st2, hf, rfl⟩ := h2
  have hov : ∀ K J p, G.Aw.over (lcode G tg it bs e yp pos) [frame0 G K J (.func [.For tg iter (bodyY bs e yp pos) [] fpos] G.env) p] = G.Aw.deeper G.env := fun K J p => (GenW.over_loop rfl rfl).trans ov0
  have sz : (truncH G.n0 s.heap).objs.size = G.n0 := by
    obtain ⟨m, hn, _⟩ := L.loc
    have h1 : G.n0 < s.heap.objs.size := hn.lt
    show (s.heap.objs.extract 0 G.n0).size = _
    rw [Array.size_extract, Nat.sub_zero, Nat.min_eq_left (Nat.le_of_lt h1)]
  have hF : FpSt G fp := by
    refine ⟨fun b hb => ?_, fun b hb => (hf b hb).2.1, fun b hb => (hf b hb).2.2.1, fun b hb => (hf b hb).2.2.2.2.1, fun b hb => (hf b hb).2.2.2.2.2 (G.a, G.go) (List.mem_append_left _ (List.mem_singleton.mpr rfl))⟩
    rcases (hf b hb).2.2.2.1 with z | z
    · exact absurd (show b ∈ ([] : List Addr) from z) (by simp)
    · have z' : (truncH G.n0 s.heap).objs.size ≤ b := z
      rw [sz] at z'
      exact z'
  have hnew : ∀ b ∈ fp, s.heap.get? b = none := fun b hb => by
    cases q : s.heap.get? b with
    | none => rfl
    | some o =>
      exfalso
      have hp : b ∉ G.pv0 := fun h => by
        have h : b = G.n0 ∨ b ∈ G.env.cells.filterMap (fun p => G.env.cells.lookup p.1) ++ [G.a] := List.mem_cons.mp h
        rcases h with h | h
        · exact hF.nl b hb h
        · rcases List.mem_append.mp h with h | h
          · obtain ⟨⟨x, c⟩, hc, h1⟩ := List.mem_filterMap.mp h
            exact hF.nc b hb x b h1 rfl
          · exact hF.na b hb (List.mem_singleton.mp h).symm
      have e1 := I2.base.frzs b o _ (GP.allH_out (hF.ge b hb) hp q)
      rw [(hf b hb).1] at e1
      cases e1
  have in0 : ∀ b ∈ G.pv0, b ∈ G.pv0 ++ fp := fun b hb => List.mem_append_left _ hb
  have inF : ∀ b ∈ fp, b ∈ G.pv0 ++ fp := fun b hb => List.mem_append_right _ hb
  have kp : ∀ {s5 : Shared}, KeepG G G.pv0 s s5 → KeepG G (G.pv0 ++ fp) s s5 := fun h b o e hb => h b o e fun z => hb (in0 b z)
  intro p
  cases htot : tot with
  | zero =>
    subst htot
    refine end1 T (hov _ _ p) I2 hf st2 rfl fun s5 I5 => ⟨fp, hF, ⟨rfl, kp (keep_of I5), I5.os.trans W.os, I5.bare⟩, hnew⟩
  | succ r =>
    subst htot
    refine turn1 S T rfl (hov _ _ p) (by omega) I2 hf st2 fun v y σ5 H5 s5 k l q I5 ry yl x5 st5 fn5 hk => ?_
    refine ⟨fp, hF, ⟨v, y, l, k, _, q, _, H5, rfl, rfl, ry, yl, I5.hok, fun b xs eb => fresh_of ok I5 (fun b hb => .inl hb) eb, none_all I5 fn5, ⟨kp (keep_of I5), I5.os.trans W.os, I5.bare⟩, held_all (pv := []) T I5 st5, (I5.pin (G.a, G.go) (List.mem_append_left _ (List.mem_singleton.mpr rfl))).1, fun s'' W'' hp => ?_⟩, hnew⟩
    have L5 : LocAt G σw s5.heap := LocAt.of I5 x5
    exact hk _ s'' (top ok S T hF (hov _ _ p) rfl r 1 (by omega) s'' W'' (L5.keep in0 hp) (T.keep _ _ _ st5 fun b hb o eo => hp b (inF b hb) o eo))
end
end GV
set_option maxHeartbeats 4000000
/-! GN9: a generator is made by a call. -/
namespace GV
open PySem L2 PySem.Spec PyProof.Rows CT
/-- what a call of a generator def gives -/
structure Made (G : GP) (g : Nat) (c0 : Code) (σw : L2.St) (tot : Nat) (Yl : Nat → V → Hp → Prop) (s s' : Shared) : Prop where
  ok : G.Ok
  n0 : G.n0 = s.heap.objs.size
  os0 : G.os0 = s.os
  gen : s'.gens[g]? = some (.fresh c0)
  isg : ∀ h : Heap, h.get? G.a = some G.go → h.IsGen G.a g
  loc : LocAt G σw s'.heap
  keep : ∀ b o, s.heap.get? b = some o → s'.heap.get? b = some o
  os : s'.os = s.os
  bare : AllBare s'.gens
  fst : ∀ s2, GoodW G s2 → LocAt G σw s2.heap → S1 (model G.P G.w) G.Aw (fun en s3 => ∃ fp, FpSt G fp ∧ chain G Yl (G.pv0 ++ fp) tot 0 s2 en s3 ∧ ∀ b ∈ fp, s2.heap.get? b = none) c0 ((model G.P G.w).den c0) [] s2
/-- a generator def's promise -/
structure GnG (P : Program) (w : World) (K : PySem.W.Frag) (mg : Str → Option Value) (base : Heap) (lev : Nat) (f : Addr) (fd : FuncData) (ps : List Str) (N : List Str) (Sp : List V → Nat → (Nat → V → Hp → Prop) → Prop) : Prop where
  len : ∀ vs tot Yl, Sp vs tot Yl → vs.length = ps.length
  run : ∀ (A : Around) (outer : List Env) (s : Shared) (H : Hp) (args : Args) (us : List Value) (vs : List V) (tot : Nat) (Yl : Nat → V → Hp → Prop), RoomG (lev + 1) A → Env0 P w K mg base A outer s H → BindsTo s fd args (ps.zip us) → Vals vs us → Sp vs tot Yl →
    codeAny (model P w) A (.call (.ref f) args) (fun r s' => ∃ G g c0, r = .ok (.ret (.ref G.a)) ∧ G.P = P ∧ G.w = w ∧ G.K = K ∧ G.mg = mg ∧ G.base = base ∧ G.Aw = A.in1 ∧ G.outer = outer ∧ Made G g c0 (L2.start N vs) tot Yl s s') s
theorem gn_of {P : Program} {w : World} {K : PySem.W.Frag} {mg : Str → Option Value} {base : Heap} {lev : Nat} {f : Addr} {name qual : Str} {params : Arguments} {tg iter e : Expr} {bs : List Stmt} {yp pos fpos : Pos} {scope : Scope} {dV kV doc pm cdv ct oc : Value} {an od : Option Addr}
    {osl : Array (Option Value)} {N ps : List Str} {Sp : List V → Nat → (Nat → V → Hp → Prop) → Prop} (lk : K.lookup f = some ⟨oc, od, .func (PySem.W.fnOf name qual params [.For tg iter (bodyY bs e yp pos) [] fpos] scope dV kV doc pm an cdv ct), osl⟩) (hcd : PySem.W.codeIn K cdv qual = true) (S : GScope N ps scope)
    (len : ∀ vs tot Yl, Sp vs tot Yl → vs.length = ps.length)
    (hbody : ∀ (G : GP) (vs : List V) (tot : Nat) (Yl : Nat → V → Hp → Prop), G.P = P → G.w = w → G.K = K → G.mg = mg → G.base = base → G.N = N → G.qual = qual → G.scope = scope → G.f = f → G.cdv = cdv → RoomG lev (G.Aw.deeper G.env) → Sp vs tot Yl →
      ∃ ta tt tb te, GSpec G tg iter bs e ta tt tb te (L2.start N vs) tot Yl) :
    GnG P w K mg base (lev + 1) f (PySem.W.fnOf name qual params [.For tg iter (bodyY bs e yp pos) [] fpos] scope dV kV doc pm an cdv ct) ps N Sp := by
  refine ⟨len, fun A outer s H args us vs tot Yl hr e0 hb r hsp => ?_⟩
  have hl := len _ _ _ hsp
  have KX : K.In s.heap := e0.mod.kin.keeps fun b o e => (e0.bs b o e).1
  have lim : s.heap.NoLimit := e0.mod.nolimit.keeps fun b o e => (e0.bs b o e).1
  have hkind : ∀ y ∈ ps.zip us, scope.names.lookup y.1 = some .local ∨ (scope.names.lookup y.1 = some .cell ∧ ((cellsFrom (s.heap.objs.size + 1) scope.names []).lookup y.1).isSome = true) := fun ⟨n, v⟩ hy => by
    rcases S.par n (List.of_mem_zip hy).1 with q | q
    · exact .inl q
    · exact .inr ⟨q, PySem.W.cellsFrom_some _ _ _ (.inl q)⟩
  refine codeAny_call_generator hr.room.depth (KX _ _ lk) rfl S.co S.gen rfl (PySem.W.codeRec_of KX hcd) (hb _ _ _ _ ?_)
  refine wpAny_newFunctionEnv_cells S.kind hkind fun env he s1 x => ?_
  subst he
  refine ⟨lim.keeps x.toInCall.keep, ?_⟩
  obtain ⟨h1, tk, es1, hk1⟩ := x.done
  have os1 : s1.os = s.os := by rw [es1]
  have gen1 : s1.gens = s.gens := by rw [es1]
  have lt1 : s.heap.objs.size < s1.heap.objs.size := x.toInCall.ns.lt
  have kp1 : ∀ b o, s.heap.get? b = some o → s1.heap.get? b = some o := x.toInCall.keep
  have I1 : Inv (gcxOf P w K mg base N qual scope f cdv A outer s H (fun _ _ _ => False) []) [] (L2.start N vs) H s1 := inv_startG S hr.room.hd e0 hl r x
  have main : ∀ (go : Obj) (nm qn : Value) (tk2 : Nat), go.cls = .type "generator" → go.data = .fields #[.int s1.gens.size 0, nm, qn] → go.slots = #[] → (∀ h : Heap, (h.push go).get? h.objs.size = some go) →
      Made ⟨P, w, K, mg, base, N, qual, scope, f, cdv, A.in1, outer, s.heap.objs.size, s1.heap.objs.size, go, s.os⟩ s1.gens.size (.func [.For tg iter (bodyY bs e yp pos) [] fpos] (envOfC qual scope s.heap.objs.size f cdv)) (L2.start N vs) tot Yl s { s1 with gens := s1.gens.push (.fresh (.func [.For tg iter (bodyY bs e yp pos) [] fpos] (envOfC qual scope s.heap.objs.size f cdv))), toks := tk2, heap := s1.heap.push go } := by
    intro go nm qn tk2 hgc hgd0 hgs hgp
    have kp2 : ∀ b o, s1.heap.get? b = some o → (s1.heap.push go).get? b = some o := fun b o e => Heap.get?_push_of_some _ e
    have ok : GP.Ok ⟨P, w, K, mg, base, N, qual, scope, f, cdv, A.in1, outer, s.heap.objs.size, s1.heap.objs.size, go, s.os⟩ := by
      refine ⟨e0.mod, S.kind, e0.frames, hr.room.hd, fun y z c h1 h2 => name_of_addr x.apart (PySem.mem_of_lookup h1) (PySem.mem_of_lookup h2), fun y hy => ?_, fun y c h => x.above y c (PySem.mem_of_lookup h), e0.bsz, fun b hb => ?_, fun b hb => (e0.funs.mem hb).1, lt1, fun y c h z => ?_, fun v q => ?_⟩
      · have hy : scope.names.lookup y = some .cell ∨ scope.names.lookup y = some .free := hy
        rcases hy with hy | hy
        · exact cell_has hy
        · exact absurd rfl (S.nofree _ (PySem.mem_of_lookup hy))
      · obtain ⟨_, o, ho, _⟩ := e0.funs.mem hb
        exact Heap.lt_size ho
      · obtain ⟨v, ob, ho, _⟩ := I1.cell y c h
        have := Heap.lt_size ho
        rw [z] at this
        exact absurd this (Nat.lt_irrefl _)
      · rw [hgd0] at q; cases q
    have la : LocAt ⟨P, w, K, mg, base, N, qual, scope, f, cdv, A.in1, outer, s.heap.objs.size, s1.heap.objs.size, go, s.os⟩ (L2.start N vs) (s1.heap.push go) := by
      refine ⟨?_, fun y c h => ?_, hgp _⟩
      · obtain ⟨m, ⟨o, es, ep, ho, rr⟩, hl⟩ := I1.loc
        refine ⟨m, ⟨o, es, ep, kp2 _ o ho, rr⟩, fun i y v h1 h2 h3 => ?_⟩
        obtain ⟨u, ru, lk⟩ := hl i y v h1 h2 h3
        refine ⟨u, ru, ?_⟩
        rcases lk with l | ⟨q, c, e, z⟩
        · exact .inl l
        · exact .inr ⟨q, c, e, z.keeps kp2⟩
      · obtain ⟨v, z⟩ := I1.cell y c h
        exact ⟨v, z.keeps kp2⟩
    obtain ⟨ta, tt, tb, te, sp⟩ := hbody ⟨P, w, K, mg, base, N, qual, scope, f, cdv, A.in1, outer, s.heap.objs.size, s1.heap.objs.size, go, s.os⟩ vs tot Yl rfl rfl rfl rfl rfl rfl rfl rfl rfl rfl ⟨hr.room.in1.deeper _, hr.gd⟩ hsp
    refine ⟨ok, rfl, rfl, Array.getElem?_push_size .., fun h e => ⟨go, nm, qn, e, hgc, hgd0, hgs⟩, la, fun b o e => kp2 b o (kp1 b o e), os1, ?_, fun s2 W L => first ok sp W L⟩
    exact AllBare.push (by rw [gen1]; exact e0.bare) rfl
  exact ⟨_, _, _, rfl, rfl, rfl, rfl, rfl, rfl, rfl, rfl, main _ _ _ _ rfl rfl rfl fun h => Heap.get?_push_size _ rfl⟩
end GV
set_option maxHeartbeats 4000000
/-! GN10: behind a generator's stretch: the consumer's state. -/
namespace GV
open PySem L2 PySem.Spec PyProof.Rows CT
theorem ob_there {P : Program} {w : World} {H : Hp} {h : Heap} {a : Addr} {o : HO} (x : ObjOk P w H h a o) : ∃ ob, h.get? a = some ob := by
  cases o with
  | lst xs => obtain ⟨_, _, _, _, e⟩ := x; exact ⟨_, e⟩
  | tup xs => obtain ⟨_, _, _, ob, e, _⟩ := x; exact ⟨_, e⟩
  | dK kvs => obtain ⟨_, _, _, _, o, _, _, e, _⟩ := x; exact ⟨_, e⟩
  | dT kvs => obtain ⟨_, _, _, _, o, _, _, e, _⟩ := x; exact ⟨_, e⟩
  | set S n => obtain ⟨o, _, _, _, e, _⟩ := x; exact ⟨_, e⟩
  | ins C dx fs => obtain ⟨_, _, _, e, _⟩ := x; exact ⟨_, e⟩
  | own y => exact x
  | xd fs => obtain ⟨_, ⟨_, _, _, e, _⟩, _⟩ := x; exact ⟨_, e⟩
  | rng lo hi => obtain ⟨_, _, _, e⟩ := x; exact ⟨_, e⟩
  | frz ob u => exact ⟨_, x.1⟩
  | tbl ps => exact ⟨_, (show h.get? a = some _ from x)⟩
  | met f y => exact ⟨_, (show h.get? a = some _ from x)⟩
  | ext φ => exact x.2.1
/-- what was tracked, and the new tuples -/
def landH (h : Heap) (H H5 : Hp) : Hp := fun b => match h.get? b with
  | some _ => H b
  | none => match H5 b with
    | some (.tup xs) => some (.tup xs)
    | _ => none
theorem land_some {h : Heap} {H H5 : Hp} {b : Addr} {o : Obj} (e : h.get? b = some o) : landH h H H5 b = H b := by unfold landH; rw [e]
theorem land_tup {h : Heap} {H H5 : Hp} {b : Addr} {xs : List V} (e : h.get? b = none) (q : H5 b = some (.tup xs)) : landH h H H5 b = some (.tup xs) := by
  unfold landH
  rw [e]
  simp only [q]
theorem land_new {h : Heap} {H H5 : Hp} {b : Addr} {u : HO} (e : h.get? b = none) (q : landH h H H5 b = some u) : ∃ xs, u = .tup xs ∧ H5 b = some (.tup xs) := by
  unfold landH at q
  rw [e] at q
  simp only at q
  split at q
  · rename_i xs hx
    cases q
    exact ⟨xs, rfl, hx⟩
  · cases q
section
variable {X : Cx} {G : GP} {pins : List (Addr × Obj)} {pv : List Addr} {σ : L2.St} {H H5 : Hp} {s s0 s1 s1' : Shared}
theorem land_ext (I : Inv X pins σ H s) {b : Addr} {u : HO} (e : H b = some u) : landH s.heap H H5 b = some u := by
  obtain ⟨o, ho⟩ := ob_there (I.hok b u e)
  rw [land_some ho]
  exact e
theorem un_of (I : Inv X pins σ H s) (hf0 : ∀ b ∈ pv, FpOk X pins H b) (e0 : s0.heap = s.heap) (eo : G.outer = X.stack) (K : GoodEnd G pv s0 s1) {h' : Heap} (kp : ∀ b o, s1.heap.get? b = some o → h'.get? b = some o) : L2.Un (frs X.stack) pv H (landH s.heap H H5) s.heap h' where
  keep := fun b o e n hb hx => by
    obtain ⟨sl, _, k⟩ := K.keep b o (by rw [e0]; exact e) hx
    exact kp b o (k (by rw [eo]; exact hb))
  slot := fun b o e n hb hx => by
    obtain ⟨sl, k, _⟩ := K.keep b o (by rw [e0]; exact e) hx
    exact ⟨sl, kp b _ k⟩
  free := fun b o e n hx => by rw [land_some e]; exact n
  there := fun b o e hx => by
    obtain ⟨sl, k, _⟩ := K.keep b o (by rw [e0]; exact e) hx
    exact ⟨_, kp b _ k⟩
  tups := fun b xs e => land_ext I e
  frzs := fun b o u e => land_ext I e
  tbls := fun b ps e => ⟨#[], by rw [land_ext I e]; simp⟩
theorem hok_of (I : Inv X pins σ H s) (hf0 : ∀ b ∈ pv, FpOk X pins H b) (e0 : s0.heap = s.heap) (eo : G.outer = X.stack) (K : GoodEnd G pv s0 s1) (h5 : HOk X.prog X.w H5 s1.heap) {h' : Heap} (kp : ∀ b o, s1.heap.get? b = some o → h'.get? b = some o) : HOk X.prog X.w (landH s.heap H H5) h' := fun b u e => by
  cases q : s.heap.get? b with
  | none =>
    obtain ⟨xs, rfl, hx⟩ := land_new q e
    obtain ⟨z, its, r, ob, ho, c⟩ := h5 b _ hx
    exact ⟨z, its, r, ob, kp b ob ho, c⟩
  | some o =>
    rw [land_some q] at e
    have trk : ∀ c u w, H c = some u → s.heap.get? c = some w → h'.get? c = some w := fun c u w hc hw => by
      have npv : c ∉ pv := fun z => by rw [(hf0 c z).1] at hc; cases hc
      have nfr : c ∉ frs X.stack := fun z => by rw [I.stkFree c z] at hc; cases hc
      obtain ⟨sl, _, k⟩ := K.keep c w (by rw [e0]; exact hw) npv
      exact kp c w (k (by rw [eo]; exact nfr))
    refine (I.hok b u e).stay (fun c w hc hw => ?_) (fun c hc => land_ext I hc) fun c xs hc => land_ext I hc
    rcases hc with rfl | hc
    · exact trk c u w e hw
    · exact trk c _ w hc hw
theorem shared_eta {a b : Shared} (o : b.os = a.os) : b = { a with heap := b.heap, gens := b.gens, drawn := b.drawn, toks := b.toks } := by
  obtain ⟨_, _, _, _, x⟩ := b
  obtain ⟨_, _, _, _, y⟩ := a
  have : x = y := o
  subst this
  rfl
/-- it lands -/
theorem land (I : Inv X pins σ H s) (hf0 : ∀ b ∈ pv, FpOk X pins H b) (e0 : s0.heap = s.heap) (eo : G.outer = X.stack) (os : G.os0 = X.s_0.os) (K : GoodEnd G pv s0 s1) (h5 : HOk X.prog X.w H5 s1.heap)
    (kp : ∀ b o, s1.heap.get? b = some o → s1'.heap.get? b = some o) (o1 : s1'.os = s1.os) (b1 : AllBare s1'.gens) : Inv X pins σ (landH s.heap H H5) s1' := by
  have osq : s1'.os = s.os := by rw [o1, K.os, os, I.os]
  rw [shared_eta osq]
  exact I.call (ch := pv) (un_of I hf0 e0 eo K kp) (hok_of I hf0 e0 eo K h5 kp) b1 fun b hb => ⟨(hf0 b hb).2.2.2.1, (hf0 b hb).2.1, (hf0 b hb).2.2.2.2.1, (hf0 b hb).2.2.2.2.2⟩
theorem land_fp (hf0 : ∀ b ∈ pv, FpOk X pins H b) (nn : ∀ b ∈ pv, H5 b = none) : ∀ b ∈ pv, FpOk X pins (landH s.heap H H5) b := fun b hb => by
  refine ⟨?_, (hf0 b hb).2⟩
  cases q : s.heap.get? b with
  | some o => rw [land_some q]; exact (hf0 b hb).1
  | none =>
    cases e : landH s.heap H H5 b with
    | none => rfl
    | some u =>
      obtain ⟨xs, _, hx⟩ := land_new q e
      rw [nn b hb] at hx
      cases hx
theorem good_of (I : Inv X pins σ H s) (eb : G.base = X.base) (eo : G.outer = X.stack) (os : G.os0 = X.s_0.os) : GoodW G s := ⟨by rw [os]; exact I.os, I.bare, fun b o e => I.bk b o (by rw [← eb]; exact e), by rw [eb, eo]; exact I.stack⟩
/-- a new object of the generator is none of the consumer's -/
theorem fp_new (I : Inv X pins σ H s) {b : Addr} (hb : X.s_0.heap.objs.size ≤ b) (e : s.heap.get? b = none) : FpOk X pins H b := by
  refine ⟨?_, fun z => ?_, fun z => ?_, .inr hb, fun x c hc z => ?_, fun p hp z => ?_⟩
  · cases q : H b with
    | none => rfl
    | some u =>
      obtain ⟨o, ho⟩ := ob_there (I.hok b u q)
      rw [e] at ho; cases ho
  · obtain ⟨m, ⟨o, _, _, ho, _⟩, _⟩ := I.loc
    rw [← z, e] at ho; cases ho
  · obtain ⟨_, o, ho, _⟩ := I.funs.mem z
    rw [e] at ho; cases ho
  · obtain ⟨v, o, ho, _⟩ := I.cell x c hc
    rw [z, e] at ho; cases ho
  · have := (I.pin p hp).1
    rw [z, e] at this; cases this
end
end GV
set_option maxHeartbeats 4000000
/-! GN11: a generator made by a call, walked by for. -/
namespace GV
open PySem L2 PySem.Spec PyProof.Rows CT
/-- what is handed out: its tuples are new -/
def Itg (tot : Nat) (Yl : Nat → V → Hp → Prop) : It :=
  ⟨fun i _ => i < tot, fun i H x H' => (∀ b o, H b = some o → H' b = some o) ∧ ∃ H5, Yl i x H5 ∧ ∀ b xs, H5 b = some (.tup xs) → H b = none ∧ H' b = some (.tup xs), fun i _ => i = tot⟩
def gSt (G : GP) (g : Nat) (c0 : Code) (σw : L2.St) (tot : Nat) (Yl : Nat → V → Hp → Prop) : Nat → List Addr → Shared → Prop
  | 0, pv, s => pv = G.pv0 ∧ s.gens[g]? = some (.fresh c0) ∧ LocAt G σw s.heap
  | i + 1, pv, s => (∃ fp, pv = G.pv0 ++ fp ∧ FpSt G fp) ∧ i + 1 ≤ tot ∧ (∀ b ∈ pv, ∃ o, s.heap.get? b = some o) ∧ s.heap.get? G.a = some G.go ∧
      ∃ k l c p fs cl, s.gens[g]? = some (.suspended k l c p fs cl) ∧ ∀ s'', GoodW G s'' → (∀ b ∈ pv, ∀ o, s.heap.get? b = some o → s''.heap.get? b = some o) → S1 (model G.P G.w) G.Aw (chain G Yl pv (tot - (i + 1)) (i + 1) s'') c (k (.send .none)) fs s''
section
variable {X : Cx} {G : GP} {g : Nat} {c0 : Code} {σw : L2.St} {tot : Nat} {Yl : Nat → V → Hp → Prop} {tg : Expr} {sc s' : Shared}
theorem loc_all {h : Heap} (L : LocAt G σw h) : ∀ b ∈ G.pv0, ∃ o, h.get? b = some o := fun b hb => by
  have hb : b = G.n0 ∨ b ∈ G.env.cells.filterMap (fun p => G.env.cells.lookup p.1) ++ [G.a] := List.mem_cons.mp hb
  rcases hb with rfl | hb
  · obtain ⟨m, ⟨o, _, _, ho, _⟩, _⟩ := L.loc
    exact ⟨o, ho⟩
  · rcases List.mem_append.mp hb with h | h
    · obtain ⟨⟨x, c⟩, hc, h1⟩ := List.mem_filterMap.mp h
      obtain ⟨v, o, ho, _⟩ := L.cell x b h1
      exact ⟨o, ho⟩
    · rw [List.mem_singleton.mp h]
      exact ⟨_, L.me⟩
theorem st_obj {i : Nat} {pv : List Addr} {s : Shared} (h : gSt G g c0 σw tot Yl i pv s) : ∀ b ∈ pv, ∃ o, s.heap.get? b = some o := by
  cases i with
  | zero =>
    obtain ⟨rfl, _, L⟩ := h
    exact loc_all L
  | succ i => exact h.2.2.1
theorem st_me {i : Nat} {pv : List Addr} {s : Shared} (h : gSt G g c0 σw tot Yl i pv s) : s.heap.get? G.a = some G.go := by
  cases i with
  | zero => exact h.2.2.me
  | succ i => exact h.2.2.2.1
/-- the state from which it goes on -/
theorem st_goes (M : Made G g c0 σw tot Yl sc s') {i : Nat} {pv : List Addr} {s : Shared} (h : gSt G g c0 σw tot Yl i pv s) (W : GoodW G (s.setGen g .running)) :
    ∃ gs, s.gens[g]? = some gs ∧ Goes1 (model G.P G.w) G.Aw (fun en s3 => ∃ fp, pv = G.pv0 ∧ i = 0 ∧ FpSt G fp ∧ chain G Yl (G.pv0 ++ fp) tot 0 (s.setGen g .running) en s3 ∧ (∀ b ∈ fp, s.heap.get? b = none) ∨ (∃ fp, pv = G.pv0 ++ fp ∧ FpSt G fp) ∧ 0 < i ∧ chain G Yl pv (tot - i) i (s.setGen g .running) en s3) (.send .none) (s.setGen g .running) gs := by
  cases i with
  | zero =>
    obtain ⟨rfl, e, L⟩ := h
    refine ⟨_, e, rfl, ?_⟩
    have f := M.fst (s.setGen g .running) W L
    intro Γ p hc hΓ
    obtain ⟨en, s3, r, fp, h1, h2, h3⟩ := f Γ p hc hΓ
    exact ⟨en, s3, r, fp, .inl ⟨rfl, rfl, h1, h2, h3⟩⟩
  | succ i =>
    obtain ⟨hp, hi, ho, me, k, l, c, p, fs, cl, e, go⟩ := h
    refine ⟨_, e, ?_⟩
    have f := go (s.setGen g .running) W fun b hb o eo => eo
    intro Γ p hc hΓ
    obtain ⟨en, s3, r, h1⟩ := f Γ p hc hΓ
    exact ⟨en, s3, r, [], .inr ⟨hp, Nat.succ_pos i, h1⟩⟩
theorem setRun_bare {s : Shared} (h : AllBare s.gens) : AllBare (s.setGen g .running).gens := allBare_setGen h rfl
theorem good_run {s : Shared} (W : GoodW G s) : GoodW G (s.setGen g .running) := ⟨W.os, setRun_bare W.bare, W.base, W.frames⟩
theorem gen_go {M : Model} {A : Around} {E : Value → Shared → Prop} {s : Shared} {u : Value} {Q : Unit → Shared → Prop} {a : Addr} (h : s.heap.IsGen a g) (hQ : Q () s) : wpAny M A (letOwnedTupleGo tg (.ref a) u) Q E s := by
  obtain ⟨o, nm, qn, ho, hc, hd, _⟩ := h
  exact go_of ho hc hd (by decide) hQ
theorem turn_gen (hh : X.A.handled = none) (hroom : X.A.depth < recursionLimit) (eP : G.P = X.prog) (ew : G.w = X.w) (eb : G.base = X.base) (eA : G.Aw = X.A.in1) (eo : G.outer = X.stack) (os : G.os0 = X.s_0.os) (n0 : X.s_0.heap.objs.size ≤ G.n0)
    (M : Made G g c0 σw tot Yl sc s') : TurnG X tg (Itg tot Yl) G.a g (gSt G g c0 σw tot Yl) where
  obj := fun h => st_obj h
  zzz := fun h => by
    obtain ⟨_, _, _, _, k, l, c, p, fs, cl, e, _⟩ := h
    exact ⟨_, rfl, e⟩
  keep := fun {i pv s s' pins σ H} h I hk hg => by
    obtain ⟨hp, hi, ho, me, k, l, c, p, fs, cl, e, go⟩ := h
    have inA : G.a ∈ pv := by
      obtain ⟨fp, rfl, _⟩ := hp
      exact List.mem_append_left _ GP.in_a
    refine ⟨hp, hi, fun b hb => ?_, hk _ inA _ me, k, l, c, p, fs, cl, by rw [hg]; exact e, fun s'' W hk2 => go s'' W fun b hb o eo => hk2 b hb o (hk b hb o eo)⟩
    obtain ⟨o, eo⟩ := ho b hb
    exact ⟨o, hk b hb o eo⟩
  item := fun {i pv pins s σ H} E I hf st hgo => by
    have hlt : i < tot := hgo
    have W : GoodW G s := good_of I eb eo os
    obtain ⟨gs, egs, goes⟩ := st_goes M st (good_run W)
    have me := st_me st
    have glt : g < s.gens.size := (Array.getElem?_eq_some_iff.mp egs).1
    rw [eP, ew, eA] at goes
    refine GenW.wpAny_gsz (n := g + 1) glt (next_item I.nolimit hroom (M.isg _ me) egs goes fun e s1 he => ?_)
    -- what the stretch says, in one form
    have both : ∃ pv', (∀ b ∈ pv', FpOk X pins H b) ∧ (∃ fp, pv' = G.pv0 ++ fp ∧ FpSt G fp) ∧ chain G Yl pv' (tot - i) i (s.setGen g .running) e s1 := by
      obtain ⟨fp, ⟨rfl, rfl, h1, h2, h3⟩ | ⟨hp, _, h2⟩⟩ := he
      · refine ⟨G.pv0 ++ fp, fun b hb => ?_, ⟨fp, rfl, h1⟩, h2⟩
        rcases List.mem_append.mp hb with hb | hb
        · exact hf b hb
        · exact fp_new I (Nat.le_trans n0 (h1.ge b hb)) (h3 b hb)
      · exact ⟨pv, hf, hp, h2⟩
    obtain ⟨pv', hf', hp', hch⟩ := both
    obtain ⟨r, hr⟩ : ∃ r, tot - i = r + 1 := ⟨tot - i - 1, by omega⟩
    rw [hr] at hch
    obtain ⟨v, y, l, k, c, p, fs, H5, rfl, q, ry, yl, h5, fr, nn, ge, ho, me1, go⟩ := hch
    refine ⟨v, false, l, k, c, p, fs, rfl, q, fun hsz => ⟨v, rfl, ?_⟩⟩
    rw [eP, ew] at h5
    have hsz1 : g < s1.gens.size := by
      have e : (s1.setGen g (End.susp v false l k c p fs).genState).gens.size = s1.gens.size := GenW.setGen_size _ _ _
      have hsz' : g + 1 ≤ (s1.setGen g (End.susp v false l k c p fs).genState).gens.size := hsz
      omega
    refine gen_go (M.isg _ me1) ⟨y, landH s.heap H H5, pv', ?_, ry, ⟨fun b o e => land_ext I e, H5, yl, fun b xs e => ?_⟩, ⟨hp', hlt, ho, me1, k, l, c, p, fs, _, setGen_at hsz1, fun s'' W'' hk => ?_⟩, land_fp hf' nn⟩
    · exact land (s0 := s.setGen g .running) I hf' rfl eo os ge h5 (fun b o e => e) rfl (allBare_setGen ge.bare (End.bare_of_quiet q))
    · have e0 : s.heap.get? b = none := fr b xs e
      refine ⟨?_, land_tup e0 e⟩
      cases qq : H b with
      | none => rfl
      | some u =>
        obtain ⟨o, ho⟩ := ob_there (I.hok b u qq)
        rw [e0] at ho; cases ho
    · have e : tot - (i + 1) = r := by omega
      rw [e]
      exact go s'' W'' hk
  done := fun {i pv pins s σ H} E I hf st hstop => by
    have he : i = tot := hstop
    have W : GoodW G s := good_of I eb eo os
    obtain ⟨gs, egs, goes⟩ := st_goes M st (good_run W)
    have me := st_me st
    rw [eP, ew, eA] at goes
    refine next_end hh I.nolimit hroom (M.isg _ me) egs goes fun e s1 he => ?_
    have both : ∃ pv', (∀ b ∈ pv', FpOk X pins H b) ∧ chain G Yl pv' (tot - i) i (s.setGen g .running) e s1 := by
      obtain ⟨fp, ⟨rfl, rfl, h1, h2, h3⟩ | ⟨hp, _, h2⟩⟩ := he
      · refine ⟨G.pv0 ++ fp, fun b hb => ?_, h2⟩
        rcases List.mem_append.mp hb with hb | hb
        · exact hf b hb
        · exact fp_new I (Nat.le_trans n0 (h1.ge b hb)) (h3 b hb)
      · exact ⟨pv, hf, h2⟩
    obtain ⟨pv', hf', hch⟩ := both
    rw [show tot - i = 0 by omega] at hch
    obtain ⟨rfl, ge⟩ := hch
    refine ⟨.inl rfl, fun h' hk => ⟨rfl, ?_⟩⟩
    have lH : landH s.heap H (fun _ => none) = H := by
      funext b
      cases q : s.heap.get? b with
      | some o => exact land_some q
      | none =>
        have n : H b = none := by
          cases qq : H b with
          | none => rfl
          | some u =>
            obtain ⟨o, ho⟩ := ob_there (I.hok b u qq)
            rw [q] at ho; cases ho
        rw [n]
        cases e : landH s.heap H (fun _ => none) b with
        | none => rfl
        | some u =>
          obtain ⟨xs, _, hx⟩ := land_new q e
          cases hx
    have J := land (H5 := fun _ => none) (s0 := s.setGen g .running) (s1' := { s1.setGen g .finished with heap := h' }) I hf' rfl eo os ge (fun b o e => by cases e) hk rfl (allBare_setGen ge.bare rfl)
    rw [lH] at J
    exact J
end
/-! ### the call -/
def iGen (Sp : List V → Nat → (Nat → V → Hp → Prop) → Prop) (t : TA) : TI := fun σ H R => t σ H fun vs H1 => ∃ tot Yl, Sp vs tot Yl ∧ R (Itg tot Yl) H1
section
variable {X : Cx} {tg : Expr} {lev : Nat} {f : Addr} {fd : FuncData} {ps N : List Str} {Sp : List V → Nat → (Nat → V → Hp → Prop) → Prop} {x : Str} {p pos : Pos} {e : Expr} {es : List Expr} {t : TA}
theorem pig_call (F : GnG X.prog X.w X.K X.mg X.base lev f fd ps N Sp) (hr : RoomG (lev + 1) X.A) (hg : Gl X x) (hm : X.mg x = some (.ref f)) (hk : PySem.W.keepIn X.K (.ref f) = true) (hb : Binds X.K fd ps [])
    (ha : PA X (e :: es) t) (hdb : (x == ("__debug__" : Str)) = false := by decide) (he : starEach (e :: es) X.env = (false, eval e X.env) :: starEach es X.env := by rfl) (hpl : (backTo pos (starEach es X.env)).any (·.1) = false := by rfl) :
    PIG X tg (.Call (.Name x p) (e :: es) [] pos) (iGen Sp t) := by
  refine ⟨fun pins s σ H R I h => ?_⟩
  refine wpAny_Call_Name_kw (ld_glob I hg hm ?_ hdb)
  refine PySem.W.callWith_K (h₀ := X.base) I.ok.mod.kin hk (thn (ha.run pos pins s σ H _ I h) fun us s1 ⟨vs, H1, I1, r, q⟩ => ⟨I1.kIn, ?_⟩) he hpl
  obtain ⟨tot, Yl, sp, q⟩ := q
  have hl : us.length = ps.length := by rw [← r.length]; exact F.len _ _ _ sp
  have bd := hb s1 us I1.kIn (by rw [List.append_nil]; exact hl)
  rw [List.append_nil] at bd
  refine wpAny_call (codeAny_mono (F.run X.A X.stack s1 H1 ⟨us, []⟩ us vs tot Yl hr I1.env0 bd r sp) fun rr s' hq => ?_)
  obtain ⟨G, g, c0, rfl, eP, ew, eK, em, eb, eA, eo, M⟩ := hq
  have me := M.loc.me
  refine wpAny_pyIter_gen (M.isg _ me) ?_
  have I2 : Inv X pins σ H1 s' := by
    rw [shared_eta M.os]
    exact I1.call (ch := []) (L2.Un.kept M.keep) (I1.hok.kept M.keep) M.bare fun b z => by cases z
  have n0 : X.s_0.heap.objs.size ≤ G.n0 := by rw [M.n0]; exact I1.sz
  have old : ∀ b, G.n0 ≤ b → FpOk X pins H1 b := fun b hb => by
    rw [M.n0] at hb
    exact I1.fpOk hb (I1.hok.fresh hb)
  refine ⟨G.a, g, G.pv0, gSt G g c0 (L2.start N vs) tot Yl, Itg tot Yl, H1, rfl, I2, turn_gen hr.room.hd hr.room.depth eP ew eb eA eo (by rw [M.os0]; exact I1.os) n0 M, ⟨rfl, M.gen, M.loc⟩, fun b hb => ?_, q⟩
  have hb : b = G.n0 ∨ b ∈ G.env.cells.filterMap (fun p => G.env.cells.lookup p.1) ++ [G.a] := List.mem_cons.mp hb
  rcases hb with rfl | hb
  · exact old _ (Nat.le_refl _)
  · rcases List.mem_append.mp hb with h | h
    · obtain ⟨⟨y, c⟩, hc, h1⟩ := List.mem_filterMap.mp h
      exact old b (Nat.le_of_lt (M.ok.cab y b h1))
    · rw [List.mem_singleton.mp h]
      exact old _ (Nat.le_of_lt M.ok.a0)
end
end GV
set_option maxHeartbeats 4000000
/-! DG1: for over a generator, at data. -/
namespace CT
open PySem L2 GV
mutual
def pT : D → Bool
  | .int _ => true
  | .tup xs => pTL xs
  | _ => false
def pTL : List D → Bool
  | [] => true
  | d :: ds => pT d && pTL ds
end
def intsOf : List D → Option (List Int)
  | [] => some []
  | .int i :: ds => (intsOf ds).map (i :: ·)
  | _ => none
section
variable {k : Cn} {A A' : Nat → Addr} {C C' : Store} {H H' H5 : Hp}
theorem intsOf_at : ∀ {vs : List V} {ds : List D} {ns : List Int}, RepL k A C H vs ds → intsOf ds = some ns → vs = ns.map V.int ∧ ds = ns.map D.int
  | _, _, _, .nil, e => by cases e; exact ⟨rfl, rfl⟩
  | _, d :: ds, _, .cons r t, e => by
    cases d with
    | int i =>
      cases r
      simp only [intsOf] at e
      cases e2 : intsOf ds with
      | none => rw [e2] at e; cases e
      | some ms =>
        rw [e2] at e
        cases e
        obtain ⟨h1, h2⟩ := intsOf_at t e2
        subst h1 h2
        exact ⟨rfl, rfl⟩
    | _ => cases e
mutual
theorem pT_rep (h : ∀ b xs, H5 b = some (.tup xs) → ¬ Live A' C' b ∧ H' b = some (.tup xs)) : ∀ {v : V} {d : D}, Rep k A [] H5 v d → pT d = true → Rep k A' C' H' v d
  | _, _, .int i, _ => .int i
  | _, _, .tup l q r, e => .tup (h _ _ q).1 (h _ _ q).2 (pTL_rep h r (by rw [pT] at e; exact e))
  | _, _, .non, e => by exact absurd e (by simp [pT])
  | _, _, .bl b, e => by exact absurd e (by simp [pT])
  | _, _, .str s, e => by exact absurd e (by simp [pT])
  | _, _, .lst l h r, e => by exact absurd e (by simp [pT])
  | _, _, .ktup h r, e => by exact absurd e (by simp [pT])
  | _, _, .scr l h r, e => by exact absurd e (by simp [pT])
  | _, _, .kscr h r, e => by exact absurd e (by simp [pT])
  | _, _, .obj l h z r, e => by exact absurd e (by simp [pT])
  | _, _, .dT l h r, e => by exact absurd e (by simp [pT])
  | _, _, .cell hi, e => by exact absurd e (by simp [pT])
  | _, _, .exn x l h z r, e => by exact absurd e (by simp [pT])
  | _, _, .cls c, e => by exact absurd e (by simp [pT])
theorem pTL_rep (h : ∀ b xs, H5 b = some (.tup xs) → ¬ Live A' C' b ∧ H' b = some (.tup xs)) : ∀ {vs : List V} {ds : List D}, RepL k A [] H5 vs ds → pTL ds = true → RepL k A' C' H' vs ds
  | _, _, .nil, _ => .nil
  | _, _, .cons r t, e => by
    rw [pTL, Bool.and_eq_true] at e
    exact .cons (pT_rep h r e.1) (pTL_rep h t e.2)
end
/-- what is not tracked any more was locked -/
def Lk0 (pv : List Addr) (H : Hp) : Prop := ∀ b ∈ pv, ∃ o, H b = some (.frz o (.own 0))
theorem drop_keep {pv : List Addr} (q : Lk0 pv H) {a : Addr} {o : HO} (h : H a = some o) (hn : ∀ x, o ≠ .frz x (.own 0)) : dropH pv H a = some o := by
  by_cases hb : a ∈ pv
  · obtain ⟨x, hx⟩ := q a hb
    rw [hx] at h
    cases h
    exact absurd rfl (hn x)
  · rw [dropH_out hb]; exact h
mutual
theorem Rep.drp {pv : List Addr} (q : Lk0 pv H) : ∀ {v : V} {d : D}, Rep k A C H v d → Rep k A C (dropH pv H) v d
  | _, _, .non => .non
  | _, _, .bl b => .bl b
  | _, _, .int i => .int i
  | _, _, .str s => .str s
  | _, _, .lst l h r => .lst l (drop_keep q h (by intro x z; cases z)) (r.drp q)
  | _, _, .tup l h r => .tup l (drop_keep q h (by intro x z; cases z)) (r.drp q)
  | _, _, .ktup h r => .ktup h (r.drp q)
  | _, _, .scr l h r => .scr l (drop_keep q h (by intro x z; cases z)) (r.drp q)
  | _, _, .kscr h r => .kscr h (r.drp q)
  | _, _, .obj l h z r => .obj l (drop_keep q h (by intro x z; cases z)) z (r.drp q)
  | _, _, .dT l h r => .dT l (drop_keep q h (by intro x z; cases z)) (r.drp q)
  | _, _, .cell hi => .cell hi
  | _, _, .exn x l h z r => .exn x l (drop_keep q h (by intro x z; cases z)) z (r.drp q)
  | _, _, .cls c => .cls c
theorem RepL.drp {pv : List Addr} (q : Lk0 pv H) : ∀ {vs : List V} {ds : List D}, RepL k A C H vs ds → RepL k A C (dropH pv H) vs ds
  | _, _, .nil => .nil
  | _, _, .cons r t => .cons (r.drp q) (t.drp q)
end
theorem StOk.drp {pv : List Addr} (q : Lk0 pv H) (x : StOk k A C H) : StOk k A C (dropH pv H) := by
  refine ⟨fun i c e => ?_, x.inj⟩
  have y := x.at_ i c e
  cases c with
  | lst ds => obtain ⟨vs, e, r⟩ := y; exact ⟨vs, drop_keep q e (by intro x z; cases z), r.drp q⟩
  | dT ks ds => obtain ⟨kvs, e, z, r⟩ := y; exact ⟨kvs, drop_keep q e (by intro x z; cases z), z, r.drp q⟩
  | ins c ds => obtain ⟨dx, vs, e, z, r⟩ := y; exact ⟨dx, vs, drop_keep q e (by intro x z; cases z), z, r.drp q⟩
theorem drop_stp {pv : List Addr} {fl : Nat} (q : Lk0 pv H) : Stp k fl A C H A C (dropH pv H) := ⟨fun _ _ r => r.drp q, Nat.le_refl _, fun _ _ _ h => h⟩
/-- more is tracked -/
theorem kp_more (h : ∀ b o, H b = some o → H' b = some o) : Kp A C H A C H' := ⟨fun a o l e => ⟨l, h a o e⟩, fun _ _ => rfl, Nat.le_refl _⟩
theorem StOk.more (x : StOk k A C H) (h : ∀ b o, H b = some o → H' b = some o) : StOk k A C H' := ⟨fun i c e => by
    have y := x.at_ i c e
    obtain ⟨u, hu⟩ := y.there
    exact y.kp (kp_more h) (by rw [hu]; exact h _ _ hu), x.inj⟩
theorem stp_more {fl : Nat} (h : ∀ b o, H b = some o → H' b = some o) : Stp k fl A C H A C H' := (kp_more h).stp0
theorem lock_more {pv : List Addr} (l : Lock pv H H') : ∀ b o, H b = some o → H' b = some o := fun b o e => by
  rw [l.out b fun hb => by rw [l.no b hb] at e; cases e]
  exact e
end
end CT
set_option maxHeartbeats 4000000
/-! DG2: for over a generator, at data. -/
namespace CT
open PySem L2 GV
/-! ### the generator's promise at data -/
def SpG (k : Cn) (L : List Int → Option (List D)) : List V → Nat → (Nat → V → Hp → Prop) → Prop := fun vs tot Yl => ∃ (ns : List Int) (xs : List D), vs = ns.map V.int ∧ L ns = some xs ∧ tot = xs.length ∧ Yl = fun j y H => ∃ A d, xs[j]? = some d ∧ Rep k A [] H y d
def mGen (L : List Int → Option (List D)) (ma : MA) : MI := fun F C => bnd (ma F C) fun ds C1 => match intsOf ds with
  | some ns => match L ns with
    | some xs => if pTL xs = true then .ok (itC xs) C1 else .stuck
    | none => .stuck
  | none => .stuck
/-- no error comes out of it -/
def gvX (m : MS) : MS := fun F C => match m F C with
  | .xc _ _ _ => .stuck
  | r => r
theorem gvX_eq {m : MS} {F : Fr} {C : Store} : gvX m F C = m F C ∨ gvX m F C = .stuck := by
  unfold gvX
  cases m F C with
  | xc _ _ _ => exact .inr rfl
  | _ => exact .inl rfl
theorem pTL_get : ∀ {xs : List D} {j : Nat} {d : D}, pTL xs = true → xs[j]? = some d → pT d = true
  | x :: xs, 0, d, h, e => by simp only [pTL, Bool.and_eq_true] at h; simp at e; subst e; exact h.1
  | x :: xs, j + 1, d, h, e => by simp only [pTL, Bool.and_eq_true] at h; exact pTL_get h.2 (by simpa using e)
section
variable {X : Cx} {k : Cn} {W : WX} {E : Ends} {σ : L2.St} {H : Hp}
theorem ls_gvX {m : MS} (h : LS k W (gvX m) E σ H) : LS k W m E σ H := by
  obtain ⟨A, F, C, s, h⟩ := h
  refine ⟨A, F, C, s, ?_⟩
  rcases gvX_eq (m := m) (F := F) (C := C) with e | e
  · rwa [e] at h
  · rw [e] at h; exact h.elim
theorem bndS_bnd {α β : Type} {sl : List (Option D)} {m : R α} {f : α → Store → R β} {g : β → Store → RS} : bndS sl (bnd m f) g = bndS sl m fun a C => bndS sl (f a C) g := by cases m <;> rfl
theorem ls_forG {L : List Int → Option (List D)} {ma : MA} {t : Tgt} {body : MS} (h : LS k W (sFor (mGen L ma) t.M (gvX body)) E σ H) : tForG (iGen (SpG k L) (LA k W ma)) (t.T k.K) (LS k WF (gvX body)) E σ H := by
  obtain ⟨A, F, C, s, h⟩ := h
  unfold sFor at h
  simp only [mGen] at h
  rw [bndS_bnd] at h
  refine ⟨A, F, C, s, (AftS.bnd (rel := RepDs k) s h).mono fun ds C1 A1 H1 vs p1 st1 rl h1 => ?_⟩
  cases e1 : intsOf ds with
  | none => rw [e1] at h1; exact h1.elim
  | some ns =>
    rw [e1] at h1
    simp only at h1
    cases e2 : L ns with
    | none => rw [e2] at h1; exact h1.elim
    | some xs =>
      rw [e2] at h1
      simp only at h1
      split at h1
      case isFalse => exact h1.elim
      case isTrue hpT =>
      simp only [bndS_ok] at h1
      obtain ⟨hv, hd⟩ := intsOf_at rl e1
      refine ⟨_, _, ⟨ns, xs, hv, e2, rfl, rfl⟩, ?_⟩
      have hn : (itC xs).n = xs.length := rfl
      refine ⟨fun i m σ' H' => ∃ A' C' sl, m = xs.length - i ∧ i ≤ xs.length ∧ Stp k F.fl A1 C1 H1 A' C' H' ∧ SR k A' ⟨F.fl, sl⟩ C' σ' H' ∧ AftS k W F.fl A' C' H' (loopN (itC xs) t.M (gvX body) F.fl (xs.length - i) i sl C') E,
        ⟨xs.length, A1, C1, F.sl, rfl, Nat.zero_le _, Stp.refl, s.step p1 st1, h1⟩, ?_⟩
      rintro i m σ' H' ⟨A', C', sl, rfl, hi, p, s', h'⟩
      cases er : xs.length - i with
      | zero =>
        rw [er] at h'
        unfold loopN at h'
        rw [if_pos (show (itC xs).fin C' = true from rfl)] at h'
        exact .inl ⟨show i = xs.length by omega, h' A' σ' H' Stp.refl s'⟩
      | succ r =>
        rw [er] at h'
        unfold loopN at h'
        have hlt : i < xs.length := by omega
        have hr : xs.length - (i + 1) = r := by omega
        have ei : (itC xs).item i C' = some xs[i] := by simp [itC, hlt]
        simp only [ei] at h'
        cases eg : t.M xs[i] sl with
        | none => simp only [eg] at h'; exact h'.elim
        | some sl1 =>
          simp only [eg] at h'
          refine .inr ⟨hlt, fun σ2 H2 => ∃ A2 C2 sl2, i + 1 ≤ xs.length ∧ Stp k F.fl A1 C1 H1 A2 C2 H2 ∧ SR k A2 ⟨F.fl, sl2⟩ C2 σ2 H2 ∧ AftS k W F.fl A2 C2 H2 (loopN (itC xs) t.M (gvX body) F.fl (xs.length - (i + 1)) (i + 1) sl2 C2) E,
            fun σ2 H2 ⟨A2, C2, sl2, a, b, c, d⟩ => ⟨xs.length - (i + 1), by omega, A2, C2, sl2, rfl, a, b, c, d⟩, fun x H'' y pv Hl lk => ?_⟩
          obtain ⟨y1, H5, ⟨A5, d5, e5, r5⟩, y3⟩ := y
          have hd5 : xs[i] = d5 := by
            have : xs[i]? = some xs[i] := List.getElem?_eq_getElem hlt
            rw [this] at e5
            exact Option.some.inj e5
          subst hd5
          have y4 := lock_more lk
          have mo : ∀ b o, H' b = some o → Hl b = some o := fun b o e => y4 b o (y1 b o e)
          have p2 : Stp k F.fl A' C' H' A' C' Hl := stp_more mo
          have st2 : StOk k A' C' Hl := s'.st.more mo
          have rx : Rep k A' C' Hl x xs[i] := pT_rep (fun b us e => ⟨s'.st.notLive (y3 b us e).1, y4 _ _ (y3 b us e).2⟩) r5 (pTL_get hpT (List.getElem?_eq_getElem hlt))
          have s2 := s'.step p2 st2
          refine Tgt.of (vs0 := []) s2 rx eg fun σ2 s3 _ => ⟨A', ⟨F.fl, sl1⟩, C', s3, ?_⟩
          cases eb : gvX body ⟨F.fl, sl1⟩ C' with
          | nx sl2 C2 =>
            simp only [eb] at h'
            intro A3 σ3 H3 p3 s4 hk
            have pp := (p2.trans p3).trans (drop_stp hk)
            exact ⟨A3, C2, sl2, by omega, p.trans pp, s4.step (drop_stp hk) (s4.st.drp hk), by rw [hr]; exact h'.shift pp⟩
          | ct sl2 C2 =>
            simp only [eb] at h'
            intro A3 σ3 H3 p3 s4 hk
            have pp := (p2.trans p3).trans (drop_stp hk)
            exact ⟨A3, C2, sl2, by omega, p.trans pp, s4.step (drop_stp hk) (s4.st.drp hk), by rw [hr]; exact h'.shift pp⟩
          | bk sl2 C2 =>
            simp only [eb] at h'
            intro A3 σ3 H3 p3 s4 hk
            have pp := (p2.trans p3).trans (drop_stp hk)
            exact h' A3 σ3 _ pp (s4.step (drop_stp hk) (s4.st.drp hk))
          | rt d C2 =>
            simp only [eb] at h'
            intro A3 H3 v p3 st r hk
            have pp := (p2.trans p3).trans (drop_stp hk)
            exact h' A3 _ v pp (st.drp hk) (r.drp hk)
          | xc e sl2 C2 =>
            exfalso
            unfold gvX at eb
            split at eb
            · cases eb
            · rename_i n; exact n _ _ _ eb
          | stuck =>
            simp only [eb] at h'
            exact h'.elim
/-- for tg in g(e, ..): body -/
theorem ds_forG {lev : Nat} {tg e : Expr} {es : List Expr} {body : List Stmt} {L : List Int → Option (List D)} {ma : MA} {t : Tgt} {mb : MS} {pos pos2 p : Pos} {f : Addr} {fd : FuncData} {ps N : List Str} {x : Str} (tk : Takes X W) (hp : PassesOwn (model X.prog X.w) X.A X.env X.xe)
    (F : GnG X.prog X.w X.K X.mg X.base lev f fd ps N (SpG k L)) (hr : RoomG (lev + 1) X.A) (hg : Gl X x) (hm : X.mg x = some (.ref f)) (hk : PySem.W.keepIn X.K (.ref f) = true) (hb : Binds X.K fd ps [])
    (ha : PA X (e :: es) (LA k W ma)) (hgt : ∀ H0, PG (bodyX X H0) tg (t.T k.K)) (hbd : ∀ H0, PSs (bodyX X H0) body (LS k WF mb)) (hdb : (x == ("__debug__" : Str)) = false := by decide) (he : starEach (e :: es) X.env = (false, eval e X.env) :: starEach es X.env := by rfl) (hpl : (backTo pos (starEach es X.env)).any (·.1) = false := by rfl)
    (hs : ∀ y, foldedSetIterable (.Call (.Name x p) (e :: es) [] pos) X.env y = pure y := by intro _; rfl) :
    PS X (.For tg (.Call (.Name x p) (e :: es) [] pos) body [] pos2) (LS k W (sFor (mGen L ma) t.M (gvX mb))) :=
  (ps_forG hp (pig_call F hr hg hm hk hb ha hdb he hpl) hgt (fun H0 => (hbd H0).cq fun _ _ _ h => ls_gvX h) hs).cq fun _ _ _ h => ls_forG h
end
end CT
set_option maxHeartbeats 4000000
/-! DG3: a generator def, by its parts over data. -/
namespace CT
open PySem L2 PySem.Spec PyProof.Rows GV
def gBody (s : List Stmt) : List Stmt := match s with
  | [.For _ _ b _ _] => b
  | _ => []
def genSl (np nn : Nat) (ns : List Int) : List (Option D) := ns.map (fun n => some (D.int n)) ++ List.replicate (nn - np) none
def keepsB : List Int → List (Option D) → Bool
  | [], _ => true
  | n :: ns, some (.int m) :: sl => decide (n = m) && keepsB ns sl
  | _ :: _, _ => false
def genI (np nn ci : Nat) (mb : MS) (me : ME) (ns : List Int) (j : Nat) : Option D := match mb ⟨0, (genSl np nn ns).set ci (some (.int j))⟩ [] with
  | .nx sl C => if keepsB ns sl = true then (match me ⟨0, sl⟩ C with
    | .ok d _ => if cb 0 d = true then some d else none
    | _ => none) else none
  | _ => none
def genA (f : Nat → Option D) : Nat → Option (List D)
  | 0 => some []
  | n + 1 => match genA f n, f n with
    | some xs, some d => some (xs ++ [d])
    | _, _ => none
def genL (np nn ci : Nat) (mi : ME) (mb : MS) (me : ME) (ns : List Int) : Option (List D) := if ns.length = np then (match mi ⟨0, genSl np nn ns⟩ [] with
  | .ok (.int t) _ => if (decide (0 ≤ t) && decide (t < 2 ^ 62)) = true then genA (genI np nn ci mb me ns) t.toNat else none
  | _ => none) else none
theorem genA_at {f : Nat → Option D} : ∀ {n : Nat} {xs : List D}, genA f n = some xs → xs.length = n ∧ ∀ j, j < n → ∃ d, f j = some d ∧ xs[j]? = some d
  | 0, xs, h => by
    cases h
    exact ⟨rfl, fun j hj => absurd hj (Nat.not_lt_zero _)⟩
  | n + 1, xs, h => by
    simp only [genA] at h
    cases e1 : genA f n with
    | none => simp [e1] at h
    | some ys =>
      cases e2 : f n with
      | none => simp [e1, e2] at h
      | some d =>
        simp only [e1, e2, Option.some.injEq] at h
        subst h
        obtain ⟨h1, h2⟩ := genA_at e1
        refine ⟨by simp [h1], fun j hj => ?_⟩
        by_cases hjn : j = n
        · subst hjn
          exact ⟨d, e2, by rw [List.getElem?_append_right (by omega), h1, Nat.sub_self]; rfl⟩
        · obtain ⟨d', h3, h4⟩ := h2 j (by omega)
          exact ⟨d', h3, by rw [List.getElem?_append_left (by omega)]; exact h4⟩
theorem keepsB_get : ∀ {ns : List Int} {sl : List (Option D)}, keepsB ns sl = true → ∀ (i : Nat) (n : Int), ns[i]? = some n → sl[i]? = some (some (.int n))
  | n :: ns, sl, h, i, m, e => by
    cases sl with
    | nil => simp [keepsB] at h
    | cons x sl =>
      cases x with
      | none => simp [keepsB] at h
      | some d =>
        cases d with
        | int q =>
          simp only [keepsB, Bool.and_eq_true, decide_eq_true_eq] at h
          cases i with
          | zero => simp at e; subst e; rw [h.1]; rfl
          | succ i => exact keepsB_get h.2 i m (by simpa using e)
        | _ => simp [keepsB] at h
section
variable {k : Cn} {H : Hp}
theorem gstart_sr {np nn : Nat} {N : List Str} {ns : List Int} (hN : N.length = nn) (hl : ns.length = np) : SR k (fun _ => 0) ⟨0, genSl np nn ns⟩ [] (L2.start N (ns.map V.int)) H := by
  have es : L2.start N (ns.map V.int) = ns.map (fun n => some (V.int n)) ++ List.replicate (nn - np) none := by
    unfold L2.start
    rw [List.length_map, hN, hl, List.map_map]
    rfl
  refine ⟨⟨fun i c e => (by simp at e), fun i j c e h => (by simp at h)⟩, fun i c h => absurd h (Nat.not_lt_zero _), Nat.le_refl _, ?_, fun i d e => ?_⟩
  · rw [es]; simp [genSl]
  · have e' : (genSl np nn ns)[i]? = some (some d) := e
    unfold genSl at e'
    rw [es]
    by_cases hi : i < ns.length
    · rw [List.getElem?_append_left (by simpa using hi), List.getElem?_map] at e'
      rw [List.getElem?_append_left (by simpa using hi), List.getElem?_map]
      cases en : ns[i]? with
      | none => rw [en] at e'; cases e'
      | some n =>
        rw [en] at e'
        simp at e'
        subst e'
        exact ⟨_, rfl, .int n⟩
    · rw [List.getElem?_append_right (by simpa using hi)] at e'
      obtain ⟨h1, h2⟩ := List.getElem?_eq_some_iff.mp e'
      rw [List.getElem_replicate] at h2
      cases h2
theorem gstart_get {N : List Str} {ns : List Int} {i : Nat} {v : V} (e : (L2.start N (ns.map V.int))[i]? = some (some v)) : ∃ n, ns[i]? = some n ∧ v = .int n := by
  unfold L2.start at e
  by_cases hi : i < ns.length
  · rw [List.getElem?_append_left (by simpa using hi), List.getElem?_map, List.getElem?_map] at e
    cases en : ns[i]? with
    | none => rw [en] at e; cases e
    | some n => rw [en] at e; simp at e; exact ⟨n, rfl, e.symm⟩
  · rw [List.getElem?_append_right (by simpa using hi)] at e
    obtain ⟨h1, h2⟩ := List.getElem?_eq_some_iff.mp e
    rw [List.getElem_replicate] at h2
    cases h2
end
abbrev gpOf (P : Program) (w : World) (K : PySem.W.Frag) (mg : Str → Option Value) (base : Heap) (N : List Str) (qual : Str) (scope : Scope) (f : Addr) (cdv : Value) (Aw : Around) (outer : List Env) (n0 : Nat) (a : Addr) (go : Obj) (os0 : OsState) : GP := ⟨P, w, K, mg, base, N, qual, scope, f, cdv, Aw, outer, n0, a, go, os0⟩
section
variable {P : Program} {w : World} {k : Cn} {mg : Str → Option Value} {base : Heap} {x qual : Str} {params : Arguments} {body : List Stmt} {scope : Scope} {kws : List (Str × V)} {f : Addr} {fd : FuncData}
/-- THE RULE for a generator def: range, statements, the item -/
theorem gn_ok {N ps : List Str} {lev ci : Nat} {mi me : ME} {mb : MS} {tg ae e : Expr} {bs : List Stmt} {p pos yp pos2 fpos : Pos} (F : FunD k.K x qual params body scope [] kws f fd) (S : GScope N ps scope) (hp : ps.length ≤ N.length)
    (hbd : body = [.For tg (.Call (.Name "range" p) [ae] [] pos) (bodyY bs e yp pos2) [] fpos]) (hm : mg "range" = none)
    (hd : ∀ (cdv : Value) (Aw : Around) (outer : List Env) (n0 : Nat) (a : Addr) (go : Obj) (os0 : OsState) (H0 : Hp) (s0 : Shared), RoomG lev (Aw.deeper (envOfC qual scope n0 f cdv)) →
      Gl ((gpOf P w k.K mg base N qual scope f cdv Aw outer n0 a go os0).cx H0 s0) "range" ∧ PE ((gpOf P w k.K mg base N qual scope f cdv Aw outer n0 a go os0).cx H0 s0) ae (LE k WF mi) ∧ PG ((gpOf P w k.K mg base N qual scope f cdv Aw outer n0 a go os0).cx H0 s0) tg (Tgt.T k.K (.nm ci)) ∧
      PSs ((gpOf P w k.K mg base N qual scope f cdv Aw outer n0 a go os0).cx H0 s0) bs (LS k WF mb) ∧ PE ((gpOf P w k.K mg base N qual scope f cdv Aw outer n0 a go os0).cx H0 s0) e (LE k WF me))
    (hs : ∀ cdv n0 y, foldedSetIterable (.Call (.Name "range" p) [ae] [] pos) (envOfC qual scope n0 f cdv) y = pure y := by intro _ _ _; rfl)
    (hst : ∀ cdv n0, starEach [ae] (envOfC qual scope n0 f cdv) = [(false, eval ae (envOfC qual scope n0 f cdv))] := by intro _ _; rfl) (hit : ∀ cdv n0, interactive (envOfC qual scope n0 f cdv) = false := by intro _ _; rfl) :
    GnG P w k.K mg base (lev + 1) f fd ps N (SpG k (genL ps.length N.length ci mi mb me)) := by
  obtain ⟨oc, od, dV, kV, doc, pm, an, cdv, ct, osl, rfl, lk, hcd, _, _⟩ := F.ex
  subst hbd
  refine gn_of lk hcd S (fun vs tot Yl ⟨ns, xs, h1, h2, _⟩ => ?_) ?_
  · unfold genL at h2
    split at h2
    · rename_i hl; rw [h1, List.length_map, hl]
    · cases h2
  rintro ⟨P', w', K', mg', base', N', qual', scope', f', cdv', Aw, outer, n0, a, go, os0⟩ vs tot Yl h1 h2 h3 h4 h5 h6 h7 h8 h9 h10 hr ⟨ns, xs, hv, hL, ht, hY⟩
  dsimp only at h1 h2 h3 h4 h5 h6 h7 h8 h9 h10 hr
  subst h1 h2 h3 h4 h5 h6 h7 h8 h9 h10 hv ht hY
  unfold genL at hL
  split at hL
  case isFalse => cases hL
  case isTrue hl =>
  cases emi : mi ⟨0, genSl ps.length N'.length ns⟩ [] with
  | exc _ _ => rw [emi] at hL; cases hL
  | stuck => rw [emi] at hL; cases hL
  | ok d C =>
  rw [emi] at hL
  cases d with
  | int t =>
    simp only at hL
    split at hL
    case isFalse => cases hL
    case isTrue htb =>
    simp only [Bool.and_eq_true, decide_eq_true_eq] at htb
    obtain ⟨gl, gi⟩ := genA_at hL
    have D := fun H0 s0 => hd cdv' Aw outer n0 a go os0 H0 s0 hr
    refine ⟨tCons (LE k WF mi) tNil, Tgt.T k.K (.nm ci), LS k WF mb, LE k WF me, ?_⟩
    refine { hi := fun H0 s0 => ?_, hg := fun H0 s0 => (D H0 s0).2.2.1, hb := fun H0 s0 => (D H0 s0).2.2.2.1, he := fun H0 s0 => (D H0 s0).2.2.2.2, hs := fun y => hs cdv' n0 y, co := S.co, intr := hit cdv' n0, start := fun H => ?_, small := ?_, turn := fun j hj H => ?_, ar := fun H Q Q' hq h => ?_, len := ?_ }
    · exact pi_range1 (D H0 s0).1 hm (pa_cons (D H0 s0).2.1 pa_nil (hst cdv' n0)) (hst cdv' n0)
    · refine ⟨fun _ => 0, ⟨0, _⟩, [], gstart_sr rfl hl, ?_⟩
      rw [emi]
      intro A' H' v p st r
      cases r
      show [V.int t] = [V.int ((xs.length : Nat) : Int)]
      rw [gl, Int.toNat_of_nonneg htb.1]
    · rw [gl, Int.toNat_of_nonneg htb.1]; exact htb.2
    · obtain ⟨d, hd1, hd2⟩ := gi j (by omega)
      unfold genI at hd1
      show LS k WF mb _ ((L2.start N' (ns.map V.int)).set ci (some (.int (j : Int)))) H
      have sr : SR k (fun _ => 0) ⟨0, (genSl ps.length N'.length ns).set ci (some (.int j))⟩ [] ((L2.start N' (ns.map V.int)).set ci (some (.int (j : Int)))) H := (gstart_sr (H := H) (k := k) rfl hl).set (.int _)
      refine ⟨_, _, _, sr, ?_⟩
      cases eb : mb ⟨0, (genSl ps.length N'.length ns).set ci (some (.int j))⟩ [] with
      | nx sl C' =>
        rw [eb] at hd1
        simp only at hd1
        split at hd1
        case isFalse => cases hd1
        case isTrue hkp =>
        intro A' σ' H' p' s'
        refine ⟨fun i v e => ?_, A', ⟨0, sl⟩, C', s', ?_⟩
        · obtain ⟨n, en, rfl⟩ := gstart_get e
          obtain ⟨v', e1, r1⟩ := s'.sl i _ (keepsB_get hkp i n en)
          cases r1
          exact e1
        · cases ee : me ⟨0, sl⟩ C' with
          | ok d' C2 =>
            rw [ee] at hd1
            simp only at hd1
            split at hd1
            case isFalse => cases hd1
            case isTrue hcb =>
            cases hd1
            intro A2 H2 v p2 st2 r2
            have r3 := r2.cut (n := 0) (Nat.zero_le _) hcb
            rw [List.take_zero] at r3
            exact ⟨A2, d, hd2, r3⟩
          | exc _ _ => rw [ee] at hd1; cases hd1
          | stuck => rw [ee] at hd1; cases hd1
      | _ => rw [eb] at hd1; cases hd1
    · obtain ⟨A, F', C', s', h'⟩ := h
      exact ⟨A, F', C', s', h'.mono fun d C1 A1 H1 v _ _ _ q => hq _ _ q⟩
    · show (L2.start N' (ns.map V.int)).length = N'.length
      unfold L2.start
      rw [List.length_append, List.length_map, List.length_map, List.length_replicate]
      omega
  | _ => cases hL
end
end CT
set_option maxHeartbeats 4000000
/-! DM26: t * 1. -/
namespace CT
open PySem L2 PySem.Spec PyProof.Rows
end CT
set_option maxHeartbeats 4000000
/-! DM29: sorted(t, reverse=True) of a tuple of ints. -/
namespace CT
open PySem L2 PySem.Spec PyProof.Rows
def rSortR (K : PySem.W.Frag) : List V → List V → Hp → VK → Prop := fun vs zs H Q => ∃ (a : Addr) (ns : List Int), vs = [V.ref a] ∧ zs = [.bl true] ∧ SqT K H a (ns.map V.int) ∧
  ∀ (ns' : List Int) (p : Addr), ns'.Perm ns → ns'.Pairwise (· ≥ ·) → H p = none → Q (.ref p) (upd H p (.lst (ns'.map V.int)))
section
variable {X : Cx}
theorem cr_sortR : CallRK X (.builtin "sorted") [Str.ofString "reverse"] (rSortR X.K) := by
  intro pins s σ H vs zs us ws Q I r rz h
  obtain ⟨a, ns, rfl, rfl, hs, q⟩ := h
  obtain ⟨u, rfl, ru⟩ := vals1 r
  obtain rfl : u = Value.ref a := ru
  obtain ⟨w1, rfl, e1⟩ := vals1 rz
  obtain rfl : w1 = Value.bool true := e1
  obtain ⟨its, rv, ⟨o, ho, hoc, n, hod⟩, hz⟩ := I.tuple hs
  have hi := rv.ints
  have hzi : its.toArray.size ≤ sizeLine := by rw [List.size_toArray, ← rv.length]; exact hz
  have hzl : its.length ≤ sizeLine := by rw [List.size_toArray] at hzi; exact hzi
  refine call_function_entry_kw PyProof.Rows.kind_sorted PyProof.Rows.plain_sorted PyProof.Rows.entry_sorted (PyProof.Rows.args_sorted_rev _ _) ?_
  unfold Builtin.«sorted»
  refine wpAny_bind (m := checkCount "sorted" 1 1 _) (wpAny_pure ?_)
  refine wpAny_bind (wpAny_collect_seq a (.inr rfl) ho hoc hod (fun h' hk' => ?_) hzi)
  have I1 : Inv X pins σ H { s with heap := h' } := I.kept (t' := s.toks) hk'
  have ea : its.toArray.toList = its := by simp
  rw [ea]
  refine wpAny_bind (wpAny_newList ?_ hzl)
  have hoL : (h'.push (seqObj "list" its.toArray 0)).get? h'.objs.size = some (seqObj "list" its.toArray 0) := Heap.get?_push_size _ rfl
  show wpAny _ _ _ _ _ { s with heap := h'.push (seqObj "list" its.toArray 0) }
  refine wpAny_bind (wpAny_holding (wpAny_call_entry_kw slot_list_sort ⟨_, hoL, rfl⟩ entry_list_sort ?_ (PyProof.Rows.args_list_sort_rev _ _)))
  refine SrtR.list_sort_ordR (b := true) SrtO.swo_int hoL hzl (fun h2 => SrtO.ints_sortable hi h2) fun out h1 h2 => ⟨_, rfl, ?_⟩
  obtain ⟨ns', k1, k2, k3⟩ := SrtR.ints_outR (b := true) hi h1 h2
  obtain ⟨e', he'⟩ := PyProof.Rows.sortedHeap_at (vs := its) (out := if true = true then out.toArray.reverse else out.toArray) hoL
  have hlen : (ns'.map V.int).length ≤ sizeLine := by
    rw [List.length_map, k2.length_eq]
    rw [List.length_map] at hz
    exact hz
  have e0 : ((if true = true then out.toArray.reverse else out.toArray).toList).toArray = (if true = true then out.toArray.reverse else out.toArray) := by rw [Array.toArray_toList]
  refine wpAny_pure ⟨_, rfl, .ref h'.objs.size, _, I1.laid (t' := s.toks) (o := .lst (ns'.map V.int)) (fun b u e => ?_) (Nat.le_refl _) ⟨hlen, _, e', vals_of_ints k1, by rw [e0]; exact he'⟩, rfl, q _ _ k2 k3 (I1.hok.fresh (Nat.le_refl _))⟩
  have hb : b < h'.objs.size := Heap.lt_size e
  rw [PyProof.Rows.sortedHeap_old (Nat.ne_of_lt hb) (by rw [size_push']; exact Nat.lt_succ_of_lt hb)]
  exact Heap.get?_push_of_some _ e
end
/-- the integers, falling -/
def fallI (ns : List Int) : List Int := ns.mergeSort fun a b => decide (b ≤ a)
theorem fall_perm (ns : List Int) : (fallI ns).Perm ns := List.mergeSort_perm _ _
theorem fall_ord (ns : List Int) : (fallI ns).Pairwise (· ≥ ·) := by
  have := List.pairwise_mergeSort (le := fun a b : Int => decide (b ≤ a)) (fun a b c h1 h2 => by simp at *; omega) (fun a b => by simp; omega) ns
  exact this.imp fun h => by simpa using h
theorem fall_uq {ns ms : List Int} (p : ms.Perm ns) (o : ms.Pairwise (· ≥ ·)) : ms = fallI ns :=
  (p.trans (fall_perm ns).symm).eq_of_pairwise (fun a b _ _ h1 h2 => by omega) o (fall_ord ns)
def oSortR : OA := fun xs C => match xs with
  | [x] => (match (vT x).bind dInts with
    | some ns => some (.lst ((fallI ns).map .int), C)
    | none => none)
  | _ => none
def mSortR (ma : ME) : ME := fun F C => bnd (ma F C) fun x C1 => match oSortR [x] C1 with
  | some (d, C2) => .ok d C2
  | none => .stuck
section
variable {X : Cx} {k : Cn} {W : WX} {σ : L2.St} {H : Hp} {Q : VK} {ma : ME} {e : Expr} {p pos kpos d : Pos} {i : Nat}
theorem le_sortR (h : LE k W (mSortR ma) σ H Q) : tCKw (rSortR k.K) (tCons (LE k W ma) tNil) (tCons (tC (.bl true)) tNil) σ H Q := by
  obtain ⟨A, F, C, s, h⟩ := h
  refine ⟨A, F, C, s, (Aft.bnd (rel := RepD k) h).mono fun dx C1 A1 H1 v p1 st1 r1 h1 => ?_⟩
  have s1 := s.step p1 st1
  show rSortR k.K [v] [.bl true] H1 Q
  cases e1 : (vT dx).bind dInts with
  | none =>
    have : oSortR [dx] C1 = none := by simp only [oSortR, e1]
    rw [this] at h1
    exact h1.elim
  | some ns =>
    have : oSortR [dx] C1 = some (.lst ((fallI ns).map .int), C1) := by simp only [oSortR, e1]
    rw [this] at h1
    obtain ⟨l, e2, e3⟩ := Option.bind_eq_some_iff.mp e1
    obtain ⟨a, vs, rfl, ha, rv⟩ := vT_at r1 e2
    rw [dInts_eq e3] at rv
    have := RepL.ints_inv rv
    subst this
    refine ⟨a, ns, rfl, rfl, ha, fun ns' q pm po hq => ?_⟩
    obtain rfl := fall_uq pm po
    obtain ⟨A2, w1, w2, w3⟩ := fresh_L (own := false) s1.fl st1 (RepL.ints (A := A1) (C := C1) (H := H1) (ns := fallI ns)) hq
    exact h1 A2 _ _ w1 w2 w3
theorem de_sortR (hK : X.K = k.K) (hg : Gl X "sorted") (hm : X.mg "sorted" = none) (he : PE X e (LE k W ma)) (hn : ("sorted" : Str) ≠ "__name__" := by decide) (hdb : (("sorted" : Str) == ("__debug__" : Str)) = false := by decide)
    (hs : starEach [e] X.env = (false, eval e X.env) :: starEach [] X.env := by rfl)
    (h1 : backTo pos (starEach [e] X.env) = (false, eval e X.env) :: backTo pos (starEach [] X.env) := by rfl) (hpl : (backTo pos (starEach [e] X.env)).any (·.1) = false := by rfl)
    (hall : (backToKw pos (keywordEach [⟨some "reverse", .Constant (.bool true) i d, kpos⟩] X.env)).all (·.1.isSome) = true := by rfl) (hnone : (backToKw pos (keywordEach [⟨some "reverse", .Constant (.bool true) i d, kpos⟩] X.env)).any (·.1.isNone) = false := by rfl) (hks : (backToKw pos (keywordEach [⟨some "reverse", .Constant (.bool true) i d, kpos⟩] X.env)).filterMap (·.1) = [Str.ofString "reverse"] := by rfl) :
    PE X (.Call (.Name "sorted" p) [e] [⟨some "reverse", .Constant (.bool true) i d, kpos⟩] pos) (LE k W (mSortR ma)) :=
  (pe_callBK cr_sortR hg hm (by decide +kernel) (pa_cons he pa_nil hs) (pk_cons pe_bl pk_nil) hn hdb h1 hpl hall hnone hks).cq fun _ _ _ h => by rw [hK]; exact le_sortR h
end
end CT
set_option maxHeartbeats 4000000
/-! DM19: a def that hands back data with own lists and dicts inside: all become plain data. -/
namespace CT
open PySem L2 PySem.Spec PyProof.Rows
end CT
set_option maxHeartbeats 4000000
/-! DM20: == of two tuples of own objects that are equal item by item. -/
namespace CT
open PySem L2 PySem.Spec PyProof.Rows
end CT
set_option maxHeartbeats 4000000
/-! DM21: sum of a tuple of ints. -/
namespace CT
open PySem L2 PySem.Spec PyProof.Rows
end CT
set_option maxHeartbeats 8000000
namespace CL
open PySem L2 PySem.Spec PyProof.Rows CT
theorem txt {K : PySem.W.Frag} {h : Heap} {mg : Str → Option Value} (X : K.In h) (G : h.Ns mainGlobals mg) (c : SaysX fs fn K) : Txt K mg where
  n_abs := He.free_ok X G (c.fact 0 (f := (He.Fa.free "abs").ok) rfl)
  n_all := He.free_ok X G (c.fact 1 (f := (He.Fa.free "all").ok) rfl)
  n_any := He.free_ok X G (c.fact 2 (f := (He.Fa.free "any").ok) rfl)
  n_bool := He.free_ok X G (c.fact 3 (f := (He.Fa.free "bool").ok) rfl)
  n_enumerate := He.free_ok X G (c.fact 4 (f := (He.Fa.free "enumerate").ok) rfl)
  n_int := He.free_ok X G (c.fact 5 (f := (He.Fa.free "int").ok) rfl)
  n_isinstance := He.free_ok X G (c.fact 6 (f := (He.Fa.free "isinstance").ok) rfl)
  n_len := He.free_ok X G (c.fact 7 (f := (He.Fa.free "len").ok) rfl)
  n_list := He.free_ok X G (c.fact 8 (f := (He.Fa.free "list").ok) rfl)
  n_max := He.free_ok X G (c.fact 9 (f := (He.Fa.free "max").ok) rfl)
  n_min := He.free_ok X G (c.fact 10 (f := (He.Fa.free "min").ok) rfl)
  n_range := He.free_ok X G (c.fact 11 (f := (He.Fa.free "range").ok) rfl)
  n_repr := He.free_ok X G (c.fact 12 (f := (He.Fa.free "repr").ok) rfl)
  n_sorted := He.free_ok X G (c.fact 13 (f := (He.Fa.free "sorted").ok) rfl)
  n_sum := He.free_ok X G (c.fact 14 (f := (He.Fa.free "sum").ok) rfl)
  n_tuple := He.free_ok X G (c.fact 15 (f := (He.Fa.free "tuple").ok) rfl)
  c_MOST := He.int_ok X G (c.fact 16 (f := (He.Fa.int "MOST" 1000000000).ok) rfl)
  g_is_integer := He.glo_ok X G (c.fact 17 (f := (He.Fa.glo "is_integer").ok) rfl)
  g_is_count := He.glo_ok X G (c.fact 18 (f := (He.Fa.glo "is_count").ok) rfl)
  g_is_tie := He.glo_ok X G (c.fact 19 (f := (He.Fa.glo "is_tie").ok) rfl)
  g_summed := He.glo_ok X G (c.fact 20 (f := (He.Fa.glo "summed").ok) rfl)
  g_grid_of := He.glo_ok X G (c.fact 21 (f := (He.Fa.glo "grid_of").ok) rfl)
  g_check_size := He.glo_ok X G (c.fact 22 (f := (He.Fa.glo "check_size").ok) rfl)
  g_every_lots := He.glo_ok X G (c.fact 23 (f := (He.Fa.glo "every_lots").ok) rfl)
  g_reached := He.glo_ok X G (c.fact 24 (f := (He.Fa.glo "reached").ok) rfl)
  g_pieces := He.glo_ok X G (c.fact 25 (f := (He.Fa.glo "pieces").ok) rfl)
  g_odd_pieces := He.glo_ok X G (c.fact 26 (f := (He.Fa.glo "odd_pieces").ok) rfl)
  g_excess := He.glo_ok X G (c.fact 27 (f := (He.Fa.glo "excess").ok) rfl)
  g_front := He.glo_ok X G (c.fact 28 (f := (He.Fa.glo "front").ok) rfl)
  g_fronts_hold := He.glo_ok X G (c.fact 29 (f := (He.Fa.glo "fronts_hold").ok) rfl)
  g_lowest_excess := He.glo_ok X G (c.fact 30 (f := (He.Fa.glo "lowest_excess").ok) rfl)
  g_lack := He.glo_ok X G (c.fact 31 (f := (He.Fa.glo "lack").ok) rfl)
  g_complete := He.glo_ok X G (c.fact 32 (f := (He.Fa.glo "complete").ok) rfl)
  g_law_bag := He.glo_ok X G (c.fact 33 (f := (He.Fa.glo "_law_bag").ok) rfl)
  g_law_take := He.glo_ok X G (c.fact 34 (f := (He.Fa.glo "_law_take").ok) rfl)
  g_law_one := He.glo_ok X G (c.fact 35 (f := (He.Fa.glo "_law_one").ok) rfl)
  g_law_alike := He.glo_ok X G (c.fact 36 (f := (He.Fa.glo "_law_alike").ok) rfl)
  g_law_mixed := He.glo_ok X G (c.fact 37 (f := (He.Fa.glo "_law_mixed").ok) rfl)
  g_law_front := He.glo_ok X G (c.fact 38 (f := (He.Fa.glo "_law_front").ok) rfl)
  g_law_far_right := He.glo_ok X G (c.fact 39 (f := (He.Fa.glo "_law_far_right").ok) rfl)
  g_law := He.glo_ok X G (c.fact 40 (f := (He.Fa.glo "law").ok) rfl)
  g_Web := He.glo_ok X G (c.fact 41 (f := (He.Fa.glo "Web").ok) rfl)
  cl_Web := He.cls_ok (c.fact 42 (f := (He.Fa.cls "Web").ok) rfl)
  no_Web_size := He.noat_ok (c.fact 43 (f := (He.Fa.noat "Web" "size").ok) rfl)
  no_Web_grid := He.noat_ok (c.fact 44 (f := (He.Fa.noat "Web" "grid").ok) rfl)
  no_Web_ties := He.noat_ok (c.fact 45 (f := (He.Fa.noat "Web" "ties").ok) rfl)
  mk_Web := He.mkr_ok (c.fact 46 (f := (He.Fa.mkr "Web").ok) rfl)
  kt_Web__init := ktB_ok (c.fact 47 (f := ktB d_Web__init) rfl)
  me_Web_crossing := He.meth_ok (c.fact 48 (f := (He.Fa.meth "Web" "crossing").ok) rfl)
  g_POWERS := He.glo_ok X G (c.fact 49 (f := (He.Fa.glo "POWERS").ok) rfl)
  kt_POWERS := ktIB_ok (c.fact 50 (f := ktIB "POWERS" [1, 3, 9, 27, 81, 243]) rfl)
  isa := isaB_ok rfl rfl (c.fact 51 (f := isaB clA [0]) rfl)
  f_is_integer := c.def_ 0 (d := dx_is_integer) rfl
  f_is_count := c.def_ 1 (d := dx_is_count) rfl
  f_is_tie := c.def_ 2 (d := dx_is_tie) rfl
  f_summed := c.def_ 3 (d := dx_summed) rfl
  f_grid_of := c.def_ 4 (d := dx_grid_of) rfl
  f_Web__init := c.def_ 5 (d := dx_Web__init) rfl
  f_Web_crossing := c.def_ 6 (d := dx_Web_crossing) rfl
  f_check_size := c.def_ 7 (d := dx_check_size) rfl
  f_every_lots := c.def_ 8 (d := dx_every_lots) rfl
  f_reached := c.def_ 9 (d := dx_reached) rfl
  f_pieces := c.def_ 10 (d := dx_pieces) rfl
  f_odd_pieces := c.def_ 11 (d := dx_odd_pieces) rfl
  f_excess := c.def_ 12 (d := dx_excess) rfl
  f_front := c.def_ 13 (d := dx_front) rfl
  f_fronts_hold := c.def_ 14 (d := dx_fronts_hold) rfl
  f_lowest_excess := c.def_ 15 (d := dx_lowest_excess) rfl
  f_lack := c.def_ 16 (d := dx_lack) rfl
  f_complete := c.def_ 17 (d := dx_complete) rfl
  f_law_bag := c.def_ 18 (d := dx_law_bag) rfl
  f_law_take := c.def_ 19 (d := dx_law_take) rfl
  f_law_one := c.def_ 20 (d := dx_law_one) rfl
  f_law_alike := c.def_ 21 (d := dx_law_alike) rfl
  f_law_mixed := c.def_ 22 (d := dx_law_mixed) rfl
  f_law_front := c.def_ 23 (d := dx_law_front) rfl
  f_law_far_right := c.def_ 24 (d := dx_law_far_right) rfl
  f_law := c.def_ 25 (d := dx_law) rfl
theorem nd_Web {K : PySem.W.Frag} : ((cn K).fn 0).Nodup := (by decide : (flA 0).Nodup)
theorem nm_Web_crossing {K : PySem.W.Frag} : ("crossing" : Str) ∉ (cn K).fn 0 := (by decide : ("crossing" : Str) ∉ flA 0)
section
variable {P : Program} {w : World} {K : PySem.W.Frag} {mg : Str → Option Value} {base : Heap}
theorem sc_is_integer : FnScope ["thing"] ["thing"] (defScope s_is_integer) := ⟨rfl, rfl, rfl, by decide +kernel, rfl, by decide +kernel, by decide +kernel⟩
def b_is_integer : MS := (sRet (mAnd (mIsi [0] (.ty .int) (mVar 0)) (mNot (mIsi [0] (.ty .bool) (mVar 0)))))
def m_is_integer : MF := mDef 1 1 b_is_integer
theorem ar_is_integer : Ar 1 m_is_integer := mDef_ar
theorem ok_is_integer (T : Txt K mg) : ∃ fd, FnG P w K mg base 1 (a_is_integer K) fd ["thing"] (SpD (cn K) 1 m_is_integer) ∧ Binds K fd ["thing"] [] ∧ PySem.W.keepIn K (.ref (a_is_integer K)) = true := by
  obtain ⟨fd, F⟩ := T.f_is_integer
  refine ⟨fd, fn_ok (k := cn K) F sc_is_integer (by decide) fun cdv A outer s H E hr => ?_, F.bindsN fun _ _ _ _ _ _ us hl => match us, hl with | [_], _ => rfl, F.kp⟩
  have tk : Takes (cxOf (L2.CX P w) P w K mg base ["thing"] "is_integer" (defScope s_is_integer) (a_is_integer K) cdv A outer s H E) (fun c d _ H => E c d H) := takes_of rfl rfl rfl rfl
  exact (dss_one (ds_ret (de_and (de_isi (by rfl) T.n_isinstance T.isa rfl rfl (dv 0) (pe_bltn (v := .ty "int") (by rfl) T.n_int (by decide +kernel) rfl)) (de_one (de_not (de_isi (by rfl) T.n_isinstance T.isa rfl rfl (dv 0) (pe_bltn (v := .ty "bool") (by rfl) T.n_bool (by decide +kernel) rfl)))))))
theorem sc_is_count : FnScope ["thing", "least", "greatest"] ["thing", "least", "greatest"] (defScope s_is_count) := ⟨rfl, rfl, rfl, by decide +kernel, rfl, by decide +kernel, by decide +kernel⟩
def b_is_count : MS := (sRet (mAnd (mCall m_is_integer [] (mCons (mVar 0) mNil)) (mChain oLe oLe (mVar 1) (mVar 0) (mVar 2))))
def m_is_count : MF := mDef 3 3 b_is_count
theorem ar_is_count : Ar 3 m_is_count := mDef_ar
theorem ok_is_count (T : Txt K mg) : ∃ fd, FnG P w K mg base 2 (a_is_count K) fd ["thing", "least", "greatest"] (SpD (cn K) 3 m_is_count) ∧ Binds K fd ["thing", "least", "greatest"] [] ∧ PySem.W.keepIn K (.ref (a_is_count K)) = true := by
  obtain ⟨fd_is_integer, F_is_integer, B_is_integer, kp_is_integer⟩ := ok_is_integer (P := P) (w := w) (base := base) T
  obtain ⟨fd, F⟩ := T.f_is_count
  refine ⟨fd, fn_ok (k := cn K) F sc_is_count (by decide) fun cdv A outer s H E hr => ?_, F.bindsN fun _ _ _ _ _ _ us hl => match us, hl with | [_, _, _], _ => rfl, F.kp⟩
  have tk : Takes (cxOf (L2.CX P w) P w K mg base ["thing", "least", "greatest"] "is_count" (defScope s_is_count) (a_is_count K) cdv A outer s H E) (fun c d _ H => E c d H) := takes_of rfl rfl rfl rfl
  exact (dss_one (ds_ret (de_and (de_call tk F_is_integer ar_is_integer (hr.mono (by decide)) (by rfl) T.g_is_integer kp_is_integer B_is_integer .nil (fun _ _ _ => .nil) (da_cons (dv 0) da_nil)) (de_one (de_chain op_le d_le op_le d_le (dv 1) (dv 0) (dv 2))))))
theorem sc_is_tie : FnScope ["size", "thing", "u", "v", "number"] ["size", "thing"] (defScope s_is_tie) := ⟨rfl, rfl, rfl, by decide +kernel, rfl, by decide +kernel, by decide +kernel⟩
def b_is_tie_0 : MS := (sIf (tOrM (tNotM (mTst (mIsi [0] (.ty .tuple) (mVar 1)))) (mTst (mOp (oEqA true) (mAp oLen (mCons (mVar 1) mNil)) (mC (.int 3))))) (sRet (mC (.bl false))) sNext)
def b_is_tie_1 : MS := (sAsg (mVar 1) (Tgt.tp [2, 3, 4]).M)
def b_is_tie_2 : MS := (sIf (tOrM (tNotM (mTst (mCall m_is_count [] (mCons (mVar 2) (mCons (mC (.int 0)) (mCons (mOp oSub (mVar 0) (mC (.int 1))) mNil)))))) (tOrM (tNotM (mTst (mCall m_is_count [] (mCons (mVar 3) (mCons (mC (.int 0)) (mCons (mOp oSub (mVar 0) (mC (.int 1))) mNil)))))) (mTst (mOp (oEqA false) (mVar 2) (mVar 3))))) (sRet (mC (.bl false))) sNext)
def b_is_tie_3 : MS := (sRet (mCall m_is_count [] (mCons (mVar 4) (mCons (mC (.int 0)) (mCons (mC (.int 1000000000)) mNil)))))
def b_is_tie : MS := (sSeq b_is_tie_0 (sSeq b_is_tie_1 (sSeq b_is_tie_2 b_is_tie_3)))
def m_is_tie : MF := mDef 2 5 b_is_tie
theorem e_is_tie (x0 x1 : D) (C : Store) : m_is_tie [x0, x1] C = finS C.length (b_is_tie ⟨C.length, [some x0, some x1, none, none, none]⟩ C) := mDef_e rfl rfl
theorem ar_is_tie : Ar 2 m_is_tie := mDef_ar
theorem ok_is_tie (T : Txt K mg) : ∃ fd, FnG P w K mg base 3 (a_is_tie K) fd ["size", "thing"] (SpD (cn K) 2 m_is_tie) ∧ Binds K fd ["size", "thing"] [] ∧ PySem.W.keepIn K (.ref (a_is_tie K)) = true := by
  obtain ⟨fd_is_count, F_is_count, B_is_count, kp_is_count⟩ := ok_is_count (P := P) (w := w) (base := base) T
  obtain ⟨t_MOST, h_MOST⟩ := T.c_MOST
  obtain ⟨fd, F⟩ := T.f_is_tie
  refine ⟨fd, fn_ok (k := cn K) F sc_is_tie (by decide) fun cdv A outer s H E hr => ?_, F.bindsN fun _ _ _ _ _ _ us hl => match us, hl with | [_, _], _ => rfl, F.kp⟩
  have tk : Takes (cxOf (L2.CX P w) P w K mg base ["size", "thing", "u", "v", "number"] "is_tie" (defScope s_is_tie) (a_is_tie K) cdv A outer s H E) (fun c d _ H => E c d H) := takes_of rfl rfl rfl rfl
  exact (dss_cons (ds_if (PW.pt (dw_or (dt_not (dt_val (de_isi (by rfl) T.n_isinstance T.isa rfl rfl (dv 1) (pe_bltn (v := .ty "tuple") (by rfl) T.n_tuple (by decide +kernel) rfl)))) (dw_or1 (dt_cmp (op_ne.or (op_neD hr.room.units)) d_neA (de_callB call_len_seq d_len (by rfl) T.n_len (by decide +kernel) (da_cons (dv 1) da_nil)) de_int (nomark _))))) (dss_one (ds_ret de_bl)) dss_nil)
  (dss_cons (ds_asgT (dv 1) (tg_tp [2, 3, 4] rfl rfl (pgs_cons (pg_name (i := 2) sc_is_tie.nd rfl (Or.inl rfl)) (pgs_cons (pg_name (i := 3) sc_is_tie.nd rfl (Or.inl rfl)) (pgs_cons (pg_name (i := 4) sc_is_tie.nd rfl (Or.inl rfl)) pgs_nil)))))
  (dss_cons (ds_if (PW.pt (dw_or (dt_not (dt_val (de_call tk F_is_count ar_is_count (hr.mono (by decide)) (by rfl) T.g_is_count kp_is_count B_is_count .nil (fun _ _ _ => .nil) (da_cons (dv 2) (da_cons de_int (da_cons (de_op op_sub d_sub (dv 0) de_int) da_nil)))))) (dw_or (dt_not (dt_val (de_call tk F_is_count ar_is_count (hr.mono (by decide)) (by rfl) T.g_is_count kp_is_count B_is_count .nil (fun _ _ _ => .nil) (da_cons (dv 3) (da_cons de_int (da_cons (de_op op_sub d_sub (dv 0) de_int) da_nil)))))) (dw_or1 (dt_cmp (op_eq.or (op_eqD hr.room.units)) d_eqA (dv 2) (dv 3) (nomark _)))))) (dss_one (ds_ret de_bl)) dss_nil)
  (dss_one (ds_ret (de_call tk F_is_count ar_is_count (hr.mono (by decide)) (by rfl) T.g_is_count kp_is_count B_is_count .nil (fun _ _ _ => .nil) (da_cons (dv 4) (da_cons de_int (da_cons (de_glob (fun _ _ _ => .int _) (by rfl) h_MOST ⟨_, rfl⟩) da_nil)))))))))
theorem sc_summed : FnScope ["ties", "found", "u", "v", "number", "pair"] ["ties"] (defScope s_summed) := ⟨rfl, rfl, rfl, by decide +kernel, rfl, by decide +kernel, by decide +kernel⟩
def b_summed_0 : MS := (sAsg (mDNew true) (gN 1))
def b_summed_1b_0 : MS := (sAsg (mAp oTup (mCons (mAp oMin2 (mCons (mVar 2) (mCons (mVar 3) mNil))) (mCons (mAp oMax2 (mCons (mVar 2) (mCons (mVar 3) mNil))) mNil))) (gN 5))
def b_summed_1b_1 : MS := (sPut (mOp oAdd (mDGet (mVar 1) (mVar 5) (mC (.int 0))) (mVar 4)) (mVar 1) (mVar 5))
def b_summed_1 : MS := (sFor (mSeq (mVar 0)) (Tgt.tp [2, 3, 4]).M (sSeq b_summed_1b_0 b_summed_1b_1))
def b_summed_2 : MS := (sRet (mVar 1))
def b_summed : MS := (sSeq b_summed_0 (sSeq b_summed_1 b_summed_2))
def m_summed : MF := mDef 1 6 b_summed
theorem e_summed (x0 : D) (C : Store) : m_summed [x0] C = finS C.length (b_summed ⟨C.length, [some x0, none, none, none, none, none]⟩ C) := mDef_e rfl rfl
theorem ar_summed : Ar 1 m_summed := mDef_ar
theorem ok_summed (T : Txt K mg) : ∃ fd, FnG P w K mg base 1 (a_summed K) fd ["ties"] (SpD (cn K) 1 m_summed) ∧ Binds K fd ["ties"] [] ∧ PySem.W.keepIn K (.ref (a_summed K)) = true := by
  obtain ⟨fd, F⟩ := T.f_summed
  refine ⟨fd, fn_ok (k := cn K) F sc_summed (by decide) fun cdv A outer s H E hr => ?_, F.bindsN fun _ _ _ _ _ _ us hl => match us, hl with | [_], _ => rfl, F.kp⟩
  have tk : Takes (cxOf (L2.CX P w) P w K mg base ["ties", "found", "u", "v", "number", "pair"] "summed" (defScope s_summed) (a_summed K) cdv A outer s H E) (fun c d _ H => E c d H) := takes_of rfl rfl rfl rfl
  exact (dss_cons (ds_set (i := 1) sc_summed.nd rfl (Or.inl rfl) (de_dnew true))
  (dss_cons (ds_for (passes_of rfl) rfl (di_seq rfl (dv 0)) (tg_tp [2, 3, 4] rfl rfl (pgs_cons (pg_name (i := 2) sc_summed.nd rfl (Or.inl rfl)) (pgs_cons (pg_name (i := 3) sc_summed.nd rfl (Or.inl rfl)) (pgs_cons (pg_name (i := 4) sc_summed.nd rfl (Or.inl rfl)) pgs_nil)))) (dss_cons (ds_set (i := 5) sc_summed.nd rfl (Or.inl rfl) (de_tup (da_cons (de_callB (call_min2 rfl) d_min2 (by rfl) T.n_min (by decide +kernel) (da_cons (dv 2) (da_cons (dv 3) da_nil))) (da_cons (de_callB (call_max2 rfl) d_max2 (by rfl) T.n_max (by decide +kernel) (da_cons (dv 2) (da_cons (dv 3) da_nil))) da_nil))))
  (dss_one (ds_put (hu_of hr.room) (de_op op_add d_add (de_dget (hu_of hr.room) (dv 1) (dv 5) de_int) (dv 4)) (dv 1) (dv 5)))))
  (dss_one (ds_ret (dv 1)))))
theorem sc_grid_of : FnScope ["size", "ties", "found", "u", "v"] ["size", "ties"] (defScope s_grid_of) := ⟨rfl, rfl, rfl, by decide +kernel, rfl, by decide +kernel, by decide +kernel⟩
def b_grid_of_0 : MS := (sAsg (mCall m_summed [] (mCons (mVar 1) mNil)) (gN 2))
def b_grid_of_1 : MS := (sRet (mLc false (mRng1 (mVar 0)) (Tgt.nm 3).M tYesM (mLc false (mRng1 (mVar 0)) (Tgt.nm 4).M tYesM (mDGet (mVar 2) (mAp oTup (mCons (mAp oMin2 (mCons (mVar 3) (mCons (mVar 4) mNil))) (mCons (mAp oMax2 (mCons (mVar 3) (mCons (mVar 4) mNil))) mNil))) (mC (.int 0))) [4]) [3]))
def b_grid_of : MS := (sSeq b_grid_of_0 b_grid_of_1)
def m_grid_of : MF := mDef 2 5 b_grid_of
theorem e_grid_of (x0 x1 : D) (C : Store) : m_grid_of [x0, x1] C = finS C.length (b_grid_of ⟨C.length, [some x0, some x1, none, none, none]⟩ C) := mDef_e rfl rfl
theorem ar_grid_of : Ar 2 m_grid_of := mDef_ar
theorem ok_grid_of (T : Txt K mg) : ∃ fd, FnG P w K mg base 2 (a_grid_of K) fd ["size", "ties"] (SpD (cn K) 2 m_grid_of) ∧ Binds K fd ["size", "ties"] [] ∧ PySem.W.keepIn K (.ref (a_grid_of K)) = true := by
  obtain ⟨fd_summed, F_summed, B_summed, kp_summed⟩ := ok_summed (P := P) (w := w) (base := base) T
  obtain ⟨fd, F⟩ := T.f_grid_of
  refine ⟨fd, fn_ok (k := cn K) F sc_grid_of (by decide) fun cdv A outer s H E hr => ?_, F.bindsN fun _ _ _ _ _ _ us hl => match us, hl with | [_, _], _ => rfl, F.kp⟩
  have tk : Takes (cxOf (L2.CX P w) P w K mg base ["size", "ties", "found", "u", "v"] "grid_of" (defScope s_grid_of) (a_grid_of K) cdv A outer s H E) (fun c d _ H => E c d H) := takes_of rfl rfl rfl rfl
  exact (dss_cons (ds_set (i := 2) sc_grid_of.nd rfl (Or.inr rfl) (de_call tk F_summed ar_summed (hr.mono (by decide)) (by rfl) T.g_summed kp_summed B_summed .nil (fun _ _ _ => .nil) (da_cons (dv 1) da_nil)))
  (dss_one (ds_ret (de_lc (own := [("u", 3)]) false rfl rfl sc_grid_of.nd (di_rng1 (by rfl) T.n_range (dv 0)) (blkOk_by (own := [("u", 3)]) rfl) (by decide) (fun _ _ _ _ _ => (tg_nm (i := 3) sc_grid_of.nd rfl (by first | exact Or.inl rfl | exact Or.inr rfl))) (fun _ _ _ _ _ => dts_nil) (fun _ _ _ _ _ => (de_lc (own := [("v", 4)]) false rfl rfl sc_grid_of.nd (di_rng1 (by rfl) T.n_range (dv 0)) (blkOk_by (own := [("v", 4)]) rfl) (by decide) (fun _ _ _ _ _ => (tg_nm (i := 4) sc_grid_of.nd rfl (by first | exact Or.inl rfl | exact Or.inr rfl))) (fun _ _ _ _ _ => dts_nil) (fun _ _ _ _ _ => (de_dget (hu_of hr.room) (dv 2) (de_tup (da_cons (de_callB (call_min2 rfl) d_min2 (by rfl) T.n_min (by decide +kernel) (da_cons (dv 3) (da_cons (dv 4) da_nil))) (da_cons (de_callB (call_max2 rfl) d_max2 (by rfl) T.n_max (by decide +kernel) (da_cons (dv 3) (da_cons (dv 4) da_nil))) da_nil))) de_int))))))))
theorem sc_Web__init : FnScope ["self", "size", "ties", "at", "item", "grid", "pairs", "line", "number", "u", "v"] ["self", "size", "ties"] (defScope s_Web__init) := ⟨rfl, rfl, rfl, by decide +kernel, rfl, by decide +kernel, by decide +kernel⟩
def b_Web__init_0 : MS := (sIf (tNotM (mTst (mCall m_is_count [] (mCons (mVar 1) (mCons (mC (.int 0)) (mCons (mC (.int 60)) mNil)))))) sNever sNext)
def b_Web__init_1 : MS := (sIf (tNotM (mTst (mIsi2 [0] (.ty .list) (.ty .tuple) (mVar 2)))) sNever sNext)
def b_Web__init_2b_0 : MS := (sIf (tNotM (mTst (mCall m_is_tie [] (mCons (mVar 1) (mCons (mVar 4) mNil))))) sNever sNext)
def b_Web__init_2 : MS := (sFor (mEnum (mVar 2)) (Tgt.tp [3, 4]).M b_Web__init_2b_0)
def b_Web__init_3 : MS := (sAsg (mCall m_grid_of [] (mCons (mVar 1) (mCons (mVar 2) mNil))) (gN 5))
def b_Web__init_4 : MS := (sIf (mTst (mAp oAny (mCons (mLc2 false (mSeq (mVar 5)) (Tgt.nm 7).M tYesM (mSeq (mVar 7)) (Tgt.nm 8).M tYesM (mOp oGt (mVar 8) (mC (.int 1000000000))) [7, 8] [8]) mNil))) sNever sNext)
def b_Web__init_5 : MS := (sAsg (mLc2 false (mRng1 (mVar 1)) (Tgt.nm 9).M tYesM (mRng2 (mOp oAdd (mVar 9) (mC (.int 1))) (mVar 1)) (Tgt.nm 10).M tYesM (mAp oTup (mCons (mVar 9) (mCons (mVar 10) mNil))) [9, 10] [10]) (gN 6))
def b_Web__init_6 : MS := (sFldS 0 0 (mVar 1) (mVar 0))
def b_Web__init_7 : MS := (sFldS 0 1 (mVar 5) (mVar 0))
def b_Web__init_8 : MS := (sFldS 0 2 (mAp oTupOf (mCons (mLc false (mSeq (mVar 6)) (Tgt.tp [9, 10]).M (mTst (mOp oGt (mOp oIx (mOp oIx (mVar 5) (mVar 9)) (mVar 10)) (mC (.int 0)))) (mAp oTup (mCons (mVar 9) (mCons (mVar 10) (mCons (mOp oIx (mOp oIx (mVar 5) (mVar 9)) (mVar 10)) mNil)))) [9, 10]) mNil)) (mVar 0))
def b_Web__init : MS := (sSeq b_Web__init_0 (sSeq b_Web__init_1 (sSeq b_Web__init_2 (sSeq b_Web__init_3 (sSeq b_Web__init_4 (sSeq b_Web__init_5 (sSeq b_Web__init_6 (sSeq b_Web__init_7 b_Web__init_8))))))))
def m_Web__init : MF := mDef 3 11 b_Web__init
theorem e_Web__init (x0 x1 x2 : D) (C : Store) : m_Web__init [x0, x1, x2] C = finS C.length (b_Web__init ⟨C.length, [some x0, some x1, some x2, none, none, none, none, none, none, none, none]⟩ C) := mDef_e rfl rfl
theorem ar_Web__init : Ar 3 m_Web__init := mDef_ar
theorem ok_Web__init (T : Txt K mg) : ∃ fd, FnG P w K mg base 4 (a_Web__init K) fd ["self", "size", "ties"] (SpD (cn K) 3 m_Web__init) ∧ Binds K fd ["self", "size", "ties"] [] ∧ PySem.W.keepIn K (.ref (a_Web__init K)) = true ∧ ∃ ds, Vals [V.ref (d_Web__init K)] ds ∧ Binds K fd ["self", "size", "ties"] ds := by
  obtain ⟨fd_is_count, F_is_count, B_is_count, kp_is_count⟩ := ok_is_count (P := P) (w := w) (base := base) T
  obtain ⟨fd_is_tie, F_is_tie, B_is_tie, kp_is_tie⟩ := ok_is_tie (P := P) (w := w) (base := base) T
  obtain ⟨fd_grid_of, F_grid_of, B_grid_of, kp_grid_of⟩ := ok_grid_of (P := P) (w := w) (base := base) T
  obtain ⟨t_MOST, h_MOST⟩ := T.c_MOST
  obtain ⟨fd, F⟩ := T.f_Web__init
  refine ⟨fd, fn_ok (k := cn K) F sc_Web__init (by decide) fun cdv A outer s H E hr => ?_, ?b0, F.kp, ?b1⟩
  rotate_left
  · obtain ⟨ds, v, b⟩ := F.binds1 (ps := ["self", "size", "ties"]) 3 1 (List.cons_ne_nil _ _) rfl fun _ _ _ _ _ _ _ us its h1 h2 => match us, its, h1, h2 with | [_, _, _], [_], _, _ => ⟨_, rfl, by with_unfolding_all rfl⟩
    cases v
    exact b
  · exact F.binds1 2 0 (List.cons_ne_nil _ _) rfl fun _ _ _ _ _ _ _ us its h1 h2 => match us, its, h1, h2 with | [_, _], [_], _, _ => ⟨_, rfl, rfl⟩
  have tk : Takes (cxOf (L2.CX P w) P w K mg base ["self", "size", "ties", "at", "item", "grid", "pairs", "line", "number", "u", "v"] "Web.__init__" (defScope s_Web__init) (a_Web__init K) cdv A outer s H E) (fun c d _ H => E c d H) := takes_of rfl rfl rfl rfl
  exact (dss_cons (ds_if (dt_not (dt_val (de_call tk F_is_count ar_is_count (hr.mono (by decide)) (by rfl) T.g_is_count kp_is_count B_is_count .nil (fun _ _ _ => .nil) (da_cons (dv 1) (da_cons de_int (da_cons de_int da_nil)))))) (dss_one ds_never) dss_nil)
  (dss_cons (ds_if (dt_not (dt_val (de_isi2 (by rfl) T.n_isinstance T.isa rfl rfl rfl (dv 2) (pe_bltn (v := .ty "list") (by rfl) T.n_list (by decide +kernel) rfl) (pe_bltn (v := .ty "tuple") (by rfl) T.n_tuple (by decide +kernel) rfl)))) (dss_one ds_never) dss_nil)
  (dss_cons (ds_for (passes_of rfl) rfl (di_enum (by rfl) T.n_enumerate rfl (dv 2)) (tg_tp [3, 4] rfl rfl (pgs_cons (pg_name (i := 3) sc_Web__init.nd rfl (Or.inl rfl)) (pgs_cons (pg_name (i := 4) sc_Web__init.nd rfl (Or.inl rfl)) pgs_nil))) (dss_one (ds_if (dt_not (dt_val (de_call tk F_is_tie ar_is_tie (hr.mono (by decide)) (by rfl) T.g_is_tie kp_is_tie B_is_tie .nil (fun _ _ _ => .nil) (da_cons (dv 1) (da_cons (dv 4) da_nil))))) (dss_one ds_never) dss_nil)))
  (dss_cons (ds_set (i := 5) sc_Web__init.nd rfl (Or.inr rfl) (de_call tk F_grid_of ar_grid_of (hr.mono (by decide)) (by rfl) T.g_grid_of kp_grid_of B_grid_of .nil (fun _ _ _ => .nil) (da_cons (dv 1) (da_cons (dv 2) da_nil))))
  (dss_cons (ds_if (dt_val (de_callB (cr_any rfl) d_any (by rfl) T.n_any (by decide +kernel) (da_cons (de_lc2 (own := [("line", 7), ("number", 8)]) (vs1 := [8]) false rfl rfl sc_Web__init.nd (di_seq rfl (dv 5)) (blkOk_by (own := [("line", 7), ("number", 8)]) rfl) (by decide) (by decide) (by decide) (fun _ _ _ _ _ => (tg_nm (i := 7) sc_Web__init.nd rfl (by first | exact Or.inl rfl | exact Or.inr rfl))) (fun _ _ _ _ _ => dts_nil) (fun _ _ _ _ _ => (di_seq rfl (dv 7))) (fun _ _ _ _ _ => (tg_nm (i := 8) sc_Web__init.nd rfl (by first | exact Or.inl rfl | exact Or.inr rfl))) (fun _ _ _ _ _ => dts_nil) (fun _ _ _ _ _ => (de_cmp op_gt d_gt (dv 8) (de_glob (fun _ _ _ => .int _) (by rfl) h_MOST ⟨_, rfl⟩) (nomark _)))) da_nil))) (dss_one ds_never) dss_nil)
  (dss_cons (ds_setLc2 (i := 6) (own := [("u", 9), ("v", 10)]) (vs1 := [10]) false rfl rfl sc_Web__init.nd rfl rfl (sw_true rfl rfl rfl (by decide +kernel)) (di_rng1 (by rfl) T.n_range (dv 1)) (blkOk_by (own := [("u", 9), ("v", 10)]) rfl) (by decide) (by decide) (by decide) (fun _ _ _ _ _ => (tg_nm (i := 9) sc_Web__init.nd rfl (by first | exact Or.inl rfl | exact Or.inr rfl))) (fun _ _ _ _ _ => dts_nil) (fun _ _ _ _ _ => (di_rng2 (by rfl) T.n_range (de_op op_add d_add (dv 9) de_int) (dv 1))) (fun _ _ _ _ _ => (tg_nm (i := 10) sc_Web__init.nd rfl (by first | exact Or.inl rfl | exact Or.inr rfl))) (fun _ _ _ _ _ => dts_nil) (fun _ _ _ _ _ => (de_tup (da_cons (dv 9) (da_cons (dv 10) da_nil)))))
  (dss_cons (ds_fld 0 0 rfl T.cl_Web T.no_Web_size nd_Web rfl (show 3 < 1000 by decide) (dv 0) (dv 1))
  (dss_cons (ds_fld 0 1 rfl T.cl_Web T.no_Web_grid nd_Web rfl (show 3 < 1000 by decide) (dv 0) (dv 5))
  (dss_one (ds_fld 0 2 rfl T.cl_Web T.no_Web_ties nd_Web rfl (show 3 < 1000 by decide) (dv 0) (de_callTy call_tuple_of d_tupOf (by rfl) T.n_tuple (by decide +kernel) (da_cons (de_lc (own := [("u", 9), ("v", 10)]) false rfl rfl sc_Web__init.nd (di_seq rfl (dv 6)) (blkOk_by (own := [("u", 9), ("v", 10)]) rfl) (by decide) (fun _ _ _ _ _ => (tg_tp [9, 10] rfl rfl (pgs_cons (pg_name (i := 9) sc_Web__init.nd rfl (by first | exact Or.inl rfl | exact Or.inr rfl)) (pgs_cons (pg_name (i := 10) sc_Web__init.nd rfl (by first | exact Or.inl rfl | exact Or.inr rfl)) pgs_nil)))) (fun _ _ _ _ _ => (pts_one (dt_cmp op_gt d_gt (de_ix ix_seq d_ix (de_ix ix_seq d_ix (dv 5) (dv 9)) (dv 10)) de_int (nomark _)))) (fun _ _ _ _ _ => (de_tup (da_cons (dv 9) (da_cons (dv 10) (da_cons (de_ix ix_seq d_ix (de_ix ix_seq d_ix (dv 5) (dv 9)) (dv 10)) da_nil)))))) da_nil))))))))))))
theorem sc_Web_crossing : FnScope ["self", "ones", "others", "u", "v"] ["self", "ones", "others"] (defScope s_Web_crossing) := ⟨rfl, rfl, rfl, by decide +kernel, rfl, by decide +kernel, by decide +kernel⟩
def b_Web_crossing : MS := (sRet (mAp oSum (mCons (mLc2 false (mSeq (mVar 1)) (Tgt.nm 3).M tYesM (mSeq (mVar 2)) (Tgt.nm 4).M tYesM (mOp oIx (mOp oIx (mUn (oFld 0 1) (mVar 0)) (mVar 3)) (mVar 4)) [3, 4] [4]) mNil)))
def m_Web_crossing : MF := mDef 3 5 b_Web_crossing
theorem e_Web_crossing (x0 x1 x2 : D) (C : Store) : m_Web_crossing [x0, x1, x2] C = finS C.length (b_Web_crossing ⟨C.length, [some x0, some x1, some x2, none, none]⟩ C) := mDef_e rfl rfl
theorem ar_Web_crossing : Ar 3 m_Web_crossing := mDef_ar
theorem ok_Web_crossing (T : Txt K mg) : ∃ fd, FnG P w K mg base 1 (a_Web_crossing K) fd ["self", "ones", "others"] (SpD (cn K) 3 m_Web_crossing) ∧ Binds K fd ["self", "ones", "others"] [] ∧ PySem.W.keepIn K (.ref (a_Web_crossing K)) = true := by
  obtain ⟨fd, F⟩ := T.f_Web_crossing
  refine ⟨fd, fn_ok (k := cn K) F sc_Web_crossing (by decide) fun cdv A outer s H E hr => ?_, F.bindsN fun _ _ _ _ _ _ us hl => match us, hl with | [_, _, _], _ => rfl, F.kp⟩
  have tk : Takes (cxOf (L2.CX P w) P w K mg base ["self", "ones", "others", "u", "v"] "Web.crossing" (defScope s_Web_crossing) (a_Web_crossing K) cdv A outer s H E) (fun c d _ H => E c d H) := takes_of rfl rfl rfl rfl
  exact (dss_one (ds_ret (de_callB (cr_sum rfl) d_sum (by rfl) T.n_sum (by decide +kernel) (da_cons (de_lc2 (own := [("u", 3), ("v", 4)]) (vs1 := [4]) false rfl rfl sc_Web_crossing.nd (di_seq rfl (dv 1)) (blkOk_by (own := [("u", 3), ("v", 4)]) rfl) (by decide) (by decide) (by decide) (fun _ _ _ _ _ => (tg_nm (i := 3) sc_Web_crossing.nd rfl (by first | exact Or.inl rfl | exact Or.inr rfl))) (fun _ _ _ _ _ => dts_nil) (fun _ _ _ _ _ => (di_seq rfl (dv 2))) (fun _ _ _ _ _ => (tg_nm (i := 4) sc_Web_crossing.nd rfl (by first | exact Or.inl rfl | exact Or.inr rfl))) (fun _ _ _ _ _ => dts_nil) (fun _ _ _ _ _ => (de_ix ix_seq d_ix (de_ix ix_seq d_ix (de_fld 0 1 rfl T.cl_Web T.no_Web_grid nd_Web rfl (dv 0)) (dv 3)) (dv 4)))) da_nil))))
theorem sc_check_size : FnScope ["web"] ["web"] (defScope s_check_size) := ⟨rfl, rfl, rfl, by decide +kernel, rfl, by decide +kernel, by decide +kernel⟩
def b_check_size : MS := (sIf (mTst (mOp oGt (mUn (oFld 0 0) (mVar 0)) (mC (.int 5)))) sNever sNext)
def m_check_size : MF := mDef 1 1 b_check_size
theorem e_check_size (x0 : D) (C : Store) : m_check_size [x0] C = finS C.length (b_check_size ⟨C.length, [some x0]⟩ C) := mDef_e rfl rfl
theorem ar_check_size : Ar 1 m_check_size := mDef_ar
theorem ok_check_size (T : Txt K mg) : ∃ fd, FnG P w K mg base 1 (a_check_size K) fd ["web"] (SpD (cn K) 1 m_check_size) ∧ Binds K fd ["web"] [] ∧ PySem.W.keepIn K (.ref (a_check_size K)) = true := by
  obtain ⟨fd, F⟩ := T.f_check_size
  refine ⟨fd, fn_ok (k := cn K) F sc_check_size (by decide) fun cdv A outer s H E hr => ?_, F.bindsN fun _ _ _ _ _ _ us hl => match us, hl with | [_], _ => rfl, F.kp⟩
  have tk : Takes (cxOf (L2.CX P w) P w K mg base ["web"] "check_size" (defScope s_check_size) (a_check_size K) cdv A outer s H E) (fun c d _ H => E c d H) := takes_of rfl rfl rfl rfl
  exact (dss_one (ds_if (dt_cmp op_gt d_gt (de_fld 0 0 rfl T.cl_Web T.no_Web_size nd_Web rfl (dv 0)) de_int (nomark _)) (dss_one ds_never) dss_nil))
theorem sc_every_lots : GScope ["size", "code", "marks", "first", "second", "v", "mark"] ["size"] (defScope s_every_lots) := ⟨rfl, rfl, rfl, by decide +kernel, rfl, by decide +kernel, by decide +kernel⟩
def b_every_lots_0 : MS := (sAsg (mLc false (mRng1 (mVar 0)) (Tgt.nm 5).M tYesM (mOp oMod (mOp oDiv (mVar 1) (mOp oIx (mC (ktI [1, 3, 9, 27, 81, 243])) (mOp oSub (mOp oSub (mVar 0) (mC (.int 1))) (mVar 5)))) (mC (.int 3))) [5]) (gN 2))
def b_every_lots_1 : MS := (sAsg (mAp oTupOf (mCons (mLc false (mEnum (mVar 2)) (Tgt.tp [5, 6]).M (mTst (mOp (oEqA false) (mVar 6) (mC (.int 1)))) (mVar 5) [5, 6]) mNil)) (gN 3))
def b_every_lots_2 : MS := (sAsg (mAp oTupOf (mCons (mLc false (mEnum (mVar 2)) (Tgt.tp [5, 6]).M (mTst (mOp (oEqA false) (mVar 6) (mC (.int 2)))) (mVar 5) [5, 6]) mNil)) (gN 4))
def gi_every_lots : ME := (mOp oIx (mC (ktI [1, 3, 9, 27, 81, 243])) (mVar 0))
def gb_every_lots : MS := (sSeq b_every_lots_0 (sSeq b_every_lots_1 b_every_lots_2))
def ge_every_lots : ME := (mAp oTup (mCons (mVar 3) (mCons (mVar 4) mNil)))
def L_every_lots : List Int → Option (List D) := genL 1 7 1 gi_every_lots gb_every_lots ge_every_lots
theorem ok_every_lots (T : Txt K mg) : ∃ fd, GV.GnG P w K mg base 1 (a_every_lots K) fd ["size"] ["size", "code", "marks", "first", "second", "v", "mark"] (SpG (cn K) L_every_lots) ∧ Binds K fd ["size"] [] ∧ PySem.W.keepIn K (.ref (a_every_lots K)) = true := by
  obtain ⟨fd, F⟩ := T.f_every_lots
  refine ⟨fd, gn_ok (k := cn K) (lev := 0) (ci := 1) (mi := gi_every_lots) (mb := gb_every_lots) (me := ge_every_lots) (bs := (gBody (defBody s_every_lots)).dropLast) F sc_every_lots (by decide) (by rfl) T.n_range fun cdv Aw outer n0 a go os0 H0 s0 hr => ⟨by rfl, ?_, ?_, ?_, ?_⟩, F.bindsN fun _ _ _ _ _ _ us hl => match us, hl with | [_], _ => rfl, F.kp⟩
  · exact (de_ix ix_seq d_ix (de_glob (fun _ _ _ => .ktup T.kt_POWERS RepL.ints) (by rfl) T.g_POWERS rfl) (dv 0))
  · exact (tg_nm (i := 1) sc_every_lots.nd rfl (Or.inr rfl))
  · exact (dss_cons (ds_setLc (i := 2) (own := [("v", 5)]) false rfl rfl sc_every_lots.nd rfl rfl (sw_true rfl rfl rfl (by decide +kernel)) (di_rng1 (by rfl) T.n_range (dv 0)) (blkOk_by (own := [("v", 5)]) rfl) (by decide) (fun _ _ _ _ _ => (tg_nm (i := 5) sc_every_lots.nd rfl (by first | exact Or.inl rfl | exact Or.inr rfl))) (fun _ _ _ _ _ => dts_nil) (fun _ _ _ _ _ => (de_op op_mod d_mod (de_op op_fdivW d_div (dv 1) (de_ix ix_seq d_ix (de_glob (fun _ _ _ => .ktup T.kt_POWERS RepL.ints) (by rfl) T.g_POWERS rfl) (de_op op_sub d_sub (de_op op_sub d_sub (dv 0) de_int) (dv 5)))) de_int)))
  (dss_cons (ds_set (i := 3) sc_every_lots.nd rfl (Or.inl rfl) (de_callTy call_tuple_of d_tupOf (by rfl) T.n_tuple (by decide +kernel) (da_cons (de_lc (own := [("v", 5), ("mark", 6)]) false rfl rfl sc_every_lots.nd (di_enum (by rfl) T.n_enumerate rfl (dv 2)) (blkOk_by (own := [("v", 5), ("mark", 6)]) rfl) (by decide) (fun _ _ _ _ _ => (tg_tp [5, 6] rfl rfl (pgs_cons (pg_name (i := 5) sc_every_lots.nd rfl (by first | exact Or.inl rfl | exact Or.inr rfl)) (pgs_cons (pg_name (i := 6) sc_every_lots.nd rfl (by first | exact Or.inl rfl | exact Or.inr rfl)) pgs_nil)))) (fun _ _ _ _ _ => (pts_one (dt_cmp (op_eq.or (op_eqD hr.room.units)) d_eqA (dv 6) de_int (nomark _)))) (fun _ _ _ _ _ => (dv 5))) da_nil)))
  (dss_one (ds_set (i := 4) sc_every_lots.nd rfl (Or.inl rfl) (de_callTy call_tuple_of d_tupOf (by rfl) T.n_tuple (by decide +kernel) (da_cons (de_lc (own := [("v", 5), ("mark", 6)]) false rfl rfl sc_every_lots.nd (di_enum (by rfl) T.n_enumerate rfl (dv 2)) (blkOk_by (own := [("v", 5), ("mark", 6)]) rfl) (by decide) (fun _ _ _ _ _ => (tg_tp [5, 6] rfl rfl (pgs_cons (pg_name (i := 5) sc_every_lots.nd rfl (by first | exact Or.inl rfl | exact Or.inr rfl)) (pgs_cons (pg_name (i := 6) sc_every_lots.nd rfl (by first | exact Or.inl rfl | exact Or.inr rfl)) pgs_nil)))) (fun _ _ _ _ _ => (pts_one (dt_cmp (op_eq.or (op_eqD hr.room.units)) d_eqA (dv 6) de_int (nomark _)))) (fun _ _ _ _ _ => (dv 5))) da_nil))))))
  · exact (de_tup (da_cons (dv 3) (da_cons (dv 4) da_nil)))
theorem sc_reached : FnScope ["web", "start", "open_places", "piece", "at", "grid", "near", "v"] ["web", "start", "open_places"] (defScope s_reached) := ⟨rfl, rfl, rfl, by decide +kernel, rfl, by decide +kernel, by decide +kernel⟩
def b_reached_0 : MS := (sPar [3, 4] (mCons (mAp (oLst true) (mCons (mVar 1) mNil)) (mCons (mC (.int 0)) mNil)))
def b_reached_1 : MS := (sSetL (mC (.bl false)) (mVar 2) (mVar 1))
def b_reached_2b_0 : MS := (sAsg (mOp oIx (mUn (oFld 0 1) (mVar 0)) (mOp oIx (mVar 3) (mVar 4))) (gN 5))
def b_reached_2b_1 : MS := (sAsg (mLc false (mRng1 (mUn (oFld 0 0) (mVar 0))) (Tgt.nm 7).M (tAndM (mTst (mOp oIx (mVar 2) (mVar 7))) (mTst (mOp oGt (mOp oIx (mVar 5) (mVar 7)) (mC (.int 0))))) (mVar 7) [7]) (gN 6))
def b_reached_2b_2b_0 : MS := (sSetL (mC (.bl false)) (mVar 2) (mVar 7))
def b_reached_2b_2 : MS := (sFor (mSeq (mVar 6)) (Tgt.nm 7).M b_reached_2b_2b_0)
def b_reached_2b_3 : MS := (sDrop (mExtend (mVar 3) (mVar 6)))
def b_reached_2b_4 : MS := (sAug 4 (· + ·) (mC (.int 1)))
def b_reached_2 : MS := (sWhile 100 (mTst (mOp oLt (mVar 4) (mAp oLen (mCons (mVar 3) mNil)))) (sSeq b_reached_2b_0 (sSeq b_reached_2b_1 (sSeq b_reached_2b_2 (sSeq b_reached_2b_3 b_reached_2b_4)))))
def b_reached_3 : MS := (sRet (mAp oTupOf (mCons (mAp (oSortQ false) (mCons (mVar 3) mNil)) mNil)))
def b_reached : MS := (sSeq b_reached_0 (sSeq b_reached_1 (sSeq b_reached_2 b_reached_3)))
def m_reached : MF := mDef 3 8 b_reached
theorem e_reached (x0 x1 x2 : D) (C : Store) : m_reached [x0, x1, x2] C = finS C.length (b_reached ⟨C.length, [some x0, some x1, some x2, none, none, none, none, none]⟩ C) := mDef_e rfl rfl
theorem ar_reached : Ar 3 m_reached := mDef_ar
theorem ok_reached (T : Txt K mg) : ∃ fd, FnG P w K mg base 1 (a_reached K) fd ["web", "start", "open_places"] (SpD (cn K) 3 m_reached) ∧ Binds K fd ["web", "start", "open_places"] [] ∧ PySem.W.keepIn K (.ref (a_reached K)) = true := by
  obtain ⟨fd, F⟩ := T.f_reached
  refine ⟨fd, fn_ok (k := cn K) F sc_reached (by decide) fun cdv A outer s H E hr => ?_, F.bindsN fun _ _ _ _ _ _ us hl => match us, hl with | [_, _, _], _ => rfl, F.kp⟩
  have tk : Takes (cxOf (L2.CX P w) P w K mg base ["web", "start", "open_places", "piece", "at", "grid", "near", "v"] "reached" (defScope s_reached) (a_reached K) cdv A outer s H E) (fun c d _ H => E c d H) := takes_of rfl rfl rfl rfl
  exact (dss_cons (ds_par (i := 3) (j := 4) rfl sc_reached.nd rfl rfl (by decide) rfl rfl (da_cons (de_lst true (da_cons (dv 1) da_nil)) (da_cons de_int da_nil)))
  (dss_cons (ds_setL de_bl (pg_sub (dv 2) (dv 1) set_list))
  (dss_cons (ds_while 100 (passes_of rfl) (dt_cmp op_lt d_lt (dv 4) (de_callB call_len_seq d_len (by rfl) T.n_len (by decide +kernel) (da_cons (dv 3) da_nil)) (nomark _)) (dss_cons (ds_set (i := 5) sc_reached.nd rfl (Or.inr rfl) (de_ix ix_seq d_ix (de_fld 0 1 rfl T.cl_Web T.no_Web_grid nd_Web rfl (dv 0)) (de_ix ix_seq d_ix (dv 3) (dv 4))))
  (dss_cons (ds_setLc (i := 6) (own := [("v", 7)]) false rfl rfl sc_reached.nd rfl rfl (sw_true rfl rfl rfl (by decide +kernel)) (di_rng1 (by rfl) T.n_range (de_fld 0 0 rfl T.cl_Web T.no_Web_size nd_Web rfl (dv 0))) (blkOk_by (own := [("v", 7)]) rfl) (by decide) (fun _ _ _ _ _ => (tg_nm (i := 7) sc_reached.nd rfl (by first | exact Or.inl rfl | exact Or.inr rfl))) (fun _ _ _ _ _ => (pts_one (PW.pt (dw_and (dt_val (de_ix ix_seq d_ix (dv 2) (dv 7))) (dw_and1 (dt_cmp op_gt d_gt (de_ix ix_seq d_ix (dv 5) (dv 7)) de_int (nomark _))))))) (fun _ _ _ _ _ => (dv 7)))
  (dss_cons (ds_for (passes_of rfl) rfl (di_seq rfl (dv 6)) (tg_nm (i := 7) sc_reached.nd rfl (Or.inl rfl)) (dss_one (ds_setL de_bl (pg_sub (dv 2) (dv 7) set_list))))
  (dss_cons (ds_expr (de_extend rfl (dv 3) (dv 6)))
  (dss_one (ds_aug (i := 4) sc_reached.nd rfl (Or.inl rfl) de_int ip_add)))))))
  (dss_one (ds_ret (de_callTy call_tuple_of d_tupOf (by rfl) T.n_tuple (by decide +kernel) (da_cons (de_callB ((cr_sortA hr.u200).or (cr_sortP hr.u200)) d_sortQ (by rfl) T.n_sorted (by decide +kernel) (da_cons (dv 3) da_nil)) da_nil)))))))
theorem sc_pieces : FnScope ["web", "lots", "open_places", "v", "found"] ["web", "lots"] (defScope s_pieces) := ⟨rfl, rfl, rfl, by decide +kernel, rfl, by decide +kernel, by decide +kernel⟩
def b_pieces_0 : MS := (sAsg (mOp (oRep true) (mAp (oLst false) (mCons (mC (.bl true)) mNil)) (mUn (oFld 0 0) (mVar 0))) (gN 2))
def b_pieces_1b_0 : MS := (sSetL (mC (.bl false)) (mVar 2) (mVar 3))
def b_pieces_1 : MS := (sFor (mSeq (mOp oCatT (mOp oIx (mVar 1) (mC (.int 0))) (mOp oIx (mVar 1) (mC (.int 1))))) (Tgt.nm 3).M b_pieces_1b_0)
def b_pieces_2 : MS := (sAsg (mAp (oLst true) mNil) (gN 4))
def b_pieces_3b_0 : MS := (sIf (mTst (mOp oIx (mVar 2) (mVar 3))) (sDrop (mAppend (mVar 4) (mCall m_reached [] (mCons (mVar 0) (mCons (mVar 3) (mCons (mVar 2) mNil)))))) sNext)
def b_pieces_3 : MS := (sFor (mRng1 (mUn (oFld 0 0) (mVar 0))) (Tgt.nm 3).M b_pieces_3b_0)
def b_pieces_4 : MS := (sRet (mVar 4))
def b_pieces : MS := (sSeq b_pieces_0 (sSeq b_pieces_1 (sSeq b_pieces_2 (sSeq b_pieces_3 b_pieces_4))))
def m_pieces : MF := mDefO 2 5 b_pieces
theorem e_pieces (x0 x1 : D) (C : Store) : m_pieces [x0, x1] C = finOS C.length (b_pieces ⟨C.length, [some x0, some x1, none, none, none]⟩ C) := mDefO_e rfl rfl
theorem ar_pieces : Ar 2 m_pieces := mDefO_ar
theorem ok_pieces (T : Txt K mg) : ∃ fd, FnG P w K mg base 2 (a_pieces K) fd ["web", "lots"] (SpD (cn K) 2 m_pieces) ∧ Binds K fd ["web", "lots"] [] ∧ PySem.W.keepIn K (.ref (a_pieces K)) = true := by
  obtain ⟨fd_reached, F_reached, B_reached, kp_reached⟩ := ok_reached (P := P) (w := w) (base := base) T
  obtain ⟨fd, F⟩ := T.f_pieces
  refine ⟨fd, fn_okO (k := cn K) F sc_pieces (by decide) fun cdv A outer s H E hr => ?_, F.bindsN fun _ _ _ _ _ _ us hl => match us, hl with | [_, _], _ => rfl, F.kp⟩
  have tk : Takes (cxOf (L2.CX P w) P w K mg base ["web", "lots", "open_places", "v", "found"] "pieces" (defScope s_pieces) (a_pieces K) cdv A outer s H E) (fun c d _ H => E c d H) := takes_of rfl rfl rfl rfl
  exact (dss_cons (ds_set (i := 2) sc_pieces.nd rfl (Or.inl rfl) (de_op op_rep (d_rep true) (de_lst false (da_cons de_bl da_nil)) (de_fld 0 0 rfl T.cl_Web T.no_Web_size nd_Web rfl (dv 0))))
  (dss_cons (ds_for (passes_of rfl) rfl (di_seq rfl (de_op op_catA d_catT (de_ix ix_seq d_ix (dv 1) de_int) (de_ix ix_seq d_ix (dv 1) de_int))) (tg_nm (i := 3) sc_pieces.nd rfl (Or.inl rfl)) (dss_one (ds_setL de_bl (pg_sub (dv 2) (dv 3) set_list))))
  (dss_cons (ds_set (i := 4) sc_pieces.nd rfl (Or.inl rfl) (de_lst true da_nil))
  (dss_cons (ds_for (passes_of rfl) rfl (di_rng1 (by rfl) T.n_range (de_fld 0 0 rfl T.cl_Web T.no_Web_size nd_Web rfl (dv 0))) (tg_nm (i := 3) sc_pieces.nd rfl (Or.inl rfl)) (dss_one (ds_if (dt_val (de_ix ix_seq d_ix (dv 2) (dv 3))) (dss_one (ds_expr (de_append rfl (dv 4) (de_call tk F_reached ar_reached (hr.mono (by decide)) (by rfl) T.g_reached kp_reached B_reached .nil (fun _ _ _ => .nil) (da_cons (dv 0) (da_cons (dv 3) (da_cons (dv 2) da_nil))))))) dss_nil)))
  (dss_one (ds_ret (dv 4)))))))
theorem sc_odd_pieces : FnScope ["web", "row", "lots", "found", "piece", "v"] ["web", "row", "lots"] (defScope s_odd_pieces) := ⟨rfl, rfl, rfl, by decide +kernel, rfl, by decide +kernel, by decide +kernel⟩
def b_odd_pieces_0 : MS := (sAsg (mAp (oLst true) mNil) (gN 3))
def b_odd_pieces_1b_0 : MS := (sIf (mTst (mOp (oEqA false) (mOp oMod (mOp oAdd (mAp oSum (mCons (mLc false (mSeq (mVar 4)) (Tgt.nm 5).M tYesM (mOp oIx (mVar 1) (mVar 5)) [5]) mNil)) (mMeth 0 m_Web_crossing [] (mVar 0) (mCons (mVar 4) (mCons (mOp oIx (mVar 2) (mC (.int 1))) mNil)))) (mC (.int 2))) (mC (.int 1)))) (sDrop (mAppend (mVar 3) (mVar 4))) sNext)
def b_odd_pieces_1 : MS := (sFor (mSeq (mCall m_pieces [] (mCons (mVar 0) (mCons (mVar 2) mNil)))) (Tgt.nm 4).M b_odd_pieces_1b_0)
def b_odd_pieces_2 : MS := (sRet (mVar 3))
def b_odd_pieces : MS := (sSeq b_odd_pieces_0 (sSeq b_odd_pieces_1 b_odd_pieces_2))
def m_odd_pieces : MF := mDefO 3 6 b_odd_pieces
theorem e_odd_pieces (x0 x1 x2 : D) (C : Store) : m_odd_pieces [x0, x1, x2] C = finOS C.length (b_odd_pieces ⟨C.length, [some x0, some x1, some x2, none, none, none]⟩ C) := mDefO_e rfl rfl
theorem ar_odd_pieces : Ar 3 m_odd_pieces := mDefO_ar
theorem ok_odd_pieces (T : Txt K mg) : ∃ fd, FnG P w K mg base 3 (a_odd_pieces K) fd ["web", "row", "lots"] (SpD (cn K) 3 m_odd_pieces) ∧ Binds K fd ["web", "row", "lots"] [] ∧ PySem.W.keepIn K (.ref (a_odd_pieces K)) = true := by
  obtain ⟨fd_pieces, F_pieces, B_pieces, kp_pieces⟩ := ok_pieces (P := P) (w := w) (base := base) T
  obtain ⟨fd_Web_crossing, F_Web_crossing, B_Web_crossing, kp_Web_crossing⟩ := ok_Web_crossing (P := P) (w := w) (base := base) T
  obtain ⟨fd, F⟩ := T.f_odd_pieces
  refine ⟨fd, fn_okO (k := cn K) F sc_odd_pieces (by decide) fun cdv A outer s H E hr => ?_, F.bindsN fun _ _ _ _ _ _ us hl => match us, hl with | [_, _, _], _ => rfl, F.kp⟩
  have tk : Takes (cxOf (L2.CX P w) P w K mg base ["web", "row", "lots", "found", "piece", "v"] "odd_pieces" (defScope s_odd_pieces) (a_odd_pieces K) cdv A outer s H E) (fun c d _ H => E c d H) := takes_of rfl rfl rfl rfl
  exact (dss_cons (ds_set (i := 3) sc_odd_pieces.nd rfl (Or.inl rfl) (de_lst true da_nil))
  (dss_cons (ds_for (passes_of rfl) rfl (di_seq rfl (de_call tk F_pieces ar_pieces (hr.mono (by decide)) (by rfl) T.g_pieces kp_pieces B_pieces .nil (fun _ _ _ => .nil) (da_cons (dv 0) (da_cons (dv 2) da_nil)))) (tg_nm (i := 4) sc_odd_pieces.nd rfl (Or.inl rfl)) (dss_one (ds_if (dt_cmp (op_eq.or (op_eqD hr.room.units)) d_eqA (de_op op_mod d_mod (de_op op_add d_add (de_callB (cr_sum rfl) d_sum (by rfl) T.n_sum (by decide +kernel) (da_cons (de_lc (own := [("v", 5)]) false rfl rfl sc_odd_pieces.nd (di_seq rfl (dv 4)) (blkOk_by (own := [("v", 5)]) rfl) (by decide) (fun _ _ _ _ _ => (tg_nm (i := 5) sc_odd_pieces.nd rfl (by first | exact Or.inl rfl | exact Or.inr rfl))) (fun _ _ _ _ _ => dts_nil) (fun _ _ _ _ _ => (de_ix ix_seq d_ix (dv 1) (dv 5)))) da_nil)) (de_meth 0 tk rfl (dv 0) T.cl_Web T.me_Web_crossing F_Web_crossing ar_Web_crossing nm_Web_crossing (hr.mono (by decide)) B_Web_crossing .nil (fun _ _ _ => .nil) (da_cons (dv 4) (da_cons (de_ix ix_seq d_ix (dv 2) de_int) da_nil)))) de_int) de_int (nomark _)) (dss_one (ds_expr (de_append rfl (dv 3) (dv 4)))) dss_nil)))
  (dss_one (ds_ret (dv 3)))))
theorem sc_excess : FnScope ["web", "row", "lots", "first", "second", "v"] ["web", "row", "lots"] (defScope s_excess) := ⟨rfl, rfl, rfl, by decide +kernel, rfl, by decide +kernel, by decide +kernel⟩
def b_excess_0 : MS := (sAsg (mAp oSum (mCons (mLc false (mSeq (mOp oIx (mVar 2) (mC (.int 0)))) (Tgt.nm 5).M tYesM (mOp oIx (mVar 1) (mVar 5)) [5]) mNil)) (gN 3))
def b_excess_1 : MS := (sAsg (mAp oSum (mCons (mLc false (mSeq (mOp oIx (mVar 2) (mC (.int 1)))) (Tgt.nm 5).M tYesM (mOp oSub (mAp oSum (mCons (mOp oIx (mUn (oFld 0 1) (mVar 0)) (mVar 5)) mNil)) (mOp oIx (mVar 1) (mVar 5))) [5]) mNil)) (gN 4))
def b_excess_2 : MS := (sRet (mOp oSub (mOp oSub (mOp oAdd (mVar 3) (mVar 4)) (mMeth 0 m_Web_crossing [] (mVar 0) (mCons (mOp oIx (mVar 2) (mC (.int 1))) (mCons (mOp oIx (mVar 2) (mC (.int 0))) mNil)))) (mAp oLen (mCons (mCall m_odd_pieces [] (mCons (mVar 0) (mCons (mVar 1) (mCons (mVar 2) mNil)))) mNil))))
def b_excess : MS := (sSeq b_excess_0 (sSeq b_excess_1 b_excess_2))
def m_excess : MF := mDef 3 6 b_excess
theorem e_excess (x0 x1 x2 : D) (C : Store) : m_excess [x0, x1, x2] C = finS C.length (b_excess ⟨C.length, [some x0, some x1, some x2, none, none, none]⟩ C) := mDef_e rfl rfl
theorem ar_excess : Ar 3 m_excess := mDef_ar
theorem ok_excess (T : Txt K mg) : ∃ fd, FnG P w K mg base 4 (a_excess K) fd ["web", "row", "lots"] (SpD (cn K) 3 m_excess) ∧ Binds K fd ["web", "row", "lots"] [] ∧ PySem.W.keepIn K (.ref (a_excess K)) = true := by
  obtain ⟨fd_Web_crossing, F_Web_crossing, B_Web_crossing, kp_Web_crossing⟩ := ok_Web_crossing (P := P) (w := w) (base := base) T
  obtain ⟨fd_odd_pieces, F_odd_pieces, B_odd_pieces, kp_odd_pieces⟩ := ok_odd_pieces (P := P) (w := w) (base := base) T
  obtain ⟨fd, F⟩ := T.f_excess
  refine ⟨fd, fn_ok (k := cn K) F sc_excess (by decide) fun cdv A outer s H E hr => ?_, F.bindsN fun _ _ _ _ _ _ us hl => match us, hl with | [_, _, _], _ => rfl, F.kp⟩
  have tk : Takes (cxOf (L2.CX P w) P w K mg base ["web", "row", "lots", "first", "second", "v"] "excess" (defScope s_excess) (a_excess K) cdv A outer s H E) (fun c d _ H => E c d H) := takes_of rfl rfl rfl rfl
  exact (dss_cons (ds_set (i := 3) sc_excess.nd rfl (Or.inl rfl) (de_callB (cr_sum rfl) d_sum (by rfl) T.n_sum (by decide +kernel) (da_cons (de_lc (own := [("v", 5)]) false rfl rfl sc_excess.nd (di_seq rfl (de_ix ix_seq d_ix (dv 2) de_int)) (blkOk_by (own := [("v", 5)]) rfl) (by decide) (fun _ _ _ _ _ => (tg_nm (i := 5) sc_excess.nd rfl (by first | exact Or.inl rfl | exact Or.inr rfl))) (fun _ _ _ _ _ => dts_nil) (fun _ _ _ _ _ => (de_ix ix_seq d_ix (dv 1) (dv 5)))) da_nil)))
  (dss_cons (ds_set (i := 4) sc_excess.nd rfl (Or.inl rfl) (de_callB (cr_sum rfl) d_sum (by rfl) T.n_sum (by decide +kernel) (da_cons (de_lc (own := [("v", 5)]) false rfl rfl sc_excess.nd (di_seq rfl (de_ix ix_seq d_ix (dv 2) de_int)) (blkOk_by (own := [("v", 5)]) rfl) (by decide) (fun _ _ _ _ _ => (tg_nm (i := 5) sc_excess.nd rfl (by first | exact Or.inl rfl | exact Or.inr rfl))) (fun _ _ _ _ _ => dts_nil) (fun _ _ _ _ _ => (de_op op_sub d_sub (de_callB (cr_sum rfl) d_sum (by rfl) T.n_sum (by decide +kernel) (da_cons (de_ix ix_seq d_ix (de_fld 0 1 rfl T.cl_Web T.no_Web_grid nd_Web rfl (dv 0)) (dv 5)) da_nil)) (de_ix ix_seq d_ix (dv 1) (dv 5))))) da_nil)))
  (dss_one (ds_ret (de_op op_sub d_sub (de_op op_sub d_sub (de_op op_add d_add (dv 3) (dv 4)) (de_meth 0 tk rfl (dv 0) T.cl_Web T.me_Web_crossing F_Web_crossing ar_Web_crossing nm_Web_crossing (hr.mono (by decide)) B_Web_crossing .nil (fun _ _ _ => .nil) (da_cons (de_ix ix_seq d_ix (dv 2) de_int) (da_cons (de_ix ix_seq d_ix (dv 2) de_int) da_nil)))) (de_callB call_len_seq d_len (by rfl) T.n_len (by decide +kernel) (da_cons (de_call tk F_odd_pieces ar_odd_pieces (hr.mono (by decide)) (by rfl) T.g_odd_pieces kp_odd_pieces B_odd_pieces .nil (fun _ _ _ => .nil) (da_cons (dv 0) (da_cons (dv 1) (da_cons (dv 2) da_nil)))) da_nil)))))))
theorem sc_front : FnScope ["number", "row", "many", "falling", "later", "x"] ["number", "row", "many"] (defScope s_front) := ⟨rfl, rfl, rfl, by decide +kernel, rfl, by decide +kernel, by decide +kernel⟩
def b_front_0 : MS := (sAsg (mSortR (mVar 1)) (gN 3))
def b_front_1 : MS := (sAsg (mAp oSum (mCons (mLc false (mSeq (mSlL false (mVar 3) (mPart (mVar 2)) mNoPart)) (Tgt.nm 5).M tYesM (mAp oMin2 (mCons (mOp oMul (mVar 0) (mVar 2)) (mCons (mVar 5) mNil))) [5]) mNil)) (gN 4))
def b_front_2 : MS := (sRet (mOp oSub (mOp oAdd (mOp oMul (mOp oMul (mVar 0) (mVar 2)) (mOp oSub (mVar 2) (mC (.int 1)))) (mVar 4)) (mAp oSum (mCons (mSlL false (mVar 3) mNoPart (mPart (mVar 2))) mNil))))
def b_front : MS := (sSeq b_front_0 (sSeq b_front_1 b_front_2))
def m_front : MF := mDef 3 6 b_front
theorem e_front (x0 x1 x2 : D) (C : Store) : m_front [x0, x1, x2] C = finS C.length (b_front ⟨C.length, [some x0, some x1, some x2, none, none, none]⟩ C) := mDef_e rfl rfl
theorem ar_front : Ar 3 m_front := mDef_ar
theorem ok_front (T : Txt K mg) : ∃ fd, FnG P w K mg base 1 (a_front K) fd ["number", "row", "many"] (SpD (cn K) 3 m_front) ∧ Binds K fd ["number", "row", "many"] [] ∧ PySem.W.keepIn K (.ref (a_front K)) = true := by
  obtain ⟨fd, F⟩ := T.f_front
  refine ⟨fd, fn_ok (k := cn K) F sc_front (by decide) fun cdv A outer s H E hr => ?_, F.bindsN fun _ _ _ _ _ _ us hl => match us, hl with | [_, _, _], _ => rfl, F.kp⟩
  have tk : Takes (cxOf (L2.CX P w) P w K mg base ["number", "row", "many", "falling", "later", "x"] "front" (defScope s_front) (a_front K) cdv A outer s H E) (fun c d _ H => E c d H) := takes_of rfl rfl rfl rfl
  exact (dss_cons (ds_set (i := 3) sc_front.nd rfl (Or.inl rfl) (de_sortR rfl (by rfl) T.n_sorted (dv 1)))
  (dss_cons (ds_set (i := 4) sc_front.nd rfl (Or.inl rfl) (de_callB (cr_sum rfl) d_sum (by rfl) T.n_sum (by decide +kernel) (da_cons (de_lc (own := [("x", 5)]) false rfl rfl sc_front.nd (di_seq rfl (de_slL false rfl (dv 3) (do_some (dv 2)) do_none)) (blkOk_by (own := [("x", 5)]) rfl) (by decide) (fun _ _ _ _ _ => (tg_nm (i := 5) sc_front.nd rfl (by first | exact Or.inl rfl | exact Or.inr rfl))) (fun _ _ _ _ _ => dts_nil) (fun _ _ _ _ _ => (de_callB (call_min2 rfl) d_min2 (by rfl) T.n_min (by decide +kernel) (da_cons (de_op op_mul d_mul (dv 0) (dv 2)) (da_cons (dv 5) da_nil))))) da_nil)))
  (dss_one (ds_ret (de_op op_sub d_sub (de_op op_add d_add (de_op op_mul d_mul (de_op op_mul d_mul (dv 0) (dv 2)) (de_op op_sub d_sub (dv 2) de_int)) (dv 4)) (de_callB (cr_sum rfl) d_sum (by rfl) T.n_sum (by decide +kernel) (da_cons (de_slL false rfl (dv 3) do_none (do_some (dv 2))) da_nil)))))))
theorem sc_fronts_hold : FnScope ["number", "row", "many"] ["number", "row"] (defScope s_fronts_hold) := ⟨rfl, rfl, rfl, by decide +kernel, rfl, by decide +kernel, by decide +kernel⟩
def b_fronts_hold : MS := (sRet (mAp oAll (mCons (mLc false (mRng2 (mC (.int 1)) (mOp oAdd (mAp oLen (mCons (mVar 1) mNil)) (mC (.int 1)))) (Tgt.nm 2).M tYesM (mOp oGe (mCall m_front [] (mCons (mVar 0) (mCons (mVar 1) (mCons (mVar 2) mNil)))) (mC (.int 0))) [2]) mNil)))
def m_fronts_hold : MF := mDef 2 3 b_fronts_hold
theorem e_fronts_hold (x0 x1 : D) (C : Store) : m_fronts_hold [x0, x1] C = finS C.length (b_fronts_hold ⟨C.length, [some x0, some x1, none]⟩ C) := mDef_e rfl rfl
theorem ar_fronts_hold : Ar 2 m_fronts_hold := mDef_ar
theorem ok_fronts_hold (T : Txt K mg) : ∃ fd, FnG P w K mg base 2 (a_fronts_hold K) fd ["number", "row"] (SpD (cn K) 2 m_fronts_hold) ∧ Binds K fd ["number", "row"] [] ∧ PySem.W.keepIn K (.ref (a_fronts_hold K)) = true := by
  obtain ⟨fd_front, F_front, B_front, kp_front⟩ := ok_front (P := P) (w := w) (base := base) T
  obtain ⟨fd, F⟩ := T.f_fronts_hold
  refine ⟨fd, fn_ok (k := cn K) F sc_fronts_hold (by decide) fun cdv A outer s H E hr => ?_, F.bindsN fun _ _ _ _ _ _ us hl => match us, hl with | [_, _], _ => rfl, F.kp⟩
  have tk : Takes (cxOf (L2.CX P w) P w K mg base ["number", "row", "many"] "fronts_hold" (defScope s_fronts_hold) (a_fronts_hold K) cdv A outer s H E) (fun c d _ H => E c d H) := takes_of rfl rfl rfl rfl
  exact (dss_one (ds_ret (de_callB (cr_all rfl) d_all (by rfl) T.n_all (by decide +kernel) (da_cons (de_lc (own := [("many", 2)]) false rfl rfl sc_fronts_hold.nd (di_rng2 (by rfl) T.n_range de_int (de_op op_add d_add (de_callB call_len_seq d_len (by rfl) T.n_len (by decide +kernel) (da_cons (dv 1) da_nil)) de_int)) (blkOk_by (own := [("many", 2)]) rfl) (by decide) (fun _ _ _ _ _ => (tg_nm (i := 2) sc_fronts_hold.nd rfl (by first | exact Or.inl rfl | exact Or.inr rfl))) (fun _ _ _ _ _ => dts_nil) (fun _ _ _ _ _ => (de_cmp op_ge d_ge (de_call takes0 F_front ar_front (hr.mono (by decide)) (by rfl) T.g_front kp_front B_front .nil (fun _ _ _ => .nil) (da_cons (dv 0) (da_cons (dv 1) (da_cons (dv 2) da_nil)))) de_int (nomark _)))) da_nil))))
theorem sc_lowest_excess : FnScope ["web", "row", "best", "kept", "lots", "found"] ["web", "row"] (defScope s_lowest_excess) := ⟨rfl, rfl, rfl, by decide +kernel, rfl, by decide +kernel, by decide +kernel⟩
def b_lowest_excess_0 : MS := (sAsg (mAp oTup (mCons (mC (.int 0)) (mCons (mC .non) mNil))) (Tgt.tp [2, 3]).M)
def b_lowest_excess_1b_0 : MS := (sAsg (mCall m_excess [] (mCons (mVar 0) (mCons (mVar 1) (mCons (mVar 4) mNil)))) (gN 5))
def b_lowest_excess_1b_1 : MS := (sIf (tOrM (mTst (mOp (oIsN false) (mVar 3) (mC .non))) (mTst (mOp oLt (mVar 5) (mVar 2)))) (sPar [2, 3] (mCons (mVar 5) (mCons (mVar 4) mNil))) sNext)
def b_lowest_excess_1 : MS := (sFor (mGen L_every_lots (mCons (mUn (oFld 0 0) (mVar 0)) mNil)) (Tgt.nm 4).M (gvX (sSeq b_lowest_excess_1b_0 b_lowest_excess_1b_1)))
def b_lowest_excess_2 : MS := (sRet (mAp oTup (mCons (mVar 2) (mCons (mVar 3) mNil))))
def b_lowest_excess : MS := (sSeq b_lowest_excess_0 (sSeq b_lowest_excess_1 b_lowest_excess_2))
def m_lowest_excess : MF := mDef 2 6 b_lowest_excess
theorem e_lowest_excess (x0 x1 : D) (C : Store) : m_lowest_excess [x0, x1] C = finS C.length (b_lowest_excess ⟨C.length, [some x0, some x1, none, none, none, none]⟩ C) := mDef_e rfl rfl
theorem ar_lowest_excess : Ar 2 m_lowest_excess := mDef_ar
theorem ok_lowest_excess (T : Txt K mg) : ∃ fd, FnG P w K mg base 5 (a_lowest_excess K) fd ["web", "row"] (SpD (cn K) 2 m_lowest_excess) ∧ Binds K fd ["web", "row"] [] ∧ PySem.W.keepIn K (.ref (a_lowest_excess K)) = true := by
  obtain ⟨fd_every_lots, F_every_lots, B_every_lots, kp_every_lots⟩ := ok_every_lots (P := P) (w := w) (base := base) T
  obtain ⟨fd_excess, F_excess, B_excess, kp_excess⟩ := ok_excess (P := P) (w := w) (base := base) T
  obtain ⟨fd, F⟩ := T.f_lowest_excess
  refine ⟨fd, fn_ok (k := cn K) F sc_lowest_excess (by decide) fun cdv A outer s H E hr => ?_, F.bindsN fun _ _ _ _ _ _ us hl => match us, hl with | [_, _], _ => rfl, F.kp⟩
  have tk : Takes (cxOf (L2.CX P w) P w K mg base ["web", "row", "best", "kept", "lots", "found"] "lowest_excess" (defScope s_lowest_excess) (a_lowest_excess K) cdv A outer s H E) (fun c d _ H => E c d H) := takes_of rfl rfl rfl rfl
  exact (dss_cons (ds_asgT (de_tup (da_cons de_int (da_cons de_non da_nil))) (tg_tp [2, 3] rfl rfl (pgs_cons (pg_name (i := 2) sc_lowest_excess.nd rfl (Or.inl rfl)) (pgs_cons (pg_name (i := 3) sc_lowest_excess.nd rfl (Or.inl rfl)) pgs_nil))))
  (dss_cons (ds_forG tk (passes_of rfl) F_every_lots (hr.mono (by decide)) (by rfl) T.g_every_lots kp_every_lots B_every_lots (da_cons (de_fld 0 0 rfl T.cl_Web T.no_Web_size nd_Web rfl (dv 0)) da_nil) (fun H0 => (tg_nm (i := 4) sc_lowest_excess.nd rfl (Or.inl rfl))) (fun H0 => (dss_cons (ds_set (i := 5) sc_lowest_excess.nd rfl (Or.inl rfl) (de_call takes0 F_excess ar_excess (hr.mono (by decide)) (by rfl) T.g_excess kp_excess B_excess .nil (fun _ _ _ => .nil) (da_cons (dv 0) (da_cons (dv 1) (da_cons (dv 4) da_nil)))))
  (dss_one (ds_if (PW.pt (dw_or (dt_cmp op_isN d_isN (dv 3) de_non (nomark _)) (dw_or1 (dt_cmp op_lt d_lt (dv 5) (dv 2) (nomark _))))) (dss_one (ds_par (i := 2) (j := 3) rfl sc_lowest_excess.nd rfl rfl (by decide) rfl rfl (da_cons (dv 5) (da_cons (dv 4) da_nil)))) dss_nil)))))
  (dss_one (ds_ret (de_tup (da_cons (dv 2) (da_cons (dv 3) da_nil)))))))
theorem sc_lack : FnScope ["web", "row", "best", "lots"] ["web", "row"] (defScope s_lack) := ⟨rfl, rfl, rfl, by decide +kernel, rfl, by decide +kernel, by decide +kernel⟩
def b_lack_0 : MS := (sDrop (mCall m_check_size [] (mCons (mVar 0) mNil)))
def b_lack_1 : MS := (sAsg (mCall m_lowest_excess [] (mCons (mVar 0) (mCons (mVar 1) mNil))) (Tgt.tp [2, 3]).M)
def b_lack_2 : MS := (sRet (mAp oTup (mCons (mUn oNeg (mVar 2)) (mCons (mVar 3) mNil))))
def b_lack : MS := (sSeq b_lack_0 (sSeq b_lack_1 b_lack_2))
def m_lack : MF := mDef 2 4 b_lack
theorem e_lack (x0 x1 : D) (C : Store) : m_lack [x0, x1] C = finS C.length (b_lack ⟨C.length, [some x0, some x1, none, none]⟩ C) := mDef_e rfl rfl
theorem ar_lack : Ar 2 m_lack := mDef_ar
theorem ok_lack (T : Txt K mg) : ∃ fd, FnG P w K mg base 6 (a_lack K) fd ["web", "row"] (SpD (cn K) 2 m_lack) ∧ Binds K fd ["web", "row"] [] ∧ PySem.W.keepIn K (.ref (a_lack K)) = true := by
  obtain ⟨fd_check_size, F_check_size, B_check_size, kp_check_size⟩ := ok_check_size (P := P) (w := w) (base := base) T
  obtain ⟨fd_lowest_excess, F_lowest_excess, B_lowest_excess, kp_lowest_excess⟩ := ok_lowest_excess (P := P) (w := w) (base := base) T
  obtain ⟨fd, F⟩ := T.f_lack
  refine ⟨fd, fn_ok (k := cn K) F sc_lack (by decide) fun cdv A outer s H E hr => ?_, F.bindsN fun _ _ _ _ _ _ us hl => match us, hl with | [_, _], _ => rfl, F.kp⟩
  have tk : Takes (cxOf (L2.CX P w) P w K mg base ["web", "row", "best", "lots"] "lack" (defScope s_lack) (a_lack K) cdv A outer s H E) (fun c d _ H => E c d H) := takes_of rfl rfl rfl rfl
  exact (dss_cons (ds_expr (de_call tk F_check_size ar_check_size (hr.mono (by decide)) (by rfl) T.g_check_size kp_check_size B_check_size .nil (fun _ _ _ => .nil) (da_cons (dv 0) da_nil)))
  (dss_cons (ds_asgT (de_call tk F_lowest_excess ar_lowest_excess (hr.mono (by decide)) (by rfl) T.g_lowest_excess kp_lowest_excess B_lowest_excess .nil (fun _ _ _ => .nil) (da_cons (dv 0) (da_cons (dv 1) da_nil))) (tg_tp [2, 3] rfl rfl (pgs_cons (pg_name (i := 2) sc_lack.nd rfl (Or.inl rfl)) (pgs_cons (pg_name (i := 3) sc_lack.nd rfl (Or.inl rfl)) pgs_nil))))
  (dss_one (ds_ret (de_tup (da_cons (de_un un_neg d_neg (dv 2)) (da_cons (dv 3) da_nil)))))))
theorem sc_complete : FnScope ["size", "number", "u", "v"] ["size", "number"] (defScope s_complete) := ⟨rfl, rfl, rfl, by decide +kernel, rfl, by decide +kernel, by decide +kernel⟩
def b_complete : MS := (sRet (mMake false 0 3 m_Web__init [] (mCons (mVar 0) (mCons (mLc2 false (mRng1 (mVar 0)) (Tgt.nm 2).M tYesM (mRng2 (mOp oAdd (mVar 2) (mC (.int 1))) (mVar 0)) (Tgt.nm 3).M tYesM (mAp oTup (mCons (mVar 2) (mCons (mVar 3) (mCons (mVar 1) mNil)))) [2, 3] [3]) mNil))))
def m_complete : MF := mDef 2 4 b_complete
theorem e_complete (x0 x1 : D) (C : Store) : m_complete [x0, x1] C = finS C.length (b_complete ⟨C.length, [some x0, some x1, none, none]⟩ C) := mDef_e rfl rfl
theorem ar_complete : Ar 2 m_complete := mDef_ar
theorem ok_complete (T : Txt K mg) : ∃ fd, FnG P w K mg base 6 (a_complete K) fd ["size", "number"] (SpD (cn K) 2 m_complete) ∧ Binds K fd ["size", "number"] [] ∧ PySem.W.keepIn K (.ref (a_complete K)) = true := by
  obtain ⟨fd_Web__init, F_Web__init, B_Web__init, kp_Web__init, ds_Web__init, vd_Web__init, Bd_Web__init⟩ := ok_Web__init (P := P) (w := w) (base := base) T
  obtain ⟨fd, F⟩ := T.f_complete
  refine ⟨fd, fn_ok (k := cn K) F sc_complete (by decide) fun cdv A outer s H E hr => ?_, F.bindsN fun _ _ _ _ _ _ us hl => match us, hl with | [_, _], _ => rfl, F.kp⟩
  have tk : Takes (cxOf (L2.CX P w) P w K mg base ["size", "number", "u", "v"] "complete" (defScope s_complete) (a_complete K) cdv A outer s H E) (fun c d _ H => E c d H) := takes_of rfl rfl rfl rfl
  exact (dss_one (ds_ret (de_make false 0 3 tk rfl T.mk_Web F_Web__init ar_Web__init rfl (hr.mono (by decide)) (by rfl) T.g_Web B_Web__init .nil (fun _ _ _ => .nil) (da_cons (dv 0) (da_cons (de_lc2 (own := [("u", 2), ("v", 3)]) (vs1 := [3]) false rfl rfl sc_complete.nd (di_rng1 (by rfl) T.n_range (dv 0)) (blkOk_by (own := [("u", 2), ("v", 3)]) rfl) (by decide) (by decide) (by decide) (fun _ _ _ _ _ => (tg_nm (i := 2) sc_complete.nd rfl (by first | exact Or.inl rfl | exact Or.inr rfl))) (fun _ _ _ _ _ => dts_nil) (fun _ _ _ _ _ => (di_rng2 (by rfl) T.n_range (de_op op_add d_add (dv 2) de_int) (dv 0))) (fun _ _ _ _ _ => (tg_nm (i := 3) sc_complete.nd rfl (by first | exact Or.inl rfl | exact Or.inr rfl))) (fun _ _ _ _ _ => dts_nil) (fun _ _ _ _ _ => (de_tup (da_cons (dv 2) (da_cons (dv 3) (da_cons (dv 1) da_nil)))))) da_nil)))))
theorem sc_law_bag : FnScope ["_law_script", "_law_cell"] ["_law_script"] (defScope s_law_bag) := ⟨rfl, rfl, rfl, by decide +kernel, rfl, by decide +kernel, by decide +kernel⟩
def b_law_bag : MS := (sRet (mAp (oLst true) (mCons (mC (.int 0)) (mCons (mC (.int 1234567891)) (mCons (mC (.int 0)) (mCons (mLc false (mSeq (mSlL false (mVar 0) mNoPart (mPart (mC (.int 63))))) (Tgt.nm 1).M tYesM (mAp oAbs (mCons (mVar 1) mNil)) [1]) mNil))))))
def m_law_bag : MF := mDefO 1 2 b_law_bag
theorem ar_law_bag : Ar 1 m_law_bag := mDefO_ar
theorem ok_law_bag (T : Txt K mg) : ∃ fd, FnG P w K mg base 1 (a_law_bag K) fd ["_law_script"] (SpD (cn K) 1 m_law_bag) ∧ Binds K fd ["_law_script"] [] ∧ PySem.W.keepIn K (.ref (a_law_bag K)) = true := by
  obtain ⟨fd, F⟩ := T.f_law_bag
  refine ⟨fd, fn_okO (k := cn K) F sc_law_bag (by decide) fun cdv A outer s H E hr => ?_, F.bindsN fun _ _ _ _ _ _ us hl => match us, hl with | [_], _ => rfl, F.kp⟩
  have tk : Takes (cxOf (L2.CX P w) P w K mg base ["_law_script", "_law_cell"] "_law_bag" (defScope s_law_bag) (a_law_bag K) cdv A outer s H E) (fun c d _ H => E c d H) := takes_of rfl rfl rfl rfl
  exact (dss_one (ds_ret (de_lst true (da_cons de_int (da_cons de_int (da_cons de_int (da_cons (de_lc (own := [("_law_cell", 1)]) false rfl rfl sc_law_bag.nd (di_seq rfl (de_slL false rfl (dv 0) do_none (do_some de_int))) (blkOk_by (own := [("_law_cell", 1)]) rfl) (by decide) (fun _ _ _ _ _ => (tg_nm (i := 1) sc_law_bag.nd rfl (by first | exact Or.inl rfl | exact Or.inr rfl))) (fun _ _ _ _ _ => dts_nil) (fun _ _ _ _ _ => (de_callB call_abs d_abs (by rfl) T.n_abs (by decide +kernel) (da_cons (dv 1) da_nil)))) da_nil)))))))
theorem sc_law_take : FnScope ["_law_bag_here", "_law_many", "_law_cell", "_law_mixed_here", "_law_drawn", "_law_early", "_law_second"] ["_law_bag_here", "_law_many"] (defScope s_law_take) := ⟨rfl, rfl, rfl, by decide +kernel, rfl, by decide +kernel, by decide +kernel⟩
def b_law_take_0t_0 : MS := (sAsg (mC (.int 0)) (gN 2))
def b_law_take_0t_1 : MS := (sIf (mTst (mOp oLt (mOp oIx (mVar 0) (mC (.int 2))) (mAp oLen (mCons (mOp oIx (mVar 0) (mC (.int 3))) mNil)))) (sAsg (mOp oIx (mOp oIx (mVar 0) (mC (.int 3))) (mOp oIx (mVar 0) (mC (.int 2)))) (gN 2)) sNext)
def b_law_take_0t_2 : MS := (sAugL (· + ·) (mVar 0) (mC (.int 2)) (mC (.int 1)))
def b_law_take_0t_3 : MS := (sIf (mTst (mOp oGe (mVar 2) (mC (.int 1000000000000000000)))) (sSetL (mVar 2) (mVar 0) (mC (.int 0))) sNext)
def b_law_take_0t_4 : MS := (sAsg (mOp oAdd (mOp oAdd (mOp oMul (mOp oIx (mVar 0) (mC (.int 1))) (mC (.int 48271))) (mOp oMod (mAp oInt (mCons (mVar 2) mNil)) (mC (.int 2147483647)))) (mOp oMul (mC (.int 7919)) (mOp oIx (mVar 0) (mC (.int 2))))) (gN 3))
def b_law_take_0t_5 : MS := (sSetL (mOp oMod (mAp oInt (mCons (mVar 3) mNil)) (mC (.int 2147483647))) (mVar 0) (mC (.int 1)))
def b_law_take_0 : MS := (sIf (mTst (mOp (oEqA false) (mOp oIx (mVar 0) (mC (.int 0))) (mC (.int 0)))) (sSeq b_law_take_0t_0 (sSeq b_law_take_0t_1 (sSeq b_law_take_0t_2 (sSeq b_law_take_0t_3 (sSeq b_law_take_0t_4 b_law_take_0t_5))))) sNext)
def b_law_take_1t_0 : MS := (sAsg (mOp oMod (mAp oInt (mCons (mOp oIx (mVar 0) (mC (.int 0))) mNil)) (mVar 1)) (gN 4))
def b_law_take_1t_1 : MS := (sSetL (mOp oDiv (mAp oInt (mCons (mOp oIx (mVar 0) (mC (.int 0))) mNil)) (mVar 1)) (mVar 0) (mC (.int 0)))
def b_law_take_1t_2 : MS := (sRet (mVar 4))
def b_law_take_1 : MS := (sIf (mTst (mOp oGt (mOp oIx (mVar 0) (mC (.int 0))) (mC (.int 0)))) (sSeq b_law_take_1t_0 (sSeq b_law_take_1t_1 b_law_take_1t_2)) sNext)
def b_law_take_2 : MS := (sAsg (mOp oMod (mAp oInt (mCons (mOp oMul (mOp oAdd (mOp oIx (mVar 0) (mC (.int 1))) (mC (.int 1))) (mC (.int 39373))) mNil)) (mC (.int 1000000007))) (gN 5))
def b_law_take_3 : MS := (sAsg (mOp oMod (mAp oInt (mCons (mOp oMul (mOp oMod (mAp oInt (mCons (mOp oMul (mVar 5) (mVar 5)) mNil)) (mC (.int 998244353))) (mC (.int 30011))) mNil)) (mC (.int 998244353))) (gN 6))
def b_law_take_4 : MS := (sRet (mOp oMod (mAp oInt (mCons (mOp oDiv (mVar 6) (mC (.int 7))) mNil)) (mVar 1)))
def b_law_take : MS := (sSeq b_law_take_0 (sSeq b_law_take_1 (sSeq b_law_take_2 (sSeq b_law_take_3 b_law_take_4))))
def m_law_take : MF := mDef 2 7 b_law_take
theorem e_law_take (x0 x1 : D) (C : Store) : m_law_take [x0, x1] C = finS C.length (b_law_take ⟨C.length, [some x0, some x1, none, none, none, none, none]⟩ C) := mDef_e rfl rfl
theorem ar_law_take : Ar 2 m_law_take := mDef_ar
theorem ok_law_take (T : Txt K mg) : ∃ fd, FnG P w K mg base 1 (a_law_take K) fd ["_law_bag_here", "_law_many"] (SpD (cn K) 2 m_law_take) ∧ Binds K fd ["_law_bag_here", "_law_many"] [] ∧ PySem.W.keepIn K (.ref (a_law_take K)) = true := by
  obtain ⟨fd, F⟩ := T.f_law_take
  refine ⟨fd, fn_ok (k := cn K) F sc_law_take (by decide) fun cdv A outer s H E hr => ?_, F.bindsN fun _ _ _ _ _ _ us hl => match us, hl with | [_, _], _ => rfl, F.kp⟩
  have tk : Takes (cxOf (L2.CX P w) P w K mg base ["_law_bag_here", "_law_many", "_law_cell", "_law_mixed_here", "_law_drawn", "_law_early", "_law_second"] "_law_take" (defScope s_law_take) (a_law_take K) cdv A outer s H E) (fun c d _ H => E c d H) := takes_of rfl rfl rfl rfl
  exact (dss_cons (ds_if (dt_cmp (op_eq.or (op_eqD hr.room.units)) d_eqA (de_ix ix_seq d_ix (dv 0) de_int) de_int (nomark _)) (dss_cons (ds_set (i := 2) sc_law_take.nd rfl (Or.inl rfl) de_int)
  (dss_cons (ds_if (dt_cmp op_lt d_lt (de_ix ix_seq d_ix (dv 0) de_int) (de_callB call_len_seq d_len (by rfl) T.n_len (by decide +kernel) (da_cons (de_ix ix_seq d_ix (dv 0) de_int) da_nil)) (nomark _)) (dss_one (ds_set (i := 2) sc_law_take.nd rfl (Or.inl rfl) (de_ix ix_seq d_ix (de_ix ix_seq d_ix (dv 0) de_int) (de_ix ix_seq d_ix (dv 0) de_int)))) dss_nil)
  (dss_cons (ds_augL ip_add (dv 0) de_int de_int)
  (dss_cons (ds_if (dt_cmp op_ge d_ge (dv 2) de_int (nomark _)) (dss_one (ds_setL (dv 2) (pg_sub (dv 0) de_int set_list))) dss_nil)
  (dss_cons (ds_set (i := 3) sc_law_take.nd rfl (Or.inl rfl) (de_op op_add d_add (de_op op_add d_add (de_op op_mul d_mul (de_ix ix_seq d_ix (dv 0) de_int) de_int) (de_op op_mod d_mod (de_callTy call_int1 d_int (by rfl) T.n_int (by decide +kernel) (da_cons (dv 2) da_nil)) de_int)) (de_op op_mul d_mul de_int (de_ix ix_seq d_ix (dv 0) de_int))))
  (dss_one (ds_setL (de_op op_mod d_mod (de_callTy call_int1 d_int (by rfl) T.n_int (by decide +kernel) (da_cons (dv 3) da_nil)) de_int) (pg_sub (dv 0) de_int set_list)))))))) dss_nil)
  (dss_cons (ds_if (dt_cmp op_gt d_gt (de_ix ix_seq d_ix (dv 0) de_int) de_int (nomark _)) (dss_cons (ds_set (i := 4) sc_law_take.nd rfl (Or.inl rfl) (de_op op_mod d_mod (de_callTy call_int1 d_int (by rfl) T.n_int (by decide +kernel) (da_cons (de_ix ix_seq d_ix (dv 0) de_int) da_nil)) (dv 1)))
  (dss_cons (ds_setL (de_op op_fdivW d_div (de_callTy call_int1 d_int (by rfl) T.n_int (by decide +kernel) (da_cons (de_ix ix_seq d_ix (dv 0) de_int) da_nil)) (dv 1)) (pg_sub (dv 0) de_int set_list))
  (dss_one (ds_ret (dv 4))))) dss_nil)
  (dss_cons (ds_set (i := 5) sc_law_take.nd rfl (Or.inl rfl) (de_op op_mod d_mod (de_callTy call_int1 d_int (by rfl) T.n_int (by decide +kernel) (da_cons (de_op op_mul d_mul (de_op op_add d_add (de_ix ix_seq d_ix (dv 0) de_int) de_int) de_int) da_nil)) de_int))
  (dss_cons (ds_set (i := 6) sc_law_take.nd rfl (Or.inl rfl) (de_op op_mod d_mod (de_callTy call_int1 d_int (by rfl) T.n_int (by decide +kernel) (da_cons (de_op op_mul d_mul (de_op op_mod d_mod (de_callTy call_int1 d_int (by rfl) T.n_int (by decide +kernel) (da_cons (de_op op_mul d_mul (dv 5) (dv 5)) da_nil)) de_int) de_int) da_nil)) de_int))
  (dss_one (ds_ret (de_op op_mod d_mod (de_callTy call_int1 d_int (by rfl) T.n_int (by decide +kernel) (da_cons (de_op op_fdivW d_div (dv 6) de_int) da_nil)) (dv 1))))))))
theorem sc_law_one : FnScope ["_law_bag_here", "_law_menu"] ["_law_bag_here", "_law_menu"] (defScope s_law_one) := ⟨rfl, rfl, rfl, by decide +kernel, rfl, by decide +kernel, by decide +kernel⟩
def b_law_one : MS := (sRet (mOp oIx (mVar 1) (mCall m_law_take [] (mCons (mVar 0) (mCons (mAp oLen (mCons (mVar 1) mNil)) mNil)))))
def m_law_one : MF := mDef 2 2 b_law_one
theorem e_law_one (x0 x1 : D) (C : Store) : m_law_one [x0, x1] C = finS C.length (b_law_one ⟨C.length, [some x0, some x1]⟩ C) := mDef_e rfl rfl
theorem ar_law_one : Ar 2 m_law_one := mDef_ar
theorem ok_law_one (T : Txt K mg) : ∃ fd, FnG P w K mg base 2 (a_law_one K) fd ["_law_bag_here", "_law_menu"] (SpD (cn K) 2 m_law_one) ∧ Binds K fd ["_law_bag_here", "_law_menu"] [] ∧ PySem.W.keepIn K (.ref (a_law_one K)) = true := by
  obtain ⟨fd_law_take, F_law_take, B_law_take, kp_law_take⟩ := ok_law_take (P := P) (w := w) (base := base) T
  obtain ⟨fd, F⟩ := T.f_law_one
  refine ⟨fd, fn_ok (k := cn K) F sc_law_one (by decide) fun cdv A outer s H E hr => ?_, F.bindsN fun _ _ _ _ _ _ us hl => match us, hl with | [_, _], _ => rfl, F.kp⟩
  have tk : Takes (cxOf (L2.CX P w) P w K mg base ["_law_bag_here", "_law_menu"] "_law_one" (defScope s_law_one) (a_law_one K) cdv A outer s H E) (fun c d _ H => E c d H) := takes_of rfl rfl rfl rfl
  exact (dss_one (ds_ret (de_ix ix_seq d_ix (dv 1) (de_call tk F_law_take ar_law_take (hr.mono (by decide)) (by rfl) T.g_law_take kp_law_take B_law_take .nil (fun _ _ _ => .nil) (da_cons (dv 0) (da_cons (de_callB call_len_seq d_len (by rfl) T.n_len (by decide +kernel) (da_cons (dv 1) da_nil)) da_nil))))))
theorem sc_law_alike : FnScope ["_law_found", "_law_due"] ["_law_found", "_law_due"] (defScope s_law_alike) := ⟨rfl, rfl, rfl, by decide +kernel, rfl, by decide +kernel, by decide +kernel⟩
def b_law_alike : MS := (sRet (mAnd (mOp (oEqA false) (mVar 0) (mVar 1)) (mOp (oEqA false) (mAp oRepr (mCons (mVar 0) mNil)) (mAp oRepr (mCons (mVar 1) mNil)))))
def m_law_alike : MF := mDef 2 2 b_law_alike
theorem e_law_alike (x0 x1 : D) (C : Store) : m_law_alike [x0, x1] C = finS C.length (b_law_alike ⟨C.length, [some x0, some x1]⟩ C) := mDef_e rfl rfl
theorem ar_law_alike : Ar 2 m_law_alike := mDef_ar
theorem ok_law_alike (T : Txt K mg) : ∃ fd, FnG P w K mg base 1 (a_law_alike K) fd ["_law_found", "_law_due"] (SpD (cn K) 2 m_law_alike) ∧ Binds K fd ["_law_found", "_law_due"] [] ∧ PySem.W.keepIn K (.ref (a_law_alike K)) = true := by
  obtain ⟨fd, F⟩ := T.f_law_alike
  refine ⟨fd, fn_ok (k := cn K) F sc_law_alike (by decide) fun cdv A outer s H E hr => ?_, F.bindsN fun _ _ _ _ _ _ us hl => match us, hl with | [_, _], _ => rfl, F.kp⟩
  have tk : Takes (cxOf (L2.CX P w) P w K mg base ["_law_found", "_law_due"] "_law_alike" (defScope s_law_alike) (a_law_alike K) cdv A outer s H E) (fun c d _ H => E c d H) := takes_of rfl rfl rfl rfl
  exact (dss_one (ds_ret (de_and (de_cmp (op_eq.or (op_eqD hr.room.units)) d_eqA (dv 0) (dv 1) (nomark _)) (de_one (de_cmp (op_eq.or (op_eqD hr.room.units)) d_eqA (de_callB (call_reprD (hr.mono (by decide))) d_repr (by rfl) T.n_repr (by decide +kernel) (da_cons (dv 0) da_nil)) (de_callB (call_reprD (hr.mono (by decide))) d_repr (by rfl) T.n_repr (by decide +kernel) (da_cons (dv 1) da_nil)) (nomark _))))))
theorem sc_law_mixed : FnScope ["_law_bag_here", "_law_things", "_law_found", "_law_thing"] ["_law_bag_here", "_law_things"] (defScope s_law_mixed) := ⟨rfl, rfl, rfl, by decide +kernel, rfl, by decide +kernel, by decide +kernel⟩
def b_law_mixed_0 : MS := (sAsg (mAp (oLst true) mNil) (gN 2))
def b_law_mixed_1b_0 : MS := (sDrop (mInsert (mVar 2) (mCall m_law_take [] (mCons (mVar 0) (mCons (mOp oAdd (mAp oLen (mCons (mVar 2) mNil)) (mC (.int 1))) mNil))) (mVar 3)))
def b_law_mixed_1 : MS := (sFor (mSeq (mVar 1)) (Tgt.nm 3).M b_law_mixed_1b_0)
def b_law_mixed_2 : MS := (sRet (mVar 2))
def b_law_mixed : MS := (sSeq b_law_mixed_0 (sSeq b_law_mixed_1 b_law_mixed_2))
def m_law_mixed : MF := mDef 2 4 b_law_mixed
theorem e_law_mixed (x0 x1 : D) (C : Store) : m_law_mixed [x0, x1] C = finS C.length (b_law_mixed ⟨C.length, [some x0, some x1, none, none]⟩ C) := mDef_e rfl rfl
theorem ar_law_mixed : Ar 2 m_law_mixed := mDef_ar
theorem ok_law_mixed (T : Txt K mg) : ∃ fd, FnG P w K mg base 2 (a_law_mixed K) fd ["_law_bag_here", "_law_things"] (SpD (cn K) 2 m_law_mixed) ∧ Binds K fd ["_law_bag_here", "_law_things"] [] ∧ PySem.W.keepIn K (.ref (a_law_mixed K)) = true := by
  obtain ⟨fd_law_take, F_law_take, B_law_take, kp_law_take⟩ := ok_law_take (P := P) (w := w) (base := base) T
  obtain ⟨fd, F⟩ := T.f_law_mixed
  refine ⟨fd, fn_ok (k := cn K) F sc_law_mixed (by decide) fun cdv A outer s H E hr => ?_, F.bindsN fun _ _ _ _ _ _ us hl => match us, hl with | [_, _], _ => rfl, F.kp⟩
  have tk : Takes (cxOf (L2.CX P w) P w K mg base ["_law_bag_here", "_law_things", "_law_found", "_law_thing"] "_law_mixed" (defScope s_law_mixed) (a_law_mixed K) cdv A outer s H E) (fun c d _ H => E c d H) := takes_of rfl rfl rfl rfl
  exact (dss_cons (ds_set (i := 2) sc_law_mixed.nd rfl (Or.inl rfl) (de_lst true da_nil))
  (dss_cons (ds_for (passes_of rfl) rfl (di_seq rfl (dv 1)) (tg_nm (i := 3) sc_law_mixed.nd rfl (Or.inl rfl)) (dss_one (ds_expr (de_insert rfl (dv 2) (de_call tk F_law_take ar_law_take (hr.mono (by decide)) (by rfl) T.g_law_take kp_law_take B_law_take .nil (fun _ _ _ => .nil) (da_cons (dv 0) (da_cons (de_op op_add d_add (de_callB call_len_seq d_len (by rfl) T.n_len (by decide +kernel) (da_cons (dv 2) da_nil)) de_int) da_nil))) (dv 3)))))
  (dss_one (ds_ret (dv 2)))))
theorem sc_law_front : FnScope ["_law_number", "_law_row", "_law_many", "_law_falling", "_law_total", "_law_x"] ["_law_number", "_law_row", "_law_many"] (defScope s_law_front) := ⟨rfl, rfl, rfl, by decide +kernel, rfl, by decide +kernel, by decide +kernel⟩
def b_law_front_0 : MS := (sAsg (mRevL false (mAp (oSortQ false) (mCons (mVar 1) mNil))) (gN 3))
def b_law_front_1 : MS := (sAsg (mOp oSub (mOp oMul (mOp oMul (mVar 0) (mVar 2)) (mOp oSub (mVar 2) (mC (.int 1)))) (mAp oSum (mCons (mSlL false (mVar 3) mNoPart (mPart (mVar 2))) mNil))) (gN 4))
def b_law_front_2b_0 : MS := (sAug 4 (· + ·) (mAp oMin2 (mCons (mOp oMul (mVar 0) (mVar 2)) (mCons (mVar 5) mNil))))
def b_law_front_2 : MS := (sFor (mSeq (mSlL false (mVar 3) (mPart (mVar 2)) mNoPart)) (Tgt.nm 5).M b_law_front_2b_0)
def b_law_front_3 : MS := (sRet (mVar 4))
def b_law_front : MS := (sSeq b_law_front_0 (sSeq b_law_front_1 (sSeq b_law_front_2 b_law_front_3)))
def m_law_front : MF := mDef 3 6 b_law_front
theorem e_law_front (x0 x1 x2 : D) (C : Store) : m_law_front [x0, x1, x2] C = finS C.length (b_law_front ⟨C.length, [some x0, some x1, some x2, none, none, none]⟩ C) := mDef_e rfl rfl
theorem ar_law_front : Ar 3 m_law_front := mDef_ar
theorem ok_law_front (T : Txt K mg) : ∃ fd, FnG P w K mg base 1 (a_law_front K) fd ["_law_number", "_law_row", "_law_many"] (SpD (cn K) 3 m_law_front) ∧ Binds K fd ["_law_number", "_law_row", "_law_many"] [] ∧ PySem.W.keepIn K (.ref (a_law_front K)) = true := by
  obtain ⟨fd, F⟩ := T.f_law_front
  refine ⟨fd, fn_ok (k := cn K) F sc_law_front (by decide) fun cdv A outer s H E hr => ?_, F.bindsN fun _ _ _ _ _ _ us hl => match us, hl with | [_, _, _], _ => rfl, F.kp⟩
  have tk : Takes (cxOf (L2.CX P w) P w K mg base ["_law_number", "_law_row", "_law_many", "_law_falling", "_law_total", "_law_x"] "_law_front" (defScope s_law_front) (a_law_front K) cdv A outer s H E) (fun c d _ H => E c d H) := takes_of rfl rfl rfl rfl
  exact (dss_cons (ds_set (i := 3) sc_law_front.nd rfl (Or.inl rfl) (de_revL false rfl (de_callB ((cr_sortA hr.u200).or (cr_sortP hr.u200)) d_sortQ (by rfl) T.n_sorted (by decide +kernel) (da_cons (dv 1) da_nil))))
  (dss_cons (ds_set (i := 4) sc_law_front.nd rfl (Or.inl rfl) (de_op op_sub d_sub (de_op op_mul d_mul (de_op op_mul d_mul (dv 0) (dv 2)) (de_op op_sub d_sub (dv 2) de_int)) (de_callB (cr_sum rfl) d_sum (by rfl) T.n_sum (by decide +kernel) (da_cons (de_slL false rfl (dv 3) do_none (do_some (dv 2))) da_nil))))
  (dss_cons (ds_for (passes_of rfl) rfl (di_seq rfl (de_slL false rfl (dv 3) (do_some (dv 2)) do_none)) (tg_nm (i := 5) sc_law_front.nd rfl (Or.inl rfl)) (dss_one (ds_aug (i := 4) sc_law_front.nd rfl (Or.inl rfl) (de_callB (call_min2 rfl) d_min2 (by rfl) T.n_min (by decide +kernel) (da_cons (de_op op_mul d_mul (dv 0) (dv 2)) (da_cons (dv 5) da_nil))) ip_add)))
  (dss_one (ds_ret (dv 4))))))
theorem sc_law_far_right : FnScope ["_law_bag_here", "_law_number", "_law_row", "_law_k", "_law_many", "_law_bad"] ["_law_bag_here"] (defScope s_law_far_right) := ⟨rfl, rfl, rfl, by decide +kernel, rfl, by decide +kernel, by decide +kernel⟩
def b_law_far_right_0 : MS := (sAsg (mAp oTup (mCons (mCall m_law_one [] (mCons (mVar 0) (mCons (mAp (oLst false) (mCons (mC (.int 1)) (mCons (mC (.int 2)) (mCons (mC (.int 0)) (mCons (mC (.int 4)) (mCons (mC (.int 1000000000)) mNil)))))) mNil))) (mCons (mAp (oLst true) mNil) mNil))) (Tgt.tp [1, 2]).M)
def b_law_far_right_1b_0 : MS := (sDrop (mAppend (mVar 2) (mCall m_law_one [] (mCons (mVar 0) (mCons (mAp (oLst false) (mCons (mC (.int 0)) (mCons (mC (.int 1)) (mCons (mVar 1) (mCons (mC (.int 3)) (mCons (mCall m_law_take [] (mCons (mVar 0) (mCons (mOp oAdd (mOp oMul (mC (.int 9)) (mVar 1)) (mC (.int 2))) mNil))) mNil)))))) mNil)))))
def b_law_far_right_1 : MS := (sFor (mRng1 (mOp oAdd (mC (.int 6)) (mCall m_law_take [] (mCons (mVar 0) (mCons (mC (.int 55)) mNil))))) (Tgt.nm 3).M b_law_far_right_1b_0)
def b_law_far_right_2b_0 : MS := (sAsg (mOp oAdd (mC (.int 1)) (mCall m_law_take [] (mCons (mVar 0) (mCons (mAp oLen (mCons (mVar 2) mNil)) mNil)))) (gN 4))
def b_law_far_right_2b_1 : MS := (sIf (tNotM (mTst (mCall m_law_alike [] (mCons (mCall m_front [] (mCons (mVar 1) (mCons (mAp oTupOf (mCons (mVar 2) mNil)) (mCons (mVar 4) mNil)))) (mCons (mCall m_law_front [] (mCons (mVar 1) (mCons (mVar 2) (mCons (mVar 4) mNil)))) mNil))))) (sRet (mC (.bl false))) sNext)
def b_law_far_right_2 : MS := (sFor (mRng1 (mC (.int 3))) (Tgt.nm 3).M (sSeq b_law_far_right_2b_0 b_law_far_right_2b_1))
def b_law_far_right_3 : MS := (sAsg (mLc false (mRng2 (mC (.int 1)) (mOp oAdd (mAp oLen (mCons (mVar 2) mNil)) (mC (.int 1)))) (Tgt.nm 4).M (mTst (mOp oLt (mCall m_law_front [] (mCons (mVar 1) (mCons (mVar 2) (mCons (mVar 4) mNil)))) (mC (.int 0)))) (mVar 4) [4]) (gN 5))
def b_law_far_right_4 : MS := (sRet (mOp (oEqA false) (mAp oRepr (mCons (mCall m_fronts_hold [] (mCons (mVar 1) (mCons (mAp oTupOf (mCons (mVar 2) mNil)) mNil))) mNil)) (mAp oRepr (mCons (mOp (oEqA false) (mVar 5) (mAp (oLst false) mNil)) mNil))))
def b_law_far_right : MS := (sSeq b_law_far_right_0 (sSeq b_law_far_right_1 (sSeq b_law_far_right_2 (sSeq b_law_far_right_3 b_law_far_right_4))))
def m_law_far_right : MF := mDef 1 6 b_law_far_right
theorem e_law_far_right (x0 : D) (C : Store) : m_law_far_right [x0] C = finS C.length (b_law_far_right ⟨C.length, [some x0, none, none, none, none, none]⟩ C) := mDef_e rfl rfl
theorem ar_law_far_right : Ar 1 m_law_far_right := mDef_ar
theorem ok_law_far_right (T : Txt K mg) : ∃ fd, FnG P w K mg base 3 (a_law_far_right K) fd ["_law_bag_here"] (SpD (cn K) 1 m_law_far_right) ∧ Binds K fd ["_law_bag_here"] [] ∧ PySem.W.keepIn K (.ref (a_law_far_right K)) = true := by
  obtain ⟨fd_law_one, F_law_one, B_law_one, kp_law_one⟩ := ok_law_one (P := P) (w := w) (base := base) T
  obtain ⟨fd_law_take, F_law_take, B_law_take, kp_law_take⟩ := ok_law_take (P := P) (w := w) (base := base) T
  obtain ⟨fd_law_alike, F_law_alike, B_law_alike, kp_law_alike⟩ := ok_law_alike (P := P) (w := w) (base := base) T
  obtain ⟨fd_law_front, F_law_front, B_law_front, kp_law_front⟩ := ok_law_front (P := P) (w := w) (base := base) T
  obtain ⟨fd_front, F_front, B_front, kp_front⟩ := ok_front (P := P) (w := w) (base := base) T
  obtain ⟨fd_fronts_hold, F_fronts_hold, B_fronts_hold, kp_fronts_hold⟩ := ok_fronts_hold (P := P) (w := w) (base := base) T
  obtain ⟨fd, F⟩ := T.f_law_far_right
  refine ⟨fd, fn_ok (k := cn K) F sc_law_far_right (by decide) fun cdv A outer s H E hr => ?_, F.bindsN fun _ _ _ _ _ _ us hl => match us, hl with | [_], _ => rfl, F.kp⟩
  have tk : Takes (cxOf (L2.CX P w) P w K mg base ["_law_bag_here", "_law_number", "_law_row", "_law_k", "_law_many", "_law_bad"] "_law_far_right" (defScope s_law_far_right) (a_law_far_right K) cdv A outer s H E) (fun c d _ H => E c d H) := takes_of rfl rfl rfl rfl
  exact (dss_cons (ds_asgT (de_tup (da_cons (de_call tk F_law_one ar_law_one (hr.mono (by decide)) (by rfl) T.g_law_one kp_law_one B_law_one .nil (fun _ _ _ => .nil) (da_cons (dv 0) (da_cons (de_lst false (da_cons de_int (da_cons de_int (da_cons de_int (da_cons de_int (da_cons de_int da_nil)))))) da_nil))) (da_cons (de_lst true da_nil) da_nil))) (tg_tp [1, 2] rfl rfl (pgs_cons (pg_name (i := 1) sc_law_far_right.nd rfl (Or.inr rfl)) (pgs_cons (pg_name (i := 2) sc_law_far_right.nd rfl (Or.inr rfl)) pgs_nil))))
  (dss_cons (ds_for (passes_of rfl) rfl (di_rng1 (by rfl) T.n_range (de_op op_add d_add de_int (de_call tk F_law_take ar_law_take (hr.mono (by decide)) (by rfl) T.g_law_take kp_law_take B_law_take .nil (fun _ _ _ => .nil) (da_cons (dv 0) (da_cons de_int da_nil))))) (tg_nm (i := 3) sc_law_far_right.nd rfl (Or.inl rfl)) (dss_one (ds_expr (de_append rfl (dv 2) (de_call tk F_law_one ar_law_one (hr.mono (by decide)) (by rfl) T.g_law_one kp_law_one B_law_one .nil (fun _ _ _ => .nil) (da_cons (dv 0) (da_cons (de_lst false (da_cons de_int (da_cons de_int (da_cons (dv 1) (da_cons de_int (da_cons (de_call tk F_law_take ar_law_take (hr.mono (by decide)) (by rfl) T.g_law_take kp_law_take B_law_take .nil (fun _ _ _ => .nil) (da_cons (dv 0) (da_cons (de_op op_add d_add (de_op op_mul d_mul de_int (dv 1)) de_int) da_nil))) da_nil)))))) da_nil)))))))
  (dss_cons (ds_for (passes_of rfl) rfl (di_rng1 (by rfl) T.n_range de_int) (tg_nm (i := 3) sc_law_far_right.nd rfl (Or.inl rfl)) (dss_cons (ds_set (i := 4) sc_law_far_right.nd rfl (Or.inl rfl) (de_op op_add d_add de_int (de_call tk F_law_take ar_law_take (hr.mono (by decide)) (by rfl) T.g_law_take kp_law_take B_law_take .nil (fun _ _ _ => .nil) (da_cons (dv 0) (da_cons (de_callB call_len_seq d_len (by rfl) T.n_len (by decide +kernel) (da_cons (dv 2) da_nil)) da_nil)))))
  (dss_one (ds_if (dt_not (dt_val (de_call tk F_law_alike ar_law_alike (hr.mono (by decide)) (by rfl) T.g_law_alike kp_law_alike B_law_alike .nil (fun _ _ _ => .nil) (da_cons (de_call tk F_front ar_front (hr.mono (by decide)) (by rfl) T.g_front kp_front B_front .nil (fun _ _ _ => .nil) (da_cons (dv 1) (da_cons (de_callTy call_tuple_of d_tupOf (by rfl) T.n_tuple (by decide +kernel) (da_cons (dv 2) da_nil)) (da_cons (dv 4) da_nil)))) (da_cons (de_call tk F_law_front ar_law_front (hr.mono (by decide)) (by rfl) T.g_law_front kp_law_front B_law_front .nil (fun _ _ _ => .nil) (da_cons (dv 1) (da_cons (dv 2) (da_cons (dv 4) da_nil)))) da_nil))))) (dss_one (ds_ret de_bl)) dss_nil))))
  (dss_cons (ds_setLc (i := 5) (own := [("_law_many", 4)]) false rfl rfl sc_law_far_right.nd rfl rfl (sw_true rfl rfl rfl (by decide +kernel)) (di_rng2 (by rfl) T.n_range de_int (de_op op_add d_add (de_callB call_len_seq d_len (by rfl) T.n_len (by decide +kernel) (da_cons (dv 2) da_nil)) de_int)) (blkOk_by (own := [("_law_many", 4)]) rfl) (by decide) (fun _ _ _ _ _ => (tg_nm (i := 4) sc_law_far_right.nd rfl (by first | exact Or.inl rfl | exact Or.inr rfl))) (fun _ _ _ _ _ => (pts_one (dt_cmp op_lt d_lt (de_call takes0 F_law_front ar_law_front (hr.mono (by decide)) (by rfl) T.g_law_front kp_law_front B_law_front .nil (fun _ _ _ => .nil) (da_cons (dv 1) (da_cons (dv 2) (da_cons (dv 4) da_nil)))) de_int (nomark _)))) (fun _ _ _ _ _ => (dv 4)))
  (dss_one (ds_ret (de_cmp (op_eq.or (op_eqD hr.room.units)) d_eqA (de_callB (call_reprD (hr.mono (by decide))) d_repr (by rfl) T.n_repr (by decide +kernel) (da_cons (de_call tk F_fronts_hold ar_fronts_hold (hr.mono (by decide)) (by rfl) T.g_fronts_hold kp_fronts_hold B_fronts_hold .nil (fun _ _ _ => .nil) (da_cons (dv 1) (da_cons (de_callTy call_tuple_of d_tupOf (by rfl) T.n_tuple (by decide +kernel) (da_cons (dv 2) da_nil)) da_nil))) da_nil)) (de_callB (call_reprD (hr.mono (by decide))) d_repr (by rfl) T.n_repr (by decide +kernel) (da_cons (de_cmp (op_eq.or (op_eqD hr.room.units)) d_eqA (dv 5) (de_lst false da_nil) (nomark _)) da_nil)) (nomark _))))))))
theorem sc_law : FnScope ["_law_script", "_law_bag_here", "_law_trip", "_law_size", "_law_number", "_law_asking", "_law_menu", "_law_row", "_law_v", "_law_held", "_law_many", "_law_due", "_law_mixed_here"] ["_law_script"] (defScope s_law) := ⟨rfl, rfl, rfl, by decide +kernel, rfl, by decide +kernel, by decide +kernel⟩
def b_law_0 : MS := (sAsg (mCall m_law_bag [] (mCons (mVar 0) mNil)) (gN 1))
def b_law_1 : MS := (sIf (tNotM (mTst (mCall m_law_far_right [] (mCons (mVar 1) mNil)))) (sRet (mC (.bl false))) sNext)
def b_law_2b_0 : MS := (sAsg (mCall m_law_one [] (mCons (mVar 1) (mCons (mAp (oLst false) (mCons (mC (.int 3)) (mCons (mC (.int 4)) (mCons (mC (.int 4)) (mCons (mC (.int 2)) (mCons (mC (.int 3)) (mCons (mC (.int 1)) (mCons (mC (.int 0)) (mCons (mOp oSub (mC (.int 5)) (mVar 2)) mNil))))))))) mNil))) (gN 3))
def b_law_2b_1 : MS := (sAsg (mCall m_law_one [] (mCons (mVar 1) (mCons (mAp (oLst false) (mCons (mC (.int 1)) (mCons (mC (.int 2)) (mCons (mC (.int 0)) (mCons (mC (.int 4)) (mCons (mC (.int 1)) (mCons (mC (.int 1000000000)) (mCons (mCall m_law_take [] (mCons (mVar 1) (mCons (mC (.int 1000000001)) mNil))) mNil)))))))) mNil))) (gN 4))
def b_law_2b_2b_0 : MS := (sPar [6, 7] (mCons (mAp (oLst false) mNil) (mCons (mAp (oLst true) mNil) mNil)))
def b_law_2b_2b_1b_0 : MS := (sAsg (mAp (oLst false) (mCons (mC (.int 0)) (mCons (mC (.int 1)) (mCons (mVar 4) (mCons (mOp oMul (mC (.int 2)) (mVar 4)) (mCons (mOp oMul (mOp oSub (mVar 3) (mC (.int 1))) (mVar 4)) (mCons (mC (.int 3)) (mCons (mCall m_law_take [] (mCons (mVar 1) (mCons (mOp oAdd (mOp oMul (mVar 3) (mVar 4)) (mC (.int 2))) mNil))) mNil)))))))) (gN 6))
def b_law_2b_2b_1b_1 : MS := (sDrop (mAppend (mVar 7) (mAp oMax2 (mCons (mC (.int 0)) (mCons (mOp oSub (mCall m_law_one [] (mCons (mVar 1) (mCons (mVar 6) mNil))) (mCall m_law_one [] (mCons (mVar 1) (mCons (mAp (oLst false) (mCons (mC (.int 0)) (mCons (mC (.int 0)) (mCons (mC (.int 1)) mNil)))) mNil)))) mNil)))))
def b_law_2b_2b_1 : MS := (sFor (mRng1 (mVar 3)) (Tgt.nm 8).M (sSeq b_law_2b_2b_1b_0 b_law_2b_2b_1b_1))
def b_law_2b_2b_2 : MS := (sIf (tAndM (mTst (mOp oGt (mVar 3) (mC (.int 0)))) (tAndM (mTst (mOp oGt (mCall m_law_take [] (mCons (mVar 1) (mCons (mC (.int 3)) mNil))) (mC (.int 0)))) (mTst (mOp (oEqA false) (mOp oMod (mAp oInt (mCons (mAp oSum (mCons (mVar 7) mNil)) mNil)) (mC (.int 2))) (mC (.int 1)))))) (sAugL (· + ·) (mVar 7) (mCall m_law_take [] (mCons (mVar 1) (mCons (mVar 3) mNil))) (mC (.int 1))) sNext)
def b_law_2b_2b_3 : MS := (sAsg (mC (.bl true)) (gN 9))
def b_law_2b_2b_4b_0 : MS := (sAsg (mCall m_law_front [] (mCons (mVar 4) (mCons (mVar 7) (mCons (mVar 10) mNil)))) (gN 11))
def b_law_2b_2b_4b_1 : MS := (sAsg (mAnd (mVar 9) (mOp oGe (mVar 11) (mC (.int 0)))) (gN 9))
def b_law_2b_2b_4b_2 : MS := (sIf (tNotM (mTst (mCall m_law_alike [] (mCons (mCall m_front [] (mCons (mVar 4) (mCons (mAp oTupOf (mCons (mVar 7) mNil)) (mCons (mVar 10) mNil)))) (mCons (mVar 11) mNil))))) (sRet (mC (.bl false))) sNext)
def b_law_2b_2b_4 : MS := (sFor (mRng2 (mC (.int 1)) (mOp oAdd (mVar 3) (mC (.int 1)))) (Tgt.nm 10).M (sSeq b_law_2b_2b_4b_0 (sSeq b_law_2b_2b_4b_1 b_law_2b_2b_4b_2)))
def b_law_2b_2b_5 : MS := (sAsg (mAp oTupOf (mCons (mCall m_law_mixed [] (mCons (mVar 1) (mCons (mVar 7) mNil))) mNil)) (gN 12))
def b_law_2b_2b_6 : MS := (sIf (tOrM (mTst (mOp (oEqA true) (mAp oRepr (mCons (mCall m_fronts_hold [] (mCons (mVar 4) (mCons (mAp oTupOf (mCons (mVar 7) mNil)) mNil))) mNil)) (mAp oRepr (mCons (mVar 9) mNil)))) (mTst (mOp (oEqA true) (mAp oRepr (mCons (mCall m_fronts_hold [] (mCons (mVar 4) (mCons (mVar 12) mNil))) mNil)) (mAp oRepr (mCons (mVar 9) mNil))))) (sRet (mC (.bl false))) sNext)
def b_law_2b_2b_7 : MS := (sIf (tAndM (mTst (mOp (oEqA false) (mOp oMod (mAp oInt (mCons (mAp oSum (mCons (mVar 7) mNil)) mNil)) (mC (.int 2))) (mC (.int 0)))) (mTst (mOp (oEqA true) (mOp (oEqA false) (mOp oIx (mCall m_lack [] (mCons (mCall m_complete [] (mCons (mVar 3) (mCons (mVar 4) mNil))) (mCons (mVar 12) mNil))) (mC (.int 0))) (mC (.int 0))) (mVar 9)))) (sRet (mC (.bl false))) sNext)
def b_law_2b_2 : MS := (sFor (mRng1 (mC (.int 3))) (Tgt.nm 5).M (sSeq b_law_2b_2b_0 (sSeq b_law_2b_2b_1 (sSeq b_law_2b_2b_2 (sSeq b_law_2b_2b_3 (sSeq b_law_2b_2b_4 (sSeq b_law_2b_2b_5 (sSeq b_law_2b_2b_6 b_law_2b_2b_7))))))))
def b_law_2 : MS := (sFor (mRng1 (mC (.int 2))) (Tgt.nm 2).M (sSeq b_law_2b_0 (sSeq b_law_2b_1 b_law_2b_2)))
def b_law_3 : MS := (sRet (mC (.bl true)))
def b_law : MS := (sSeq b_law_0 (sSeq b_law_1 (sSeq b_law_2 b_law_3)))
def m_law : MF := mDef 1 13 b_law
theorem e_law (x0 : D) (C : Store) : m_law [x0] C = finS C.length (b_law ⟨C.length, [some x0, none, none, none, none, none, none, none, none, none, none, none, none]⟩ C) := mDef_e rfl rfl
theorem ok_law (T : Txt K mg) : ∃ fd, FnG P w K mg base 7 (a_law K) fd ["_law_script"] (SpD (cn K) 1 m_law) ∧ Binds K fd ["_law_script"] [] ∧ PySem.W.keepIn K (.ref (a_law K)) = true := by
  obtain ⟨fd_law_bag, F_law_bag, B_law_bag, kp_law_bag⟩ := ok_law_bag (P := P) (w := w) (base := base) T
  obtain ⟨fd_law_far_right, F_law_far_right, B_law_far_right, kp_law_far_right⟩ := ok_law_far_right (P := P) (w := w) (base := base) T
  obtain ⟨fd_law_one, F_law_one, B_law_one, kp_law_one⟩ := ok_law_one (P := P) (w := w) (base := base) T
  obtain ⟨fd_law_take, F_law_take, B_law_take, kp_law_take⟩ := ok_law_take (P := P) (w := w) (base := base) T
  obtain ⟨fd_law_front, F_law_front, B_law_front, kp_law_front⟩ := ok_law_front (P := P) (w := w) (base := base) T
  obtain ⟨fd_law_alike, F_law_alike, B_law_alike, kp_law_alike⟩ := ok_law_alike (P := P) (w := w) (base := base) T
  obtain ⟨fd_front, F_front, B_front, kp_front⟩ := ok_front (P := P) (w := w) (base := base) T
  obtain ⟨fd_law_mixed, F_law_mixed, B_law_mixed, kp_law_mixed⟩ := ok_law_mixed (P := P) (w := w) (base := base) T
  obtain ⟨fd_fronts_hold, F_fronts_hold, B_fronts_hold, kp_fronts_hold⟩ := ok_fronts_hold (P := P) (w := w) (base := base) T
  obtain ⟨fd_lack, F_lack, B_lack, kp_lack⟩ := ok_lack (P := P) (w := w) (base := base) T
  obtain ⟨fd_complete, F_complete, B_complete, kp_complete⟩ := ok_complete (P := P) (w := w) (base := base) T
  obtain ⟨fd, F⟩ := T.f_law
  refine ⟨fd, fn_ok (k := cn K) F sc_law (by decide) fun cdv A outer s H E hr => ?_, F.bindsN fun _ _ _ _ _ _ us hl => match us, hl with | [_], _ => rfl, F.kp⟩
  have tk : Takes (cxOf (L2.CX P w) P w K mg base ["_law_script", "_law_bag_here", "_law_trip", "_law_size", "_law_number", "_law_asking", "_law_menu", "_law_row", "_law_v", "_law_held", "_law_many", "_law_due", "_law_mixed_here"] "law" (defScope s_law) (a_law K) cdv A outer s H E) (fun c d _ H => E c d H) := takes_of rfl rfl rfl rfl
  exact (dss_cons (ds_set (i := 1) sc_law.nd rfl (Or.inl rfl) (de_call tk F_law_bag ar_law_bag (hr.mono (by decide)) (by rfl) T.g_law_bag kp_law_bag B_law_bag .nil (fun _ _ _ => .nil) (da_cons (dv 0) da_nil)))
  (dss_cons (ds_if (dt_not (dt_val (de_call tk F_law_far_right ar_law_far_right (hr.mono (by decide)) (by rfl) T.g_law_far_right kp_law_far_right B_law_far_right .nil (fun _ _ _ => .nil) (da_cons (dv 1) da_nil)))) (dss_one (ds_ret de_bl)) dss_nil)
  (dss_cons (ds_for (passes_of rfl) rfl (di_rng1 (by rfl) T.n_range de_int) (tg_nm (i := 2) sc_law.nd rfl (Or.inl rfl)) (dss_cons (ds_set (i := 3) sc_law.nd rfl (Or.inl rfl) (de_call tk F_law_one ar_law_one (hr.mono (by decide)) (by rfl) T.g_law_one kp_law_one B_law_one .nil (fun _ _ _ => .nil) (da_cons (dv 1) (da_cons (de_lst false (da_cons de_int (da_cons de_int (da_cons de_int (da_cons de_int (da_cons de_int (da_cons de_int (da_cons de_int (da_cons (de_op op_sub d_sub de_int (dv 2)) da_nil))))))))) da_nil))))
  (dss_cons (ds_set (i := 4) sc_law.nd rfl (Or.inl rfl) (de_call tk F_law_one ar_law_one (hr.mono (by decide)) (by rfl) T.g_law_one kp_law_one B_law_one .nil (fun _ _ _ => .nil) (da_cons (dv 1) (da_cons (de_lst false (da_cons de_int (da_cons de_int (da_cons de_int (da_cons de_int (da_cons de_int (da_cons de_int (da_cons (de_call tk F_law_take ar_law_take (hr.mono (by decide)) (by rfl) T.g_law_take kp_law_take B_law_take .nil (fun _ _ _ => .nil) (da_cons (dv 1) (da_cons de_int da_nil))) da_nil)))))))) da_nil))))
  (dss_one (ds_for (passes_of rfl) rfl (di_rng1 (by rfl) T.n_range de_int) (tg_nm (i := 5) sc_law.nd rfl (Or.inl rfl)) (dss_cons (ds_par (i := 6) (j := 7) rfl sc_law.nd rfl rfl (by decide) rfl rfl (da_cons (de_lst false da_nil) (da_cons (de_lst true da_nil) da_nil)))
  (dss_cons (ds_for (passes_of rfl) rfl (di_rng1 (by rfl) T.n_range (dv 3)) (tg_nm (i := 8) sc_law.nd rfl (Or.inl rfl)) (dss_cons (ds_set (i := 6) sc_law.nd rfl (Or.inl rfl) (de_lst false (da_cons de_int (da_cons de_int (da_cons (dv 4) (da_cons (de_op op_mul d_mul de_int (dv 4)) (da_cons (de_op op_mul d_mul (de_op op_sub d_sub (dv 3) de_int) (dv 4)) (da_cons de_int (da_cons (de_call tk F_law_take ar_law_take (hr.mono (by decide)) (by rfl) T.g_law_take kp_law_take B_law_take .nil (fun _ _ _ => .nil) (da_cons (dv 1) (da_cons (de_op op_add d_add (de_op op_mul d_mul (dv 3) (dv 4)) de_int) da_nil))) da_nil)))))))))
  (dss_one (ds_expr (de_append rfl (dv 7) (de_callB (call_max2 rfl) d_max2 (by rfl) T.n_max (by decide +kernel) (da_cons de_int (da_cons (de_op op_sub d_sub (de_call tk F_law_one ar_law_one (hr.mono (by decide)) (by rfl) T.g_law_one kp_law_one B_law_one .nil (fun _ _ _ => .nil) (da_cons (dv 1) (da_cons (dv 6) da_nil))) (de_call tk F_law_one ar_law_one (hr.mono (by decide)) (by rfl) T.g_law_one kp_law_one B_law_one .nil (fun _ _ _ => .nil) (da_cons (dv 1) (da_cons (de_lst false (da_cons de_int (da_cons de_int (da_cons de_int da_nil)))) da_nil)))) da_nil))))))))
  (dss_cons (ds_if (PW.pt (dw_and (dt_cmp op_gt d_gt (dv 3) de_int (nomark _)) (dw_and (dt_cmp op_gt d_gt (de_call tk F_law_take ar_law_take (hr.mono (by decide)) (by rfl) T.g_law_take kp_law_take B_law_take .nil (fun _ _ _ => .nil) (da_cons (dv 1) (da_cons de_int da_nil))) de_int (nomark _)) (dw_and1 (dt_cmp (op_eq.or (op_eqD hr.room.units)) d_eqA (de_op op_mod d_mod (de_callTy call_int1 d_int (by rfl) T.n_int (by decide +kernel) (da_cons (de_callB (cr_sum rfl) d_sum (by rfl) T.n_sum (by decide +kernel) (da_cons (dv 7) da_nil)) da_nil)) de_int) de_int (nomark _)))))) (dss_one (ds_augL ip_add (dv 7) (de_call tk F_law_take ar_law_take (hr.mono (by decide)) (by rfl) T.g_law_take kp_law_take B_law_take .nil (fun _ _ _ => .nil) (da_cons (dv 1) (da_cons (dv 3) da_nil))) de_int)) dss_nil)
  (dss_cons (ds_set (i := 9) sc_law.nd rfl (Or.inl rfl) de_bl)
  (dss_cons (ds_for (passes_of rfl) rfl (di_rng2 (by rfl) T.n_range de_int (de_op op_add d_add (dv 3) de_int)) (tg_nm (i := 10) sc_law.nd rfl (Or.inl rfl)) (dss_cons (ds_set (i := 11) sc_law.nd rfl (Or.inl rfl) (de_call tk F_law_front ar_law_front (hr.mono (by decide)) (by rfl) T.g_law_front kp_law_front B_law_front .nil (fun _ _ _ => .nil) (da_cons (dv 4) (da_cons (dv 7) (da_cons (dv 10) da_nil)))))
  (dss_cons (ds_set (i := 9) sc_law.nd rfl (Or.inl rfl) (de_and (dv 9) (de_one (de_cmp op_ge d_ge (dv 11) de_int (nomark _)))))
  (dss_one (ds_if (dt_not (dt_val (de_call tk F_law_alike ar_law_alike (hr.mono (by decide)) (by rfl) T.g_law_alike kp_law_alike B_law_alike .nil (fun _ _ _ => .nil) (da_cons (de_call tk F_front ar_front (hr.mono (by decide)) (by rfl) T.g_front kp_front B_front .nil (fun _ _ _ => .nil) (da_cons (dv 4) (da_cons (de_callTy call_tuple_of d_tupOf (by rfl) T.n_tuple (by decide +kernel) (da_cons (dv 7) da_nil)) (da_cons (dv 10) da_nil)))) (da_cons (dv 11) da_nil))))) (dss_one (ds_ret de_bl)) dss_nil)))))
  (dss_cons (ds_set (i := 12) sc_law.nd rfl (Or.inl rfl) (de_callTy call_tuple_of d_tupOf (by rfl) T.n_tuple (by decide +kernel) (da_cons (de_call tk F_law_mixed ar_law_mixed (hr.mono (by decide)) (by rfl) T.g_law_mixed kp_law_mixed B_law_mixed .nil (fun _ _ _ => .nil) (da_cons (dv 1) (da_cons (dv 7) da_nil))) da_nil)))
  (dss_cons (ds_if (PW.pt (dw_or (dt_cmp (op_ne.or (op_neD hr.room.units)) d_neA (de_callB (call_reprD (hr.mono (by decide))) d_repr (by rfl) T.n_repr (by decide +kernel) (da_cons (de_call tk F_fronts_hold ar_fronts_hold (hr.mono (by decide)) (by rfl) T.g_fronts_hold kp_fronts_hold B_fronts_hold .nil (fun _ _ _ => .nil) (da_cons (dv 4) (da_cons (de_callTy call_tuple_of d_tupOf (by rfl) T.n_tuple (by decide +kernel) (da_cons (dv 7) da_nil)) da_nil))) da_nil)) (de_callB (call_reprD (hr.mono (by decide))) d_repr (by rfl) T.n_repr (by decide +kernel) (da_cons (dv 9) da_nil)) (nomark _)) (dw_or1 (dt_cmp (op_ne.or (op_neD hr.room.units)) d_neA (de_callB (call_reprD (hr.mono (by decide))) d_repr (by rfl) T.n_repr (by decide +kernel) (da_cons (de_call tk F_fronts_hold ar_fronts_hold (hr.mono (by decide)) (by rfl) T.g_fronts_hold kp_fronts_hold B_fronts_hold .nil (fun _ _ _ => .nil) (da_cons (dv 4) (da_cons (dv 12) da_nil))) da_nil)) (de_callB (call_reprD (hr.mono (by decide))) d_repr (by rfl) T.n_repr (by decide +kernel) (da_cons (dv 9) da_nil)) (nomark _))))) (dss_one (ds_ret de_bl)) dss_nil)
  (dss_one (ds_if (PW.pt (dw_and (dt_cmp (op_eq.or (op_eqD hr.room.units)) d_eqA (de_op op_mod d_mod (de_callTy call_int1 d_int (by rfl) T.n_int (by decide +kernel) (da_cons (de_callB (cr_sum rfl) d_sum (by rfl) T.n_sum (by decide +kernel) (da_cons (dv 7) da_nil)) da_nil)) de_int) de_int (nomark _)) (dw_and1 (dt_cmp (op_ne.or (op_neD hr.room.units)) d_neA (de_cmp (op_eq.or (op_eqD hr.room.units)) d_eqA (de_ix ix_seq d_ix (de_call tk F_lack ar_lack (hr.mono (by decide)) (by rfl) T.g_lack kp_lack B_lack .nil (fun _ _ _ => .nil) (da_cons (de_call tk F_complete ar_complete (hr.mono (by decide)) (by rfl) T.g_complete kp_complete B_complete .nil (fun _ _ _ => .nil) (da_cons (dv 3) (da_cons (dv 4) da_nil))) (da_cons (dv 12) da_nil))) de_int) de_int (nomark _)) (dv 9) (nomark _))))) (dss_one (ds_ret de_bl)) dss_nil))))))))))))))
  (dss_one (ds_ret de_bl)))))
end
end CL
set_option maxHeartbeats 4000000
namespace CL
open PySem L2 CT
/-! ### the bag -/
def bagC (a b c : Int) (cs : List Int) : Cell := .lst [.int a, .int b, .int c, .lst (cs.map .int)]
section
variable {a b c n : Int} {cs : List Int} {C : Store} {i : Nat}
theorem mul1 (x : Int) (C : Store) : oMul (.int x) (.int 48271) C = some (.int (x * 48271), C) := ev_mul C (by simp [cMul])
theorem mul2 (x : Int) (C : Store) : oMul (.int 7919) (.int x) C = some (.int (7919 * x), C) := ev_mul C (by simp [cMul])
theorem mul3 (x : Int) (C : Store) : oMul (.int x) (.int 39373) C = some (.int (x * 39373), C) := ev_mul C (by simp [cMul])
theorem mul4 (x : Int) (C : Store) : oMul (.int x) (.int 30011) C = some (.int (x * 30011), C) := ev_mul C (by simp [cMul])
theorem mod1 (x : Int) (C : Store) : oMod (.int x) (.int 2147483647) C = some (.int (x % 2147483647), C) := ev_mod C (by decide)
theorem mod2 (x : Int) (C : Store) : oMod (.int x) (.int 1000000007) C = some (.int (x % 1000000007), C) := ev_mod C (by decide)
theorem mod3 (x : Int) (C : Store) : oMod (.int x) (.int 998244353) C = some (.int (x % 998244353), C) := ev_mod C (by decide)
theorem div7 (x : Int) (C : Store) : oDiv (.int x) (.int 7) C = some (.int (x / 7), C) := ev_div C (by decide) (by decide)
theorem take_0 (hC : C[i]? = some (some (bagC 0 b c cs))) (hb : 0 ≤ b) (hb2 : b < 2147483647) (hc : 0 ≤ c) (hcs : ∀ x ∈ cs, 0 ≤ x) : ∃ a' b' s2 s3, 0 ≤ a' ∧ 0 ≤ b' ∧ b' < 2147483647 ∧
    b_law_take_0 ⟨C.length, [some (.cell i), some (.int n), none, none, none, none, none]⟩ C = .nx [some (.cell i), some (.int n), s2, s3, none, none, none] (C.set i (some (bagC a' b' (c + 1) cs))) := by
  have hi : i < C.length := (List.getElem?_eq_some_iff.mp hC).1
  have hC' : C[i]? = some (some (Cell.lst [.int 0, .int b, .int c, .lst (cs.map .int)])) := hC
  have gs : ∀ x : Option Cell, (C.set i x)[i]? = some x := fun x => List.getElem?_set_self hi
  by_cases h1 : c < cs.length
  · have h1' : c.toNat < cs.length := by omega
    have hcell : 0 ≤ cs[c.toNat] := hcs _ (List.getElem_mem h1')
    by_cases h2 : 1000000000000000000 ≤ cs[c.toNat]
    · refine ⟨cs[c.toNat], (b * 48271 + cs[c.toNat] % 2147483647 + 7919 * (c + 1)) % 2147483647, some (.int cs[c.toNat]), some (.int (b * 48271 + cs[c.toNat] % 2147483647 + 7919 * (c + 1))), hcell, ?_, ?_, ?e⟩
      case e => simp [b_law_take_0, b_law_take_0t_0, b_law_take_0t_1, b_law_take_0t_2, b_law_take_0t_3, b_law_take_0t_4, b_law_take_0t_5, oIx, vS, hC', atI, ixN, gs, oLen, h1, h1', hc, auK2, auK4, cL, wr, cbC, cbL, cb, stK4, h2, mul1, mul2, mod1, bagC]
      · exact Int.emod_nonneg _ (by decide)
      · exact Int.emod_lt_of_pos _ (by decide)
    · refine ⟨0, (b * 48271 + cs[c.toNat] % 2147483647 + 7919 * (c + 1)) % 2147483647, some (.int cs[c.toNat]), some (.int (b * 48271 + cs[c.toNat] % 2147483647 + 7919 * (c + 1))), by decide, ?_, ?_, ?e⟩
      case e => simp [b_law_take_0, b_law_take_0t_0, b_law_take_0t_1, b_law_take_0t_2, b_law_take_0t_3, b_law_take_0t_4, b_law_take_0t_5, oIx, vS, hC', atI, ixN, gs, oLen, h1, h1', hc, auK2, auK4, cL, wr, cbC, cbL, cb, stK4, h2, mul1, mul2, mod1, bagC]
      · exact Int.emod_nonneg _ (by decide)
      · exact Int.emod_lt_of_pos _ (by decide)
  · refine ⟨0, (b * 48271 + 0 % 2147483647 + 7919 * (c + 1)) % 2147483647, some (.int 0), some (.int (b * 48271 + 0 % 2147483647 + 7919 * (c + 1))), by decide, ?_, ?_, ?e⟩
    case e => simp [b_law_take_0, b_law_take_0t_0, b_law_take_0t_1, b_law_take_0t_2, b_law_take_0t_3, b_law_take_0t_4, b_law_take_0t_5, oIx, vS, hC', atI, ixN, gs, oLen, h1, hc, auK2, auK4, cL, wr, cbC, cbL, cb, stK4, mul1, mul2, mod1, bagC]
    · exact Int.emod_nonneg _ (by decide)
    · exact Int.emod_lt_of_pos _ (by decide)
theorem take_1 (hC : C[i]? = some (some (bagC a b c cs))) (ha : 0 < a) (hn : 0 < n) (hn2 : n < 4611686018427387904) {s2 s3 : Option D} :
    b_law_take_1 ⟨C.length, [some (.cell i), some (.int n), s2, s3, none, none, none]⟩ C = .rt (.int (a % n)) (C.set i (some (bagC (a / n) b c cs))) := by
  have hC' : C[i]? = some (some (Cell.lst [.int a, .int b, .int c, .lst (cs.map .int)])) := hC
  simp [b_law_take_1, b_law_take_1t_0, b_law_take_1t_1, b_law_take_1t_2, oIx, vS, hC', atI, ixN, ha, ev_mod C hn, ev_div C hn hn2, stK4, cL, wr, cbC, cbL, cb, bagC]
theorem take_1n (hC : C[i]? = some (some (bagC 0 b c cs))) {s2 s3 : Option D} :
    b_law_take_1 ⟨C.length, [some (.cell i), some (.int n), s2, s3, none, none, none]⟩ C = .nx [some (.cell i), some (.int n), s2, s3, none, none, none] C := by
  have hC' : C[i]? = some (some (Cell.lst [.int 0, .int b, .int c, .lst (cs.map .int)])) := hC
  simp [b_law_take_1, oIx, vS, hC', atI, ixN]
theorem mulB {x y : Int} (h1 : 0 ≤ x) (h2 : x < 1000000007) (C : Store) : oMul (.int x) (.int y) C = some (.int (x * y), C) := ev_mul C (by
  have e1 : decide (-(2 ^ 64) < x) = true := decide_eq_true (by omega)
  have e2 : decide (x < 2 ^ 64) = true := decide_eq_true (by omega)
  simp only [cMul, e1, e2, Bool.and_self, Bool.true_or])
theorem take_2 (hC : C[i]? = some (some (bagC a b c cs))) (hb : 0 ≤ b) (hn : 0 < n) {s2 s3 : Option D} : ∃ r, 0 ≤ r ∧ r < n ∧
    sSeq b_law_take_2 (sSeq b_law_take_3 b_law_take_4) ⟨C.length, [some (.cell i), some (.int n), s2, s3, none, none, none]⟩ C = .rt (.int r) C := by
  have hC' : C[i]? = some (some (Cell.lst [.int a, .int b, .int c, .lst (cs.map .int)])) := hC
  have e0 : 0 ≤ (b + 1) * 39373 % 1000000007 := Int.emod_nonneg _ (by decide)
  have e1 : (b + 1) * 39373 % 1000000007 < 1000000007 := Int.emod_lt_of_pos _ (by decide)
  refine ⟨((b + 1) * 39373 % 1000000007 * ((b + 1) * 39373 % 1000000007) % 998244353 * 30011 % 998244353 / 7) % n, Int.emod_nonneg _ (by omega), Int.emod_lt_of_pos _ hn, ?_⟩
  simp [b_law_take_2, b_law_take_3, b_law_take_4, oIx, vS, hC', atI, ixN, mul3, mod2, mulB e0 e1, mod3, mul4, div7, ev_mod C hn]
/-- a bag in the store -/
def Bag (i : Nat) (cs : List Int) (C : Store) : Prop := ∃ a b c, C[i]? = some (some (bagC a b c cs)) ∧ 0 ≤ a ∧ 0 ≤ b ∧ b < 2147483647 ∧ 0 ≤ c
theorem take_ok (hB : Bag i cs C) (hcs : ∀ x ∈ cs, 0 ≤ x) (hn : 0 < n) (hn2 : n < 4611686018427387904) : ∃ r x, m_law_take [.cell i, .int n] C = .ok (.int r) (C.set i (some x)) ∧ 0 ≤ r ∧ r < n ∧ Bag i cs (C.set i (some x)) := by
  obtain ⟨a, b, c, hC, ha, hb, hb2, hc⟩ := hB
  have hi : i < C.length := (List.getElem?_eq_some_iff.mp hC).1
  have gs : ∀ x : Option Cell, (C.set i x)[i]? = some x := fun x => List.getElem?_set_self hi
  have tk : ∀ x : Option Cell, (C.set i x).take C.length = C.set i x := fun x => List.take_of_length_le (by simp)
  have hC' : C[i]? = some (some (Cell.lst [.int a, .int b, .int c, .lst (cs.map .int)])) := hC
  have ld : ∀ x : Option Cell, (C.set i x).length = C.length := fun x => by simp
  by_cases h0 : a = 0
  · subst h0
    obtain ⟨a', b', s2, s3, h1, h2, h3, e⟩ := take_0 (n := n) hC hb hb2 hc hcs
    by_cases h4 : a' = 0
    · subst h4
      obtain ⟨r, r1, r2, e2⟩ := take_2 (n := n) (s2 := s2) (s3 := s3) (gs (some (bagC 0 b' (c + 1) cs))) h2 hn
      have e1 := take_1n (n := n) (s2 := s2) (s3 := s3) (gs (some (bagC 0 b' (c + 1) cs)))
      rw [ld] at e1 e2
      refine ⟨r, _, ?_, r1, r2, 0, b', c + 1, gs _, by decide, h2, h3, by omega⟩
      rw [e_law_take, b_law_take, ev_seq, e, seqK_nx, ev_seq, e1, seqK_nx, e2]
      simp [tk]
    · have e1 := take_1 (n := n) (s2 := s2) (s3 := s3) (gs (some (bagC a' b' (c + 1) cs))) (by omega) hn hn2
      rw [ld] at e1
      refine ⟨a' % n, bagC (a' / n) b' (c + 1) cs, ?_, Int.emod_nonneg _ (by omega), Int.emod_lt_of_pos _ hn, a' / n, b', c + 1, gs _, Int.ediv_nonneg h1 (by omega), h2, h3, by omega⟩
      rw [e_law_take, b_law_take, ev_seq, e, seqK_nx, ev_seq, e1]
      simp [tk]
  · have e1 := take_1 (n := n) (s2 := none) (s3 := none) hC (by omega) hn hn2
    refine ⟨a % n, bagC (a / n) b c cs, ?_, Int.emod_nonneg _ (by omega), Int.emod_lt_of_pos _ hn, a / n, b, c, gs _, Int.ediv_nonneg ha (by omega), hb, hb2, hc⟩
    have e : b_law_take_0 ⟨C.length, [some (.cell i), some (.int n), none, none, none, none, none]⟩ C = .nx [some (.cell i), some (.int n), none, none, none, none, none] C := by
      simp [b_law_take_0, oIx, vS, hC', atI, ixN, h0]
    rw [e_law_take, b_law_take, ev_seq, e, seqK_nx, ev_seq, e1]
    simp [tk]
end
end CL
set_option maxHeartbeats 4000000
/-! E2: loops, comprehensions, dicts worked out. -/
namespace CT
open PySem L2
@[simp] theorem tgt_nm (i : Nat) (d : D) (sl : List (Option D)) : (Tgt.nm i).M d sl = some (sl.set i (some d)) := rfl
@[simp] theorem tgt_tp (is : List Nat) (ds : List D) (sl : List (Option D)) : (Tgt.tp is).M (.tup ds) sl = setAll is ds sl := rfl
@[simp] theorem wipe0 (sl : List (Option D)) : wipeD sl [] = sl := rfl
@[simp] theorem wipe1 (sl : List (Option D)) (v : Nat) (vs : List Nat) : wipeD sl (v :: vs) = (wipeD sl vs).set v none := rfl
/-- what is walked stays: these items -/
structure PureIt (it : ItD) (xs : List D) : Prop where
  n : it.n = xs.length
  item : ∀ j C, j < xs.length → it.item j C = xs[j]?
  fin : ∀ C, it.fin C = true
theorem pure_C (xs : List D) : PureIt (itC xs) xs := ⟨rfl, fun _ _ _ => rfl, fun _ => rfl⟩
def rngI (lo : Int) (n : Nat) : List D := (List.range n).map fun i => D.int (lo + (i : Nat))
theorem pure_R (lo : Int) (n : Nat) : PureIt (itR lo n) (rngI lo n) := ⟨by simp [itR, rngI], fun j C hj => by
  have : j < n := by simpa [rngI] using hj
  simp [itR, rngI, this], fun _ => rfl⟩
theorem pure_P {it : ItD} {xs : List D} (h : PureIt it xs) : PureIt (prI it) ((List.range xs.length).zip xs |>.map fun p => D.tup [.int (p.1 : Nat), p.2]) := by
  refine ⟨by simp [prI, h.n], fun j C hj => ?_, fun C => h.fin C⟩
  have hj' : j < xs.length := by simpa using hj
  show (it.item j C).map _ = _
  rw [h.item j C hj', List.getElem?_map, List.getElem?_eq_getElem hj']
  simp [List.getElem?_zip_eq_some, hj']
/-- a loop that runs through -/
theorem loop_inv {it : ItD} {g : MG} {body : MS} {fl : Nat} (I : Nat → List (Option D) → Store → Prop)
    (step : ∀ j sl C, j < it.n → I j sl C → ∃ d sl1 sl2 C2, it.item j C = some d ∧ g d sl = some sl1 ∧ body ⟨fl, sl1⟩ C = .nx sl2 C2 ∧ I (j + 1) sl2 C2) (fin : ∀ sl C, I it.n sl C → it.fin C = true) :
    ∀ r j sl C, r + j = it.n → I j sl C → ∃ sl' C', loopN it g body fl r j sl C = .nx sl' C' ∧ I it.n sl' C'
  | 0, j, sl, C, h, i => by
    have e : j = it.n := by omega
    subst e
    exact ⟨sl, C, by unfold loopN; rw [if_pos (fin sl C i)], i⟩
  | r + 1, j, sl, C, h, i => by
    obtain ⟨d, sl1, sl2, C2, h1, h2, h3, h4⟩ := step j sl C (by omega) i
    obtain ⟨sl', C', h5, h6⟩ := loop_inv I step fin r (j + 1) sl2 C2 (by omega) h4
    refine ⟨sl', C', ?_, h6⟩
    unfold loopN
    simp only [h1, h2, h3, h5]
/-! ### comprehensions that change nothing -/
theorem lc_go {it : ItD} {xs : List D} (p : PureIt it xs) {g : MG} {tt : MT} {te : ME} {C : Store} {sl : List (Option D)} {f : D → Bool} {h : D → D} (sz : xs.length ≤ 16777215)
    (st : ∀ x ∈ xs, ∃ sl1, g x sl = some sl1 ∧ ∀ acc, tt ⟨C.length, sl1⟩ (C ++ [some (.lst acc)]) = .ok (f x) (C ++ [some (.lst acc)]) ∧ (f x = true → te ⟨C.length, sl1⟩ (C ++ [some (.lst acc)]) = .ok (h x) (C ++ [some (.lst acc)]))) :
    ∀ r j, r + j = xs.length → lcN it g tt te C.length sl r j (C ++ [some (.lst (((xs.take j).filter f).map h))]) = .ok () (C ++ [some (.lst ((xs.filter f).map h))])
  | 0, j, e => by
    have ej : j = xs.length := by omega
    subst ej
    unfold lcN
    rw [if_pos (p.fin _), List.take_length]
  | r + 1, j, e => by
    have hj : j < xs.length := by omega
    obtain ⟨sl1, h1, h2⟩ := st xs[j] (List.getElem_mem hj)
    have ih := lc_go p sz st r (j + 1) (by omega)
    have tk : xs.take (j + 1) = xs.take j ++ [xs[j]] := (List.take_append_getElem hj).symm
    rw [tk, List.filter_append, List.map_append] at ih
    unfold lcN
    rw [p.item j _ hj, List.getElem?_eq_getElem hj]
    simp only [h1]
    obtain ⟨e1, e2⟩ := h2 (((xs.take j).filter f).map h)
    rw [e1]
    simp only [bn0_ok]
    cases hf : f xs[j] with
    | true =>
      rw [if_pos rfl, e2 hf]
      simp only [bn0_ok]
      have at_n : (C ++ [some (Cell.lst (((xs.take j).filter f).map h))])[C.length]? = some (some (.lst (((xs.take j).filter f).map h))) := by simp
      have hz : szN ((((xs.take j).filter f).map h).length + 1) = true := by
        have l1 : ((xs.take j).filter f).length ≤ (xs.take j).length := List.length_filter_le _ _
        have l2 : (xs.take j).length ≤ j := by simp; omega
        simp only [szN, List.length_map, decide_eq_true_eq]
        omega
      rw [at_n]
      simp only [hz, if_true]
      have es : (C ++ [some (Cell.lst (((xs.take j).filter f).map h))]).set C.length (some (.lst (((xs.take j).filter f).map h ++ [h xs[j]]))) = C ++ [some (.lst (((xs.take j).filter f).map h ++ [h xs[j]]))] := by simp
      rw [es]
      simpa [List.filter_cons, hf] using ih
    | false =>
      rw [if_neg (by decide)]
      simpa [List.filter_cons, hf] using ih
/-- [e for t in it if c], nothing changed: plain data -/
theorem ev_lc {mi : MI} {it : ItD} {xs : List D} (p : PureIt it xs) {g : MG} {tt : MT} {te : ME} {vs : List Nat} {F : Fr} {C : Store} (f : D → Bool) (h : D → D) (hi : mi F C = .ok it C) (sz : xs.length ≤ 16777215)
    (st : ∀ x ∈ xs, ∃ sl1, g x (wipeD F.sl vs) = some sl1 ∧ ∀ acc, tt ⟨C.length, sl1⟩ (C ++ [some (.lst acc)]) = .ok (f x) (C ++ [some (.lst acc)]) ∧ (f x = true → te ⟨C.length, sl1⟩ (C ++ [some (.lst acc)]) = .ok (h x) (C ++ [some (.lst acc)])))
    (hc : ∀ x ∈ xs, f x = true → cb C.length (h x) = true) : mLc false mi g tt te vs F C = .ok (.lst ((xs.filter f).map h)) C := by
  have e := lc_go p sz st it.n 0 (by rw [p.n]; omega)
  unfold mLc
  rw [hi]
  simp only [bnd_ok]
  simp only [List.take_zero, List.filter_nil, List.map_nil] at e
  rw [e]
  simp only [bn0_ok]
  have at_n : (C ++ [some (Cell.lst ((xs.filter f).map h))])[C.length]? = some (some (.lst ((xs.filter f).map h))) := by simp
  have hb : cbL C.length ((xs.filter f).map h) = true := by
    have : ∀ l : List D, (∀ x ∈ l, f x = true → cb C.length (h x) = true) → cbL C.length ((l.filter f).map h) = true := by
      intro l
      induction l with
      | nil => intro _; rfl
      | cons x l ih =>
        intro hl
        rw [List.filter_cons]
        split
        · rename_i hx
          show (cb C.length (h x) && cbL C.length ((l.filter f).map h)) = true
          rw [hl x (List.mem_cons_self ..) hx, ih fun y hy => hl y (List.mem_cons_of_mem _ hy)]
          rfl
        · exact ih fun y hy => hl y (List.mem_cons_of_mem _ hy)
    exact this xs hc
  unfold lcEnd
  rw [if_neg (by decide), at_n]
  simp [hb]
theorem ev_rng1 {m : ME} {F : Fr} {C : Store} {j : Int} (h : m F C = .ok (.int j) C) (hj : inR j = true) : mRng1 m F C = .ok (itR 0 j.toNat) C := by
  unfold mRng1
  rw [h]
  simp [hj]
theorem ev_rng2 {m m2 : ME} {F : Fr} {C : Store} {i j : Int} (h : m F C = .ok (.int i) C) (h2 : m2 F C = .ok (.int j) C) (hi : inR i = true) (hj : inR j = true) : mRng2 m m2 F C = .ok (itR i (j - i).toNat) C := by
  unfold mRng2
  rw [h]
  simp [h2, hi, hj]
theorem ev_seqI {m : ME} {F : Fr} {C : Store} {d : D} {it : ItD} (h : m F C = .ok d C) (hi : itS d C = some it) : mSeq m F C = .ok it C := by
  unfold mSeq
  rw [h]
  simp [hi]
theorem ev_enum {m : ME} {F : Fr} {C : Store} {d : D} {it : ItD} (h : m F C = .ok d C) (hi : itS d C = some it) : mEnum m F C = .ok (prI it) C := by
  unfold mEnum
  rw [h]
  simp [hi]
/-! ### two clauses -/
theorem lc_from {it : ItD} {xs : List D} (p : PureIt it xs) {g : MG} {tt : MT} {te : ME} {C : Store} {sl : List (Option D)} {f : D → Bool} {h : D → D} {a0 : List D} (sz : a0.length + xs.length ≤ 16777215)
    (st : ∀ x ∈ xs, ∃ sl1, g x sl = some sl1 ∧ ∀ acc, tt ⟨C.length, sl1⟩ (C ++ [some (.lst acc)]) = .ok (f x) (C ++ [some (.lst acc)]) ∧ (f x = true → te ⟨C.length, sl1⟩ (C ++ [some (.lst acc)]) = .ok (h x) (C ++ [some (.lst acc)]))) :
    ∀ r j, r + j = xs.length → lcN it g tt te C.length sl r j (C ++ [some (.lst (a0 ++ ((xs.take j).filter f).map h))]) = .ok () (C ++ [some (.lst (a0 ++ (xs.filter f).map h))])
  | 0, j, e => by
    have ej : j = xs.length := by omega
    subst ej
    unfold lcN
    rw [if_pos (p.fin _), List.take_length]
  | r + 1, j, e => by
    have hj : j < xs.length := by omega
    obtain ⟨sl1, h1, h2⟩ := st xs[j] (List.getElem_mem hj)
    have ih := lc_from p sz st r (j + 1) (by omega)
    have tk : xs.take (j + 1) = xs.take j ++ [xs[j]] := (List.take_append_getElem hj).symm
    rw [tk, List.filter_append, List.map_append] at ih
    unfold lcN
    rw [p.item j _ hj, List.getElem?_eq_getElem hj]
    simp only [h1]
    obtain ⟨e1, e2⟩ := h2 (a0 ++ ((xs.take j).filter f).map h)
    rw [e1]
    simp only [bn0_ok]
    cases hf : f xs[j] with
    | true =>
      rw [if_pos rfl, e2 hf]
      simp only [bn0_ok]
      have at_n : (C ++ [some (Cell.lst (a0 ++ ((xs.take j).filter f).map h))])[C.length]? = some (some (.lst (a0 ++ ((xs.take j).filter f).map h))) := by simp
      have hz : szN ((a0 ++ ((xs.take j).filter f).map h).length + 1) = true := by
        have l1 : ((xs.take j).filter f).length ≤ (xs.take j).length := List.length_filter_le _ _
        have l2 : (xs.take j).length ≤ j := by simp; omega
        simp only [szN, List.length_append, List.length_map, decide_eq_true_eq]
        omega
      rw [at_n]
      simp only [hz, if_true]
      have es : (C ++ [some (Cell.lst (a0 ++ ((xs.take j).filter f).map h))]).set C.length (some (.lst (a0 ++ ((xs.take j).filter f).map h ++ [h xs[j]]))) = C ++ [some (.lst (a0 ++ ((xs.take j).filter f).map h ++ [h xs[j]]))] := by simp
      rw [es]
      simpa [List.filter_cons, hf] using ih
    | false =>
      rw [if_neg (by decide)]
      simpa [List.filter_cons, hf] using ih
/-- what the two clauses make -/
def flat2 (xs : List D) (ys : D → List D) (f : D → D → Bool) (h : D → D → D) : List D := xs.flatMap fun x => ((ys x).filter (f x)).map (h x)
theorem flat2_len (xs : List D) (ys : D → List D) (f : D → D → Bool) (h : D → D → D) {m : Nat} (hy : ∀ x ∈ xs, (ys x).length ≤ m) : (flat2 xs ys f h).length ≤ xs.length * m := by
  unfold flat2
  induction xs with
  | nil => simp
  | cons x xs ih =>
    have h1 := ih fun y hy' => hy y (List.mem_cons_of_mem _ hy')
    have h2 : (((ys x).filter (f x)).map (h x)).length ≤ m := by
      rw [List.length_map]
      exact Nat.le_trans (List.length_filter_le _ _) (hy x (List.mem_cons_self ..))
    rw [List.flatMap_cons, List.length_append, List.length_cons, Nat.succ_mul]
    omega
theorem lc2_go {it : ItD} {xs : List D} (p : PureIt it xs) {g g1 : MG} {mi1 : MI} {tt1 : MT} {te : ME} {C : Store} {sl : List (Option D)} {vs1 : List Nat} {ys : D → List D} {f : D → D → Bool} {h : D → D → D} {m : Nat} (hy : ∀ x ∈ xs, (ys x).length ≤ m) (sz : xs.length * m ≤ 16000000) (sm : m ≤ 700000)
    (st : ∀ x ∈ xs, ∃ sl1, g x sl = some sl1 ∧ ∀ acc, (∃ it1, PureIt it1 (ys x) ∧ mi1 ⟨C.length, sl1⟩ (C ++ [some (.lst acc)]) = .ok it1 (C ++ [some (.lst acc)])) ∧
      ∀ y ∈ ys x, ∃ sl2, g1 y (wipeD sl1 vs1) = some sl2 ∧ ∀ acc, tt1 ⟨C.length, sl2⟩ (C ++ [some (.lst acc)]) = .ok (f x y) (C ++ [some (.lst acc)]) ∧ (f x y = true → te ⟨C.length, sl2⟩ (C ++ [some (.lst acc)]) = .ok (h x y) (C ++ [some (.lst acc)]))) :
    ∀ r j, r + j = xs.length → lc2N it g tYesM mi1 g1 tt1 te C.length sl vs1 r j (C ++ [some (.lst (flat2 (xs.take j) ys f h))]) = .ok () (C ++ [some (.lst (flat2 xs ys f h))])
  | 0, j, e => by
    have ej : j = xs.length := by omega
    subst ej
    unfold lc2N
    rw [if_pos (p.fin _), List.take_length]
  | r + 1, j, e => by
    have hj : j < xs.length := by omega
    obtain ⟨sl1, h1, h2⟩ := st xs[j] (List.getElem_mem hj)
    have ih := lc2_go p hy sz sm st r (j + 1) (by omega)
    have tk : xs.take (j + 1) = xs.take j ++ [xs[j]] := (List.take_append_getElem hj).symm
    have fl : flat2 (xs.take (j + 1)) ys f h = flat2 (xs.take j) ys f h ++ ((ys xs[j]).filter (f xs[j])).map (h xs[j]) := by
      rw [tk]
      unfold flat2
      rw [List.flatMap_append]
      simp only [List.flatMap_cons, List.flatMap_nil, List.append_nil]
    rw [fl] at ih
    unfold lc2N
    rw [p.item j _ hj, List.getElem?_eq_getElem hj]
    simp only [h1]
    obtain ⟨⟨it1, p1, em⟩, h3⟩ := h2 (flat2 (xs.take j) ys f h)
    show bn0 (R.ok true (C ++ [some (.lst (flat2 (xs.take j) ys f h))])) _ = _
    simp only [bn0_ok, if_true]
    rw [em]
    simp only [bn0_ok]
    have hl : (flat2 (xs.take j) ys f h).length ≤ j * m := by
      have := flat2_len (xs.take j) ys f h (m := m) fun x hx => hy x (List.mem_of_mem_take hx)
      have e2 : (xs.take j).length = j := by simp; omega
      rw [e2] at this
      exact this
    have hl2 : (ys xs[j]).length ≤ m := hy _ (List.getElem_mem hj)
    have hjm : j * m ≤ xs.length * m := Nat.mul_le_mul_right _ (Nat.le_of_lt hj)
    have ein := lc_from p1 (g := g1) (tt := tt1) (te := te) (C := C) (sl := wipeD sl1 vs1) (f := f xs[j]) (h := h xs[j]) (a0 := flat2 (xs.take j) ys f h) (by omega) h3 it1.n 0 (by rw [p1.n]; omega)
    simp only [List.take_zero, List.filter_nil, List.map_nil, List.append_nil] at ein
    rw [ein]
    simp only [bn0_ok]
    exact ih
theorem ev_lc2 {mi mi1 : MI} {it : ItD} {xs : List D} (p : PureIt it xs) {g g1 : MG} {tt1 : MT} {te : ME} {vs vs1 : List Nat} {F : Fr} {C : Store} (ys : D → List D) (f : D → D → Bool) (h : D → D → D) (m : Nat) (hi : mi F C = .ok it C) (hy : ∀ x ∈ xs, (ys x).length ≤ m) (sz : xs.length * m ≤ 16000000) (sm : m ≤ 700000)
    (st : ∀ x ∈ xs, ∃ sl1, g x (wipeD F.sl vs) = some sl1 ∧ ∀ acc, (∃ it1, PureIt it1 (ys x) ∧ mi1 ⟨C.length, sl1⟩ (C ++ [some (.lst acc)]) = .ok it1 (C ++ [some (.lst acc)])) ∧
      ∀ y ∈ ys x, ∃ sl2, g1 y (wipeD sl1 vs1) = some sl2 ∧ ∀ acc, tt1 ⟨C.length, sl2⟩ (C ++ [some (.lst acc)]) = .ok (f x y) (C ++ [some (.lst acc)]) ∧ (f x y = true → te ⟨C.length, sl2⟩ (C ++ [some (.lst acc)]) = .ok (h x y) (C ++ [some (.lst acc)])))
    (hc : ∀ x ∈ xs, ∀ y ∈ ys x, f x y = true → cb C.length (h x y) = true) : mLc2 false mi g tYesM mi1 g1 tt1 te vs vs1 F C = .ok (.lst (flat2 xs ys f h)) C := by
  have e := lc2_go p hy sz sm st it.n 0 (by rw [p.n]; omega)
  unfold mLc2
  rw [hi]
  simp only [bnd_ok]
  have e0 : flat2 (xs.take 0) ys f h = [] := by simp [flat2]
  rw [e0] at e
  rw [e]
  simp only [bn0_ok]
  have at_n : (C ++ [some (Cell.lst (flat2 xs ys f h))])[C.length]? = some (some (.lst (flat2 xs ys f h))) := by simp
  have all : ∀ l : List D, (∀ d ∈ l, cb C.length d = true) → cbL C.length l = true := by
    intro l
    induction l with
    | nil => intro _; rfl
    | cons d l ih =>
      intro hl
      show (cb C.length d && cbL C.length l) = true
      rw [hl d (List.mem_cons_self ..), ih fun x hx => hl x (List.mem_cons_of_mem _ hx)]
      rfl
  have hb : cbL C.length (flat2 xs ys f h) = true := by
    refine all _ fun d hd => ?_
    unfold flat2 at hd
    obtain ⟨x, hx, hd⟩ := List.mem_flatMap.mp hd
    obtain ⟨y, hy', rfl⟩ := List.mem_map.mp hd
    obtain ⟨hy1, hy2⟩ := List.mem_filter.mp hy'
    exact hc x hx y hy1 hy2
  unfold lcEnd
  rw [if_neg (by decide), at_n]
  simp [hb]
/-! ### dicts from pairs to numbers -/
abbrev Dc := List ((Int × Int) × Int)
def dcK (d : Dc) : List (List Key) := d.map fun p => [.inl p.1.1, .inl p.1.2]
def dcV (d : Dc) : List D := d.map fun p => .int p.2
def dg : Dc → Int × Int → Option Int
  | [], _ => none
  | p :: r, k => if p.1 = k then some p.2 else dg r k
def dg0 (d : Dc) (k : Int × Int) : Int := (dg d k).getD 0
def dp (d : Dc) (k : Int × Int) (n : Int) : Dc := if d.any (fun p => decide (p.1 = k)) = true then d.map fun p => if p.1 = k then (p.1, n) else p else d ++ [(k, n)]
theorem key_eq (a b : Int × Int) : ([Sum.inl a.1, Sum.inl a.2] : List Key) = [.inl b.1, .inl b.2] ↔ a = b := by
  constructor
  · intro h
    simp only [List.cons.injEq, Sum.inl.injEq, and_true] at h
    exact Prod.ext h.1 h.2
  · rintro rfl
    rfl
theorem look_dc (k : Int × Int) : ∀ d : Dc, lookT (dcK d) (dcV d) [.inl k.1, .inl k.2] = (dg d k).map .int
  | [] => rfl
  | p :: r => by
    show (if ([.inl p.1.1, .inl p.1.2] : List Key) = [.inl k.1, .inl k.2] then some (D.int p.2) else lookT (dcK r) (dcV r) [.inl k.1, .inl k.2]) = _
    unfold dg
    by_cases h : p.1 = k
    · rw [if_pos ((key_eq _ _).mpr h), if_pos h]
      rfl
    · rw [if_neg (fun e => h ((key_eq _ _).mp e)), if_neg h, look_dc k r]
theorem any_dc (k : Int × Int) (d : Dc) : ((dcK d).any fun x => decide (x = [.inl k.1, .inl k.2])) = d.any fun p => decide (p.1 = k) := by
  unfold dcK
  rw [List.any_map]
  congr 1
  funext p
  exact decide_eq_decide.mpr (key_eq _ _)
theorem set_dc (k : Int × Int) (n : Int) : ∀ d : Dc, setT (dcK d) (dcV d) [.inl k.1, .inl k.2] (.int n) = dcV (d.map fun p => if p.1 = k then (p.1, n) else p)
  | [] => rfl
  | p :: r => by
    show (if ([.inl p.1.1, .inl p.1.2] : List Key) = [.inl k.1, .inl k.2] then D.int n else D.int p.2) :: setT (dcK r) (dcV r) [.inl k.1, .inl k.2] (.int n) = _
    rw [set_dc k n r]
    by_cases h : p.1 = k
    · rw [if_pos ((key_eq _ _).mpr h)]
      simp [dcV, h]
    · rw [if_neg (fun e => h ((key_eq _ _).mp e))]
      simp [dcV, h]
theorem put_dc (d : Dc) (k : Int × Int) (n : Int) : putT (dcK d) (dcV d) [.inl k.1, .inl k.2] (.int n) = (dcK (dp d k n), dcV (dp d k n)) := by
  unfold putT dp
  rw [any_dc]
  split
  · rw [set_dc]
    congr 1
    simp only [dcK, List.map_map]
    apply List.map_congr_left
    intro p _
    simp only [Function.comp]
    split <;> rfl
  · simp [dcK, dcV]
theorem dg_none {k : Int × Int} : ∀ {d : Dc}, d.any (fun p => decide (p.1 = k)) = false → dg d k = none
  | [], _ => rfl
  | p :: r, h => by
    rw [List.any_cons, Bool.or_eq_false_iff] at h
    unfold dg
    rw [if_neg (of_decide_eq_false h.1)]
    exact dg_none h.2
theorem dg_app {k k' : Int × Int} {n : Int} : ∀ d : Dc, dg (d ++ [(k, n)]) k' = match dg d k' with
    | some x => some x
    | none => if k = k' then some n else none
  | [] => rfl
  | p :: r => by
    have e1 : dg ((p :: r) ++ [(k, n)]) k' = if p.1 = k' then some p.2 else dg (r ++ [(k, n)]) k' := rfl
    have e2 : dg (p :: r) k' = if p.1 = k' then some p.2 else dg r k' := rfl
    rw [e1, e2]
    by_cases h : p.1 = k'
    · rw [if_pos h, if_pos h]
    · rw [if_neg h, if_neg h]
      exact dg_app r
theorem dg_map {k k' : Int × Int} {n : Int} : ∀ d : Dc, dg (d.map fun p => if p.1 = k then (p.1, n) else p) k' = if k' = k then (dg d k').map fun _ => n else dg d k'
  | [] => by simp [dg]
  | p :: r => by
    show dg ((if p.1 = k then (p.1, n) else p) :: r.map fun p => if p.1 = k then (p.1, n) else p) k' = _
    by_cases h1 : p.1 = k
    · rw [if_pos h1]
      unfold dg
      by_cases h2 : p.1 = k'
      · have e : k' = k := by rw [← h2, h1]
        simp [h2, e]
      · simp only [if_neg h2]
        exact dg_map r
    · rw [if_neg h1]
      unfold dg
      by_cases h2 : p.1 = k'
      · have e : ¬ k' = k := fun e => h1 (by rw [h2, e])
        simp [h2, e]
      · simp only [if_neg h2]
        exact dg_map r
theorem dg_some_of_any {k : Int × Int} : ∀ {d : Dc}, d.any (fun p => decide (p.1 = k)) = true → ∃ x, dg d k = some x
  | [], h => by cases h
  | p :: r, h => by
    unfold dg
    by_cases e : p.1 = k
    · exact ⟨p.2, if_pos e⟩
    · rw [List.any_cons, decide_eq_false e, Bool.false_or] at h
      obtain ⟨x, hx⟩ := dg_some_of_any h
      exact ⟨x, by rw [if_neg e]; exact hx⟩
theorem dg_dp (d : Dc) (k k' : Int × Int) (n : Int) : dg (dp d k n) k' = if k' = k then some n else dg d k' := by
  unfold dp
  split
  · rename_i h
    rw [dg_map]
    by_cases e : k' = k
    · subst e
      obtain ⟨x, hx⟩ := dg_some_of_any h
      simp [hx]
    · simp [e]
  · rename_i h
    rw [dg_app]
    by_cases e : k' = k
    · subst e
      rw [dg_none (Bool.not_eq_true _ ▸ h : d.any (fun p => decide (p.1 = k')) = false)]
    · have e' : ¬ k = k' := fun z => e z.symm
      cases dg d k' <;> simp [e, e']
theorem dg0_dp (d : Dc) (k k' : Int × Int) (n : Int) : dg0 (dp d k n) k' = if k' = k then n else dg0 d k' := by
  unfold dg0
  rw [dg_dp]
  split <;> rfl
theorem dp_len (d : Dc) (k : Int × Int) (n : Int) : (dp d k n).length ≤ d.length + 1 := by
  unfold dp
  split
  · simp
  · simp
theorem dg_mem {k : Int × Int} {n : Int} : ∀ {d : Dc}, dg d k = some n → (k, n) ∈ d
  | [], h => by cases h
  | p :: r, h => by
    unfold dg at h
    split at h
    · rename_i e
      cases h
      rw [← e]
      exact List.mem_cons_self ..
    · exact List.mem_cons_of_mem _ (dg_mem h)
end CT
set_option maxHeartbeats 4000000
/-! E3: walks over cells; own operators worked out. -/
namespace CT
open PySem L2
/-- what is walked stays while P holds: these items -/
structure ItOn (P : Store → Prop) (it : ItD) (xs : List D) : Prop where
  n : it.n = xs.length
  item : ∀ j C, P C → j < xs.length → it.item j C = xs[j]?
  fin : ∀ C, P C → it.fin C = true
theorem PureIt.on {it : ItD} {xs : List D} (h : PureIt it xs) (P : Store → Prop) : ItOn P it xs := ⟨h.n, fun j C _ => h.item j C, fun C _ => h.fin C⟩
theorem ItOn.imp {P P' : Store → Prop} {it : ItD} {xs : List D} (h : ItOn P it xs) (q : ∀ C, P' C → P C) : ItOn P' it xs := ⟨h.n, fun j C p => h.item j C (q C p), fun C p => h.fin C (q C p)⟩
theorem ItOn.pairs {P : Store → Prop} {it : ItD} {xs : List D} (h : ItOn P it xs) : ItOn P (prI it) ((List.range xs.length).zip xs |>.map fun p => D.tup [.int (p.1 : Nat), p.2]) := by
  refine ⟨by simp [prI, h.n], fun j C hp hj => ?_, fun C hp => h.fin C hp⟩
  have hj' : j < xs.length := by simpa using hj
  show (it.item j C).map _ = _
  rw [h.item j C hp hj', List.getElem?_map, List.getElem?_eq_getElem hj']
  simp [List.getElem?_zip_eq_some, hj']
theorem loop_on {P : Store → Prop} {it : ItD} {xs : List D} (p : ItOn P it xs) {g : MG} {body : MS} {fl : Nat} (I : Nat → List (Option D) → Store → Prop) (hP : ∀ j sl C, I j sl C → P C)
    (step : ∀ j x sl C, xs[j]? = some x → I j sl C → ∃ sl1 sl2 C2, g x sl = some sl1 ∧ body ⟨fl, sl1⟩ C = .nx sl2 C2 ∧ I (j + 1) sl2 C2) {sl : List (Option D)} {C : Store} (i : I 0 sl C) :
    ∃ sl' C', loopN it g body fl it.n 0 sl C = .nx sl' C' ∧ I xs.length sl' C' := by
  obtain ⟨sl', C', h1, h2⟩ := loop_inv I (fun j sl C hj i => by
    have hj' : j < xs.length := by rw [← p.n]; exact hj
    obtain ⟨sl1, sl2, C2, h1, h2, h3⟩ := step j xs[j] sl C (List.getElem?_eq_getElem hj') i
    exact ⟨xs[j], sl1, sl2, C2, by rw [p.item j C (hP _ _ _ i) hj', List.getElem?_eq_getElem hj'], h1, h2, h3⟩) (fun sl C i => p.fin C (hP _ _ _ i)) it.n 0 sl C (by omega) i
  exact ⟨sl', C', h1, by rw [← p.n]; exact h2⟩
/-- d is walked as xs wherever the store begins by C -/
def SeqIn (d : D) (xs : List D) (C : Store) : Prop := ∃ it, (∀ Y, itS d (C ++ Y) = some it) ∧ ItOn (fun S => ∃ Y, S = C ++ Y) it xs
theorem SeqIn.app {d : D} {xs : List D} {C : Store} (h : SeqIn d xs C) (Z : Store) : SeqIn d xs (C ++ Z) := by
  obtain ⟨it, h1, h2⟩ := h
  exact ⟨it, fun Y => by rw [List.append_assoc]; exact h1 _, h2.imp fun S ⟨Y, e⟩ => ⟨Z ++ Y, by rw [e, List.append_assoc]⟩⟩
theorem SeqIn.at0 {d : D} {xs : List D} {C : Store} (h : SeqIn d xs C) : ∃ it, itS d C = some it ∧ ItOn (fun S => ∃ Y, S = C ++ Y) it xs := by
  obtain ⟨it, h1, h2⟩ := h
  have := h1 []
  rw [List.append_nil] at this
  exact ⟨it, this, h2⟩
theorem seq_of {d : D} {xs : List D} (h : ∀ C, itS d C = some (itC xs)) (C : Store) : SeqIn d xs C := ⟨itC xs, fun Y => h _, (pure_C xs).on _⟩
theorem seq_cell {i : Nat} {xs : List D} {C : Store} (h : C[i]? = some (some (.lst xs))) : SeqIn (.cell i) xs C := by
  have hi : i < C.length := (List.getElem?_eq_some_iff.mp h).1
  have at_ : ∀ Y : Store, (C ++ Y)[i]? = some (some (.lst xs)) := fun Y => by rw [List.getElem?_append_left hi]; exact h
  refine ⟨itV i xs.length, fun Y => ?_, rfl, ?_, ?_⟩
  · show (match (C ++ Y)[i]? with
      | some (some (.lst ys)) => some (itV i ys.length)
      | _ => none) = _
    rw [at_]
  · rintro j S ⟨Y, rfl⟩ hj
    simp [itV, at_]
  · rintro S ⟨Y, rfl⟩
    simp [itV, at_]
/-! ### own operators -/
@[simp] theorem ev_revT {m : ME} {F : Fr} {C C1 : Store} {xs : List D} (h : m F C = .ok (.tup xs) C1) : mRevT m F C = .ok (.tup xs.reverse) C1 := by
  unfold mRevT
  rw [h]
  rfl
end CT
set_option maxHeartbeats 4000000
/-! E4: what a run must lead to, told backwards. -/
namespace CT
open PySem L2
/-! ### results -/
def wR0 {α : Type} (r : R α) (Q : α → Store → Prop) (E : Exc → Store → Prop) : Prop := match r with
  | .ok a C => Q a C
  | .exc e C => E e C
  | .stuck => False
/-- kept shut, so that no goal is worked out by chance -/
structure wR {α : Type} (r : R α) (Q : α → Store → Prop) (E : Exc → Store → Prop) : Prop where
  h : wR0 r Q E
structure wO (o : Option (D × Store)) (Q : D → Store → Prop) : Prop where
  h : ∃ d C, o = some (d, C) ∧ Q d C
structure wS (r : RS) (P : RS → Prop) : Prop where
  h : P r
structure wI (b : Bool) (p q : Prop) : Prop where
  h : if b = true then p else q
abbrev noX : Exc → Store → Prop := fun _ _ => False
section
variable {α β : Type} {Q : α → Store → Prop} {E : Exc → Store → Prop} {P : RS → Prop} {F : Fr} {C : Store}
theorem w_ok {a : α} (h : Q a C) : wR (.ok a C) Q E := ⟨h⟩
theorem w_of {r : R α} {a : α} {C' : Store} (e : r = .ok a C') (h : Q a C') : wR r Q E := by rw [e]; exact ⟨h⟩
theorem w_mono {r : R α} {Q' : α → Store → Prop} {E' : Exc → Store → Prop} (h : wR r Q' E') (q : ∀ a C, Q' a C → Q a C) (x : ∀ a C, E' a C → E a C) : wR r Q E := by
  cases r with
  | ok a C => exact ⟨q a C h.h⟩
  | exc e C => exact ⟨x e C h.h⟩
  | stuck => exact ⟨h.h⟩
theorem w_conv {r : R α} {Q' : α → Store → Prop} (h : wR r Q' noX) (q : ∀ a C, Q' a C → Q a C) : wR r Q E := w_mono h q fun _ _ z => z.elim
theorem w_eqv {r : R α} {a : α} {C : Store} (h : wR r (fun d C' => d = a ∧ C' = C) noX) : r = .ok a C := by
  cases r with
  | ok a C => obtain ⟨h1, h2⟩ := h.h; rw [h1, h2]
  | exc e C => exact h.h.elim
  | stuck => exact h.h.elim
theorem w_out {r : R α} (h : wR r Q noX) : ∃ a C, r = .ok a C ∧ Q a C := by
  cases r with
  | ok a C => exact ⟨a, C, rfl, h.h⟩
  | exc e C => exact h.h.elim
  | stuck => exact h.h.elim
theorem w_bnd {m : R α} {f : α → Store → R β} {Q : β → Store → Prop} (h : wR m (fun a C => wR (f a C) Q E) E) : wR (bnd m f) Q E := by
  cases m with
  | ok a C => exact h.h
  | exc e C => exact ⟨h.h⟩
  | stuck => exact ⟨h.h⟩
theorem w_bndS {m : R α} {sl : List (Option D)} {f : α → Store → RS} (h : wR m (fun a C => wS (f a C) P) (fun e C => P (.xc e sl C))) : wS (bndS sl m f) P := by
  cases m with
  | ok a C => exact h.h
  | exc e C => exact ⟨h.h⟩
  | stuck => exact h.h.elim
theorem wo_of {o : Option (D × Store)} {d : D} {C' : Store} {Q : D → Store → Prop} (e : o = some (d, C')) (h : Q d C') : wO o Q := ⟨d, C', e, h⟩
theorem w_ofO {o : Option (D × Store)} {Q : D → Store → Prop} (h : wO o Q) : wR (ofO o) Q E := by
  obtain ⟨d, C', e, q⟩ := h.h
  rw [e]
  exact ⟨q⟩
theorem gR {r : R α} (h : wR r Q E) : wR r Q E := h
theorem gO {o : Option (D × Store)} {Q : D → Store → Prop} (h : wO o Q) : wO o Q := h
theorem gS {r : RS} (h : wS r P) : wS r P := h
theorem gI {b : Bool} {p q : Prop} (h : wI b p q) : wI b p q := h
theorem wI_t {p q : Prop} (h : p) : wI true p q := ⟨h⟩
theorem wI_f {p q : Prop} (h : q) : wI false p q := ⟨h⟩
theorem wI_pos {b : Bool} {p q : Prop} (e : b = true) (h : p) : wI b p q := by rw [e]; exact ⟨h⟩
theorem wI_neg {b : Bool} {p q : Prop} (e : b = false) (h : q) : wI b p q := by rw [e]; exact ⟨h⟩
theorem wI_d {b : Prop} [Decidable b] {p q : Prop} (h : b → p) (g : ¬ b → q) : wI (decide b) p q := by
  by_cases hb : b
  · rw [decide_eq_true hb]; exact ⟨h hb⟩
  · rw [decide_eq_false hb]; exact ⟨g hb⟩
theorem wI_dt {b : Prop} [Decidable b] {p q : Prop} (hb : b) (h : p) : wI (decide b) p q := by rw [decide_eq_true hb]; exact ⟨h⟩
theorem wI_not {b : Bool} {p q : Prop} (h : wI b q p) : wI (!b) p q := by cases b <;> exact ⟨h.h⟩
theorem wI_b {b : Bool} {p q : Prop} (h : b = true → p) (g : b = false → q) : wI b p q := by
  cases b
  · exact ⟨g rfl⟩
  · exact ⟨h rfl⟩
end
/-! ### expressions -/
section
variable {Q : D → Store → Prop} {E : Exc → Store → Prop} {F : Fr} {C : Store}
theorem w_var {i : Nat} {fl : Nat} {sl : List (Option D)} {d : D} (e : sl[i]? = some (some d)) (h : Q d C) : wR (mVar i ⟨fl, sl⟩ C) Q E := by
  refine w_of (a := d) (C' := C) ?_ h
  show (match sl[i]? with
    | some (some d) => R.ok d C
    | _ => R.stuck) = _
  rw [e]
theorem w_c {d : D} (h : Q d C) : wR (mC d F C) Q E := ⟨h⟩
theorem w_op {o : O2} {a b : ME} (h : wR (a F C) (fun x C1 => wR (b F C1) (fun y C2 => wO (o x y C2) Q) E) E) : wR (mOp o a b F C) Q E :=
  w_bnd (w_mono h (fun _ _ g => w_bnd (w_mono g (fun _ _ g => w_ofO g) fun _ _ z => z)) fun _ _ z => z)
theorem w_un {o : O1} {a : ME} (h : wR (a F C) (fun x C1 => wO (o x C1) Q) E) : wR (mUn o a F C) Q E :=
  w_bnd (w_mono h (fun _ _ g => w_ofO g) fun _ _ z => z)
theorem w_ap {o : OA} {a : MA} (h : wR (a F C) (fun x C1 => wO (o x C1) Q) E) : wR (mAp o a F C) Q E :=
  w_bnd (w_mono h (fun _ _ g => w_ofO g) fun _ _ z => z)
theorem w_nil {Q : List D → Store → Prop} (h : Q [] C) : wR (mNil F C) Q E := ⟨h⟩
theorem w_cons {a : ME} {r : MA} {Q : List D → Store → Prop} (h : wR (a F C) (fun x C1 => wR (r F C1) (fun xs C2 => Q (x :: xs) C2) E) E) : wR (mCons a r F C) Q E :=
  w_bnd (w_mono h (fun _ _ g => w_bnd (w_mono g (fun _ _ g => w_ok g) fun _ _ z => z)) fun _ _ z => z)
theorem w_call {m : MF} {dds : List D} {a : MA} (h : wR (a F C) (fun xs C1 => wR (m (xs ++ dds) C1) Q E) E) : wR (mCall m dds a F C) Q E := w_bnd h
theorem w_tst {a : ME} {Q : Bool → Store → Prop} (h : wR (a F C) (fun d C1 => ∃ b, d = .bl b ∧ Q b C1) E) : wR (mTst a F C) Q E :=
  w_bnd (w_mono h (fun d C1 g => by obtain ⟨b, rfl, q⟩ := g; exact w_ok q) fun _ _ z => z)
theorem w_bl {b : Bool} {q : Bool → Prop} (h : q b) : ∃ b', D.bl b = .bl b' ∧ q b' := ⟨b, rfl, h⟩
theorem w_tand {a b : MT} {Q : Bool → Store → Prop} (h : wR (a F C) (fun x C1 => wI x (wR (b F C1) Q E) (Q false C1)) E) : wR (tAndM a b F C) Q E :=
  w_bnd (w_mono h (fun x C1 g => by
    cases x
    · exact w_ok g.h
    · exact g.h) fun _ _ z => z)
theorem w_tor {a b : MT} {Q : Bool → Store → Prop} (h : wR (a F C) (fun x C1 => wI x (Q true C1) (wR (b F C1) Q E)) E) : wR (tOrM a b F C) Q E :=
  w_bnd (w_mono h (fun x C1 g => by
    cases x
    · exact g.h
    · exact w_ok g.h) fun _ _ z => z)
theorem w_tnot {a : MT} {Q : Bool → Store → Prop} (h : wR (a F C) (fun x C1 => Q (!x) C1) E) : wR (tNotM a F C) Q E := w_bnd (w_mono h (fun _ _ g => w_ok g) fun _ _ z => z)
theorem w_yes {Q : Bool → Store → Prop} (h : Q true C) : wR (tYesM F C) Q E := ⟨h⟩
theorem w_and {a b : ME} (h : wR (a F C) (fun d C1 => ∃ x, d = .bl x ∧ wI x (wR (b F C1) Q E) (Q (.bl false) C1)) E) : wR (mAnd a b F C) Q E :=
  w_bnd (w_mono h (fun d C1 g => by
    obtain ⟨x, rfl, q⟩ := g
    cases x
    · exact w_ok q.h
    · exact q.h) fun _ _ z => z)
theorem w_or {a b : ME} (h : wR (a F C) (fun d C1 => ∃ x, d = .bl x ∧ wI x (Q (.bl true) C1) (wR (b F C1) Q E)) E) : wR (mOr a b F C) Q E :=
  w_bnd (w_mono h (fun d C1 g => by
    obtain ⟨x, rfl, q⟩ := g
    cases x
    · exact q.h
    · exact w_ok q.h) fun _ _ z => z)
theorem w_not {a : ME} (h : wR (a F C) (fun d C1 => ∃ x, d = .bl x ∧ Q (.bl (!x)) C1) E) : wR (mNot a F C) Q E :=
  w_bnd (w_mono h (fun d C1 g => by obtain ⟨x, rfl, q⟩ := g; exact w_ok q) fun _ _ z => z)
theorem w_if {t : MT} {a b : ME} (h : wR (t F C) (fun x C1 => wI x (wR (a F C1) Q E) (wR (b F C1) Q E)) E) : wR (mIf t a b F C) Q E :=
  w_bnd (w_mono h (fun x C1 g => by cases x <;> exact g.h) fun _ _ z => z)
theorem w_chain {o o' : O2} {a b c : ME} (h : wR (a F C) (fun x C1 => wR (b F C1) (fun y C2 => wO (o x y C2) fun z C3 => ∃ t, z = .bl t ∧ wI t (wR (c F C3) (fun w C4 => wO (o' y w C4) Q) E) (Q (.bl false) C3)) E) E) : wR (mChain o o' a b c F C) Q E :=
  w_bnd (w_mono h (fun x C1 g => w_bnd (w_mono g (fun y C2 g => w_bnd (w_ofO (by
    obtain ⟨d, C3, e, t, rfl, q⟩ := g.h
    refine wo_of e ?_
    cases t
    · exact w_ok q.h
    · exact w_bnd (w_mono q.h (fun _ _ g => w_ofO g) fun _ _ z => z)))) fun _ _ z => z)) fun _ _ z => z)
theorem w_prop {c : Nat} {m : MF} {mo : ME} (h : wR (mo F C) (fun d C1 => ∃ fs, d = .obj c fs ∧ wR (m [d] C1) Q noX) E) : wR (mProp c m mo F C) Q E :=
  w_bnd (w_mono h (fun d C1 g => by
    obtain ⟨fs, rfl, q⟩ := g
    show wR (if c = c then (match m [.obj c fs] C1 with
      | .ok d C2 => R.ok d C2
      | _ => R.stuck) else R.stuck) Q E
    rw [if_pos rfl]
    obtain ⟨a, C2, e, q⟩ := w_out q
    rw [e]
    exact w_ok q) fun _ _ z => z)
theorem w_meth {c : Nat} {m : MF} {dds : List D} {mo : ME} {a : MA} (h : wR (mo F C) (fun d C1 => ∃ fs, d = .obj c fs ∧ wR (a F C1) (fun xs C2 => wR (m (d :: (xs ++ dds)) C2) Q E) E) E) : wR (mMeth c m dds mo a F C) Q E :=
  w_bnd (w_mono h (fun d C1 g => by
    obtain ⟨fs, rfl, q⟩ := g
    simp only [vO, if_true]
    exact w_bnd q) fun _ _ z => z)
theorem w_obj {c : Nat} {fs : List D} {q : Prop} (h : q) : ∃ gs, D.obj c fs = .obj c gs ∧ q := ⟨fs, rfl, h⟩
theorem w_dget {a b c : ME} (h : wR (a F C) (fun x C1 => (vD x C1).isSome = true ∧ wR (b F C1) (fun y C2 => wR (c F C2) (fun z C3 => wO (oDGet x y z C3) Q) E) E) E) : wR (mDGet a b c F C) Q E :=
  w_bnd (w_mono h (fun x C1 g => by
    rw [if_pos g.1]
    exact w_bnd (w_mono g.2 (fun _ _ g => w_bnd (w_mono g (fun _ _ g => w_ofO g) fun _ _ z => z)) fun _ _ z => z)) fun _ _ z => z)
theorem w_isi {kn : List Nat} {t : Cc} {m : ME} (h : wR (m F C) (fun d C1 => ∃ b, isi kn d C1 t = some b ∧ Q (.bl b) C1) E) : wR (mIsi kn t m F C) Q E :=
  w_bnd (w_mono h (fun d C1 g => by obtain ⟨b, e, q⟩ := g; rw [e]; exact w_ok q) fun _ _ z => z)
theorem w_isi2 {kn : List Nat} {t u : Cc} {m : ME} (h : wR (m F C) (fun d C1 => ∃ b b', isi kn d C1 t = some b ∧ isi kn d C1 u = some b' ∧ Q (.bl (b || b')) C1) E) : wR (mIsi2 kn t u m F C) Q E :=
  w_bnd (w_mono h (fun d C1 g => by obtain ⟨b, b', e, e', q⟩ := g; rw [e, e']; exact w_ok q) fun _ _ z => z)
theorem w_part {m : ME} {Q : Option Int → Store → Prop} (h : wR (m F C) (fun d C1 => ∃ i, d = .int i ∧ Q (some i) C1) E) : wR (mPart m F C) Q E :=
  w_bnd (w_mono h (fun d C1 g => by obtain ⟨b, rfl, q⟩ := g; exact w_ok q) fun _ _ z => z)
theorem w_noPart {Q : Option Int → Store → Prop} (h : Q none C) : wR (mNoPart F C) Q E := ⟨h⟩
theorem w_slL {own : Bool} {a : ME} {l u : Fr → Store → R (Option Int)} (h : wR (a F C) (fun x C1 => wR (l F C1) (fun lo C2 => wR (u F C2) (fun hi C3 => ∃ xs, vLs x C3 = some xs ∧ Q (mkL own (cutD xs lo hi) C3).1 (mkL own (cutD xs lo hi) C3).2) E) E) E) : wR (mSlL own a l u F C) Q E :=
  w_bnd (w_mono h (fun _ _ g => w_bnd (w_mono g (fun _ _ g => w_bnd (w_mono g (fun _ _ g => by obtain ⟨xs, e, q⟩ := g; simp only [e]; exact w_ok q) fun _ _ z => z)) fun _ _ z => z)) fun _ _ z => z)
theorem w_slA {a : ME} {l u : Fr → Store → R (Option Int)} (h : wR (a F C) (fun x C1 => wR (l F C1) (fun lo C2 => wR (u F C2) (fun hi C3 => ∃ xs, x = .tup xs ∧ Q (.tup (cutD xs lo hi)) C3) E) E) E) : wR (mSlA a l u F C) Q E :=
  w_bnd (w_mono h (fun _ _ g => w_bnd (w_mono g (fun lo _ g => w_bnd (w_mono g (fun hi _ g => by
    obtain ⟨xs, rfl, q⟩ := g
    simp only [vT]
    split
    · rename_i hh
      have e : cutD xs lo hi = xs := by
        unfold cutD
        rw [hh.1, hh.2]
        simp
      rw [e] at q
      exact w_ok q
    · exact w_ok q) fun _ _ z => z)) fun _ _ z => z)) fun _ _ z => z)
theorem w_int {i : Int} {q : Int → Prop} (h : q i) : ∃ j, D.int i = .int j ∧ q j := ⟨i, rfl, h⟩
end
/-! ### operators -/
section
variable {Q : D → Store → Prop} {C : Store}
theorem wo_add {a b : Int} (h : Q (.int (a + b)) C) : wO (oAdd (.int a) (.int b) C) Q := wo_of rfl h
theorem wo_sub {a b : Int} (h : Q (.int (a - b)) C) : wO (oSub (.int a) (.int b) C) Q := wo_of rfl h
theorem wo_neg {a : Int} (h : Q (.int (-a)) C) : wO (oNeg (.int a) C) Q := wo_of rfl h
theorem wo_lt {a b : Int} (h : Q (.bl (decide (a < b))) C) : wO (oLt (.int a) (.int b) C) Q := wo_of rfl h
theorem wo_le {a b : Int} (h : Q (.bl (decide (a ≤ b))) C) : wO (oLe (.int a) (.int b) C) Q := wo_of rfl h
theorem wo_gt {a b : Int} (h : Q (.bl (decide (b < a))) C) : wO (oGt (.int a) (.int b) C) Q := wo_of rfl h
theorem wo_ge {a b : Int} (h : Q (.bl (decide (b ≤ a))) C) : wO (oGe (.int a) (.int b) C) Q := wo_of rfl h
theorem wo_eq {a b : Int} (h : Q (.bl (decide (a = b))) C) : wO (oEqA false (.int a) (.int b) C) Q := wo_of rfl h
theorem wo_ne {a b : Int} (h : Q (.bl (!decide (a = b))) C) : wO (oEqA true (.int a) (.int b) C) Q := wo_of rfl h
theorem wo_eqS {a b : Str} (h : Q (.bl (decide (a = b))) C) : wO (oEqA false (.str a) (.str b) C) Q := wo_of rfl h
theorem wo_neS {a b : Str} (h : Q (.bl (!decide (a = b))) C) : wO (oEqA true (.str a) (.str b) C) Q := wo_of rfl h
theorem wo_mul {a b : Int} (e : cMul a b = true) (h : Q (.int (a * b)) C) : wO (oMul (.int a) (.int b) C) Q := wo_of (ev_mul C e) h
theorem wo_mod {a b : Int} (e : 0 < b) (h : Q (.int (a % b)) C) : wO (oMod (.int a) (.int b) C) Q := wo_of (ev_mod C e) h
theorem wo_div {a b : Int} (e : 0 < b) (e2 : b < 4611686018427387904) (h : Q (.int (a / b)) C) : wO (oDiv (.int a) (.int b) C) Q := wo_of (ev_div C e e2) h
theorem wo_min {a b : Int} (h : Q (.int (min a b)) C) : wO (oMin2 [.int a, .int b] C) Q := wo_of (ev_min C a b) h
theorem wo_max {a b : Int} (h : Q (.int (max a b)) C) : wO (oMax2 [.int a, .int b] C) Q := wo_of (ev_max C a b) h
theorem wo_int {a : Int} (h : Q (.int a) C) : wO (oInt [.int a] C) Q := wo_of rfl h
theorem wo_abs {a : Int} (h : Q (.int (a.natAbs : Int)) C) : wO (oAbs [.int a] C) Q := wo_of (ev_abs C a) h
theorem wo_lst {own : Bool} {xs : List D} (e : szN xs.length = true) (h : Q (mkL own xs C).1 (mkL own xs C).2) : wO (oLst own xs C) Q := by
  refine wo_of ?_ h
  unfold oLst
  rw [if_pos e]
theorem wo_lstF {xs : List D} (e : szN xs.length = true) (h : Q (.lst xs) C) : wO (oLst false xs C) Q := wo_lst e h
theorem wo_lstT {xs : List D} (e : szN xs.length = true) (h : Q (.cell C.length) (C ++ [some (.lst xs)])) : wO (oLst true xs C) Q := wo_lst e h
theorem w_dnewF {E : Exc → Store → Prop} {F : Fr} (h : Q (.dT [] []) C) : wR (mDNew false F C) Q E := ⟨h⟩
theorem w_dnewT {E : Exc → Store → Prop} {F : Fr} (h : Q (.cell C.length) (C ++ [some (.dT [] [])])) : wR (mDNew true F C) Q E := ⟨h⟩
theorem w_slLF {E : Exc → Store → Prop} {F : Fr} {a : ME} {l u : Fr → Store → R (Option Int)} (h : wR (a F C) (fun x C1 => wR (l F C1) (fun lo C2 => wR (u F C2) (fun hi C3 => ∃ xs, vLs x C3 = some xs ∧ Q (.lst (cutD xs lo hi)) C3) E) E) E) : wR (mSlL false a l u F C) Q E := w_slL h
theorem wo_tup {xs : List D} (e : szN xs.length = true) (h : Q (.tup xs) C) : wO (oTup xs C) Q := by
  refine wo_of ?_ h
  unfold oTup
  rw [if_pos e]
theorem wo_fld {c n : Nat} {fs : List D} {d : D} (e : fs[n]? = some d) (h : Q d C) : wO (oFld c n (.obj c fs) C) Q := by
  refine wo_of ?_ h
  rw [ev_fld, e]
  rfl
theorem wo_len {x : D} {xs : List D} (e : vS x C = some xs) (h : Q (.int xs.length) C) : wO (oLen [x] C) Q := by
  refine wo_of (d := .int xs.length) (C' := C) ?_ h
  simp only [oLen, e, Option.map_some]
theorem wo_ix {x : D} {xs : List D} {i : Int} {k : Nat} {d : D} (e : vS x C = some xs) (hi : i = k) (hk : xs[k]? = some d) (h : Q d C) : wO (oIx x (.int i) C) Q := by
  subst hi
  have hl : k < xs.length := (List.getElem?_eq_some_iff.mp hk).1
  have e2 : atI xs (k : Int) = some d := by
    unfold atI ixN
    have h0 : (0 : Int) ≤ k := by omega
    simp [hl]
    exact (List.getElem?_eq_some_iff.mp hk).2
  refine wo_of (d := d) (C' := C) ?_ h
  unfold oIx
  rw [e]
  simp only [Option.bind_some, e2, Option.map_some]
end
/-! ### statements -/
def thn (b : MS) (fl : Nat) (P : RS → Prop) : RS → Prop := fun r => match r with
  | .nx sl C => wS (b ⟨fl, sl⟩ C) P
  | r => P r
section
variable {P : RS → Prop} {F : Fr} {C : Store} {E : Exc → Store → Prop}
theorem w_seq {a b : MS} {fl : Nat} {sl : List (Option D)} (h : wS (a ⟨fl, sl⟩ C) (thn b fl P)) : wS (sSeq a b ⟨fl, sl⟩ C) P := by
  have h := h.h
  unfold sSeq
  cases e : a ⟨fl, sl⟩ C with
  | nx sl C1 => rw [e] at h; exact h
  | rt d C1 => rw [e] at h; exact ⟨h⟩
  | bk d C1 => rw [e] at h; exact ⟨h⟩
  | ct d C1 => rw [e] at h; exact ⟨h⟩
  | xc x d C1 => rw [e] at h; exact ⟨h⟩
  | stuck => rw [e] at h; exact ⟨h⟩
theorem thn_nx {b : MS} {fl : Nat} {sl : List (Option D)} (h : wS (b ⟨fl, sl⟩ C) P) : thn b fl P (.nx sl C) := h
theorem thn_rt {b : MS} {fl : Nat} {d : D} (h : P (.rt d C)) : thn b fl P (.rt d C) := h
theorem thn_bk {b : MS} {fl : Nat} {sl : List (Option D)} (h : P (.bk sl C)) : thn b fl P (.bk sl C) := h
theorem thn_ct {b : MS} {fl : Nat} {sl : List (Option D)} (h : P (.ct sl C)) : thn b fl P (.ct sl C) := h
theorem thn_xc {b : MS} {fl : Nat} {e : Exc} {sl : List (Option D)} (h : P (.xc e sl C)) : thn b fl P (.xc e sl C) := h
theorem w_next {fl : Nat} {sl : List (Option D)} (h : P (.nx sl C)) : wS (sNext ⟨fl, sl⟩ C) P := ⟨h⟩
theorem w_brk {fl : Nat} {sl : List (Option D)} (h : P (.bk sl C)) : wS (sBrk ⟨fl, sl⟩ C) P := ⟨h⟩
theorem w_cnt {fl : Nat} {sl : List (Option D)} (h : P (.ct sl C)) : wS (sCnt ⟨fl, sl⟩ C) P := ⟨h⟩
theorem w_drop {m : ME} {fl : Nat} {sl : List (Option D)} (h : wR (m ⟨fl, sl⟩ C) (fun _ C1 => P (.nx sl C1)) (fun e C1 => P (.xc e sl C1))) : wS (sDrop m ⟨fl, sl⟩ C) P := w_bndS (w_mono h (fun _ _ g => ⟨g⟩) fun _ _ z => z)
theorem w_ret {m : ME} {fl : Nat} {sl : List (Option D)} (h : wR (m ⟨fl, sl⟩ C) (fun d C1 => P (.rt d C1)) (fun e C1 => P (.xc e sl C1))) : wS (sRet m ⟨fl, sl⟩ C) P := w_bndS (w_mono h (fun _ _ g => ⟨g⟩) fun _ _ z => z)
theorem w_retN (h : P (.rt .non C)) : wS (sRetN F C) P := ⟨h⟩
theorem w_sif {t : MT} {a b : MS} {fl : Nat} {sl : List (Option D)} (h : wR (t ⟨fl, sl⟩ C) (fun x C1 => wI x (wS (a ⟨fl, sl⟩ C1) P) (wS (b ⟨fl, sl⟩ C1) P)) (fun e C1 => P (.xc e sl C1))) : wS (sIf t a b ⟨fl, sl⟩ C) P :=
  w_bndS (w_mono h (fun x C1 g => by cases x <;> exact g.h) fun _ _ z => z)
theorem w_asg {m : ME} {i fl : Nat} {sl : List (Option D)} (h : wR (m ⟨fl, sl⟩ C) (fun d C1 => P (.nx (sl.set i (some d)) C1)) (fun e C1 => P (.xc e sl C1))) : wS (sAsg m (gN i) ⟨fl, sl⟩ C) P := w_bndS (w_mono h (fun _ _ g => ⟨g⟩) fun _ _ z => z)
theorem w_asgT {m : ME} {is : List Nat} {fl : Nat} {sl : List (Option D)} (h : wR (m ⟨fl, sl⟩ C) (fun d C1 => ∃ ds sl', d = .tup ds ∧ setAll is ds sl = some sl' ∧ P (.nx sl' C1)) (fun e C1 => P (.xc e sl C1))) : wS (sAsg m (gT is) ⟨fl, sl⟩ C) P :=
  w_bndS (w_mono h (fun x C1 g => by obtain ⟨ds, sl', rfl, e, q⟩ := g; show wS (asgS (setAll is ds sl) C1) P; rw [e]; exact ⟨q⟩) fun _ _ z => z)
theorem w_par {m : MA} {is : List Nat} {fl : Nat} {sl : List (Option D)} (h : wR (m ⟨fl, sl⟩ C) (fun ds C1 => ∃ sl', setAll is ds sl = some sl' ∧ P (.nx sl' C1)) (fun e C1 => P (.xc e sl C1))) : wS (sPar is m ⟨fl, sl⟩ C) P :=
  w_bndS (w_mono h (fun x C1 g => by obtain ⟨sl', e, q⟩ := g; show wS (asgS (setAll is x sl) C1) P; rw [e]; exact ⟨q⟩) fun _ _ z => z)
theorem w_aug {i : Nat} {o : Int → Int → Int} {m : ME} {fl : Nat} {sl : List (Option D)} {a : Int} (e : sl[i]? = some (some (.int a))) (h : wR (m ⟨fl, sl⟩ C) (fun d C1 => ∃ b, d = .int b ∧ P (.nx (sl.set i (some (.int (o a b)))) C1)) (fun e C1 => P (.xc e sl C1))) : wS (sAug i o m ⟨fl, sl⟩ C) P := by
  unfold sAug
  simp only [e]
  refine w_bndS (w_mono h (fun x C1 g => ?_) fun _ _ z => z)
  obtain ⟨b, rfl, q⟩ := g
  exact ⟨q⟩
theorem w_raise {c n : Nat} {ma : MA} {fl : Nat} {sl : List (Option D)} (h : wR (ma ⟨fl, sl⟩ C) (fun ds C1 => ds.length = n ∧ P (.xc ⟨c, ds.reverse⟩ sl C1)) (fun e C1 => P (.xc e sl C1))) : wS (sRaise c n ma ⟨fl, sl⟩ C) P :=
  w_bndS (w_mono h (fun x C1 g => by rw [if_pos g.1]; exact ⟨g.2⟩) fun _ _ z => z)
/-- what stands behind a def's body -/
def fnl (n : Nat) (Q : D → Store → Prop) (E : Exc → Store → Prop) : RS → Prop := fun r => wR (finS n r) Q E
theorem w_fin {n : Nat} {r : RS} {Q : D → Store → Prop} (h : wS r (fnl n Q E)) : wR (finS n r) Q E := h.h
theorem fnl_int {n : Nat} {Q : D → Store → Prop} {i : Int} (h : Q (.int i) (C.take n)) : fnl n Q E (.rt (.int i) C) := w_ok h
theorem fnl_bl {n : Nat} {Q : D → Store → Prop} {i : Bool} (h : Q (.bl i) (C.take n)) : fnl n Q E (.rt (.bl i) C) := w_ok h
theorem fnl_non {n : Nat} {Q : D → Store → Prop} (h : Q .non (C.take n)) : fnl n Q E (.rt .non C) := w_ok h
theorem fnl_str {n : Nat} {Q : D → Store → Prop} {i : Str} (h : Q (.str i) (C.take n)) : fnl n Q E (.rt (.str i) C) := w_ok h
theorem fnl_nx {n : Nat} {Q : D → Store → Prop} {sl : List (Option D)} (h : Q .non (C.take n)) : fnl n Q E (.nx sl C) := w_ok h
theorem fnl_d {n : Nat} {Q : D → Store → Prop} {d : D} (e : ∀ i, d ≠ .cell i) (hc : cb n d = true) (h : Q d (C.take n)) : fnl n Q E (.rt d C) := by
  have z : fz n d C = d := by
    unfold fz
    split
    · exact absurd rfl (e _)
    · rfl
  show wR (fin n d C) Q E
  unfold fin
  rw [z, if_pos hc]
  exact w_ok h
end
/-! ### loops -/
def lpP (I : Nat → List (Option D) → Store → Prop) (j : Nat) (P : RS → Prop) : RS → Prop := fun r => match r with
  | .nx sl C => I j sl C
  | .ct sl C => I j sl C
  | .bk sl C => P (.nx sl C)
  | .rt d C => P (.rt d C)
  | .xc e sl C => P (.xc e sl C)
  | .stuck => False
theorem lp_nx {I : Nat → List (Option D) → Store → Prop} {j : Nat} {P : RS → Prop} {sl : List (Option D)} {C : Store} (h : I j sl C) : lpP I j P (.nx sl C) := h
theorem lp_rt {I : Nat → List (Option D) → Store → Prop} {j : Nat} {P : RS → Prop} {d : D} {C : Store} (h : P (.rt d C)) : lpP I j P (.rt d C) := h
theorem lp_bk {I : Nat → List (Option D) → Store → Prop} {j : Nat} {P : RS → Prop} {sl : List (Option D)} {C : Store} (h : P (.nx sl C)) : lpP I j P (.bk sl C) := h
theorem lp_xc {I : Nat → List (Option D) → Store → Prop} {j : Nat} {P : RS → Prop} {e : Exc} {sl : List (Option D)} {C : Store} (h : P (.xc e sl C)) : lpP I j P (.xc e sl C) := h
theorem loop_w {S : Store → Prop} {it : ItD} {xs : List D} (p : ItOn S it xs) {g : MG} {body : MS} {fl : Nat} {P : RS → Prop} (I : Nat → List (Option D) → Store → Prop) (hS : ∀ j sl C, I j sl C → S C)
    (step : ∀ j x sl C, xs[j]? = some x → I j sl C → ∃ sl1, g x sl = some sl1 ∧ wS (body ⟨fl, sl1⟩ C) (lpP I (j + 1) P)) (fin : ∀ sl C, I xs.length sl C → P (.nx sl C)) :
    ∀ r j sl C, r + j = xs.length → I j sl C → wS (loopN it g body fl r j sl C) P
  | 0, j, sl, C, h, i => by
    have e : j = xs.length := by omega
    subst e
    unfold loopN
    rw [if_pos (p.fin C (hS _ _ _ i))]
    exact ⟨fin sl C i⟩
  | r + 1, j, sl, C, h, i => by
    have hj : j < xs.length := by omega
    obtain ⟨sl1, h1, h2⟩ := step j xs[j] sl C (List.getElem?_eq_getElem hj) i
    unfold loopN
    rw [p.item j C (hS _ _ _ i) hj, List.getElem?_eq_getElem hj]
    simp only [h1]
    have h2 := h2.h
    unfold lpP at h2
    cases e : body ⟨fl, sl1⟩ C with
    | nx sl2 C2 => rw [e] at h2; exact loop_w p I hS step fin r (j + 1) sl2 C2 (by omega) h2
    | ct sl2 C2 => rw [e] at h2; exact loop_w p I hS step fin r (j + 1) sl2 C2 (by omega) h2
    | bk sl2 C2 => rw [e] at h2; exact ⟨h2⟩
    | rt d C2 => rw [e] at h2; exact ⟨h2⟩
    | xc x sl2 C2 => rw [e] at h2; exact ⟨h2⟩
    | stuck => rw [e] at h2; exact h2.elim
/-! ### comprehensions -/
end CT
set_option maxHeartbeats 4000000
/-! E5: more steps told backwards. -/
namespace CT
open PySem L2
abbrev accS (C : Store) (acc : List D) : Store := C ++ [some (.lst acc)]
/-- [e for t in it if c], nothing changed -/
theorem w_lcP {mi : MI} {it : ItD} {xs : List D} {g : MG} {tt : MT} {te : ME} {vs : List Nat} {F : Fr} {C : Store} {Q : D → Store → Prop} {E : Exc → Store → Prop} (hi : mi F C = .ok it C) (p : PureIt it xs) (f : D → Bool) (h : D → D) (sz : xs.length ≤ 16777215)
    (st : ∀ x ∈ xs, ∃ sl1, g x (wipeD F.sl vs) = some sl1 ∧ ∀ acc, wR (tt ⟨C.length, sl1⟩ (accS C acc)) (fun b C' => b = f x ∧ C' = accS C acc) noX ∧ (f x = true → wR (te ⟨C.length, sl1⟩ (accS C acc)) (fun d C' => d = h x ∧ C' = accS C acc) noX))
    (hc : ∀ x ∈ xs, f x = true → cb C.length (h x) = true) (q : Q (.lst ((xs.filter f).map h)) C) : wR (mLc false mi g tt te vs F C) Q E := by
  refine w_of (ev_lc p f h hi sz (fun x hx => ?_) hc) q
  obtain ⟨sl1, h1, h2⟩ := st x hx
  refine ⟨sl1, h1, fun acc => ⟨?_, fun hf => ?_⟩⟩
  · obtain ⟨b, C', e, rfl, rfl⟩ := w_out (h2 acc).1
    exact e
  · obtain ⟨b, C', e, rfl, rfl⟩ := w_out ((h2 acc).2 hf)
    exact e
theorem fnl_p {n : Nat} {Q : D → Store → Prop} {E : Exc → Store → Prop} {d : D} {C : Store} (hc : cb 0 d = true) (h : Q d (C.take n)) : fnl n Q E (.rt d C) :=
  fnl_d (fun i e => by subst e; simp [cb] at hc) (cb_mono (Nat.zero_le _) hc) h
/-- an own list becomes plain data -/
theorem fnl_own {n : Nat} {Q : D → Store → Prop} {E : Exc → Store → Prop} {i : Nat} {xs : List D} {C : Store} (hi : n ≤ i) (hC : C[i]? = some (some (.lst xs))) (hc : cbL n xs = true) (h : Q (.lst xs) (C.take n)) : fnl n Q E (.rt (.cell i) C) := by
  show wR (fin n (.cell i) C) Q E
  have z : fz n (.cell i) C = .lst xs := by
    unfold fz
    simp [hC, hi]
  unfold fin
  rw [z, if_pos (by simpa [cb] using hc)]
  exact w_ok h
/-- a list of cells' store that has one cell more -/
theorem take_app {C Y : Store} {n : Nat} (h : C.length = n) : (C ++ Y).take n = C := by subst h; simp
theorem wo_tupL {xs : List D} {C : Store} {Q : D → Store → Prop} (h : Q (.tup xs) C) : wO (oTupOf [.lst xs] C) Q := wo_of rfl h
theorem wo_tupT {xs : List D} {C : Store} {Q : D → Store → Prop} (h : Q (.tup xs) C) : wO (oTupOf [.tup xs] C) Q := wo_of rfl h
theorem wo_tupC {xs : List D} {C : Store} {Q : D → Store → Prop} {i : Nat} (e : C[i]? = some (some (.lst xs))) (h : Q (.tup xs) C) : wO (oTupOf [.cell i] C) Q := wo_of (by simp [oTupOf, vL, e]) h
/-! ### writing -/
theorem w_setL {me mo mi : ME} {fl : Nat} {sl : List (Option D)} {C : Store} {P : RS → Prop} (h : wR (me ⟨fl, sl⟩ C) (fun v C1 => wR (mo ⟨fl, sl⟩ C1) (fun o C2 => wR (mi ⟨fl, sl⟩ C2) (fun x C3 => ∃ n i ds j C4, x = .int n ∧ cL o C3 = some (i, ds) ∧ ixN ds.length n = some j ∧ wr fl i (.lst (ds.set j v)) C3 = some C4 ∧ P (.nx sl C4)) (fun e C => P (.xc e sl C))) (fun e C => P (.xc e sl C))) (fun e C => P (.xc e sl C))) : wS (sSetL me mo mi ⟨fl, sl⟩ C) P :=
  w_bndS (w_mono h (fun v C1 g => w_bndS (w_mono g (fun o C2 g => w_bndS (w_mono g (fun x C3 g => by
    obtain ⟨n, i, ds, j, C4, rfl, e1, e2, e3, q⟩ := g
    simp only [e1, e2, e3]
    exact ⟨q⟩) fun _ _ z => z)) fun _ _ z => z)) fun _ _ z => z)
theorem w_augL {o : Int → Int → Int} {mo mi me : ME} {fl : Nat} {sl : List (Option D)} {C : Store} {P : RS → Prop} (h : wR (mo ⟨fl, sl⟩ C) (fun l C1 => wR (mi ⟨fl, sl⟩ C1) (fun x C2 => ∃ (n : Nat) (i : Nat) (ds : List D) (a : Int), x = .int n ∧ cL l C2 = some (i, ds) ∧ ds[n]? = some (.int a) ∧ wR (me ⟨fl, sl⟩ C2) (fun v C3 => ∃ b es C4, v = .int b ∧ cL l C3 = some (i, es) ∧ n < es.length ∧ wr fl i (.lst (es.set n (.int (o a b)))) C3 = some C4 ∧ P (.nx sl C4)) (fun e C => P (.xc e sl C))) (fun e C => P (.xc e sl C))) (fun e C => P (.xc e sl C))) : wS (sAugL o mo mi me ⟨fl, sl⟩ C) P :=
  w_bndS (w_mono h (fun l C1 g => w_bndS (w_mono g (fun x C2 g => by
    obtain ⟨n, i, ds, a, rfl, e1, e2, g⟩ := g
    have h0 : (0 : Int) ≤ (n : Int) := by omega
    have h1 : ((n : Nat) : Int).toNat = n := by omega
    simp only [e1, h0, if_true, h1, e2]
    refine w_bndS (w_mono g (fun v C3 g => ?_) fun _ _ z => z)
    obtain ⟨b, es, C4, rfl, e3, e4, e5, q⟩ := g
    have e6 : ixN es.length (n : Int) = some n := by
      unfold ixN
      simp [e4]
    simp only [e3, e6, e5]
    exact ⟨q⟩) fun _ _ z => z)) fun _ _ z => z)
theorem wr_hi {fl i : Nat} {c : Cell} {C : Store} (h : fl ≤ i) : wr fl i c C = some (C.set i (some c)) := by
  unfold wr
  rw [if_neg (fun z => by omega)]
theorem ixN_at {n : Nat} {i : Int} (h0 : 0 ≤ i) (h1 : i < n) : ixN n i = some i.toNat := by
  unfold ixN
  rw [if_pos h0, if_pos h1]
theorem w_append {mo me : ME} {F : Fr} {C : Store} {Q : D → Store → Prop} {E : Exc → Store → Prop} (h : wR (mo F C) (fun o C1 => (vL o C1).isSome = true ∧ wR (me F C1) (fun v C2 => ∃ i ds, cL o C2 = some (i, ds) ∧ F.fl ≤ i ∧ ds.length < 16777216 ∧ Q .non (C2.set i (some (.lst (ds ++ [v]))))) E) E) : wR (mAppend mo me F C) Q E := by
  unfold mAppend
  refine w_bnd (w_mono h (fun o C1 g => ?_) fun _ _ z => z)
  rw [if_pos g.1]
  refine w_bnd (w_mono g.2 (fun v C2 g => ?_) fun _ _ z => z)
  obtain ⟨i, ds, e, hi, hz, q⟩ := g
  have hs : szN (ds.length + 1) = true := by simp only [szN, decide_eq_true_eq]; omega
  simp only [e, hs, if_true, wr_hi hi]
  exact w_ok q
end CT
set_option maxHeartbeats 4000000
/-! E6: walks and comprehensions, step by step. -/
namespace CT
open PySem L2
section
variable {E : Exc → Store → Prop} {F : Fr} {C : Store} {P : RS → Prop}
theorem w_forI {mi : MI} {g : MG} {body : MS} {fl : Nat} {sl : List (Option D)} (h : wR (mi ⟨fl, sl⟩ C) (fun it C1 => wS (loopN it g body fl it.n 0 sl C1) P) (fun e C1 => P (.xc e sl C1))) : wS (sFor mi g body ⟨fl, sl⟩ C) P := w_bndS h
theorem w_seqI {m : ME} {Q : ItD → Store → Prop} (h : wR (m F C) (fun d C1 => ∃ it, itS d C1 = some it ∧ Q it C1) E) : wR (mSeq m F C) Q E :=
  w_bnd (w_mono h (fun d C1 g => by obtain ⟨it, e, q⟩ := g; simp only [e]; exact w_ok q) fun _ _ z => z)
theorem w_enum {m : ME} {Q : ItD → Store → Prop} (h : wR (m F C) (fun d C1 => ∃ it, itS d C1 = some it ∧ Q (prI it) C1) E) : wR (mEnum m F C) Q E :=
  w_bnd (w_mono h (fun d C1 g => by obtain ⟨it, e, q⟩ := g; simp only [e]; exact w_ok q) fun _ _ z => z)
theorem w_itL {xs : List D} {q : ItD → Prop} (h : q (itC xs)) : ∃ it, itS (.lst xs) C = some it ∧ q it := ⟨_, rfl, h⟩
theorem w_itT {xs : List D} {q : ItD → Prop} (h : q (itC xs)) : ∃ it, itS (.tup xs) C = some it ∧ q it := ⟨_, rfl, h⟩
theorem w_itK {xs : List D} {q : ItD → Prop} (h : q (itC xs)) : ∃ it, itS (.kt xs) C = some it ∧ q it := ⟨_, rfl, h⟩
theorem w_itC {i : Nat} {xs : List D} {q : ItD → Prop} (e : C[i]? = some (some (.lst xs))) (h : q (itV i xs.length)) : ∃ it, itS (.cell i) C = some it ∧ q it := ⟨_, by simp [itS, e], h⟩
theorem w_rng1 {m : ME} {Q : ItD → Store → Prop} (h : wR (m F C) (fun d C1 => ∃ j, d = .int j ∧ inR j = true ∧ Q (itR 0 j.toNat) C1) E) : wR (mRng1 m F C) Q E :=
  w_bnd (w_mono h (fun d C1 g => by obtain ⟨j, rfl, e, q⟩ := g; simp only [e, if_true]; exact w_ok q) fun _ _ z => z)
theorem w_rng2 {m m2 : ME} {Q : ItD → Store → Prop} (h : wR (m F C) (fun d C1 => wR (m2 F C1) (fun e C2 => ∃ i j, d = .int i ∧ e = .int j ∧ inR i = true ∧ inR j = true ∧ Q (itR i (j - i).toNat) C2) E) E) : wR (mRng2 m m2 F C) Q E :=
  w_bnd (w_mono h (fun d C1 g => w_bnd (w_mono g (fun e C2 g => by obtain ⟨i, j, rfl, rfl, e1, e2, q⟩ := g; simp only [e1, e2, Bool.and_self, if_true]; exact w_ok q) fun _ _ z => z)) fun _ _ z => z)
theorem inR_of {j : Int} (h : -1000000000000 ≤ j) (h2 : j ≤ 1000000000000) : inR j = true := by
  have e1 : decide (-(2 ^ 62) ≤ j) = true := decide_eq_true (by omega)
  have e2 : decide (j < 2 ^ 62) = true := decide_eq_true (by omega)
  simp only [inR, e1, e2, Bool.and_self]
theorem loop_p {it : ItD} {xs : List D} (p : PureIt it xs) {g : MG} {body : MS} {fl : Nat} {sl : List (Option D)} (I : Nat → List (Option D) → Store → Prop) (i0 : I 0 sl C)
    (step : ∀ j x sl C, xs[j]? = some x → I j sl C → ∃ sl1, g x sl = some sl1 ∧ wS (body ⟨fl, sl1⟩ C) (lpP I (j + 1) P)) (fin : ∀ sl C, I xs.length sl C → P (.nx sl C)) : wS (loopN it g body fl it.n 0 sl C) P :=
  loop_w (p.on fun _ => True) I (fun _ _ _ _ => trivial) step fin it.n 0 sl C (by rw [p.n]; omega) i0
theorem loop_o {S : Store → Prop} {it : ItD} {xs : List D} (p : ItOn S it xs) {g : MG} {body : MS} {fl : Nat} {sl : List (Option D)} (I : Nat → List (Option D) → Store → Prop) (hS : ∀ j sl C, I j sl C → S C) (i0 : I 0 sl C)
    (step : ∀ j x sl C, xs[j]? = some x → I j sl C → ∃ sl1, g x sl = some sl1 ∧ wS (body ⟨fl, sl1⟩ C) (lpP I (j + 1) P)) (fin : ∀ sl C, I xs.length sl C → P (.nx sl C)) : wS (loopN it g body fl it.n 0 sl C) P :=
  loop_w p I hS step fin it.n 0 sl C (by rw [p.n]; omega) i0
theorem on_cell {i : Nat} {xs : List D} : ItOn (fun C => C[i]? = some (some (.lst xs))) (itV i xs.length) xs := ⟨rfl, fun j C h hj => by simp [itV, h], fun C h => by simp [itV, h]⟩
def lcR (it : ItD) (g : MG) (tt : MT) (te : ME) (vs : List Nat) (F : Fr) (C1 : Store) : R D := mLc false (fun _ C => .ok it C) g tt te vs F C1
theorem w_lcI {mi : MI} {g : MG} {tt : MT} {te : ME} {vs : List Nat} {Q : D → Store → Prop} (h : wR (mi F C) (fun it C1 => wR (lcR it g tt te vs F C1) Q E) E) : wR (mLc false mi g tt te vs F C) Q E := by
  unfold lcR mLc at h
  unfold mLc
  exact w_bnd h
theorem lc_p {it : ItD} {xs : List D} {g : MG} {tt : MT} {te : ME} {vs : List Nat} {Q : D → Store → Prop} (p : PureIt it xs) (f : D → Bool) (h : D → D) (sz : xs.length ≤ 16777215)
    (st : ∀ x ∈ xs, ∃ sl1, g x (wipeD F.sl vs) = some sl1 ∧ ∀ acc, wR (tt ⟨C.length, sl1⟩ (accS C acc)) (fun b C' => b = f x ∧ C' = accS C acc) noX ∧ (f x = true → wR (te ⟨C.length, sl1⟩ (accS C acc)) (fun d C' => d = h x ∧ C' = accS C acc) noX))
    (hc : ∀ x ∈ xs, f x = true → cb C.length (h x) = true) (q : Q (.lst ((xs.filter f).map h)) C) : wR (lcR it g tt te vs F C) Q E := w_lcP rfl p f h sz st hc q
end
end CT
set_option maxHeartbeats 4000000
/-! M22: the bag. -/
namespace CL
open PySem L2 CT
theorem filter_yes {α : Type} (l : List α) : l.filter (fun _ => true) = l := List.filter_eq_self.mpr fun _ _ => rfl
def absD : D → D
  | .int i => .int (i.natAbs : Int)
  | _ => .non
theorem bag_ok (ns : List Int) (hl : ns.length ≤ 63) : ∃ cs : List Int, (∀ c ∈ cs, 0 ≤ c) ∧ m_law_bag [scrD ns] [] = .ok (.cell 0) [some (bagC 0 1234567891 0 cs)] := by
  obtain ⟨ms, e, hm⟩ : ∃ ms : List Int, cutD (ns.map D.int) none (some 63) = ms.map D.int ∧ ms.length ≤ 63 := by
    refine ⟨(ns.drop (HT.sIx (ns.map D.int).length 0 none)).take (HT.sIx (ns.map D.int).length (ns.map D.int).length (some 63) - HT.sIx (ns.map D.int).length 0 none), ?_, ?_⟩
    · unfold cutD
      rw [List.map_take, List.map_drop]
    · rw [List.length_take, List.length_drop]
      omega
  refine ⟨ms.map fun i => (i.natAbs : Int), fun c hc => ?_, ?_⟩
  · obtain ⟨i, _, rfl⟩ := List.mem_map.mp hc
    omega
  have es : mSlL false (mVar 0) mNoPart (mPart (mC (.int 63))) ⟨0, [some (scrD ns), none]⟩ [] = .ok (.lst (ms.map D.int)) [] := by
    show ofO (some (mkL false (cutD (ns.map D.int) none (some 63)) [])) = _
    rw [e]
    rfl
  have el := ev_lc (pure_C (ms.map D.int)) (mi := mSeq (mSlL false (mVar 0) mNoPart (mPart (mC (.int 63))))) (g := (Tgt.nm 1).M) (tt := tYesM) (te := mAp oAbs (mCons (mVar 1) mNil)) (vs := [1]) (F := ⟨0, [some (scrD ns), none]⟩) (C := []) (fun _ => true) absD
    (ev_seqI (d := .lst (ms.map D.int)) es rfl) (by rw [List.length_map]; omega)
    (fun y hy => by
      obtain ⟨i, _, rfl⟩ := List.mem_map.mp hy
      exact ⟨[some (scrD ns), some (.int i)], by simp, fun acc => ⟨rfl, fun _ => by simp [absD]⟩⟩)
    (fun y hy _ => by
      obtain ⟨i, _, rfl⟩ := List.mem_map.mp hy
      rfl)
  rw [filter_yes, List.map_map] at el
  have eb : b_law_bag ⟨0, [some (scrD ns), none]⟩ [] = .rt (.cell 0) [some (bagC 0 1234567891 0 (ms.map fun i => (i.natAbs : Int)))] := by
    rw [b_law_bag, ev_sret, ev_ap, ev_cons, ev_c, consK_ok, ev_cons, ev_c, consK_ok, ev_cons, ev_c, consK_ok, ev_cons, el, consK_ok, ev_nil, consK2_ok, consK2_ok, consK2_ok, consK2_ok, apK_ok]
    have eo : ∀ x : D, oLst true [.int 0, .int 1234567891, .int 0, x] [] = some (.cell 0, [some (.lst [.int 0, .int 1234567891, .int 0, x])]) := fun x => by simp [oLst, szN, mkL]
    rw [eo, ev_ofO_some, retK_ok, bagC, List.map_map]
    rfl
  have ed : m_law_bag [scrD ns] [] = (match b_law_bag ⟨0, [some (scrD ns), none]⟩ [] with
    | .rt d C' => finO 0 d C'
    | .xc e _ C' => if cbL 0 e.fs = true then .exc e (C'.take 0) else .stuck
    | _ => .stuck) := rfl
  have cI := cbL_ints 0 (ms.map fun i => (i.natAbs : Int))
  rw [List.map_map] at cI
  rw [ed, eb]
  simp [finO, bagC, cbL, cb, cI]
theorem cbL_all {n : Nat} : ∀ {l : List D}, (∀ d ∈ l, cb n d = true) → cbL n l = true
  | [], _ => rfl
  | d :: l, h => by
    show (cb n d && cbL n l) = true
    rw [h d (List.mem_cons_self ..), cbL_all fun x hx => h x (List.mem_cons_of_mem _ hx)]
    rfl
theorem mem_rng {lo : Int} {N : Nat} {x : D} (h : x ∈ rngI lo N) : ∃ u : Nat, u < N ∧ x = .int (lo + u) := by
  unfold rngI at h
  obtain ⟨u, hu, rfl⟩ := List.mem_map.mp h
  exact ⟨u, List.mem_range.mp hu, rfl⟩
@[simp] theorem dBools_map : ∀ l : List Bool, dBools (l.map D.bl) = some l
  | [] => rfl
  | x :: l => by
    show (dBools (l.map D.bl)).map _ = _
    rw [dBools_map l]
    rfl
@[simp] theorem dInts_map : ∀ l : List Int, dInts (l.map D.int) = some l
  | [] => rfl
  | x :: l => by
    show (dInts (l.map D.int)).map _ = _
    rw [dInts_map l]
    rfl
theorem all_bls (l : List Bool) (C : Store) : oAll [.lst (l.map .bl)] C = some (.bl (l.all id), C) := by
  simp [oAll, vL]
/-- a bag at i -/
def Bg (i : Nat) (C : Store) : Prop := ∃ cs, (∀ x ∈ cs, 0 ≤ x) ∧ Bag i cs C
/-- the bag alone has changed -/
def To (i : Nat) (C C' : Store) : Prop := ∃ x, C' = C.set i (some x) ∧ Bg i C'
section
variable {i : Nat} {C C' C'' Y Z : Store} {n : Int}
theorem Bg.lt (h : Bg i C) : i < C.length := by
  obtain ⟨cs, _, a, b, c, e, _⟩ := h
  exact (List.getElem?_eq_some_iff.mp e).1
theorem Bg.app (h : Bg i C) (Y : Store) : Bg i (C ++ Y) := by
  have hi := h.lt
  obtain ⟨cs, hcs, a, b, c, e, q⟩ := h
  exact ⟨cs, hcs, a, b, c, by rw [List.getElem?_append_left hi]; exact e, q⟩
theorem Bg.cut (hi : i < C.length) (h : Bg i (C ++ Y)) : Bg i C := by
  obtain ⟨cs, hcs, a, b, c, e, q⟩ := h
  exact ⟨cs, hcs, a, b, c, by rw [List.getElem?_append_left hi] at e; exact e, q⟩
theorem To.bg (h : To i C C') : Bg i C' := by
  obtain ⟨x, _, b⟩ := h
  exact b
theorem To.len (h : To i C C') : C'.length = C.length := by
  obtain ⟨x, rfl, _⟩ := h
  simp
theorem To.trans (h : To i C C') (g : To i C' C'') : To i C C'' := by
  obtain ⟨x, rfl, _⟩ := h
  obtain ⟨y, rfl, b⟩ := g
  exact ⟨y, by simp, b⟩
theorem To.refl (h : Bg i C) : To i C C := by
  obtain ⟨cs, hcs, a, b, c, e, q⟩ := h
  refine ⟨bagC a b c cs, ?_, cs, hcs, a, b, c, e, q⟩
  obtain ⟨h1, h2⟩ := List.getElem?_eq_some_iff.mp e
  have z := List.set_getElem_self (as := C) (i := i) h1
  rw [h2] at z
  exact z.symm
theorem To.cut (hi : i < C.length) (h : To i (C ++ Y) Z) : ∃ C', Z = C' ++ Y ∧ To i C C' := by
  obtain ⟨x, rfl, b⟩ := h
  rw [List.set_append_left _ _ hi] at b ⊢
  exact ⟨_, rfl, x, rfl, b.cut (by simpa using hi)⟩
theorem take_to (hB : Bg i C) (hn : 0 < n) (hn2 : n < 4611686018427387904) (Y : Store) : ∃ r C', m_law_take [.cell i, .int n] (C ++ Y) = .ok (.int r) (C' ++ Y) ∧ 0 ≤ r ∧ r < n ∧ To i C C' := by
  have hi := hB.lt
  obtain ⟨cs, hcs, hB'⟩ := hB.app Y
  obtain ⟨r, x, e, h1, h2, h3⟩ := take_ok hB' hcs hn hn2
  obtain ⟨C', e2, t⟩ := To.cut hi (⟨x, rfl, cs, hcs, h3⟩ : To i (C ++ Y) ((C ++ Y).set i (some x)))
  exact ⟨r, C', by rw [e, e2], h1, h2, t⟩
end
theorem To.get {i j : Nat} {C C' : Store} (h : To i C C') (hj : j ≠ i) : C'[j]? = C[j]? := by
  obtain ⟨x, rfl, _⟩ := h
  rw [List.getElem?_set_ne (Ne.symm hj)]
theorem To.tk {i : Nat} {C C' : Store} (h : To i C C') : C'.take C.length = C' := by
  rw [← h.len, List.take_length]
theorem take_w {i : Nat} {C : Store} {n : Int} {Q : D → Store → Prop} {E : Exc → Store → Prop} (hB : Bg i C) (hn : 0 < n) (hn2 : n < 4611686018427387904) (h : ∀ r C', 0 ≤ r → r < n → To i C C' → Q (.int r) C') : wR (m_law_take [.cell i, .int n] C) Q E := by
  obtain ⟨r, C', e, r0, r1, t⟩ := take_to hB hn hn2 []
  rw [List.append_nil, List.append_nil] at e
  exact w_of e (h r C' r0 r1 t)
theorem cb_of {n : Nat} : ∀ {l : List D} {d : D}, cbL n l = true → d ∈ l → cb n d = true
  | x :: l, d, h, hm => by
    simp only [cbL, Bool.and_eq_true] at h
    rcases List.mem_cons.mp hm with rfl | hm
    · exact h.1
    · exact cb_of h.2 hm
end CL
set_option maxHeartbeats 4000000
namespace CL
open PySem L2 CT
/-! TK3: data that can be shown and compared. -/
mutual
def sm : PyData → Bool
  | .none => true
  | .bool _ => true
  | .int i => decide (i.natAbs < 1000000000000)
  | .list xs => smA xs
  | .tuple xs => smA xs
  | .str _ => false
  | .dict _ => false
def smA : List PyData → Bool
  | [] => true
  | x :: xs => sm x && smA xs
end
theorem repr_of {x : D} {C : Store} {p : PyData} (e : toP C x = some p) (h : repOk p = true) : oRepr [x] C = some (.str p.shown, C) := by
  simp [oRepr, e, h]
structure Gd (w dp : Nat) (x : D) (p : PyData) : Prop where
  tp : ∀ C, toP C x = some p
  cl : p.canLay0 = true
  sh : p.showable = true
  nd : p.hasDict = false
  ls : p.leavesShort 40 = true
  dp : p.depth ≤ dp
  wt : p.weight ≤ w
theorem Gd.mono {w w' dp dp' : Nat} {x : D} {p : PyData} (h : Gd w dp x p) (hw : w ≤ w') (hd : dp ≤ dp') : Gd w' dp' x p := ⟨h.tp, h.cl, h.sh, h.nd, h.ls, Nat.le_trans h.dp hd, Nat.le_trans h.wt hw⟩
theorem Gd.ok {w dp : Nat} {x : D} {p : PyData} (h : Gd w dp x p) (hw : w ≤ 300000) (hd : dp ≤ 60) : repOk p = true := by
  have h4 := PyData.shown_le 40 (by decide) p h.ls
  have h5 := h.wt
  have h6 := h.dp
  have hz : p.shown.length ≤ 16777216 := by omega
  have hd' : p.depth ≤ 60 := by omega
  simp [repOk, h.sh, h.nd, hd', szN, hz]
theorem Gd.repr {w dp : Nat} {x : D} {p : PyData} (h : Gd w dp x p) (hw : w ≤ 300000) (hd : dp ≤ 60) (C : Store) : oRepr [x] C = some (.str p.shown, C) := repr_of (h.tp C) (h.ok hw hd)
theorem gd_bl (b : Bool) : Gd 0 0 (.bl b) (.bool b) := ⟨fun _ => rfl, rfl, rfl, rfl, rfl, by simp [PyData.depth], by simp [PyData.weight]⟩
end CL
set_option maxHeartbeats 4000000
namespace CL
open PySem L2 CT
theorem is_integer_int (x : Int) (C : Store) : m_is_integer [.int x] C = .ok (.bl true) C := by
  simp [m_is_integer, b_is_integer, ev_def, isi, tyD, isaT]
end CL
set_option maxHeartbeats 4000000
namespace CL
open PySem L2 CT
theorem is_count_int (x a b : Int) (C : Store) : m_is_count [.int x, .int a, .int b] C = .ok (.bl (decide (a ≤ x) && decide (x ≤ b))) C := by
  simp [m_is_count, b_is_count, ev_def, is_integer_int]
  by_cases h : a ≤ x <;> simp [h]
end CL
set_option maxHeartbeats 4000000
/-! M2: sums of ties, grids, webs. -/
namespace CL
open PySem L2 CT
abbrev T3 := Int × Int × Int
def triD (t : T3) : D := .tup [.int t.1, .int t.2.1, .int t.2.2]
def pr (t : T3) : Int × Int := (min t.1 t.2.1, max t.1 t.2.1)
def addT (d : Dc) (t : T3) : Dc := dp d (pr t) (dg0 d (pr t) + t.2.2)
def sums (L : List T3) : Dc := L.foldl addT []
def IsSeq (d : D) (xs : List D) : Prop := ∀ C, itS d C = some (itC xs)
theorem seq_lst (xs : List D) : IsSeq (.lst xs) xs := fun _ => rfl
theorem seq_tup (xs : List D) : IsSeq (.tup xs) xs := fun _ => rfl
theorem seq_kt (xs : List D) : IsSeq (.kt xs) xs := fun _ => rfl
/-! ### d[k] = v -/
def puK4 (F : Fr) (v o x : D) (C3 : Store) : RS := match x, cD o C3 with
  | .tup ds, some (i, ks, vs) => match keyL ds with
    | some key => if szN (ks.length + 1) = true then match wr F.fl i (.dT (putT ks vs key v).1 (putT ks vs key v).2) C3 with
      | some C4 => .nx F.sl C4
      | none => .stuck
      else .stuck
    | none => .stuck
  | _, _ => .stuck
def puK3 (F : Fr) (v o : D) (m : R D) : RS := bndS F.sl m fun x C3 => puK4 F v o x C3
@[simp] theorem puK3_ok (F : Fr) (v o x : D) (C : Store) : puK3 F v o (.ok x C) = puK4 F v o x C := rfl
def puK2 (mi : ME) (F : Fr) (v : D) (m : R D) : RS := bndS F.sl m fun o C2 => puK3 F v o (mi F C2)
@[simp] theorem puK2_ok (mi : ME) (F : Fr) (v o : D) (C : Store) : puK2 mi F v (.ok o C) = puK3 F v o (mi F C) := rfl
def puK (mo mi : ME) (F : Fr) (m : R D) : RS := bndS F.sl m fun v C1 => puK2 mi F v (mo F C1)
@[simp] theorem puK_ok (mo mi : ME) (F : Fr) (v : D) (C : Store) : puK mo mi F (.ok v C) = puK2 mi F v (mo F C) := rfl
@[simp] theorem ev_put (me mo mi : ME) (F : Fr) (C : Store) : sPut me mo mi F C = puK mo mi F (me F C) := rfl
@[simp] theorem keyL2 (a b : Int) : keyL [.int a, .int b] = some [.inl a, .inl b] := rfl
theorem put_at {F : Fr} {C : Store} {i : Nat} {d : Dc} {a b v : Int} (hC : C[i]? = some (some (.dT (dcK d) (dcV d)))) (hz : d.length < 16777216) (hf : F.fl ≤ i ∨ True) :
    puK4 F (.int v) (.cell i) (.tup [.int a, .int b]) C = .nx F.sl (C.set i (some (.dT (dcK (dp d (a, b) v)) (dcV (dp d (a, b) v))))) := by
  have e := put_dc d (a, b) v
  have z : szN ((dcK d).length + 1) = true := by simp [szN, dcK]; omega
  have c0 : cbC 0 (.dT (dcK (dp d (a, b) v)) (dcV (dp d (a, b) v))) = true := by
    show cbL 0 (dcV (dp d (a, b) v)) = true
    unfold dcV
    have := cbL_ints 0 ((dp d (a, b) v).map (·.2))
    rw [List.map_map] at this
    exact this
  have w : wr F.fl i (.dT (dcK (dp d (a, b) v)) (dcV (dp d (a, b) v))) C = some (C.set i (some (.dT (dcK (dp d (a, b) v)) (dcV (dp d (a, b) v))))) := by
    unfold wr
    rw [if_neg (fun h => by rw [c0] at h; cases h.2)]
  simp only [puK4, cD, hC, keyL2, z, if_true]
  simp only at e
  rw [e]
  simp only [w]
theorem get_at {x : D} {C : Store} {d : Dc} {a b : Int} (h : vD x C = some (dcK d, dcV d)) : oDGet x (.tup [.int a, .int b]) (.int 0) C = some (.int (dg0 d (a, b)), C) := by
  have e := look_dc (a, b) d
  simp only at e
  simp only [oDGet, h, keyL2, Option.bind_some, Option.map_some]
  rw [e]
  unfold dg0
  cases dg d (a, b) <;> rfl
theorem sums_take (L : List T3) (j : Nat) (t : T3) (h : L[j]? = some t) : sums (L.take (j + 1)) = addT (sums (L.take j)) t := by
  have hj : j < L.length := (List.getElem?_eq_some_iff.mp h).1
  have e : L.take (j + 1) = L.take j ++ [t] := by
    rw [← (List.getElem?_eq_some_iff.mp h).2]
    exact (List.take_append_getElem hj).symm
  unfold sums
  rw [e, List.foldl_append]
  rfl
theorem sums_len : ∀ (L : List T3) (d : Dc), (L.foldl addT d).length ≤ d.length + L.length
  | [], d => by simp
  | t :: L, d => by
    have h1 := sums_len L (addT d t)
    have h2 : (addT d t).length ≤ d.length + 1 := dp_len _ _ _
    simp only [List.foldl_cons, List.length_cons]
    omega
theorem summed_ok {d : D} {L : List T3} {C : Store} (hd : SeqIn d (L.map triD) C) (hl : L.length ≤ 1000000) : m_summed [d] C = .ok (.dT (dcK (sums L)) (dcV (sums L))) C := by
  obtain ⟨it, hit, pit⟩ := hd
  rw [e_summed, b_summed, ev_seq]
  have e0 : b_summed_0 ⟨C.length, [some d, none, none, none, none, none]⟩ C = .nx [some d, some (.cell C.length), none, none, none, none] (C ++ [some (.dT [] [])]) := by
    simp [b_summed_0, mDNew, mkD]
  rw [e0, seqK_nx, ev_seq, b_summed_1, ev_for]
  rw [ev_seqI (d := d) (it := it) (by simp) (hit _), forK_ok]
  obtain ⟨sl', C', h1, h2⟩ := loop_on pit (g := (Tgt.tp [2, 3, 4]).M) (body := sSeq b_summed_1b_0 b_summed_1b_1) (fl := C.length)
    (fun j sl St => St = C ++ [some (.dT (dcK (sums (L.take j))) (dcV (sums (L.take j))))] ∧ ∃ s2 s3 s4 s5, sl = [some d, some (.cell C.length), s2, s3, s4, s5])
    (fun j sl St hi => ⟨_, hi.1⟩)
    (fun j x sl St hx hi => by
      obtain ⟨rfl, s2, s3, s4, s5, rfl⟩ := hi
      rw [List.getElem?_map, Option.map_eq_some_iff] at hx
      obtain ⟨t, ht, rfl⟩ := hx
      have at_n : ∀ c : Option Cell, (C ++ [c])[C.length]? = some c := fun c => by simp
      have hv : vD (.cell C.length) (C ++ [some (.dT (dcK (sums (L.take j))) (dcV (sums (L.take j))))]) = some (dcK (sums (L.take j)), dcV (sums (L.take j))) := by
        simp only [vD, at_n]
      have hz : (sums (L.take j)).length < 16777216 := by
        have h1 := sums_len (L.take j) []
        have h2 : (L.take j).length ≤ L.length := by simp; omega
        have h3 : (sums (L.take j)).length ≤ ([] : Dc).length + (L.take j).length := h1
        simp only [List.length_nil] at h3
        omega
      refine ⟨[some d, some (.cell C.length), some (.int t.1), some (.int t.2.1), some (.int t.2.2), s5], [some d, some (.cell C.length), some (.int t.1), some (.int t.2.1), some (.int t.2.2), some (.tup [.int (pr t).1, .int (pr t).2])], C ++ [some (.dT (dcK (addT (sums (L.take j)) t)) (dcV (addT (sums (L.take j)) t)))], by simp [triD], ?_, ?_, _, _, _, _, rfl⟩
      · rw [ev_seq]
        have eb : b_summed_1b_0 ⟨C.length, [some d, some (.cell C.length), some (.int t.1), some (.int t.2.1), some (.int t.2.2), s5]⟩ (C ++ [some (.dT (dcK (sums (L.take j))) (dcV (sums (L.take j))))]) =
            .nx [some d, some (.cell C.length), some (.int t.1), some (.int t.2.1), some (.int t.2.2), some (.tup [.int (pr t).1, .int (pr t).2])] (C ++ [some (.dT (dcK (sums (L.take j))) (dcV (sums (L.take j))))]) := by
          simp [b_summed_1b_0, oTup, szN, pr]
        rw [eb, seqK_nx]
        have hs : (vD (.cell C.length) (C ++ [some (.dT (dcK (sums (L.take j))) (dcV (sums (L.take j))))])).isSome = true := by rw [hv]; rfl
        simp only [b_summed_1b_1, ev_put, ev_op, ev_dget, ev_var, List.getElem?_cons_succ, List.getElem?_cons_zero, getV_some, getK_ok _ _ _ hs, getK2_ok, ev_c, getK3_ok, get_at hv, ev_ofO_some, opK_ok, opK2_ok, ev_add, puK_ok, puK2_ok, puK3_ok]
        rw [put_at (at_n _) hz (.inr trivial)]
        simp [addT]
      · rw [sums_take L j t ht])
    (sl := [some d, some (.cell C.length), none, none, none, none]) (C := C ++ [some (.dT [] [])]) ⟨rfl, _, _, _, _, rfl⟩
  rw [h1, seqK_nx]
  obtain ⟨rfl, s2, s3, s4, s5, rfl⟩ := h2
  have hL : L.take (L.map triD).length = L := by rw [List.length_map, List.take_length]
  rw [hL]
  have at_n : ∀ c : Option Cell, (C ++ [c])[C.length]? = some c := fun c => by simp
  have cv : cbL C.length (dcV (sums L)) = true := by
    unfold dcV
    have := cbL_ints C.length ((sums L).map (·.2))
    rw [List.map_map] at this
    exact this
  simp [b_summed_2, fin, fz, cb, cv]
end CL
set_option maxHeartbeats 4000000
/-! M3: a web is made. -/
namespace CL
open PySem L2 CT
@[simp] theorem getK_dT (b c : ME) (F : Fr) (ks : List (List Key)) (vs : List D) (C : Store) : getK b c F (.ok (.dT ks vs) C) = getK2 c F (.dT ks vs) (b F C) := rfl
def ValidT (N : Nat) (t : T3) : Prop := 0 ≤ t.1 ∧ t.1 < N ∧ 0 ≤ t.2.1 ∧ t.2.1 < N ∧ t.1 ≠ t.2.1 ∧ 0 ≤ t.2.2 ∧ t.2.2 ≤ 1000000000
theorem is_tie_true {N : Nat} {t : T3} (h : ValidT N t) (C : Store) : m_is_tie [.int N, triD t] C = .ok (.bl true) C := by
  obtain ⟨h1, h2, h3, h4, h5, h6, h7⟩ := h
  have a1 : t.1 ≤ (N : Int) - 1 := by omega
  have a2 : t.2.1 ≤ (N : Int) - 1 := by omega
  simp [e_is_tie, b_is_tie, b_is_tie_0, b_is_tie_1, b_is_tie_2, b_is_tie_3, isi, tyD, isaT, oLen, vS, triD, is_count_int, h1, h3, h5, h6, h7, a1, a2]
def rowsOf (N : Nat) (f : Int × Int → Int) : List (List Int) := (List.range N).map fun u : Nat => (List.range N).map fun v : Nat => f (min (u : Int) (v : Int), max (u : Int) (v : Int))
def gridD (G : List (List Int)) : D := .lst (G.map fun r => .lst (r.map .int))
def asI : D → Int
  | .int i => i
  | _ => 0
theorem rng_all (N : Nat) (h : D → D) : ((rngI 0 N).filter fun _ => true).map h = (List.range N).map fun u => h (.int (u : Nat)) := by
  rw [filter_yes, rngI, List.map_map]
  apply List.map_congr_left
  intro a _
  simp
theorem inR_nat {N : Nat} (h : N ≤ 1000) : inR (N : Int) = true := by
  simp only [inR, Bool.and_eq_true, decide_eq_true_eq]
  omega
theorem grid_of_ok {d : D} {L : List T3} {C : Store} {N : Nat} (hN : N ≤ 60) (hd : SeqIn d (L.map triD) C) (hl : L.length ≤ 1000000) : m_grid_of [.int N, d] C = .ok (gridD (rowsOf N (dg0 (sums L)))) C := by
  rw [e_grid_of, b_grid_of, ev_seq]
  have e0 : b_grid_of_0 ⟨C.length, [some (.int N), some d, none, none, none]⟩ C = .nx [some (.int N), some d, some (.dT (dcK (sums L)) (dcV (sums L))), none, none] C := by
    simp [b_grid_of_0, summed_ok hd hl]
  rw [e0, seqK_nx]
  have inner : ∀ (u : Int) (C' : Store), mLc false (mRng1 (mVar 0)) (Tgt.nm 4).M tYesM (mDGet (mVar 2) (mAp oTup (mCons (mAp oMin2 (mCons (mVar 3) (mCons (mVar 4) mNil))) (mCons (mAp oMax2 (mCons (mVar 3) (mCons (mVar 4) mNil))) mNil))) (mC (.int 0))) [4]
      ⟨C.length, [some (.int N), some d, some (.dT (dcK (sums L)) (dcV (sums L))), some (.int u), none]⟩ C' = .ok (.lst (((List.range N).map fun v : Nat => dg0 (sums L) (min u (v : Int), max u (v : Int))).map .int)) C' := fun u C' => by
    rw [ev_lc (pure_R 0 N) (fun _ => true) (fun x => .int (dg0 (sums L) (min u (asI x), max u (asI x)))) (by rw [ev_rng1 (j := (N : Int)) (by simp) (inR_nat (by omega))]; simp) (by simp [rngI]; omega)
      (fun x hx => by
        obtain ⟨v, hv, rfl⟩ := mem_rng hx
        refine ⟨[some (.int N), some d, some (.dT (dcK (sums L)) (dcV (sums L))), some (.int u), some (.int (0 + (v : Int)))], by simp, fun acc => ⟨rfl, fun _ => ?_⟩⟩
        simp [oTup, szN, asI, get_at (x := .dT (dcK (sums L)) (dcV (sums L))) rfl])
      (fun x hx _ => rfl)]
    rw [rng_all, List.map_map]
    rfl
  have e1 : mLc false (mRng1 (mVar 0)) (Tgt.nm 3).M tYesM (mLc false (mRng1 (mVar 0)) (Tgt.nm 4).M tYesM (mDGet (mVar 2) (mAp oTup (mCons (mAp oMin2 (mCons (mVar 3) (mCons (mVar 4) mNil))) (mCons (mAp oMax2 (mCons (mVar 3) (mCons (mVar 4) mNil))) mNil))) (mC (.int 0))) [4]) [3]
      ⟨C.length, [some (.int N), some d, some (.dT (dcK (sums L)) (dcV (sums L))), none, none]⟩ C = .ok (gridD (rowsOf N (dg0 (sums L)))) C := by
    rw [ev_lc (pure_R 0 N) (fun _ => true) (fun x => .lst (((List.range N).map fun v : Nat => dg0 (sums L) (min (asI x) (v : Int), max (asI x) (v : Int))).map .int)) (by rw [ev_rng1 (j := (N : Int)) (by simp) (inR_nat (by omega))]; simp) (by simp [rngI]; omega)
      (fun x hx => by
        obtain ⟨u, hu, rfl⟩ := mem_rng hx
        refine ⟨[some (.int N), some d, some (.dT (dcK (sums L)) (dcV (sums L))), some (.int (0 + (u : Int))), none], by simp, fun acc => ⟨rfl, fun _ => ?_⟩⟩
        exact inner (0 + (u : Int)) _)
      (fun x hx _ => cbL_ints _ _)]
    rw [rng_all]
    simp [gridD, rowsOf, asI, List.map_map]
  have cg : cb C.length (gridD (rowsOf N (dg0 (sums L)))) = true := by
    show cbL C.length _ = true
    refine cbL_all fun d hd => ?_
    obtain ⟨r, hr, rfl⟩ := List.mem_map.mp hd
    exact cbL_ints _ _
  rw [b_grid_of_1, ev_sret, e1, retK_ok, finS_rt]
  show (if cb C.length (gridD (rowsOf N (dg0 (sums L)))) = true then R.ok (gridD (rowsOf N (dg0 (sums L)))) (C.take C.length) else .stuck) = _
  rw [if_pos cg, List.take_length]
end CL
set_option maxHeartbeats 4000000
/-! M4: Web(size, ties). -/
namespace CL
open PySem L2 CT
def pairsL (N : Nat) : List (Int × Int) := (List.range N).flatMap fun u : Nat => (List.range (N - (u + 1))).map fun w : Nat => ((u : Int), ((u + 1 + w : Nat) : Int))
def tiesL (N : Nat) (f : Int × Int → Int) : List T3 := ((pairsL N).filter fun p => decide (0 < f p)).map fun p => (p.1, p.2, f p)
def webD (N : Nat) (f : Int × Int → Int) : D := .obj 0 [.int N, gridD (rowsOf N f), .tup ((tiesL N f).map triD)]
def pD (p : Int × Int) : D := .tup [.int p.1, .int p.2]
theorem mem_pairs {N : Nat} {p : Int × Int} : p ∈ pairsL N ↔ ∃ u v : Nat, u < v ∧ v < N ∧ p = ((u : Int), (v : Int)) := by
  unfold pairsL
  rw [List.mem_flatMap]
  constructor
  · rintro ⟨u, hu, hp⟩
    obtain ⟨w, hw, rfl⟩ := List.mem_map.mp hp
    have := List.mem_range.mp hu
    have := List.mem_range.mp hw
    exact ⟨u, u + 1 + w, by omega, by omega, rfl⟩
  · rintro ⟨u, v, h1, h2, rfl⟩
    refine ⟨u, List.mem_range.mpr (by omega), List.mem_map.mpr ⟨v - (u + 1), List.mem_range.mpr (by omega), ?_⟩⟩
    have e : u + 1 + (v - (u + 1)) = v := by omega
    rw [e]
theorem grid_ix {N : Nat} {f : Int × Int → Int} {u : Nat} (hu : u < N) (C : Store) : oIx (gridD (rowsOf N f)) (.int u) C = some (.lst (((List.range N).map fun v : Nat => f (min (u : Int) (v : Int), max (u : Int) (v : Int))).map .int), C) := by
  simp [oIx, vS, gridD, rowsOf, atI, ixN, hu]
theorem row_ix {N : Nat} {g : Nat → Int} {v : Nat} (hv : v < N) (C : Store) : oIx (.lst (((List.range N).map g).map .int)) (.int v) C = some (.int (g v), C) := by
  simp [oIx, vS, atI, ixN, hv]
theorem anyF {C : Store} {l : List D} (h : ∀ d ∈ l, d = .bl false) : oAny [.lst l] C = some (.bl false, C) := by
  have e : dBools l = some (l.map fun _ => false) := by
    induction l with
    | nil => rfl
    | cons d l ih =>
      have h1 := h d (List.mem_cons_self ..)
      subst h1
      simp [dBools, ih fun x hx => h x (List.mem_cons_of_mem _ hx)]
  simp [oAny, vL, e]
def big : D → Bool
  | .int n => decide (1000000000 < n)
  | _ => false
theorem flatMap_cg {α β : Type} {f g : α → List β} : ∀ {l : List α}, (∀ x ∈ l, f x = g x) → l.flatMap f = l.flatMap g
  | [], _ => rfl
  | x :: l, h => by rw [List.flatMap_cons, List.flatMap_cons, h x (List.mem_cons_self ..), flatMap_cg fun y hy => h y (List.mem_cons_of_mem _ hy)]
def itemsD : D → List D
  | .lst l => l
  | _ => []
theorem rows_len {N : Nat} {f : Int × Int → Int} {r : List Int} (h : r ∈ rowsOf N f) : r.length = N ∧ ∀ x ∈ r, ∃ u v : Nat, u < N ∧ v < N ∧ x = f (min (u : Int) (v : Int), max (u : Int) (v : Int)) := by
  unfold rowsOf at h
  obtain ⟨u, hu, rfl⟩ := List.mem_map.mp h
  refine ⟨by simp, fun x hx => ?_⟩
  obtain ⟨v, hv, rfl⟩ := List.mem_map.mp hx
  exact ⟨u, v, List.mem_range.mp hu, List.mem_range.mp hv, rfl⟩
/-- d is a list or a tuple of these items, perhaps a cell -/
def SeqD (d : D) (xs : List D) (C : Store) : Prop := d = .lst xs ∨ d = .tup xs ∨ d = .kt xs ∨ ∃ i, d = .cell i ∧ C[i]? = some (some (.lst xs))
theorem SeqD.app {d : D} {xs : List D} {C : Store} (h : SeqD d xs C) (Z : Store) : SeqD d xs (C ++ Z) := by
  rcases h with h | h | h | ⟨i, h, e⟩
  · exact .inl h
  · exact .inr (.inl h)
  · exact .inr (.inr (.inl h))
  · exact .inr (.inr (.inr ⟨i, h, by rw [List.getElem?_append_left (List.getElem?_eq_some_iff.mp e).1]; exact e⟩))
theorem SeqD.seq {d : D} {xs : List D} {C : Store} (h : SeqD d xs C) : SeqIn d xs C := by
  rcases h with rfl | rfl | rfl | ⟨i, rfl, e⟩
  · exact seq_of (seq_lst xs) C
  · exact seq_of (seq_tup xs) C
  · exact seq_of (seq_kt xs) C
  · exact seq_cell e
section
variable {N : Nat} {L : List T3} {C : Store} {d : D}
abbrev fL (L : List T3) : Int × Int → Int := dg0 (sums L)
theorem init_0 {sl : List (Option D)} {fl : Nat} (hN : N ≤ 60) (h : sl[1]? = some (some (.int N))) : b_Web__init_0 ⟨fl, sl⟩ C = .nx sl C := by
  have h60 : (N : Int) ≤ 60 := by omega
  simp [b_Web__init_0, h, is_count_int, h60]
theorem init_1 {sl : List (Option D)} {fl : Nat} {xs : List D} (h : sl[2]? = some (some d)) (hd : SeqD d xs C) : b_Web__init_1 ⟨fl, sl⟩ C = .nx sl C := by
  rcases hd with rfl | rfl | rfl | ⟨i, rfl, e⟩
  · simp [b_Web__init_1, h, mIsi2, isi, tyD, isaT]
  · simp [b_Web__init_1, h, mIsi2, isi, tyD, isaT]
  · simp [b_Web__init_1, h, mIsi2, isi, tyD, isaT]
  · simp [b_Web__init_1, h, mIsi2, isi, tyD, isaT, e]
theorem init_2 {fl i : Nat} (hs : SeqIn d (L.map triD) C) (hv : ∀ t ∈ L, ValidT N t) : ∃ s3 s4, b_Web__init_2 ⟨fl, [some (.cell i), some (.int N), some d, none, none, none, none, none, none, none, none]⟩ C = .nx [some (.cell i), some (.int N), some d, s3, s4, none, none, none, none, none, none] C := by
  obtain ⟨it, hit, pit⟩ := hs.at0
  rw [b_Web__init_2, ev_for, ev_enum (d := d) (it := it) (by simp) hit, forK_ok]
  obtain ⟨sl', C', h1, h2⟩ := loop_on pit.pairs (g := (Tgt.tp [3, 4]).M) (body := b_Web__init_2b_0) (fl := fl)
    (fun j sl St => St = C ∧ ∃ s3 s4, sl = [some (.cell i), some (.int N), some d, s3, s4, none, none, none, none, none, none])
    (fun j sl St hi => ⟨[], by rw [hi.1, List.append_nil]⟩)
    (fun j x sl St hx hi => by
      obtain ⟨rfl, s3, s4, rfl⟩ := hi
      rw [List.getElem?_map, Option.map_eq_some_iff] at hx
      obtain ⟨⟨a, y⟩, hy, rfl⟩ := hx
      obtain ⟨_, hy2⟩ := List.getElem?_zip_eq_some.mp hy
      rw [List.getElem?_map, Option.map_eq_some_iff] at hy2
      obtain ⟨t, ht, rfl⟩ := hy2
      refine ⟨[some (.cell i), some (.int N), some d, some (.int a), some (triD t), none, none, none, none, none, none], [some (.cell i), some (.int N), some d, some (.int a), some (triD t), none, none, none, none, none, none], St, by simp, ?_, rfl, _, _, rfl⟩
      simp [b_Web__init_2b_0, is_tie_true (hv t (List.mem_of_getElem? ht))])
    (sl := [some (.cell i), some (.int N), some d, none, none, none, none, none, none, none, none]) (C := C) ⟨rfl, _, _, rfl⟩
  obtain ⟨rfl, s3, s4, rfl⟩ := h2
  exact ⟨s3, s4, h1⟩
theorem init_3 {fl i : Nat} {s3 s4 : Option D} (hN : N ≤ 60) (hs : SeqIn d (L.map triD) C) (hl : L.length ≤ 1000000) : b_Web__init_3 ⟨fl, [some (.cell i), some (.int N), some d, s3, s4, none, none, none, none, none, none]⟩ C =
    .nx [some (.cell i), some (.int N), some d, s3, s4, some (gridD (rowsOf N (fL L))), none, none, none, none, none] C := by
  simp [b_Web__init_3, grid_of_ok hN hs hl]
theorem init_4 {fl i : Nat} {s3 s4 : Option D} {f : Int × Int → Int} (hN : N ≤ 60) (hf : ∀ u v : Nat, u < N → v < N → f (min (u : Int) (v : Int), max (u : Int) (v : Int)) ≤ 1000000000) :
    b_Web__init_4 ⟨fl, [some (.cell i), some (.int N), some d, s3, s4, some (gridD (rowsOf N f)), none, none, none, none, none]⟩ C = .nx [some (.cell i), some (.int N), some d, s3, s4, some (gridD (rowsOf N f)), none, none, none, none, none] C := by
  have e : mLc2 false (mSeq (mVar 5)) (Tgt.nm 7).M tYesM (mSeq (mVar 7)) (Tgt.nm 8).M tYesM (mOp oGt (mVar 8) (mC (.int 1000000000))) [7, 8] [8] ⟨fl, [some (.cell i), some (.int N), some d, s3, s4, some (gridD (rowsOf N f)), none, none, none, none, none]⟩ C =
      .ok (.lst (flat2 ((rowsOf N f).map fun r => .lst (r.map .int)) itemsD (fun _ _ => true) fun _ y => .bl (big y))) C := by
    refine ev_lc2 (pure_C ((rowsOf N f).map fun r => D.lst (r.map .int))) itemsD (fun _ _ => true) (fun _ y => .bl (big y)) 60 ?_ (fun x hx => ?_) ?_ (by omega) (fun x hx => ?_) (fun _ _ _ _ _ => rfl)
    · exact ev_seqI (d := gridD (rowsOf N f)) (by simp) rfl
    · obtain ⟨r, hr, rfl⟩ := List.mem_map.mp hx
      show (r.map D.int).length ≤ 60
      rw [List.length_map, (rows_len hr).1]
      exact hN
    · have : (rowsOf N f).length = N := by simp [rowsOf]
      rw [List.length_map, this]
      omega
    · obtain ⟨r, hr, rfl⟩ := List.mem_map.mp hx
      refine ⟨[some (.cell i), some (.int N), some d, s3, s4, some (gridD (rowsOf N f)), none, some (.lst (r.map .int)), none, none, none], by simp, fun acc => ⟨⟨itC (r.map .int), pure_C _, ev_seqI (d := .lst (r.map .int)) (by simp) rfl⟩, fun y hy => ?_⟩⟩
      obtain ⟨n, hn, rfl⟩ := List.mem_map.mp hy
      exact ⟨[some (.cell i), some (.int N), some d, s3, s4, some (gridD (rowsOf N f)), none, some (.lst (r.map .int)), some (.int n), none, none], by simp, fun acc => ⟨rfl, fun _ => by simp [big]⟩⟩
  have a := anyF (C := C) (l := flat2 ((rowsOf N f).map fun r => .lst (r.map .int)) itemsD (fun _ _ => true) fun _ y => .bl (big y)) fun x hx => by
    unfold flat2 at hx
    obtain ⟨row, hrow, hx⟩ := List.mem_flatMap.mp hx
    obtain ⟨r, hr, rfl⟩ := List.mem_map.mp hrow
    obtain ⟨y, hy, rfl⟩ := List.mem_map.mp hx
    have hy' := (List.mem_filter.mp hy).1
    obtain ⟨n, hn, rfl⟩ := List.mem_map.mp hy'
    obtain ⟨u, v, hu, hv, rfl⟩ := (rows_len hr).2 n hn
    have := hf u v hu hv
    simp only [big]
    rw [decide_eq_false (by omega)]
  simp only [b_Web__init_4, ev_sif, ev_tst, ev_ap, ev_cons, e, consK_ok, ev_nil, consK2_ok, apK_ok, a, ev_ofO_some, tstK_ok, sifK_f, ev_next]
theorem init_5 {fl i : Nat} {s3 s4 s5 : Option D} (hN : N ≤ 60) : b_Web__init_5 ⟨fl, [some (.cell i), some (.int N), some d, s3, s4, s5, none, none, none, none, none]⟩ C =
    .nx [some (.cell i), some (.int N), some d, s3, s4, s5, some (.lst ((pairsL N).map pD)), none, none, none, none] C := by
  have e : mLc2 false (mRng1 (mVar 1)) (Tgt.nm 9).M tYesM (mRng2 (mOp oAdd (mVar 9) (mC (.int 1))) (mVar 1)) (Tgt.nm 10).M tYesM (mAp oTup (mCons (mVar 9) (mCons (mVar 10) mNil))) [9, 10] [10] ⟨fl, [some (.cell i), some (.int N), some d, s3, s4, s5, none, none, none, none, none]⟩ C =
      .ok (.lst (flat2 (rngI 0 N) (fun x => rngI (asI x + 1) (N - (asI x + 1)).toNat) (fun _ _ => true) fun x y => .tup [x, y])) C := by
    refine ev_lc2 (pure_R 0 N) (fun x => rngI (asI x + 1) (N - (asI x + 1)).toNat) (fun _ _ => true) (fun x y => .tup [x, y]) 60 (by rw [ev_rng1 (j := (N : Int)) (by simp) (inR_nat (by omega))]; simp) (fun x hx => ?_) (by simp [rngI]; omega) (by omega) (fun x hx => ?_) (fun x hx y hy _ => ?_)
    · obtain ⟨u, hu, rfl⟩ := mem_rng hx
      simp [rngI, asI]
      omega
    · obtain ⟨u, hu, rfl⟩ := mem_rng hx
      refine ⟨[some (.cell i), some (.int N), some d, s3, s4, s5, none, none, none, some (.int (0 + (u : Int))), none], by simp, fun acc => ⟨⟨itR ((0 + (u : Int)) + 1) ((N : Int) - ((0 + (u : Int)) + 1)).toNat, pure_R _ _, ?_⟩, fun y hy => ?_⟩⟩
      · exact ev_rng2 (by simp) (by simp) (by have := inR_nat (N := u + 1) (by omega); simpa using this) (inR_nat (by omega))
      · obtain ⟨w, hw, rfl⟩ := mem_rng hy
        exact ⟨[some (.cell i), some (.int N), some d, s3, s4, s5, none, none, none, some (.int (0 + (u : Int))), some (.int (asI (.int (0 + (u : Int))) + 1 + (w : Int)))], by simp, fun acc => ⟨rfl, fun _ => by simp [oTup, szN]⟩⟩
    · obtain ⟨u, hu, rfl⟩ := mem_rng hx
      obtain ⟨w, hw, rfl⟩ := mem_rng hy
      rfl
  have ep : flat2 (rngI 0 N) (fun x => rngI (asI x + 1) (N - (asI x + 1)).toNat) (fun _ _ => true) (fun x y => .tup [x, y]) = (pairsL N).map pD := by
    unfold flat2 pairsL
    rw [List.map_flatMap]
    unfold rngI
    rw [List.flatMap_map]
    apply flatMap_cg
    intro u hu
    have hu' := List.mem_range.mp hu
    rw [filter_yes, List.map_map, List.map_map]
    have e1 : ((N : Int) - (asI (.int (0 + (u : Int))) + 1)).toNat = N - (u + 1) := by simp only [asI]; omega
    rw [e1]
    apply List.map_congr_left
    intro w hw
    simp [pD, asI]
  rw [b_Web__init_5, ev_asg, e, ep]
  simp
end
end CL
set_option maxHeartbeats 4000000
/-! M5: Web(size, ties), made. -/
namespace CL
open PySem L2 CT
theorem fld_ok {c n i : Nat} {me mo : ME} {F : Fr} {C : Store} {v : D} {fs : List D} (h1 : me F C = .ok v C) (h2 : mo F C = .ok (.cell i) C) (h3 : C[i]? = some (some (.ins c fs))) (h4 : n = fs.length) (h5 : cbL 0 (fs ++ [v]) = true) :
    sFldS c n me mo F C = .nx F.sl (C.set i (some (.ins c (fs ++ [v])))) := by
  have w : wr F.fl i (.ins c (fs ++ [v])) C = some (C.set i (some (.ins c (fs ++ [v])))) := by
    unfold wr
    rw [if_neg (fun h => by rw [show cbC 0 (.ins c (fs ++ [v])) = cbL 0 (fs ++ [v]) from rfl, h5] at h; cases h.2)]
  unfold sFldS
  rw [h1]
  simp only [bndS_ok]
  rw [h2]
  simp only [bndS_ok, h3]
  rw [if_pos ⟨trivial, Nat.le_of_eq h4⟩, if_neg (by omega), w]
theorem cbL_app {n : Nat} : ∀ {l m : List D}, cbL n (l ++ m) = (cbL n l && cbL n m)
  | [], m => by simp [cbL]
  | d :: l, m => by
    show (cb n d && cbL n (l ++ m)) = ((cb n d && cbL n l) && cbL n m)
    rw [cbL_app, Bool.and_assoc]
def rowD (N : Nat) (f : Int × Int → Int) (u : Nat) : D := .lst (((List.range N).map fun v : Nat => f (min (u : Int) (v : Int), max (u : Int) (v : Int))).map .int)
theorem gix {N : Nat} {f : Int × Int → Int} {u : Nat} (hu : u < N) (C : Store) : oIx (gridD (rowsOf N f)) (.int u) C = some (rowD N f u, C) := grid_ix hu C
theorem rix {N : Nat} {f : Int × Int → Int} {u v : Nat} (hv : v < N) (C : Store) : oIx (rowD N f u) (.int v) C = some (.int (f (min (u : Int) (v : Int), max (u : Int) (v : Int))), C) := row_ix (g := fun v : Nat => f (min (u : Int) (v : Int), max (u : Int) (v : Int))) hv C
def posB (f : Int × Int → Int) : D → Bool
  | .tup [.int a, .int b] => decide (0 < f (a, b))
  | _ => false
def triB (f : Int × Int → Int) : D → D
  | .tup [.int a, .int b] => triD (a, b, f (a, b))
  | _ => .non
theorem cb_grid (n : Nat) (G : List (List Int)) : cb n (gridD G) = true := by
  show cbL n _ = true
  refine cbL_all fun d hd => ?_
  obtain ⟨r, hr, rfl⟩ := List.mem_map.mp hd
  exact cbL_ints _ _
theorem cb_ties (n : Nat) (l : List T3) : cbL n (l.map triD) = true := cbL_all fun d hd => by
  obtain ⟨t, _, rfl⟩ := List.mem_map.mp hd
  rfl
section
variable {N : Nat} {L : List T3} {C : Store} {d : D}
theorem ties_lc {fl i : Nat} {s3 s4 : Option D} {f : Int × Int → Int} : mLc false (mSeq (mVar 6)) (Tgt.tp [9, 10]).M (mTst (mOp oGt (mOp oIx (mOp oIx (mVar 5) (mVar 9)) (mVar 10)) (mC (.int 0)))) (mAp oTup (mCons (mVar 9) (mCons (mVar 10) (mCons (mOp oIx (mOp oIx (mVar 5) (mVar 9)) (mVar 10)) mNil)))) [9, 10]
    ⟨fl, [some (.cell i), some (.int N), some d, s3, s4, some (gridD (rowsOf N f)), some (.lst ((pairsL N).map pD)), none, none, none, none]⟩ C = .ok (.lst ((tiesL N f).map triD)) C ∨ 3600 < (pairsL N).length := by
  by_cases hz : 3600 < (pairsL N).length
  · exact .inr hz
  refine .inl ?_
  have e := ev_lc (pure_C ((pairsL N).map pD)) (mi := mSeq (mVar 6)) (g := (Tgt.tp [9, 10]).M) (tt := mTst (mOp oGt (mOp oIx (mOp oIx (mVar 5) (mVar 9)) (mVar 10)) (mC (.int 0)))) (te := mAp oTup (mCons (mVar 9) (mCons (mVar 10) (mCons (mOp oIx (mOp oIx (mVar 5) (mVar 9)) (mVar 10)) mNil)))) (vs := [9, 10])
    (F := ⟨fl, [some (.cell i), some (.int N), some d, s3, s4, some (gridD (rowsOf N f)), some (.lst ((pairsL N).map pD)), none, none, none, none]⟩) (C := C) (posB f) (triB f) (ev_seqI (d := .lst ((pairsL N).map pD)) (by simp) rfl) (by rw [List.length_map]; omega)
    (fun x hx => by
      obtain ⟨p, hp, rfl⟩ := List.mem_map.mp hx
      obtain ⟨u, v, h1, h2, rfl⟩ := mem_pairs.mp hp
      have hu : u < N := by omega
      have e1 : min (u : Int) (v : Int) = u := by omega
      have e2 : max (u : Int) (v : Int) = v := by omega
      refine ⟨[some (.cell i), some (.int N), some d, s3, s4, some (gridD (rowsOf N f)), some (.lst ((pairsL N).map pD)), none, none, some (.int u), some (.int v)], by simp [pD], fun acc => ⟨?_, fun _ => ?_⟩⟩
      · simp [gix hu, rix h2, e1, e2, posB, pD]
      · simp [gix hu, rix h2, e1, e2, triB, pD, oTup, szN, triD])
    (fun x hx _ => by
      obtain ⟨p, hp, rfl⟩ := List.mem_map.mp hx
      rfl)
  rw [e]
  congr 2
  unfold tiesL
  rw [List.filter_map, List.map_map, List.map_map]
  rfl
theorem pairs_len (h : N ≤ 60) : (pairsL N).length ≤ 3600 := by
  have : ∀ l : List Nat, (l.flatMap fun u : Nat => (List.range (N - (u + 1))).map fun w : Nat => ((u : Int), ((u + 1 + w : Nat) : Int))).length ≤ l.length * 60 := by
    intro l
    induction l with
    | nil => simp
    | cons u l ih =>
      rw [List.flatMap_cons, List.length_append, List.length_cons, List.length_map, List.length_range, Nat.succ_mul]
      omega
  have h2 := this (List.range N)
  rw [List.length_range] at h2
  have h3 : N * 60 ≤ 3600 := by omega
  exact Nat.le_trans h2 h3
end
end CL
set_option maxHeartbeats 4000000
/-! M6: the instance. -/
namespace CL
open PySem L2 CT
section
variable {N : Nat} {L : List T3} {C : Store} {d : D}
/-- the ties fit into a web of N places -/
structure Fits (N : Nat) (L : List T3) : Prop where
  n : N ≤ 60
  v : ∀ t ∈ L, ValidT N t
  l : L.length ≤ 1000000
  s : ∀ u v : Nat, u < N → v < N → fL L (min (u : Int) (v : Int), max (u : Int) (v : Int)) ≤ 1000000000
theorem init_ok (h : Fits N L) (hd : SeqD d (L.map triD) C) : m_Web__init [.cell C.length, .int N, d] (C ++ [some (.ins 0 [])]) = .ok .non (C ++ [some (.ins 0 [.int N, gridD (rowsOf N (fL L)), .tup ((tiesL N (fL L)).map triD)])]) := by
  have st : ∀ x y : Option Cell, (C ++ [x]).set C.length y = C ++ [y] := fun x y => by simp
  have gt : ∀ x : Option Cell, (C ++ [x])[C.length]? = some x := fun x => by simp
  have hd1 := hd.app [some (.ins 0 [])]
  rw [e_Web__init, b_Web__init, ev_seq, init_0 h.n rfl, seqK_nx, ev_seq, init_1 rfl hd1, seqK_nx, ev_seq]
  obtain ⟨s3, s4, e2⟩ := init_2 (C := C ++ [some (.ins 0 [])]) (fl := (C ++ [some (Cell.ins 0 [])]).length) (i := C.length) hd1.seq h.v
  rw [e2, seqK_nx, ev_seq, init_3 h.n hd1.seq h.l, seqK_nx, ev_seq, init_4 h.n h.s, seqK_nx, ev_seq, init_5 h.n, seqK_nx, ev_seq]
  have e6 : ∀ fl sl, sl[0]? = some (some (D.cell C.length)) → sl[1]? = some (some (.int N)) → b_Web__init_6 ⟨fl, sl⟩ (C ++ [some (.ins 0 [])]) = .nx sl (C ++ [some (.ins 0 [.int N])]) := fun fl sl h0 h1 => by
    rw [b_Web__init_6, fld_ok (n := 0) (v := .int N) (i := C.length) (fs := []) (by simp [h1]) (by simp [h0]) (gt _) rfl rfl, st]
    rfl
  have e7 : ∀ fl sl, sl[0]? = some (some (D.cell C.length)) → sl[5]? = some (some (gridD (rowsOf N (fL L)))) → b_Web__init_7 ⟨fl, sl⟩ (C ++ [some (.ins 0 [.int N])]) = .nx sl (C ++ [some (.ins 0 [.int N, gridD (rowsOf N (fL L))])]) := fun fl sl h0 h1 => by
    rw [b_Web__init_7, fld_ok (n := 1) (v := gridD (rowsOf N (fL L))) (i := C.length) (fs := [.int N]) (by simp [h1]) (by simp [h0]) (gt _) rfl (by
      rw [cbL_app]
      show (true && (cb 0 (gridD (rowsOf N (fL L))) && true)) = true
      rw [cb_grid]
      rfl), st]
    rfl
  rw [e6 _ _ rfl rfl, seqK_nx, ev_seq, e7 _ _ rfl rfl, seqK_nx]
  have el : mLc false (mSeq (mVar 6)) (Tgt.tp [9, 10]).M (mTst (mOp oGt (mOp oIx (mOp oIx (mVar 5) (mVar 9)) (mVar 10)) (mC (.int 0)))) (mAp oTup (mCons (mVar 9) (mCons (mVar 10) (mCons (mOp oIx (mOp oIx (mVar 5) (mVar 9)) (mVar 10)) mNil)))) [9, 10]
      ⟨(C ++ [some (Cell.ins 0 [])]).length, [some (.cell C.length), some (.int N), some d, s3, s4, some (gridD (rowsOf N (fL L))), some (.lst ((pairsL N).map pD)), none, none, none, none]⟩ (C ++ [some (.ins 0 [.int N, gridD (rowsOf N (fL L))])]) = .ok (.lst ((tiesL N (fL L)).map triD)) (C ++ [some (.ins 0 [.int N, gridD (rowsOf N (fL L))])]) := by
    rcases ties_lc (N := N) (d := d) (C := C ++ [some (.ins 0 [.int N, gridD (rowsOf N (fL L))])]) (fl := (C ++ [some (Cell.ins 0 [])]).length) (i := C.length) (s3 := s3) (s4 := s4) (f := fL L) with e | e
    · exact e
    · have := pairs_len h.n
      omega
  rw [b_Web__init_8, fld_ok (n := 2) (v := .tup ((tiesL N (fL L)).map triD)) (i := C.length) (fs := [.int N, gridD (rowsOf N (fL L))]) (by
    rw [ev_ap, ev_cons]
    simp only [List.cons_append, List.nil_append]
    rw [el]
    simp [oTupOf, vL]) (by simp) (gt _) rfl (by
    show (true && (cb 0 (gridD (rowsOf N (fL L))) && (cbL 0 ((tiesL N (fL L)).map triD) && true))) = true
    rw [cb_grid, cb_ties]
    rfl), st, finS_nx, fin_non]
  congr 1
  exact List.take_of_length_le (by simp)
theorem make_ok {F : Fr} {a : MA} {dds ds : List D} (h : Fits N L) (hd : SeqD d (L.map triD) C) (ha : a F C = .ok ds C) (e : ds ++ dds = [.int N, d]) : mMake false 0 3 m_Web__init dds a F C = .ok (webD N (fL L)) C := by
  unfold mMake
  rw [ha]
  simp only [bnd_ok]
  rw [e, init_ok h hd]
  have gt : ∀ x : Option Cell, (C ++ [x])[C.length]? = some x := fun x => by simp
  simp only [gt]
  have c : cbL C.length [.int N, gridD (rowsOf N (fL L)), .tup ((tiesL N (fL L)).map triD)] = true := by
    show (true && (cb C.length (gridD (rowsOf N (fL L))) && (cbL C.length ((tiesL N (fL L)).map triD) && true))) = true
    rw [cb_grid, cb_ties]
    rfl
  simp [c, webD]
end
end CL
set_option maxHeartbeats 4000000
/-! Q0: a web's fields. -/
namespace CL
open PySem L2 CT
section
variable {N : Nat} {f : Int × Int → Int} {C : Store} {Q : D → Store → Prop}
theorem wo_fldW0 (h : Q (.int N) C) : wO (oFld 0 0 (webD N f) C) Q := wo_fld rfl h
theorem wo_fldW1 (h : Q (gridD (rowsOf N f)) C) : wO (oFld 0 1 (webD N f) C) Q := wo_fld rfl h
theorem wo_fldW2 (h : Q (.tup ((tiesL N f).map triD)) C) : wO (oFld 0 2 (webD N f) C) Q := wo_fld rfl h
end
end CL
set_option maxHeartbeats 4000000
/-! M7: total, degrees, within, changed, crossing. -/
namespace CL
open PySem L2 CT
theorem sum_ints (l : List Int) (C : Store) : oSum [.lst (l.map .int)] C = some (.int l.sum, C) := by
  simp [oSum, vL]
end CL
set_option maxHeartbeats 4000000
/-! N8c: crossing. -/
namespace CL
open PySem L2 CT
section
variable {N : Nat} {f : Int × Int → Int} {C : Store} {u v n : Int}
def cellI (N : Nat) (f : Int × Int → Int) : D → D → D := fun x y => .int (f (min (asI x) (asI y), max (asI x) (asI y)))
theorem crossing_ok (h : N ≤ 60) {a b : D} {xs ys : List Nat} (ha : IsSeq a (xs.map fun u : Nat => D.int u)) (hb : IsSeq b (ys.map fun u : Nat => D.int u)) (hx : ∀ u ∈ xs, u < N) (hy : ∀ u ∈ ys, u < N) (lx : xs.length ≤ 60) (ly : ys.length ≤ 60) :
    m_Web_crossing [webD N f, a, b] C = .ok (.int ((xs.flatMap fun u : Nat => ys.map fun v : Nat => f (min (u : Int) (v : Int), max (u : Int) (v : Int))).sum)) C := by
  have e : mLc2 false (mSeq (mVar 1)) (Tgt.nm 3).M tYesM (mSeq (mVar 2)) (Tgt.nm 4).M tYesM (mOp oIx (mOp oIx (mUn (oFld 0 1) (mVar 0)) (mVar 3)) (mVar 4)) [3, 4] [4] ⟨C.length, [some (webD N f), some a, some b, none, none]⟩ C =
      .ok (.lst (flat2 (xs.map fun u : Nat => D.int u) (fun _ => ys.map fun u : Nat => D.int u) (fun _ _ => true) (cellI N f))) C := by
    refine ev_lc2 (pure_C (xs.map fun u : Nat => D.int u)) (fun _ => ys.map fun u : Nat => D.int u) (fun _ _ => true) (cellI N f) 60 ?_ (fun x _ => by rw [List.length_map]; exact ly) ?_ (by omega) (fun x hx' => ?_) (fun _ _ _ _ _ => rfl)
    · exact ev_seqI (d := a) (by simp) (ha _)
    · rw [List.length_map]
      have : xs.length * 60 ≤ 60 * 60 := Nat.mul_le_mul_right _ lx
      omega
    · obtain ⟨u, hu, rfl⟩ := List.mem_map.mp hx'
      refine ⟨[some (webD N f), some a, some b, some (.int u), none], by simp, fun acc => ⟨⟨itC (ys.map fun u : Nat => D.int u), pure_C _, ev_seqI (d := b) (by simp) (hb _)⟩, fun y hy' => ?_⟩⟩
      obtain ⟨v, hv, rfl⟩ := List.mem_map.mp hy'
      refine ⟨[some (webD N f), some a, some b, some (.int u), some (.int v)], by simp, fun acc => ⟨rfl, fun _ => ?_⟩⟩
      simp [webD, gix (hx u hu), rix (hy v hv), cellI, asI]
  have ef : flat2 (xs.map fun u : Nat => D.int u) (fun _ => ys.map fun u : Nat => D.int u) (fun _ _ => true) (cellI N f) = (xs.flatMap fun u : Nat => ys.map fun v : Nat => f (min (u : Int) (v : Int), max (u : Int) (v : Int))).map .int := by
    unfold flat2
    rw [List.flatMap_map, List.map_flatMap]
    apply flatMap_cg
    intro u _
    rw [filter_yes, List.map_map, List.map_map]
    rfl
  rw [e_Web_crossing, b_Web_crossing, ev_sret, ev_ap, ev_cons, e, ef]
  simp only [consK_ok, ev_nil, consK2_ok, apK_ok, sum_ints, ev_ofO_some, retK_ok, finS_rt, fin_int, List.take_length]
end
end CL
set_option maxHeartbeats 4000000
namespace CL
open PySem L2 CT
local macro_rules | `(tactic| walk_at "w") => `(tactic| first | ((with_reducible apply gR); first | with_reducible refine w_var rfl ?_ | with_reducible apply w_cons | with_reducible apply w_c | with_reducible apply w_nil | with_reducible apply w_op | with_reducible apply w_ap | with_reducible apply w_call | with_reducible apply w_tst | with_reducible apply w_un | with_reducible apply w_tand | with_reducible apply w_tor | with_reducible apply w_tnot | with_reducible apply w_yes | with_reducible apply w_and | with_reducible apply w_or | with_reducible apply w_not | with_reducible apply w_if | with_reducible apply w_chain | with_reducible apply w_isi | with_reducible apply w_isi2 | with_reducible apply w_prop | with_reducible apply w_meth | with_reducible apply w_dget | with_reducible apply w_dnewF | with_reducible apply w_dnewT | with_reducible apply w_part | with_reducible apply w_noPart | with_reducible apply w_slLF | with_reducible apply w_slA | with_reducible apply w_ok | with_reducible apply w_ofO | with_reducible apply w_lcI | with_reducible apply w_seqI | with_reducible apply w_rng1 | with_reducible apply w_rng2 | with_reducible apply w_enum) | ((with_reducible apply gO); first | with_reducible apply wo_add | with_reducible apply wo_sub | with_reducible apply wo_lt | with_reducible apply wo_gt | with_reducible apply wo_eq | with_reducible apply wo_ne | with_reducible apply wo_le | with_reducible apply wo_ge | with_reducible apply wo_neg | with_reducible apply wo_eqS | with_reducible apply wo_neS | with_reducible apply wo_min | with_reducible apply wo_max | with_reducible apply wo_int | with_reducible apply wo_abs | with_reducible apply wo_tupL | with_reducible apply wo_tupT | with_reducible refine wo_tup (by with_unfolding_all rfl) ?_ | with_reducible refine wo_lstF (by with_unfolding_all rfl) ?_ | with_reducible refine wo_lstT (by with_unfolding_all rfl) ?_ | with_reducible apply wo_fld0 | with_reducible apply wo_fld1 | with_reducible apply wo_fld2 | with_reducible apply wo_fldW0 | with_reducible apply wo_fldW1 | with_reducible apply wo_fldW2) | ((with_reducible apply gS); first | with_reducible apply w_seq | with_reducible apply w_asg | with_reducible apply w_sif | with_reducible apply w_next | with_reducible apply w_ret | with_reducible apply w_par | with_reducible apply w_drop | with_reducible apply w_asgT | with_reducible apply w_retN | with_reducible apply w_brk | with_reducible apply w_cnt | with_reducible apply w_raise | with_reducible apply w_forI) | ((with_reducible apply gI); first | with_reducible apply wI_t | with_reducible apply wI_f | with_reducible apply wI_not) | with_reducible apply w_bl | with_reducible apply thn_nx | with_reducible apply w_int | with_reducible apply w_obj | with_reducible apply thn_rt | with_reducible apply lp_nx | with_reducible apply fnl_int | with_reducible apply fnl_bl | with_reducible apply fnl_non | with_reducible apply fnl_str | with_reducible apply fnl_nx | with_reducible apply thn_bk | with_reducible apply thn_ct | with_reducible apply thn_xc | with_reducible apply lp_rt | with_reducible apply lp_bk | with_reducible apply lp_xc | with_reducible apply w_itL | with_reducible apply w_itT | with_reducible apply w_itK)
local macro_rules | `(tactic| walk_at "p") => `(tactic| repeat walk_at "w")
/-! L1: lists of ints as data: ==, in. -/
theorem toPs_is (C : Store) : ∀ l : List Int, toPs C (l.map D.int) = some (l.map .int)
  | [] => rfl
  | x :: l => by
    have e := toPs_is C l
    show (match toP C (.int x), toPs C (l.map D.int) with | some p, some ps => some (p :: ps) | _, _ => none) = _
    rw [e]
    rfl
theorem eqv_is : ∀ as bs : List Int, PyData.eqvAll (as.map .int) (bs.map .int) = decide (as = bs)
  | [], [] => rfl
  | [], b :: bs => rfl
  | a :: as, [] => rfl
  | a :: as, b :: bs => by
    show (PyData.eqv (.int a) (.int b) && PyData.eqvAll (as.map .int) (bs.map .int)) = _
    rw [eqv_is as bs, Bool.eq_iff_iff]
    simp [PyData.eqv]
theorem lay_is : ∀ l : List Int, PyData.canLayAll0 (l.map .int) = true
  | [] => rfl
  | a :: l => by simp [PyData.canLayAll0, PyData.canLay0, lay_is l]
theorem dep_is : ∀ l : List Int, PyData.depthAll (l.map .int) ≤ 0
  | [] => by simp [PyData.depthAll]
  | a :: l => by
    have := dep_is l
    simp only [List.map_cons, PyData.depthAll, PyData.depth]
    omega
theorem shp_li (l : List Int) : SeqAt.shaped (.list (l.map .int)) = true := by
  have h3 := dep_is l
  have h4 : (PyData.list (l.map .int)).depth ≤ 64 := by simp only [PyData.depth]; omega
  simp [SeqAt.shaped, PyData.canLay0, lay_is, h4]
theorem toP_li (C : Store) (l : List Int) : toP C (.lst (l.map .int)) = some (.list (l.map .int)) := by
  show (toPs C (l.map D.int)).map PyData.list = _
  rw [toPs_is]
  rfl
theorem eq_li (as bs : List Int) (C : Store) : oEqA false (.lst (as.map .int)) (.lst (bs.map .int)) C = some (.bl (decide (as = bs)), C) := by
  show oEqD false _ _ C = _
  simp only [oEqD, toP_li, shp_li, Bool.and_self, if_true, PyData.eqv, eqv_is]
  rfl
end CL
set_option maxHeartbeats 4000000
/-! PI1: the pieces of a graph. -/
namespace CL
open PySem L2 CT
inductive Rch (N : Nat) (a : Nat → Nat → Bool) (o : Nat → Bool) (s : Nat) : Nat → Prop where
  | base : Rch N a o s s
  | step {u v : Nat} : Rch N a o s u → v < N → a u v = true → o v = true → Rch N a o s v
open Classical in
noncomputable def compo (N : Nat) (a : Nat → Nat → Bool) (o : Nat → Bool) (s : Nat) : List Nat := (List.range N).filter fun w => decide (Rch N a o s w)
section
variable {N : Nat} {a : Nat → Nat → Bool} {o : Nat → Bool} {s : Nat}
theorem rch_lt (hs : s < N) {w : Nat} (h : Rch N a o s w) : w < N := by
  cases h with
  | base => exact hs
  | step _ h _ _ => exact h
theorem rch_open (hs : o s = true) {w : Nat} (h : Rch N a o s w) : o w = true := by
  cases h with
  | base => exact hs
  | step _ _ _ h => exact h
open Classical in
theorem compo_mem (hs : s < N) {w : Nat} : w ∈ compo N a o s ↔ Rch N a o s w := by
  unfold compo
  rw [List.mem_filter, List.mem_range]
  exact ⟨fun h => of_decide_eq_true h.2, fun h => ⟨rch_lt hs h, decide_eq_true h⟩⟩
theorem compo_up : (compo N a o s).Pairwise (· < ·) := List.pairwise_lt_range.sublist List.filter_sublist
theorem compo_len : (compo N a o s).length ≤ N := by
  have := List.length_filter_le (fun w => @decide (Rch N a o s w) (Classical.propDecidable _)) (List.range N)
  rw [List.length_range] at this
  unfold compo
  exact this
/-- a closed set of what is reached is all that is reached -/
theorem closed_all {P : List Nat} (h0 : s ∈ P) (h1 : ∀ x ∈ P, Rch N a o s x) (h2 : ∀ x ∈ P, ∀ v, v < N → a x v = true → o v = true → v ∈ P) : ∀ w, w ∈ P ↔ Rch N a o s w := by
  intro w
  refine ⟨h1 w, fun h => ?_⟩
  induction h with
  | base => exact h0
  | step _ lt ha ho ih => exact h2 _ ih _ lt ha ho
/-- lists of places below N, each once -/
theorem nd_len {P : List Nat} (nd : P.Nodup) (h : ∀ x ∈ P, x < N) : P.length ≤ N := by
  have key : ∀ (N : Nat) (P : List Nat), P.Nodup → (∀ x ∈ P, x < N) → P.length ≤ N := by
    intro N
    induction N with
    | zero =>
      intro P _ h
      cases P with
      | nil => exact Nat.le_refl _
      | cons x P => exact absurd (h x (List.mem_cons_self ..)) (Nat.not_lt_zero _)
    | succ N ih =>
      intro P nd h
      have e := ih (P.erase N) (nd.erase N) fun x hx => by
        have h1 := h x (List.mem_of_mem_erase hx)
        have h2 : x ≠ N := fun e => by
          subst e
          exact absurd hx (nd.not_mem_erase)
        omega
      have := List.length_erase (a := N) (l := P)
      split at this <;> omega
  exact key N P nd h
end
/-! ### all pieces -/
noncomputable def pstep (N : Nat) (a : Nat → Nat → Bool) (st : (Nat → Bool) × List (List Nat)) (v : Nat) : (Nat → Bool) × List (List Nat) :=
  if st.1 v = true then (fun w => st.1 w && !decide (w ∈ compo N a st.1 v), st.2 ++ [compo N a st.1 v]) else st
noncomputable def pfold (N : Nat) (a : Nat → Nat → Bool) (o : Nat → Bool) (l : List Nat) : (Nat → Bool) × List (List Nat) := l.foldl (pstep N a) (o, [])
noncomputable def pcs (N : Nat) (a : Nat → Nat → Bool) (o : Nat → Bool) : List (List Nat) := (pfold N a o (List.range N)).2
theorem pfold_snoc (N : Nat) (a : Nat → Nat → Bool) (o : Nat → Bool) (j : Nat) : pfold N a o (List.range (j + 1)) = pstep N a (pfold N a o (List.range j)) j := by
  unfold pfold
  rw [List.range_succ, List.foldl_append]
  rfl
theorem pfold_len (N : Nat) (a : Nat → Nat → Bool) (o : Nat → Bool) : ∀ l : List Nat, (pfold N a o l).2.length ≤ l.length := by
  have key : ∀ (l : List Nat) (st : (Nat → Bool) × List (List Nat)), (l.foldl (pstep N a) st).2.length ≤ st.2.length + l.length := by
    intro l
    induction l with
    | nil => intro st; exact Nat.le_refl _
    | cons v l ih =>
      intro st
      have h := ih (pstep N a st v)
      have : (pstep N a st v).2.length ≤ st.2.length + 1 := by
        unfold pstep
        split
        · simp
        · omega
      rw [List.foldl_cons, List.length_cons]
      omega
  intro l
  have := key l (o, [])
  simpa [pfold] using this
theorem pfold_all {N : Nat} {a : Nat → Nat → Bool} {o : Nat → Bool} {Pr : List Nat → Prop} (h : ∀ o v, Pr (compo N a o v)) : ∀ (l : List Nat), ∀ c ∈ (pfold N a o l).2, Pr c := by
  have key : ∀ (l : List Nat) (st : (Nat → Bool) × List (List Nat)), (∀ c ∈ st.2, Pr c) → ∀ c ∈ (l.foldl (pstep N a) st).2, Pr c := by
    intro l
    induction l with
    | nil => intro st hs; exact hs
    | cons v l ih =>
      intro st hs
      refine ih _ ?_
      unfold pstep
      split
      · intro c hc
        rcases List.mem_append.mp hc with hc | hc
        · exact hs c hc
        · rw [List.mem_singleton.mp hc]
          exact h _ _
      · exact hs
  intro l
  exact key l _ (by simp)
theorem pcs_lt {N : Nat} {a : Nat → Nat → Bool} {o : Nat → Bool} {c : List Nat} (h : c ∈ pcs N a o) : ∀ x ∈ c, x < N :=
  pfold_all (Pr := fun c => ∀ x ∈ c, x < N) (fun o v x hx => List.mem_range.mp (List.mem_filter.mp hx).1) _ c h
theorem pcs_len {N : Nat} {a : Nat → Nat → Bool} {o : Nat → Bool} {c : List Nat} (h : c ∈ pcs N a o) : c.length ≤ N :=
  pfold_all (Pr := fun c => c.length ≤ N) (fun o v => compo_len) _ c h
/-! ### while -/
section
variable {P : RS → Prop} {C : Store}
theorem w_while {n : Nat} {t : MT} {b : MS} {fl : Nat} {sl : List (Option D)} (I : Nat → List (Option D) → Store → Prop) (i0 : I 0 sl C)
    (st : ∀ j sl C, I j sl C → j < n ∧ wR (t ⟨fl, sl⟩ C) (fun x C1 => wI x (wS (b ⟨fl, sl⟩ C1) (lpP I (j + 1) P)) (P (.nx sl C1))) (fun e C1 => P (.xc e sl C1))) : wS (sWhile n t b ⟨fl, sl⟩ C) P := by
  have key : ∀ r j sl C, r + j = n → I j sl C → wS (whN t b fl r sl C) P := by
    intro r
    induction r with
    | zero =>
      intro j sl C h i
      have := (st j sl C i).1
      omega
    | succ r ih =>
      intro j sl C h i
      have hh := (st j sl C i).2
      unfold whN
      cases et : t ⟨fl, sl⟩ C with
      | stuck => rw [et] at hh; exact hh.h.elim
      | exc e C1 => rw [et] at hh; exact ⟨hh.h⟩
      | ok x C1 =>
        rw [et] at hh
        have hh := hh.h
        cases x with
        | false => exact ⟨hh.h⟩
        | true =>
          have h2 := hh.h
          rw [if_pos rfl] at h2
          have h2 := h2.h
          unfold lpP at h2
          simp only
          cases e : b ⟨fl, sl⟩ C1 with
          | nx sl2 C2 => rw [e] at h2; exact ih (j + 1) sl2 C2 (by omega) h2
          | ct sl2 C2 => rw [e] at h2; exact ih (j + 1) sl2 C2 (by omega) h2
          | bk sl2 C2 => rw [e] at h2; exact ⟨h2⟩
          | rt d C2 => rw [e] at h2; exact ⟨h2⟩
          | xc x sl2 C2 => rw [e] at h2; exact ⟨h2⟩
          | stuck => rw [e] at h2; exact h2.elim
  exact key n 0 sl C (by omega) i0
end
end CL
set_option maxHeartbeats 4000000
namespace CL
open PySem L2 CT
/-! SI: ints sorted. -/
def sI (ns : List Int) : List Int := ns.mergeSort fun a b => decide (a ≤ b)
theorem sI_mem {ns : List Int} {x : Int} : x ∈ sI ns ↔ x ∈ ns := List.mem_mergeSort
theorem sI_le (ns : List Int) : (sI ns).Pairwise (· ≤ ·) := (List.pairwise_mergeSort (le := fun a b : Int => decide (a ≤ b)) (fun a b c h1 h2 => by simp only [decide_eq_true_eq] at *; omega) (fun a b => by simp only [Bool.or_eq_true, decide_eq_true_eq]; omega) ns).imp fun h => of_decide_eq_true h
theorem lt_of_le_nd : ∀ {l : List Int}, l.Pairwise (· ≤ ·) → l.Nodup → l.Pairwise (· < ·)
  | [], _, _ => .nil
  | x :: l, h, d => by
    obtain ⟨h1, h2⟩ := List.pairwise_cons.mp h
    obtain ⟨d1, d2⟩ := List.nodup_cons.mp d
    refine List.pairwise_cons.mpr ⟨fun y hy => ?_, lt_of_le_nd h2 d2⟩
    have a := h1 y hy
    have b : x ≠ y := fun z => d1 (z ▸ hy)
    omega
theorem sI_up {ns : List Int} (h : ns.Nodup) : (sI ns).Pairwise (· < ·) := lt_of_le_nd (sI_le ns) ((List.mergeSort_perm ns _).nodup_iff.mpr h)
theorem sI_of {ns l : List Int} (h : ns.Nodup) (hl : l.Pairwise (· < ·)) (hm : ∀ x, x ∈ ns ↔ x ∈ l) : sI ns = l := up_one (sI_up h) hl fun x => by rw [sI_mem, hm x]
theorem le_enc (C : Store) (p q : Int) : PySem.W.dataLe false (encD C) (.int p) (.int q) = decide (p ≤ q) := congrFun (congrFun (PySem.W.dataLe_int fun b : Int => b) p) q
theorem sort_ints (l : List Int) (C : Store) : (l.map D.int).mergeSort (PySem.W.dataLe false (encD C)) = (sI l).map D.int :=
  (List.map_mergeSort (r := fun a b => decide (a ≤ b)) (s := PySem.W.dataLe false (encD C)) (f := D.int) (l := l) (fun a _ b _ => (le_enc C a b).symm)).symm
theorem ok_ints (l : List Int) (C : Store) : (((l.map D.int).all fun d => (toP C d).isSome && decide ((encD C d).depth ≤ 60)) && srtb ((l.map D.int).map (encD C))) = true := by
  have e : ∀ p ∈ (l.map D.int).map (encD C), ∃ a : Int, p = .int a := fun p hp => by
    obtain ⟨k, hk, rfl⟩ := List.mem_map.mp hp
    obtain ⟨q, _, rfl⟩ := List.mem_map.mp hk
    exact ⟨q, rfl⟩
  simp only [Bool.and_eq_true, srtb, Bool.or_eq_true, List.all_eq_true]
  refine ⟨fun d hd => ?_, fun x hx y hy => ?_, .inr fun x hx => ?_⟩
  · obtain ⟨q, _, rfl⟩ := List.mem_map.mp hd
    exact ⟨rfl, decide_eq_true (show (0 : Nat) ≤ 60 by decide)⟩
  · obtain ⟨a, rfl⟩ := e x hx
    obtain ⟨b, rfl⟩ := e y hy
    rfl
  · obtain ⟨a, rfl⟩ := e x hx
    rfl
theorem sortQ_i {own : Bool} {d : D} {ns : List Int} {C : Store} (h : vL d C = some (ns.map .int)) : oSortQ own [d] C = some (mkL own ((sI ns).map .int) C) := by
  have e := ok_ints ns C
  simp only [oSortQ, oSortL, h, e, if_true, sort_ints]
end CL
set_option maxHeartbeats 4000000
namespace CL
open PySem L2 CT
local macro_rules | `(tactic| walk_at "w") => `(tactic| first | ((with_reducible apply gR); first | with_reducible refine w_var rfl ?_ | with_reducible apply w_cons | with_reducible apply w_c | with_reducible apply w_nil | with_reducible apply w_op | with_reducible apply w_ap | with_reducible apply w_call | with_reducible apply w_tst | with_reducible apply w_un | with_reducible apply w_tand | with_reducible apply w_tor | with_reducible apply w_tnot | with_reducible apply w_yes | with_reducible apply w_and | with_reducible apply w_or | with_reducible apply w_not | with_reducible apply w_if | with_reducible apply w_chain | with_reducible apply w_isi | with_reducible apply w_isi2 | with_reducible apply w_prop | with_reducible apply w_meth | with_reducible apply w_dget | with_reducible apply w_dnewF | with_reducible apply w_dnewT | with_reducible apply w_part | with_reducible apply w_noPart | with_reducible apply w_slLF | with_reducible apply w_slA | with_reducible apply w_ok | with_reducible apply w_ofO | with_reducible apply w_lcI | with_reducible apply w_seqI | with_reducible apply w_rng1 | with_reducible apply w_rng2 | with_reducible apply w_enum) | ((with_reducible apply gO); first | with_reducible apply wo_add | with_reducible apply wo_sub | with_reducible apply wo_lt | with_reducible apply wo_gt | with_reducible apply wo_eq | with_reducible apply wo_ne | with_reducible apply wo_le | with_reducible apply wo_ge | with_reducible apply wo_neg | with_reducible apply wo_eqS | with_reducible apply wo_neS | with_reducible apply wo_min | with_reducible apply wo_max | with_reducible apply wo_int | with_reducible apply wo_abs | with_reducible apply wo_tupL | with_reducible apply wo_tupT | with_reducible refine wo_tup (by with_unfolding_all rfl) ?_ | with_reducible refine wo_lstF (by with_unfolding_all rfl) ?_ | with_reducible refine wo_lstT (by with_unfolding_all rfl) ?_ | with_reducible apply wo_fld0 | with_reducible apply wo_fld1 | with_reducible apply wo_fld2 | with_reducible apply wo_fldW0 | with_reducible apply wo_fldW1 | with_reducible apply wo_fldW2) | ((with_reducible apply gS); first | with_reducible apply w_seq | with_reducible apply w_asg | with_reducible apply w_sif | with_reducible apply w_next | with_reducible apply w_ret | with_reducible apply w_par | with_reducible apply w_drop | with_reducible apply w_asgT | with_reducible apply w_retN | with_reducible apply w_brk | with_reducible apply w_cnt | with_reducible apply w_raise | with_reducible apply w_forI) | ((with_reducible apply gI); first | with_reducible apply wI_t | with_reducible apply wI_f | with_reducible apply wI_not) | with_reducible apply w_bl | with_reducible apply thn_nx | with_reducible apply w_int | with_reducible apply w_obj | with_reducible apply thn_rt | with_reducible apply lp_nx | with_reducible apply fnl_int | with_reducible apply fnl_bl | with_reducible apply fnl_non | with_reducible apply fnl_str | with_reducible apply fnl_nx | with_reducible apply thn_bk | with_reducible apply thn_ct | with_reducible apply thn_xc | with_reducible apply lp_rt | with_reducible apply lp_bk | with_reducible apply lp_xc | with_reducible apply w_itL | with_reducible apply w_itT | with_reducible apply w_itK)
local macro_rules | `(tactic| walk_at "p") => `(tactic| repeat walk_at "w")
/-! SETB: own lists of earlier frames written. -/
section
variable {C : Store} {P : RS → Prop}
theorem wr_b {fl i : Nat} {c : Cell} {C : Store} (h : cbC 0 c = true) : wr fl i c C = some (C.set i (some c)) := by
  unfold wr
  rw [if_neg (fun z => by rw [h] at z; exact absurd z.2 (by decide))]
theorem setAtB {me mi : ME} {fl i a : Nat} {sl : List (Option D)} {io : Nat} {ds : List D} {v : D} (h0 : sl[io]? = some (some (.cell i))) (hC : C[i]? = some (some (.lst ds))) (ha : a < ds.length) (hb : cbL 0 (ds.set a v) = true) (hv : wR (me ⟨fl, sl⟩ C) (fun d C' => d = v ∧ C' = C) noX) (hx : wR (mi ⟨fl, sl⟩ C) (fun d C' => d = .int a ∧ C' = C) noX) (q : P (.nx sl (C.set i (some (.lst (ds.set a v)))))) : wS (sSetL me (mVar io) mi ⟨fl, sl⟩ C) P := by
  refine w_setL (w_conv hv ?_)
  rintro d C' ⟨rfl, rfl⟩
  refine w_var h0 (w_conv hx ?_)
  rintro d2 C' ⟨rfl, rfl⟩
  have e : ixN ds.length (a : Int) = some a := by
    have := ixN_at (n := ds.length) (i := (a : Int)) (by omega) (by omega)
    rw [this]
    congr 1
  exact ⟨(a : Int), i, ds, a, _, rfl, by simp only [cL, hC], e, wr_b hb, q⟩
end
end CL
set_option maxHeartbeats 4000000
namespace CL
open PySem L2 CT
local macro_rules | `(tactic| walk_at "w") => `(tactic| first | ((with_reducible apply gR); first | with_reducible refine w_var rfl ?_ | with_reducible apply w_cons | with_reducible apply w_c | with_reducible apply w_nil | with_reducible apply w_op | with_reducible apply w_ap | with_reducible apply w_call | with_reducible apply w_tst | with_reducible apply w_un | with_reducible apply w_tand | with_reducible apply w_tor | with_reducible apply w_tnot | with_reducible apply w_yes | with_reducible apply w_and | with_reducible apply w_or | with_reducible apply w_not | with_reducible apply w_if | with_reducible apply w_chain | with_reducible apply w_isi | with_reducible apply w_isi2 | with_reducible apply w_prop | with_reducible apply w_meth | with_reducible apply w_dget | with_reducible apply w_dnewF | with_reducible apply w_dnewT | with_reducible apply w_part | with_reducible apply w_noPart | with_reducible apply w_slLF | with_reducible apply w_slA | with_reducible apply w_ok | with_reducible apply w_ofO | with_reducible apply w_lcI | with_reducible apply w_seqI | with_reducible apply w_rng1 | with_reducible apply w_rng2 | with_reducible apply w_enum) | ((with_reducible apply gO); first | with_reducible apply wo_add | with_reducible apply wo_sub | with_reducible apply wo_lt | with_reducible apply wo_gt | with_reducible apply wo_eq | with_reducible apply wo_ne | with_reducible apply wo_le | with_reducible apply wo_ge | with_reducible apply wo_neg | with_reducible apply wo_eqS | with_reducible apply wo_neS | with_reducible apply wo_min | with_reducible apply wo_max | with_reducible apply wo_int | with_reducible apply wo_abs | with_reducible apply wo_tupL | with_reducible apply wo_tupT | with_reducible refine wo_tup (by with_unfolding_all rfl) ?_ | with_reducible refine wo_lstF (by with_unfolding_all rfl) ?_ | with_reducible refine wo_lstT (by with_unfolding_all rfl) ?_ | with_reducible apply wo_fld0 | with_reducible apply wo_fld1 | with_reducible apply wo_fld2 | with_reducible apply wo_fldW0 | with_reducible apply wo_fldW1 | with_reducible apply wo_fldW2) | ((with_reducible apply gS); first | with_reducible apply w_seq | with_reducible apply w_asg | with_reducible apply w_sif | with_reducible apply w_next | with_reducible apply w_ret | with_reducible apply w_par | with_reducible apply w_drop | with_reducible apply w_asgT | with_reducible apply w_retN | with_reducible apply w_brk | with_reducible apply w_cnt | with_reducible apply w_raise | with_reducible apply w_forI) | ((with_reducible apply gI); first | with_reducible apply wI_t | with_reducible apply wI_f | with_reducible apply wI_not) | with_reducible apply w_bl | with_reducible apply thn_nx | with_reducible apply w_int | with_reducible apply w_obj | with_reducible apply thn_rt | with_reducible apply lp_nx | with_reducible apply fnl_int | with_reducible apply fnl_bl | with_reducible apply fnl_non | with_reducible apply fnl_str | with_reducible apply fnl_nx | with_reducible apply thn_bk | with_reducible apply thn_ct | with_reducible apply thn_xc | with_reducible apply lp_rt | with_reducible apply lp_bk | with_reducible apply lp_xc | with_reducible apply w_itL | with_reducible apply w_itT | with_reducible apply w_itK)
local macro_rules | `(tactic| walk_at "p") => `(tactic| repeat walk_at "w")
local macro_rules | `(tactic| walk_at "w") => `(tactic| first | ((with_reducible apply gR); first | with_reducible refine w_var rfl ?_ | with_reducible apply w_cons | with_reducible apply w_c | with_reducible apply w_nil | with_reducible apply w_op | with_reducible apply w_ap | with_reducible apply w_call | with_reducible apply w_tst | with_reducible apply w_un | with_reducible apply w_tand | with_reducible apply w_tor | with_reducible apply w_tnot | with_reducible apply w_yes | with_reducible apply w_and | with_reducible apply w_or | with_reducible apply w_not | with_reducible apply w_if | with_reducible apply w_chain | with_reducible apply w_isi | with_reducible apply w_isi2 | with_reducible apply w_prop | with_reducible apply w_meth | with_reducible apply w_dget | with_reducible apply w_dnewF | with_reducible apply w_dnewT | with_reducible apply w_part | with_reducible apply w_noPart | with_reducible apply w_slLF | with_reducible apply w_slA | with_reducible apply w_ok | with_reducible apply w_ofO | with_reducible apply w_lcI | with_reducible apply w_seqI | with_reducible apply w_rng1 | with_reducible apply w_rng2 | with_reducible apply w_enum) | ((with_reducible apply gO); first | with_reducible apply wo_add | with_reducible apply wo_sub | with_reducible apply wo_lt | with_reducible apply wo_gt | with_reducible apply wo_eq | with_reducible apply wo_ne | with_reducible apply wo_le | with_reducible apply wo_ge | with_reducible apply wo_neg | with_reducible apply wo_eqS | with_reducible apply wo_neS | with_reducible apply wo_min | with_reducible apply wo_max | with_reducible apply wo_int | with_reducible apply wo_abs | with_reducible apply wo_tupL | with_reducible apply wo_tupT | with_reducible refine wo_tup (by with_unfolding_all rfl) ?_ | with_reducible refine wo_lstF (by with_unfolding_all rfl) ?_ | with_reducible refine wo_lstT (by with_unfolding_all rfl) ?_ | with_reducible apply wo_fld0 | with_reducible apply wo_fld1 | with_reducible apply wo_fld2 | with_reducible apply wo_fldW0 | with_reducible apply wo_fldW1 | with_reducible apply wo_fldW2) | ((with_reducible apply gS); first | with_reducible apply w_seq | with_reducible apply w_asg | with_reducible apply w_sif | with_reducible apply w_next | with_reducible apply w_ret | with_reducible apply w_par | with_reducible apply w_drop | with_reducible apply w_asgT | with_reducible apply w_retN | with_reducible apply w_brk | with_reducible apply w_cnt | with_reducible apply w_raise | with_reducible apply w_forI) | ((with_reducible apply gI); first | with_reducible apply wI_t | with_reducible apply wI_f | with_reducible apply wI_not) | with_reducible apply w_bl | with_reducible apply thn_nx | with_reducible apply w_int | with_reducible apply w_obj | with_reducible apply thn_rt | with_reducible apply lp_nx | with_reducible apply fnl_int | with_reducible apply fnl_bl | with_reducible apply fnl_non | with_reducible apply fnl_str | with_reducible apply fnl_nx | with_reducible apply thn_bk | with_reducible apply thn_ct | with_reducible apply thn_xc | with_reducible apply lp_rt | with_reducible apply lp_bk | with_reducible apply lp_xc | with_reducible apply w_itL | with_reducible apply w_itT | with_reducible apply w_itK)
local macro_rules | `(tactic| walk_at "p") => `(tactic| repeat walk_at "w")
/-! PI2: what is reached from a place. -/
def nI (l : List Nat) : List D := l.map fun u : Nat => D.int u
def opD (N : Nat) (o : Nat → Bool) : List D := (List.range N).map fun w => D.bl (o w)
def adj (f : Int × Int → Int) (u v : Nat) : Bool := decide (0 < f (min (u : Int) (v : Int), max (u : Int) (v : Int)))
theorem nI_app (l m : List Nat) : nI (l ++ m) = nI l ++ nI m := List.map_append
theorem nI_len (l : List Nat) : (nI l).length = l.length := List.length_map ..
theorem nI_int (l : List Nat) : nI l = (l.map fun u : Nat => (u : Int)).map D.int := by rw [nI, List.map_map]; rfl
theorem cb_nI (n : Nat) (l : List Nat) : cbL n (nI l) = true := cbL_all fun d hd => by obtain ⟨x, _, rfl⟩ := List.mem_map.mp hd; rfl
theorem cb_op (n N : Nat) (o : Nat → Bool) : cbL n (opD N o) = true := cbL_all fun d hd => by obtain ⟨x, _, rfl⟩ := List.mem_map.mp hd; rfl
theorem op_get {N : Nat} {o : Nat → Bool} {w : Nat} (h : w < N) : (opD N o)[w]? = some (.bl (o w)) := by
  rw [opD, List.getElem?_map, List.getElem?_range h]
  rfl
theorem op_set {N : Nat} {o : Nat → Bool} {w : Nat} : (opD N o).set w (.bl false) = opD N (fun v => o v && !decide (v = w)) := by
  refine List.ext_getElem? fun k => ?_
  by_cases hk : k < N
  · by_cases e : w = k
    · subst e
      rw [List.getElem?_set_self (by simp [opD]; exact hk), op_get hk]
      simp
    · rw [List.getElem?_set_ne e, op_get hk, op_get hk]
      have : ¬ (k = w) := fun z => e z.symm
      simp [this]
  · rw [List.getElem?_eq_none (by simp [opD]; omega), List.getElem?_eq_none (by simp [opD]; omega)]
theorem op_cong {N : Nat} {o o' : Nat → Bool} (h : ∀ w, o w = o' w) : opD N o = opD N o' := by
  rw [show o = o' from funext h]
/-- ints of distinct places, sorted -/
theorem sI_places {P l : List Nat} (nd : P.Nodup) (up : l.Pairwise (· < ·)) (h : ∀ w, w ∈ P ↔ w ∈ l) : sI (P.map fun u : Nat => (u : Int)) = l.map fun u : Nat => (u : Int) := by
  refine sI_of ?_ ?_ fun x => ?_
  · unfold List.Nodup
    rw [List.pairwise_map]
    exact nd.imp fun {a b} e z => e (by omega)
  · rw [List.pairwise_map]
    exact up.imp fun {a b} e => by omega
  · rw [List.mem_map, List.mem_map]
    constructor
    · rintro ⟨u, hu, rfl⟩
      exact ⟨u, (h u).mp hu, rfl⟩
    · rintro ⟨u, hu, rfl⟩
      exact ⟨u, (h u).mpr hu, rfl⟩
section
variable {C : Store} {Q : D → Store → Prop} {X : Exc → Store → Prop} {N i s : Nat} {f : Int × Int → Int} {o : Nat → Bool} {fl : Nat} {P : RS → Prop}
/-- a place is closed -/
theorem close_w {me mi : ME} {sl : List (Option D)} {io w : Nat} (h0 : sl[io]? = some (some (.cell i))) (hC : C[i]? = some (some (.lst (opD N o)))) (hw : w < N) (hv : wR (me ⟨fl, sl⟩ C) (fun d C' => d = .bl false ∧ C' = C) noX) (hx : wR (mi ⟨fl, sl⟩ C) (fun d C' => d = .int w ∧ C' = C) noX) (q : P (.nx sl (C.set i (some (.lst (opD N fun v => o v && !decide (v = w))))))) : wS (sSetL me (mVar io) mi ⟨fl, sl⟩ C) P := by
  refine setAtB (ds := opD N o) (a := w) (v := .bl false) h0 hC (by simp [opD]; exact hw) ?_ hv hx ?_
  · rw [op_set]
    exact cb_op _ _ _
  · rw [op_set]
    exact q
def rS (C : Store) (i N : Nat) (o : Nat → Bool) (P : List Nat) : Store := C.set i (some (.lst (opD N fun v => o v && !decide (v ∈ P)))) ++ [some (.lst (nI P))]
theorem near_w {x : Nat} {S : Store} {oo : Nat → Bool} {fl0 : Nat} {sl : List (Option D)} (hN : N ≤ 60) (hi : i < S.length) (hC : S[i]? = some (some (.lst (opD N oo)))) (s0 : sl[0]? = some (some (webD N f))) (s2 : sl[2]? = some (some (.cell i))) (s5 : sl[5]? = some (some (rowD N f x))) (hl : 7 < sl.length)
    (q : Q (.lst (nI ((List.range N).filter fun v => oo v && adj f x v))) S) :
    wR (mLc false (mRng1 (mUn (oFld 0 0) (mVar 0))) (Tgt.nm 7).M (tAndM (mTst (mOp oIx (mVar 2) (mVar 7))) (mTst (mOp oGt (mOp oIx (mVar 5) (mVar 7)) (mC (.int 0))))) (mVar 7) [7] ⟨fl0, sl⟩ S) Q X := by
  refine w_lcI (w_rng1 (w_un (w_var s0 (wo_fld (d := .int N) rfl ⟨(N : Int), rfl, inR_of (by omega) (by omega), ?_⟩))))
  refine lc_p (pure_R 0 _) (fun d => match d with | .int v => oo v.toNat && adj f x v.toNat | _ => false) id (by simp [rngI]; omega) (fun y hy => ?_) (fun y hy _ => ?_) ?_
  · obtain ⟨v, hv, rfl⟩ := mem_rng hy
    have hv : v < N := by simpa using hv
    have g : ∀ k, k ≠ 7 → ((sl.set 7 none).set 7 (some (.int (v : Int))))[k]? = sl[k]? := fun k hk => by rw [List.getElem?_set_ne (by omega), List.getElem?_set_ne (by omega)]
    have g7 : ((sl.set 7 none).set 7 (some (.int (v : Int))))[7]? = some (some (.int (v : Int))) := List.getElem?_set_self (by simpa using hl)
    have e0 : (0 : Int) + (v : Int) = (v : Int) := by omega
    rw [e0]
    refine ⟨_, rfl, fun acc => ⟨?_, fun _ => w_var g7 ⟨rfl, rfl⟩⟩⟩
    have at_ : (accS S acc)[i]? = some (some (.lst (opD N oo))) := by rw [accS, List.getElem?_append_left hi]; exact hC
    refine w_tand (w_tst (w_op (w_var (by rw [show wipeD sl [7] = sl.set 7 none from rfl, g 2 (by decide)]; exact s2) (w_var g7 ?_))))
    refine wo_ix (x := .cell i) (xs := opD N oo) (k := v) (by simp only [vS, at_]) rfl (op_get hv) (w_bl ?_)
    refine wI_b (fun hb => ?_) fun hb => ⟨by simp [hb], rfl⟩
    refine w_tst (w_op (w_op (w_var (by rw [show wipeD sl [7] = sl.set 7 none from rfl, g 5 (by decide)]; exact s5) (w_var g7 (wo_of (rix hv _) (w_c (wo_gt (w_bl ⟨?_, rfl⟩))))))))
    simp [hb, adj]
  · obtain ⟨v, hv, rfl⟩ := mem_rng hy
    rfl
  · have e : ((rngI 0 (N : Int).toNat).filter fun d => match d with | .int v => oo v.toNat && adj f x v.toNat | _ => false).map id = nI ((List.range N).filter fun v => oo v && adj f x v) := by
      rw [List.map_id, rngI, nI, show (N : Int).toNat = N by omega, List.filter_map]
      have e2 : (List.range N).filter ((fun d => match d with | D.int v => oo v.toNat && adj f x v.toNat | _ => false) ∘ fun k : Nat => D.int (0 + (k : Int))) = (List.range N).filter fun v => oo v && adj f x v := by
        refine List.filter_congr fun v _ => ?_
        show (oo ((0 : Int) + v).toNat && adj f x ((0 : Int) + v).toNat) = _
        rw [show ((0 : Int) + (v : Int)).toNat = v by omega]
      rw [e2]
      refine List.map_congr_left fun v _ => ?_
      show D.int (0 + (v : Int)) = _
      rw [show (0 : Int) + (v : Int) = v by omega]
    rw [e]
    exact q
end
end CL
set_option maxHeartbeats 4000000
/-! E7: own operators with an int, list(range), extend, two writes, told backwards. -/
namespace CT
open PySem L2
section
variable {Q : D → Store → Prop} {E : Exc → Store → Prop} {F : Fr} {C : Store}
theorem w_revLF {m : ME} (h : wR (m F C) (fun d C1 => ∃ xs, vL d C1 = some xs ∧ Q (.lst xs.reverse) C1) E) : wR (mRevL false m F C) Q E :=
  w_bnd (w_mono h (fun x C1 g => by
    obtain ⟨xs, e, q⟩ := g
    simp only [e]
    exact w_ok q) fun _ _ z => z)
theorem w_extend {mo me : ME} (h : wR (mo F C) (fun o C1 => (vL o C1).isSome = true ∧ wR (me F C1) (fun v C2 => ∃ i ds es, cL o C2 = some (i, ds) ∧ vL v C2 = some es ∧ F.fl ≤ i ∧ ds.length + es.length ≤ 16777216 ∧ Q .non (C2.set i (some (.lst (ds ++ es))))) E) E) : wR (mExtend mo me F C) Q E := by
  unfold mExtend
  refine w_bnd (w_mono h (fun o C1 g => ?_) fun _ _ z => z)
  rw [if_pos g.1]
  refine w_bnd (w_mono g.2 (fun v C2 g => ?_) fun _ _ z => z)
  obtain ⟨i, ds, es, e, e2, hi, hz, q⟩ := g
  have hs : szN (ds.length + es.length) = true := by simp only [szN, decide_eq_true_eq]; omega
  simp only [e, e2, hs, if_true, wr_hi hi]
  exact w_ok q
end
/-! ### a comprehension whose list is an own one -/
/-! ### a def that hands back an own list -/
section
variable {Q : D → Store → Prop} {E : Exc → Store → Prop} {C : Store} {n : Nat}
def fnlO (n : Nat) (Q : D → Store → Prop) (E : Exc → Store → Prop) : RS → Prop := fun r => wR (finOS n r) Q E
theorem w_finO {r : RS} (h : wS r (fnlO n Q E)) : wR (finOS n r) Q E := h.h
theorem fnlO_own {i : Nat} {xs : List D} (hi : n ≤ i) (hC : C[i]? = some (some (.lst xs))) (hc : cbL n xs = true) (h : Q (.cell n) (C.take n ++ [some (.lst xs)])) : fnlO n Q E (.rt (.cell i) C) := by
  show wR (finO n (.cell i) C) Q E
  unfold finO
  simp only [hi, hC, hc, if_true]
  exact w_ok h
end
end CT
set_option maxHeartbeats 4000000
namespace CL
open PySem L2 CT
local macro_rules | `(tactic| walk_at "w") => `(tactic| first | ((with_reducible apply gR); first | with_reducible refine w_var rfl ?_ | with_reducible apply w_cons | with_reducible apply w_c | with_reducible apply w_nil | with_reducible apply w_op | with_reducible apply w_ap | with_reducible apply w_call | with_reducible apply w_tst | with_reducible apply w_un | with_reducible apply w_tand | with_reducible apply w_tor | with_reducible apply w_tnot | with_reducible apply w_yes | with_reducible apply w_and | with_reducible apply w_or | with_reducible apply w_not | with_reducible apply w_if | with_reducible apply w_chain | with_reducible apply w_isi | with_reducible apply w_isi2 | with_reducible apply w_prop | with_reducible apply w_meth | with_reducible apply w_dget | with_reducible apply w_dnewF | with_reducible apply w_dnewT | with_reducible apply w_part | with_reducible apply w_noPart | with_reducible apply w_slLF | with_reducible apply w_slA | with_reducible apply w_ok | with_reducible apply w_ofO | with_reducible apply w_lcI | with_reducible apply w_seqI | with_reducible apply w_rng1 | with_reducible apply w_rng2 | with_reducible apply w_enum) | ((with_reducible apply gO); first | with_reducible apply wo_add | with_reducible apply wo_sub | with_reducible apply wo_lt | with_reducible apply wo_gt | with_reducible apply wo_eq | with_reducible apply wo_ne | with_reducible apply wo_le | with_reducible apply wo_ge | with_reducible apply wo_neg | with_reducible apply wo_eqS | with_reducible apply wo_neS | with_reducible apply wo_min | with_reducible apply wo_max | with_reducible apply wo_int | with_reducible apply wo_abs | with_reducible apply wo_tupL | with_reducible apply wo_tupT | with_reducible refine wo_tup (by with_unfolding_all rfl) ?_ | with_reducible refine wo_lstF (by with_unfolding_all rfl) ?_ | with_reducible refine wo_lstT (by with_unfolding_all rfl) ?_ | with_reducible apply wo_fld0 | with_reducible apply wo_fld1 | with_reducible apply wo_fld2 | with_reducible apply wo_fldW0 | with_reducible apply wo_fldW1 | with_reducible apply wo_fldW2) | ((with_reducible apply gS); first | with_reducible apply w_seq | with_reducible apply w_asg | with_reducible apply w_sif | with_reducible apply w_next | with_reducible apply w_ret | with_reducible apply w_par | with_reducible apply w_drop | with_reducible apply w_asgT | with_reducible apply w_retN | with_reducible apply w_brk | with_reducible apply w_cnt | with_reducible apply w_raise | with_reducible apply w_forI) | ((with_reducible apply gI); first | with_reducible apply wI_t | with_reducible apply wI_f | with_reducible apply wI_not) | with_reducible apply w_bl | with_reducible apply thn_nx | with_reducible apply w_int | with_reducible apply w_obj | with_reducible apply thn_rt | with_reducible apply lp_nx | with_reducible apply fnl_int | with_reducible apply fnl_bl | with_reducible apply fnl_non | with_reducible apply fnl_str | with_reducible apply fnl_nx | with_reducible apply thn_bk | with_reducible apply thn_ct | with_reducible apply thn_xc | with_reducible apply lp_rt | with_reducible apply lp_bk | with_reducible apply lp_xc | with_reducible apply w_itL | with_reducible apply w_itT | with_reducible apply w_itK)
local macro_rules | `(tactic| walk_at "p") => `(tactic| repeat walk_at "w")
/-! PI3: reached. -/
section
variable {C : Store} {Q : D → Store → Prop} {X : Exc → Store → Prop} {N i s : Nat} {f : Int × Int → Int} {o : Nat → Bool} {fl : Nat}
/-- some places are closed, one by one -/
theorem closes_w {b : MS} {l : List Nat} {oo : Nat → Bool} {sl0 sl1 sl3 sl4 sl5 sl6 sl7 : Option D} {S : Store} {P : RS → Prop} (hb : b = sSetL (mC (.bl false)) (mVar 2) (mVar 7)) (hl : ∀ v ∈ l, v < N) (hC : S[i]? = some (some (.lst (opD N oo))))
    (q : ∀ t7, P (.nx [sl0, sl1, some (.cell i), sl3, sl4, sl5, sl6, t7] (S.set i (some (.lst (opD N fun v => oo v && !decide (v ∈ l))))))) :
    wS (loopN (itC (nI l)) (Tgt.nm 7).M b fl (itC (nI l)).n 0 [sl0, sl1, some (.cell i), sl3, sl4, sl5, sl6, sl7] S) P := by
  subst hb
  have hi : i < S.length := (List.getElem?_eq_some_iff.mp hC).1
  refine loop_p (pure_C (nI l)) (fun j sl S' => S' = S.set i (some (.lst (opD N fun v => oo v && !decide (v ∈ l.take j)))) ∧ ∃ t7, sl = [sl0, sl1, some (.cell i), sl3, sl4, sl5, sl6, t7]) ⟨?_, sl7, rfl⟩ ?_ ?_
  · have e : opD N (fun v => oo v && !decide (v ∈ l.take 0)) = opD N oo := op_cong fun w => by simp
    rw [e]
    refine (List.ext_getElem? fun k => ?_).symm
    by_cases hk : i = k
    · subst hk
      rw [List.getElem?_set_self hi, hC]
    · rw [List.getElem?_set_ne hk]
  · rintro j y sl S' hy ⟨rfl, t7, rfl⟩
    rw [nI, List.getElem?_map] at hy
    obtain ⟨v, hv, rfl⟩ := Option.map_eq_some_iff.mp hy
    refine ⟨_, rfl, ?_⟩
    refine close_w (N := N) (i := i) (w := v) (o := fun v => oo v && !decide (v ∈ l.take j)) rfl (List.getElem?_set_self hi) (hl v (List.mem_of_getElem? hv)) (w_c ⟨rfl, rfl⟩) (w_var rfl ⟨rfl, rfl⟩) ?_
    refine lp_nx ⟨?_, _, rfl⟩
    rw [List.set_set]
    have tk : l.take (j + 1) = l.take j ++ [v] := by
      have hj : j < l.length := (List.getElem?_eq_some_iff.mp hv).1
      rw [← List.take_append_getElem hj, (List.getElem?_eq_some_iff.mp hv).2]
    rw [tk, op_cong fun w => ?_]
    by_cases h1 : w ∈ l.take j <;> by_cases h2 : w = v <;> simp [h1, h2]
  · rintro sl S' ⟨rfl, t7, rfl⟩
    rw [show (nI l).length = l.length from nI_len l, List.take_length]
    exact q t7
theorem reached_w (hN : N ≤ 60) (hs : s < N) (ho : o s = true) (hC : C[i]? = some (some (.lst (opD N o))))
    (q : Q (.tup (nI (compo N (adj f) o s))) (C.set i (some (.lst (opD N fun w => o w && !decide (w ∈ compo N (adj f) o s)))))) : wR (m_reached [webD N f, .int s, .cell i] C) Q X := by
  have hi : i < C.length := (List.getElem?_eq_some_iff.mp hC).1
  rw [e_reached]
  apply w_fin
  unfold b_reached b_reached_0
  walk_at "p"
  refine ⟨_, rfl, ?_⟩
  walk_at "p"
  unfold b_reached_1
  refine close_w (N := N) (i := i) (w := s) (o := o) rfl (by rw [List.getElem?_append_left hi]; exact hC) hs (w_c ⟨rfl, rfl⟩) (w_var rfl ⟨rfl, rfl⟩) ?_
  have e1 : (C ++ [some (Cell.lst [D.int (s : Int)])]).set i (some (.lst (opD N fun v => o v && !decide (v = s)))) = rS C i N o [s] := by
    unfold rS
    rw [List.set_append_left _ _ hi]
    rw [op_cong (o := fun v => o v && !decide (v = s)) (o' := fun v => o v && !decide (v ∈ [s])) fun w => by simp]
    rfl
  rw [e1]
  refine thn_nx (w_seq ?_)
  unfold b_reached_2
  refine w_while (fun j sl S => ∃ (Pl : List Nat) (t5 t6 t7 : Option D), sl = [some (webD N f), some (.int s), some (.cell i), some (.cell C.length), some (.int j), t5, t6, t7] ∧ S = rS C i N o Pl ∧ s ∈ Pl ∧ Pl.Nodup ∧ (∀ x ∈ Pl, Rch N (adj f) o s x) ∧ (∀ x ∈ Pl.take j, ∀ v, v < N → adj f x v = true → o v = true → v ∈ Pl) ∧ j ≤ Pl.length) ⟨[s], none, none, none, rfl, rfl, by simp, by simp, fun x hx => by rw [List.mem_singleton.mp hx]; exact .base, by simp, by simp⟩ ?_
  rintro j sl S ⟨Pl, t5, t6, t7, rfl, rfl, h0, nd, hr, hc, hj⟩
  have pl : ∀ x ∈ Pl, x < N := fun x hx => rch_lt hs (hr x hx)
  have len := nd_len nd pl
  refine ⟨by omega, ?_⟩
  have at_p : (rS C i N o Pl)[C.length]? = some (some (.lst (nI Pl))) := by
    unfold rS
    rw [List.getElem?_append_right (by simp)]
    simp
  have at_i : (rS C i N o Pl)[i]? = some (some (.lst (opD N fun v => o v && !decide (v ∈ Pl)))) := by
    unfold rS
    rw [List.getElem?_append_left (by simpa using hi)]
    exact List.getElem?_set_self hi
  walk_at "p"
  refine wo_len (x := .cell C.length) (xs := nI Pl) (by simp only [vS, at_p]) ?_
  walk_at "p"
  rw [nI_len]
  refine wI_d (fun hlt => ?_) fun hge => ?_
  · obtain ⟨x, hx⟩ : ∃ x, Pl[j]? = some x := ⟨_, List.getElem?_eq_getElem (by omega)⟩
    have hxP := List.mem_of_getElem? hx
    have tk : Pl.take (j + 1) = Pl.take j ++ [x] := by
      have hj : j < Pl.length := (List.getElem?_eq_some_iff.mp hx).1
      rw [← List.take_append_getElem hj, (List.getElem?_eq_some_iff.mp hx).2]
    walk_at "p"
    unfold b_reached_2b_0
    walk_at "p"
    refine wo_ix (x := .cell C.length) (xs := nI Pl) (k := j) (d := .int x) (by simp only [vS, at_p]) rfl (by rw [nI, List.getElem?_map, hx]; rfl) ?_
    refine wo_of (gix (pl x hxP) _) ?_
    walk_at "p"
    unfold b_reached_2b_1
    walk_at "w"
    refine near_w (f := f) (x := x) (N := N) (i := i) (oo := fun v => o v && !decide (v ∈ Pl)) hN (List.getElem?_eq_some_iff.mp at_i).1 at_i rfl rfl rfl (by simp) ?_
    generalize hn : (List.range N).filter (fun v => (o v && !decide (v ∈ Pl)) && adj f x v) = nr
    have nm : ∀ v, v ∈ nr ↔ v < N ∧ o v = true ∧ v ∉ Pl ∧ adj f x v = true := fun v => by
      rw [← hn, List.mem_filter, List.mem_range]
      simp only [Bool.and_eq_true, Bool.not_eq_true', decide_eq_false_iff_not]
      constructor
      · rintro ⟨a, ⟨b, c⟩, d⟩; exact ⟨a, b, c, d⟩
      · rintro ⟨a, b, c, d⟩; exact ⟨a, ⟨b, c⟩, d⟩
    have nnd : nr.Nodup := by
      rw [← hn]
      exact List.nodup_range.sublist List.filter_sublist
    walk_at "p"
    unfold b_reached_2b_2
    walk_at "p"
    refine closes_w (l := nr) (N := N) (oo := fun v => o v && !decide (v ∈ Pl)) rfl (fun v hv => ((nm v).mp hv).1) at_i fun t7 => ?_
    have e2 : (rS C i N o Pl).set i (some (.lst (opD N fun v => (o v && !decide (v ∈ Pl)) && !decide (v ∈ nr)))) = C.set i (some (.lst (opD N fun v => o v && !decide (v ∈ Pl ++ nr)))) ++ [some (.lst (nI Pl))] := by
      unfold rS
      rw [List.set_append_left _ _ (by simpa using hi), List.set_set]
      rw [op_cong (o := fun v => (o v && !decide (v ∈ Pl)) && !decide (v ∈ nr)) (o' := fun v => o v && !decide (v ∈ Pl ++ nr)) fun w => by
        by_cases h1 : w ∈ Pl <;> by_cases h2 : w ∈ nr <;> simp [h1, h2]]
    rw [e2]
    walk_at "p"
    unfold b_reached_2b_3
    have at_q : (C.set i (some (Cell.lst (opD N fun v => o v && !decide (v ∈ Pl ++ nr)))) ++ [some (Cell.lst (nI Pl))])[C.length]? = some (some (.lst (nI Pl))) := by
      rw [List.getElem?_append_right (by simp)]
      simp
    refine w_drop (w_extend ?_)
    walk_at "p"
    refine ⟨by simp only [vL, at_q]; rfl, ?_⟩
    walk_at "p"
    have nl := nd_len nnd fun v hv => ((nm v).mp hv).1
    refine ⟨C.length, nI Pl, nI nr, by simp only [cL, at_q], rfl, Nat.le_refl _, by rw [nI_len, nI_len]; omega, ?_⟩
    have e3 : (C.set i (some (Cell.lst (opD N fun v => o v && !decide (v ∈ Pl ++ nr)))) ++ [some (Cell.lst (nI Pl))]).set C.length (some (.lst (nI Pl ++ nI nr))) = rS C i N o (Pl ++ nr) := by
      unfold rS
      rw [List.set_append_right _ _ (by simp), nI_app]
      simp
    rw [e3]
    walk_at "p"
    unfold b_reached_2b_4
    refine w_aug rfl ?_
    walk_at "p"
    refine ⟨Pl ++ nr, _, _, _, rfl, rfl, List.mem_append_left _ h0, ?_, ?_, ?_, ?_⟩
    · exact List.nodup_append.mpr ⟨nd, nnd, fun a ha b hb e => ((nm b).mp hb).2.2.1 (e ▸ ha)⟩
    · intro y hy
      rcases List.mem_append.mp hy with hy | hy
      · exact hr y hy
      · obtain ⟨a1, a2, _, a4⟩ := (nm y).mp hy
        exact .step (hr x hxP) a1 a4 a2
    · intro y hy v hv hadj hov
      rw [List.take_append_of_le_length (by omega), tk] at hy
      rcases List.mem_append.mp hy with hy | hy
      · exact List.mem_append_left _ (hc y hy v hv hadj hov)
      · rw [List.mem_singleton.mp hy] at hadj
        by_cases hp : v ∈ Pl
        · exact List.mem_append_left _ hp
        · exact List.mem_append_right _ ((nm v).mpr ⟨hv, hov, hp, hadj⟩)
    · rw [List.length_append]
      omega
  · have ej : j = Pl.length := by omega
    subst ej
    rw [List.take_length] at hc
    have all := closed_all h0 hr hc
    have cm : ∀ w, w ∈ Pl ↔ w ∈ compo N (adj f) o s := fun w => by rw [compo_mem hs]; exact all w
    walk_at "p"
    unfold b_reached_3
    walk_at "p"
    refine wo_of (sortQ_i (own := false) (ns := Pl.map fun u : Nat => (u : Int)) (by simp only [vL, at_p, nI_int])) ?_
    walk_at "p"
    rw [sI_places nd compo_up cm, ← nI_int]
    refine fnl_p (cb_nI _ _) ?_
    have e4 : (rS C i N o Pl).take C.length = C.set i (some (.lst (opD N fun w => o w && !decide (w ∈ compo N (adj f) o s)))) := by
      unfold rS
      rw [take_app (by simp)]
      rw [op_cong (o := fun v => o v && !decide (v ∈ Pl)) (o' := fun w => o w && !decide (w ∈ compo N (adj f) o s)) fun w => by
        rw [decide_eq_decide.mpr (cm w)]]
    rw [e4]
    exact q
end
end CL
set_option maxHeartbeats 4000000
namespace CL
open PySem L2 CT
local macro_rules | `(tactic| walk_at "w") => `(tactic| first | ((with_reducible apply gR); first | with_reducible refine w_var rfl ?_ | with_reducible apply w_cons | with_reducible apply w_c | with_reducible apply w_nil | with_reducible apply w_op | with_reducible apply w_ap | with_reducible apply w_call | with_reducible apply w_tst | with_reducible apply w_un | with_reducible apply w_tand | with_reducible apply w_tor | with_reducible apply w_tnot | with_reducible apply w_yes | with_reducible apply w_and | with_reducible apply w_or | with_reducible apply w_not | with_reducible apply w_if | with_reducible apply w_chain | with_reducible apply w_isi | with_reducible apply w_isi2 | with_reducible apply w_prop | with_reducible apply w_meth | with_reducible apply w_dget | with_reducible apply w_dnewF | with_reducible apply w_dnewT | with_reducible apply w_part | with_reducible apply w_noPart | with_reducible apply w_slLF | with_reducible apply w_slA | with_reducible apply w_ok | with_reducible apply w_ofO | with_reducible apply w_lcI | with_reducible apply w_seqI | with_reducible apply w_rng1 | with_reducible apply w_rng2 | with_reducible apply w_enum) | ((with_reducible apply gO); first | with_reducible apply wo_add | with_reducible apply wo_sub | with_reducible apply wo_lt | with_reducible apply wo_gt | with_reducible apply wo_eq | with_reducible apply wo_ne | with_reducible apply wo_le | with_reducible apply wo_ge | with_reducible apply wo_neg | with_reducible apply wo_eqS | with_reducible apply wo_neS | with_reducible apply wo_min | with_reducible apply wo_max | with_reducible apply wo_int | with_reducible apply wo_abs | with_reducible apply wo_tupL | with_reducible apply wo_tupT | with_reducible refine wo_tup (by with_unfolding_all rfl) ?_ | with_reducible refine wo_lstF (by with_unfolding_all rfl) ?_ | with_reducible refine wo_lstT (by with_unfolding_all rfl) ?_ | with_reducible apply wo_fld0 | with_reducible apply wo_fld1 | with_reducible apply wo_fld2 | with_reducible apply wo_fldW0 | with_reducible apply wo_fldW1 | with_reducible apply wo_fldW2) | ((with_reducible apply gS); first | with_reducible apply w_seq | with_reducible apply w_asg | with_reducible apply w_sif | with_reducible apply w_next | with_reducible apply w_ret | with_reducible apply w_par | with_reducible apply w_drop | with_reducible apply w_asgT | with_reducible apply w_retN | with_reducible apply w_brk | with_reducible apply w_cnt | with_reducible apply w_raise | with_reducible apply w_forI) | ((with_reducible apply gI); first | with_reducible apply wI_t | with_reducible apply wI_f | with_reducible apply wI_not) | with_reducible apply w_bl | with_reducible apply thn_nx | with_reducible apply w_int | with_reducible apply w_obj | with_reducible apply thn_rt | with_reducible apply lp_nx | with_reducible apply fnl_int | with_reducible apply fnl_bl | with_reducible apply fnl_non | with_reducible apply fnl_str | with_reducible apply fnl_nx | with_reducible apply thn_bk | with_reducible apply thn_ct | with_reducible apply thn_xc | with_reducible apply lp_rt | with_reducible apply lp_bk | with_reducible apply lp_xc | with_reducible apply w_itL | with_reducible apply w_itT | with_reducible apply w_itK)
local macro_rules | `(tactic| walk_at "p") => `(tactic| repeat walk_at "w")
/-! PI4: pieces. -/
def tD (c : List Nat) : D := .tup (nI c)
theorem cb_tD (n : Nat) (c : List Nat) : cb n (tD c) = true := cb_nI n c
theorem cb_tDs (n : Nat) (l : List (List Nat)) : cbL n (l.map tD) = true := cbL_all fun d hd => by obtain ⟨c, _, rfl⟩ := List.mem_map.mp hd; exact cb_tD _ _
theorem rep_bl {N : Nat} {C : Store} (h : N ≤ 60) : oRep true (.lst [.bl true]) (.int N) C = some (.cell C.length, C ++ [some (.lst (opD N fun _ => true))]) := by
  have s1 : decide ((N : Int) < 2 ^ 63) = true := decide_eq_true (by omega)
  have s2 : decide (-(2 ^ 63) ≤ (N : Int)) = true := decide_eq_true (by omega)
  have tn : ((N : Int)).toNat = N := by omega
  have s3 : szN ([D.bl true].length * N) = true := by simp [szN]; omega
  have e : (List.replicate N [D.bl true]).flatten = opD N fun _ => true := by
    unfold opD
    induction N with
    | zero => rfl
    | succ n ih =>
      have ih := ih (by omega) (decide_eq_true (by omega)) (decide_eq_true (by omega)) (by omega) (by simp [szN]; omega)
      rw [List.replicate_succ', List.flatten_append, ih, List.range_succ, List.map_append]
      rfl
  unfold oRep
  simp only [vL, tn, s1, s2, s3, Bool.and_self, if_true, e]
  rfl
/-- what is open ahead of all -/
def opn (as bs : List Nat) (w : Nat) : Bool := !decide (w ∈ as ++ bs)
section
variable {C : Store} {Q : D → Store → Prop} {X : Exc → Store → Prop} {N i s : Nat} {f : Int × Int → Int} {o : Nat → Bool} {fl : Nat}
theorem closes2_w {l : List Nat} {oo : Nat → Bool} {sl0 sl1 sl3 sl4 : Option D} {S : Store} {P : RS → Prop} (hl : ∀ v ∈ l, v < N) (hC : S[i]? = some (some (.lst (opD N oo))))
    (q : ∀ t3, P (.nx [sl0, sl1, some (.cell i), t3, sl4] (S.set i (some (.lst (opD N fun v => oo v && !decide (v ∈ l))))))) :
    wS (loopN (itC (nI l)) (Tgt.nm 3).M b_pieces_1b_0 fl (itC (nI l)).n 0 [sl0, sl1, some (.cell i), sl3, sl4] S) P := by
  have hi : i < S.length := (List.getElem?_eq_some_iff.mp hC).1
  refine loop_p (pure_C (nI l)) (fun j sl S' => S' = S.set i (some (.lst (opD N fun v => oo v && !decide (v ∈ l.take j)))) ∧ ∃ t3, sl = [sl0, sl1, some (.cell i), t3, sl4]) ⟨?_, sl3, rfl⟩ ?_ ?_
  · have e : opD N (fun v => oo v && !decide (v ∈ l.take 0)) = opD N oo := op_cong fun w => by simp
    rw [e]
    refine (List.ext_getElem? fun k => ?_).symm
    by_cases hk : i = k
    · subst hk
      rw [List.getElem?_set_self hi, hC]
    · rw [List.getElem?_set_ne hk]
  · rintro j y sl S' hy ⟨rfl, t3, rfl⟩
    rw [nI, List.getElem?_map] at hy
    obtain ⟨v, hv, rfl⟩ := Option.map_eq_some_iff.mp hy
    refine ⟨_, rfl, ?_⟩
    unfold b_pieces_1b_0
    refine close_w (N := N) (i := i) (w := v) (o := fun v => oo v && !decide (v ∈ l.take j)) rfl (List.getElem?_set_self hi) (hl v (List.mem_of_getElem? hv)) (w_c ⟨rfl, rfl⟩) (w_var rfl ⟨rfl, rfl⟩) ?_
    refine lp_nx ⟨?_, _, rfl⟩
    rw [List.set_set]
    have tk : l.take (j + 1) = l.take j ++ [v] := by
      have hj : j < l.length := (List.getElem?_eq_some_iff.mp hv).1
      rw [← List.take_append_getElem hj, (List.getElem?_eq_some_iff.mp hv).2]
    rw [tk, op_cong fun w => ?_]
    by_cases h1 : w ∈ l.take j <;> by_cases h2 : w = v <;> simp [h1, h2]
  · rintro sl S' ⟨rfl, t3, rfl⟩
    rw [show (nI l).length = l.length from nI_len l, List.take_length]
    exact q t3
theorem pieces_w {as bs : List Nat} (hN : N ≤ 60) (ha : ∀ v ∈ as, v < N) (hb : ∀ v ∈ bs, v < N) (hl : as.length + bs.length ≤ 1000)
    (q : Q (.cell C.length) (C ++ [some (.lst ((pcs N (adj f) (opn as bs)).map tD))])) : wR (m_pieces [webD N f, .tup [tD as, tD bs]] C) Q X := by
  rw [e_pieces]
  apply w_finO
  unfold b_pieces b_pieces_0
  walk_at "p"
  refine wo_of (rep_bl hN) ?_
  walk_at "p"
  unfold b_pieces_1
  walk_at "p"
  refine wo_ix (xs := [tD as, tD bs]) (k := 0) rfl rfl rfl ?_
  walk_at "p"
  refine wo_ix (xs := [tD as, tD bs]) (k := 1) rfl rfl rfl ?_
  have ec : oCatT (tD as) (tD bs) (C ++ [some (.lst (opD N fun _ => true))]) = some (.tup (nI (as ++ bs)), C ++ [some (.lst (opD N fun _ => true))]) := by
    have hz : (nI as).length + (nI bs).length ≤ 16777216 := by rw [nI_len, nI_len]; omega
    unfold tD
    simp only [oCatT, vT, szN, decide_eq_true hz, if_true, nI_app]
    by_cases h1 : (nI as).isEmpty = true
    · rw [if_pos h1, List.isEmpty_iff.mp h1, List.nil_append]
    · rw [if_neg h1]
      by_cases h2 : (nI bs).isEmpty = true
      · rw [if_pos h2, List.isEmpty_iff.mp h2, List.append_nil]
      · rw [if_neg h2]
  refine wo_of ec ?_
  walk_at "p"
  refine closes2_w (N := N) (l := as ++ bs) (oo := fun _ => true) (fun v hv => (List.mem_append.mp hv).elim (ha v) (hb v)) (by simp) fun t3 => ?_
  have e1 : (C ++ [some (Cell.lst (opD N fun _ => true))]).set C.length (some (.lst (opD N fun v => true && !decide (v ∈ as ++ bs)))) = C ++ [some (.lst (opD N (opn as bs)))] := by
    have : opD N (fun v => true && !decide (v ∈ as ++ bs)) = opD N (opn as bs) := op_cong fun w => by simp [opn]
    rw [this]
    simp
  rw [e1]
  walk_at "p"
  unfold b_pieces_2
  walk_at "p"
  unfold b_pieces_3
  walk_at "p"
  refine ⟨inR_of (by omega) (by omega), ?_⟩
  have eN : (N : Int).toNat = N := by omega
  rw [eN]
  refine loop_p (pure_R 0 _) (fun j sl S => j ≤ N ∧ S = C ++ [some (.lst (opD N (pfold N (adj f) (opn as bs) (List.range j)).1))] ++ [some (.lst ((pfold N (adj f) (opn as bs) (List.range j)).2.map tD))] ∧ ∃ t3, sl = [some (webD N f), some (.tup [tD as, tD bs]), some (.cell C.length), t3, some (.cell (C ++ [some (Cell.lst (opD N (opn as bs)))]).length)]) ⟨Nat.zero_le _, rfl, t3, rfl⟩ ?_ ?_
  · rintro j y sl S hy ⟨hj, rfl, t3, rfl⟩
    obtain ⟨u, hu, rfl⟩ := mem_rng (List.mem_of_getElem? hy)
    have hju : u = j := by
      have := (List.getElem?_eq_some_iff.mp hy).2
      simp [rngI] at this
      omega
    subst hju
    have e0 : (0 : Int) + (u : Int) = u := by omega
    rw [e0]
    have pf := pfold_snoc N (adj f) (opn as bs) u
    have pl := pfold_len N (adj f) (opn as bs) (List.range u)
    rw [List.length_range] at pl
    generalize pfold N (adj f) (opn as bs) (List.range u) = st at pl pf ⊢
    obtain ⟨o, fd⟩ := st
    have pl : fd.length ≤ u := pl
    have at_o : (C ++ [some (Cell.lst (opD N o))] ++ [some (Cell.lst (fd.map tD))])[C.length]? = some (some (.lst (opD N o))) := by simp
    have at_f : ∀ o : Nat → Bool, (C ++ [some (Cell.lst (opD N o))] ++ [some (Cell.lst (fd.map tD))])[(C ++ [some (Cell.lst (opD N (opn as bs)))]).length]? = some (some (.lst (fd.map tD))) := fun o => by simp
    refine ⟨_, rfl, ?_⟩
    unfold b_pieces_3b_0
    walk_at "p"
    refine wo_ix (x := .cell C.length) (xs := opD N o) (k := u) (by simp only [vS, at_o]) rfl (op_get hu) (w_bl ?_)
    refine wI_b (fun ho => ?_) fun ho => ?_
    · walk_at "p"
      refine w_append ?_
      walk_at "p"
      refine ⟨by simp only [vL, at_f]; rfl, ?_⟩
      walk_at "p"
      refine reached_w (o := o) hN hu ho at_o ?_
      have e2 : (C ++ [some (Cell.lst (opD N o))] ++ [some (Cell.lst (fd.map tD))]).set C.length (some (.lst (opD N fun w => o w && !decide (w ∈ compo N (adj f) o u)))) = C ++ [some (.lst (opD N fun w => o w && !decide (w ∈ compo N (adj f) o u)))] ++ [some (.lst (fd.map tD))] := by simp
      rw [e2]
      refine ⟨(C ++ [some (Cell.lst (opD N (opn as bs)))]).length, fd.map tD, by simp only [cL, at_f], by simp, by rw [List.length_map]; show fd.length < _; omega, ?_⟩
      walk_at "p"
      refine ⟨by omega, ?_, _, rfl⟩
      rw [pf]
      unfold pstep
      rw [if_pos ho]
      simp [tD]
    · walk_at "p"
      refine ⟨by omega, ?_, _, rfl⟩
      rw [pf]
      unfold pstep
      rw [if_neg (by simp [ho])]
  · rintro sl S ⟨_, rfl, t3, rfl⟩
    have er : (rngI 0 N).length = N := by simp [rngI]
    rw [er]
    walk_at "p"
    unfold b_pieces_4
    walk_at "p"
    refine fnlO_own (xs := (pcs N (adj f) (opn as bs)).map tD) (by simp) ?_ (cb_tDs _ _) ?_
    · show _ = some (some (Cell.lst ((pfold N (adj f) (opn as bs) (List.range N)).2.map tD)))
      simp
    · have : ∀ Y Z : Store, (C ++ Y ++ Z).take C.length = C := fun Y Z => by rw [List.append_assoc, take_app rfl]
      rw [this]
      exact q
end
end CL
set_option maxHeartbeats 4000000
namespace CL
open PySem L2 CT
local macro_rules | `(tactic| walk_at "w") => `(tactic| first | ((with_reducible apply gR); first | with_reducible refine w_var rfl ?_ | with_reducible apply w_cons | with_reducible apply w_c | with_reducible apply w_nil | with_reducible apply w_op | with_reducible apply w_ap | with_reducible apply w_call | with_reducible apply w_tst | with_reducible apply w_un | with_reducible apply w_tand | with_reducible apply w_tor | with_reducible apply w_tnot | with_reducible apply w_yes | with_reducible apply w_and | with_reducible apply w_or | with_reducible apply w_not | with_reducible apply w_if | with_reducible apply w_chain | with_reducible apply w_isi | with_reducible apply w_isi2 | with_reducible apply w_prop | with_reducible apply w_meth | with_reducible apply w_dget | with_reducible apply w_dnewF | with_reducible apply w_dnewT | with_reducible apply w_part | with_reducible apply w_noPart | with_reducible apply w_slLF | with_reducible apply w_slA | with_reducible apply w_ok | with_reducible apply w_ofO | with_reducible apply w_lcI | with_reducible apply w_seqI | with_reducible apply w_rng1 | with_reducible apply w_rng2 | with_reducible apply w_enum) | ((with_reducible apply gO); first | with_reducible apply wo_add | with_reducible apply wo_sub | with_reducible apply wo_lt | with_reducible apply wo_gt | with_reducible apply wo_eq | with_reducible apply wo_ne | with_reducible apply wo_le | with_reducible apply wo_ge | with_reducible apply wo_neg | with_reducible apply wo_eqS | with_reducible apply wo_neS | with_reducible apply wo_min | with_reducible apply wo_max | with_reducible apply wo_int | with_reducible apply wo_abs | with_reducible apply wo_tupL | with_reducible apply wo_tupT | with_reducible refine wo_tup (by with_unfolding_all rfl) ?_ | with_reducible refine wo_lstF (by with_unfolding_all rfl) ?_ | with_reducible refine wo_lstT (by with_unfolding_all rfl) ?_ | with_reducible apply wo_fld0 | with_reducible apply wo_fld1 | with_reducible apply wo_fld2 | with_reducible apply wo_fldW0 | with_reducible apply wo_fldW1 | with_reducible apply wo_fldW2) | ((with_reducible apply gS); first | with_reducible apply w_seq | with_reducible apply w_asg | with_reducible apply w_sif | with_reducible apply w_next | with_reducible apply w_ret | with_reducible apply w_par | with_reducible apply w_drop | with_reducible apply w_asgT | with_reducible apply w_retN | with_reducible apply w_brk | with_reducible apply w_cnt | with_reducible apply w_raise | with_reducible apply w_forI) | ((with_reducible apply gI); first | with_reducible apply wI_t | with_reducible apply wI_f | with_reducible apply wI_not) | with_reducible apply w_bl | with_reducible apply thn_nx | with_reducible apply w_int | with_reducible apply w_obj | with_reducible apply thn_rt | with_reducible apply lp_nx | with_reducible apply fnl_int | with_reducible apply fnl_bl | with_reducible apply fnl_non | with_reducible apply fnl_str | with_reducible apply fnl_nx | with_reducible apply thn_bk | with_reducible apply thn_ct | with_reducible apply thn_xc | with_reducible apply lp_rt | with_reducible apply lp_bk | with_reducible apply lp_xc | with_reducible apply w_itL | with_reducible apply w_itT | with_reducible apply w_itK)
local macro_rules | `(tactic| walk_at "p") => `(tactic| repeat walk_at "w")
/-! PR: sums over places. -/
abbrev fm (f : Int × Int → Int) (u v : Nat) : Int := f (min (u : Int) (v : Int), max (u : Int) (v : Int))
theorem fm_c (f : Int × Int → Int) (u v : Nat) : fm f u v = fm f v u := by
  unfold fm
  rw [show min (u : Int) (v : Int) = min (v : Int) (u : Int) by omega, show max (u : Int) (v : Int) = max (v : Int) (u : Int) by omega]
def crS (f : Int × Int → Int) (xs ys : List Nat) : Int := (xs.flatMap fun u : Nat => ys.map fun v : Nat => fm f u v).sum
def rsum (ns : List Int) (c : List Nat) : Int := (c.map fun v => ns.getD v 0).sum
theorem sum_flat {α : Type} (g : α → List Int) : ∀ l : List α, (l.flatMap g).sum = (l.map fun x => (g x).sum).sum
  | [] => rfl
  | x :: l => by
    rw [List.flatMap_cons, List.sum_append, sum_flat g l, List.map_cons, List.sum_cons]
theorem crS_eq (f : Int × Int → Int) (xs ys : List Nat) : crS f xs ys = (xs.map fun v => (ys.map fun u => fm f u v).sum).sum := by
  unfold crS
  rw [sum_flat]
  congr 1
  refine List.map_congr_left fun u _ => ?_
  congr 1
  exact List.map_congr_left fun v _ => fm_c f u v
section
variable {S : Store} {Q : D → Store → Prop} {X : Exc → Store → Prop} {ns : List Int} {c : List Nat} {F : Fr}
theorem rowpickG_w {k r : Nat} {sq : D} (hsq : ∀ S, vS sq S = some (ns.map .int)) (hk : k < F.sl.length) (hr : r ≠ k) (e : F.sl[r]? = some (some sq)) (hc : ∀ v ∈ c, v < ns.length) (hl : c.length ≤ 100000) (q : Q (.lst ((c.map fun v => ns.getD v 0).map .int)) S) :
    wR (lcR (itC (nI c)) (Tgt.nm k).M tYesM (mOp oIx (mVar r) (mVar k)) [k] F S) Q X := by
  refine lc_p (pure_C (nI c)) (fun _ => true) (fun y => match y with | .int v => .int (ns.getD v.toNat 0) | _ => .non) (by rw [nI_len]; omega) (fun y hy => ?_) (fun y hy _ => ?_) ?_
  · obtain ⟨v, hv, rfl⟩ := List.mem_map.mp hy
    have hv := hc v hv
    have g7 : ((F.sl.set k none).set k (some (.int (v : Int))))[k]? = some (some (.int (v : Int))) := List.getElem?_set_self (by simpa using hk)
    have g2 : ((F.sl.set k none).set k (some (.int (v : Int))))[r]? = some (some sq) := by rw [List.getElem?_set_ne (Ne.symm hr), List.getElem?_set_ne (Ne.symm hr)]; exact e
    refine ⟨_, rfl, fun acc => ⟨w_yes ⟨rfl, rfl⟩, fun _ => w_op (w_var g2 (w_var g7 ?_))⟩⟩
    refine wo_ix (xs := ns.map .int) (k := v) (d := .int (ns.getD v 0)) (hsq _) rfl ?_ ⟨by simp, rfl⟩
    rw [List.getElem?_map, List.getElem?_eq_getElem hv, List.getD_eq_getElem?_getD, List.getElem?_eq_getElem hv]
    rfl
  · obtain ⟨v, hv, rfl⟩ := List.mem_map.mp hy
    rfl
  · have e : ((nI c).filter fun _ => true).map (fun y => match y with | .int v => D.int (ns.getD v.toNat 0) | _ => .non) = (c.map fun v => ns.getD v 0).map .int := by
      rw [filter_yes, nI, List.map_map, List.map_map]
      rfl
    rw [e]
    exact q
theorem rowpick_w {k r : Nat} (hk : k < F.sl.length) (hr : r ≠ k) (e : F.sl[r]? = some (some (.tup (ns.map .int)))) (hc : ∀ v ∈ c, v < ns.length) (hl : c.length ≤ 100000) (q : Q (.lst ((c.map fun v => ns.getD v 0).map .int)) S) :
    wR (lcR (itC (nI c)) (Tgt.nm k).M tYesM (mOp oIx (mVar r) (mVar k)) [k] F S) Q X := rowpickG_w (fun _ => rfl) hk hr e hc hl q
end
end CL
set_option maxHeartbeats 4000000
namespace CL
open PySem L2 CT
local macro_rules | `(tactic| walk_at "w") => `(tactic| first | ((with_reducible apply gR); first | with_reducible refine w_var rfl ?_ | with_reducible apply w_cons | with_reducible apply w_c | with_reducible apply w_nil | with_reducible apply w_op | with_reducible apply w_ap | with_reducible apply w_call | with_reducible apply w_tst | with_reducible apply w_un | with_reducible apply w_tand | with_reducible apply w_tor | with_reducible apply w_tnot | with_reducible apply w_yes | with_reducible apply w_and | with_reducible apply w_or | with_reducible apply w_not | with_reducible apply w_if | with_reducible apply w_chain | with_reducible apply w_isi | with_reducible apply w_isi2 | with_reducible apply w_prop | with_reducible apply w_meth | with_reducible apply w_dget | with_reducible apply w_dnewF | with_reducible apply w_dnewT | with_reducible apply w_part | with_reducible apply w_noPart | with_reducible apply w_slLF | with_reducible apply w_slA | with_reducible apply w_ok | with_reducible apply w_ofO | with_reducible apply w_lcI | with_reducible apply w_seqI | with_reducible apply w_rng1 | with_reducible apply w_rng2 | with_reducible apply w_enum) | ((with_reducible apply gO); first | with_reducible apply wo_add | with_reducible apply wo_sub | with_reducible apply wo_lt | with_reducible apply wo_gt | with_reducible apply wo_eq | with_reducible apply wo_ne | with_reducible apply wo_le | with_reducible apply wo_ge | with_reducible apply wo_neg | with_reducible apply wo_eqS | with_reducible apply wo_neS | with_reducible apply wo_min | with_reducible apply wo_max | with_reducible apply wo_int | with_reducible apply wo_abs | with_reducible apply wo_tupL | with_reducible apply wo_tupT | with_reducible refine wo_tup (by with_unfolding_all rfl) ?_ | with_reducible refine wo_lstF (by with_unfolding_all rfl) ?_ | with_reducible refine wo_lstT (by with_unfolding_all rfl) ?_ | with_reducible apply wo_fld0 | with_reducible apply wo_fld1 | with_reducible apply wo_fld2 | with_reducible apply wo_fldW0 | with_reducible apply wo_fldW1 | with_reducible apply wo_fldW2) | ((with_reducible apply gS); first | with_reducible apply w_seq | with_reducible apply w_asg | with_reducible apply w_sif | with_reducible apply w_next | with_reducible apply w_ret | with_reducible apply w_par | with_reducible apply w_drop | with_reducible apply w_asgT | with_reducible apply w_retN | with_reducible apply w_brk | with_reducible apply w_cnt | with_reducible apply w_raise | with_reducible apply w_forI) | ((with_reducible apply gI); first | with_reducible apply wI_t | with_reducible apply wI_f | with_reducible apply wI_not) | with_reducible apply w_bl | with_reducible apply thn_nx | with_reducible apply w_int | with_reducible apply w_obj | with_reducible apply thn_rt | with_reducible apply lp_nx | with_reducible apply fnl_int | with_reducible apply fnl_bl | with_reducible apply fnl_non | with_reducible apply fnl_str | with_reducible apply fnl_nx | with_reducible apply thn_bk | with_reducible apply thn_ct | with_reducible apply thn_xc | with_reducible apply lp_rt | with_reducible apply lp_bk | with_reducible apply lp_xc | with_reducible apply w_itL | with_reducible apply w_itT | with_reducible apply w_itK)
local macro_rules | `(tactic| walk_at "p") => `(tactic| repeat walk_at "w")
/-! LE1: the pieces part the open places; the excess of a row has the row's parity. -/
theorem nd_up {l : List Nat} (h : l.Pairwise (· < ·)) : l.Nodup := h.imp fun {a b} h => by omega
structure Part (N : Nat) (o : Nat → Bool) (st : (Nat → Bool) × List (List Nat)) (j : Nat) : Prop where
  nd : st.2.flatten.Nodup
  op : ∀ w, st.1 w = true ↔ o w = true ∧ w ∉ st.2.flatten
  lt : ∀ w ∈ st.2.flatten, o w = true ∧ w < N
  dn : ∀ w, w < j → st.1 w = false
  ne : ∀ c ∈ st.2, c ≠ []
theorem pfold_part (N : Nat) (a : Nat → Nat → Bool) (o : Nat → Bool) : ∀ j, j ≤ N → Part N o (pfold N a o (List.range j)) j
  | 0, _ => ⟨by simp [pfold], by simp [pfold], by simp [pfold], fun w h => by omega, by simp [pfold]⟩
  | j + 1, hj => by
    have ih := pfold_part N a o j (by omega)
    rw [pfold_snoc]
    generalize pfold N a o (List.range j) = st at ih ⊢
    have hjN : j < N := by omega
    unfold pstep
    by_cases hs : st.1 j = true
    · rw [if_pos hs]
      have jm : j ∈ compo N a st.1 j := (compo_mem hjN).mpr .base
      have co : ∀ w ∈ compo N a st.1 j, st.1 w = true ∧ w < N := fun w hw => ⟨rch_open hs ((compo_mem hjN).mp hw), rch_lt hjN ((compo_mem hjN).mp hw)⟩
      refine ⟨?_, fun w => ?_, fun w hw => ?_, fun w hw => ?_, fun c hc => ?_⟩
      · simp only [List.flatten_append, List.flatten_cons, List.flatten_nil, List.append_nil]
        exact List.nodup_append.mpr ⟨ih.nd, nd_up compo_up, fun x hx y hy e => ((ih.op x).mp (by rw [e]; exact (co y hy).1)).2 hx⟩
      · simp only [List.flatten_append, List.flatten_cons, List.flatten_nil, List.append_nil, List.mem_append, Bool.and_eq_true, Bool.not_eq_true', decide_eq_false_iff_not, ih.op w, not_or]
        exact ⟨fun ⟨⟨x, y⟩, z⟩ => ⟨x, y, z⟩, fun ⟨x, y, z⟩ => ⟨⟨x, y⟩, z⟩⟩
      · simp only [List.flatten_append, List.flatten_cons, List.flatten_nil, List.append_nil, List.mem_append] at hw
        rcases hw with hw | hw
        · exact ih.lt w hw
        · exact ⟨((ih.op w).mp (co w hw).1).1, (co w hw).2⟩
      · by_cases e : w = j
        · subst e
          simp only [decide_eq_true jm, Bool.not_true, Bool.and_false]
        · have := ih.dn w (by omega)
          simp only [this, Bool.false_and]
      · rcases List.mem_append.mp hc with hc | hc
        · exact ih.ne c hc
        · rw [List.mem_singleton.mp hc]
          intro e
          rw [e] at jm
          cases jm
    · rw [if_neg hs]
      exact ⟨ih.nd, ih.op, ih.lt, fun w hw => by
        by_cases e : w = j
        · subst e
          simpa using hs
        · exact ih.dn w (by omega), ih.ne⟩
theorem pcs_part (N : Nat) (a : Nat → Nat → Bool) (o : Nat → Bool) : (pcs N a o).flatten.Nodup ∧ (∀ c ∈ pcs N a o, c ≠ []) ∧ ∀ w, w ∈ (pcs N a o).flatten ↔ o w = true ∧ w < N := by
  have p := pfold_part N a o N (Nat.le_refl _)
  refine ⟨p.nd, p.ne, fun w => ⟨p.lt w, fun ⟨h1, h2⟩ => ?_⟩⟩
  by_cases h : w ∈ (pcs N a o).flatten
  · exact h
  · have := (p.op w).mpr ⟨h1, h⟩
    rw [p.dn w h2] at this
    cases this
theorem uniq_part : ∀ {L : List (List Nat)}, L.flatten.Nodup → ∀ {c c' : List Nat} {v : Nat}, c ∈ L → c' ∈ L → v ∈ c → v ∈ c' → c = c'
  | [], _, _, _, _, h, _, _, _ => by cases h
  | d :: L, nd, c, c', v, h, h', hv, hv' => by
    rw [List.flatten_cons] at nd
    obtain ⟨n1, n2, n3⟩ := List.nodup_append.mp nd
    rcases List.mem_cons.mp h with e | k
    · subst e
      rcases List.mem_cons.mp h' with e | k'
      · exact e.symm
      · exact absurd rfl (n3 v hv v (List.mem_flatten.mpr ⟨c', k', hv'⟩))
    · rcases List.mem_cons.mp h' with e | k'
      · subst e
        exact absurd rfl (n3 v hv' v (List.mem_flatten.mpr ⟨c, k, hv⟩))
      · exact uniq_part n2 k k' hv hv'
theorem nd_part : ∀ {L : List (List Nat)}, L.flatten.Nodup → (∀ c ∈ L, c ≠ []) → L.Nodup ∧ ∀ c ∈ L, c.Nodup
  | [], _, _ => ⟨by simp, by simp⟩
  | d :: L, nd, ne => by
    rw [List.flatten_cons] at nd
    obtain ⟨n1, n2, n3⟩ := List.nodup_append.mp nd
    obtain ⟨i1, i2⟩ := nd_part n2 fun c hc => ne c (List.mem_cons_of_mem _ hc)
    refine ⟨List.nodup_cons.mpr ⟨fun hd => ?_, i1⟩, fun c hc => ?_⟩
    · obtain ⟨v, hv⟩ := List.exists_mem_of_ne_nil d (ne d (List.mem_cons_self ..))
      exact n3 v hv v (List.mem_flatten.mpr ⟨d, hd, hv⟩) rfl
    · rcases List.mem_cons.mp hc with rfl | hc
      · exact n1
      · exact i2 c hc
/-! sums -/
theorem sm_perm {g : Nat → Int} {a b : List Nat} (h : a.Perm b) : (a.map g).sum = (b.map g).sum := by
  induction h with
  | nil => rfl
  | cons x _ ih => rw [List.map_cons, List.map_cons, List.sum_cons, List.sum_cons, ih]
  | swap x y l =>
    simp only [List.map_cons, List.sum_cons]
    omega
  | trans _ _ ih1 ih2 => exact ih1.trans ih2
theorem sm_add {α : Type} (g h : α → Int) : ∀ l : List α, (l.map fun x => g x + h x).sum = (l.map g).sum + (l.map h).sum
  | [] => rfl
  | x :: l => by
    have := sm_add g h l
    simp only [List.map_cons, List.sum_cons]
    omega
theorem sm_sub {α : Type} (g h : α → Int) : ∀ l : List α, (l.map fun x => g x - h x).sum = (l.map g).sum - (l.map h).sum
  | [] => rfl
  | x :: l => by
    have := sm_sub g h l
    simp only [List.map_cons, List.sum_cons]
    omega
theorem sm_zero {α : Type} : ∀ l : List α, (l.map fun _ => (0 : Int)).sum = 0
  | [] => rfl
  | x :: l => by
    have := sm_zero l
    simp only [List.map_cons, List.sum_cons]
    omega
theorem sm_swap {α β : Type} (g : α → β → Int) (ys : List β) : ∀ xs : List α, (xs.map fun x => (ys.map fun y => g x y).sum).sum = (ys.map fun y => (xs.map fun x => g x y).sum).sum
  | [] => by simp only [List.map_nil, List.sum_nil]; rw [sm_zero]
  | x :: xs => by
    simp only [List.map_cons, List.sum_cons]
    rw [sm_swap g ys xs, sm_add]
theorem sm_par {α : Type} {g h : α → Int} : ∀ {l : List α}, (∀ x ∈ l, g x % 2 = h x % 2) → (l.map g).sum % 2 = (l.map h).sum % 2
  | [], _ => rfl
  | x :: l, z => by
    have h1 := z x (List.mem_cons_self ..)
    have h2 := sm_par (l := l) fun y hy => z y (List.mem_cons_of_mem _ hy)
    simp only [List.map_cons, List.sum_cons]
    omega
theorem sm_flat (g : Nat → Int) : ∀ L : List (List Nat), (L.flatten.map g).sum = (L.map fun c => (c.map g).sum).sum
  | [] => rfl
  | c :: L => by
    rw [List.flatten_cons, List.map_append, List.sum_append, sm_flat g L, List.map_cons, List.sum_cons]
theorem sm_le {α : Type} {g h : α → Int} : ∀ {l : List α}, (∀ x ∈ l, g x ≤ h x) → (l.map g).sum ≤ (l.map h).sum
  | [], _ => Int.le_refl _
  | x :: l, z => by
    have h1 := z x (List.mem_cons_self ..)
    have h2 := sm_le (l := l) fun y hy => z y (List.mem_cons_of_mem _ hy)
    simp only [List.map_cons, List.sum_cons]
    omega
theorem sm_pos {α : Type} {g : α → Int} {l : List α} (h : ∀ x ∈ l, 0 ≤ g x) : 0 ≤ (l.map g).sum := by
  have := sm_le (g := fun _ => (0 : Int)) (h := g) h
  rw [sm_zero] at this
  exact this
theorem sm_change {α : Type} [DecidableEq α] (g : α → Int) (x : α) (y : Int) : ∀ {l : List α}, l.Nodup → x ∈ l → (l.map fun u => if u = x then y else g u).sum = (l.map g).sum + (y - g x)
  | [], _, h => by cases h
  | z :: l, nd, h => by
    obtain ⟨n1, n2⟩ := List.nodup_cons.mp nd
    by_cases e : z = x
    · subst e
      have : (l.map fun u => if u = z then y else g u) = l.map g := List.map_congr_left fun u hu => if_neg fun (e : u = z) => n1 (e ▸ hu)
      simp only [List.map_cons, List.sum_cons, if_true, this]
      omega
    · have hx : x ∈ l := by
        rcases List.mem_cons.mp h with rfl | h
        · exact absurd rfl e
        · exact h
      have := sm_change g x y n2 hx
      simp only [List.map_cons, List.sum_cons, if_neg e, this]
      omega
/-! the excess of a row -/
def parF (f : Int × Int → Int) (r : Nat → Int) (bs c : List Nat) : Int := (c.map r).sum + crS f c bs
def rowS (f : Int × Int → Int) (N v : Nat) : Int := ((List.range N).map fun w => fm f v w).sum
noncomputable def excF (f : Int × Int → Int) (N : Nat) (r : Nat → Int) (as bs : List Nat) : Int :=
  (as.map r).sum + (bs.map fun v => rowS f N v - r v - (as.map fun u => fm f v u).sum).sum - ((pcs N (adj f) (opn as bs)).map fun c => parF f r bs c % 2).sum
structure LotsOk (N : Nat) (as bs : List Nat) : Prop where
  a : ∀ v ∈ as, v < N
  b : ∀ v ∈ bs, v < N
  na : as.Nodup
  nb : bs.Nodup
  d : ∀ v ∈ as, v ∉ bs
section
variable {N : Nat} {f : Int × Int → Int} {as bs : List Nat} {r : Nat → Int}
theorem LotsOk.perm (h : LotsOk N as bs) (a : Nat → Nat → Bool) : (as ++ bs ++ (pcs N a (opn as bs)).flatten).Perm (List.range N) := by
  obtain ⟨p1, _, p2⟩ := pcs_part N a (opn as bs)
  have oi : ∀ w, opn as bs w = true ↔ w ∉ as ∧ w ∉ bs := fun w => by unfold opn; simp
  refine (List.perm_ext_iff_of_nodup ?_ List.nodup_range).mpr fun w => ?_
  · refine List.nodup_append.mpr ⟨List.nodup_append.mpr ⟨h.na, h.nb, fun x hx y hy e => h.d x hx (e ▸ hy)⟩, p1, fun x hx y hy e => ?_⟩
    have := (oi y).mp ((p2 y).mp hy).1
    subst e
    rcases List.mem_append.mp hx with hx | hx
    · exact this.1 hx
    · exact this.2 hx
  · rw [List.mem_append, List.mem_append, p2, oi, List.mem_range]
    constructor
    · rintro ((z | z) | z)
      · exact h.a w z
      · exact h.b w z
      · exact z.2
    · intro z
      by_cases h1 : w ∈ as
      · exact .inl (.inl h1)
      · by_cases h2 : w ∈ bs
        · exact .inl (.inr h2)
        · exact .inr ⟨⟨h1, h2⟩, z⟩
theorem even_sq (h0 : ∀ v : Nat, fm f v v = 0) : ∀ l : List Nat, (l.map fun v => (l.map fun w => fm f v w).sum).sum % 2 = 0
  | [] => rfl
  | x :: l => by
    have ih := even_sq h0 l
    have e : (l.map fun v => fm f v x).sum = (l.map fun w => fm f x w).sum := by
      congr 1
      exact List.map_congr_left fun v _ => fm_c f v x
    simp only [List.map_cons, List.sum_cons]
    rw [sm_add, h0, e]
    omega
theorem exc_par (h : LotsOk N as bs) (h0 : ∀ v : Nat, fm f v v = 0) : excF f N r as bs % 2 = ((List.range N).map r).sum % 2 := by
  have pm := h.perm (adj f)
  have s1 : ∀ g : Nat → Int, ((List.range N).map g).sum = (as.map g).sum + (bs.map g).sum + ((pcs N (adj f) (opn as bs)).map fun c => (c.map g).sum).sum := fun g => by
    rw [← sm_perm pm, List.map_append, List.sum_append, List.map_append, List.sum_append, sm_flat]
  unfold excF
  generalize pcs N (adj f) (opn as bs) = P at s1 ⊢
  have e1 : (bs.map fun v => rowS f N v - r v - (as.map fun u => fm f v u).sum).sum = (bs.map fun v => (bs.map fun w => fm f v w).sum).sum + (bs.map fun v => (P.map fun c => (c.map fun w => fm f v w).sum).sum).sum - (bs.map r).sum := by
    rw [← sm_add, ← sm_sub]
    congr 1
    refine List.map_congr_left fun v _ => ?_
    unfold rowS
    rw [s1]
    omega
  have e2 : (bs.map fun v => (P.map fun c => (c.map fun w => fm f v w).sum).sum).sum = (P.map fun c => crS f c bs).sum := by
    rw [sm_swap]
    congr 1
    refine List.map_congr_left fun c _ => ?_
    rw [sm_swap, crS_eq]
  have e3 : (P.map fun c => parF f r bs c % 2).sum % 2 = (P.map fun c => parF f r bs c).sum % 2 := sm_par fun c _ => by omega
  have e4 : (P.map fun c => parF f r bs c).sum = (P.map fun c => (c.map r).sum).sum + (P.map fun c => crS f c bs).sum := by
    rw [← sm_add]
    rfl
  have e5 := even_sq h0 bs
  rw [s1, e1, e2]
  omega
end
end CL
set_option maxHeartbeats 4000000
/-! XK1: pieces are closed; two graphs that differ at one pair of places. -/
namespace CL
open PySem L2 CT
section
variable {N : Nat} {a a' : Nat → Nat → Bool} {o o' : Nat → Bool} {s u v w : Nat}
theorem rch_mono (h : ∀ w, o w = true → o' w = true) (r : Rch N a o s w) : Rch N a o' s w := by
  induction r with
  | base => exact .base
  | step _ lt ha ho ih => exact .step ih lt ha (h _ ho)
theorem compo_congr (h : ∀ w, Rch N a o s w ↔ Rch N a' o' u w) : compo N a o s = compo N a' o' u := by
  unfold compo
  refine List.filter_congr fun w _ => ?_
  rw [decide_eq_decide]
  exact h w
theorem pfold_cl (sym : ∀ u v, a u v = a v u) : ∀ j, j ≤ N → ∀ c ∈ (pfold N a o (List.range j)).2, (∃ v, v < N ∧ o v = true ∧ c = compo N a o v) ∧ ∀ u ∈ c, ∀ w, w < N → a u w = true → o w = true → w ∈ c := by
  intro j
  induction j with
  | zero =>
    intro _ c hc
    simp [pfold] at hc
  | succ j ih =>
    intro hj
    have hP := pfold_part N a o j (by omega)
    have hI := ih (by omega)
    rw [pfold_snoc]
    generalize pfold N a o (List.range j) = st at hP hI
    have hlt : j < N := by omega
    unfold pstep
    split
    · rename_i ho
      have o1 : ∀ w, st.1 w = true → o w = true := fun w h => ((hP.op w).mp h).1
      have cl : ∀ u ∈ compo N a st.1 j, ∀ w, w < N → a u w = true → o w = true → w ∈ compo N a st.1 j := by
        intro u hu w hw haw how
        have ru := (compo_mem hlt).mp hu
        by_cases hs : st.1 w = true
        · exact (compo_mem hlt).mpr (.step ru hw haw hs)
        · exfalso
          have hm : w ∈ st.2.flatten := by
            by_cases h : w ∈ st.2.flatten
            · exact h
            · exact absurd ((hP.op w).mpr ⟨how, h⟩) hs
          obtain ⟨c', hc', hwc⟩ := List.mem_flatten.mp hm
          have ou := rch_open ho ru
          have huc := (hI c' hc').2 w hwc u (rch_lt hlt ru) (by rw [sym]; exact haw) (o1 u ou)
          exact ((hP.op u).mp ou).2 (List.mem_flatten.mpr ⟨c', hc', huc⟩)
      have eq : compo N a st.1 j = compo N a o j := by
        refine compo_congr fun w => ?_
        rw [← compo_mem hlt]
        exact closed_all ((compo_mem hlt).mpr .base) (fun x hx => rch_mono o1 ((compo_mem hlt).mp hx)) cl w
      intro c hc
      rcases List.mem_append.mp hc with hc | hc
      · exact hI c hc
      · rw [List.mem_singleton.mp hc]
        exact ⟨⟨j, hlt, o1 j ho, eq⟩, cl⟩
    · exact hI
theorem pcs_cl (sym : ∀ u v, a u v = a v u) {c : List Nat} (h : c ∈ pcs N a o) : (∃ v, v < N ∧ o v = true ∧ c = compo N a o v) ∧ ∀ u ∈ c, ∀ w, w < N → a u w = true → o w = true → w ∈ c := pfold_cl sym N (Nat.le_refl _) c h
end
/-! ### sums over pieces -/
theorem sm_split {α : Type} (g : α → Int) (p : α → Bool) : ∀ L : List α, (L.map g).sum = ((L.filter p).map g).sum + ((L.filter fun c => !p c).map g).sum
  | [] => rfl
  | x :: L => by
    have ih := sm_split g p L
    rw [List.map_cons, List.sum_cons, ih]
    cases e : p x with
    | true =>
      rw [List.filter_cons_of_pos e, List.filter_cons_of_neg (by simp [e]), List.map_cons, List.sum_cons]
      omega
    | false =>
      rw [List.filter_cons_of_neg (by simp [e]), List.filter_cons_of_pos (by simp [e]), List.map_cons, List.sum_cons]
      omega
end CL
set_option maxHeartbeats 4000000
/-! XK2: how the excess changes with the row and with a tie; granted rows have no excess below 0. -/
namespace CL
open PySem L2 CT
def dbl (g : Int × Int → Int) (xs ys : List Nat) : Int := (xs.map fun v => (ys.map fun w => fm g v w).sum).sum
theorem adj_sym (f : Int × Int → Int) (u v : Nat) : adj f u v = adj f v u := by
  unfold adj
  rw [show f (min (u : Int) (v : Int), max (u : Int) (v : Int)) = f (min (v : Int) (u : Int), max (v : Int) (u : Int)) from fm_c f u v]
theorem dbl_sym (g : Int × Int → Int) (xs ys : List Nat) : dbl g xs ys = dbl g ys xs := by
  unfold dbl
  rw [sm_swap]
  congr 1
  refine List.map_congr_left fun v _ => ?_
  congr 1
  exact List.map_congr_left fun w _ => fm_c g w v
theorem crS_dbl (f : Int × Int → Int) (xs ys : List Nat) : crS f xs ys = dbl f xs ys := by
  rw [crS_eq]
  unfold dbl
  congr 1
  refine List.map_congr_left fun v _ => ?_
  congr 1
  exact List.map_congr_left fun w _ => fm_c f w v
theorem dbl_pos {g : Int × Int → Int} (h : ∀ u v : Nat, 0 ≤ fm g u v) (xs ys : List Nat) : 0 ≤ dbl g xs ys := sm_pos fun v _ => sm_pos fun w _ => h v w
section
variable {N : Nat} {f f' c : Int × Int → Int} {as bs : List Nat} {r r' : Nat → Int}
theorem rng_sum (h : LotsOk N as bs) (a : Nat → Nat → Bool) (g : Nat → Int) : ((List.range N).map g).sum = (as.map g).sum + (bs.map g).sum + ((pcs N a (opn as bs)).map fun c => (c.map g).sum).sum := by
  rw [← sm_perm (h.perm a), List.map_append, List.sum_append, List.map_append, List.sum_append, sm_flat]
/-- granted rows -/
theorem exc_ge (h : LotsOk N as bs) (hc0 : ∀ u v : Nat, 0 ≤ fm c u v) (hcf : ∀ u v : Nat, fm c u v ≤ fm f u v) (h0 : ∀ v : Nat, fm f v v = 0) (hr : ∀ v, r v = rowS c N v) : 0 ≤ excF f N r as bs := by
  have c0 : ∀ v : Nat, fm c v v = 0 := fun v => by
    have h1 := hc0 v v
    have h2 := hcf v v
    have h3 := h0 v
    omega
  obtain ⟨p1, p3, p2⟩ := pcs_part N (adj f) (opn as bs)
  have clo : ∀ P ∈ pcs N (adj f) (opn as bs), ∀ v ∈ P, ∀ P' ∈ pcs N (adj f) (opn as bs), P' ≠ P → ∀ w ∈ P', fm c v w = 0 := fun P hP v hv P' hP' hne w hw => by
    have hw' := (p2 w).mp (List.mem_flatten.mpr ⟨P', hP', hw⟩)
    by_cases ha : adj f v w = true
    · exact absurd (uniq_part p1 hP' hP hw ((pcs_cl (adj_sym f) hP).2 v hv w hw'.2 ha hw'.1)) hne
    · unfold adj at ha
      rw [decide_eq_true_eq] at ha
      have h1 := hc0 v w
      have h2 := hcf v w
      have h3 : ¬ (0 < fm f v w) := ha
      omega
  have ndP := (nd_part p1 p3).1
  have s1 := fun g : Nat → Int => rng_sum h (adj f) g
  unfold excF
  generalize pcs N (adj f) (opn as bs) = P at s1 clo ndP ⊢
  let d : Int × Int → Int := fun p => f p - c p
  have hd : ∀ u v : Nat, fm d u v = fm f u v - fm c u v := fun u v => rfl
  have d0 : ∀ u v : Nat, 0 ≤ fm d u v := fun u v => by rw [hd]; have := hcf u v; omega
  have er : ∀ v, r v = (as.map fun w => fm c v w).sum + (bs.map fun w => fm c v w).sum + (P.map fun q => (q.map fun w => fm c v w).sum).sum := fun v => by
    rw [hr v]
    unfold rowS
    rw [s1]
  have e1 : (as.map r).sum = dbl c as as + dbl c as bs + (P.map fun q => dbl c as q).sum := by
    have : as.map r = as.map fun v => (as.map fun w => fm c v w).sum + (bs.map fun w => fm c v w).sum + (P.map fun q => (q.map fun w => fm c v w).sum).sum := List.map_congr_left fun v _ => er v
    rw [this, sm_add, sm_add]
    rw [sm_swap (fun v q => (List.map (fun w => fm c v w) q).sum) P as]
    rfl
  have e2 : (bs.map fun v => rowS f N v - r v - (as.map fun u => fm f v u).sum).sum = dbl d bs bs + (P.map fun q => dbl d bs q).sum - dbl c bs as := by
    have : (bs.map fun v => rowS f N v - r v - (as.map fun u => fm f v u).sum) = bs.map fun v => (bs.map fun w => fm d v w).sum + (P.map fun q => (q.map fun w => fm d v w).sum).sum - (as.map fun w => fm c v w).sum := List.map_congr_left fun v _ => by
      have x1 : (bs.map fun w => fm d v w).sum = (bs.map fun w => fm f v w).sum - (bs.map fun w => fm c v w).sum := by rw [← sm_sub]
      have x2 : (P.map fun q => (q.map fun w => fm d v w).sum).sum = (P.map fun q => (q.map fun w => fm f v w).sum).sum - (P.map fun q => (q.map fun w => fm c v w).sum).sum := by
        rw [← sm_sub]
        congr 1
        exact List.map_congr_left fun q _ => by rw [← sm_sub]
      have x3 : rowS f N v = (as.map fun w => fm f v w).sum + (bs.map fun w => fm f v w).sum + (P.map fun q => (q.map fun w => fm f v w).sum).sum := by unfold rowS; rw [s1]
      rw [er v, x1, x2, x3]
      omega
    rw [this, sm_sub, sm_add]
    rw [sm_swap (fun v q => (List.map (fun w => fm d v w) q).sum) P bs]
    rfl
  have e3 : (P.map fun q => parF f r bs q % 2).sum ≤ (P.map fun q => dbl c as q).sum + (P.map fun q => dbl d bs q).sum := by
    rw [← sm_add]
    refine sm_le fun q hq => ?_
    have y1 : (q.map r).sum = dbl c q as + dbl c q bs + dbl c q q := by
      have : q.map r = q.map fun v => (as.map fun w => fm c v w).sum + (bs.map fun w => fm c v w).sum + (q.map fun w => fm c v w).sum := List.map_congr_left fun v hv => by
        rw [er v]
        congr 1
        have z : (P.map fun q' => (q'.map fun w => fm c v w).sum) = P.map fun q' => if q' = q then (q.map fun w => fm c v w).sum else 0 := List.map_congr_left fun q' hq' => by
          by_cases e : q' = q
          · subst e; rw [if_pos rfl]
          · rw [if_neg e]
            have : (q'.map fun w => fm c v w) = q'.map fun _ => (0 : Int) := List.map_congr_left fun w hw => clo q hq v hv q' hq' e w hw
            rw [this, sm_zero]
        rw [z, sm_change (fun _ => (0 : Int)) q _ ndP hq, sm_zero]
        omega
      rw [this, sm_add, sm_add]
      rfl
    have y2 := even_sq c0 q
    have y3 : dbl c q q = (q.map fun v => (q.map fun w => fm c v w).sum).sum := rfl
    have y4 := dbl_sym c q as
    have y5 : dbl d bs q = dbl f q bs - dbl c q bs := by
      rw [dbl_sym d bs q]
      unfold dbl
      rw [← sm_sub]
      congr 1
      exact List.map_congr_left fun v _ => by rw [← sm_sub]
    have y6 := dbl_pos hc0 as q
    have y7 := dbl_pos d0 bs q
    unfold parF
    rw [crS_dbl, y1]
    omega
  have e4 := dbl_sym c as bs
  have e5 := dbl_pos hc0 as as
  have e6 := dbl_pos d0 bs bs
  omega
/-! ### a tie more -/
end
end CL
set_option maxHeartbeats 4000000
namespace CL
open PySem L2 CT
local macro_rules | `(tactic| walk_at "w") => `(tactic| first | ((with_reducible apply gR); first | with_reducible refine w_var rfl ?_ | with_reducible apply w_cons | with_reducible apply w_c | with_reducible apply w_nil | with_reducible apply w_op | with_reducible apply w_ap | with_reducible apply w_call | with_reducible apply w_tst | with_reducible apply w_un | with_reducible apply w_tand | with_reducible apply w_tor | with_reducible apply w_tnot | with_reducible apply w_yes | with_reducible apply w_and | with_reducible apply w_or | with_reducible apply w_not | with_reducible apply w_if | with_reducible apply w_chain | with_reducible apply w_isi | with_reducible apply w_isi2 | with_reducible apply w_prop | with_reducible apply w_meth | with_reducible apply w_dget | with_reducible apply w_dnewF | with_reducible apply w_dnewT | with_reducible apply w_part | with_reducible apply w_noPart | with_reducible apply w_slLF | with_reducible apply w_slA | with_reducible apply w_ok | with_reducible apply w_ofO | with_reducible apply w_lcI | with_reducible apply w_seqI | with_reducible apply w_rng1 | with_reducible apply w_rng2 | with_reducible apply w_enum) | ((with_reducible apply gO); first | with_reducible apply wo_add | with_reducible apply wo_sub | with_reducible apply wo_lt | with_reducible apply wo_gt | with_reducible apply wo_eq | with_reducible apply wo_ne | with_reducible apply wo_le | with_reducible apply wo_ge | with_reducible apply wo_neg | with_reducible apply wo_eqS | with_reducible apply wo_neS | with_reducible apply wo_min | with_reducible apply wo_max | with_reducible apply wo_int | with_reducible apply wo_abs | with_reducible apply wo_tupL | with_reducible apply wo_tupT | with_reducible refine wo_tup (by with_unfolding_all rfl) ?_ | with_reducible refine wo_lstF (by with_unfolding_all rfl) ?_ | with_reducible refine wo_lstT (by with_unfolding_all rfl) ?_ | with_reducible apply wo_fld0 | with_reducible apply wo_fld1 | with_reducible apply wo_fld2 | with_reducible apply wo_fldW0 | with_reducible apply wo_fldW1 | with_reducible apply wo_fldW2) | ((with_reducible apply gS); first | with_reducible apply w_seq | with_reducible apply w_asg | with_reducible apply w_sif | with_reducible apply w_next | with_reducible apply w_ret | with_reducible apply w_par | with_reducible apply w_drop | with_reducible apply w_asgT | with_reducible apply w_retN | with_reducible apply w_brk | with_reducible apply w_cnt | with_reducible apply w_raise | with_reducible apply w_forI) | ((with_reducible apply gI); first | with_reducible apply wI_t | with_reducible apply wI_f | with_reducible apply wI_not) | with_reducible apply w_bl | with_reducible apply thn_nx | with_reducible apply w_int | with_reducible apply w_obj | with_reducible apply thn_rt | with_reducible apply lp_nx | with_reducible apply fnl_int | with_reducible apply fnl_bl | with_reducible apply fnl_non | with_reducible apply fnl_str | with_reducible apply fnl_nx | with_reducible apply thn_bk | with_reducible apply thn_ct | with_reducible apply thn_xc | with_reducible apply lp_rt | with_reducible apply lp_bk | with_reducible apply lp_xc | with_reducible apply w_itL | with_reducible apply w_itT | with_reducible apply w_itK)
local macro_rules | `(tactic| walk_at "p") => `(tactic| repeat walk_at "w")
/-! XK3: every_lots: all lots in order. -/
def mkC (N k v : Nat) : Nat := k / 3 ^ (N - 1 - v) % 3
def lotA (N k : Nat) : List Nat := (List.range N).filter fun v => decide (mkC N k v = 1)
def lotB (N k : Nat) : List Nat := (List.range N).filter fun v => decide (mkC N k v = 2)
def lotK (N k : Nat) : D := .tup [tD (lotA N k), tD (lotB N k)]
section
variable {Q : D → Store → Prop} {X : Exc → Store → Prop} {C : Store} {F : Fr} {P : RS → Prop}
def gvP (P : RS → Prop) : RS → Prop := fun r => match r with
  | .xc _ _ _ => False
  | r => P r
theorem w_gvX {m : MS} (h : wS (m F C) (gvP P)) : wS (gvX m F C) P := by
  have h := h.h
  unfold gvX
  cases e : m F C with
  | xc x sl C => rw [e] at h; exact h.elim
  | nx sl C => rw [e] at h; exact ⟨h⟩
  | ct sl C => rw [e] at h; exact ⟨h⟩
  | bk sl C => rw [e] at h; exact ⟨h⟩
  | rt d C => rw [e] at h; exact ⟨h⟩
  | stuck => rw [e] at h; exact ⟨h⟩
theorem gv_nx {sl : List (Option D)} (h : P (.nx sl C)) : gvP P (.nx sl C) := h
theorem w_gen {L : List Int → Option (List D)} {ma : MA} {Q : ItD → Store → Prop} {E : Exc → Store → Prop} (h : wR (ma F C) (fun ds C1 => ∃ ns xs, intsOf ds = some ns ∧ L ns = some xs ∧ pTL xs = true ∧ Q (itC xs) C1) E) : wR (mGen L ma F C) Q E :=
  w_bnd (w_mono h (fun ds C1 g => by obtain ⟨ns, xs, e1, e2, e3, q⟩ := g; simp only [e1, e2, e3, if_true]; exact w_ok q) fun _ _ z => z)
theorem genA_of {f : Nat → Option D} {d : Nat → D} : ∀ n, (∀ j, j < n → f j = some (d j)) → genA f n = some ((List.range n).map d)
  | 0, _ => rfl
  | n + 1, h => by
    unfold genA
    rw [genA_of n fun j hj => h j (by omega), h n (by omega), List.range_succ, List.map_append]
    rfl
theorem genL_of {np nn ci t : Nat} {mi me : ME} {mb : MS} {ns : List Int} {S : Store} (hl : ns.length = np) (e : mi ⟨0, genSl np nn ns⟩ [] = .ok (.int (t : Int)) S) (ht : t ≤ 1000) : genL np nn ci mi mb me ns = genA (genI np nn ci mb me ns) t := by
  have hb : (decide (0 ≤ (t : Int)) && decide ((t : Int) < 2 ^ 62)) = true := by
    rw [decide_eq_true (by omega), decide_eq_true (by omega)]
    rfl
  unfold genL
  rw [if_pos hl, e]
  simp only [hb, if_true, Int.toNat_natCast]
theorem pow_at {m : Nat} (h : m < 6) : (([1, 3, 9, 27, 81, 243] : List Int).map D.int)[m]? = some (.int ((3 ^ m : Nat) : Int)) := by
  match m, h with
  | 0, _ => rfl
  | 1, _ => rfl
  | 2, _ => rfl
  | 3, _ => rfl
  | 4, _ => rfl
  | 5, _ => rfl
theorem pow_le {m : Nat} (h : m < 6) : 0 < 3 ^ m ∧ 3 ^ m ≤ 243 := by
  match m, h with
  | 0, _ => decide
  | 1, _ => decide
  | 2, _ => decide
  | 3, _ => decide
  | 4, _ => decide
  | 5, _ => decide
theorem zip_rng {g : Nat → D} (N : Nat) : ((List.range ((List.range N).map g).length).zip ((List.range N).map g)).map (fun p => D.tup [.int (p.1 : Nat), p.2]) = (List.range N).map fun v => D.tup [.int (v : Nat), g v] := by
  apply List.ext_getElem?
  intro i
  by_cases hi : i < N
  · simp [hi]
  · rw [List.getElem?_eq_none (by simp; omega), List.getElem?_eq_none (by simp; omega)]
theorem mark_w {N j m : Nat} {sl : List (Option D)} (hN : N ≤ 5) (hs : sl = [some (.int N), some (.int j), some (.lst ((List.range N).map fun v => .int (mkC N j v : Nat))), sl[3]?.join, sl[4]?.join, none, none]) 
    (q : Q (.tup ((nI ((List.range N).filter fun v => decide (mkC N j v = m))))) []) :
    wR (mAp oTupOf (mCons (mLc false (mEnum (mVar 2)) (Tgt.tp [5, 6]).M (mTst (mOp (oEqA false) (mVar 6) (mC (.int m)))) (mVar 5) [5, 6]) mNil) ⟨0, sl⟩ []) Q X := by
  rw [hs]
  walk_at "p"
  refine lc_p (pure_P (pure_C _)) (fun x => match x with | .tup [_, .int i] => decide (i = m) | _ => false) (fun x => match x with | .tup [v, _] => v | _ => .non) (by simp; omega) (fun x hx => ?_) (fun x hx _ => ?_) ?_
  · rw [zip_rng] at hx
    obtain ⟨v, hv, rfl⟩ := List.mem_map.mp hx
    refine ⟨_, rfl, fun acc => ⟨?_, fun _ => ?_⟩⟩
    · walk_at "p"
      exact ⟨rfl, rfl⟩
    · walk_at "p"
      exact ⟨rfl, rfl⟩
  · rw [zip_rng] at hx
    obtain ⟨v, hv, rfl⟩ := List.mem_map.mp hx
    rfl
  · rw [zip_rng, List.filter_map, List.map_map]
    have e : (List.filter ((fun x => match x with | D.tup [_, .int i] => decide (i = (m : Int)) | _ => false) ∘ fun v => D.tup [.int (v : Nat), .int (mkC N j v : Nat)]) (List.range N)) = (List.range N).filter fun v => decide (mkC N j v = m) := List.filter_congr fun v _ => by
      show decide (((mkC N j v : Nat) : Int) = (m : Int)) = _
      rw [decide_eq_decide]
      omega
    rw [e]
    walk_at "p"
    exact q
theorem turn_w {N j : Nat} (hN : N ≤ 5) : gb_every_lots ⟨0, [some (.int N), some (.int j), none, none, none, none, none]⟩ [] = .nx [some (.int N), some (.int j), some (.lst ((List.range N).map fun v => .int (mkC N j v : Nat))), some (tD (lotA N j)), some (tD (lotB N j)), none, none] [] := by
  have W : wS (gb_every_lots ⟨0, [some (.int N), some (.int j), none, none, none, none, none]⟩ []) (fun r => r = .nx [some (.int N), some (.int j), some (.lst ((List.range N).map fun v => .int (mkC N j v : Nat))), some (tD (lotA N j)), some (tD (lotB N j)), none, none] []) := by
    unfold gb_every_lots b_every_lots_0
    walk_at "p"
    refine ⟨inR_of (by omega) (by omega), ?_⟩
    refine lc_p (pure_R 0 _) (fun _ => true) (fun x => match x with | .int v => .int (mkC N j v.toNat : Nat) | _ => .non) (by simp [rngI]; omega) (fun x hx => ?_) (fun x hx _ => ?_) ?_
    · obtain ⟨v, hv, rfl⟩ := List.mem_map.mp hx
      have hv := List.mem_range.mp hv
      refine ⟨_, rfl, fun acc => ⟨w_yes ⟨rfl, rfl⟩, fun _ => ?_⟩⟩
      walk_at "p"
      have hm : N - 1 - v < 6 := by omega
      refine wo_ix (xs := ([1, 3, 9, 27, 81, 243] : List Int).map D.int) (k := N - 1 - v) rfl (by omega) (pow_at hm) ?_
      walk_at "p"
      have hp := pow_le hm
      refine wo_div (by omega) (by omega) ?_
      walk_at "p"
      refine wo_mod (by decide) ?_
      refine ⟨?_, rfl⟩
      show D.int _ = D.int _
      congr 1
      have : (0 + (v : Int)).toNat = v := by omega
      rw [this]
      unfold mkC
      rw [Int.natCast_emod, Int.natCast_ediv]
      rfl
    · obtain ⟨v, hv, rfl⟩ := List.mem_map.mp hx
      rfl
    · have e : ((rngI 0 ((N : Int).toNat)).filter fun _ => true).map (fun x => match x with | .int v => D.int (mkC N j v.toNat : Nat) | _ => .non) = (List.range N).map fun v => .int (mkC N j v : Nat) := by
        rw [filter_yes, rngI, List.map_map]
        have : (N : Int).toNat = N := by omega
        rw [this]
        refine List.map_congr_left fun v _ => ?_
        show D.int ((mkC N j (0 + (v : Int)).toNat : Nat) : Int) = _
        rw [show (0 + (v : Int)).toNat = v by omega]
      rw [e]
      walk_at "p"
      unfold b_every_lots_1
      walk_at "w"
      refine mark_w (m := 1) hN rfl ?_
      walk_at "p"
      unfold b_every_lots_2
      walk_at "w"
      refine mark_w (m := 2) hN rfl ?_
      rfl
  exact W.h
theorem genI_of {np nn ci j : Nat} {me : ME} {mb : MS} {ns : List Int} {S S2 : Store} {sl : List (Option D)} {d : D} (em : mb ⟨0, (genSl np nn ns).set ci (some (.int (j : Int)))⟩ [] = .nx sl S) (ek : keepsB ns sl = true) (ee : me ⟨0, sl⟩ S = .ok d S2) (ec : cb 0 d = true) : genI np nn ci mb me ns j = some d := by
  unfold genI
  rw [em]
  simp only [ek, ee, ec, if_true]
theorem keep_one (n : Int) (l : List (Option D)) : keepsB [n] (some (.int n) :: l) = true := by simp [keepsB]
theorem ge_is {N j : Nat} {a b c : D} : ge_every_lots ⟨0, [some (.int N), some (.int j), some a, some b, some c, none, none]⟩ [] = .ok (.tup [b, c]) [] := rfl
theorem cb_lot (n N j : Nat) : cb n (lotK N j) = true := by simp [lotK, tD, cb, cbL, cb_nI]
theorem genI_is {N j : Nat} (hN : N ≤ 5) : genI 1 7 1 gb_every_lots ge_every_lots [(N : Int)] j = some (lotK N j) :=
  genI_of (turn_w hN) (keep_one _ _) ge_is (cb_lot 0 N j)
theorem lots_law {N : Nat} (hN : N ≤ 5) : L_every_lots [(N : Int)] = some ((List.range (3 ^ N)).map (lotK N)) := by
  have e : gi_every_lots ⟨0, genSl 1 7 [(N : Int)]⟩ [] = .ok (.int ((3 ^ N : Nat) : Int)) [] := by
    have W : wR (gi_every_lots ⟨0, genSl 1 7 [(N : Int)]⟩ []) (fun d C' => d = .int ((3 ^ N : Nat) : Int) ∧ C' = []) noX := by
      show wR (gi_every_lots ⟨0, [some (.int N), none, none, none, none, none, none]⟩ []) _ _
      unfold gi_every_lots
      walk_at "p"
      exact wo_ix (xs := ([1, 3, 9, 27, 81, 243] : List Int).map D.int) (k := N) rfl rfl (pow_at (by omega)) ⟨rfl, rfl⟩
    exact w_eqv W
  have hp := pow_le (m := N) (by omega)
  unfold L_every_lots
  rw [genL_of (np := 1) rfl e (by omega)]
  exact genA_of _ fun j _ => genI_is hN
theorem pT_nI (l : List Nat) : pTL (nI l) = true := by
  induction l with
  | nil => rfl
  | cons x l ih => simp only [nI, List.map_cons, pTL, pT, Bool.true_and]; exact ih
theorem pT_lots (N : Nat) (l : List Nat) : pTL (l.map (lotK N)) = true := by
  induction l with
  | nil => rfl
  | cons x l ih => simp [lotK, tD, pTL, pT, pT_nI, ih]
/-- for lots in every_lots(..): -/
theorem w_lots {ma : MA} {N : Nat} {Q : ItD → Store → Prop} {E : Exc → Store → Prop} (hN : N ≤ 5) (h : wR (ma F C) (fun ds C1 => ds = [.int N] ∧ Q (itC ((List.range (3 ^ N)).map (lotK N))) C1) E) : wR (mGen L_every_lots ma F C) Q E :=
  w_gen (w_mono h (fun ds C1 g => by obtain ⟨rfl, q⟩ := g; exact ⟨[(N : Int)], _, rfl, lots_law hN, pT_lots N _, q⟩) fun _ _ z => z)
theorem lot_ok (N k : Nat) : LotsOk N (lotA N k) (lotB N k) := by
  refine ⟨fun v h => List.mem_range.mp (List.mem_filter.mp h).1, fun v h => List.mem_range.mp (List.mem_filter.mp h).1, List.nodup_range.filter _, List.nodup_range.filter _, fun v h1 h2 => ?_⟩
  have h1 := of_decide_eq_true (List.mem_filter.mp h1).2
  have h2 := of_decide_eq_true (List.mem_filter.mp h2).2
  omega
theorem lotA_up (N k : Nat) : (lotA N k).Pairwise (· < ·) := List.pairwise_lt_range.sublist List.filter_sublist
end
end CL
set_option maxHeartbeats 4000000
namespace CL
open PySem L2 CT
local macro_rules | `(tactic| walk_at "w") => `(tactic| first | ((with_reducible apply gR); first | with_reducible refine w_var rfl ?_ | with_reducible apply w_cons | with_reducible apply w_c | with_reducible apply w_nil | with_reducible apply w_op | with_reducible apply w_ap | with_reducible apply w_call | with_reducible apply w_tst | with_reducible apply w_un | with_reducible apply w_tand | with_reducible apply w_tor | with_reducible apply w_tnot | with_reducible apply w_yes | with_reducible apply w_and | with_reducible apply w_or | with_reducible apply w_not | with_reducible apply w_if | with_reducible apply w_chain | with_reducible apply w_isi | with_reducible apply w_isi2 | with_reducible apply w_prop | with_reducible apply w_meth | with_reducible apply w_dget | with_reducible apply w_dnewF | with_reducible apply w_dnewT | with_reducible apply w_part | with_reducible apply w_noPart | with_reducible apply w_slLF | with_reducible apply w_slA | with_reducible apply w_ok | with_reducible apply w_ofO | with_reducible apply w_lcI | with_reducible apply w_seqI | with_reducible apply w_rng1 | with_reducible apply w_rng2 | with_reducible apply w_enum) | ((with_reducible apply gO); first | with_reducible apply wo_add | with_reducible apply wo_sub | with_reducible apply wo_lt | with_reducible apply wo_gt | with_reducible apply wo_eq | with_reducible apply wo_ne | with_reducible apply wo_le | with_reducible apply wo_ge | with_reducible apply wo_neg | with_reducible apply wo_eqS | with_reducible apply wo_neS | with_reducible apply wo_min | with_reducible apply wo_max | with_reducible apply wo_int | with_reducible apply wo_abs | with_reducible apply wo_tupL | with_reducible apply wo_tupT | with_reducible refine wo_tup (by with_unfolding_all rfl) ?_ | with_reducible refine wo_lstF (by with_unfolding_all rfl) ?_ | with_reducible refine wo_lstT (by with_unfolding_all rfl) ?_ | with_reducible apply wo_fld0 | with_reducible apply wo_fld1 | with_reducible apply wo_fld2 | with_reducible apply wo_fldW0 | with_reducible apply wo_fldW1 | with_reducible apply wo_fldW2) | ((with_reducible apply gS); first | with_reducible apply w_seq | with_reducible apply w_asg | with_reducible apply w_sif | with_reducible apply w_next | with_reducible apply w_ret | with_reducible apply w_par | with_reducible apply w_drop | with_reducible apply w_asgT | with_reducible apply w_retN | with_reducible apply w_brk | with_reducible apply w_cnt | with_reducible apply w_raise | with_reducible apply w_forI) | ((with_reducible apply gI); first | with_reducible apply wI_t | with_reducible apply wI_f | with_reducible apply wI_not) | with_reducible apply w_bl | with_reducible apply thn_nx | with_reducible apply w_int | with_reducible apply w_obj | with_reducible apply thn_rt | with_reducible apply lp_nx | with_reducible apply fnl_int | with_reducible apply fnl_bl | with_reducible apply fnl_non | with_reducible apply fnl_str | with_reducible apply fnl_nx | with_reducible apply thn_bk | with_reducible apply thn_ct | with_reducible apply thn_xc | with_reducible apply lp_rt | with_reducible apply lp_bk | with_reducible apply lp_xc | with_reducible apply w_itL | with_reducible apply w_itT | with_reducible apply w_itK)
local macro_rules | `(tactic| walk_at "p") => `(tactic| repeat walk_at "w")
/-! XK4p: the lack of a row: plain part. -/
def lstF (g : Nat → Int) : Nat → Int
  | 0 => g 0
  | n + 1 => min (lstF g n) (g (n + 1))
theorem lstF_le {g : Nat → Int} : ∀ {n k : Nat}, k ≤ n → lstF g n ≤ g k
  | 0, k, h => by
    have : k = 0 := by omega
    subst this
    exact Int.le_refl _
  | n + 1, k, h => by
    unfold lstF
    by_cases e : k = n + 1
    · subst e; omega
    · have := lstF_le (g := g) (n := n) (k := k) (by omega)
      omega
theorem lstF_at (g : Nat → Int) : ∀ n, ∃ k, k ≤ n ∧ lstF g n = g k
  | 0 => ⟨0, Nat.le_refl _, rfl⟩
  | n + 1 => by
    obtain ⟨k, h1, h2⟩ := lstF_at g n
    unfold lstF
    by_cases e : lstF g n ≤ g (n + 1)
    · exact ⟨k, by omega, by rw [← h2]; omega⟩
    · exact ⟨n + 1, Nat.le_refl _, by omega⟩
noncomputable def excE (f : Int × Int → Int) (N : Nat) (r : Nat → Int) (k : Nat) : Int := excF f N r (lotA N k) (lotB N k)
noncomputable def lkE (f : Int × Int → Int) (N : Nat) (r : Nat → Int) : Int := lstF (excE f N r) (3 ^ N - 1)
def rF (ns : List Int) : Nat → Int := fun v => ns.getD v 0
section
variable {N : Nat} {f f' c : Int × Int → Int} {r r' : Nat → Int} {ns : List Int} {as bs : List Nat}
theorem pow_pos3 (N : Nat) : 0 < 3 ^ N := Nat.pow_pos (by decide)
theorem lk_le {k : Nat} (hk : k < 3 ^ N) : lkE f N r ≤ excE f N r k := lstF_le (by omega)
theorem lk_at (f : Int × Int → Int) (N : Nat) (r : Nat → Int) : ∃ k, k < 3 ^ N ∧ lkE f N r = excE f N r k := by
  obtain ⟨k, h1, h2⟩ := lstF_at (excE f N r) (3 ^ N - 1)
  have := pow_pos3 N
  exact ⟨k, by omega, h2⟩
theorem lk_min {k : Nat} (hk : k < 3 ^ N) (h : ∀ i, i < 3 ^ N → excE f N r k ≤ excE f N r i) : excE f N r k = lkE f N r := by
  obtain ⟨i, h1, h2⟩ := lk_at f N r
  have := h i h1
  have := lk_le (f := f) (r := r) hk
  omega
theorem lk_par (h0 : ∀ v : Nat, fm f v v = 0) : lkE f N r % 2 = ((List.range N).map r).sum % 2 := by
  obtain ⟨k, hk, e⟩ := lk_at f N r
  rw [e]
  exact exc_par (lot_ok N k) h0
theorem mk_zero (N v : Nat) : mkC N 0 v = 0 := by simp [mkC]
theorem lot0 (N : Nat) : lotA N 0 = [] ∧ lotB N 0 = [] := by
  refine ⟨List.filter_eq_nil_iff.mpr fun v _ => ?_, List.filter_eq_nil_iff.mpr fun v _ => ?_⟩ <;> simp [mk_zero]
theorem exc0 : excE f N r 0 ≤ 0 := by
  unfold excE
  rw [(lot0 N).1, (lot0 N).2]
  unfold excF
  have : 0 ≤ ((pcs N (adj f) (opn [] [])).map fun c => parF f r [] c % 2).sum := sm_pos fun c _ => by omega
  simp only [List.map_nil, List.sum_nil]
  omega
theorem lk_granted (hc0 : ∀ u v : Nat, 0 ≤ fm c u v) (hcf : ∀ u v : Nat, fm c u v ≤ fm f u v) (h0 : ∀ v : Nat, fm f v v = 0) (hr : ∀ v, r v = rowS c N v) : lkE f N r = 0 := by
  obtain ⟨k, hk, e⟩ := lk_at f N r
  have h1 := exc_ge (lot_ok N k) hc0 hcf h0 hr
  have h2 := exc0 (f := f) (N := N) (r := r)
  have h3 := lk_le (f := f) (r := r) (pow_pos3 N)
  unfold excE at e
  omega
theorem lot_len (N k : Nat) : (lotA N k).length ≤ N ∧ (lotB N k).length ≤ N := by
  have h1 := List.length_filter_le (fun v => decide (mkC N k v = 1)) (List.range N)
  have h2 := List.length_filter_le (fun v => decide (mkC N k v = 2)) (List.range N)
  rw [List.length_range] at h1 h2
  exact ⟨h1, h2⟩
end
end CL
set_option maxHeartbeats 4000000
namespace CL
open PySem L2 CT
local macro_rules | `(tactic| walk_at "w") => `(tactic| first | ((with_reducible apply gR); first | with_reducible refine w_var rfl ?_ | with_reducible apply w_cons | with_reducible apply w_c | with_reducible apply w_nil | with_reducible apply w_op | with_reducible apply w_ap | with_reducible apply w_call | with_reducible apply w_tst | with_reducible apply w_un | with_reducible apply w_tand | with_reducible apply w_tor | with_reducible apply w_tnot | with_reducible apply w_yes | with_reducible apply w_and | with_reducible apply w_or | with_reducible apply w_not | with_reducible apply w_if | with_reducible apply w_chain | with_reducible apply w_isi | with_reducible apply w_isi2 | with_reducible apply w_prop | with_reducible apply w_meth | with_reducible apply w_dget | with_reducible apply w_dnewF | with_reducible apply w_dnewT | with_reducible apply w_part | with_reducible apply w_noPart | with_reducible apply w_slLF | with_reducible apply w_slA | with_reducible apply w_ok | with_reducible apply w_ofO | with_reducible apply w_lcI | with_reducible apply w_seqI | with_reducible apply w_rng1 | with_reducible apply w_rng2 | with_reducible apply w_enum) | ((with_reducible apply gO); first | with_reducible apply wo_add | with_reducible apply wo_sub | with_reducible apply wo_lt | with_reducible apply wo_gt | with_reducible apply wo_eq | with_reducible apply wo_ne | with_reducible apply wo_le | with_reducible apply wo_ge | with_reducible apply wo_neg | with_reducible apply wo_eqS | with_reducible apply wo_neS | with_reducible apply wo_min | with_reducible apply wo_max | with_reducible apply wo_int | with_reducible apply wo_abs | with_reducible apply wo_tupL | with_reducible apply wo_tupT | with_reducible refine wo_tup (by with_unfolding_all rfl) ?_ | with_reducible refine wo_lstF (by with_unfolding_all rfl) ?_ | with_reducible refine wo_lstT (by with_unfolding_all rfl) ?_ | with_reducible apply wo_fld0 | with_reducible apply wo_fld1 | with_reducible apply wo_fld2 | with_reducible apply wo_fldW0 | with_reducible apply wo_fldW1 | with_reducible apply wo_fldW2) | ((with_reducible apply gS); first | with_reducible apply w_seq | with_reducible apply w_asg | with_reducible apply w_sif | with_reducible apply w_next | with_reducible apply w_ret | with_reducible apply w_par | with_reducible apply w_drop | with_reducible apply w_asgT | with_reducible apply w_retN | with_reducible apply w_brk | with_reducible apply w_cnt | with_reducible apply w_raise | with_reducible apply w_forI) | ((with_reducible apply gI); first | with_reducible apply wI_t | with_reducible apply wI_f | with_reducible apply wI_not) | with_reducible apply w_bl | with_reducible apply thn_nx | with_reducible apply w_int | with_reducible apply w_obj | with_reducible apply thn_rt | with_reducible apply lp_nx | with_reducible apply fnl_int | with_reducible apply fnl_bl | with_reducible apply fnl_non | with_reducible apply fnl_str | with_reducible apply fnl_nx | with_reducible apply thn_bk | with_reducible apply thn_ct | with_reducible apply thn_xc | with_reducible apply lp_rt | with_reducible apply lp_bk | with_reducible apply lp_xc | with_reducible apply w_itL | with_reducible apply w_itT | with_reducible apply w_itK)
local macro_rules | `(tactic| walk_at "p") => `(tactic| repeat walk_at "w")
/-! LOTF: lots by marks; sums over the marked. -/
theorem lot_fil (S T : Nat → Bool) (dj : ∀ x, S x = true → T x = false) : ∀ N : Nat, ∃ k, k < 3 ^ N ∧ ∀ v, v < N → mkC N k v = if S v then 1 else if T v then 2 else 0
  | 0 => ⟨0, by decide, fun v hv => by omega⟩
  | N + 1 => by
    obtain ⟨k, hk, e⟩ := lot_fil S T dj N
    have h3 : 3 ^ (N + 1) = 3 * 3 ^ N := by rw [Nat.pow_succ, Nat.mul_comm]
    obtain ⟨d, hd, ed⟩ : ∃ d : Nat, d < 3 ∧ d = if S N then 1 else if T N then 2 else 0 := by
      cases S N <;> cases T N <;> simp
    refine ⟨3 * k + d, by omega, fun v hv => ?_⟩
    by_cases c : v = N
    · subst c
      rw [← ed]
      unfold mkC
      rw [show v + 1 - 1 - v = 0 by omega]
      simp
      omega
    · have hv2 : v < N := by omega
      rw [← e v hv2]
      unfold mkC
      have p1 : 3 ^ (N + 1 - 1 - v) = 3 * 3 ^ (N - 1 - v) := by rw [show N + 1 - 1 - v = (N - 1 - v) + 1 by omega, Nat.pow_succ, Nat.mul_comm]
      rw [p1, ← Nat.div_div_eq_div_mul, show (3 * k + d) / 3 = k by omega]
end CL
set_option maxHeartbeats 4000000
namespace CL
open PySem L2 CT
local macro_rules | `(tactic| walk_at "w") => `(tactic| first | ((with_reducible apply gR); first | with_reducible refine w_var rfl ?_ | with_reducible apply w_cons | with_reducible apply w_c | with_reducible apply w_nil | with_reducible apply w_op | with_reducible apply w_ap | with_reducible apply w_call | with_reducible apply w_tst | with_reducible apply w_un | with_reducible apply w_tand | with_reducible apply w_tor | with_reducible apply w_tnot | with_reducible apply w_yes | with_reducible apply w_and | with_reducible apply w_or | with_reducible apply w_not | with_reducible apply w_if | with_reducible apply w_chain | with_reducible apply w_isi | with_reducible apply w_isi2 | with_reducible apply w_prop | with_reducible apply w_meth | with_reducible apply w_dget | with_reducible apply w_dnewF | with_reducible apply w_dnewT | with_reducible apply w_part | with_reducible apply w_noPart | with_reducible apply w_slLF | with_reducible apply w_slA | with_reducible apply w_ok | with_reducible apply w_ofO | with_reducible apply w_lcI | with_reducible apply w_seqI | with_reducible apply w_rng1 | with_reducible apply w_rng2 | with_reducible apply w_enum) | ((with_reducible apply gO); first | with_reducible apply wo_add | with_reducible apply wo_sub | with_reducible apply wo_lt | with_reducible apply wo_gt | with_reducible apply wo_eq | with_reducible apply wo_ne | with_reducible apply wo_le | with_reducible apply wo_ge | with_reducible apply wo_neg | with_reducible apply wo_eqS | with_reducible apply wo_neS | with_reducible apply wo_min | with_reducible apply wo_max | with_reducible apply wo_int | with_reducible apply wo_abs | with_reducible apply wo_tupL | with_reducible apply wo_tupT | with_reducible refine wo_tup (by with_unfolding_all rfl) ?_ | with_reducible refine wo_lstF (by with_unfolding_all rfl) ?_ | with_reducible refine wo_lstT (by with_unfolding_all rfl) ?_ | with_reducible apply wo_fld0 | with_reducible apply wo_fld1 | with_reducible apply wo_fld2 | with_reducible apply wo_fldW0 | with_reducible apply wo_fldW1 | with_reducible apply wo_fldW2) | ((with_reducible apply gS); first | with_reducible apply w_seq | with_reducible apply w_asg | with_reducible apply w_sif | with_reducible apply w_next | with_reducible apply w_ret | with_reducible apply w_par | with_reducible apply w_drop | with_reducible apply w_asgT | with_reducible apply w_retN | with_reducible apply w_brk | with_reducible apply w_cnt | with_reducible apply w_raise | with_reducible apply w_forI) | ((with_reducible apply gI); first | with_reducible apply wI_t | with_reducible apply wI_f | with_reducible apply wI_not) | with_reducible apply w_bl | with_reducible apply thn_nx | with_reducible apply w_int | with_reducible apply w_obj | with_reducible apply thn_rt | with_reducible apply lp_nx | with_reducible apply fnl_int | with_reducible apply fnl_bl | with_reducible apply fnl_non | with_reducible apply fnl_str | with_reducible apply fnl_nx | with_reducible apply thn_bk | with_reducible apply thn_ct | with_reducible apply thn_xc | with_reducible apply lp_rt | with_reducible apply lp_bk | with_reducible apply lp_xc | with_reducible apply w_itL | with_reducible apply w_itT | with_reducible apply w_itK)
local macro_rules | `(tactic| walk_at "p") => `(tactic| repeat walk_at "w")
/-! FR1: complete webs: the lack is 0 exactly if no front is below 0. -/
def frontI (c : Int) (ns : List Int) (k : Nat) : Int := c * k * (k - 1) + (((fallI ns).drop k).map fun x => min (c * k) x).sum - ((fallI ns).take k).sum
def holdsI (c : Int) (ns : List Int) : Bool := (List.range ns.length).all fun k => decide (0 ≤ frontI c ns (k + 1))
theorem fall_same {ns ms : List Int} (p : ms.Perm ns) : fallI ms = fallI ns := fall_uq ((fall_perm ms).trans p) (fall_ord ms)
theorem holds_same {c : Int} {ns ms : List Int} (p : ms.Perm ns) : holdsI c ms = holdsI c ns := by
  unfold holdsI frontI
  rw [fall_same p, p.length_eq]
section
variable {N : Nat} {f : Int × Int → Int} {ns : List Int} {c : Int}
/-- the places, by falling integers -/
def plcs (r : Nat → Int) (N : Nat) : List Nat := (List.range N).mergeSort fun u v => decide (r v ≤ r u)
theorem plcs_perm (r : Nat → Int) (N : Nat) : (plcs r N).Perm (List.range N) := List.mergeSort_perm _ _
theorem plcs_ord (r : Nat → Int) (N : Nat) : (plcs r N).Pairwise fun u v => r v ≤ r u := by
  have := List.pairwise_mergeSort (le := fun u v : Nat => decide (r v ≤ r u)) (fun a b c h1 h2 => by simp at *; omega) (fun a b => by simp; omega) (List.range N)
  exact this.imp fun h => by simpa using h
theorem rng_rF (ns : List Int) : (List.range ns.length).map (rF ns) = ns := by
  refine List.ext_getElem (by simp) fun i h1 h2 => ?_
  rw [List.getElem_map, List.getElem_range]
  unfold rF
  rw [List.getD_eq_getElem?_getD, List.getElem?_eq_getElem h2]
  rfl
theorem plcs_fall (hn : ns.length = N) : (plcs (rF ns) N).map (rF ns) = fallI ns := by
  refine fall_uq ?_ ?_
  · refine ((plcs_perm (rF ns) N).map _).trans ?_
    rw [← hn]
    exact List.Perm.of_eq (rng_rF ns)
  · rw [List.pairwise_map]
    exact plcs_ord (rF ns) N
/-- of so many places the first ones have most -/
theorem top_sum {r : Nat → Int} {g : Int → Int} (hg : ∀ x y, x ≤ y → g x ≤ g y) (T : Nat → Bool) : ∀ P : List Nat, P.Pairwise (fun u v => r v ≤ r u) → ((P.filter T).map fun v => g (r v)).sum ≤ ((P.take (P.filter T).length).map fun v => g (r v)).sum
  | [], _ => by simp
  | x :: P, h => by
    obtain ⟨h1, h2⟩ := List.pairwise_cons.mp h
    have ih := top_sum hg T P h2
    cases e : T x with
    | true =>
      rw [List.filter_cons_of_pos e, List.length_cons, List.take_succ_cons, List.map_cons, List.map_cons, List.sum_cons, List.sum_cons]
      omega
    | false =>
      rw [List.filter_cons_of_neg (by rw [e]; decide)]
      refine Int.le_trans ih ?_
      have hl := List.length_filter_le T P
      generalize (P.filter T).length = k at hl
      cases k with
      | zero => simp
      | succ j =>
        have e2 := List.getElem?_eq_getElem (l := P) (i := j) (by omega)
        rw [List.take_succ_cons, List.map_cons, List.sum_cons, List.take_succ, e2]
        have := hg _ _ (h1 P[j] (List.getElem_mem _))
        simp only [Option.toList_some, List.map_append, List.map_cons, List.map_nil, List.sum_append, List.sum_cons, List.sum_nil]
        omega
theorem cst_sum {α : Type} (x : Int) : ∀ l : List α, (l.map fun _ => x).sum = x * l.length
  | [] => by simp
  | a :: l => by
    rw [List.map_cons, List.sum_cons, cst_sum x l, List.length_cons]
    push_cast
    rw [Int.mul_add]
    omega
theorem row_cst (hc : ∀ u v, u < N → v < N → u ≠ v → fm f u v = c) (h0 : ∀ v : Nat, fm f v v = 0) {v : Nat} (hv : v < N) : rowS f N v = c * (N - 1) := by
  unfold rowS
  have e : ((List.range N).map fun w => fm f v w) = (List.range N).map fun w => if w = v then 0 else (fun _ => c) w := List.map_congr_left fun w hw => by
    by_cases z : w = v
    · rw [if_pos z, z, h0]
    · rw [if_neg z, hc v w hv (List.mem_range.mp hw) (Ne.symm z)]
  rw [e, sm_change (fun _ => c) v 0 List.nodup_range (List.mem_range.mpr hv), cst_sum, List.length_range, Int.mul_sub]
  omega
/-- the excess but for the odd pieces -/
theorem exc_cst (hc : ∀ u v, u < N → v < N → u ≠ v → fm f u v = c) (h0 : ∀ v : Nat, fm f v v = 0) {as bs : List Nat} (ok : LotsOk N as bs) (r : Nat → Int) : (as.map r).sum + (bs.map fun v => rowS f N v - r v - (as.map fun u => fm f v u).sum).sum = (as.map r).sum + c * (N - 1 - as.length) * bs.length - (bs.map r).sum := by
  have e : (bs.map fun v => rowS f N v - r v - (as.map fun u => fm f v u).sum) = bs.map fun v => c * (N - 1 - as.length) - r v := List.map_congr_left fun v hv => by
    have e2 : (as.map fun u => fm f v u) = as.map fun _ => c := List.map_congr_left fun u hu => hc v u (ok.b v hv) (ok.a u hu) fun z => ok.d u hu (z ▸ hv)
    rw [row_cst hc h0 (ok.b v hv), e2, cst_sum, Int.mul_sub c ((N : Int) - 1) as.length]
    omega
  rw [e, sm_sub, cst_sum]
  omega
theorem front_le (hc : ∀ u v, u < N → v < N → u ≠ v → fm f u v = c) (h0 : ∀ v : Nat, fm f v v = 0) (hn : ns.length = N) {k : Nat} (hk : k ≤ N) : lkE f N (rF ns) ≤ frontI c ns k := by
  obtain ⟨r, hr⟩ : ∃ r, r = rF ns := ⟨_, rfl⟩
  have pf := plcs_fall hn
  rw [← hr] at pf ⊢
  have pp := plcs_perm r N
  generalize plcs r N = P at pf pp
  have Pn : P.Nodup := pp.nodup_iff.mpr List.nodup_range
  have Pl : P.length = N := by rw [pp.length_eq, List.length_range]
  have e0 : P.take k ++ P.drop k = P := List.take_append_drop k P
  have nd := Pn
  rw [← e0] at nd
  obtain ⟨n1, n2, n3⟩ := List.nodup_append.mp nd
  obtain ⟨T, hT⟩ : ∃ T : Nat → Bool, T = fun v => decide (v ∈ P.take k) := ⟨_, rfl⟩
  obtain ⟨S, hS⟩ : ∃ S : Nat → Bool, S = fun v => decide (v ∈ P.drop k ∧ r v ≤ c * k) := ⟨_, rfl⟩
  have dj : ∀ x, S x = true → T x = false := fun x hx => by
    rw [hS] at hx
    rw [hT]
    have := (of_decide_eq_true hx).1
    exact decide_eq_false fun z => n3 x z x this rfl
  obtain ⟨i, hi, mk⟩ := lot_fil S T dj N
  have eA : lotA N i = (List.range N).filter S := List.filter_congr fun v hv => by
    rw [mk v (List.mem_range.mp hv)]
    cases hs : S v <;> cases ht : T v <;> simp
  have eB : lotB N i = (List.range N).filter T := List.filter_congr fun v hv => by
    rw [mk v (List.mem_range.mp hv)]
    cases hs : S v with
    | true => simp [dj v hs]
    | false => cases ht : T v <;> simp
  have pT : (lotB N i).Perm (P.take k) := by
    rw [eB]
    refine (List.Perm.filter T pp.symm).trans ?_
    have e1 : P.filter T = (P.take k).filter T ++ (P.drop k).filter T := by rw [← List.filter_append, e0]
    rw [e1]
    have a1 : (P.take k).filter T = P.take k := List.filter_eq_self.mpr fun v hv => by rw [hT]; exact decide_eq_true hv
    have a2 : (P.drop k).filter T = [] := List.filter_eq_nil_iff.mpr fun v hv z => by
      rw [hT] at z
      exact n3 v (of_decide_eq_true z) v hv rfl
    rw [a1, a2, List.append_nil]
  have pS : (lotA N i).Perm ((P.drop k).filter fun v => decide (r v ≤ c * k)) := by
    rw [eA]
    refine (List.Perm.filter S pp.symm).trans ?_
    have e1 : P.filter S = (P.take k).filter S ++ (P.drop k).filter S := by rw [← List.filter_append, e0]
    rw [e1]
    have a1 : (P.take k).filter S = [] := List.filter_eq_nil_iff.mpr fun v hv z => by
      rw [hS] at z
      exact n3 v hv v (of_decide_eq_true z).1 rfl
    have a2 : (P.drop k).filter S = (P.drop k).filter fun v => decide (r v ≤ c * k) := List.filter_congr fun v hv => by
      rw [hS]
      simp [hv]
    rw [a1, a2, List.nil_append]
  have le := lk_le (f := f) (r := r) hi
  unfold excE excF at le
  have od : 0 ≤ ((pcs N (adj f) (opn (lotA N i) (lotB N i))).map fun c => parF f r (lotB N i) c % 2).sum := sm_pos fun c _ => by omega
  have ec := exc_cst hc h0 (lot_ok N i) r
  rw [ec, sm_perm pT, sm_perm pS, pT.length_eq, pS.length_eq] at le
  -- the sums
  have t1 : ((P.take k).map r).sum = ((fallI ns).take k).sum := by rw [← pf, List.map_take]
  have d1 : (((fallI ns).drop k).map fun x => min (c * k) x).sum = ((P.drop k).map fun v => min (c * k) (r v)).sum := by
    rw [← pf, ← List.map_drop, List.map_map]
    rfl
  have d2 : ((P.drop k).map fun v => min (c * k) (r v)).sum = (((P.drop k).filter fun v => decide (r v ≤ c * k)).map r).sum + c * k * ((P.drop k).length - ((P.drop k).filter fun v => decide (r v ≤ c * k)).length) := by
    have : ∀ l : List Nat, (l.map fun v => min (c * k) (r v)).sum = ((l.filter fun v => decide (r v ≤ c * k)).map r).sum + c * k * (l.length - (l.filter fun v => decide (r v ≤ c * k)).length) := by
      intro l
      induction l with
      | nil => simp
      | cons x l ih =>
        rw [List.map_cons, List.sum_cons, ih]
        by_cases z : r x ≤ c * k
        · have e1 : (x :: l).filter (fun v => decide (r v ≤ c * k)) = x :: l.filter (fun v => decide (r v ≤ c * k)) := by simp [List.filter_cons, z]
          rw [e1, List.map_cons, List.sum_cons, List.length_cons, List.length_cons, show min (c * (k : Int)) (r x) = r x by omega]
          push_cast
          rw [show ((l.length : Int) + 1 - (((l.filter fun v => decide (r v ≤ c * k)).length : Int) + 1)) = l.length - (l.filter fun v => decide (r v ≤ c * k)).length by omega]
          omega
        · have e1 : (x :: l).filter (fun v => decide (r v ≤ c * k)) = l.filter (fun v => decide (r v ≤ c * k)) := by simp [List.filter_cons, z]
          rw [e1, List.length_cons, show min (c * (k : Int)) (r x) = c * k by omega]
          push_cast
          rw [show ((l.length : Int) + 1 - ((l.filter fun v => decide (r v ≤ c * k)).length : Int)) = (l.length - (l.filter fun v => decide (r v ≤ c * k)).length) + 1 by omega, Int.mul_add, Int.mul_one]
          omega
    exact this _
  have lt : (P.take k).length = k := by rw [List.length_take, Pl]; omega
  have ld : (P.drop k).length = N - k := by rw [List.length_drop, Pl]
  unfold frontI
  rw [d1, d2, ← t1, ld]
  rw [lt] at le
  generalize ((P.drop k).filter fun v => decide (r v ≤ c * k)).length = s at le ⊢
  have alg : c * ((N : Int) - 1 - s) * k = c * k * (k - 1) + c * k * (((N - k : Nat) : Int) - s) := by
    rw [show ((N - k : Nat) : Int) = (N : Int) - k by omega, ← Int.mul_add, show (k : Int) - 1 + ((N : Int) - k - s) = (N : Int) - 1 - s by omega, Int.mul_right_comm]
  rw [alg] at le
  omega
theorem one_piece (hc : ∀ u v, u < N → v < N → u ≠ v → fm f u v = c) (hp : 0 < c) (as bs : List Nat) (r : Nat → Int) : ((pcs N (adj f) (opn as bs)).map fun q => parF f r bs q % 2).sum ≤ 1 := by
  obtain ⟨p1, p3, p2⟩ := pcs_part N (adj f) (opn as bs)
  have ndP := (nd_part p1 p3).1
  have same : ∀ q ∈ pcs N (adj f) (opn as bs), ∀ q' ∈ pcs N (adj f) (opn as bs), q = q' := fun q hq q' hq' => by
    obtain ⟨v, hv⟩ := List.exists_mem_of_ne_nil q (p3 q hq)
    obtain ⟨w, hw⟩ := List.exists_mem_of_ne_nil q' (p3 q' hq')
    have ov := (p2 v).mp (List.mem_flatten.mpr ⟨q, hq, hv⟩)
    have ow := (p2 w).mp (List.mem_flatten.mpr ⟨q', hq', hw⟩)
    by_cases e : v = w
    · subst e
      exact uniq_part p1 hq hq' hv hw
    · have ha : adj f v w = true := by
        have := hc v w ov.2 ow.2 e
        unfold adj
        have e2 : f (min (v : Int) w, max (v : Int) w) = c := this
        rw [e2]
        exact decide_eq_true hp
      exact uniq_part p1 hq hq' ((pcs_cl (adj_sym f) hq).2 v hv w ow.2 ha ow.1) hw
  generalize pcs N (adj f) (opn as bs) = L at ndP same
  match L, ndP, same with
  | [], _, _ => simp
  | [q], _, _ => simp; omega
  | q :: q' :: L, nd, sm =>
    have e := sm q (List.mem_cons_self ..) q' (List.mem_cons_of_mem _ (List.mem_cons_self ..))
    have := (List.nodup_cons.mp nd).1
    rw [e] at this
    exact absurd (List.mem_cons_self ..) this
theorem front_ge (hc : ∀ u v, u < N → v < N → u ≠ v → fm f u v = c) (h0 : ∀ v : Nat, fm f v v = 0) (hf : ∀ u v : Nat, 0 ≤ fm f u v) (hn : ns.length = N) (hp : ∀ x ∈ ns, 0 ≤ x) (c0 : 0 ≤ c) (ev : ns.sum % 2 = 0) (fr : ∀ k : Nat, 1 ≤ k → k ≤ N → 0 ≤ frontI c ns k) : lkE f N (rF ns) = 0 := by
  have up : lkE f N (rF ns) ≤ 0 := Int.le_trans (lk_le (pow_pos3 N)) exc0
  by_cases cz : c = 0
  · subst cz
    have all0 : ∀ x ∈ ns, x = 0 := fun x hx => by
      have hN : 1 ≤ N := by
        have := List.length_pos_iff.mpr (List.ne_nil_of_mem hx)
        omega
      have f1 := fr 1 (Nat.le_refl _) hN
      have hxf : x ∈ fallI ns := (fall_perm ns).mem_iff.mpr hx
      have po := fall_ord ns
      have nn : ∀ y ∈ fallI ns, 0 ≤ y := fun y hy => hp y ((fall_perm ns).mem_iff.mp hy)
      unfold frontI at f1
      generalize fallI ns = l at f1 hxf po nn
      match l, hxf with
      | y :: l, hxf =>
        obtain ⟨o1, o2⟩ := List.pairwise_cons.mp po
        have z : ((List.drop 1 (y :: l)).map fun x => min (0 * ((1 : Nat) : Int)) x).sum = 0 := by
          have : ((List.drop 1 (y :: l)).map fun x => min (0 * ((1 : Nat) : Int)) x) = l.map fun _ => (0 : Int) := List.map_congr_left fun a ha => by
            have := nn a (List.mem_cons_of_mem _ ha)
            omega
          rw [this, sm_zero]
        rw [z] at f1
        simp at f1
        have y0 := nn y (List.mem_cons_self ..)
        have x0 := nn x hxf
        rcases List.mem_cons.mp hxf with e | e
        · omega
        · have := o1 x e
          omega
    have r0 : ∀ v, rF ns v = 0 := fun v => by
      unfold rF
      rw [List.getD_eq_getElem?_getD]
      cases e : ns[v]? with
      | none => rfl
      | some x => exact all0 x (List.mem_of_getElem? e)
    refine lk_granted (c := fun _ => 0) (fun _ _ => Int.le_refl _) (fun u v => hf u v) h0 fun v => ?_
    rw [r0 v]
    unfold rowS
    exact (sm_zero _).symm
  · have cp : 0 < c := by omega
    obtain ⟨i, hi, ei⟩ := lk_at f N (rF ns)
    have par := lk_par (f := f) (N := N) (r := rF ns) h0
    have rs : ((List.range N).map (rF ns)).sum = ns.sum := by
      rw [← hn]
      exact congrArg List.sum (rng_rF ns)
    rw [rs, ev] at par
    have od := one_piece hc cp (lotA N i) (lotB N i) (rF ns)
    have ec := exc_cst hc h0 (lot_ok N i) (rF ns)
    have low : 0 ≤ ((lotA N i).map (rF ns)).sum + c * (N - 1 - (lotA N i).length) * (lotB N i).length - ((lotB N i).map (rF ns)).sum := by
      obtain ⟨r, hr⟩ : ∃ r, r = rF ns := ⟨_, rfl⟩
      have rp : ∀ v, 0 ≤ r v := fun v => by
        rw [hr]
        unfold rF
        rw [List.getD_eq_getElem?_getD]
        cases e : ns[v]? with
        | none => exact Int.le_refl _
        | some x => exact hp x (List.mem_of_getElem? e)
      have pf := plcs_fall hn
      rw [← hr] at pf ⊢
      have pp := plcs_perm r N
      have po := plcs_ord r N
      generalize plcs r N = P at pf pp po
      have Pl : P.length = N := by rw [pp.length_eq, List.length_range]
      obtain ⟨T, hT⟩ : ∃ T : Nat → Bool, T = fun v => decide (mkC N i v = 2) := ⟨_, rfl⟩
      obtain ⟨S, hS⟩ : ∃ S : Nat → Bool, S = fun v => decide (mkC N i v = 1) := ⟨_, rfl⟩
      have pT : (lotB N i).Perm (P.filter T) := by
        rw [hT]
        exact (List.Perm.filter _ pp.symm)
      have pS : (lotA N i).Perm ((P.filter fun v => !T v).filter S) := by
        rw [List.filter_filter]
        have e : (P.filter fun v => S v && !T v) = P.filter S := List.filter_congr fun v _ => by
          rw [hS, hT]
          by_cases z : mkC N i v = 1 <;> simp [z]
        rw [e, hS]
        exact (List.Perm.filter _ pp.symm)
      rw [sm_perm pT, sm_perm pS, pT.length_eq, pS.length_eq]
      by_cases kz : (P.filter T).length = 0
      · have en : P.filter T = [] := List.length_eq_zero_iff.mp kz
        rw [en]
        have : 0 ≤ (((P.filter fun v => !T v).filter S).map r).sum := sm_pos fun v _ => rp v
        rw [List.length_nil, List.map_nil, List.sum_nil]
        generalize (((P.filter fun v => !T v).filter S).map r).sum = z at this ⊢
        simp
        exact this
      · have kN : (P.filter T).length ≤ N := by
          have := List.length_filter_le T P
          omega
        have F := fr _ (by omega) kN
        obtain ⟨k, hk⟩ : ∃ k, k = (P.filter T).length := ⟨_, rfl⟩
        have tp := top_sum (r := r) (g := fun x => x + min (c * k) x) (fun x y h => by omega) T P po
        rw [← hk] at F tp ⊢
        rw [sm_add, sm_add] at tp
        have a1 := sm_split (fun v => min (c * k) (r v)) T P
        have a2 : (P.map fun v => min (c * (k : Int)) (r v)).sum = ((P.take k).map fun v => min (c * (k : Int)) (r v)).sum + ((P.drop k).map fun v => min (c * (k : Int)) (r v)).sum := by
          rw [← List.sum_append, ← List.map_append, List.take_append_drop]
        have a3 := sm_split (fun v => min (c * k) (r v)) S (P.filter fun v => !T v)
        have a4 : (((P.filter fun v => !T v).filter S).map fun v => min (c * (k : Int)) (r v)).sum ≤ (((P.filter fun v => !T v).filter S).map r).sum := sm_le fun v _ => by omega
        have a5 : (((P.filter fun v => !T v).filter fun v => !S v).map fun v => min (c * (k : Int)) (r v)).sum ≤ (((P.filter fun v => !T v).filter fun v => !S v).map fun _ => c * (k : Int)).sum := sm_le fun v _ => by omega
        rw [cst_sum] at a5
        have l1 : (P.filter T).length + (P.filter fun v => !T v).length = P.length := by
          have := sm_split (fun _ => (1 : Int)) T P
          rw [cst_sum, cst_sum, cst_sum] at this
          omega
        have l2 : ((P.filter fun v => !T v).filter S).length + ((P.filter fun v => !T v).filter fun v => !S v).length = (P.filter fun v => !T v).length := by
          have := sm_split (fun _ => (1 : Int)) S (P.filter fun v => !T v)
          rw [cst_sum, cst_sum, cst_sum] at this
          omega
        have t1 : ((P.take k).map r).sum = ((fallI ns).take k).sum := by rw [← pf, List.map_take]
        have d1 : (((fallI ns).drop k).map fun x => min (c * k) x).sum = ((P.drop k).map fun v => min (c * (k : Int)) (r v)).sum := by
          rw [← pf, ← List.map_drop, List.map_map]
          rfl
        unfold frontI at F
        rw [d1, ← t1] at F
        have alg : c * ((N : Int) - 1 - ((P.filter fun v => !T v).filter S).length) * k = c * k * (k - 1) + c * k * (((P.filter fun v => !T v).filter fun v => !S v).length) := by
          rw [← Int.mul_add, Int.mul_right_comm]
          congr 1
          omega
        rw [alg]
        omega
    unfold excE excF at ei
    rw [ec] at ei
    omega
/-- a complete web grants an even row exactly if no front is below 0 -/
theorem fronts_iff (hc : ∀ u v, u < N → v < N → u ≠ v → fm f u v = c) (h0 : ∀ v : Nat, fm f v v = 0) (hf : ∀ u v : Nat, 0 ≤ fm f u v) (hn : ns.length = N) (hp : ∀ x ∈ ns, 0 ≤ x) (c0 : 0 ≤ c) (ev : ns.sum % 2 = 0) : decide (-(lkE f N (rF ns)) = 0) = holdsI c ns := by
  unfold holdsI
  rw [hn]
  cases e : (List.range N).all fun k => decide (0 ≤ frontI c ns (k + 1)) with
  | true =>
    rw [List.all_eq_true] at e
    have := front_ge hc h0 hf hn hp c0 ev fun k h1 h2 => by
      have := of_decide_eq_true (e (k - 1) (List.mem_range.mpr (by omega)))
      rw [show k - 1 + 1 = k by omega] at this
      exact this
    exact decide_eq_true (by omega)
  | false =>
    refine decide_eq_false fun z => ?_
    rw [List.all_eq_false] at e
    obtain ⟨k, hk, e⟩ := e
    have := front_le hc h0 hn (k := k + 1) (List.mem_range.mp hk)
    simp at e
    omega
end
end CL
set_option maxHeartbeats 4000000
namespace CL
open PySem L2 CT
local macro_rules | `(tactic| walk_at "w") => `(tactic| first | ((with_reducible apply gR); first | with_reducible refine w_var rfl ?_ | with_reducible apply w_cons | with_reducible apply w_c | with_reducible apply w_nil | with_reducible apply w_op | with_reducible apply w_ap | with_reducible apply w_call | with_reducible apply w_tst | with_reducible apply w_un | with_reducible apply w_tand | with_reducible apply w_tor | with_reducible apply w_tnot | with_reducible apply w_yes | with_reducible apply w_and | with_reducible apply w_or | with_reducible apply w_not | with_reducible apply w_if | with_reducible apply w_chain | with_reducible apply w_isi | with_reducible apply w_isi2 | with_reducible apply w_prop | with_reducible apply w_meth | with_reducible apply w_dget | with_reducible apply w_dnewF | with_reducible apply w_dnewT | with_reducible apply w_part | with_reducible apply w_noPart | with_reducible apply w_slLF | with_reducible apply w_slA | with_reducible apply w_ok | with_reducible apply w_ofO | with_reducible apply w_lcI | with_reducible apply w_seqI | with_reducible apply w_rng1 | with_reducible apply w_rng2 | with_reducible apply w_enum) | ((with_reducible apply gO); first | with_reducible apply wo_add | with_reducible apply wo_sub | with_reducible apply wo_lt | with_reducible apply wo_gt | with_reducible apply wo_eq | with_reducible apply wo_ne | with_reducible apply wo_le | with_reducible apply wo_ge | with_reducible apply wo_neg | with_reducible apply wo_eqS | with_reducible apply wo_neS | with_reducible apply wo_min | with_reducible apply wo_max | with_reducible apply wo_int | with_reducible apply wo_abs | with_reducible apply wo_tupL | with_reducible apply wo_tupT | with_reducible refine wo_tup (by with_unfolding_all rfl) ?_ | with_reducible refine wo_lstF (by with_unfolding_all rfl) ?_ | with_reducible refine wo_lstT (by with_unfolding_all rfl) ?_ | with_reducible apply wo_fld0 | with_reducible apply wo_fld1 | with_reducible apply wo_fld2 | with_reducible apply wo_fldW0 | with_reducible apply wo_fldW1 | with_reducible apply wo_fldW2) | ((with_reducible apply gS); first | with_reducible apply w_seq | with_reducible apply w_asg | with_reducible apply w_sif | with_reducible apply w_next | with_reducible apply w_ret | with_reducible apply w_par | with_reducible apply w_drop | with_reducible apply w_asgT | with_reducible apply w_retN | with_reducible apply w_brk | with_reducible apply w_cnt | with_reducible apply w_raise | with_reducible apply w_forI) | ((with_reducible apply gI); first | with_reducible apply wI_t | with_reducible apply wI_f | with_reducible apply wI_not) | with_reducible apply w_bl | with_reducible apply thn_nx | with_reducible apply w_int | with_reducible apply w_obj | with_reducible apply thn_rt | with_reducible apply lp_nx | with_reducible apply fnl_int | with_reducible apply fnl_bl | with_reducible apply fnl_non | with_reducible apply fnl_str | with_reducible apply fnl_nx | with_reducible apply thn_bk | with_reducible apply thn_ct | with_reducible apply thn_xc | with_reducible apply lp_rt | with_reducible apply lp_bk | with_reducible apply lp_xc | with_reducible apply w_itL | with_reducible apply w_itT | with_reducible apply w_itK)
local macro_rules | `(tactic| walk_at "p") => `(tactic| repeat walk_at "w")
/-! PI7p: odd pieces. -/
def oddP (f : Int × Int → Int) (ns : List Int) (bs c : List Nat) : Bool := decide ((rsum ns c + crS f c bs) % 2 = 1)
section
variable {C S : Store} {Q : D → Store → Prop} {X : Exc → Store → Prop} {N i s : Nat} {d : Dc} {x : D} {fl : Nat} {P : RS → Prop} {ns : List Int} {as bs c : List Nat} {f : Int × Int → Int} {F : Fr}
theorem odd_pieces_w (hN : N ≤ 60) (hn : ns.length = N) (ha : ∀ v ∈ as, v < N) (hb : ∀ v ∈ bs, v < N) (la : as.length ≤ 60) (lb : bs.length ≤ 60)
    (q : Q (.cell C.length) (C ++ [some (.lst (((pcs N (adj f) (opn as bs)).filter (oddP f ns bs)).map tD))])) : wR (m_odd_pieces [webD N f, .tup (ns.map .int), .tup [tD as, tD bs]] C) Q X := by
  have pl : (pcs N (adj f) (opn as bs)).length ≤ N := by
    have := pfold_len N (adj f) (opn as bs) (List.range N)
    rw [List.length_range] at this
    exact this
  rw [e_odd_pieces]
  apply w_finO
  unfold b_odd_pieces b_odd_pieces_0
  walk_at "p"
  unfold b_odd_pieces_1
  walk_at "p"
  refine pieces_w hN ha hb (by omega) ?_
  have lt : ∀ c ∈ pcs N (adj f) (opn as bs), (∀ v ∈ c, v < N) ∧ c.length ≤ N := fun c hc => ⟨pcs_lt hc, pcs_len hc⟩
  generalize pcs N (adj f) (opn as bs) = L at pl lt q ⊢
  refine w_itC (i := (C ++ [some (Cell.lst [])]).length) (xs := L.map tD) (by simp) ?_
  have sh : ∀ M : List (List Nat), (C ++ [some (Cell.lst (M.map tD))] ++ [some (.lst (L.map tD))])[(C ++ [some (Cell.lst [])]).length]? = some (some (.lst (L.map tD))) := fun M => by simp
  refine loop_o (on_cell (i := (C ++ [some (Cell.lst [])]).length) (xs := L.map tD)) (fun j sl S => S = C ++ [some (Cell.lst (((L.take j).filter (oddP f ns bs)).map tD))] ++ [some (.lst (L.map tD))] ∧ ∃ t4 t5, sl = [some (webD N f), some (.tup (ns.map .int)), some (.tup [tD as, tD bs]), some (.cell C.length), t4, t5]) (fun j sl S z => by rw [z.1]; exact sh _) ⟨rfl, none, none, rfl⟩ ?_ ?_
  · rintro j y sl S hy ⟨rfl, t4, t5, rfl⟩
    rw [List.getElem?_map] at hy
    obtain ⟨c, hc, rfl⟩ := Option.map_eq_some_iff.mp hy
    obtain ⟨c1, c2⟩ := lt c (List.mem_of_getElem? hc)
    have tk : L.take (j + 1) = L.take j ++ [c] := by
      have hj : j < L.length := (List.getElem?_eq_some_iff.mp hc).1
      rw [← List.take_append_getElem hj, (List.getElem?_eq_some_iff.mp hc).2]
    have fl : ((L.take j).filter (oddP f ns bs)).length ≤ N := Nat.le_trans (List.length_filter_le _ _) (by rw [List.length_take]; omega)
    have tkf : (L.take (j + 1)).filter (oddP f ns bs) = (L.take j).filter (oddP f ns bs) ++ [c].filter (oddP f ns bs) := by rw [tk, List.filter_append]
    generalize (L.take j).filter (oddP f ns bs) = M at fl tkf ⊢
    have at_n : (C ++ [some (Cell.lst (M.map tD))] ++ [some (.lst (L.map tD))])[C.length]? = some (some (.lst (M.map tD))) := by simp
    refine ⟨_, rfl, ?_⟩
    unfold b_odd_pieces_1b_0
    walk_at "p"
    refine w_itT ?_
    refine rowpick_w (ns := ns) (c := c) (by simp) (by decide) rfl (fun v hv => by rw [hn]; exact c1 v hv) (by omega) ?_
    walk_at "p"
    refine wo_of (sum_ints _ _) ?_
    walk_at "p"
    refine ⟨_, rfl, ?_⟩
    walk_at "p"
    refine wo_ix (xs := [tD as, tD bs]) (k := 1) rfl rfl rfl ?_
    walk_at "p"
    refine w_of (crossing_ok hN (a := tD c) (b := tD bs) (xs := c) (ys := bs) (seq_tup _) (seq_tup _) c1 hb (by omega) lb) ?_
    walk_at "p"
    refine wo_mod (by decide) ?_
    walk_at "p"
    refine wI_d (fun ho => ?_) fun ho => ?_
    · have hod : oddP f ns bs c = true := decide_eq_true ho
      walk_at "p"
      refine w_append ?_
      walk_at "p"
      refine ⟨by simp only [vL, at_n]; rfl, ?_⟩
      walk_at "p"
      refine ⟨C.length, M.map tD, by simp only [cL, at_n], Nat.le_refl _, by rw [List.length_map]; omega, ?_⟩
      walk_at "p"
      refine ⟨?_, _, _, rfl⟩
      rw [tkf]
      simp [hod]
    · have hod : oddP f ns bs c = false := decide_eq_false ho
      walk_at "p"
      refine ⟨?_, _, _, rfl⟩
      rw [tkf]
      simp [hod]
  · rintro sl S ⟨rfl, t4, t5, rfl⟩
    rw [List.length_map, List.take_length]
    walk_at "p"
    unfold b_odd_pieces_2
    walk_at "p"
    refine fnlO_own (xs := (L.filter (oddP f ns bs)).map tD) (Nat.le_refl _) (by simp) (cb_tDs _ _) ?_
    rw [List.append_assoc, take_app rfl]
    exact q
end
end CL
set_option maxHeartbeats 4000000
namespace CL
open PySem L2 CT
local macro_rules | `(tactic| walk_at "w") => `(tactic| first | ((with_reducible apply gR); first | with_reducible refine w_var rfl ?_ | with_reducible apply w_cons | with_reducible apply w_c | with_reducible apply w_nil | with_reducible apply w_op | with_reducible apply w_ap | with_reducible apply w_call | with_reducible apply w_tst | with_reducible apply w_un | with_reducible apply w_tand | with_reducible apply w_tor | with_reducible apply w_tnot | with_reducible apply w_yes | with_reducible apply w_and | with_reducible apply w_or | with_reducible apply w_not | with_reducible apply w_if | with_reducible apply w_chain | with_reducible apply w_isi | with_reducible apply w_isi2 | with_reducible apply w_prop | with_reducible apply w_meth | with_reducible apply w_dget | with_reducible apply w_dnewF | with_reducible apply w_dnewT | with_reducible apply w_part | with_reducible apply w_noPart | with_reducible apply w_slLF | with_reducible apply w_slA | with_reducible apply w_ok | with_reducible apply w_ofO | with_reducible apply w_lcI | with_reducible apply w_seqI | with_reducible apply w_rng1 | with_reducible apply w_rng2 | with_reducible apply w_enum) | ((with_reducible apply gO); first | with_reducible apply wo_add | with_reducible apply wo_sub | with_reducible apply wo_lt | with_reducible apply wo_gt | with_reducible apply wo_eq | with_reducible apply wo_ne | with_reducible apply wo_le | with_reducible apply wo_ge | with_reducible apply wo_neg | with_reducible apply wo_eqS | with_reducible apply wo_neS | with_reducible apply wo_min | with_reducible apply wo_max | with_reducible apply wo_int | with_reducible apply wo_abs | with_reducible apply wo_tupL | with_reducible apply wo_tupT | with_reducible refine wo_tup (by with_unfolding_all rfl) ?_ | with_reducible refine wo_lstF (by with_unfolding_all rfl) ?_ | with_reducible refine wo_lstT (by with_unfolding_all rfl) ?_ | with_reducible apply wo_fld0 | with_reducible apply wo_fld1 | with_reducible apply wo_fld2 | with_reducible apply wo_fldW0 | with_reducible apply wo_fldW1 | with_reducible apply wo_fldW2) | ((with_reducible apply gS); first | with_reducible apply w_seq | with_reducible apply w_asg | with_reducible apply w_sif | with_reducible apply w_next | with_reducible apply w_ret | with_reducible apply w_par | with_reducible apply w_drop | with_reducible apply w_asgT | with_reducible apply w_retN | with_reducible apply w_brk | with_reducible apply w_cnt | with_reducible apply w_raise | with_reducible apply w_forI) | ((with_reducible apply gI); first | with_reducible apply wI_t | with_reducible apply wI_f | with_reducible apply wI_not) | with_reducible apply w_bl | with_reducible apply thn_nx | with_reducible apply w_int | with_reducible apply w_obj | with_reducible apply thn_rt | with_reducible apply lp_nx | with_reducible apply fnl_int | with_reducible apply fnl_bl | with_reducible apply fnl_non | with_reducible apply fnl_str | with_reducible apply fnl_nx | with_reducible apply thn_bk | with_reducible apply thn_ct | with_reducible apply thn_xc | with_reducible apply lp_rt | with_reducible apply lp_bk | with_reducible apply lp_xc | with_reducible apply w_itL | with_reducible apply w_itT | with_reducible apply w_itK)
local macro_rules | `(tactic| walk_at "p") => `(tactic| repeat walk_at "w")
/-! PI8: excess. -/
theorem up_natV {a b : List Nat} (ha : a.Pairwise (· < ·)) (hb : b.Pairwise (· < ·)) (h : ∀ x, x ∈ a ↔ x ∈ b) : a = b := by
  have e : a.map (fun u : Nat => (u : Int)) = b.map fun u : Nat => (u : Int) := by
    refine up_one (List.pairwise_map.mpr (ha.imp fun {a b} e => by omega)) (List.pairwise_map.mpr (hb.imp fun {a b} e => by omega)) fun z => ?_
    rw [List.mem_map, List.mem_map]
    constructor
    · rintro ⟨u, hu, rfl⟩
      exact ⟨u, (h u).mp hu, rfl⟩
    · rintro ⟨u, hu, rfl⟩
      exact ⟨u, (h u).mpr hu, rfl⟩
  exact (List.map_inj_right fun x y e => by omega).mp e
theorem sum_partV (g : Nat → Int) (p : Nat → Bool) : ∀ l : List Nat, (l.map g).sum = ((l.filter p).map g).sum + ((l.filter fun x => !p x).map g).sum
  | [] => rfl
  | x :: l => by
    have ih := sum_partV g p l
    rw [List.map_cons, List.sum_cons, ih]
    cases h : p x
    · rw [List.filter_cons_of_neg (by simp [h]), List.filter_cons_of_pos (by simp [h]), List.map_cons, List.sum_cons]
      omega
    · rw [List.filter_cons_of_pos (by simp [h]), List.filter_cons_of_neg (by simp [h]), List.map_cons, List.sum_cons]
      omega
theorem sum_zeroV (g : Nat → Int) (p q : Nat → Bool) (h : ∀ x, q x = false → g x = 0) : ∀ l : List Nat, ((l.filter p).map g).sum = ((l.filter fun x => q x && p x).map g).sum
  | [] => rfl
  | x :: l => by
    have ih := sum_zeroV g p q h l
    cases hp : p x
    · rw [List.filter_cons_of_neg (by simp [hp]), List.filter_cons_of_neg (by simp [hp]), ih]
    · cases hq : q x
      · rw [List.filter_cons_of_pos (by simp [hp]), List.filter_cons_of_neg (by simp [hq]), List.map_cons, List.sum_cons, ih, h x hq]
        omega
      · rw [List.filter_cons_of_pos (by simp [hp]), List.filter_cons_of_pos (by simp [hp, hq]), List.map_cons, List.map_cons, List.sum_cons, List.sum_cons, ih]
def rowSumV (f : Int × Int → Int) (N v : Nat) : Int := ((List.range N).map fun w => fm f v w).sum
def lawSum (f : Int × Int → Int) (N : Nat) (as : List Nat) (v : Nat) : Int := (((List.range N).filter fun u => !decide (u = v) && !decide (u ∈ as)).map fun u => fm f u v).sum
theorem row_law {f : Int × Int → Int} {N : Nat} {as : List Nat} {v : Nat} (ua : as.Pairwise (· < ·)) (ha : ∀ u ∈ as, u < N) (h0 : fm f v v = 0) : rowSumV f N v = (as.map fun u => fm f v u).sum + lawSum f N as v := by
  unfold rowSumV lawSum
  rw [sum_partV (fun w => fm f v w) (fun u => decide (u ∈ as))]
  have e : (List.range N).filter (fun u => decide (u ∈ as)) = as := by
    refine up_natV (List.pairwise_lt_range.sublist List.filter_sublist) ua fun x => ?_
    rw [List.mem_filter, List.mem_range, decide_eq_true_eq]
    exact ⟨fun h => h.2, fun h => ⟨ha x h, h⟩⟩
  rw [e, sum_zeroV (fun w => fm f v w) (fun u => !decide (u ∈ as)) (fun u => !decide (u = v)) fun x hx => ?_]
  · congr 2
    exact List.map_congr_left fun u _ => fm_c f v u
  · have : x = v := by simpa using hx
    rw [this]
    exact h0
theorem sum_plusV (g h : Nat → Int) : ∀ l : List Nat, (l.map fun v => g v + h v).sum = (l.map g).sum + (l.map h).sum
  | [] => rfl
  | x :: l => by
    simp only [List.map_cons, List.sum_cons, sum_plusV g h l]
    omega
/-- the excess, as the law counts it -/
noncomputable def excV (f : Int × Int → Int) (N : Nat) (ns : List Int) (as bs : List Nat) : Int :=
  rsum ns as + (bs.map fun v => lawSum f N as v - ns.getD v 0).sum - (((pcs N (adj f) (opn as bs)).filter (oddP f ns bs)).length : Int)
theorem exc_eq {f : Int × Int → Int} {N : Nat} {ns : List Int} {as bs : List Nat} (ua : as.Pairwise (· < ·)) (ha : ∀ u ∈ as, u < N) (h0 : ∀ v : Nat, fm f v v = 0) :
    rsum ns as + (bs.map fun v => rowSumV f N v - ns.getD v 0).sum - crS f bs as - (((pcs N (adj f) (opn as bs)).filter (oddP f ns bs)).length : Int) = excV f N ns as bs := by
  have e1 : (bs.map fun v => rowSumV f N v - ns.getD v 0) = bs.map fun v => (as.map fun u => fm f v u).sum + (lawSum f N as v - ns.getD v 0) := List.map_congr_left fun v _ => by
    rw [row_law ua ha (h0 v)]
    omega
  have e2 : crS f bs as = (bs.map fun v => (as.map fun u => fm f v u).sum).sum := by
    unfold crS
    rw [sum_flat]
  rw [e1, sum_plusV (fun v => (as.map fun u => fm f v u).sum) (fun v => lawSum f N as v - ns.getD v 0), e2]
  unfold excV
  omega
section
variable {C S : Store} {Q : D → Store → Prop} {X : Exc → Store → Prop} {N i s : Nat} {d : Dc} {x : D} {fl : Nat} {P : RS → Prop} {ns : List Int} {as bs c : List Nat} {f : Int × Int → Int} {F : Fr}
theorem excess_w (hN : N ≤ 60) (hn : ns.length = N) (ha : ∀ v ∈ as, v < N) (hb : ∀ v ∈ bs, v < N) (la : as.length ≤ 60) (lb : bs.length ≤ 60) (ua : as.Pairwise (· < ·)) (h0 : ∀ v : Nat, fm f v v = 0)
    (q : Q (.int (excV f N ns as bs)) C) : wR (m_excess [webD N f, .tup (ns.map .int), .tup [tD as, tD bs]] C) Q X := by
  rw [← exc_eq ua ha h0] at q
  rw [e_excess]
  apply w_fin
  unfold b_excess b_excess_0
  walk_at "p"
  refine wo_ix (xs := [tD as, tD bs]) (k := 0) rfl rfl rfl ?_
  refine w_itT ?_
  refine rowpick_w (ns := ns) (c := as) (by simp) (by decide) rfl (fun v hv => by rw [hn]; exact ha v hv) (by omega) ?_
  walk_at "p"
  refine wo_of (sum_ints _ _) ?_
  walk_at "p"
  unfold b_excess_1
  walk_at "p"
  refine wo_ix (xs := [tD as, tD bs]) (k := 1) rfl rfl rfl ?_
  refine w_itT ?_
  refine lc_p (pure_C (nI bs)) (fun _ => true) (fun y => match y with | .int v => .int (rowSumV f N v.toNat - ns.getD v.toNat 0) | _ => .non) (by rw [nI_len]; omega) (fun y hy => ?_) (fun y hy _ => ?_) ?_
  · obtain ⟨v, hv, rfl⟩ := List.mem_map.mp hy
    refine ⟨_, rfl, fun acc => ⟨w_yes ⟨rfl, rfl⟩, fun _ => ?_⟩⟩
    walk_at "p"
    refine wo_of (gix (hb v hv) _) ?_
    walk_at "p"
    refine wo_of (sum_ints _ _) ?_
    walk_at "p"
    refine wo_ix (xs := ns.map .int) (k := v) (d := .int (ns.getD v 0)) rfl rfl ?_ ?_
    · rw [List.getElem?_map, List.getElem?_eq_getElem (by rw [hn]; exact hb v hv), List.getD_eq_getElem?_getD, List.getElem?_eq_getElem (by rw [hn]; exact hb v hv)]
      rfl
    walk_at "p"
    exact ⟨rfl, rfl⟩
  · obtain ⟨v, hv, rfl⟩ := List.mem_map.mp hy
    rfl
  · have e : ((nI bs).filter fun _ => true).map (fun y => match y with | .int v => D.int (rowSumV f N v.toNat - ns.getD v.toNat 0) | _ => .non) = (bs.map fun v => rowSumV f N v - ns.getD v 0).map .int := by
      rw [filter_yes, nI, List.map_map, List.map_map]
      rfl
    rw [e]
    walk_at "p"
    refine wo_of (sum_ints _ _) ?_
    walk_at "p"
    unfold b_excess_2
    walk_at "p"
    refine ⟨_, rfl, ?_⟩
    walk_at "p"
    refine wo_ix (xs := [tD as, tD bs]) (k := 1) rfl rfl rfl ?_
    walk_at "p"
    refine wo_ix (xs := [tD as, tD bs]) (k := 0) rfl rfl rfl ?_
    walk_at "p"
    refine w_of (crossing_ok hN (a := tD bs) (b := tD as) (xs := bs) (ys := as) (seq_tup _) (seq_tup _) hb ha lb la) ?_
    walk_at "p"
    refine odd_pieces_w hN hn ha hb la lb ?_
    walk_at "p"
    refine wo_len (x := .cell C.length) (xs := ((pcs N (adj f) (opn as bs)).filter (oddP f ns bs)).map tD) (by simp [vS]) ?_
    walk_at "p"
    rw [List.length_map, take_app rfl]
    exact q
end
end CL
set_option maxHeartbeats 4000000
namespace CL
open PySem L2 CT
local macro_rules | `(tactic| walk_at "w") => `(tactic| first | ((with_reducible apply gR); first | with_reducible refine w_var rfl ?_ | with_reducible apply w_cons | with_reducible apply w_c | with_reducible apply w_nil | with_reducible apply w_op | with_reducible apply w_ap | with_reducible apply w_call | with_reducible apply w_tst | with_reducible apply w_un | with_reducible apply w_tand | with_reducible apply w_tor | with_reducible apply w_tnot | with_reducible apply w_yes | with_reducible apply w_and | with_reducible apply w_or | with_reducible apply w_not | with_reducible apply w_if | with_reducible apply w_chain | with_reducible apply w_isi | with_reducible apply w_isi2 | with_reducible apply w_prop | with_reducible apply w_meth | with_reducible apply w_dget | with_reducible apply w_dnewF | with_reducible apply w_dnewT | with_reducible apply w_part | with_reducible apply w_noPart | with_reducible apply w_slLF | with_reducible apply w_slA | with_reducible apply w_ok | with_reducible apply w_ofO | with_reducible apply w_lcI | with_reducible apply w_seqI | with_reducible apply w_rng1 | with_reducible apply w_rng2 | with_reducible apply w_enum) | ((with_reducible apply gO); first | with_reducible apply wo_add | with_reducible apply wo_sub | with_reducible apply wo_lt | with_reducible apply wo_gt | with_reducible apply wo_eq | with_reducible apply wo_ne | with_reducible apply wo_le | with_reducible apply wo_ge | with_reducible apply wo_neg | with_reducible apply wo_eqS | with_reducible apply wo_neS | with_reducible apply wo_min | with_reducible apply wo_max | with_reducible apply wo_int | with_reducible apply wo_abs | with_reducible apply wo_tupL | with_reducible apply wo_tupT | with_reducible refine wo_tup (by with_unfolding_all rfl) ?_ | with_reducible refine wo_lstF (by with_unfolding_all rfl) ?_ | with_reducible refine wo_lstT (by with_unfolding_all rfl) ?_ | with_reducible apply wo_fld0 | with_reducible apply wo_fld1 | with_reducible apply wo_fld2 | with_reducible apply wo_fldW0 | with_reducible apply wo_fldW1 | with_reducible apply wo_fldW2) | ((with_reducible apply gS); first | with_reducible apply w_seq | with_reducible apply w_asg | with_reducible apply w_sif | with_reducible apply w_next | with_reducible apply w_ret | with_reducible apply w_par | with_reducible apply w_drop | with_reducible apply w_asgT | with_reducible apply w_retN | with_reducible apply w_brk | with_reducible apply w_cnt | with_reducible apply w_raise | with_reducible apply w_forI) | ((with_reducible apply gI); first | with_reducible apply wI_t | with_reducible apply wI_f | with_reducible apply wI_not) | with_reducible apply w_bl | with_reducible apply thn_nx | with_reducible apply w_int | with_reducible apply w_obj | with_reducible apply thn_rt | with_reducible apply lp_nx | with_reducible apply fnl_int | with_reducible apply fnl_bl | with_reducible apply fnl_non | with_reducible apply fnl_str | with_reducible apply fnl_nx | with_reducible apply thn_bk | with_reducible apply thn_ct | with_reducible apply thn_xc | with_reducible apply lp_rt | with_reducible apply lp_bk | with_reducible apply lp_xc | with_reducible apply w_itL | with_reducible apply w_itT | with_reducible apply w_itK)
local macro_rules | `(tactic| walk_at "p") => `(tactic| repeat walk_at "w")
/-! XK4: the excess and the lack, walked. -/
section
variable {N : Nat} {f f' c : Int × Int → Int} {r r' : Nat → Int} {ns : List Int} {as bs : List Nat}
theorem cnt_odd {f : Int × Int → Int} {ns : List Int} {bs : List Nat} : ∀ L : List (List Nat), ((L.filter (oddP f ns bs)).length : Int) = (L.map fun c => parF f (rF ns) bs c % 2).sum
  | [] => rfl
  | c :: L => by
    have ih := cnt_odd (f := f) (ns := ns) (bs := bs) L
    rw [List.map_cons, List.sum_cons, ← ih]
    have e : oddP f ns bs c = decide (parF f (rF ns) bs c % 2 = 1) := rfl
    by_cases h : parF f (rF ns) bs c % 2 = 1
    · rw [List.filter_cons_of_pos (by rw [e]; exact decide_eq_true h), List.length_cons]
      omega
    · rw [List.filter_cons_of_neg (by rw [e]; simpa using h)]
      omega
theorem excV_excF (ua : as.Pairwise (· < ·)) (ha : ∀ u ∈ as, u < N) (h0 : ∀ v : Nat, fm f v v = 0) : excV f N ns as bs = excF f N (rF ns) as bs := by
  unfold excV excF
  rw [cnt_odd]
  have : (bs.map fun v => lawSum f N as v - ns.getD v 0) = bs.map fun v => rowS f N v - rF ns v - (as.map fun u => fm f v u).sum := List.map_congr_left fun v _ => by
    have h := row_law ua ha (h0 v)
    have h2 : rowS f N v = rowSumV f N v := rfl
    have h3 : rF ns v = ns.getD v 0 := rfl
    rw [h2, h3, h]
    omega
  rw [this]
  rfl
end
section
variable {Q : D → Store → Prop} {X : Exc → Store → Prop} {C : Store} {N : Nat} {f : Int × Int → Int} {ns : List Int}
theorem excess_lot (hN : N ≤ 5) (hn : ns.length = N) (h0 : ∀ v : Nat, fm f v v = 0) (k : Nat) (q : Q (.int (excE f N (rF ns) k)) C) : wR (m_excess [webD N f, .tup (ns.map .int), lotK N k] C) Q X := by
  have hl := lot_len N k
  have ok := lot_ok N k
  refine excess_w (by omega) hn ok.a ok.b (by omega) (by omega) (lotA_up N k) h0 ?_
  rw [excV_excF (lotA_up N k) ok.a h0]
  exact q
theorem size_w (hN : N ≤ 5) (q : Q .non C) : wR (m_check_size [webD N f] C) Q X := by
  rw [e_check_size]
  apply w_fin
  unfold b_check_size
  walk_at "p"
  refine wI_neg (decide_eq_false (by omega)) ?_
  walk_at "p"
  rw [List.take_length]
  exact q
end
end CL
set_option maxHeartbeats 4000000
namespace CL
open PySem L2 CT
local macro_rules | `(tactic| walk_at "w") => `(tactic| first | ((with_reducible apply gR); first | with_reducible refine w_var rfl ?_ | with_reducible apply w_cons | with_reducible apply w_c | with_reducible apply w_nil | with_reducible apply w_op | with_reducible apply w_ap | with_reducible apply w_call | with_reducible apply w_tst | with_reducible apply w_un | with_reducible apply w_tand | with_reducible apply w_tor | with_reducible apply w_tnot | with_reducible apply w_yes | with_reducible apply w_and | with_reducible apply w_or | with_reducible apply w_not | with_reducible apply w_if | with_reducible apply w_chain | with_reducible apply w_isi | with_reducible apply w_isi2 | with_reducible apply w_prop | with_reducible apply w_meth | with_reducible apply w_dget | with_reducible apply w_dnewF | with_reducible apply w_dnewT | with_reducible apply w_part | with_reducible apply w_noPart | with_reducible apply w_slLF | with_reducible apply w_slA | with_reducible apply w_ok | with_reducible apply w_ofO | with_reducible apply w_lcI | with_reducible apply w_seqI | with_reducible apply w_rng1 | with_reducible apply w_rng2 | with_reducible apply w_enum) | ((with_reducible apply gO); first | with_reducible apply wo_add | with_reducible apply wo_sub | with_reducible apply wo_lt | with_reducible apply wo_gt | with_reducible apply wo_eq | with_reducible apply wo_ne | with_reducible apply wo_le | with_reducible apply wo_ge | with_reducible apply wo_neg | with_reducible apply wo_eqS | with_reducible apply wo_neS | with_reducible apply wo_min | with_reducible apply wo_max | with_reducible apply wo_int | with_reducible apply wo_abs | with_reducible apply wo_tupL | with_reducible apply wo_tupT | with_reducible refine wo_tup (by with_unfolding_all rfl) ?_ | with_reducible refine wo_lstF (by with_unfolding_all rfl) ?_ | with_reducible refine wo_lstT (by with_unfolding_all rfl) ?_ | with_reducible apply wo_fld0 | with_reducible apply wo_fld1 | with_reducible apply wo_fld2 | with_reducible apply wo_fldW0 | with_reducible apply wo_fldW1 | with_reducible apply wo_fldW2) | ((with_reducible apply gS); first | with_reducible apply w_seq | with_reducible apply w_asg | with_reducible apply w_sif | with_reducible apply w_next | with_reducible apply w_ret | with_reducible apply w_par | with_reducible apply w_drop | with_reducible apply w_asgT | with_reducible apply w_retN | with_reducible apply w_brk | with_reducible apply w_cnt | with_reducible apply w_raise | with_reducible apply w_forI) | ((with_reducible apply gI); first | with_reducible apply wI_t | with_reducible apply wI_f | with_reducible apply wI_not) | with_reducible apply w_bl | with_reducible apply thn_nx | with_reducible apply w_int | with_reducible apply w_obj | with_reducible apply thn_rt | with_reducible apply lp_nx | with_reducible apply fnl_int | with_reducible apply fnl_bl | with_reducible apply fnl_non | with_reducible apply fnl_str | with_reducible apply fnl_nx | with_reducible apply thn_bk | with_reducible apply thn_ct | with_reducible apply thn_xc | with_reducible apply lp_rt | with_reducible apply lp_bk | with_reducible apply lp_xc | with_reducible apply w_itL | with_reducible apply w_itT | with_reducible apply w_itK)
local macro_rules | `(tactic| walk_at "p") => `(tactic| repeat walk_at "w")
/-! XK4b: the lack of a row, walked. -/
section
variable {Q : D → Store → Prop} {X : Exc → Store → Prop} {C : Store} {N : Nat} {f : Int × Int → Int} {ns : List Int}
theorem lowest_w (hN : N ≤ 5) (hn : ns.length = N) (h0 : ∀ v : Nat, fm f v v = 0) (q : ∀ k, k < 3 ^ N → Q (.tup [.int (lkE f N (rF ns)), lotK N k]) C) : wR (m_lowest_excess [webD N f, .tup (ns.map .int)] C) Q X := by
  rw [e_lowest_excess]
  apply w_fin
  unfold b_lowest_excess b_lowest_excess_0
  walk_at "w"
  refine w_asgT (is := [2, 3]) ?_
  walk_at "p"
  refine ⟨_, _, rfl, rfl, ?_⟩
  walk_at "p"
  unfold b_lowest_excess_1
  walk_at "p"
  refine w_lots hN ?_
  walk_at "p"
  refine ⟨rfl, ?_⟩
  refine loop_p (pure_C _) (fun j sl C' => C' = C ∧ ((j = 0 ∧ ∃ t4 t5, sl = [some (webD N f), some (.tup (ns.map .int)), some (.int 0), some .non, t4, t5]) ∨ ∃ k, k < j ∧ (∀ i, i < j → excE f N (rF ns) k ≤ excE f N (rF ns) i) ∧ ∃ t4 t5, sl = [some (webD N f), some (.tup (ns.map .int)), some (.int (excE f N (rF ns) k)), some (lotK N k), t4, t5])) ⟨rfl, .inl ⟨rfl, _, _, rfl⟩⟩ (fun j x sl C' hx hI => ?_) (fun sl C' hI => ?_)
  · obtain ⟨rfl, hI⟩ := hI
    have hj : j < 3 ^ N := by
      have := (List.getElem?_eq_some_iff.mp hx).1
      simpa using this
    have ex : x = lotK N j := by
      rw [List.getElem?_map, List.getElem?_range hj] at hx
      exact (Option.some.inj hx).symm
    subst ex
    rcases hI with ⟨rfl, t4, t5, rfl⟩ | ⟨k, hk, hm, t4, t5, rfl⟩
    · refine ⟨_, rfl, w_gvX ?_⟩
      unfold b_lowest_excess_1b_0
      walk_at "p"
      refine excess_lot hN hn h0 0 ?_
      walk_at "p"
      unfold b_lowest_excess_1b_1
      walk_at "p"
      refine wo_of (show oIsN false .non .non C' = some (.bl true, C') from rfl) ?_
      walk_at "p"
      refine ⟨_, rfl, ?_⟩
      refine gv_nx ?_
      exact ⟨rfl, .inr ⟨0, by omega, fun i hi => by rw [show i = 0 by omega]; exact Int.le_refl _, _, _, rfl⟩⟩
    · refine ⟨_, rfl, w_gvX ?_⟩
      unfold b_lowest_excess_1b_0
      walk_at "p"
      refine excess_lot hN hn h0 j ?_
      walk_at "p"
      unfold b_lowest_excess_1b_1
      walk_at "p"
      refine wo_of (show oIsN false (lotK N k) .non C' = some (.bl false, C') from rfl) ?_
      walk_at "p"
      by_cases hlt : excE f N (rF ns) j < excE f N (rF ns) k
      · refine wI_pos (decide_eq_true hlt) ?_
        walk_at "p"
        refine ⟨_, rfl, ?_⟩
        refine gv_nx ⟨rfl, .inr ⟨j, by omega, fun i hi => ?_, _, _, rfl⟩⟩
        by_cases e : i = j
        · subst e; exact Int.le_refl _
        · have := hm i (by omega)
          omega
      · refine wI_neg (decide_eq_false hlt) ?_
        walk_at "p"
        refine gv_nx ⟨rfl, .inr ⟨k, by omega, fun i hi => ?_, _, _, rfl⟩⟩
        by_cases e : i = j
        · subst e; omega
        · exact hm i (by omega)
  · obtain ⟨rfl, hI⟩ := hI
    have hl : ((List.range (3 ^ N)).map (lotK N)).length = 3 ^ N := by simp
    rw [hl] at hI
    have := pow_pos3 N
    rcases hI with ⟨e, _⟩ | ⟨k, hk, hm, t4, t5, rfl⟩
    · omega
    walk_at "p"
    unfold b_lowest_excess_2
    walk_at "p"
    rw [lk_min hk hm]
    refine fnl_d (by intro i e; cases e) ?_ ?_
    · have : cb C'.length (lotK N k) = true := by simp [lotK, tD, cb, cbL, cb_nI]
      simp [cb, cbL, this]
    · rw [List.take_length]
      exact q k hk
theorem lack_w (hN : N ≤ 5) (hn : ns.length = N) (h0 : ∀ v : Nat, fm f v v = 0) (q : ∀ k, k < 3 ^ N → Q (.tup [.int (-(lkE f N (rF ns))), lotK N k]) C) : wR (m_lack [webD N f, .tup (ns.map .int)] C) Q X := by
  rw [e_lack]
  apply w_fin
  unfold b_lack b_lack_0
  walk_at "p"
  refine size_w hN ?_
  walk_at "p"
  unfold b_lack_1
  refine w_asgT (is := [2, 3]) ?_
  walk_at "p"
  refine lowest_w hN hn h0 fun k hk => ?_
  refine ⟨_, _, rfl, rfl, ?_⟩
  walk_at "p"
  unfold b_lack_2
  walk_at "p"
  refine fnl_d (by intro i e; cases e) ?_ ?_
  · have : cb C.length (lotK N k) = true := by simp [lotK, tD, cb, cbL, cb_nI]
    simp [cb, cbL, this]
  · rw [List.take_length]
    exact q k hk
end
end CL
set_option maxHeartbeats 4000000
namespace CL
open PySem L2 CT
local macro_rules | `(tactic| walk_at "w") => `(tactic| first | ((with_reducible apply gR); first | with_reducible refine w_var rfl ?_ | with_reducible apply w_cons | with_reducible apply w_c | with_reducible apply w_nil | with_reducible apply w_op | with_reducible apply w_ap | with_reducible apply w_call | with_reducible apply w_tst | with_reducible apply w_un | with_reducible apply w_tand | with_reducible apply w_tor | with_reducible apply w_tnot | with_reducible apply w_yes | with_reducible apply w_and | with_reducible apply w_or | with_reducible apply w_not | with_reducible apply w_if | with_reducible apply w_chain | with_reducible apply w_isi | with_reducible apply w_isi2 | with_reducible apply w_prop | with_reducible apply w_meth | with_reducible apply w_dget | with_reducible apply w_dnewF | with_reducible apply w_dnewT | with_reducible apply w_part | with_reducible apply w_noPart | with_reducible apply w_slLF | with_reducible apply w_slA | with_reducible apply w_ok | with_reducible apply w_ofO | with_reducible apply w_lcI | with_reducible apply w_seqI | with_reducible apply w_rng1 | with_reducible apply w_rng2 | with_reducible apply w_enum) | ((with_reducible apply gO); first | with_reducible apply wo_add | with_reducible apply wo_sub | with_reducible apply wo_lt | with_reducible apply wo_gt | with_reducible apply wo_eq | with_reducible apply wo_ne | with_reducible apply wo_le | with_reducible apply wo_ge | with_reducible apply wo_neg | with_reducible apply wo_eqS | with_reducible apply wo_neS | with_reducible apply wo_min | with_reducible apply wo_max | with_reducible apply wo_int | with_reducible apply wo_abs | with_reducible apply wo_tupL | with_reducible apply wo_tupT | with_reducible refine wo_tup (by with_unfolding_all rfl) ?_ | with_reducible refine wo_lstF (by with_unfolding_all rfl) ?_ | with_reducible refine wo_lstT (by with_unfolding_all rfl) ?_ | with_reducible apply wo_fld0 | with_reducible apply wo_fld1 | with_reducible apply wo_fld2 | with_reducible apply wo_fldW0 | with_reducible apply wo_fldW1 | with_reducible apply wo_fldW2) | ((with_reducible apply gS); first | with_reducible apply w_seq | with_reducible apply w_asg | with_reducible apply w_sif | with_reducible apply w_next | with_reducible apply w_ret | with_reducible apply w_par | with_reducible apply w_drop | with_reducible apply w_asgT | with_reducible apply w_retN | with_reducible apply w_brk | with_reducible apply w_cnt | with_reducible apply w_raise | with_reducible apply w_forI) | ((with_reducible apply gI); first | with_reducible apply wI_t | with_reducible apply wI_f | with_reducible apply wI_not) | with_reducible apply w_bl | with_reducible apply thn_nx | with_reducible apply w_int | with_reducible apply w_obj | with_reducible apply thn_rt | with_reducible apply lp_nx | with_reducible apply fnl_int | with_reducible apply fnl_bl | with_reducible apply fnl_non | with_reducible apply fnl_str | with_reducible apply fnl_nx | with_reducible apply thn_bk | with_reducible apply thn_ct | with_reducible apply thn_xc | with_reducible apply lp_rt | with_reducible apply lp_bk | with_reducible apply lp_xc | with_reducible apply w_itL | with_reducible apply w_itT | with_reducible apply w_itK)
local macro_rules | `(tactic| walk_at "p") => `(tactic| repeat walk_at "w")
/-! RPIw: ints shown (W family). -/
theorem rep_int {C : Store} {i : Int} (h : i.natAbs < 10 ^ 18) : oRepr [.int i] C = some (.str (PyData.int i).shown, C) := by
  have s1 : (PyData.int i).showable = true := by
    show decide (i.natAbs.log2 < 1920) = true
    refine decide_eq_true ?_
    by_cases z : i.natAbs = 0
    · rw [z]
      decide
    · exact (Nat.log2_lt z).mpr (Nat.lt_trans h (by decide))
  have e := int_text_length_le10 (k := 18) (by decide) h
  have s2 : (PyData.shown (.int i)).length ≤ 19 := by
    show (Str.ofString (toString i)).length ≤ 19
    rw [ofString_length]; exact e
  have ok : repOk (.int i) = true := by
    unfold repOk
    rw [s1]
    have : szN (PyData.shown (.int i)).length = true := by simp only [szN, decide_eq_true_eq]; omega
    rw [this]
    rfl
  have tp : toP C (.int i) = some (.int i) := rfl
  simp only [oRepr, tp, ok, if_true]
end CL
set_option maxHeartbeats 4000000
namespace CL
open PySem L2 CT
local macro_rules | `(tactic| walk_at "w") => `(tactic| first | ((with_reducible apply gR); first | with_reducible refine w_var rfl ?_ | with_reducible apply w_cons | with_reducible apply w_c | with_reducible apply w_nil | with_reducible apply w_op | with_reducible apply w_ap | with_reducible apply w_call | with_reducible apply w_tst | with_reducible apply w_un | with_reducible apply w_tand | with_reducible apply w_tor | with_reducible apply w_tnot | with_reducible apply w_yes | with_reducible apply w_and | with_reducible apply w_or | with_reducible apply w_not | with_reducible apply w_if | with_reducible apply w_chain | with_reducible apply w_isi | with_reducible apply w_isi2 | with_reducible apply w_prop | with_reducible apply w_meth | with_reducible apply w_dget | with_reducible apply w_dnewF | with_reducible apply w_dnewT | with_reducible apply w_part | with_reducible apply w_noPart | with_reducible apply w_slLF | with_reducible apply w_slA | with_reducible apply w_ok | with_reducible apply w_ofO | with_reducible apply w_lcI | with_reducible apply w_seqI | with_reducible apply w_rng1 | with_reducible apply w_rng2 | with_reducible apply w_enum) | ((with_reducible apply gO); first | with_reducible apply wo_add | with_reducible apply wo_sub | with_reducible apply wo_lt | with_reducible apply wo_gt | with_reducible apply wo_eq | with_reducible apply wo_ne | with_reducible apply wo_le | with_reducible apply wo_ge | with_reducible apply wo_neg | with_reducible apply wo_eqS | with_reducible apply wo_neS | with_reducible apply wo_min | with_reducible apply wo_max | with_reducible apply wo_int | with_reducible apply wo_abs | with_reducible apply wo_tupL | with_reducible apply wo_tupT | with_reducible refine wo_tup (by with_unfolding_all rfl) ?_ | with_reducible refine wo_lstF (by with_unfolding_all rfl) ?_ | with_reducible refine wo_lstT (by with_unfolding_all rfl) ?_ | with_reducible apply wo_fld0 | with_reducible apply wo_fld1 | with_reducible apply wo_fld2 | with_reducible apply wo_fldW0 | with_reducible apply wo_fldW1 | with_reducible apply wo_fldW2) | ((with_reducible apply gS); first | with_reducible apply w_seq | with_reducible apply w_asg | with_reducible apply w_sif | with_reducible apply w_next | with_reducible apply w_ret | with_reducible apply w_par | with_reducible apply w_drop | with_reducible apply w_asgT | with_reducible apply w_retN | with_reducible apply w_brk | with_reducible apply w_cnt | with_reducible apply w_raise | with_reducible apply w_forI) | ((with_reducible apply gI); first | with_reducible apply wI_t | with_reducible apply wI_f | with_reducible apply wI_not) | with_reducible apply w_bl | with_reducible apply thn_nx | with_reducible apply w_int | with_reducible apply w_obj | with_reducible apply thn_rt | with_reducible apply lp_nx | with_reducible apply fnl_int | with_reducible apply fnl_bl | with_reducible apply fnl_non | with_reducible apply fnl_str | with_reducible apply fnl_nx | with_reducible apply thn_bk | with_reducible apply thn_ct | with_reducible apply thn_xc | with_reducible apply lp_rt | with_reducible apply lp_bk | with_reducible apply lp_xc | with_reducible apply w_itL | with_reducible apply w_itT | with_reducible apply w_itK)
local macro_rules | `(tactic| walk_at "p") => `(tactic| repeat walk_at "w")
/-! FR2: front, fronts_hold, the law's front: walked. -/
theorem cut_lo (xs : List D) (m : Nat) : cutD xs none (some (m : Int)) = xs.take m := by
  have e : ¬ ((m : Int) < 0) := by omega
  simp [cutD, HT.sIx, e, List.take_eq_take_iff]
theorem cut_hi (xs : List D) {m : Nat} (h : m ≤ xs.length) : cutD xs (some (m : Int)) none = xs.drop m := by
  have e : ¬ ((m : Int) < 0) := by omega
  have e2 : min m xs.length = m := by omega
  simp [cutD, HT.sIx, e, e2]
  exact List.take_of_length_le (by simp)
theorem fall_len (ns : List Int) : (fallI ns).length = ns.length := (fall_perm ns).length_eq
theorem fall_rev (ns : List Int) : (sI ns).reverse = fallI ns := by
  refine fall_uq ((List.reverse_perm _).trans (List.mergeSort_perm _ _)) ?_
  rw [List.pairwise_reverse]
  exact (sI_le ns).imp fun h => h
section
variable {Q : D → Store → Prop} {X : Exc → Store → Prop} {C : Store} {F : Fr} {ns : List Int} {c : Int}
theorem w_sortR {me : ME} (h : wR (me F C) (fun x C1 => ∃ ns : List Int, vT x = some (ns.map .int) ∧ Q (.lst ((fallI ns).map .int)) C1) X) : wR (mSortR me F C) Q X := by
  refine w_bnd (w_mono h (fun x C1 g => ?_) fun _ _ z => z)
  obtain ⟨ns, e, q⟩ := g
  have e2 : dInts (ns.map D.int) = some ns := by simp
  have : oSortR [x] C1 = some (.lst ((fallI ns).map .int), C1) := by simp only [oSortR, e, Option.bind_some, e2]
  simp only [this]
  exact w_ok q
theorem front_w {k : Nat} (hl : ns.length ≤ 1000) (hk : k ≤ ns.length) (q : Q (.int (frontI c ns k)) C) : wR (m_front [.int c, .tup (ns.map .int), .int k] C) Q X := by
  rw [e_front]
  apply w_fin
  unfold b_front b_front_0
  walk_at "w"
  walk_at "w"
  refine w_sortR ?_
  walk_at "p"
  refine ⟨ns, rfl, ?_⟩
  walk_at "p"
  unfold b_front_1
  walk_at "p"
  refine ⟨_, rfl, ?_⟩
  rw [cut_hi _ (by rw [List.length_map, fall_len]; exact hk)]
  walk_at "p"
  refine lc_p (pure_C _) (fun _ => true) (fun x => match x with | .int v => .int (min (c * k) v) | _ => .non) (by simp [fall_len]; omega) (fun x hx => ?_) (fun x hx _ => ?_) ?_
  · rw [← List.map_drop] at hx
    obtain ⟨v, hv, rfl⟩ := List.mem_map.mp hx
    refine ⟨_, rfl, fun acc => ⟨w_yes ⟨rfl, rfl⟩, fun _ => ?_⟩⟩
    walk_at "p"
    refine wo_mul (by simp only [cMul, Bool.or_eq_true, Bool.and_eq_true, decide_eq_true_eq]; right; omega) ?_
    walk_at "p"
    exact ⟨rfl, rfl⟩
  · rw [← List.map_drop] at hx
    obtain ⟨v, hv, rfl⟩ := List.mem_map.mp hx
    rfl
  have e : ((((fallI ns).map D.int).drop k).filter fun _ => true).map (fun x => match x with | .int v => D.int (min (c * k) v) | _ => .non) = (((fallI ns).drop k).map fun x => min (c * k) x).map .int := by
    rw [filter_yes, ← List.map_drop, List.map_map, List.map_map]
    rfl
  rw [e]
  walk_at "p"
  refine wo_of (sum_ints _ _) ?_
  walk_at "p"
  unfold b_front_2
  walk_at "p"
  refine wo_mul (by simp only [cMul, Bool.or_eq_true, Bool.and_eq_true, decide_eq_true_eq]; right; omega) ?_
  walk_at "p"
  refine wo_mul (by simp only [cMul, Bool.or_eq_true, Bool.and_eq_true, decide_eq_true_eq]; right; omega) ?_
  walk_at "p"
  refine ⟨_, rfl, ?_⟩
  rw [cut_lo, ← List.map_take]
  walk_at "p"
  refine wo_of (sum_ints _ _) ?_
  walk_at "p"
  rw [List.take_length]
  exact q
theorem hold_w (hl : ns.length ≤ 1000) (q : Q (.bl (holdsI c ns)) C) : wR (m_fronts_hold [.int c, .tup (ns.map .int)] C) Q X := by
  rw [e_fronts_hold]
  apply w_fin
  unfold b_fronts_hold
  walk_at "p"
  refine wo_len rfl ?_
  walk_at "p"
  refine ⟨_, _, rfl, rfl, inR_of (by decide) (by decide), inR_of (by omega) (by simp; omega), ?_⟩
  refine lc_p (pure_R 1 _) (fun _ => true) (fun x => match x with | .int v => .bl (decide (0 ≤ frontI c ns v.toNat)) | _ => .non) (by simp [rngI]; omega) (fun x hx => ?_) (fun x hx _ => ?_) ?_
  · obtain ⟨v, hv, rfl⟩ := List.mem_map.mp hx
    have hv := List.mem_range.mp hv
    rw [List.length_map] at hv
    refine ⟨_, rfl, fun acc => ⟨w_yes ⟨rfl, rfl⟩, fun _ => ?_⟩⟩
    walk_at "p"
    have e : (1 + (v : Int)) = ((v + 1 : Nat) : Int) := by omega
    rw [e]
    refine front_w hl (by omega) ?_
    walk_at "p"
    exact ⟨rfl, rfl⟩
  · obtain ⟨v, hv, rfl⟩ := List.mem_map.mp hx
    rfl
  have e : ((rngI 1 (((ns.map D.int).length : Int) + 1 - 1).toNat).filter fun _ => true).map (fun x => match x with | .int v => D.bl (decide (0 ≤ frontI c ns v.toNat)) | _ => .non) = ((List.range ns.length).map fun k => decide (0 ≤ frontI c ns (k + 1))).map .bl := by
    rw [filter_yes, rngI, List.map_map, List.map_map, List.length_map, show ((ns.length : Int) + 1 - 1).toNat = ns.length by omega]
    refine List.map_congr_left fun v _ => ?_
    show D.bl (decide (0 ≤ frontI c ns (1 + (v : Int)).toNat)) = D.bl (decide (0 ≤ frontI c ns (v + 1)))
    rw [show (1 + (v : Int)).toNat = v + 1 by omega]
  rw [e]
  walk_at "p"
  refine wo_of (all_bls _ _) ?_
  walk_at "p"
  rw [List.take_length]
  have e2 : ((List.range ns.length).map fun k => decide (0 ≤ frontI c ns (k + 1))).all id = holdsI c ns := by
    rw [List.all_map]
    rfl
  rw [e2]
  exact q
theorem lfront_w {k : Nat} {x : D} (hx : ∀ S : Store, S.take C.length = C → vL x S = some (ns.map .int)) (hl : ns.length ≤ 1000) (hk : k ≤ ns.length) (q : Q (.int (frontI c ns k)) C) : wR (m_law_front [.int c, x, .int k] C) Q X := by
  rw [e_law_front]
  apply w_fin
  unfold b_law_front b_law_front_0
  walk_at "w"
  walk_at "w"
  refine w_revLF ?_
  walk_at "p"
  refine wo_of (sortQ_i (own := false) (hx C List.take_length)) ?_
  walk_at "p"
  refine ⟨(sI ns).map .int, rfl, ?_⟩
  rw [← List.map_reverse, fall_rev]
  walk_at "p"
  unfold b_law_front_1
  walk_at "p"
  refine wo_mul (by simp only [cMul, Bool.or_eq_true, Bool.and_eq_true, decide_eq_true_eq]; right; omega) ?_
  walk_at "p"
  refine wo_mul (by simp only [cMul, Bool.or_eq_true, Bool.and_eq_true, decide_eq_true_eq]; right; omega) ?_
  walk_at "p"
  refine ⟨_, rfl, ?_⟩
  rw [cut_lo, ← List.map_take]
  walk_at "p"
  refine wo_of (sum_ints _ _) ?_
  walk_at "p"
  unfold b_law_front_2
  walk_at "p"
  refine ⟨_, rfl, ?_⟩
  rw [cut_hi _ (by rw [List.length_map, fall_len]; exact hk), ← List.map_drop]
  walk_at "p"
  refine loop_p (pure_C _) (fun j sl S => S = C ∧ ∃ t5, sl = [some (.int c), some x, some (.int k), some (.lst ((fallI ns).map .int)), some (.int (c * k * (k - 1) - ((fallI ns).take k).sum + ((((fallI ns).drop k).take j).map fun x => min (c * k) x).sum)), t5]) ⟨rfl, none, ?_⟩ (fun j y sl S hy hI => ?_) (fun sl S hI => ?_)
  · simp
  · obtain ⟨rfl, t5, rfl⟩ := hI
    rw [List.getElem?_map, Option.map_eq_some_iff] at hy
    obtain ⟨v, hv, rfl⟩ := hy
    refine ⟨_, rfl, ?_⟩
    unfold b_law_front_2b_0
    refine w_aug rfl ?_
    walk_at "p"
    refine wo_mul (by simp only [cMul, Bool.or_eq_true, Bool.and_eq_true, decide_eq_true_eq]; right; omega) ?_
    walk_at "p"
    refine ⟨rfl, some (.int v), ?_⟩
    rw [List.take_succ, hv]
    simp
    omega
  · obtain ⟨rfl, t5, rfl⟩ := hI
    walk_at "p"
    unfold b_law_front_3
    walk_at "p"
    rw [List.length_map, List.take_length, List.take_length]
    have e : c * k * ((k : Int) - 1) - ((fallI ns).take k).sum + (((fallI ns).drop k).map fun x => min (c * k) x).sum = frontI c ns k := by
      unfold frontI
      omega
    rw [e]
    exact q
theorem alike_i {x : Int} (h : x.natAbs < 10 ^ 18) (q : Q (.bl true) C) : wR (m_law_alike [.int x, .int x] C) Q X := by
  rw [e_law_alike]
  apply w_fin
  unfold b_law_alike
  walk_at "p"
  refine wI_dt rfl ?_
  walk_at "p"
  refine wo_of (rep_int h) ?_
  walk_at "p"
  refine wo_of (rep_int h) ?_
  walk_at "p"
  rw [List.take_length, decide_eq_true rfl]
  exact q
end
end CL
set_option maxHeartbeats 4000000
namespace CL
open PySem L2 CT
local macro_rules | `(tactic| walk_at "w") => `(tactic| first | ((with_reducible apply gR); first | with_reducible refine w_var rfl ?_ | with_reducible apply w_cons | with_reducible apply w_c | with_reducible apply w_nil | with_reducible apply w_op | with_reducible apply w_ap | with_reducible apply w_call | with_reducible apply w_tst | with_reducible apply w_un | with_reducible apply w_tand | with_reducible apply w_tor | with_reducible apply w_tnot | with_reducible apply w_yes | with_reducible apply w_and | with_reducible apply w_or | with_reducible apply w_not | with_reducible apply w_if | with_reducible apply w_chain | with_reducible apply w_isi | with_reducible apply w_isi2 | with_reducible apply w_prop | with_reducible apply w_meth | with_reducible apply w_dget | with_reducible apply w_dnewF | with_reducible apply w_dnewT | with_reducible apply w_part | with_reducible apply w_noPart | with_reducible apply w_slLF | with_reducible apply w_slA | with_reducible apply w_ok | with_reducible apply w_ofO | with_reducible apply w_lcI | with_reducible apply w_seqI | with_reducible apply w_rng1 | with_reducible apply w_rng2 | with_reducible apply w_enum) | ((with_reducible apply gO); first | with_reducible apply wo_add | with_reducible apply wo_sub | with_reducible apply wo_lt | with_reducible apply wo_gt | with_reducible apply wo_eq | with_reducible apply wo_ne | with_reducible apply wo_le | with_reducible apply wo_ge | with_reducible apply wo_neg | with_reducible apply wo_eqS | with_reducible apply wo_neS | with_reducible apply wo_min | with_reducible apply wo_max | with_reducible apply wo_int | with_reducible apply wo_abs | with_reducible apply wo_tupL | with_reducible apply wo_tupT | with_reducible refine wo_tup (by with_unfolding_all rfl) ?_ | with_reducible refine wo_lstF (by with_unfolding_all rfl) ?_ | with_reducible refine wo_lstT (by with_unfolding_all rfl) ?_ | with_reducible apply wo_fld0 | with_reducible apply wo_fld1 | with_reducible apply wo_fld2 | with_reducible apply wo_fldW0 | with_reducible apply wo_fldW1 | with_reducible apply wo_fldW2) | ((with_reducible apply gS); first | with_reducible apply w_seq | with_reducible apply w_asg | with_reducible apply w_sif | with_reducible apply w_next | with_reducible apply w_ret | with_reducible apply w_par | with_reducible apply w_drop | with_reducible apply w_asgT | with_reducible apply w_retN | with_reducible apply w_brk | with_reducible apply w_cnt | with_reducible apply w_raise | with_reducible apply w_forI) | ((with_reducible apply gI); first | with_reducible apply wI_t | with_reducible apply wI_f | with_reducible apply wI_not) | with_reducible apply w_bl | with_reducible apply thn_nx | with_reducible apply w_int | with_reducible apply w_obj | with_reducible apply thn_rt | with_reducible apply lp_nx | with_reducible apply fnl_int | with_reducible apply fnl_bl | with_reducible apply fnl_non | with_reducible apply fnl_str | with_reducible apply fnl_nx | with_reducible apply thn_bk | with_reducible apply thn_ct | with_reducible apply thn_xc | with_reducible apply lp_rt | with_reducible apply lp_bk | with_reducible apply lp_xc | with_reducible apply w_itL | with_reducible apply w_itT | with_reducible apply w_itK)
local macro_rules | `(tactic| walk_at "p") => `(tactic| repeat walk_at "w")
/-! WINS: xs.insert(i, v). -/
theorem w_insert {mo mi me : ME} {F : Fr} {C : Store} {Q : D → Store → Prop} {E : Exc → Store → Prop} (h : wR (mo F C) (fun o C1 => (vL o C1).isSome = true ∧ wR (mi F C1) (fun x C2 => wR (me F C2) (fun v C3 => ∃ (n : Nat) (i : Nat) (ds : List D), x = .int n ∧ cL o C3 = some (i, ds) ∧ F.fl ≤ i ∧ n ≤ 1000 ∧ ds.length < 16777216 ∧ Q .non (C3.set i (some (.lst (ds.take n ++ [v] ++ ds.drop n))))) E) E) E) : wR (mInsert mo mi me F C) Q E := by
  unfold mInsert
  refine w_bnd (w_mono h (fun o C1 g => ?_) fun _ _ z => z)
  rw [if_pos g.1]
  refine w_bnd (w_mono g.2 (fun x C2 g => w_bnd (w_mono g (fun v C3 g => ?_) fun _ _ z => z)) fun _ _ z => z)
  obtain ⟨n, i, ds, rfl, e, hi, hn, hz, q⟩ := g
  have hs : szN (ds.length + 1) = true := by simp only [szN, decide_eq_true_eq]; omega
  have c : szN (ds.length + 1) = true ∧ 0 ≤ (n : Int) ∧ (n : Int) < 2 ^ 63 := ⟨hs, by omega, by omega⟩
  have en : (n : Int).toNat = n := by omega
  simp only [e, c, and_self, if_true, en, wr_hi hi]
  exact w_ok q
end CL
set_option maxHeartbeats 4000000
/-! M9: plain facts on sums. -/
namespace CL
open PySem L2 CT
/-- what the items give a pair together -/
def tot (L : List T3) (k : Int × Int) : Int := (L.map fun t => if pr t = k then t.2.2 else 0).sum
theorem dg0_fold (k : Int × Int) : ∀ (L : List T3) (d : Dc), dg0 (L.foldl addT d) k = dg0 d k + tot L k
  | [], d => by simp [tot]
  | t :: L, d => by
    rw [List.foldl_cons, dg0_fold k L]
    unfold addT
    rw [dg0_dp]
    by_cases h : k = pr t
    · subst h
      simp [tot]
      omega
    · have h' : ¬ pr t = k := fun e => h e.symm
      simp [tot, h, h']
theorem dg0_sums (L : List T3) (k : Int × Int) : dg0 (sums L) k = tot L k := by
  have := dg0_fold k L []
  rw [show dg0 ([] : Dc) k = 0 from rfl, Int.zero_add] at this
  exact this
theorem tot_cons (t : T3) (L : List T3) (k : Int × Int) : tot (t :: L) k = (if pr t = k then t.2.2 else 0) + tot L k := by
  simp [tot]
theorem pairs_nodup (N : Nat) : (pairsL N).Nodup := by
  unfold pairsL
  have key : ∀ l : List Nat, l.Nodup → (l.flatMap fun u : Nat => (List.range (N - (u + 1))).map fun w : Nat => ((u : Int), ((u + 1 + w : Nat) : Int))).Nodup := by
    intro l
    induction l with
    | nil => intro _; simp
    | cons u l ih =>
      intro hl
      rw [List.nodup_cons] at hl
      rw [List.flatMap_cons, List.nodup_append]
      refine ⟨?_, ih hl.2, ?_⟩
      · apply nodup_map_on List.nodup_range
        intro x _ y _ e
        have := congrArg Prod.snd e
        simp only at this
        omega
      · intro a ha b hb e
        subst e
        obtain ⟨w, _, rfl⟩ := List.mem_map.mp ha
        obtain ⟨u', hu', hb'⟩ := List.mem_flatMap.mp hb
        obtain ⟨w', _, e⟩ := List.mem_map.mp hb'
        have := congrArg Prod.fst e
        simp only at this
        have eu : u' = u := by omega
        subst eu
        exact hl.1 hu'
  exact key _ List.nodup_range
end CL
set_option maxHeartbeats 4000000
/-! M10: a dict's keys in order; _law_made. -/
namespace CL
open PySem L2 CT
/-- a dict of sums for N places -/
structure DOk (N : Nat) (d : Dc) : Prop where
  n : N ≤ 60
  nd : (d.map (·.1)).Nodup
  k : ∀ p ∈ d, 0 ≤ p.1.1 ∧ p.1.1 < p.1.2 ∧ p.1.2 < N ∧ 0 ≤ p.2 ∧ p.2 ≤ 1000000000
  l : d.length ≤ 900
section
variable {N : Nat} {d : Dc} {C : Store} {x : D}
theorem DOk.f (h : DOk N d) (p : Int × Int) : 0 ≤ dg0 d p ∧ dg0 d p ≤ 1000000000 := by
  unfold dg0
  cases e : dg d p with
  | none => simp
  | some n =>
    have := h.k _ (dg_mem e)
    exact ⟨this.2.2.2.1, this.2.2.2.2⟩
theorem tot_map {f : Int × Int → Int} {k : Int × Int} : ∀ {l : List (Int × Int)}, (∀ p ∈ l, p.1 < p.2) → l.Nodup → tot (l.map fun p => (p.1, p.2, f p)) k = if k ∈ l then f k else 0
  | [], _, _ => by simp [tot]
  | p :: l, ho, nd => by
    rw [List.nodup_cons] at nd
    have ih := tot_map (f := f) (k := k) (fun q hq => ho q (List.mem_cons_of_mem _ hq)) nd.2
    have hp := ho p (List.mem_cons_self ..)
    have e1 : pr (p.1, p.2, f p) = p := by
      show (min p.1 p.2, max p.1 p.2) = p
      rw [show min p.1 p.2 = p.1 by omega, show max p.1 p.2 = p.2 by omega]
    rw [List.map_cons, tot_cons, ih, e1]
    by_cases e : p = k
    · subst e
      rw [if_pos rfl, if_neg nd.1, if_pos (List.mem_cons_self ..)]
      show f p + 0 = f p
      omega
    · rw [if_neg e]
      have e' : ¬ k = p := fun z => e z.symm
      simp [e']
end
end CL
set_option maxHeartbeats 4000000
namespace CL
open PySem L2 CT
local macro_rules | `(tactic| walk_at "w") => `(tactic| first | ((with_reducible apply gR); first | with_reducible refine w_var rfl ?_ | with_reducible apply w_cons | with_reducible apply w_c | with_reducible apply w_nil | with_reducible apply w_op | with_reducible apply w_ap | with_reducible apply w_call | with_reducible apply w_tst | with_reducible apply w_un | with_reducible apply w_tand | with_reducible apply w_tor | with_reducible apply w_tnot | with_reducible apply w_yes | with_reducible apply w_and | with_reducible apply w_or | with_reducible apply w_not | with_reducible apply w_if | with_reducible apply w_chain | with_reducible apply w_isi | with_reducible apply w_isi2 | with_reducible apply w_prop | with_reducible apply w_meth | with_reducible apply w_dget | with_reducible apply w_dnewF | with_reducible apply w_dnewT | with_reducible apply w_part | with_reducible apply w_noPart | with_reducible apply w_slLF | with_reducible apply w_slA | with_reducible apply w_ok | with_reducible apply w_ofO | with_reducible apply w_lcI | with_reducible apply w_seqI | with_reducible apply w_rng1 | with_reducible apply w_rng2 | with_reducible apply w_enum) | ((with_reducible apply gO); first | with_reducible apply wo_add | with_reducible apply wo_sub | with_reducible apply wo_lt | with_reducible apply wo_gt | with_reducible apply wo_eq | with_reducible apply wo_ne | with_reducible apply wo_le | with_reducible apply wo_ge | with_reducible apply wo_neg | with_reducible apply wo_eqS | with_reducible apply wo_neS | with_reducible apply wo_min | with_reducible apply wo_max | with_reducible apply wo_int | with_reducible apply wo_abs | with_reducible apply wo_tupL | with_reducible apply wo_tupT | with_reducible refine wo_tup (by with_unfolding_all rfl) ?_ | with_reducible refine wo_lstF (by with_unfolding_all rfl) ?_ | with_reducible refine wo_lstT (by with_unfolding_all rfl) ?_ | with_reducible apply wo_fld0 | with_reducible apply wo_fld1 | with_reducible apply wo_fld2 | with_reducible apply wo_fldW0 | with_reducible apply wo_fldW1 | with_reducible apply wo_fldW2) | ((with_reducible apply gS); first | with_reducible apply w_seq | with_reducible apply w_asg | with_reducible apply w_sif | with_reducible apply w_next | with_reducible apply w_ret | with_reducible apply w_par | with_reducible apply w_drop | with_reducible apply w_asgT | with_reducible apply w_retN | with_reducible apply w_brk | with_reducible apply w_cnt | with_reducible apply w_raise | with_reducible apply w_forI) | ((with_reducible apply gI); first | with_reducible apply wI_t | with_reducible apply wI_f | with_reducible apply wI_not) | with_reducible apply w_bl | with_reducible apply thn_nx | with_reducible apply w_int | with_reducible apply w_obj | with_reducible apply thn_rt | with_reducible apply lp_nx | with_reducible apply fnl_int | with_reducible apply fnl_bl | with_reducible apply fnl_non | with_reducible apply fnl_str | with_reducible apply fnl_nx | with_reducible apply thn_bk | with_reducible apply thn_ct | with_reducible apply thn_xc | with_reducible apply lp_rt | with_reducible apply lp_bk | with_reducible apply lp_xc | with_reducible apply w_itL | with_reducible apply w_itT | with_reducible apply w_itK)
local macro_rules | `(tactic| walk_at "p") => `(tactic| repeat walk_at "w")
/-! FR3: complete webs made; rows mixed. -/
theorem one_w {i : Nat} {C : Store} {xs : List D} {Q : D → Store → Prop} {E : Exc → Store → Prop} (hB : Bg i C) (h0 : 0 < xs.length) (hl : xs.length < 1000) (hc : cbL 0 xs = true) (h : ∀ d C', d ∈ xs → To i C C' → Q d C') : wR (m_law_one [.cell i, .lst xs] C) Q E := by
  rw [e_law_one]
  apply w_fin
  unfold b_law_one
  walk_at "p"
  refine wo_len rfl ?_
  walk_at "p"
  refine take_w hB (by omega) (by omega) fun r C' r0 r1 t => ?_
  have hk : r.toNat < xs.length := by omega
  refine wo_ix rfl (k := r.toNat) (by omega) (List.getElem?_eq_getElem hk) ?_
  have hm : xs[r.toNat] ∈ xs := List.getElem_mem hk
  refine fnl_p (cb_of hc hm) ?_
  rw [t.tk]
  exact h _ _ hm t
def comF (N : Nat) (c : Int) (p : Int × Int) : Int := if p ∈ pairsL N then c else 0
def comL (N : Nat) (c : Int) : List T3 := (pairsL N).map fun p => (p.1, p.2, c)
section
variable {N : Nat} {c : Int}
theorem comL_f : fL (comL N c) = comF N c := by
  funext k
  show dg0 (sums (comL N c)) k = _
  have e : comL N c = (pairsL N).map fun p => (p.1, p.2, (fun _ => c) p) := rfl
  rw [dg0_sums, e, tot_map (f := fun _ => c) (fun p hp => ?_) (pairs_nodup N)]
  · rfl
  · obtain ⟨u, v, h1, h2, rfl⟩ := mem_pairs.mp hp
    show (u : Int) < v
    omega
theorem comF_bd (c0 : 0 ≤ c) (c1 : c ≤ 1000000000) (p : Int × Int) : 0 ≤ comF N c p ∧ comF N c p ≤ 1000000000 := by
  unfold comF
  split <;> omega
theorem com_fits (hN : N ≤ 60) (c0 : 0 ≤ c) (c1 : c ≤ 1000000000) : Fits N (comL N c) := by
  refine ⟨hN, fun t ht => ?_, ?_, fun u v _ _ => ?_⟩
  · obtain ⟨p, hp, rfl⟩ := List.mem_map.mp ht
    obtain ⟨u, v, h1, h2, rfl⟩ := mem_pairs.mp hp
    exact ⟨by show (0 : Int) ≤ u; omega, by show (u : Int) < N; omega, by show (0 : Int) ≤ v; omega, by show (v : Int) < N; omega, by show (u : Int) ≠ v; omega, c0, c1⟩
  · have := pairs_len hN
    unfold comL
    rw [List.length_map]
    omega
  · rw [comL_f]
    exact (comF_bd c0 c1 _).2
theorem com_fm {u v : Nat} (hu : u < N) (hv : v < N) (ne : u ≠ v) : fm (comF N c) u v = c := by
  unfold fm comF
  rw [if_pos]
  refine mem_pairs.mpr ⟨min u v, max u v, by omega, by omega, ?_⟩
  rw [Prod.mk.injEq]
  omega
theorem com_dg (v : Nat) : fm (comF N c) v v = 0 := by
  unfold fm comF
  rw [if_neg]
  intro h
  obtain ⟨a, b, h1, h2, e⟩ := mem_pairs.mp h
  rw [Prod.mk.injEq] at e
  omega
end
theorem cb_web (n N : Nat) (f : Int × Int → Int) : cb n (webD N f) = true := by
  show (true && (cb n (gridD _) && (cbL n ((tiesL N f).map triD) && true))) = true
  rw [cb_grid, cb_ties]
  rfl
section
variable {Q : D → Store → Prop} {X : Exc → Store → Prop} {C : Store} {N : Nat} {c : Int}
theorem complete_w (hN : N ≤ 60) (c0 : 0 ≤ c) (c1 : c ≤ 1000000000) (q : Q (webD N (comF N c)) C) : wR (m_complete [.int N, .int c] C) Q X := by
  rw [e_complete]
  apply w_fin
  unfold b_complete
  walk_at "w"
  have e : mLc2 false (mRng1 (mVar 0)) (Tgt.nm 2).M tYesM (mRng2 (mOp oAdd (mVar 2) (mC (.int 1))) (mVar 0)) (Tgt.nm 3).M tYesM (mAp oTup (mCons (mVar 2) (mCons (mVar 3) (mCons (mVar 1) mNil)))) [2, 3] [3] ⟨C.length, [some (.int N), some (.int c), none, none]⟩ C =
      .ok (.lst (flat2 (rngI 0 N) (fun x => rngI (asI x + 1) (N - (asI x + 1)).toNat) (fun _ _ => true) fun x y => .tup [x, y, .int c])) C := by
    refine ev_lc2 (pure_R 0 N) (fun x => rngI (asI x + 1) (N - (asI x + 1)).toNat) (fun _ _ => true) (fun x y => .tup [x, y, .int c]) 60 (by rw [ev_rng1 (j := (N : Int)) (by simp) (inR_nat (by omega))]; simp) (fun x hx => ?_) (by simp [rngI]; omega) (by omega) (fun x hx => ?_) (fun x hx y hy _ => ?_)
    · obtain ⟨u, hu, rfl⟩ := mem_rng hx
      simp [rngI, asI]
      omega
    · obtain ⟨u, hu, rfl⟩ := mem_rng hx
      refine ⟨[some (.int N), some (.int c), some (.int (0 + (u : Int))), none], by simp, fun acc => ⟨⟨itR ((0 + (u : Int)) + 1) ((N : Int) - ((0 + (u : Int)) + 1)).toNat, pure_R _ _, ?_⟩, fun y hy => ?_⟩⟩
      · exact ev_rng2 (by simp) (by simp) (by have := inR_nat (N := u + 1) (by omega); simpa using this) (inR_nat (by omega))
      · obtain ⟨w, hw, rfl⟩ := mem_rng hy
        exact ⟨[some (.int N), some (.int c), some (.int (0 + (u : Int))), some (.int (asI (.int (0 + (u : Int))) + 1 + (w : Int)))], by simp, fun acc => ⟨rfl, fun _ => by simp [oTup, szN]⟩⟩
    · obtain ⟨u, hu, rfl⟩ := mem_rng hx
      obtain ⟨w, hw, rfl⟩ := mem_rng hy
      rfl
  have ep : flat2 (rngI 0 N) (fun x => rngI (asI x + 1) (N - (asI x + 1)).toNat) (fun _ _ => true) (fun x y => D.tup [x, y, .int c]) = (comL N c).map triD := by
    unfold flat2 comL pairsL
    rw [List.map_flatMap, List.map_flatMap]
    unfold rngI
    rw [List.flatMap_map]
    refine flatMap_cg fun u _ => ?_
    show List.map (fun y => D.tup [.int (0 + (u : Int)), y, .int c]) (List.filter (fun _ => true) (List.map (fun i : Nat => D.int ((0 + (u : Int)) + 1 + (i : Int))) (List.range ((N : Int) - ((0 + (u : Int)) + 1)).toNat))) = _
    rw [show ((N : Int) - ((0 + (u : Int)) + 1)).toNat = N - (u + 1) by omega, filter_yes, List.map_map, List.map_map, List.map_map]
    refine List.map_congr_left fun w _ => ?_
    show D.tup [.int (0 + (u : Int)), .int (0 + (u : Int) + 1 + (w : Int)), .int c] = .tup [.int (u : Int), .int ((u + 1 + w : Nat) : Int), .int c]
    rw [show (0 : Int) + (u : Int) = u by omega, show (u : Int) + 1 + (w : Int) = ((u + 1 + w : Nat) : Int) by omega]
  rw [ep] at e
  refine w_of (make_ok (com_fits hN c0 c1) (.inl rfl) (ds := [.int N, .lst ((comL N c).map triD)]) ?_ rfl) ?_
  · refine w_eqv ?_
    walk_at "p"
    refine w_of e ?_
    walk_at "p"
    exact ⟨rfl, rfl⟩
  rw [comL_f]
  refine fnl_d (by intro i e; cases e) (cb_web _ _ _) ?_
  rw [List.take_length]
  exact q
theorem mixed_i {i j : Nat} {ns : List Int} (hB : Bg i C) (hj : C[j]? = some (some (.lst (ns.map .int)))) (ji : j ≠ i) (hl : ns.length ≤ 1000) (q : ∀ (zs : List Int) C', To i C C' → zs.Perm ns → Q (.lst (zs.map .int)) C') : wR (m_law_mixed [.cell i, .cell j] C) Q X := by
  have jl : j < C.length := (List.getElem?_eq_some_iff.mp hj).1
  rw [e_law_mixed]
  apply w_fin
  unfold b_law_mixed b_law_mixed_0
  walk_at "p"
  unfold b_law_mixed_1
  walk_at "p"
  have at_ : ∀ (S : Store) (n : Nat) (xs : List D), S.length = n → (S ++ [some (Cell.lst xs)])[n]? = some (some (.lst xs)) := fun S n xs h => by subst h; simp
  have old : ∀ (S : Store) (x : Option Cell), To i C S → (S ++ [x])[j]? = some (some (.lst (ns.map .int))) := fun S x t => by
    rw [List.getElem?_append_left (by rw [t.len]; exact jl), t.get ji]
    exact hj
  refine w_itC (old C _ (To.refl hB)) ?_
  refine loop_o on_cell (fun m sl S => ∃ (C' : Store) (zs : List Int) (t3 : Option D), S = C' ++ [some (Cell.lst (List.map D.int zs))] ∧ To i C C' ∧ zs.Perm (ns.take m) ∧ sl = [some (.cell i), some (.cell j), some (.cell C.length), t3]) (fun m sl S ⟨C', zs, t3, e, t, _⟩ => e ▸ old C' _ t) ⟨C, [], _, rfl, To.refl hB, List.Perm.refl _, rfl⟩ ?_ ?_
  · rintro m y sl S hy ⟨C', zs, t3, rfl, t0, hp, rfl⟩
    rw [List.getElem?_map, Option.map_eq_some_iff] at hy
    obtain ⟨v, hv, rfl⟩ := hy
    have hz : zs.length ≤ 1000 := by
      rw [hp.length_eq, List.length_take]
      omega
    refine ⟨_, rfl, ?_⟩
    unfold b_law_mixed_1b_0
    walk_at "w"
    refine w_insert ?_
    walk_at "p"
    refine ⟨by simp only [vL, at_ C' C.length _ t0.len]; rfl, ?_⟩
    walk_at "p"
    refine wo_len (xs := zs.map .int) (by simp only [vS, vL, at_ C' C.length _ t0.len]) ?_
    rw [List.length_map]
    walk_at "p"
    obtain ⟨r, C1, er, r0, r1, t1⟩ := take_to (n := (zs.length : Int) + 1) t0.bg (by omega) (by omega) [some (Cell.lst (List.map D.int zs))]
    refine w_of er ?_
    walk_at "p"
    have l1 : C1.length = C.length := by rw [t1.len, t0.len]
    refine ⟨r.toNat, C.length, zs.map .int, by rw [show ((r.toNat : Nat) : Int) = r by omega], by simp only [cL, at_ C1 C.length _ l1], Nat.le_refl _, by omega, by rw [List.length_map]; omega, ?_⟩
    have es : (C1 ++ [some (Cell.lst (List.map D.int zs))]).set C.length (some (Cell.lst ((zs.map D.int).take r.toNat ++ [.int v] ++ (zs.map D.int).drop r.toNat))) = C1 ++ [some (Cell.lst (List.map D.int (zs.take r.toNat ++ [v] ++ zs.drop r.toNat)))] := by
      rw [← l1]
      simp
    rw [es]
    refine lp_nx ⟨C1, _, _, rfl, t0.trans t1, ?_, rfl⟩
    rw [List.take_succ, hv]
    show (zs.take r.toNat ++ [v] ++ zs.drop r.toNat).Perm (ns.take m ++ [v])
    have p1 : (zs.take r.toNat ++ [v] ++ zs.drop r.toNat).Perm (zs ++ [v]) := by
      have : zs ++ [v] = zs.take r.toNat ++ zs.drop r.toNat ++ [v] := by rw [List.take_append_drop]
      rw [this, List.append_assoc, List.append_assoc]
      exact List.Perm.append_left _ List.perm_append_comm
    exact p1.trans (hp.append_right _)
  · rintro sl S ⟨C', zs, t3, rfl, t0, hp, rfl⟩
    rw [List.length_map, List.take_length] at hp
    refine thn_nx ?_
    unfold b_law_mixed_2
    walk_at "p"
    refine fnl_own (Nat.le_refl _) (at_ C' C.length _ t0.len) (cbL_ints _ _) ?_
    rw [← t0.len, List.take_left]
    exact q zs C' t0 hp
end
end CL
set_option maxHeartbeats 4000000
namespace CL
open PySem L2 CT
local macro_rules | `(tactic| walk_at "w") => `(tactic| first | ((with_reducible apply gR); first | with_reducible refine w_var rfl ?_ | with_reducible apply w_cons | with_reducible apply w_c | with_reducible apply w_nil | with_reducible apply w_op | with_reducible apply w_ap | with_reducible apply w_call | with_reducible apply w_tst | with_reducible apply w_un | with_reducible apply w_tand | with_reducible apply w_tor | with_reducible apply w_tnot | with_reducible apply w_yes | with_reducible apply w_and | with_reducible apply w_or | with_reducible apply w_not | with_reducible apply w_if | with_reducible apply w_chain | with_reducible apply w_isi | with_reducible apply w_isi2 | with_reducible apply w_prop | with_reducible apply w_meth | with_reducible apply w_dget | with_reducible apply w_dnewF | with_reducible apply w_dnewT | with_reducible apply w_part | with_reducible apply w_noPart | with_reducible apply w_slLF | with_reducible apply w_slA | with_reducible apply w_ok | with_reducible apply w_ofO | with_reducible apply w_lcI | with_reducible apply w_seqI | with_reducible apply w_rng1 | with_reducible apply w_rng2 | with_reducible apply w_enum) | ((with_reducible apply gO); first | with_reducible apply wo_add | with_reducible apply wo_sub | with_reducible apply wo_lt | with_reducible apply wo_gt | with_reducible apply wo_eq | with_reducible apply wo_ne | with_reducible apply wo_le | with_reducible apply wo_ge | with_reducible apply wo_neg | with_reducible apply wo_eqS | with_reducible apply wo_neS | with_reducible apply wo_min | with_reducible apply wo_max | with_reducible apply wo_int | with_reducible apply wo_abs | with_reducible apply wo_tupL | with_reducible apply wo_tupT | with_reducible refine wo_tup (by with_unfolding_all rfl) ?_ | with_reducible refine wo_lstF (by with_unfolding_all rfl) ?_ | with_reducible refine wo_lstT (by with_unfolding_all rfl) ?_ | with_reducible apply wo_fld0 | with_reducible apply wo_fld1 | with_reducible apply wo_fld2 | with_reducible apply wo_fldW0 | with_reducible apply wo_fldW1 | with_reducible apply wo_fldW2) | ((with_reducible apply gS); first | with_reducible apply w_seq | with_reducible apply w_asg | with_reducible apply w_sif | with_reducible apply w_next | with_reducible apply w_ret | with_reducible apply w_par | with_reducible apply w_drop | with_reducible apply w_asgT | with_reducible apply w_retN | with_reducible apply w_brk | with_reducible apply w_cnt | with_reducible apply w_raise | with_reducible apply w_forI) | ((with_reducible apply gI); first | with_reducible apply wI_t | with_reducible apply wI_f | with_reducible apply wI_not) | with_reducible apply w_bl | with_reducible apply thn_nx | with_reducible apply w_int | with_reducible apply w_obj | with_reducible apply thn_rt | with_reducible apply lp_nx | with_reducible apply fnl_int | with_reducible apply fnl_bl | with_reducible apply fnl_non | with_reducible apply fnl_str | with_reducible apply fnl_nx | with_reducible apply thn_bk | with_reducible apply thn_ct | with_reducible apply thn_xc | with_reducible apply lp_rt | with_reducible apply lp_bk | with_reducible apply lp_xc | with_reducible apply w_itL | with_reducible apply w_itT | with_reducible apply w_itK)
local macro_rules | `(tactic| walk_at "p") => `(tactic| repeat walk_at "w")
/-! FR4: fronts of long rows. -/
theorem sum_bdI {B : Int} : ∀ {l : List Int}, (∀ x ∈ l, 0 ≤ x ∧ x ≤ B) → 0 ≤ l.sum ∧ l.sum ≤ B * l.length
  | [], _ => by simp
  | x :: l, h => by
    have h1 := h x (List.mem_cons_self ..)
    have ih := sum_bdI (l := l) fun y hy => h y (List.mem_cons_of_mem _ hy)
    rw [List.sum_cons, List.length_cons]
    have e : B * ((l.length + 1 : Nat) : Int) = B * l.length + B := by
      push_cast
      rw [Int.mul_add, Int.mul_one]
    rw [e]
    omega
theorem front_bd {c : Int} {ns : List Int} {k : Nat} (c0 : 0 ≤ c) (c1 : c ≤ 1000000000) (hl : ns.length ≤ 60) (hk : k ≤ 60) (hb : ∀ x ∈ ns, 0 ≤ x ∧ x ≤ 100000000000) : (frontI c ns k).natAbs < 10 ^ 18 := by
  have m1 : 0 ≤ c * k ∧ c * k ≤ 60000000000 := by
    refine ⟨Int.mul_nonneg c0 (by omega), ?_⟩
    have a1 : c * k ≤ 1000000000 * k := Int.mul_le_mul_of_nonneg_right c1 (by omega)
    omega
  have hf : ∀ x ∈ fallI ns, 0 ≤ x ∧ x ≤ 100000000000 := fun x hx => hb x ((fall_perm ns).mem_iff.mp hx)
  have a := sum_bdI (l := (fallI ns).take k) fun x hx => hf x (List.mem_of_mem_take hx)
  have b := sum_bdI (B := 100000000000) (l := ((fallI ns).drop k).map fun x => min (c * k) x) fun x hx => by
    obtain ⟨y, hy, rfl⟩ := List.mem_map.mp hx
    have := hf y (List.mem_of_mem_drop hy)
    show 0 ≤ min (c * k) y ∧ min (c * k) y ≤ 100000000000
    omega
  have la : ((fallI ns).take k).length ≤ 60 := by rw [List.length_take, fall_len]; omega
  have lb : (((fallI ns).drop k).map fun x => min (c * k) x).length ≤ 60 := by rw [List.length_map, List.length_drop, fall_len]; omega
  have m2 : c * k * ((k : Int) - 1) ≤ 60000000000 * 60 ∧ -60000000000 ≤ c * k * ((k : Int) - 1) := by
    by_cases z : k = 0
    · subst z
      simp
    · have h0 : (0 : Int) ≤ (k : Int) - 1 := by omega
      have n0 := Int.mul_nonneg m1.1 h0
      have a1 : c * k * ((k : Int) - 1) ≤ 60000000000 * ((k : Int) - 1) := Int.mul_le_mul_of_nonneg_right m1.2 h0
      omega
  unfold frontI
  omega
section
variable {Q : D → Store → Prop} {X : Exc → Store → Prop} {C : Store} {F : Fr} {i : Nat}
theorem take_y {n : Int} (hB : Bg i C) (hn : 0 < n) (hn2 : n < 4611686018427387904) (Y : Store) (h : ∀ r C', 0 ≤ r → r < n → To i C C' → Q (.int r) (C' ++ Y)) : wR (m_law_take [.cell i, .int n] (C ++ Y)) Q X := by
  obtain ⟨r, C', e, r0, r1, t⟩ := take_to hB hn hn2 Y
  exact w_of e (h r C' r0 r1 t)
theorem one_y {xs : List D} (hB : Bg i C) (Y : Store) (h0 : 0 < xs.length) (hl : xs.length < 1000) (hc : cbL 0 xs = true) (h : ∀ d C', d ∈ xs → To i C C' → Q d (C' ++ Y)) : wR (m_law_one [.cell i, .lst xs] (C ++ Y)) Q X :=
  one_w (hB.app Y) h0 hl hc fun d Z hd t => by
    obtain ⟨C2, rfl, t2⟩ := t.cut hB.lt
    exact h d C2 hd t2
theorem ne_bb (a b : Bool) : oEqA true (.bl a) (.bl b) C = some (.bl (!decide (a = b)), C) := by
  show oEqD true (.bl a) (.bl b) C = _
  cases a <;> cases b <;> rfl
theorem rep_b (b : Bool) (C : Store) : oRepr [.bl b] C = some (.str (PyData.shown (.bool b)), C) := ((gd_bl b).mono (w' := 0) (dp' := 0) (by decide) (by decide)).repr (by decide) (by decide) C
theorem show_b (a b : Bool) : decide (PyData.shown (.bool a) = PyData.shown (.bool b)) = decide (a = b) := by cases a <;> cases b <;> decide +kernel
theorem far_w (hB : Bg 0 C) (q : ∀ C', To 0 C C' → Q (.bl true) C') : wR (m_law_far_right [.cell 0] C) Q X := by
  rw [e_law_far_right]
  apply w_fin
  unfold b_law_far_right b_law_far_right_0
  walk_at "w"
  refine w_asgT (is := [1, 2]) ?_
  walk_at "p"
  refine one_w (xs := [1, 2, 0, 4, 1000000000].map D.int) hB (by simp) (by simp) (cbL_ints _ _) fun d C1 hd t1 => ?_
  obtain ⟨c, hc, rfl⟩ := List.mem_map.mp hd
  have cb : 0 ≤ c ∧ c ≤ 1000000000 := by
    simp only [List.mem_cons, List.not_mem_nil, or_false] at hc
    omega
  obtain ⟨c0, c1⟩ := cb
  walk_at "p"
  refine ⟨_, _, rfl, rfl, ?_⟩
  walk_at "p"
  unfold b_law_far_right_1
  walk_at "p"
  have at_ : ∀ (S : Store) (n : Nat) (xs : List D), S.length = n → (S ++ [some (Cell.lst xs)])[n]? = some (some (.lst xs)) := fun S n xs h => by subst h; simp
  rw [t1.len]
  refine take_y t1.bg (by decide) (by decide) _ fun m C2 m0 m1 t2 => ?_
  obtain ⟨M, rfl⟩ : ∃ M : Nat, m = (M : Int) := ⟨m.toNat, by omega⟩
  walk_at "p"
  refine ⟨inR_of (by omega) (by omega), ?_⟩
  have eM : (6 + (M : Int)).toNat = 6 + M := by omega
  rw [eM]
  refine loop_p (pure_R 0 _) (fun j sl S => ∃ (C' : Store) (ms : List Int) (t3 t4 t5 : Option D), S = C' ++ [some (Cell.lst (List.map D.int ms))] ∧ To 0 C C' ∧ ms.length = j ∧ (∀ x ∈ ms, 0 ≤ x ∧ x ≤ 100000000000) ∧ sl = [some (.cell 0), some (.int c), some (.cell C.length), t3, t4, t5]) ⟨C2, [], _, _, _, rfl, t1.trans t2, rfl, by simp, rfl⟩ ?_ ?_
  · rintro j y sl S hy ⟨C', ms, t3, t4, t5, rfl, t0, hm, hb, rfl⟩
    have hj : j < 6 + M := by
      have := (List.getElem?_eq_some_iff.mp hy).1
      simpa [rngI] using this
    refine ⟨_, rfl, ?_⟩
    unfold b_law_far_right_1b_0
    walk_at "w"
    refine w_append ?_
    walk_at "p"
    refine ⟨by simp only [vL, at_ C' C.length _ t0.len]; rfl, ?_⟩
    walk_at "p"
    refine wo_mul (by simp [cMul]) ?_
    walk_at "p"
    refine take_y t0.bg (by omega) (by omega) _ fun r C3 r0 r1 t3 => ?_
    walk_at "p"
    refine one_y (xs := [0, 1, c, 3, r].map D.int) t3.bg _ (by simp) (by simp) (cbL_ints _ _) fun d C4 hd t4 => ?_
    obtain ⟨z, hz, rfl⟩ := List.mem_map.mp hd
    have zb : 0 ≤ z ∧ z ≤ 100000000000 := by
      simp only [List.mem_cons, List.not_mem_nil, or_false] at hz
      omega
    have l4 : C4.length = C.length := by rw [t4.len, t3.len, t0.len]
    refine ⟨C.length, List.map D.int ms, by simp only [cL, at_ C4 C.length _ l4], Nat.le_refl _, by rw [List.length_map]; omega, ?_⟩
    have es : (C4 ++ [some (Cell.lst (List.map D.int ms))]).set C.length (some (Cell.lst (List.map D.int ms ++ [.int z]))) = C4 ++ [some (Cell.lst (List.map D.int (ms ++ [z])))] := by
      rw [← l4]
      simp
    rw [es]
    refine lp_nx ⟨C4, ms ++ [z], _, _, _, rfl, (t0.trans t3).trans t4, by simp [hm], fun x hx => ?_, rfl⟩
    rcases List.mem_append.mp hx with hx | hx
    · exact hb x hx
    · rw [List.mem_singleton.mp hx]; exact zb
  rintro sl S ⟨C', ms, t3, t4, t5, rfl, t0, hm, hb, rfl⟩
  have e : (rngI 0 (6 + M)).length = 6 + M := by simp [rngI]
  rw [e] at hm
  refine thn_nx ?_
  unfold b_law_far_right_2
  walk_at "p"
  refine ⟨inR_of (by decide) (by decide), ?_⟩
  refine loop_p (pure_R 0 _) (fun j sl S => ∃ (C' : Store) (t3 t4 t5 : Option D), S = C' ++ [some (Cell.lst (List.map D.int ms))] ∧ To 0 C C' ∧ sl = [some (.cell 0), some (.int c), some (.cell C.length), t3, t4, t5]) ⟨C', _, _, _, rfl, t0, rfl⟩ ?_ ?_
  · rintro j y sl S hy ⟨C', t3, t4, t5, rfl, t0, rfl⟩
    refine ⟨_, rfl, ?_⟩
    walk_at "p"
    unfold b_law_far_right_2b_0
    walk_at "p"
    refine wo_len (xs := ms.map .int) (by simp only [vS, vL, at_ C' C.length _ t0.len]) ?_
    rw [List.length_map, hm]
    walk_at "p"
    refine take_y t0.bg (by omega) (by omega) _ fun r C3 r0 r1 t3 => ?_
    have l3 : C3.length = C.length := by rw [t3.len, t0.len]
    obtain ⟨k, hk⟩ : ∃ k : Nat, 1 + r = (k : Int) := ⟨(1 + r).toNat, by omega⟩
    walk_at "p"
    rw [hk]
    unfold b_law_far_right_2b_1
    walk_at "p"
    refine wo_tupC (at_ C3 C.length _ l3) ?_
    walk_at "p"
    refine front_w (by omega) (by omega) ?_
    walk_at "p"
    refine lfront_w (ns := ms) (fun S hS => ?_) (by omega) (by omega) ?_
    · have : S[C.length]? = (C3 ++ [some (Cell.lst (List.map D.int ms))])[C.length]? := by
        rw [← hS, List.getElem?_take]
        simp [l3]
      simp only [vL, this, at_ C3 C.length _ l3]
    walk_at "p"
    refine alike_i (front_bd c0 c1 (by omega) (by omega) hb) ?_
    walk_at "p"
    exact ⟨C3, _, _, _, rfl, t0.trans t3, rfl⟩
  rintro sl S ⟨C', t3, t4, t5, rfl, t0, rfl⟩
  have lc : C'.length = C.length := t0.len
  refine thn_nx ?_
  unfold b_law_far_right_3
  walk_at "p"
  refine wo_len (xs := ms.map .int) (by simp only [vS, vL, at_ C' C.length _ lc]) ?_
  rw [List.length_map, hm]
  walk_at "p"
  refine ⟨_, _, rfl, rfl, inR_of (by decide) (by decide), inR_of (by omega) (by omega), ?_⟩
  refine lc_p (pure_R 1 _) (fun x => match x with | .int v => decide (frontI c ms v.toNat < 0) | _ => false) (fun x => x) (by simp [rngI]; omega) (fun x hx => ?_) (fun x hx _ => ?_) ?_
  · obtain ⟨v, hv, rfl⟩ := List.mem_map.mp hx
    have hv := List.mem_range.mp hv
    refine ⟨_, rfl, fun acc => ⟨?_, fun _ => ?_⟩⟩
    · walk_at "p"
      have e : (1 + (v : Int)) = ((v + 1 : Nat) : Int) := by omega
      rw [e]
      refine lfront_w (ns := ms) (fun S hS => ?_) (by omega) (by omega) ?_
      · have : S[C.length]? = (C' ++ [some (Cell.lst (List.map D.int ms))])[C.length]? := by
          have h2 : (accS (C' ++ [some (Cell.lst (List.map D.int ms))]) acc)[C.length]? = (C' ++ [some (Cell.lst (List.map D.int ms))])[C.length]? := by
            unfold accS
            rw [List.getElem?_append_left (by simp [lc])]
          rw [← h2, ← hS, List.getElem?_take]
          rw [if_pos (by simp [accS, lc])]
        simp only [vL, this, at_ C' C.length _ lc]
      walk_at "p"
      exact ⟨rfl, rfl⟩
    · walk_at "p"
      exact ⟨rfl, rfl⟩
  · obtain ⟨v, hv, rfl⟩ := List.mem_map.mp hx
    rfl
  generalize hL : (rngI 1 (((6 + M : Nat) : Int) + 1 - 1).toNat).filter (fun x => match x with | .int v => decide (frontI c ms v.toNat < 0) | _ => false) = L
  have key : holdsI c ms = decide (L = []) := by
    unfold holdsI
    rw [hm]
    cases hL2 : L with
    | nil =>
      rw [decide_eq_true rfl, List.all_eq_true]
      intro k hk
      refine decide_eq_true ?_
      have hk := List.mem_range.mp hk
      have hx : D.int (1 + (k : Int)) ∈ rngI 1 (((6 + M : Nat) : Int) + 1 - 1).toNat := List.mem_map.mpr ⟨k, List.mem_range.mpr (by omega), rfl⟩
      have hn := fun z => (List.filter_eq_nil_iff.mp (hL.trans hL2)) _ hx z
      have hn2 : ¬ decide (frontI c ms (1 + (k : Int)).toNat < 0) = true := hn
      rw [show (1 + (k : Int)).toNat = k + 1 by omega] at hn2
      simp at hn2
      exact hn2
    | cons x L2 =>
      rw [decide_eq_false (by simp), List.all_eq_false]
      have hx : x ∈ L := by rw [hL2]; exact List.mem_cons_self ..
      rw [← hL] at hx
      obtain ⟨h1, h2⟩ := List.mem_filter.mp hx
      obtain ⟨v, hv, rfl⟩ := List.mem_map.mp h1
      have hv := List.mem_range.mp hv
      have h2 : decide (frontI c ms (1 + (v : Int)).toNat < 0) = true := h2
      rw [show (1 + (v : Int)).toNat = v + 1 by omega] at h2
      have h2 := of_decide_eq_true h2
      exact ⟨v, List.mem_range.mpr (by omega), by simp; omega⟩
  have Li : ∃ l : List Int, L = l.map .int := by
    rw [← hL]
    refine ⟨((List.range (((6 + M : Nat) : Int) + 1 - 1).toNat).map fun k : Nat => 1 + (k : Int)).filter fun v => decide (frontI c ms v.toNat < 0), ?_⟩
    unfold rngI
    rw [List.filter_map, List.filter_map, List.map_map]
    rfl
  obtain ⟨l, rfl⟩ := Li
  rw [List.map_id'] 
  walk_at "p"
  unfold b_law_far_right_4
  walk_at "p"
  refine wo_tupC (at_ C' C.length _ lc) ?_
  walk_at "p"
  refine hold_w (by omega) ?_
  walk_at "p"
  refine wo_of (rep_b _ _) ?_
  walk_at "p"
  refine wo_of (eq_li l [] _) ?_
  walk_at "p"
  refine wo_of (rep_b _ _) ?_
  walk_at "p"
  rw [show_b]
  have fin : decide (holdsI c ms = decide (l = [])) = true := by
    rw [key]
    refine decide_eq_true ?_
    rw [decide_eq_decide]
    cases l <;> simp
  rw [fin, ← lc, List.take_left]
  exact q C' t0
end
end CL
set_option maxHeartbeats 4000000
namespace CL
open PySem L2 CT
local macro_rules | `(tactic| walk_at "w") => `(tactic| first | ((with_reducible apply gR); first | with_reducible refine w_var rfl ?_ | with_reducible apply w_cons | with_reducible apply w_c | with_reducible apply w_nil | with_reducible apply w_op | with_reducible apply w_ap | with_reducible apply w_call | with_reducible apply w_tst | with_reducible apply w_un | with_reducible apply w_tand | with_reducible apply w_tor | with_reducible apply w_tnot | with_reducible apply w_yes | with_reducible apply w_and | with_reducible apply w_or | with_reducible apply w_not | with_reducible apply w_if | with_reducible apply w_chain | with_reducible apply w_isi | with_reducible apply w_isi2 | with_reducible apply w_prop | with_reducible apply w_meth | with_reducible apply w_dget | with_reducible apply w_dnewF | with_reducible apply w_dnewT | with_reducible apply w_part | with_reducible apply w_noPart | with_reducible apply w_slLF | with_reducible apply w_slA | with_reducible apply w_ok | with_reducible apply w_ofO | with_reducible apply w_lcI | with_reducible apply w_seqI | with_reducible apply w_rng1 | with_reducible apply w_rng2 | with_reducible apply w_enum) | ((with_reducible apply gO); first | with_reducible apply wo_add | with_reducible apply wo_sub | with_reducible apply wo_lt | with_reducible apply wo_gt | with_reducible apply wo_eq | with_reducible apply wo_ne | with_reducible apply wo_le | with_reducible apply wo_ge | with_reducible apply wo_neg | with_reducible apply wo_eqS | with_reducible apply wo_neS | with_reducible apply wo_min | with_reducible apply wo_max | with_reducible apply wo_int | with_reducible apply wo_abs | with_reducible apply wo_tupL | with_reducible apply wo_tupT | with_reducible refine wo_tup (by with_unfolding_all rfl) ?_ | with_reducible refine wo_lstF (by with_unfolding_all rfl) ?_ | with_reducible refine wo_lstT (by with_unfolding_all rfl) ?_ | with_reducible apply wo_fld0 | with_reducible apply wo_fld1 | with_reducible apply wo_fld2 | with_reducible apply wo_fldW0 | with_reducible apply wo_fldW1 | with_reducible apply wo_fldW2) | ((with_reducible apply gS); first | with_reducible apply w_seq | with_reducible apply w_asg | with_reducible apply w_sif | with_reducible apply w_next | with_reducible apply w_ret | with_reducible apply w_par | with_reducible apply w_drop | with_reducible apply w_asgT | with_reducible apply w_retN | with_reducible apply w_brk | with_reducible apply w_cnt | with_reducible apply w_raise | with_reducible apply w_forI) | ((with_reducible apply gI); first | with_reducible apply wI_t | with_reducible apply wI_f | with_reducible apply wI_not) | with_reducible apply w_bl | with_reducible apply thn_nx | with_reducible apply w_int | with_reducible apply w_obj | with_reducible apply thn_rt | with_reducible apply lp_nx | with_reducible apply fnl_int | with_reducible apply fnl_bl | with_reducible apply fnl_non | with_reducible apply fnl_str | with_reducible apply fnl_nx | with_reducible apply thn_bk | with_reducible apply thn_ct | with_reducible apply thn_xc | with_reducible apply lp_rt | with_reducible apply lp_bk | with_reducible apply lp_xc | with_reducible apply w_itL | with_reducible apply w_itT | with_reducible apply w_itK)
local macro_rules | `(tactic| walk_at "p") => `(tactic| repeat walk_at "w")
/-! FR5: the law k93. -/
theorem sum_permI {ns ms : List Int} (h : ns.Perm ms) : ns.sum = ms.sum := by
  induction h with
  | nil => rfl
  | cons x _ ih => rw [List.sum_cons, List.sum_cons, ih]
  | swap x y l => rw [List.sum_cons, List.sum_cons, List.sum_cons, List.sum_cons]; omega
  | trans _ _ a b => exact a.trans b
section
variable {Q : D → Store → Prop} {X : Exc → Store → Prop} {C : Store} {P : RS → Prop} {N : Nat} {c : Int} {s0 s2 s5 s6 s7 s8 s9 s10 s11 s12 : Option D}
/-- what is asked of one row -/
theorem asked_w {ns : List Int} {r : Nat} (hB : Bg 0 C) (hr : C[r]? = some (some (.lst (ns.map .int)))) (r0 : r ≠ 0) (hN : N ≤ 5) (hn : ns.length = N) (hb : ∀ x ∈ ns, 0 ≤ x ∧ x ≤ 100000000000) (c0 : 0 ≤ c) (c1 : c ≤ 1000000000)
    (q : ∀ C' t9 t10 t11 t12, Bg 0 C' → P (.nx [s0, some (.cell 0), s2, some (.int N), some (.int c), s5, s6, some (.cell r), s8, t9, t10, t11, t12] C')) :
    wS (sSeq b_law_2b_2b_3 (sSeq b_law_2b_2b_4 (sSeq b_law_2b_2b_5 (sSeq b_law_2b_2b_6 b_law_2b_2b_7))) ⟨0, [s0, some (.cell 0), s2, some (.int N), some (.int c), s5, s6, some (.cell r), s8, s9, s10, s11, s12]⟩ C) P := by
  walk_at "p"
  unfold b_law_2b_2b_3
  walk_at "p"
  unfold b_law_2b_2b_4
  walk_at "p"
  refine ⟨_, _, rfl, rfl, inR_of (by decide) (by decide), inR_of (by omega) (by omega), ?_⟩
  refine loop_p (pure_R 1 _) (fun j sl S => S = C ∧ ∃ t10 t11, sl = [s0, some (.cell 0), s2, some (.int N), some (.int c), s5, s6, some (.cell r), s8, some (.bl ((List.range j).all fun k => decide (0 ≤ frontI c ns (k + 1)))), t10, t11, s12]) ⟨rfl, _, _, rfl⟩ ?_ ?_
  · rintro j y sl S hy ⟨rfl, t10, t11, rfl⟩
    have hj : j < N := by
      have := (List.getElem?_eq_some_iff.mp hy).1
      have e : ((N : Int) + 1 - 1).toNat = N := by omega
      simpa [rngI, e] using this
    obtain rfl : y = .int (1 + (j : Int)) := by
      have e := (List.getElem?_eq_some_iff.mp hy).2
      rw [← e]
      simp [rngI]
    refine ⟨_, rfl, ?_⟩
    have ek : (1 + (j : Int)) = ((j + 1 : Nat) : Int) := by omega
    rw [ek]
    walk_at "p"
    unfold b_law_2b_2b_4b_0
    walk_at "p"
    have rd : ∀ S' : Store, S'.take S.length = S → vL (.cell r) S' = some (ns.map .int) := fun S' h => by
      have hl := (List.getElem?_eq_some_iff.mp hr).1
      have : S'[r]? = S[r]? := by
        rw [← h, List.getElem?_take, if_pos]
        rw [← h, List.length_take] at hl
        omega
      simp only [vL, this, hr]
    refine lfront_w (ns := ns) rd (by omega) (by omega) ?_
    walk_at "p"
    unfold b_law_2b_2b_4b_1
    walk_at "p"
    have nx : ∀ b : Bool, b = ((List.range (j + 1)).all fun k => decide (0 ≤ frontI c ns (k + 1))) → wS (b_law_2b_2b_4b_2 ⟨0, [s0, some (.cell 0), s2, some (.int N), some (.int c), s5, s6, some (.cell r), s8, some (.bl b), some (.int ((j + 1 : Nat) : Int)), some (.int (frontI c ns (j + 1))), s12]⟩ S) (lpP (fun j sl S' => S' = S ∧ ∃ t10 t11, sl = [s0, some (.cell 0), s2, some (.int N), some (.int c), s5, s6, some (.cell r), s8, some (.bl ((List.range j).all fun k => decide (0 ≤ frontI c ns (k + 1)))), t10, t11, s12]) (j + 1) (thn (sSeq b_law_2b_2b_5 (sSeq b_law_2b_2b_6 b_law_2b_2b_7)) 0 P)) := fun b hb2 => by
      unfold b_law_2b_2b_4b_2
      walk_at "p"
      refine wo_tupC hr ?_
      walk_at "p"
      refine front_w (by omega) (by omega) ?_
      walk_at "p"
      refine alike_i (front_bd c0 c1 (by omega) (by omega) hb) ?_
      walk_at "p"
      exact ⟨rfl, _, _, by rw [hb2]⟩
    have sn : ((List.range (j + 1)).all fun k => decide (0 ≤ frontI c ns (k + 1))) = (((List.range j).all fun k => decide (0 ≤ frontI c ns (k + 1))) && decide (0 ≤ frontI c ns (j + 1))) := by
      rw [List.range_succ, List.all_append]
      simp
    refine wI_b (fun e => ?_) fun e => ?_
    · walk_at "p"
      exact nx _ (by rw [sn, e, Bool.true_and])
    · exact nx _ (by rw [sn, e, Bool.false_and])
  rintro sl S ⟨rfl, t10, t11, rfl⟩
  have e : (rngI 1 ((N : Int) + 1 - 1).toNat).length = N := by simp [rngI]
  rw [e]
  have eh : ((List.range N).all fun k => decide (0 ≤ frontI c ns (k + 1))) = holdsI c ns := by
    unfold holdsI
    rw [hn]
  rw [eh]
  refine thn_nx ?_
  walk_at "p"
  unfold b_law_2b_2b_5
  walk_at "p"
  refine mixed_i hB hr r0 (by omega) fun zs C1 t1 hp => ?_
  have hr1 : C1[r]? = some (some (.lst (ns.map .int))) := by rw [t1.get r0]; exact hr
  walk_at "p"
  unfold b_law_2b_2b_6
  walk_at "p"
  refine wo_tupC hr1 ?_
  walk_at "p"
  refine hold_w (by omega) ?_
  walk_at "p"
  refine wo_of (rep_b _ _) ?_
  walk_at "p"
  refine wo_of (rep_b _ _) ?_
  walk_at "p"
  rw [decide_eq_true rfl]
  refine wI_t ?_
  walk_at "p"
  refine hold_w (by rw [hp.length_eq]; omega) ?_
  rw [holds_same hp]
  walk_at "p"
  refine wo_of (rep_b _ _) ?_
  walk_at "p"
  refine wo_of (rep_b _ _) ?_
  walk_at "p"
  rw [decide_eq_true rfl]
  refine wI_t ?_
  walk_at "p"
  unfold b_law_2b_2b_7
  walk_at "p"
  refine wo_of (d := .int ns.sum) (C' := C1) ?_ ?_
  · simp only [oSum, vL, hr1, Option.bind_some, dInts_map]
    rfl
  walk_at "p"
  refine wo_mod (by decide) ?_
  walk_at "p"
  refine wI_d (fun ev => ?_) fun _ => ?_
  · walk_at "p"
    refine complete_w (by omega) c0 c1 ?_
    walk_at "p"
    refine lack_w hN (by rw [hp.length_eq]; exact hn) com_dg fun k hk => ?_
    walk_at "p"
    refine wo_ix (xs := [.int (-(lkE (comF N c) N (rF zs))), lotK N k]) (k := 0) rfl rfl rfl ?_
    walk_at "p"
    refine wo_of (ne_bb _ _) ?_
    walk_at "p"
    have fr := fronts_iff (N := N) (f := comF N c) (ns := zs) (c := c) (fun u v hu hv ne => com_fm hu hv ne) com_dg (fun u v => (comF_bd c0 c1 _).1) (by rw [hp.length_eq]; exact hn) (fun x hx => (hb x (hp.mem_iff.mp hx)).1) c0 (by rw [sum_permI hp]; exact ev)
    rw [fr, holds_same hp, decide_eq_true rfl]
    refine wI_t ?_
    walk_at "p"
    exact q _ _ _ _ _ t1.bg
  · walk_at "p"
    exact q _ _ _ _ _ t1.bg
end
end CL
set_option maxHeartbeats 4000000
namespace CL
open PySem L2 CT
local macro_rules | `(tactic| walk_at "w") => `(tactic| first | ((with_reducible apply gR); first | with_reducible refine w_var rfl ?_ | with_reducible apply w_cons | with_reducible apply w_c | with_reducible apply w_nil | with_reducible apply w_op | with_reducible apply w_ap | with_reducible apply w_call | with_reducible apply w_tst | with_reducible apply w_un | with_reducible apply w_tand | with_reducible apply w_tor | with_reducible apply w_tnot | with_reducible apply w_yes | with_reducible apply w_and | with_reducible apply w_or | with_reducible apply w_not | with_reducible apply w_if | with_reducible apply w_chain | with_reducible apply w_isi | with_reducible apply w_isi2 | with_reducible apply w_prop | with_reducible apply w_meth | with_reducible apply w_dget | with_reducible apply w_dnewF | with_reducible apply w_dnewT | with_reducible apply w_part | with_reducible apply w_noPart | with_reducible apply w_slLF | with_reducible apply w_slA | with_reducible apply w_ok | with_reducible apply w_ofO | with_reducible apply w_lcI | with_reducible apply w_seqI | with_reducible apply w_rng1 | with_reducible apply w_rng2 | with_reducible apply w_enum) | ((with_reducible apply gO); first | with_reducible apply wo_add | with_reducible apply wo_sub | with_reducible apply wo_lt | with_reducible apply wo_gt | with_reducible apply wo_eq | with_reducible apply wo_ne | with_reducible apply wo_le | with_reducible apply wo_ge | with_reducible apply wo_neg | with_reducible apply wo_eqS | with_reducible apply wo_neS | with_reducible apply wo_min | with_reducible apply wo_max | with_reducible apply wo_int | with_reducible apply wo_abs | with_reducible apply wo_tupL | with_reducible apply wo_tupT | with_reducible refine wo_tup (by with_unfolding_all rfl) ?_ | with_reducible refine wo_lstF (by with_unfolding_all rfl) ?_ | with_reducible refine wo_lstT (by with_unfolding_all rfl) ?_ | with_reducible apply wo_fld0 | with_reducible apply wo_fld1 | with_reducible apply wo_fld2 | with_reducible apply wo_fldW0 | with_reducible apply wo_fldW1 | with_reducible apply wo_fldW2) | ((with_reducible apply gS); first | with_reducible apply w_seq | with_reducible apply w_asg | with_reducible apply w_sif | with_reducible apply w_next | with_reducible apply w_ret | with_reducible apply w_par | with_reducible apply w_drop | with_reducible apply w_asgT | with_reducible apply w_retN | with_reducible apply w_brk | with_reducible apply w_cnt | with_reducible apply w_raise | with_reducible apply w_forI) | ((with_reducible apply gI); first | with_reducible apply wI_t | with_reducible apply wI_f | with_reducible apply wI_not) | with_reducible apply w_bl | with_reducible apply thn_nx | with_reducible apply w_int | with_reducible apply w_obj | with_reducible apply thn_rt | with_reducible apply lp_nx | with_reducible apply fnl_int | with_reducible apply fnl_bl | with_reducible apply fnl_non | with_reducible apply fnl_str | with_reducible apply fnl_nx | with_reducible apply thn_bk | with_reducible apply thn_ct | with_reducible apply thn_xc | with_reducible apply lp_rt | with_reducible apply lp_bk | with_reducible apply lp_xc | with_reducible apply w_itL | with_reducible apply w_itT | with_reducible apply w_itK)
local macro_rules | `(tactic| walk_at "p") => `(tactic| repeat walk_at "w")
/-! FR6: law_true of k93. -/
section
variable {Q : D → Store → Prop} {X : Exc → Store → Prop} {C : Store} {P : RS → Prop} {N : Nat} {c : Int} {s0 s2 s5 s6 s7 s8 s9 s10 s11 s12 : Option D}
theorem asking_w (hB : Bg 0 C) (hN : N ≤ 5) (c0 : 0 ≤ c) (c1 : c ≤ 1000000000)
    (q : ∀ C' t6 t7 t8 t9 t10 t11 t12, Bg 0 C' → P (.nx [s0, some (.cell 0), s2, some (.int N), some (.int c), s5, t6, t7, t8, t9, t10, t11, t12] C')) :
    wS (sSeq b_law_2b_2b_0 (sSeq b_law_2b_2b_1 (sSeq b_law_2b_2b_2 (sSeq b_law_2b_2b_3 (sSeq b_law_2b_2b_4 (sSeq b_law_2b_2b_5 (sSeq b_law_2b_2b_6 b_law_2b_2b_7)))))) ⟨0, [s0, some (.cell 0), s2, some (.int N), some (.int c), s5, s6, s7, s8, s9, s10, s11, s12]⟩ C) P := by
  have hpos : 0 < C.length := hB.lt
  have at_ : ∀ (S : Store) (n : Nat) (xs : List D), S.length = n → (S ++ [some (Cell.lst xs)])[n]? = some (some (.lst xs)) := fun S n xs h => by subst h; simp
  have mb : 0 ≤ c * N ∧ c * N ≤ 5000000000 := by
    refine ⟨Int.mul_nonneg c0 (by omega), ?_⟩
    have a1 : c * N ≤ 1000000000 * N := Int.mul_le_mul_of_nonneg_right c1 (by omega)
    omega
  walk_at "w"
  unfold b_law_2b_2b_0
  walk_at "p"
  refine ⟨_, rfl, ?_⟩
  walk_at "p"
  unfold b_law_2b_2b_1
  walk_at "p"
  refine ⟨inR_of (by omega) (by omega), ?_⟩
  refine loop_p (pure_R 0 _) (fun j sl S => ∃ (C' : Store) (ms : List Int) (t6 t8 : Option D), S = C' ++ [some (Cell.lst (List.map D.int ms))] ∧ To 0 C C' ∧ ms.length = j ∧ (∀ x ∈ ms, 0 ≤ x ∧ x ≤ 50000000000) ∧ sl = [s0, some (.cell 0), s2, some (.int N), some (.int c), s5, t6, some (.cell C.length), t8, s9, s10, s11, s12]) ⟨C, [], _, _, rfl, To.refl hB, rfl, by simp, rfl⟩ ?_ ?_
  · rintro j y sl S hy ⟨C', ms, t6, t8, rfl, t0, hm, hb, rfl⟩
    have hj : j < N := by
      have := (List.getElem?_eq_some_iff.mp hy).1
      simpa [rngI] using this
    refine ⟨_, rfl, ?_⟩
    walk_at "p"
    unfold b_law_2b_2b_1b_0
    walk_at "p"
    refine wo_mul (by simp [cMul]) ?_
    walk_at "p"
    refine wo_mul (by simp only [cMul, Bool.or_eq_true, Bool.and_eq_true, decide_eq_true_eq]; left; omega) ?_
    walk_at "p"
    refine wo_mul (by simp only [cMul, Bool.or_eq_true, Bool.and_eq_true, decide_eq_true_eq]; left; omega) ?_
    have cN : (N : Int) * c = c * N := Int.mul_comm _ _
    have cN1 : ((N : Int) - 1) * c = c * N - c := by rw [Int.sub_mul, cN, Int.one_mul]
    rw [cN, cN1]
    walk_at "p"
    refine take_y t0.bg (by omega) (by omega) _ fun r C3 r0 r1 t3 => ?_
    walk_at "p"
    unfold b_law_2b_2b_1b_1
    walk_at "w"
    refine w_append ?_
    walk_at "p"
    have l3 : C3.length = C.length := by rw [t3.len, t0.len]
    refine ⟨by simp only [vL, at_ C3 C.length _ l3]; rfl, ?_⟩
    walk_at "p"
    refine one_y (xs := [0, 1, c, 2 * c, c * N - c, 3, r].map D.int) t3.bg _ (by simp) (by simp) (cbL_ints _ _) fun d C4 hd t4 => ?_
    obtain ⟨z, hz, rfl⟩ := List.mem_map.mp hd
    walk_at "p"
    refine one_y (xs := [0, 0, 1].map D.int) t4.bg _ (by simp) (by simp) (cbL_ints _ _) fun d C5 hd t5 => ?_
    obtain ⟨o, ho, rfl⟩ := List.mem_map.mp hd
    walk_at "p"
    have zb : 0 ≤ max 0 (z - o) ∧ max 0 (z - o) ≤ 50000000000 := by
      simp only [List.mem_cons, List.not_mem_nil, or_false] at hz ho
      omega
    have l5 : C5.length = C.length := by rw [t5.len, t4.len, l3]
    refine ⟨C.length, List.map D.int ms, by simp only [cL, at_ C5 C.length _ l5], Nat.zero_le _, by rw [List.length_map]; omega, ?_⟩
    have es : (C5 ++ [some (Cell.lst (List.map D.int ms))]).set C.length (some (Cell.lst (List.map D.int ms ++ [.int (max 0 (z - o))]))) = C5 ++ [some (Cell.lst (List.map D.int (ms ++ [max 0 (z - o)])))] := by
      rw [← l5]
      simp
    rw [es]
    refine lp_nx ⟨C5, ms ++ [max 0 (z - o)], _, _, rfl, ((t0.trans t3).trans t4).trans t5, by simp [hm], fun x hx => ?_, rfl⟩
    rcases List.mem_append.mp hx with hx | hx
    · exact hb x hx
    · rw [List.mem_singleton.mp hx]; exact zb
  rintro sl S ⟨C', ms, t6, t8, rfl, t0, hm, hb, rfl⟩
  have e : (rngI 0 ((N : Int)).toNat).length = N := by simp [rngI]
  rw [e] at hm
  refine thn_nx ?_
  have fin : ∀ (C2 : Store) (ns : List Int), To 0 C C2 → ns.length = N → (∀ x ∈ ns, 0 ≤ x ∧ x ≤ 100000000000) → wS (sSeq b_law_2b_2b_3 (sSeq b_law_2b_2b_4 (sSeq b_law_2b_2b_5 (sSeq b_law_2b_2b_6 b_law_2b_2b_7))) ⟨0, [s0, some (.cell 0), s2, some (.int N), some (.int c), s5, t6, some (.cell C.length), t8, s9, s10, s11, s12]⟩ (C2 ++ [some (Cell.lst (List.map D.int ns))])) P := fun C2 ns t hn hb => asked_w (t.bg.app _) (at_ C2 C.length _ t.len) (by omega) hN hn hb c0 c1 fun C' t9 t10 t11 t12 hB' => q _ _ _ _ _ _ _ _ hB'
  have hb2 : ∀ x ∈ ms, 0 ≤ x ∧ x ≤ 100000000000 := fun x hx => by
    have := hb x hx
    omega
  walk_at "w"
  unfold b_law_2b_2b_2
  walk_at "p"
  refine wI_d (fun hpN => ?_) fun _ => ?_
  · walk_at "p"
    refine take_y t0.bg (by decide) (by decide) _ fun r C3 r0 r1 t3 => ?_
    have l3 : C3.length = C.length := by rw [t3.len, t0.len]
    walk_at "p"
    refine wI_d (fun _ => ?_) fun _ => ?_
    · walk_at "p"
      refine wo_of (d := .int ms.sum) (C' := C3 ++ [some (Cell.lst (List.map D.int ms))]) ?_ ?_
      · simp only [oSum, vL, at_ C3 C.length _ l3, Option.bind_some, dInts_map]
        rfl
      walk_at "p"
      refine wo_mod (by decide) ?_
      walk_at "p"
      refine wI_d (fun _ => ?_) fun _ => ?_
      · refine w_augL ?_
        walk_at "p"
        refine take_y (t0.trans t3).bg (by omega) (by omega) _ fun r2 C4 r3 r4 t4 => ?_
        have l4 : C4.length = C.length := by rw [t4.len, l3]
        obtain ⟨a, ha⟩ : ∃ a, ms[r2.toNat]? = some a := ⟨_, List.getElem?_eq_getElem (by omega)⟩
        refine ⟨r2.toNat, C.length, ms.map .int, a, by rw [show ((r2.toNat : Nat) : Int) = r2 by omega], by simp only [cL, at_ C4 C.length _ l4], by rw [List.getElem?_map, ha]; rfl, ?_⟩
        walk_at "p"
        refine ⟨1, ms.map .int, _, rfl, by simp only [cL, at_ C4 C.length _ l4], by rw [List.length_map]; omega, wr_hi (Nat.zero_le _), ?_⟩
        have es : (C4 ++ [some (Cell.lst (List.map D.int ms))]).set C.length (some (Cell.lst ((List.map D.int ms).set r2.toNat (.int (a + 1))))) = C4 ++ [some (Cell.lst (List.map D.int (ms.set r2.toNat (a + 1))))] := by
          rw [← l4, List.map_set]
          simp
        rw [es]
        refine thn_nx ?_
        refine fin C4 _ ((t0.trans t3).trans t4) (by rw [List.length_set]; exact hm) fun x hx => ?_
        rcases List.mem_or_eq_of_mem_set hx with h | h
        · exact hb2 x h
        · have := hb a (List.mem_of_getElem? ha)
          omega
      · walk_at "w"
        refine thn_nx ?_
        exact fin C3 ms (t0.trans t3) hm hb2
    · walk_at "w"
      walk_at "w"
      refine thn_nx ?_
      exact fin C3 ms (t0.trans t3) hm hb2
  · walk_at "w"
    walk_at "w"
    refine thn_nx ?_
    exact fin C' ms t0 hm hb2
end
theorem law_true (ns : List Int) (hl : ns.length ≤ 63) : ∃ C, m_law [scrD ns] [] = .ok (.bl true) C := by
  obtain ⟨cs, hcs, eb⟩ := bag_ok ns hl
  have hB : Bg 0 [some (bagC 0 1234567891 0 cs)] := ⟨cs, hcs, 0, 1234567891, 0, rfl, by decide, by decide, by decide, by decide⟩
  refine ⟨[], w_eqv ?_⟩
  rw [e_law]
  apply w_fin
  unfold b_law b_law_0
  walk_at "p"
  refine w_of eb ?_
  walk_at "p"
  unfold b_law_1
  walk_at "p"
  refine far_w hB fun C1 t1 => ?_
  walk_at "p"
  unfold b_law_2
  walk_at "p"
  refine ⟨inR_of (by decide) (by decide), ?_⟩
  refine loop_p (pure_R 0 _) (fun j sl S => Bg 0 S ∧ ∃ t2 t3 t4 t5 t6 t7 t8 t9 t10 t11 t12, sl = [some (scrD ns), some (.cell 0), t2, t3, t4, t5, t6, t7, t8, t9, t10, t11, t12]) ⟨t1.bg, _, _, _, _, _, _, _, _, _, _, _, rfl⟩ ?_ ?_
  · rintro j y sl S hy ⟨hB, t2, t3, t4, t5, t6, t7, t8, t9, t10, t11, t12, rfl⟩
    have hj : j < 2 := by
      have := (List.getElem?_eq_some_iff.mp hy).1
      simpa [rngI] using this
    obtain rfl : y = .int (j : Int) := by
      have e := (List.getElem?_eq_some_iff.mp hy).2
      rw [← e]
      simp [rngI]
    refine ⟨_, rfl, ?_⟩
    walk_at "p"
    unfold b_law_2b_0
    walk_at "p"
    refine one_w (xs := [3, 4, 4, 2, 3, 1, 0, 5 - (j : Int)].map D.int) hB (by simp) (by simp) (cbL_ints _ _) fun d C2 hd u2 => ?_
    obtain ⟨n, hn, rfl⟩ := List.mem_map.mp hd
    have nb : 0 ≤ n ∧ n ≤ 5 := by
      simp only [List.mem_cons, List.not_mem_nil, or_false] at hn
      omega
    obtain ⟨N, rfl⟩ : ∃ N : Nat, n = (N : Int) := ⟨n.toNat, by omega⟩
    walk_at "p"
    unfold b_law_2b_1
    walk_at "p"
    refine take_w u2.bg (by decide) (by decide) fun r C3 r0 r1 u3 => ?_
    walk_at "p"
    refine one_w (xs := [1, 2, 0, 4, 1, 1000000000, r].map D.int) u3.bg (by simp) (by simp) (cbL_ints _ _) fun d C4 hd u4 => ?_
    obtain ⟨c, hc, rfl⟩ := List.mem_map.mp hd
    have cb : 0 ≤ c ∧ c ≤ 1000000000 := by
      simp only [List.mem_cons, List.not_mem_nil, or_false] at hc
      omega
    walk_at "p"
    unfold b_law_2b_2
    walk_at "p"
    refine ⟨inR_of (by decide) (by decide), ?_⟩
    refine loop_p (pure_R 0 _) (fun k sl S => Bg 0 S ∧ ∃ t5 t6 t7 t8 t9 t10 t11 t12, sl = [some (scrD ns), some (.cell 0), some (.int (j : Int)), some (.int (N : Int)), some (.int c), t5, t6, t7, t8, t9, t10, t11, t12]) ⟨u4.bg, _, _, _, _, _, _, _, _, rfl⟩ ?_ ?_
    · rintro k y sl S hy ⟨hB, t5, t6, t7, t8, t9, t10, t11, t12, rfl⟩
      refine ⟨_, rfl, ?_⟩
      refine asking_w hB (by omega) cb.1 cb.2 fun C' _ _ _ _ _ _ _ hB' => ?_
      exact lp_nx ⟨hB', _, _, _, _, _, _, _, _, rfl⟩
    · rintro sl S ⟨hB, t5, t6, t7, t8, t9, t10, t11, t12, rfl⟩
      exact lp_nx ⟨hB, _, _, _, _, _, _, _, _, _, _, _, rfl⟩
  · rintro sl S ⟨hB, t2, t3, t4, t5, t6, t7, t8, t9, t10, t11, t12, rfl⟩
    refine thn_nx ?_
    unfold b_law_3
    walk_at "p"
    refine ⟨rfl, rfl⟩
end CL
set_option maxHeartbeats 0
namespace CL
open PySem L2 PySem.Spec PyProof.Rows CT
theorem room0 : RoomG 7 callerA := ⟨⟨rfl, by decide, by decide⟩, rfl⟩
theorem law_sp {K : PySem.W.Frag} {H : Hp} {a : Addr} {ns : List Int} (hl : ns.length ≤ 63) (hO : Only H) (h : SqL K H a (ns.map V.int)) : SpD (cn K) 1 m_law [.ref a] H (fun v _ => v = .bl true) fun _ _ _ => False := by
  obtain ⟨C, e⟩ := law_true ns hl
  refine ⟨rfl, fun _ => 0, [], [scrD ns], ⟨fun i c z => (nomatch z), fun i j c e z => (nomatch z)⟩, .cons (rep_scr hO h) .nil, ?_⟩
  rw [e]
  intro A' H' v _ _ r
  cases r
  rfl
theorem ob_eq (s : PySem.W.SharedT) : ob s = hk.obs s.abs := obGb_eq s
end CL
open PySem PySem.W PySem.Calls PyProof.Rows
theorem PySem.Challenge.cw_contentties_k93_whole_complete_webs_holds : PySem.Challenge.rw_contentties_k93_whole_complete_webs.Holds := by
  w_on; o_law
  refine HandSHeadRun.head_any (r := OpenLaw.row PySem.Challenge.rw_contentties_k93_whole_complete_webs) (q := view (OpenLaw.row PySem.Challenge.rw_contentties_k93_whole_complete_webs).prog [41]) (H := CL.hk) (ob := CL.ob) (M := 20000) (loose := CL.loose) (d := HandSHeadRun.topDef (OpenLaw.row PySem.Challenge.rw_contentties_k93_whole_complete_webs).prog 41) (kwd := []) CL.ob_eq
    (by kernel_rfl) (fun s => by kernel_rfl) CL.run (by kernel_rfl) (by kernel_rfl) (by kernel_rfl) (by rfl) (by first | assumption | decide +kernel) (by decide +kernel) ⟨rfl, rfl, rfl, rfl, rfl, by decide +kernel⟩ ?hw ?hc
  case hw => w_witness2
  case hc =>
    refine Att.attach_callB (l := PySem.Challenge.rw_contentties_k93_whole_complete_webs) (n := 63) rfl (by kernel_rfl) fun w s₀ s₁ mg mb fa o pm cd doc a vs ns G Y ho hd hcd hmg0 hobj hints hlen hbits hg => ?_
    obtain ⟨K, KX, c⟩ := Y
    have hmg : mg ("law" : PySem.Str) = some (.ref fa) := by
      have e : (HandSHeadRun.topDef (OpenLaw.row PySem.Challenge.rw_contentties_k93_whole_complete_webs).prog 41).name = ("law" : PySem.Str) := by kernel_rfl
      rw [← e]
      exact hmg0
    have T := CL.txt KX G.T.g c
    have e := hmg.symm.trans T.g_law
    cases e
    exact CT.law_core KX G.T.g G.T.b G.T.builtins G.T.nolimit hg hobj hints (Nat.le_trans hlen (by decide)) (fun base h1 h2 s H e0 q => by
      obtain ⟨fd, F, B, _⟩ := CL.ok_law (P := (PySem.Challenge.rw_contentties_k93_whole_complete_webs).prog) (w := w) (base := base) T
      exact F.run callerA [] s H ⟨[.ref a], []⟩ [.ref a] [.ref a] _ _ CL.room0 e0 (B s [.ref a] (fun b o e => (e0.bs b o (h1 b o e)).1) rfl) (.cons rfl .nil) q) (fun H hO hS => CL.law_sp hlen hO hS)
