import PyProof.Rows.All
import Wide.All
import OpenK.AllK
import Wide.FinOn
import HandS.ForMost
import HandS.Exc
import HandS.CallSlots
import HandS.Wide
import HandS.Style
import HandS.More
import HandS.Defaults
import HandS.WordsExc
import HandS.Property
import PyProof.ReprRoads
import HandS.TupAny
import HandS.RaiseMore
import HandS.IsInst
import HandS.Codes
import HandS.Conv
import KE.SortData
import KE.KDictSum
import KE.KDictCopyH
import KE.GoesMore
import HandS.Iter
import HandS.Words
import HandS.Head0
import HandS.Head1
import HandS.Head2
import HandS.HeadEnd
import HandS.HeadHook1
import HandS.HeadHook2
import HandS.EndBits
import OpenK.KMeth
import HandS.SlotsOwn
import KE.KRevSl
import HandS.ExcInit
import HandS.ExcField
import HandS.ExcIs
import HandS.SetFor
import HandS.TupSets
import HandS.Strs
import KE.DataFind
import HandS.MakeKwOnly
import HandS.FStr
import HandS.Text
import KE.KCallOwn
import HandS.ClsMeth
import HandS.CallLocal
import HandS.HeadNt
import HandS.Small
import HandS.Flow
import HandS.TupMul
import HandS.Zip
import KE.DataMinMax
import HandS.SortKw
import KE.KOpsOwn
import HandS.SetBool
import PySem.Challenge.RW_contentties_k12_wants_told
set_option Elab.async false
set_option linter.all false
set_option maxRecDepth 100000
set_option maxHeartbeats 4000000
/-! DL1: plain data, a store of changing cells, how they lie in the abstract heap; expressions. -/
namespace CT
open PySem L2
/-! ### the domain -/
inductive D where
  | non | bl (b : Bool) | int (i : Int) | str (s : Str)
  | lst (xs : List D) | tup (xs : List D) | scr (xs : List D) | kt (xs : List D)
  | obj (c : Nat) (fs : List D)
  | dT (ks : List (List Key)) (vs : List D)
  | cell (i : Nat)
  | exn (c : Nat) (fs : List D)
  | cls (c : Nat)
inductive Cell where
  | lst (xs : List D)
  | dT (ks : List (List Key)) (vs : List D)
  | ins (c : Nat) (fs : List D)
abbrev Store := List (Option Cell)
structure Exc where
  c : Nat
  fs : List D
inductive R (α : Type) where
  | ok (a : α) (C : Store)
  | exc (e : Exc) (C : Store)
  | stuck
/-- a def's frame: the cells below fl are its callers'; the slots -/
structure Fr where
  fl : Nat
  sl : List (Option D)
abbrev ME := Fr → Store → R D
def ofO : Option (D × Store) → R D
  | some (d, C) => .ok d C
  | none => .stuck
def bnd {α β : Type} (m : R α) (f : α → Store → R β) : R β := match m with
  | .ok a C => f a C
  | .exc e C => .exc e C
  | .stuck => .stuck
@[simp] theorem bnd_ok {α β : Type} (a : α) (C : Store) (f : α → Store → R β) : bnd (.ok a C) f = f a C := rfl
@[simp] theorem bnd_exc {α β : Type} (e : Exc) (C : Store) (f : α → Store → R β) : bnd (.exc e C) f = .exc e C := rfl
@[simp] theorem bnd_stuck {α β : Type} (f : α → Store → R β) : bnd .stuck f = .stuck := rfl
mutual
def cb (n : Nat) : D → Bool
  | .lst xs => cbL n xs
  | .tup xs => cbL n xs
  | .scr xs => cbL n xs
  | .kt xs => cbL n xs
  | .obj _ fs => cbL n fs
  | .exn _ fs => cbL n fs
  | .cls _ => true
  | .dT _ vs => cbL n vs
  | .cell i => decide (i < n)
  | .non => true | .bl _ => true | .int _ => true | .str _ => true
def cbL (n : Nat) : List D → Bool
  | [] => true
  | d :: ds => cb n d && cbL n ds
end
/-! ### how data lie in the heap -/
structure Cn where
  K : PySem.W.Frag
  cl : Nat → Addr
  fn : Nat → List Str
  /-- the error that is held: its place, its class, its dict -/
  ex : Option (Addr × Nat × Addr) := none
def Live (A : Nat → Addr) (C : Store) (a : Addr) : Prop := ∃ i c, C[i]? = some (some c) ∧ A i = a
/-- the written part's list -/
def KL (K : PySem.W.Frag) (a : Addr) (xs : List V) : Prop := ∃ (o : Obj) (its : Array Value) (n : Nat), List.lookup a K = some o ∧ o.cls = Value.type "list" ∧ o.dict = none ∧ o.data = Data.seq its n ∧ its.size ≤ sizeLine ∧ Vals xs its.toList
/-- the written part's tuple -/
def KT (K : PySem.W.Frag) (a : Addr) (xs : List V) : Prop := ∃ o its n, List.lookup a K = some o ∧ o.cls = Value.type "tuple" ∧ o.data = Data.seq its n ∧ its.size ≤ sizeLine ∧ Vals xs its.toList
mutual
inductive Rep (k : Cn) (A : Nat → Addr) (C : Store) (H : Hp) : V → D → Prop where
  | non : Rep k A C H .non .non
  | bl (b : Bool) : Rep k A C H (.bl b) (.bl b)
  | int (i : Int) : Rep k A C H (.int i) (.int i)
  | str (s : Str) : Rep k A C H (.str s) (.str s)
  | lst {a : Addr} {vs : List V} {ds : List D} : ¬ Live A C a → H a = some (.lst vs) → RepL k A C H vs ds → Rep k A C H (.ref a) (.lst ds)
  | tup {a : Addr} {vs : List V} {ds : List D} : ¬ Live A C a → H a = some (.tup vs) → RepL k A C H vs ds → Rep k A C H (.ref a) (.tup ds)
  | ktup {a : Addr} {vs : List V} {ds : List D} : KT k.K a vs → RepL k A C H vs ds → Rep k A C H (.ref a) (.kt ds)
  | scr {a : Addr} {vs : List V} {ds : List D} {o : Obj} : ¬ Live A C a → H a = some (.frz o (.lst vs)) → RepL k A C H vs ds → Rep k A C H (.ref a) (.scr ds)
  | kscr {a : Addr} {vs : List V} {ds : List D} : KL k.K a vs → RepL k A C H vs ds → Rep k A C H (.ref a) (.scr ds)
  | obj {a dx : Addr} {c : Nat} {vs : List V} {ds : List D} : ¬ Live A C a → H a = some (.ins (k.cl c) dx ((k.fn c).zip vs)) → vs.length = (k.fn c).length → RepL k A C H vs ds → Rep k A C H (.ref a) (.obj c ds)
  | dT {a : Addr} {kvs : List (List Key × V)} {ds : List D} : ¬ Live A C a → H a = some (.dT kvs) → RepL k A C H (kvs.map (·.2)) ds → Rep k A C H (.ref a) (.dT (kvs.map (·.1)) ds)
  | cell {i : Nat} : i < C.length → Rep k A C H (.ref (A i)) (.cell i)
  | cls (c : Nat) : Rep k A C H (.ref (k.cl c)) (.cls c)
  | exn {a dd : Addr} {c : Nat} {vs : List V} {ds : List D} : k.ex = some (a, c, dd) → ¬ Live A C dd → H dd = some (.xd ((k.fn c).zip vs)) → vs.length = (k.fn c).length → RepL k A C H vs ds → Rep k A C H (.ref a) (.exn c ds)
inductive RepL (k : Cn) (A : Nat → Addr) (C : Store) (H : Hp) : List V → List D → Prop where
  | nil : RepL k A C H [] []
  | cons {v : V} {d : D} {vs : List V} {ds : List D} : Rep k A C H v d → RepL k A C H vs ds → RepL k A C H (v :: vs) (d :: ds)
end
section
variable {k : Cn} {A A' : Nat → Addr} {C C' : Store} {H H' : Hp} {v : V} {d : D} {vs : List V} {ds : List D}
theorem RepL.length : ∀ {vs : List V} {ds : List D}, RepL k A C H vs ds → vs.length = ds.length
  | _, _, .nil => rfl
  | _, _, .cons _ t => by simp [RepL.length t]
theorem RepL.get : ∀ {vs : List V} {ds : List D} {i : Nat} {d : D}, RepL k A C H vs ds → ds[i]? = some d → ∃ v, vs[i]? = some v ∧ Rep k A C H v d
  | _, _, _, _, .nil, e => by simp at e
  | _, _, 0, _, .cons r _, e => by simp at e; subst e; exact ⟨_, rfl, r⟩
  | _, _, i + 1, d, .cons _ t, e => by
    obtain ⟨u, h1, h2⟩ := RepL.get (i := i) (d := d) t (by simpa using e)
    exact ⟨u, by simpa using h1, h2⟩
theorem RepL.append : ∀ {vs ws : List V} {ds es : List D}, RepL k A C H vs ds → RepL k A C H ws es → RepL k A C H (vs ++ ws) (ds ++ es)
  | _, _, _, _, .nil, t => t
  | _, _, _, _, .cons r s, t => .cons r (RepL.append s t)
theorem RepL.take : ∀ {vs : List V} {ds : List D} (n : Nat), RepL k A C H vs ds → RepL k A C H (vs.take n) (ds.take n)
  | _, _, 0, _ => by simp; exact .nil
  | _, _, _ + 1, .nil => .nil
  | _, _, n + 1, .cons r t => .cons r (RepL.take n t)
theorem RepL.drop : ∀ {vs : List V} {ds : List D} (n : Nat), RepL k A C H vs ds → RepL k A C H (vs.drop n) (ds.drop n)
  | _, _, 0, r => r
  | _, _, _ + 1, .nil => .nil
  | _, _, n + 1, .cons _ t => RepL.drop n t
theorem RepL.set {v : V} {d : D} (r : Rep k A C H v d) : ∀ {vs : List V} {ds : List D} (i : Nat), RepL k A C H vs ds → RepL k A C H (vs.set i v) (ds.set i d)
  | _, _, _, .nil => .nil
  | _, _, 0, .cons _ t => .cons r t
  | _, _, i + 1, .cons q t => .cons q (RepL.set r i t)
theorem RepL.rep : ∀ {vs : List V} {ds : List D} (n : Nat), RepL k A C H vs ds → RepL k A C H (List.replicate n vs).flatten (List.replicate n ds).flatten
  | _, _, 0, _ => by simp; exact .nil
  | _, _, n + 1, r => by
    rw [List.replicate_succ, List.replicate_succ, List.flatten_cons, List.flatten_cons]
    exact r.append (RepL.rep n r)
theorem RepL.ints : ∀ {ns : List Int}, RepL k A C H (ns.map V.int) (ns.map D.int)
  | [] => .nil
  | n :: ns => .cons (.int n) RepL.ints
theorem RepL.ints_inv : ∀ {ns : List Int} {vs : List V}, RepL k A C H vs (ns.map D.int) → vs = ns.map V.int
  | [], _, .nil => rfl
  | n :: ns, _, .cons r t => by
    cases r
    rw [RepL.ints_inv t]
    rfl
theorem RepL.bls_inv : ∀ {ns : List Bool} {vs : List V}, RepL k A C H vs (ns.map D.bl) → vs = ns.map V.bl
  | [], _, .nil => rfl
  | n :: ns, _, .cons r t => by
    cases r
    rw [RepL.bls_inv t]
    rfl
/-- every reading stays if the not-live objects stay and the live ones are the old ones, or new -/
structure Kp (A : Nat → Addr) (C : Store) (H : Hp) (A' : Nat → Addr) (C' : Store) (H' : Hp) : Prop where
  at_ : ∀ a o, ¬ Live A C a → H a = some o → ¬ Live A' C' a ∧ H' a = some o
  ix : ∀ i, i < C.length → A' i = A i
  len : C.length ≤ C'.length
mutual
theorem Rep.kp (q : Kp A C H A' C' H') : ∀ {v : V} {d : D}, Rep k A C H v d → Rep k A' C' H' v d
  | _, _, .non => .non
  | _, _, .bl b => .bl b
  | _, _, .int i => .int i
  | _, _, .str s => .str s
  | _, _, .lst l h r => .lst (q.at_ _ _ l h).1 (q.at_ _ _ l h).2 (r.kp q)
  | _, _, .tup l h r => .tup (q.at_ _ _ l h).1 (q.at_ _ _ l h).2 (r.kp q)
  | _, _, .ktup h r => .ktup h (r.kp q)
  | _, _, .scr l h r => .scr (q.at_ _ _ l h).1 (q.at_ _ _ l h).2 (r.kp q)
  | _, _, .kscr h r => .kscr h (r.kp q)
  | _, _, .obj l h z r => .obj (q.at_ _ _ l h).1 (q.at_ _ _ l h).2 z (r.kp q)
  | _, _, .dT l h r => .dT (q.at_ _ _ l h).1 (q.at_ _ _ l h).2 (r.kp q)
  | _, _, .cell (i := i) hi => by
    rw [← q.ix i hi]
    exact .cell (Nat.lt_of_lt_of_le hi q.len)
  | _, _, .exn x l h z r => .exn x (q.at_ _ _ l h).1 (q.at_ _ _ l h).2 z (r.kp q)
  | _, _, .cls c => .cls c
theorem RepL.kp (q : Kp A C H A' C' H') : ∀ {vs : List V} {ds : List D}, RepL k A C H vs ds → RepL k A' C' H' vs ds
  | _, _, .nil => .nil
  | _, _, .cons r t => .cons (r.kp q) (t.kp q)
end
mutual
theorem Rep.cb : ∀ {v : V} {d : D}, Rep k A C H v d → cb C.length d = true
  | _, _, .non => rfl
  | _, _, .bl b => rfl
  | _, _, .int i => rfl
  | _, _, .str s => rfl
  | _, _, .lst l h r => by simpa [CT.cb] using r.cb
  | _, _, .tup l h r => by simpa [CT.cb] using r.cb
  | _, _, .ktup h r => by simpa [CT.cb] using r.cb
  | _, _, .scr l h r => by simpa [CT.cb] using r.cb
  | _, _, .kscr h r => by simpa [CT.cb] using r.cb
  | _, _, .obj l h z r => by simpa [CT.cb] using r.cb
  | _, _, .dT l h r => by simpa [CT.cb] using r.cb
  | _, _, .cell (i := i) hi => by simpa [CT.cb] using hi
  | _, _, .exn x l h z r => by simpa [CT.cb] using r.cb
  | _, _, .cls c => rfl
theorem RepL.cb : ∀ {vs : List V} {ds : List D}, RepL k A C H vs ds → cbL C.length ds = true
  | _, _, .nil => rfl
  | _, _, .cons r t => by simp [CT.cbL, r.cb, t.cb]
end
/-- fewer live cells, all that is named still there -/
structure Fw (A : Nat → Addr) (C C' : Store) : Prop where
  lv : ∀ a, Live A C' a → Live A C a
mutual
theorem Rep.fw (q : Fw A C C') : ∀ {v : V} {d : D}, Rep k A C H v d → CT.cb C'.length d = true → Rep k A C' H v d
  | _, _, .non, _ => .non
  | _, _, .bl b, _ => .bl b
  | _, _, .int i, _ => .int i
  | _, _, .str s, _ => .str s
  | _, _, .lst l h r, z => .lst (fun y => l (q.lv _ y)) h (r.fw q (by simpa [CT.cb] using z))
  | _, _, .tup l h r, z => .tup (fun y => l (q.lv _ y)) h (r.fw q (by simpa [CT.cb] using z))
  | _, _, .ktup h r, z => .ktup h (r.fw q (by simpa [CT.cb] using z))
  | _, _, .scr l h r, z => .scr (fun y => l (q.lv _ y)) h (r.fw q (by simpa [CT.cb] using z))
  | _, _, .kscr h r, z => .kscr h (r.fw q (by simpa [CT.cb] using z))
  | _, _, .obj l h e r, z => .obj (fun y => l (q.lv _ y)) h e (r.fw q (by simpa [CT.cb] using z))
  | _, _, .dT l h r, z => .dT (fun y => l (q.lv _ y)) h (r.fw q (by simpa [CT.cb] using z))
  | _, _, .cell (i := i) hi, z => .cell (by simpa [CT.cb] using z)
  | _, _, .exn x l h e r, z => .exn x (fun y => l (q.lv _ y)) h e (r.fw q (by simpa [CT.cb] using z))
  | _, _, .cls c, _ => .cls c
theorem RepL.fw (q : Fw A C C') : ∀ {vs : List V} {ds : List D}, RepL k A C H vs ds → CT.cbL C'.length ds = true → RepL k A C' H vs ds
  | _, _, .nil, _ => .nil
  | _, _, .cons r t, z => by
    simp [CT.cbL] at z
    exact .cons (r.fw q z.1) (t.fw q z.2)
end
end
/-! ### the store -/
def CellAt (k : Cn) (A : Nat → Addr) (C : Store) (H : Hp) (a : Addr) : Cell → Prop
  | .lst ds => ∃ vs, H a = some (.lst vs) ∧ RepL k A C H vs ds
  | .dT ks ds => ∃ kvs : List (List Key × V), H a = some (.dT kvs) ∧ kvs.map (·.1) = ks ∧ RepL k A C H (kvs.map (·.2)) ds
  | .ins c ds => ∃ dx vs, H a = some (.ins (k.cl c) dx (((k.fn c).take ds.length).zip vs)) ∧ ds.length ≤ (k.fn c).length ∧ RepL k A C H vs ds
structure StOk (k : Cn) (A : Nat → Addr) (C : Store) (H : Hp) : Prop where
  at_ : ∀ i c, C[i]? = some (some c) → CellAt k A C H (A i) c
  inj : ∀ i j c e, C[i]? = some (some c) → C[j]? = some (some e) → A i = A j → i = j
def cbC (n : Nat) : Cell → Bool
  | .lst ds => cbL n ds
  | .dT _ ds => cbL n ds
  | .ins _ ds => cbL n ds
def LowC (f : Nat) (C : Store) : Prop := ∀ i c, i < f → C[i]? = some (some c) → cbC f c = true
/-- what held of values holds on; the callers' cells name the callers' cells alone -/
structure Stp (k : Cn) (fl : Nat) (A : Nat → Addr) (C : Store) (H : Hp) (A' : Nat → Addr) (C' : Store) (H' : Hp) : Prop where
  rep : ∀ v d, Rep k A C H v d → Rep k A' C' H' v d
  len : C.length ≤ C'.length
  low : ∀ f, f ≤ fl → f ≤ C.length → LowC f C → LowC f C'
section
variable {k : Cn} {fl : Nat} {A A' A'' : Nat → Addr} {C C' C'' : Store} {H H' H'' : Hp} {v : V} {d : D} {vs : List V} {ds : List D}
theorem Stp.refl : Stp k fl A C H A C H := ⟨fun _ _ h => h, Nat.le_refl _, fun _ _ _ h => h⟩
theorem Stp.trans (a : Stp k fl A C H A' C' H') (b : Stp k fl A' C' H' A'' C'' H'') : Stp k fl A C H A'' C'' H'' :=
  ⟨fun v d h => b.rep v d (a.rep v d h), Nat.le_trans a.len b.len, fun f h1 h2 h => b.low f h1 (Nat.le_trans h2 a.len) (a.low f h1 h2 h)⟩
theorem Stp.reps (a : Stp k fl A C H A' C' H') : ∀ {vs : List V} {ds : List D}, RepL k A C H vs ds → RepL k A' C' H' vs ds
  | _, _, .nil => .nil
  | _, _, .cons r t => .cons (a.rep _ _ r) (a.reps t)
theorem Kp.stp (q : Kp A C H A' C' H') (h : ∀ f, f ≤ fl → f ≤ C.length → LowC f C → LowC f C') : Stp k fl A C H A' C' H' := ⟨fun _ _ r => r.kp q, q.len, h⟩
theorem Kp.stp0 (q : Kp A C H A' C H') : Stp k fl A C H A' C H' := q.stp fun _ _ _ h => h
theorem low_app {c : Option Cell} {f : Nat} (hf : f ≤ C.length) (h : LowC f C) : LowC f (C ++ [c]) := fun i e hi he => by
  rw [List.getElem?_append_left (Nat.lt_of_lt_of_le hi hf)] at he
  exact h i e hi he
mutual
theorem cb_mono {n m : Nat} (h : n ≤ m) : ∀ {d : D}, cb n d = true → cb m d = true
  | .non, _ => rfl
  | .bl _, _ => rfl
  | .int _, _ => rfl
  | .str _, _ => rfl
  | .lst xs, z => by simp only [cb] at z ⊢; exact cbL_mono h z
  | .tup xs, z => by simp only [cb] at z ⊢; exact cbL_mono h z
  | .scr xs, z => by simp only [cb] at z ⊢; exact cbL_mono h z
  | .kt xs, z => by simp only [cb] at z ⊢; exact cbL_mono h z
  | .obj _ xs, z => by simp only [cb] at z ⊢; exact cbL_mono h z
  | .exn _ xs, z => by simp only [cb] at z ⊢; exact cbL_mono h z
  | .cls _, _ => rfl
  | .dT _ xs, z => by simp only [cb] at z ⊢; exact cbL_mono h z
  | .cell i, z => by simp only [cb, decide_eq_true_eq] at z ⊢; omega
theorem cbL_mono {n m : Nat} (h : n ≤ m) : ∀ {ds : List D}, cbL n ds = true → cbL m ds = true
  | [], _ => rfl
  | d :: ds, z => by
    simp only [cbL, Bool.and_eq_true] at z ⊢
    exact ⟨cb_mono h z.1, cbL_mono h z.2⟩
end
theorem cbC_mono {n m : Nat} (h : n ≤ m) {c : Cell} (z : cbC n c = true) : cbC m c = true := by
  cases c <;> exact cbL_mono h z
/-- a write: below the floor no cells are named -/
theorem low_set {i : Nat} {c : Cell} (hc : i < fl → cbC 0 c = true) {f : Nat} (hf : f ≤ fl) (h : LowC f C) : LowC f (C.set i (some c)) := fun j e hj he => by
  by_cases hij : i = j
  · subst hij
    by_cases hl : i < C.length
    · rw [List.getElem?_set_self hl] at he
      rw [← Option.some.inj (Option.some.inj he)]
      exact cbC_mono (Nat.zero_le _) (hc (by omega))
    · rw [List.getElem?_eq_none (by simp; omega)] at he
      cases he
  · rw [List.getElem?_set_ne hij] at he
    exact h j e hj he
theorem low_take {f n : Nat} (h : LowC f C) : LowC f (C.take n) := fun j e hj he => by
  by_cases hn : j < n
  · rw [List.getElem?_take_of_lt hn] at he
    exact h j e hj he
  · rw [List.getElem?_eq_none (by simp; omega)] at he
    cases he
theorem CellAt.kp {c : Cell} {a : Addr} (q : Kp A C H A' C' H') (h : H' a = H a) (x : CellAt k A C H a c) : CellAt k A' C' H' a c := by
  cases c with
  | lst ds => obtain ⟨vs, e, r⟩ := x; exact ⟨vs, by rw [h]; exact e, r.kp q⟩
  | dT ks ds => obtain ⟨kvs, e, z, r⟩ := x; exact ⟨kvs, by rw [h]; exact e, z, r.kp q⟩
  | ins c ds => obtain ⟨dx, vs, e, z, r⟩ := x; exact ⟨dx, vs, by rw [h]; exact e, z, r.kp q⟩
theorem CellAt.there {c : Cell} {a : Addr} (x : CellAt k A C H a c) : ∃ o, H a = some o := by
  cases c with
  | lst ds => obtain ⟨vs, e, r⟩ := x; exact ⟨_, e⟩
  | dT ks ds => obtain ⟨kvs, e, z, r⟩ := x; exact ⟨_, e⟩
  | ins c ds => obtain ⟨dx, vs, e, z, r⟩ := x; exact ⟨_, e⟩
theorem StOk.live (x : StOk k A C H) {a : Addr} (l : Live A C a) : ∃ o, H a = some o := by
  obtain ⟨i, c, e, rfl⟩ := l
  exact (x.at_ i c e).there
theorem StOk.notLive (x : StOk k A C H) {a : Addr} (h : H a = none) : ¬ Live A C a := fun l => by
  obtain ⟨o, e⟩ := x.live l
  rw [h] at e
  cases e
/-- a new object, not live -/
theorem kp_new {p : Addr} {o : HO} (h : H p = none) : Kp A C H A C (upd H p o) :=
  ⟨fun a u l e => ⟨l, by rw [upd_ne (ne_of_none e h)]; exact e⟩, fun _ _ => rfl, Nat.le_refl _⟩
theorem StOk.new {p : Addr} {o : HO} (x : StOk k A C H) (h : H p = none) : StOk k A C (upd H p o) :=
  ⟨fun i c e => by
    have y := x.at_ i c e
    obtain ⟨u, hu⟩ := y.there
    exact y.kp (kp_new h) (upd_ne (ne_of_none hu h)), x.inj⟩
/-- a new object that becomes a cell -/
def ext (A : Nat → Addr) (n : Nat) (p : Addr) : Nat → Addr := fun j => if j = n then p else A j
theorem live_ext {p : Addr} {c : Cell} {a : Addr} (l : Live (ext A C.length p) (C ++ [some c]) a) : Live A C a ∨ a = p := by
  obtain ⟨i, c', e, rfl⟩ := l
  by_cases hi : i < C.length
  · rw [List.getElem?_append_left hi] at e
    refine .inl ⟨i, c', e, ?_⟩
    unfold ext
    rw [if_neg (Nat.ne_of_lt hi)]
  · have hl : i < (C ++ [some c]).length := (List.getElem?_eq_some_iff.mp e).1
    rw [List.length_append] at hl
    have : i = C.length := by simp at hl; omega
    subst this
    refine .inr ?_
    unfold ext
    rw [if_pos rfl]
theorem kp_cell {p : Addr} {o : HO} {c : Cell} (x : StOk k A C H) (h : H p = none) : Kp A C H (ext A C.length p) (C ++ [some c]) (upd H p o) :=
  ⟨fun a u l e => ⟨fun y => (live_ext y).elim l (fun z => by rw [z, h] at e; cases e), by rw [upd_ne (ne_of_none e h)]; exact e⟩, fun i hi => by unfold ext; rw [if_neg (Nat.ne_of_lt hi)], by simp⟩
theorem StOk.cell {p : Addr} {o : HO} {c : Cell} (x : StOk k A C H) (h : H p = none) (y : CellAt k (ext A C.length p) (C ++ [some c]) (upd H p o) p c) : StOk k (ext A C.length p) (C ++ [some c]) (upd H p o) := by
  have old : ∀ i c', (C ++ [some c])[i]? = some (some c') → i < C.length → C[i]? = some (some c') ∧ ext A C.length p i = A i := fun i c' e hi => by
    rw [List.getElem?_append_left hi] at e
    exact ⟨e, by unfold ext; rw [if_neg (Nat.ne_of_lt hi)]⟩
  have new : ∀ i c', (C ++ [some c])[i]? = some (some c') → ¬ i < C.length → i = C.length ∧ c' = c := fun i c' e hi => by
    have hl : i < (C ++ [some c]).length := (List.getElem?_eq_some_iff.mp e).1
    rw [List.length_append] at hl
    have : i = C.length := by simp at hl; omega
    subst this
    simp at e
    exact ⟨rfl, e.symm⟩
  have pos : ext A C.length p C.length = p := by unfold ext; rw [if_pos rfl]
  refine ⟨fun i c' e => ?_, fun i j c1 c2 e1 e2 z => ?_⟩
  · by_cases hi : i < C.length
    · obtain ⟨e', ea⟩ := old i c' e hi
      rw [ea]
      have w := x.at_ i c' e'
      obtain ⟨u, hu⟩ := w.there
      exact w.kp (kp_cell x h) (upd_ne (ne_of_none hu h))
    · obtain ⟨rfl, rfl⟩ := new i c' e hi
      rw [pos]
      exact y
  · have far : ∀ i c', C[i]? = some (some c') → A i ≠ p := fun i c' e z => by
      obtain ⟨u, hu⟩ := (x.at_ i c' e).there
      rw [z, h] at hu
      cases hu
    by_cases hi : i < C.length
    · obtain ⟨f1, a1⟩ := old i c1 e1 hi
      by_cases hj : j < C.length
      · obtain ⟨f2, a2⟩ := old j c2 e2 hj
        rw [a1, a2] at z
        exact x.inj i j _ _ f1 f2 z
      · obtain ⟨rfl, rfl⟩ := new j c2 e2 hj
        rw [a1, pos] at z
        exact absurd z (far i _ f1)
    · obtain ⟨rfl, rfl⟩ := new i c1 e1 hi
      by_cases hj : j < C.length
      · obtain ⟨f2, a2⟩ := old j c2 e2 hj
        rw [pos, a2] at z
        exact absurd z.symm (far j _ f2)
      · obtain ⟨rfl, _⟩ := new j c2 e2 hj
        rfl
/-- a cell changes -/
theorem live_set {i : Nat} {c c0 : Cell} {a : Addr} (hi : C[i]? = some (some c0)) (l : Live A (C.set i (some c)) a) : Live A C a := by
  obtain ⟨j, c', e, rfl⟩ := l
  by_cases hj : i = j
  · subst hj
    exact ⟨i, c0, hi, rfl⟩
  · rw [List.getElem?_set_ne hj] at e
    exact ⟨j, c', e, rfl⟩
theorem kp_write {i : Nat} {c c0 : Cell} {o : HO} (hi : C[i]? = some (some c0)) : Kp A C H A (C.set i (some c)) (upd H (A i) o) :=
  ⟨fun a u l e => ⟨fun y => l (live_set hi y), by rw [upd_ne (fun z => l ⟨i, c0, hi, z.symm⟩)]; exact e⟩, fun _ _ => rfl, by simp⟩
theorem StOk.write {i : Nat} {c c0 : Cell} {o : HO} (x : StOk k A C H) (hi : C[i]? = some (some c0)) (y : CellAt k A (C.set i (some c)) (upd H (A i) o) (A i) c) : StOk k A (C.set i (some c)) (upd H (A i) o) := by
  have get : ∀ j c', (C.set i (some c))[j]? = some (some c') → j ≠ i → C[j]? = some (some c') := fun j c' e hj => by
    rw [List.getElem?_set_ne (Ne.symm hj)] at e
    exact e
  have here : ∀ c', (C.set i (some c))[i]? = some (some c') → c' = c := fun c' e => by
    rw [List.getElem?_set_self (List.getElem?_eq_some_iff.mp hi).1] at e
    exact (Option.some.inj (Option.some.inj e)).symm
  have some_ : ∀ j c', (C.set i (some c))[j]? = some (some c') → ∃ c'', C[j]? = some (some c'') := fun j c' e => by
    by_cases hj : j = i
    · rw [hj]
      exact ⟨c0, hi⟩
    · exact ⟨c', get j c' e hj⟩
  refine ⟨fun j c' e => ?_, fun j l c1 c2 e1 e2 z => ?_⟩
  · by_cases hj : j = i
    · subst hj
      rw [here c' e]
      exact y
    · have e' := get j c' e hj
      exact (x.at_ j c' e').kp (kp_write hi) (upd_ne (fun z => hj (x.inj j i _ _ e' hi z)))
  · obtain ⟨d1, f1⟩ := some_ j c1 e1
    obtain ⟨d2, f2⟩ := some_ l c2 e2
    exact x.inj j l _ _ f1 f2 z
/-- the store's end is forgotten -/
theorem fw_take (n : Nat) : Fw A C (C.take n) := ⟨fun a ⟨i, c, e, z⟩ => by
  by_cases hi : i < n
  · rw [List.getElem?_take_of_lt hi] at e
    exact ⟨i, c, e, z⟩
  · rw [List.getElem?_eq_none (by simp; omega)] at e
    cases e⟩
theorem CellAt.fw {c : Cell} {a : Addr} (q : Fw A C C') (x : CellAt k A C H a c) (z : cbC C'.length c = true) : CellAt k A C' H a c := by
  cases c with
  | lst ds => obtain ⟨vs, e, r⟩ := x; exact ⟨vs, e, r.fw q z⟩
  | dT ks ds => obtain ⟨kvs, e, y, r⟩ := x; exact ⟨kvs, e, y, r.fw q z⟩
  | ins c ds => obtain ⟨dx, vs, e, y, r⟩ := x; exact ⟨dx, vs, e, y, r.fw q z⟩
theorem CellAt.cb {c : Cell} {a : Addr} (x : CellAt k A C H a c) : cbC C.length c = true := by
  cases c with
  | lst ds => obtain ⟨vs, e, r⟩ := x; exact r.cb
  | dT ks ds => obtain ⟨kvs, e, y, r⟩ := x; exact r.cb
  | ins c ds => obtain ⟨dx, vs, e, y, r⟩ := x; exact r.cb
/-- at a call every cell is below the floor -/
theorem StOk.low (x : StOk k A C H) : LowC C.length C := fun i c _ e => (x.at_ i c e).cb
theorem StOk.take {n : Nat} (x : StOk k A C H) (hn : n ≤ C.length) (h : LowC n C) : StOk k A (C.take n) H := by
  have get : ∀ i c, (C.take n)[i]? = some (some c) → i < n ∧ C[i]? = some (some c) := fun i c e => by
    by_cases hi : i < n
    · rw [List.getElem?_take_of_lt hi] at e
      exact ⟨hi, e⟩
    · rw [List.getElem?_eq_none (by simp; omega)] at e
      cases e
  have ln : (C.take n).length = n := by rw [List.length_take]; omega
  refine ⟨fun i c e => ?_, fun i j c e h1 h2 z => x.inj i j c e (get i c h1).2 (get j e h2).2 z⟩
  obtain ⟨hi, e'⟩ := get i c e
  exact (x.at_ i c e').fw (fw_take n) (by rw [ln]; exact h i c hi e')
theorem Rep.cut {n : Nat} (hn : n ≤ C.length) (r : Rep k A C H v d) (h : CT.cb n d = true) : Rep k A (C.take n) H v d :=
  r.fw (fw_take n) (by rw [List.length_take, Nat.min_eq_left hn]; exact h)
theorem RepL.cut {n : Nat} (hn : n ≤ C.length) (r : RepL k A C H vs ds) (h : CT.cbL n ds = true) : RepL k A (C.take n) H vs ds :=
  r.fw (fw_take n) (by rw [List.length_take, Nat.min_eq_left hn]; exact h)
end
/-! ### frames -/
structure SR (k : Cn) (A : Nat → Addr) (F : Fr) (C : Store) (σ : L2.St) (H : Hp) : Prop where
  st : StOk k A C H
  low : LowC F.fl C
  fl : F.fl ≤ C.length
  len : F.sl.length = σ.length
  sl : ∀ (i : Nat) (d : D), F.sl[i]? = some (some d) → ∃ v : V, σ[i]? = some (some v) ∧ Rep k A C H v d
/-- behind a computation m that began at A, C, H -/
def Aft (k : Cn) (fl : Nat) (A : Nat → Addr) (C : Store) (H : Hp) {α β : Type} (rel : (Nat → Addr) → Store → Hp → β → α → Prop) (m : R α) (Q : α → Store → (Nat → Addr) → Hp → β → Prop) (W : XK) : Prop := match m with
  | .ok d C' => ∀ A' H' v, Stp k fl A C H A' C' H' → StOk k A' C' H' → rel A' C' H' v d → Q d C' A' H' v
  | .exc e C' => ∀ A' H' dd vs, Stp k fl A C H A' C' H' → StOk k A' C' H' → H' dd = some (.xd ((k.fn e.c).zip vs)) → vs.length = (k.fn e.c).length → RepL k A' C' H' vs e.fs → W (.ref (k.cl e.c)) (some dd) H'
  | .stuck => False
section
variable {k : Cn} {A A' A1 : Nat → Addr} {F : Fr} {C C' C1 : Store} {H H' H1 : Hp} {σ : L2.St} {fl : Nat}
theorem SR.step (s : SR k A F C σ H) (p : Stp k F.fl A C H A' C' H') (st : StOk k A' C' H') : SR k A' F C' σ H' :=
  ⟨st, p.low _ (Nat.le_refl _) s.fl s.low, Nat.le_trans s.fl p.len, s.len, fun i d e => let ⟨v, h1, h2⟩ := s.sl i d e; ⟨v, h1, p.rep v d h2⟩⟩
theorem SR.set {i : Nat} {v : V} {d : D} (s : SR k A F C σ H) (r : Rep k A C H v d) : SR k A ⟨F.fl, F.sl.set i (some d)⟩ C (σ.set i (some v)) H :=
  ⟨s.st, s.low, s.fl, by simp [s.len], fun j e h => by
    have h' : (F.sl.set i (some d))[j]? = some (some e) := h
    by_cases hij : i = j
    · subst hij
      by_cases hl : i < F.sl.length
      · rw [List.getElem?_set_self hl] at h'
        refine ⟨v, List.getElem?_set_self (by rw [← s.len]; exact hl), ?_⟩
        rw [← Option.some.inj (Option.some.inj h')]
        exact r
      · rw [List.getElem?_eq_none (by simp; omega)] at h'
        cases h'
    · rw [List.getElem?_set_ne hij] at h'
      obtain ⟨u, h1, h2⟩ := s.sl j e h'
      exact ⟨u, by rw [List.getElem?_set_ne hij]; exact h1, h2⟩⟩
theorem SR.unset {i : Nat} (s : SR k A F C σ H) : SR k A ⟨F.fl, F.sl.set i none⟩ C (σ.set i none) H :=
  ⟨s.st, s.low, s.fl, by simp [s.len], fun j e h => by
    have h' : (F.sl.set i none)[j]? = some (some e) := h
    by_cases hij : i = j
    · subst hij
      by_cases hl : i < F.sl.length
      · rw [List.getElem?_set_self hl] at h'
        cases h'
      · rw [List.getElem?_eq_none (by simp; omega)] at h'
        cases h'
    · rw [List.getElem?_set_ne hij] at h'
      obtain ⟨u, h1, h2⟩ := s.sl j e h'
      exact ⟨u, by rw [List.getElem?_set_ne hij]; exact h1, h2⟩⟩
variable {α β γ δ : Type} {rel : (Nat → Addr) → Store → Hp → β → α → Prop} {rel2 : (Nat → Addr) → Store → Hp → δ → γ → Prop} {m : R α} {Q : α → Store → (Nat → Addr) → Hp → β → Prop} {W : XK}
theorem Aft.shift (s : Stp k fl A C H A1 C1 H1) (h : Aft k fl A C H rel m Q W) : Aft k fl A1 C1 H1 rel m Q W := by
  cases m with
  | ok d C' => exact fun A' H' v p st r => h A' H' v (s.trans p) st r
  | exc e C' => exact fun A' H' dd vs p st x l r => h A' H' dd vs (s.trans p) st x l r
  | stuck => exact h
theorem Aft.mono {Q' : α → Store → (Nat → Addr) → Hp → β → Prop} (h : Aft k fl A C H rel m Q W) (hq : ∀ d C' A' H' v, Stp k fl A C H A' C' H' → StOk k A' C' H' → rel A' C' H' v d → Q d C' A' H' v → Q' d C' A' H' v) : Aft k fl A C H rel m Q' W := by
  cases m with
  | ok d C' => exact fun A' H' v p st r => hq _ _ _ _ _ p st r (h A' H' v p st r)
  | exc e C' => exact h
  | stuck => exact h
theorem Aft.bnd {f : α → Store → R γ} {Q : γ → Store → (Nat → Addr) → Hp → δ → Prop} (h : Aft k fl A C H rel2 (bnd m f) Q W) :
    Aft k fl A C H rel m (fun d C1 A1 H1 v => Aft k fl A1 C1 H1 rel2 (f d C1) Q W) W := by
  cases m with
  | ok d C' => exact fun A' H' v p st r => Aft.shift p h
  | exc e C' => exact h
  | stuck => exact h
end
abbrev RepD (k : Cn) : (Nat → Addr) → Store → Hp → V → D → Prop := fun A C H v d => Rep k A C H v d
abbrev RepDs (k : Cn) : (Nat → Addr) → Store → Hp → List V → List D → Prop := fun A C H v d => RepL k A C H v d
/-- an expression's reading by data -/
def LE (k : Cn) (W : WX) (m : ME) : TE := fun σ H Q => ∃ A F C, SR k A F C σ H ∧ Aft k F.fl A C H (RepD k) (m F C) (fun _ _ _ H' v => Q v H') (fun c d H' => W c d σ H')
abbrev MA := Fr → Store → R (List D)
def LA (k : Cn) (W : WX) (m : MA) : TA := fun σ H Q => ∃ A F C, SR k A F C σ H ∧ Aft k F.fl A C H (RepDs k) (m F C) (fun _ _ _ H' v => Q v H') (fun c d H' => W c d σ H')
abbrev MT := Fr → Store → R Bool
def LT (k : Cn) (W : WX) (m : MT) : TT := fun σ H Q => ∃ A F C, SR k A F C σ H ∧ Aft k F.fl A C H (fun _ _ _ (v d : Bool) => v = d) (m F C) (fun _ _ _ H' v => Q v H') (fun c d H' => W c d σ H')
end CT
set_option maxHeartbeats 4000000
/-! DL2: expressions over data: names, constants, operators, displays, subscripts, calls of built-ins. -/
namespace CT
open PySem L2
theorem _root_.L2.PE.cq {X : Cx} {e : Expr} {t t' : TE} (h : PE X e t) (c : ∀ σ H Q, t' σ H Q → t σ H Q) : PE X e t' := ⟨fun pins s σ H Q I q => h.run pins s σ H Q I (c σ H Q q)⟩
theorem _root_.L2.PT.cq {X : Cx} {e : Expr} {t t' : TT} (h : PT X e t) (c : ∀ σ H Q, t' σ H Q → t σ H Q) : PT X e t' := ⟨fun pins s σ H Q I q => h.run pins s σ H Q I (c σ H Q q)⟩
theorem _root_.L2.PW.cq {X : Cx} {e : Expr} {t t' : TT} (h : PW X e t) (c : ∀ σ H Q, t' σ H Q → t σ H Q) : PW X e t' := ⟨fun w pins s σ H Q I q => h.run w pins s σ H Q I (c σ H Q q)⟩
theorem _root_.L2.PA.cq {X : Cx} {e : List Expr} {t t' : TA} (h : PA X e t) (c : ∀ σ H Q, t' σ H Q → t σ H Q) : PA X e t' := ⟨fun p pins s σ H Q I q => h.run p pins s σ H Q I (c σ H Q q)⟩
theorem _root_.L2.PS.cq {X : Cx} {e : Stmt} {t t' : TS} (h : PS X e t) (c : ∀ D σ H, t' D σ H → t D σ H) : PS X e t' := ⟨fun pins s σ H Q I q => h.run pins s σ H Q I (c Q σ H q)⟩
theorem _root_.L2.PSs.cq {X : Cx} {e : List Stmt} {t t' : TS} (h : PSs X e t) (c : ∀ D σ H, t' D σ H → t D σ H) : PSs X e t' := ⟨fun pins s σ H Q I q => h.run pins s σ H Q I (c Q σ H q)⟩
/-! ### names, constants -/
def mVar (i : Nat) : ME := fun F C => match F.sl[i]? with
  | some (some d) => .ok d C
  | _ => .stuck
def mC (d : D) : ME := fun _ C => .ok d C
section
variable {X : Cx} {k : Cn} {W : WX}
theorem le_var {i : Nat} {σ : L2.St} {H : Hp} {Q : VK} (h : LE k W (mVar i) σ H Q) : tVar i σ H Q := by
  obtain ⟨A, F, C, s, h⟩ := h
  unfold mVar at h
  split at h
  · rename_i d e
    obtain ⟨v, h1, h2⟩ := s.sl i d e
    exact ⟨v, h1, h A H v Stp.refl s.st h2⟩
  · exact h.elim
theorem dv (i : Nat) {x : Str} {pos : Pos} (hN : X.N[i]? = some x := by rfl) (hv : Vis X.env.scope x := by first | exact Or.inl rfl | exact Or.inr (Or.inl rfl) | exact Or.inr (Or.inr rfl)) (hd : (x == ("__debug__" : Str)) = false := by decide)
    (hcd : (x == ("__classdict__" : Str)) = false := by decide) : PE X (.Name x pos) (LE k W (mVar i)) := (pe_var hN hv hd hcd).cq fun _ _ _ h => le_var h
/-- a value that every heap reads as d -/
theorem le_c {v : V} {d : D} (hr : ∀ A C H, Rep k A C H v d) {σ : L2.St} {H : Hp} {Q : VK} (h : LE k W (mC d) σ H Q) : tC v σ H Q := by
  obtain ⟨A, F, C, s, h⟩ := h
  exact h A H v Stp.refl s.st (hr _ _ _)
theorem de_int {i j pos} : PE X (.Constant (.int i) j pos) (LE k W (mC (.int i))) := pe_int.cq fun _ _ _ h => le_c (fun _ _ _ => .int i) h
theorem de_bl {i j pos} : PE X (.Constant (.bool i) j pos) (LE k W (mC (.bl i))) := pe_bl.cq fun _ _ _ h => le_c (fun _ _ _ => .bl i) h
theorem de_non {j pos} : PE X (.Constant .none j pos) (LE k W (mC .non)) := pe_non.cq fun _ _ _ h => le_c (fun _ _ _ => .non) h
theorem de_str {i j pos} : PE X (.Constant (.str i) j pos) (LE k W (mC (.str i))) := pe_str.cq fun _ _ _ h => le_c (fun _ _ _ => .str i) h
theorem de_glob {x : Str} {v : V} {d : D} {u : Value} {pos : Pos} (hr : ∀ A C H, Rep k A C H v d) (hg : Gl X x) (hm : X.mg x = some u) (r : RelV v u) (hd : (x == ("__debug__" : Str)) = false := by decide) : PE X (.Name x pos) (LE k W (mC d)) :=
  (pe_glob hg hm r hd).cq fun _ _ _ h => le_c hr h
end
/-! ### operators -/
abbrev O2 := D → D → Store → Option (D × Store)
abbrev O1 := D → Store → Option (D × Store)
abbrev OA := List D → Store → Option (D × Store)
def mOp (o : O2) (a b : ME) : ME := fun F C => bnd (a F C) fun x C1 => bnd (b F C1) fun y C2 => ofO (o x y C2)
def mUn (o : O1) (a : ME) : ME := fun F C => bnd (a F C) fun x C1 => ofO (o x C1)
def mNil : MA := fun _ C => .ok [] C
def mCons (a : ME) (r : MA) : MA := fun F C => bnd (a F C) fun x C1 => bnd (r F C1) fun xs C2 => .ok (x :: xs) C2
def mAp (o : OA) (a : MA) : ME := fun F C => bnd (a F C) fun xs C1 => ofO (o xs C1)
/-- an operation on values that the data's operation o tells -/
def OpD (k : Cn) (r : R2) (o : O2) : Prop := ∀ fl A C H x y dx dy d C' (Q : VK), fl ≤ C.length → LowC fl C → StOk k A C H → Rep k A C H x dx → Rep k A C H y dy → o dx dy C = some (d, C') →
  (∀ A' H' v, Stp k fl A C H A' C' H' → StOk k A' C' H' → Rep k A' C' H' v d → Q v H') → r x y H Q
def UnD (k : Cn) (r : V → Hp → VK → Prop) (o : O1) : Prop := ∀ fl A C H x dx d C' (Q : VK), fl ≤ C.length → LowC fl C → StOk k A C H → Rep k A C H x dx → o dx C = some (d, C') →
  (∀ A' H' v, Stp k fl A C H A' C' H' → StOk k A' C' H' → Rep k A' C' H' v d → Q v H') → r x H Q
def ApD (k : Cn) (r : List V → Hp → VK → Prop) (o : OA) : Prop := ∀ fl A C H x dx d C' (Q : VK), fl ≤ C.length → LowC fl C → StOk k A C H → RepL k A C H x dx → o dx C = some (d, C') →
  (∀ A' H' v, Stp k fl A C H A' C' H' → StOk k A' C' H' → Rep k A' C' H' v d → Q v H') → r x H Q
theorem aft_ofO {k : Cn} {fl : Nat} {A : Nat → Addr} {C : Store} {H : Hp} {W : XK} {o : Option (D × Store)} {Q : D → Store → (Nat → Addr) → Hp → V → Prop} (h : Aft k fl A C H (RepD k) (ofO o) Q W) :
    ∃ d C', o = some (d, C') ∧ ∀ A' H' v, Stp k fl A C H A' C' H' → StOk k A' C' H' → Rep k A' C' H' v d → Q d C' A' H' v := by
  cases o with
  | none => exact h.elim
  | some p => exact ⟨p.1, p.2, rfl, h⟩
section
variable {X : Cx} {k : Cn} {W : WX} {σ : L2.St} {H : Hp} {Q : VK}
theorem le_op {r : R2} {o : O2} {ma mb : ME} (ho : OpD k r o) (h : LE k W (mOp o ma mb) σ H Q) : tOp r (LE k W ma) (LE k W mb) σ H Q := by
  obtain ⟨A, F, C, s, h⟩ := h
  refine ⟨A, F, C, s, (Aft.bnd (rel := RepD k) h).mono fun dx C1 A1 H1 x p1 st1 rx h1 => ?_⟩
  have s1 := s.step p1 st1
  refine ⟨A1, F, C1, s1, (Aft.bnd (rel := RepD k) h1).mono fun dy C2 A2 H2 y p2 st2 ry h2 => ?_⟩
  have s2 := s1.step p2 st2
  obtain ⟨d, C', e, q⟩ := aft_ofO h2
  exact ho F.fl A2 C2 H2 x y dx dy d C' Q s2.fl s2.low st2 (p2.rep _ _ rx) ry e q
theorem le_un {r : V → Hp → VK → Prop} {o : O1} {ma : ME} (ho : UnD k r o) (h : LE k W (mUn o ma) σ H Q) : tUn r (LE k W ma) σ H Q := by
  obtain ⟨A, F, C, s, h⟩ := h
  refine ⟨A, F, C, s, (Aft.bnd (rel := RepD k) h).mono fun dx C1 A1 H1 x p1 st1 rx h1 => ?_⟩
  have s1 := s.step p1 st1
  obtain ⟨d, C', e, q⟩ := aft_ofO h1
  exact ho F.fl A1 C1 H1 x dx d C' Q s1.fl s1.low st1 rx e q
theorem la_nil {Q : List V → Hp → Prop} (h : LA k W mNil σ H Q) : tNil σ H Q := by
  obtain ⟨A, F, C, s, h⟩ := h
  exact h A H [] Stp.refl s.st .nil
theorem la_cons {Q : List V → Hp → Prop} {ma : ME} {mr : MA} (h : LA k W (mCons ma mr) σ H Q) : tCons (LE k W ma) (LA k W mr) σ H Q := by
  obtain ⟨A, F, C, s, h⟩ := h
  refine ⟨A, F, C, s, (Aft.bnd (rel := RepD k) h).mono fun dx C1 A1 H1 x p1 st1 rx h1 => ?_⟩
  have s1 := s.step p1 st1
  refine ⟨A1, F, C1, s1, (Aft.bnd (rel := RepDs k) h1).mono fun dy C2 A2 H2 y p2 st2 ry h2 => ?_⟩
  exact h2 A2 H2 (x :: y) Stp.refl st2 (.cons (p2.rep _ _ rx) ry)
theorem le_ap {r : List V → Hp → VK → Prop} {o : OA} {ma : MA} (ho : ApD k r o) (h : LE k W (mAp o ma) σ H Q) : tCB r (LA k W ma) σ H Q := by
  obtain ⟨A, F, C, s, h⟩ := h
  refine ⟨A, F, C, s, (Aft.bnd (rel := RepDs k) h).mono fun dx C1 A1 H1 x p1 st1 rx h1 => ?_⟩
  have s1 := s.step p1 st1
  obtain ⟨d, C', e, q⟩ := aft_ofO h1
  exact ho F.fl A1 C1 H1 x dx d C' Q s1.fl s1.low st1 rx e q
theorem de_op {a b : Expr} {pos : Pos} {op : Operator} {r : R2} {o : O2} {ma mb : ME} (hR : OpR X (binaryOp op) r) (hD : OpD k r o) (ha : PE X a (LE k W ma)) (hb : PE X b (LE k W mb)) : PE X (.BinOp a op b pos) (LE k W (mOp o ma mb)) :=
  (pe_op hR ha hb).cq fun _ _ _ h => le_op hD h
theorem de_cmp {a b : Expr} {pos : Pos} {op : CmpOp} {r : R2} {o : O2} {ma mb : ME} (hR : OpR X (compareOp op) r) (hD : OpD k r o) (ha : PE X a (LE k W ma)) (hb : PE X b (LE k W mb)) (hm : behindInMarks op b = false) : PE X (.Compare a [op] [b] pos) (LE k W (mOp o ma mb)) :=
  (pe_cmpR hR ha hb hm).cq fun _ _ _ h => le_op hD h
theorem de_un {a : Expr} {pos : Pos} {op : UnaryOp} {r : V → Hp → VK → Prop} {o : O1} {ma : ME} (hR : UnR X (unaryOp op) r) (hD : UnD k r o) (ha : PE X a (LE k W ma)) : PE X (.UnaryOp op a pos) (LE k W (mUn o ma)) :=
  (pe_un hR ha).cq fun _ _ _ h => le_un hD h
theorem de_ix {a b : Expr} {pos : Pos} {r : R2} {o : O2} {ma mb : ME} (hR : IxR X r) (hD : OpD k r o) (ha : PE X a (LE k W ma)) (hb : PE X b (LE k W mb)) (hs : PlainIx b := by exact fun _ _ => rfl) : PE X (.Subscript a b pos) (LE k W (mOp o ma mb)) :=
  (pe_ix hR ha hb hs).cq fun _ _ _ h => le_op hD h
theorem da_nil : PA X [] (LA k W mNil) := pa_nil.cq fun _ _ _ h => la_nil h
theorem da_cons {e : Expr} {es : List Expr} {ma : ME} {mr : MA} (ha : PE X e (LE k W ma)) (hr : PA X es (LA k W mr)) (hs : starEach (e :: es) X.env = (false, eval e X.env) :: starEach es X.env := by rfl) : PA X (e :: es) (LA k W (mCons ma mr)) :=
  (pa_cons ha hr hs).cq fun _ _ _ h => la_cons h
theorem de_callB {x : Str} {id : String} {e : Expr} {es : List Expr} {p pos : Pos} {r : List V → Hp → VK → Prop} {o : OA} {ma : MA} (hc : CallR X (.builtin id) r) (hD : ApD k r o) (hg : Gl X x) (hm : X.mg x = none) (hv : bootBuiltins x = some (.builtin id))
    (ha : PA X (e :: es) (LA k W ma)) (hn : x ≠ "__name__" := by decide) (hdb : (x == ("__debug__" : Str)) = false := by decide) (he : starEach (e :: es) X.env = (false, eval e X.env) :: starEach es X.env := by rfl) (hpl : (backTo pos (starEach es X.env)).any (·.1) = false := by rfl) :
    PE X (.Call (.Name x p) (e :: es) [] pos) (LE k W (mAp o ma)) := (pe_callB hc hg hm hv ha hn hdb he hpl).cq fun _ _ _ h => le_ap hD h
theorem de_callTy {x : Str} {id : String} {e : Expr} {es : List Expr} {p pos : Pos} {r : List V → Hp → VK → Prop} {o : OA} {ma : MA} (hc : CallR X (.type id) r) (hD : ApD k r o) (hg : Gl X x) (hm : X.mg x = none) (hv : bootBuiltins x = some (.type id))
    (ha : PA X (e :: es) (LA k W ma)) (hn : x ≠ "__name__" := by decide) (hdb : (x == ("__debug__" : Str)) = false := by decide) (he : starEach (e :: es) X.env = (false, eval e X.env) :: starEach es X.env := by rfl) (hpl : (backTo pos (starEach es X.env)).any (·.1) = false := by rfl) :
    PE X (.Call (.Name x p) (e :: es) [] pos) (LE k W (mAp o ma)) := (pe_callTy hc hg hm hv ha hn hdb he hpl).cq fun _ _ _ h => le_ap hD h
end
/-! ### tests, and, or, not -/
def mTst (a : ME) : MT := fun F C => bnd (a F C) fun x C1 => match x with
  | .bl b => .ok b C1
  | _ => .stuck
def tAndM (a b : MT) : MT := fun F C => bnd (a F C) fun x C1 => if x = true then b F C1 else .ok false C1
def tOrM (a b : MT) : MT := fun F C => bnd (a F C) fun x C1 => if x = true then .ok true C1 else b F C1
def tNotM (a : MT) : MT := fun F C => bnd (a F C) fun x C1 => .ok (!x) C1
def mAnd (a b : ME) : ME := fun F C => bnd (a F C) fun x C1 => match x with
  | .bl true => b F C1
  | .bl false => .ok (.bl false) C1
  | _ => .stuck
def mOr (a b : ME) : ME := fun F C => bnd (a F C) fun x C1 => match x with
  | .bl true => .ok (.bl true) C1
  | .bl false => b F C1
  | _ => .stuck
def mNot (a : ME) : ME := fun F C => bnd (a F C) fun x C1 => match x with
  | .bl b => .ok (.bl (!b)) C1
  | _ => .stuck
def mIf (t : MT) (a b : ME) : ME := fun F C => bnd (t F C) fun x C1 => if x = true then a F C1 else b F C1
abbrev RepB : (Nat → Addr) → Store → Hp → Bool → Bool → Prop := fun _ _ _ v d => v = d
section
variable {X : Cx} {k : Cn} {W : WX} {σ : L2.St} {H : Hp}
theorem lt_val {ma : ME} {Q : Bool → Hp → Prop} (h : LT k W (mTst ma) σ H Q) : tB (LE k W ma) σ H Q := by
  obtain ⟨A, F, C, s, h⟩ := h
  refine ⟨A, F, C, s, (Aft.bnd (rel := RepD k) h).mono fun dx C1 A1 H1 x p1 st1 rx h1 => ?_⟩
  cases rx with
  | bl b => exact ⟨b, rfl, h1 A1 H1 b Stp.refl st1 rfl⟩
  | _ => exact h1.elim
theorem dt_val {e : Expr} {ma : ME} (h : PE X e (LE k W ma)) (he : ∀ whole, isTrue e X.env whole = (do let v ← whole; standAt e.pos; holding [v] (truthy v)) := by intro _; rfl) : PT X e (LT k W (mTst ma)) :=
  (pt_val h he).cq fun _ _ _ h => lt_val h
theorem lt_and {a b : MT} {Q : Bool → Hp → Prop} (h : LT k W (tAndM a b) σ H Q) : tAnd (LT k W a) (LT k W b) σ H Q := by
  obtain ⟨A, F, C, s, h⟩ := h
  refine ⟨A, F, C, s, (Aft.bnd (rel := RepB) h).mono fun dx C1 A1 H1 x p1 st1 rx h1 => ?_⟩
  have rx : x = dx := rx
  subst rx
  cases x with
  | true => exact iteT ⟨A1, F, C1, s.step p1 st1, h1⟩
  | false => exact iteF (h1 A1 H1 false Stp.refl st1 rfl)
theorem lt_or {a b : MT} {Q : Bool → Hp → Prop} (h : LT k W (tOrM a b) σ H Q) : tOr (LT k W a) (LT k W b) σ H Q := by
  obtain ⟨A, F, C, s, h⟩ := h
  refine ⟨A, F, C, s, (Aft.bnd (rel := RepB) h).mono fun dx C1 A1 H1 x p1 st1 rx h1 => ?_⟩
  have rx : x = dx := rx
  subst rx
  cases x with
  | true => exact iteT (h1 A1 H1 true Stp.refl st1 rfl)
  | false => exact iteF ⟨A1, F, C1, s.step p1 st1, h1⟩
theorem lt_not {a : MT} {Q : Bool → Hp → Prop} (h : LT k W (tNotM a) σ H Q) : tNot (LT k W a) σ H Q := by
  obtain ⟨A, F, C, s, h⟩ := h
  refine ⟨A, F, C, s, (Aft.bnd (rel := RepB) h).mono fun dx C1 A1 H1 x p1 st1 rx h1 => ?_⟩
  have rx : x = dx := rx
  subst rx
  exact h1 A1 H1 (!x) Stp.refl st1 rfl
theorem dw_and1 {a : Expr} {pos : Pos} {m : MT} (ha : PT X a (LT k W m)) : PW X (.BoolOp .And [a] pos) (LT k W m) := pw_and1 ha
theorem dw_or1 {a : Expr} {pos : Pos} {m : MT} (ha : PT X a (LT k W m)) : PW X (.BoolOp .Or [a] pos) (LT k W m) := pw_or1 ha
theorem dw_and {a b : Expr} {rest : List Expr} {pos : Pos} {m n : MT} (ha : PT X a (LT k W m)) (hb : PW X (.BoolOp .And (b :: rest) pos) (LT k W n)) : PW X (.BoolOp .And (a :: b :: rest) pos) (LT k W (tAndM m n)) := (pw_and ha hb).cq fun _ _ _ h => lt_and h
theorem dw_or {a b : Expr} {rest : List Expr} {pos : Pos} {m n : MT} (ha : PT X a (LT k W m)) (hb : PW X (.BoolOp .Or (b :: rest) pos) (LT k W n)) : PW X (.BoolOp .Or (a :: b :: rest) pos) (LT k W (tOrM m n)) := (pw_or ha hb).cq fun _ _ _ h => lt_or h
theorem dt_not {a : Expr} {pos : Pos} {m : MT} (ha : PT X a (LT k W m)) : PT X (.UnaryOp .Not a pos) (LT k W (tNotM m)) := (pt_not ha).cq fun _ _ _ h => lt_not h
theorem le_and {a b : ME} {Q : VK} (h : LE k W (mAnd a b) σ H Q) : tAndV (LE k W a) (LE k W b) σ H Q := by
  obtain ⟨A, F, C, s, h⟩ := h
  refine ⟨A, F, C, s, (Aft.bnd (rel := RepD k) h).mono fun dx C1 A1 H1 x p1 st1 rx h1 => ?_⟩
  cases rx with
  | bl b =>
    refine ⟨b, rfl, ?_⟩
    cases b with
    | true => exact iteT ⟨A1, F, C1, s.step p1 st1, h1⟩
    | false => exact iteF (h1 A1 H1 (.bl false) Stp.refl st1 (.bl false))
  | _ => exact h1.elim
theorem le_not {a : ME} {Q : VK} (h : LE k W (mNot a) σ H Q) : tNotV (LE k W a) σ H Q := by
  obtain ⟨A, F, C, s, h⟩ := h
  refine ⟨A, F, C, s, (Aft.bnd (rel := RepD k) h).mono fun dx C1 A1 H1 x p1 st1 rx h1 => ?_⟩
  cases rx with
  | bl b => exact ⟨b, rfl, h1 A1 H1 (.bl (!b)) Stp.refl st1 (.bl _)⟩
  | _ => exact h1.elim
theorem le_if {t : MT} {a b : ME} {Q : VK} (h : LE k W (mIf t a b) σ H Q) : tIf (LT k W t) (LE k W a) (LE k W b) σ H Q := by
  obtain ⟨A, F, C, s, h⟩ := h
  refine ⟨A, F, C, s, (Aft.bnd (rel := RepB) h).mono fun dx C1 A1 H1 x p1 st1 rx h1 => ?_⟩
  have rx : x = dx := rx
  subst rx
  cases x with
  | true => exact iteT ⟨A1, F, C1, s.step p1 st1, h1⟩
  | false => exact iteF ⟨A1, F, C1, s.step p1 st1, h1⟩
theorem de_one {op} {a : Expr} {pos : Pos} {m : ME} (h : PE X a (LE k W m)) : PE X (.BoolOp op [a] pos) (LE k W m) := pe_one h
theorem de_and {a b : Expr} {rest : List Expr} {pos : Pos} {m n : ME} (ha : PE X a (LE k W m)) (hb : PE X (.BoolOp .And (b :: rest) pos) (LE k W n)) : PE X (.BoolOp .And (a :: b :: rest) pos) (LE k W (mAnd m n)) := (pe_and ha hb).cq fun _ _ _ h => le_and h
theorem de_not {a : Expr} {pos : Pos} {m : ME} (ha : PE X a (LE k W m)) : PE X (.UnaryOp .Not a pos) (LE k W (mNot m)) := (pe_not ha).cq fun _ _ _ h => le_not h
theorem de_if {c a b : Expr} {pos : Pos} {t : MT} {m n : ME} (hc : PT X c (LT k W t)) (ha : PE X a (LE k W m)) (hb : PE X b (LE k W n)) : PE X (.IfExp c a b pos) (LE k W (mIf t m n)) := (pe_ifExp hc ha hb).cq fun _ _ _ h => le_if h
end
/-! ### numbers -/
def oI (c : Int → Int → Bool) (g : Int → Int → D) : O2 := fun x y C => match x, y with
  | .int i, .int j => if c i j = true then some (g i j, C) else none
  | _, _ => none
def oI0 (g : Int → Int → D) : O2 := fun x y C => match x, y with
  | .int i, .int j => some (g i j, C)
  | _, _ => none
theorem opD_I0 {k : Cn} {g : Int → Int → V} {g' : Int → Int → D} (hg : ∀ i j A C H, Rep k A C H (g i j) (g' i j)) : OpD k (rI0 g) (oI0 g') := by
  intro fl A C H x y dx dy d C' Q hf hl st rx ry e q
  unfold oI0 at e
  split at e
  · cases rx; cases ry; cases e
    exact ⟨_, _, rfl, rfl, q A H _ Stp.refl st (hg _ _ _ _ _)⟩
  · cases e
theorem opD_I {k : Cn} {P : Int → Int → Prop} {c : Int → Int → Bool} {g : Int → Int → V} {g' : Int → Int → D} (hc : ∀ i j, c i j = true → P i j) (hg : ∀ i j A C H, Rep k A C H (g i j) (g' i j)) : OpD k (rI P g) (oI c g') := by
  intro fl A C H x y dx dy d C' Q hf hl st rx ry e q
  unfold oI at e
  split at e
  · split at e
    · rename_i h
      cases rx; cases ry; cases e
      exact ⟨_, _, rfl, rfl, hc _ _ h, q A H _ Stp.refl st (hg _ _ _ _ _)⟩
    · cases e
  · cases e
def oAdd : O2 := oI0 fun i j => .int (i + j)
def oSub : O2 := oI0 fun i j => .int (i - j)
def cMul (i j : Int) : Bool := (decide (-(2 ^ 64) < i) && decide (i < 2 ^ 64)) || (decide (-(2 ^ 64) < j) && decide (j < 2 ^ 64))
def oMul : O2 := oI cMul fun i j => .int (i * j)
def cDiv (i j : Int) : Bool := decide (0 < j) && decide (j < 4611686018427387904)
def oDiv : O2 := oI cDiv fun i j => .int (i / j)
def oMod : O2 := oI (fun _ j => decide (0 < j)) fun i j => .int (i % j)
def cPow (i j : Int) : Bool := decide (0 ≤ j) && decide (j ≤ 1000000) && decide (i.natAbs < 2 ^ 64)
def oPow : O2 := oI cPow fun i j => .int (i ^ j.toNat)
def oLt : O2 := oI0 fun i j => .bl (decide (i < j))
def oLe : O2 := oI0 fun i j => .bl (decide (i ≤ j))
def oGt : O2 := oI0 fun i j => .bl (decide (j < i))
def oGe : O2 := oI0 fun i j => .bl (decide (j ≤ i))
def oNeg : O1 := fun x C => match x with
  | .int i => some (.int (-i), C)
  | _ => none
section
variable {k : Cn}
theorem d_add : OpD k (rI0 fun i j => .int (i + j)) oAdd := opD_I0 fun i j _ _ _ => .int _
theorem d_sub : OpD k (rI0 fun i j => .int (i - j)) oSub := opD_I0 fun i j _ _ _ => .int _
theorem d_mul : OpD k (rI CMul fun i j => .int (i * j)) oMul := opD_I (fun i j h => by
  simp only [cMul, Bool.or_eq_true, Bool.and_eq_true, decide_eq_true_eq] at h
  exact h) fun i j _ _ _ => .int _
theorem d_div : OpD k (rI CDivW fun i j => .int (i / j)) oDiv := opD_I (fun i j h => by
  simp only [cDiv, Bool.and_eq_true, decide_eq_true_eq] at h
  refine ⟨h.1, Nat.lt_of_lt_of_le ((Nat.log2_lt (by omega)).mpr (show j.natAbs < 2 ^ 62 by omega)) (by decide)⟩) fun i j _ _ _ => .int _
theorem d_mod : OpD k (rI (fun _ j => 0 < j) fun i j => .int (i % j)) oMod := opD_I (fun i j h => by simpa using h) fun i j _ _ _ => .int _
theorem d_pow : OpD k (rI CPow fun i j => .int (i ^ j.toNat)) oPow := opD_I (fun i j h => by
  simp only [cPow, Bool.and_eq_true, decide_eq_true_eq] at h
  exact ⟨h.1.1, h.1.2, h.2⟩) fun i j _ _ _ => .int _
theorem d_lt : OpD k (rI0 fun i j => .bl (decide (i < j))) oLt := opD_I0 fun i j _ _ _ => .bl _
theorem d_le : OpD k (rI0 fun i j => .bl (decide (i ≤ j))) oLe := opD_I0 fun i j _ _ _ => .bl _
theorem d_gt : OpD k (rI0 fun i j => .bl (decide (j < i))) oGt := opD_I0 fun i j _ _ _ => .bl _
theorem d_ge : OpD k (rI0 fun i j => .bl (decide (j ≤ i))) oGe := opD_I0 fun i j _ _ _ => .bl _
theorem d_neg : UnD k (rU fun i => .int (-i)) oNeg := by
  intro fl A C H x dx d C' Q hf hl st rx e q
  unfold oNeg at e
  split at e
  · cases rx; cases e
    exact ⟨_, rfl, q A H _ Stp.refl st (.int _)⟩
  · cases e
end
/-! ### a chain of two comparisons -/
def mChain (o o' : O2) (a b c : ME) : ME := fun F C => bnd (a F C) fun x C1 => bnd (b F C1) fun y C2 => bnd (ofO (o x y C2)) fun z C3 => match z with
  | .bl true => bnd (c F C3) fun w C4 => ofO (o' y w C4)
  | .bl false => .ok (.bl false) C3
  | _ => .stuck
theorem le_chain {k : Cn} {W : WX} {σ : L2.St} {H : Hp} {Q : VK} {r r' : R2} {o o' : O2} {ma mb mc : ME} (ho : OpD k r o) (ho' : OpD k r' o') (h : LE k W (mChain o o' ma mb mc) σ H Q) : tChain r r' (LE k W ma) (LE k W mb) (LE k W mc) σ H Q := by
  obtain ⟨A, F, C, s, h⟩ := h
  refine ⟨A, F, C, s, (Aft.bnd (rel := RepD k) h).mono fun dx C1 A1 H1 x p1 st1 rx h1 => ?_⟩
  have s1 := s.step p1 st1
  refine ⟨A1, F, C1, s1, (Aft.bnd (rel := RepD k) h1).mono fun dy C2 A2 H2 y p2 st2 ry h2 => ?_⟩
  have s2 := s1.step p2 st2
  obtain ⟨d, C', e, q⟩ := aft_ofO (Aft.bnd (rel := RepD k) h2)
  refine ho F.fl A2 C2 H2 x y dx dy d C' _ s2.fl s2.low st2 (p2.rep _ _ rx) ry e fun A3 H3 z p3 st3 rz => ?_
  have h3 := q A3 H3 z p3 st3 rz
  cases rz with
  | bl b =>
    refine ⟨b, rfl, ?_⟩
    cases b with
    | true =>
      have s3 := s2.step p3 st3
      refine iteT ⟨A3, F, C', s3, (Aft.bnd (rel := RepD k) h3).mono fun dw C4 A4 H4 w p4 st4 rw h4 => ?_⟩
      have s4 := s3.step p4 st4
      obtain ⟨d', C'', e', q'⟩ := aft_ofO h4
      exact ho' F.fl A4 C4 H4 y w dy dw d' C'' Q s4.fl s4.low st4 (p4.rep _ _ (p3.rep _ _ ry)) rw e' q'
    | false => exact iteF (h3 A3 H3 (.bl false) Stp.refl st3 (.bl false))
  | _ => exact h3.elim
theorem de_chain {X : Cx} {k : Cn} {W : WX} {a b c : Expr} {pos : Pos} {op op' : CmpOp} {r r' : R2} {o o' : O2} {ma mb mc : ME} (hR : OpR X (compareOp op) r) (hD : OpD k r o) (hR' : OpR X (compareOp op') r') (hD' : OpD k r' o') (ha : PE X a (LE k W ma)) (hb : PE X b (LE k W mb)) (hc : PE X c (LE k W mc))
    (hm : lastMarks [op, op'] [b, c] = false := by with_unfolding_all rfl) : PE X (.Compare a [op, op'] [b, c] pos) (LE k W (mChain o o' ma mb mc)) :=
  (pe_chain hR hR' ha hb hc hm).cq fun _ _ _ h => le_chain hD hD' h
end CT
set_option maxHeartbeats 4000000
/-! DL3: lists, tuples, dicts over data. -/
namespace CT
open PySem L2
/-! ### what a datum is as a list, a tuple, a dict -/
def vL (d : D) (C : Store) : Option (List D) := match d with
  | .lst xs => some xs
  | .cell i => match C[i]? with
    | some (some (.lst xs)) => some xs
    | _ => none
  | _ => none
def vT : D → Option (List D)
  | .tup xs => some xs
  | .kt xs => some xs
  | _ => none
def vS (d : D) (C : Store) : Option (List D) := match d with
  | .tup xs => some xs
  | .kt xs => some xs
  | .lst xs => some xs
  | .cell i => match C[i]? with
    | some (some (.lst xs)) => some xs
    | _ => none
  | _ => none
def vD (d : D) (C : Store) : Option (List (List Key) × List D) := match d with
  | .dT ks vs => some (ks, vs)
  | .cell i => match C[i]? with
    | some (some (.dT ks vs)) => some (ks, vs)
    | _ => none
  | _ => none
section
variable {k : Cn} {A : Nat → Addr} {C : Store} {H : Hp} {v : V} {d : D} {ds : List D}
theorem vL_at (st : StOk k A C H) (r : Rep k A C H v d) (e : vL d C = some ds) : ∃ a vs, v = .ref a ∧ H a = some (.lst vs) ∧ RepL k A C H vs ds := by
  cases r with
  | lst l h q => cases e; exact ⟨_, _, rfl, h, q⟩
  | cell hi =>
    rename_i i
    simp only [vL] at e
    split at e
    · rename_i xs ec
      cases e
      obtain ⟨vs, h, q⟩ := st.at_ i _ ec
      exact ⟨_, vs, rfl, h, q⟩
    · cases e
  | _ => cases e
theorem vT_at (r : Rep k A C H v d) (e : vT d = some ds) : ∃ a vs, v = .ref a ∧ SqT k.K H a vs ∧ RepL k A C H vs ds := by
  cases r with
  | tup l h q => cases e; exact ⟨_, _, rfl, .inl (.inl h), q⟩
  | ktup h q => cases e; exact ⟨_, _, rfl, .inr h, q⟩
  | _ => cases e
theorem vS_at (st : StOk k A C H) (r : Rep k A C H v d) (e : vS d C = some ds) : ∃ a vs, v = .ref a ∧ (SqL k.K H a vs ∨ SqT k.K H a vs) ∧ RepL k A C H vs ds := by
  cases r with
  | lst l h q => cases e; exact ⟨_, _, rfl, .inl (.inl (.inl h)), q⟩
  | tup l h q => cases e; exact ⟨_, _, rfl, .inr (.inl (.inl h)), q⟩
  | ktup h q => cases e; exact ⟨_, _, rfl, .inr (.inr h), q⟩
  | cell hi =>
    rename_i i
    simp only [vS] at e
    split at e
    · rename_i xs ec
      cases e
      obtain ⟨vs, h, q⟩ := st.at_ i _ ec
      exact ⟨_, vs, rfl, .inl (.inl (.inl h)), q⟩
    · cases e
  | _ => cases e
/-! ### new lists, tuples, dicts: own cells or plain data -/
def mkL (own : Bool) (ds : List D) (C : Store) : D × Store := if own = true then (.cell C.length, C ++ [some (.lst ds)]) else (.lst ds, C)
def mkD (own : Bool) (ks : List (List Key)) (ds : List D) (C : Store) : D × Store := if own = true then (.cell C.length, C ++ [some (.dT ks ds)]) else (.dT ks ds, C)
theorem ext_at (A : Nat → Addr) (n : Nat) (p : Addr) : ext A n p n = p := if_pos rfl
theorem rep_new {p : Addr} (n : Nat) (c : Cell) {H : Hp} {C : Store} : Rep k (ext A C.length p) (C ++ [some c]) H (.ref p) (.cell C.length) := by
  have h : Rep k (ext A C.length p) (C ++ [some c]) H (.ref (ext A C.length p C.length)) (.cell C.length) := .cell (by simp)
  rw [ext_at] at h
  exact h
theorem fresh_L {fl : Nat} {own : Bool} {p : Addr} {vs : List V} (hf : fl ≤ C.length) (st : StOk k A C H) (r : RepL k A C H vs ds) (h : H p = none) :
    ∃ A', Stp k fl A C H A' (mkL own ds C).2 (upd H p (.lst vs)) ∧ StOk k A' (mkL own ds C).2 (upd H p (.lst vs)) ∧ Rep k A' (mkL own ds C).2 (upd H p (.lst vs)) (.ref p) (mkL own ds C).1 := by
  cases own with
  | true =>
    have q : Kp A C H (ext A C.length p) (C ++ [some (.lst ds)]) (upd H p (.lst vs)) := kp_cell (k := k) st h
    exact ⟨ext A C.length p, q.stp fun f h1 h2 l => low_app h2 l, st.cell h ⟨vs, upd_same, r.kp q⟩, rep_new C.length _⟩
  | false =>
    have q : Kp A C H A C (upd H p (.lst vs)) := kp_new h
    exact ⟨A, q.stp0, st.new h, .lst (st.notLive h) upd_same (r.kp q)⟩
theorem fresh_T {fl : Nat} {p : Addr} {vs : List V} (st : StOk k A C H) (r : RepL k A C H vs ds) (h : H p = none) :
    Stp k fl A C H A C (upd H p (.tup vs)) ∧ StOk k A C (upd H p (.tup vs)) ∧ Rep k A C (upd H p (.tup vs)) (.ref p) (.tup ds) := by
  have q : Kp A C H A C (upd H p (.tup vs)) := kp_new h
  exact ⟨q.stp0, st.new h, .tup (st.notLive h) upd_same (r.kp q)⟩
theorem fresh_D {fl : Nat} {own : Bool} {p : Addr} {kvs : List (List Key × V)} (hf : fl ≤ C.length) (st : StOk k A C H) (r : RepL k A C H (kvs.map (·.2)) ds) (h : H p = none) :
    ∃ A', Stp k fl A C H A' (mkD own (kvs.map (·.1)) ds C).2 (upd H p (.dT kvs)) ∧ StOk k A' (mkD own (kvs.map (·.1)) ds C).2 (upd H p (.dT kvs)) ∧ Rep k A' (mkD own (kvs.map (·.1)) ds C).2 (upd H p (.dT kvs)) (.ref p) (mkD own (kvs.map (·.1)) ds C).1 := by
  cases own with
  | true =>
    have q : Kp A C H (ext A C.length p) (C ++ [some (.dT (kvs.map (·.1)) ds)]) (upd H p (.dT kvs)) := kp_cell (k := k) st h
    exact ⟨ext A C.length p, q.stp fun f h1 h2 l => low_app h2 l, st.cell h ⟨kvs, upd_same, rfl, r.kp q⟩, rep_new C.length _⟩
  | false =>
    have q : Kp A C H A C (upd H p (.dT kvs)) := kp_new h
    exact ⟨A, q.stp0, st.new h, .dT (st.notLive h) upd_same (r.kp q)⟩
end
/-! ### displays -/
def szN (n : Nat) : Bool := decide (n ≤ 16777216)
theorem szN_le {n : Nat} (h : szN n = true) : n ≤ sizeLine := by
  rw [sizeLine_eq]
  exact of_decide_eq_true h
def oLst (own : Bool) : OA := fun xs C => if szN xs.length = true then some (mkL own xs C) else none
def oTup : OA := fun xs C => if szN xs.length = true then some (.tup xs, C) else none
section
variable {X : Cx} {k : Cn} {W : WX} {es : List Expr} {ma : MA} {pos : Pos}
theorem le_lst {own : Bool} {σ : L2.St} {H : Hp} {Q : VK} (h : LE k W (mAp (oLst own) ma) σ H Q) : tLst (LA k W ma) σ H Q := by
  obtain ⟨A, F, C, s, h⟩ := h
  refine ⟨A, F, C, s, (Aft.bnd (rel := RepDs k) h).mono fun dx C1 A1 H1 x p1 st1 rx h1 => ?_⟩
  have s1 := s.step p1 st1
  obtain ⟨d, C', e, q⟩ := aft_ofO h1
  unfold oLst at e
  split at e
  · rename_i hz
    refine ⟨by rw [rx.length]; exact szN_le hz, fun p hp => ?_⟩
    obtain ⟨A2, w1, w2, w3⟩ := fresh_L (own := own) s1.fl st1 rx hp
    have e1 := Option.some.inj e
    rw [e1] at w1 w2 w3
    exact q A2 _ _ w1 w2 w3
  · cases e
theorem de_lst (own : Bool) (h : PA X es (LA k W ma)) : PE X (.List es pos) (LE k W (mAp (oLst own) ma)) := (pe_lst h).cq fun _ _ _ h => le_lst h
theorem le_tup {σ : L2.St} {H : Hp} {Q : VK} (h : LE k W (mAp oTup ma) σ H Q) : tTup (LA k W ma) σ H Q := by
  obtain ⟨A, F, C, s, h⟩ := h
  refine ⟨A, F, C, s, (Aft.bnd (rel := RepDs k) h).mono fun dx C1 A1 H1 x p1 st1 rx h1 => ?_⟩
  obtain ⟨d, C', e, q⟩ := aft_ofO h1
  unfold oTup at e
  split at e
  · rename_i hz
    cases e
    refine ⟨by rw [rx.length]; exact szN_le hz, fun p hp => ?_⟩
    obtain ⟨w1, w2, w3⟩ := fresh_T st1 rx hp
    exact q A1 _ _ w1 w2 w3
  · cases e
theorem de_tup {x1} (h : PA X es (LA k W ma)) : PE X (.Tuple es x1 pos) (LE k W (mAp oTup ma)) := (pe_tup h).cq fun _ _ _ h => le_tup h
/-- {} whose keys will be tuples -/
def mDNew (own : Bool) : ME := fun _ C => .ok (mkD own [] [] C).1 (mkD own [] [] C).2
theorem de_dnew (own : Bool) : PE X (.Dict [] [] pos) (LE k W (mDNew own)) := pe_dnewT.cq fun σ H Q h => by
  obtain ⟨A, F, C, s, h⟩ := h
  intro p hp
  obtain ⟨A2, w1, w2, w3⟩ := fresh_D (own := own) (kvs := []) (ds := []) s.fl s.st .nil hp
  exact h A2 _ _ w1 w2 w3
end
/-! ### subscripts -/
def oIx : O2 := fun x y C => match y with
  | .int i => (vS x C).bind fun xs => (atI xs i).map fun d => (d, C)
  | _ => none
theorem atI_rep {k : Cn} {A : Nat → Addr} {C : Store} {H : Hp} {vs : List V} {ds : List D} {i : Int} {d : D} (r : RepL k A C H vs ds) (h : atI ds i = some d) : ∃ v, atI vs i = some v ∧ Rep k A C H v d := by
  unfold atI at h ⊢
  rw [r.length]
  cases e : ixN ds.length i with
  | none => rw [e] at h; cases h
  | some j =>
    rw [e] at h
    exact r.get h
theorem d_ix {k : Cn} : OpD k (rIx k.K) oIx := by
  intro fl A C H x y dx dy d C' Q hf hl st rx ry e q
  cases ry with
  | int i =>
    simp only [oIx] at e
    cases ev : vS dx C with
    | none => rw [ev] at e; cases e
    | some xs =>
      rw [ev] at e
      simp only [Option.bind_some, Option.map_eq_some_iff] at e
      obtain ⟨d', e1, e2⟩ := e
      cases e2
      obtain ⟨a, vs, rfl, hs, r⟩ := vS_at st rx ev
      obtain ⟨v, hv, rv⟩ := atI_rep r e1
      rcases hs with hs | hs
      · exact .inl ⟨a, vs, i, v, rfl, rfl, hs, hv, q A H v Stp.refl st rv⟩
      · exact .inr (.inl ⟨a, vs, i, v, rfl, rfl, hs, hv, q A H v Stp.refl st rv⟩)
  | _ => cases e
/-! ### dicts with tuple keys -/
def keyL : List D → Option (List Key)
  | [] => some []
  | .int i :: r => (keyL r).map fun l => .inl i :: l
  | .str s :: r => (keyL r).map fun l => .inr s :: l
  | _ :: _ => none
def lookT : List (List Key) → List D → List Key → Option D
  | k :: ks, d :: ds, key => if k = key then some d else lookT ks ds key
  | _, _, _ => none
def oDGet (x y z : D) (C : Store) : Option (D × Store) := match y with
  | .tup ds => (vD x C).bind fun p => (keyL ds).map fun key => ((lookT p.1 p.2 key).getD z, C)
  | _ => none
def mDGet (a b c : ME) : ME := fun F C => bnd (a F C) fun x C1 => if (vD x C1).isSome = true then bnd (b F C1) fun y C2 => bnd (c F C2) fun z C3 => ofO (oDGet x y z C3) else .stuck
end CT
set_option maxHeartbeats 4000000
/-! DL4: statements, defs over data. -/
namespace CT
open PySem L2
inductive RS where
  | nx (sl : List (Option D)) (C : Store)
  | rt (d : D) (C : Store)
  | bk (sl : List (Option D)) (C : Store)
  | ct (sl : List (Option D)) (C : Store)
  | xc (e : Exc) (sl : List (Option D)) (C : Store)
  | stuck
abbrev MS := Fr → Store → RS
def AftS (k : Cn) (W : WX) (fl : Nat) (A : Nat → Addr) (C : Store) (H : Hp) (m : RS) (E : Ends) : Prop := match m with
  | .nx sl C' => ∀ A' σ' H', Stp k fl A C H A' C' H' → SR k A' ⟨fl, sl⟩ C' σ' H' → E.nx σ' H'
  | .bk sl C' => ∀ A' σ' H', Stp k fl A C H A' C' H' → SR k A' ⟨fl, sl⟩ C' σ' H' → E.bk σ' H'
  | .ct sl C' => ∀ A' σ' H', Stp k fl A C H A' C' H' → SR k A' ⟨fl, sl⟩ C' σ' H' → E.ct σ' H'
  | .rt d C' => ∀ A' H' v, Stp k fl A C H A' C' H' → StOk k A' C' H' → Rep k A' C' H' v d → E.rt v H'
  | .xc e sl C' => ∀ A' σ' H' dd vs, Stp k fl A C H A' C' H' → SR k A' ⟨fl, sl⟩ C' σ' H' → H' dd = some (.xd ((k.fn e.c).zip vs)) → vs.length = (k.fn e.c).length → RepL k A' C' H' vs e.fs → W (.ref (k.cl e.c)) (some dd) σ' H'
  | .stuck => False
def LS (k : Cn) (W : WX) (m : MS) : TS := fun E σ H => ∃ A F C, SR k A F C σ H ∧ AftS k W F.fl A C H (m F C) E
section
variable {k : Cn} {W : WX} {fl : Nat} {A A1 : Nat → Addr} {C C1 : Store} {H H1 : Hp} {m : RS} {E E' : Ends}
theorem AftS.shift (s : Stp k fl A C H A1 C1 H1) (h : AftS k W fl A C H m E) : AftS k W fl A1 C1 H1 m E := by
  cases m with
  | nx sl C' => exact fun A' σ' H' p r => h A' σ' H' (s.trans p) r
  | bk sl C' => exact fun A' σ' H' p r => h A' σ' H' (s.trans p) r
  | ct sl C' => exact fun A' σ' H' p r => h A' σ' H' (s.trans p) r
  | rt d C' => exact fun A' H' v p st r => h A' H' v (s.trans p) st r
  | xc e sl C' => exact fun A' σ' H' dd vs p r x l t => h A' σ' H' dd vs (s.trans p) r x l t
  | stuck => exact h
end
/-! ### simple statements -/
def bndS {α : Type} (sl : List (Option D)) (m : R α) (f : α → Store → RS) : RS := match m with
  | .ok a C => f a C
  | .exc e C => .xc e sl C
  | .stuck => .stuck
@[simp] theorem bndS_ok {α : Type} (sl : List (Option D)) (a : α) (C : Store) (f : α → Store → RS) : bndS sl (.ok a C) f = f a C := rfl
@[simp] theorem bndS_exc {α : Type} (sl : List (Option D)) (e : Exc) (C : Store) (f : α → Store → RS) : bndS sl (.exc e C) f = .xc e sl C := rfl
@[simp] theorem bndS_stuck {α : Type} (sl : List (Option D)) (f : α → Store → RS) : bndS (α := α) sl .stuck f = .stuck := rfl
theorem AftS.bnd {k : Cn} {W : WX} {F : Fr} {A : Nat → Addr} {C : Store} {σ : L2.St} {H : Hp} {E : Ends} {α β : Type} {rel : (Nat → Addr) → Store → Hp → β → α → Prop} {m : R α} {f : α → Store → RS} (s : SR k A F C σ H)
    (h : AftS k W F.fl A C H (bndS F.sl m f) E) : Aft k F.fl A C H rel m (fun d C1 A1 H1 v => AftS k W F.fl A1 C1 H1 (f d C1) E) (fun c d H' => W c d σ H') := by
  cases m with
  | ok d C' => exact fun A' H' v p st r => AftS.shift p h
  | exc e C' => exact fun A' H' dd vs p st x l r => h A' σ H' dd vs p (s.step p st) x l r
  | stuck => exact h
def sNext : MS := fun F C => .nx F.sl C
def sSeq (a b : MS) : MS := fun F C => match a F C with
  | .nx sl C1 => b ⟨F.fl, sl⟩ C1
  | r => r
def sBrk : MS := fun F C => .bk F.sl C
def sCnt : MS := fun F C => .ct F.sl C
def sDrop (m : ME) : MS := fun F C => bndS F.sl (m F C) fun _ C1 => .nx F.sl C1
def sRet (m : ME) : MS := fun F C => bndS F.sl (m F C) fun d C1 => .rt d C1
def sRetN : MS := fun F C => .rt .non C
def sIf (t : MT) (a b : MS) : MS := fun F C => bndS F.sl (t F C) fun x C1 => if x = true then a F C1 else b F C1
def sNever : MS := fun _ _ => .stuck
section
variable {X : Cx} {k : Cn} {W : WX} {E : Ends} {σ : L2.St} {H : Hp}
theorem ls_next (h : LS k W sNext E σ H) : tNext E σ H := by
  obtain ⟨A, F, C, s, h⟩ := h
  exact h A σ H Stp.refl s
theorem ls_seq {a b : MS} (h : LS k W (sSeq a b) E σ H) : tSeq (LS k W a) (LS k W b) E σ H := by
  obtain ⟨A, F, C, s, h⟩ := h
  refine ⟨A, F, C, s, ?_⟩
  unfold sSeq at h
  cases e : a F C with
  | nx sl C' =>
    rw [e] at h
    exact fun A' σ' H' p r => ⟨A', ⟨F.fl, sl⟩, C', r, AftS.shift p h⟩
  | bk sl C' => rw [e] at h; exact h
  | ct sl C' => rw [e] at h; exact h
  | rt d C' => rw [e] at h; exact h
  | xc x sl C' => rw [e] at h; exact h
  | stuck => rw [e] at h; exact h
theorem ls_drop {m : ME} (h : LS k W (sDrop m) E σ H) : tDrop (LE k W m) E σ H := by
  obtain ⟨A, F, C, s, h⟩ := h
  exact ⟨A, F, C, s, (AftS.bnd (rel := RepD k) s h).mono fun d C1 A1 H1 v p st r h1 => h1 A1 σ H1 Stp.refl (s.step p st)⟩
theorem ls_ret {m : ME} (h : LS k W (sRet m) E σ H) : tRet (LE k W m) E σ H := by
  obtain ⟨A, F, C, s, h⟩ := h
  exact ⟨A, F, C, s, (AftS.bnd (rel := RepD k) s h).mono fun d C1 A1 H1 v p st r h1 => h1 A1 H1 v Stp.refl st r⟩
theorem ls_if {t : MT} {a b : MS} (h : LS k W (sIf t a b) E σ H) : tIfS (LT k W t) (LS k W a) (LS k W b) E σ H := by
  obtain ⟨A, F, C, s, h⟩ := h
  refine ⟨A, F, C, s, (AftS.bnd (rel := RepB) s h).mono fun dx C1 A1 H1 x p st rx h1 => ?_⟩
  have rx : x = dx := rx
  subst rx
  cases x with
  | true => exact iteT ⟨A1, F, C1, s.step p st, h1⟩
  | false => exact iteF ⟨A1, F, C1, s.step p st, h1⟩
theorem dss_nil : PSs X [] (LS k W sNext) := pss_nil.cq fun _ _ _ h => ls_next h
theorem dss_cons {st : Stmt} {rest : List Stmt} {a b : MS} (h1 : PS X st (LS k W a)) (h2 : PSs X rest (LS k W b)) : PSs X (st :: rest) (LS k W (sSeq a b)) := (pss_cons h1 h2).cq fun _ _ _ h => ls_seq h
theorem dss_one {st : Stmt} {a : MS} (h1 : PS X st (LS k W a)) : PSs X [st] (LS k W a) := pss_one h1
theorem ds_expr {e : Expr} {pos : Pos} {m : ME} (he : PE X e (LE k W m)) (hs : swapsWith e none pos.line X.env = pure false := by rfl) : PS X (.Expr e pos) (LS k W (sDrop m)) := (ps_expr he hs).cq fun _ _ _ h => ls_drop h
theorem ds_ret {e : Expr} {pos : Pos} {m : ME} (he : PE X e (LE k W m)) : PS X (.Return (some e) pos) (LS k W (sRet m)) := (ps_ret he).cq fun _ _ _ h => ls_ret h
theorem ds_if {c : Expr} {a b : List Stmt} {pos : Pos} {t : MT} {m n : MS} (hc : PT X c (LT k W t)) (ha : PSs X a (LS k W m)) (hb : PSs X b (LS k W n)) : PS X (.If c a b pos) (LS k W (sIf t m n)) := (ps_if hc ha hb).cq fun _ _ _ h => ls_if h
theorem ds_never {st : Stmt} : PS X st (LS k W sNever) := ps_never.cq fun E σ H h => by
  obtain ⟨A, F, C, s, h⟩ := h
  exact h.elim
end
/-! ### targets -/
abbrev MG := D → List (Option D) → Option (List (Option D))
def gN (i : Nat) : MG := fun d sl => some (sl.set i (some d))
def setAll : List Nat → List D → List (Option D) → Option (List (Option D))
  | [], [], sl => some sl
  | i :: is, d :: ds, sl => setAll is ds (sl.set i (some d))
  | _, _, _ => none
def gT (is : List Nat) : MG := fun d sl => (vT d).bind fun ds => setAll is ds sl
def gsN : List Nat → TGs
  | [] => gNil
  | i :: is => gCons (gName i) (gsN is)
section
variable {X : Cx} {k : Cn}
theorem setAll_len : ∀ {is : List Nat} {ds : List D} {sl sl' : List (Option D)}, setAll is ds sl = some sl' → ds.length = is.length
  | [], [], _, _, _ => rfl
  | _ :: is, _ :: ds, _, _, h => by
    have := setAll_len (is := is) (ds := ds) h
    simp [this]
  | [], _ :: _, _, _, h => by cases h
  | _ :: _, [], _, _, h => by cases h
theorem _root_.L2.PG.cq {X : Cx} {e : Expr} {t t' : TG} (h : PG X e t) (c : ∀ v σ H Q, t' v σ H Q → t v σ H Q) : PG X e t' := ⟨fun pins s σ H v u Q I r q => h.run pins s σ H v u Q I r (c v σ H Q q)⟩
end
end CT
set_option maxHeartbeats 4000000
/-! DL5: stores, loops over data. -/
namespace CT
open PySem L2
section
variable {X : Cx} {k : Cn} {W : WX} {E : Ends} {σ : L2.St} {H : Hp}
/-! ### assignments -/
def sAsg (m : ME) (g : MG) : MS := fun F C => bndS F.sl (m F C) fun d C1 => match g d F.sl with
  | some sl => .nx sl C1
  | none => .stuck
theorem ls_set {m : ME} {i : Nat} (h : LS k W (sAsg m (gN i)) E σ H) : tAsg (LE k W m) (gName i) E σ H := by
  obtain ⟨A, F, C, s, h⟩ := h
  exact ⟨A, F, C, s, (AftS.bnd (rel := RepD k) s h).mono fun d C1 A1 H1 v p st r h1 => h1 A1 _ H1 Stp.refl ((s.step p st).set r)⟩
theorem ds_set {i : Nat} {x : Str} {e : Expr} {pos pos' : Pos} {m : ME} (hN : X.N.Nodup) (hi : X.N[i]? = some x) (hx : Loc X.env.scope x) (he : PE X e (LE k W m)) (hs : swapsWith e (some (.Name x pos')) pos.line X.env = pure false := by rfl) (hf : X.fn x = true ∨ X.env.scope.names.lookup x = some .local := by first | exact .inl rfl | exact .inr rfl | assumption) :
    PS X (.Assign [.Name x pos'] e pos) (LS k W (sAsg m (gN i))) := (ps_set hN hi hx he hs hf).cq fun _ _ _ h => ls_set h
/-- a, b = x, y of plain local names -/
def sPar (is : List Nat) (m : MA) : MS := fun F C => bndS F.sl (m F C) fun ds C1 => match setAll is ds F.sl with
  | some sl => .nx sl C1
  | none => .stuck
theorem ls_par {i j : Nat} {m : MA} (h : LS k W (sPar [i, j] m) E σ H) : tPar i j (LA k W m) E σ H := by
  obtain ⟨A, F, C, s, h⟩ := h
  refine ⟨A, F, C, s, (AftS.bnd (rel := RepDs k) s h).mono fun d C1 A1 H1 vs p st r h1 => ?_⟩
  cases r with
  | nil => exact h1.elim
  | cons r1 t1 =>
    cases t1 with
    | nil => exact h1.elim
    | cons r2 t2 =>
      cases t2 with
      | nil => exact ⟨_, _, rfl, h1 A1 _ H1 Stp.refl (((s.step p st).set r1).set r2)⟩
      | cons r3 t3 => exact h1.elim
theorem ds_par {i j : Nat} {x y : Str} {a b : Expr} {px py pt pos : Pos} {kt k2 pt2} {m : MA} (hc : X.calm = true) (hN : X.N.Nodup) (hi : X.N[i]? = some x) (hj : X.N[j]? = some y) (hij : i ≠ j)
    (hx : X.env.scope.names.lookup x = some .local) (hy : X.env.scope.names.lookup y = some .local) (ha : PA X [a, b] (LA k W m))
    (hw : swappedStores [.Tuple [.Name x px, .Name y py] kt pt] (.Tuple [a, b] k2 pt2) X.env = pure (some [x, y]) := by rfl)
    (hs : swapsWithSole [.Tuple [.Name x px, .Name y py] kt pt] (.Tuple [a, b] k2 pt2) pos.line X.env = pure false := by rfl) :
    PS X (.Assign [.Tuple [.Name x px, .Name y py] kt pt] (.Tuple [a, b] k2 pt2) pos) (LS k W (sPar [i, j] m)) := (ps_par hc hN hi hj hij hx hy ha hw hs).cq fun _ _ _ h => ls_par h
/-- x += e of ints -/
def sAug (i : Nat) (o : Int → Int → Int) (m : ME) : MS := fun F C => match F.sl[i]? with
  | some (some (.int a)) => bndS F.sl (m F C) fun d C1 => match d with
    | .int b => .nx (F.sl.set i (some (.int (o a b)))) C1
    | _ => .stuck
  | _ => .stuck
theorem ls_aug {i : Nat} {o : Int → Int → Int} {m : ME} (h : LS k W (sAug i o m) E σ H) : tAug i (LE k W m) (ipI o) E σ H := by
  obtain ⟨A, F, C, s, h⟩ := h
  unfold sAug at h
  split at h
  · rename_i a e
    obtain ⟨v, h1, h2⟩ := s.sl i _ e
    cases h2
    refine ⟨_, h1, A, F, C, s, (AftS.bnd (rel := RepD k) s h).mono fun d C1 A1 H1 v p st r h3 => ?_⟩
    cases r with
    | int b => exact ⟨a, b, rfl, rfl, h3 A1 _ H1 Stp.refl ((s.step p st).set (.int _))⟩
    | _ => exact h3.elim
  · exact h.elim
theorem ds_aug {i : Nat} {x : Str} {e : Expr} {op : Operator} {o : Int → Int → Int} {pos pos' : Pos} {m : ME} (hN : X.N.Nodup) (hi : X.N[i]? = some x) (hx : Loc X.env.scope x) (he : PE X e (LE k W m)) (ho : PIp X op (ipI o)) (hf : X.fn x = true ∨ X.env.scope.names.lookup x = some .local := by first | exact .inl rfl | exact .inr rfl | assumption) :
    PS X (.AugAssign (.Name x pos') op e pos) (LS k W (sAug i o m)) := (ps_aug hN hi hx he ho hf).cq fun _ _ _ h => ls_aug h
end
/-! ### cells written -/
/-- the cell is written with c: below the floor c names no cells -/
def wr (fl : Nat) (i : Nat) (c : Cell) (C : Store) : Option Store := if i < fl ∧ cbC 0 c = false then none else some (C.set i (some c))
theorem wr_some {fl i : Nat} {c : Cell} {C C' : Store} (h : wr fl i c C = some C') : C' = C.set i (some c) ∧ (i < fl → cbC 0 c = true) := by
  unfold wr at h
  split at h
  · cases h
  · rename_i hn
    cases h
    refine ⟨rfl, fun hi => ?_⟩
    cases e : cbC 0 c with
    | true => rfl
    | false => exact absurd ⟨hi, e⟩ hn
section
variable {k : Cn} {A : Nat → Addr} {C C' : Store} {H : Hp} {fl i : Nat}
theorem write_L {c0 : Cell} {ds : List D} {vs : List V} (st : StOk k A C H) (hi : C[i]? = some (some c0)) (r : RepL k A C H vs ds) (h : wr fl i (.lst ds) C = some C') :
    Stp k fl A C H A C' (upd H (A i) (.lst vs)) ∧ StOk k A C' (upd H (A i) (.lst vs)) := by
  obtain ⟨rfl, hc⟩ := wr_some h
  have q : Kp A C H A (C.set i (some (.lst ds))) (upd H (A i) (.lst vs)) := kp_write hi
  exact ⟨q.stp fun f h1 h2 l => low_set hc h1 l, st.write hi ⟨vs, upd_same, r.kp q⟩⟩
end
/-- the list cell's place and items -/
def cL (d : D) (C : Store) : Option (Nat × List D) := match d with
  | .cell i => match C[i]? with
    | some (some (.lst xs)) => some (i, xs)
    | _ => none
  | _ => none
section
variable {k : Cn} {A : Nat → Addr} {C : Store} {H : Hp} {v : V} {d : D} {i : Nat}
theorem cL_at {ds : List D} (st : StOk k A C H) (r : Rep k A C H v d) (e : cL d C = some (i, ds)) : d = .cell i ∧ v = .ref (A i) ∧ C[i]? = some (some (.lst ds)) ∧ ∃ vs, H (A i) = some (.lst vs) ∧ RepL k A C H vs ds := by
  cases r with
  | cell hi =>
    simp only [cL] at e
    split at e
    · rename_i xs ec
      cases e
      exact ⟨rfl, rfl, ec, st.at_ i _ ec⟩
    · cases e
  | _ => cases e
end
/-- xs[i] = e -/
def sSetL (me mo mi : ME) : MS := fun F C => bndS F.sl (me F C) fun v C1 => bndS F.sl (mo F C1) fun o C2 => bndS F.sl (mi F C2) fun x C3 => match x, cL o C3 with
  | .int n, some (i, ds) => match ixN ds.length n with
    | some j => match wr F.fl i (.lst (ds.set j v)) C3 with
      | some C4 => .nx F.sl C4
      | none => .stuck
    | none => .stuck
  | _, _ => .stuck
section
variable {X : Cx} {k : Cn} {W : WX} {E : Ends} {σ : L2.St} {H : Hp}
theorem ls_setL {me mo mi : ME} (h : LS k W (sSetL me mo mi) E σ H) : tAsg (LE k W me) (gSub (LE k W mo) (LE k W mi) rSetL) E σ H := by
  obtain ⟨A, F, C, s, h⟩ := h
  refine ⟨A, F, C, s, (AftS.bnd (rel := RepD k) s h).mono fun dv C1 A1 H1 v p1 st1 rv h1 => ?_⟩
  have s1 := s.step p1 st1
  refine ⟨A1, F, C1, s1, (AftS.bnd (rel := RepD k) s1 h1).mono fun dO C2 A2 H2 o p2 st2 ro h2 => ?_⟩
  have s2 := s1.step p2 st2
  refine ⟨A2, F, C2, s2, (AftS.bnd (rel := RepD k) s2 h2).mono fun dx C3 A3 H3 x p3 st3 rx h3 => ?_⟩
  have s3 := s2.step p3 st3
  cases rx with
  | int n =>
    cases ec : cL dO C3 with
    | none => simp only [ec] at h3; exact h3.elim
    | some q =>
      obtain ⟨i, ds⟩ := q
      simp only [ec] at h3
      obtain ⟨rfl, rfl, hi, vs, hv, rvs⟩ := cL_at st3 (p3.rep _ _ ro) ec
      cases ej : ixN ds.length n with
      | none => simp only [ej] at h3; exact h3.elim
      | some j =>
        simp only [ej] at h3
        cases ew : wr F.fl i (.lst (ds.set j dv)) C3 with
        | none => simp only [ew] at h3; exact h3.elim
        | some C4 =>
          simp only [ew] at h3
          obtain ⟨q1, q2⟩ := write_L st3 hi (rvs.set (p3.rep _ _ (p2.rep _ _ rv)) j) ew
          exact ⟨A3 i, vs, n, j, rfl, rfl, hv, by rw [rvs.length]; exact ej, h3 A3 σ _ q1 (s3.step q1 q2)⟩
  | _ => exact h3.elim
theorem ds_setL {o i e : Expr} {pos pos' : Pos} {me mo mi : ME} (he : PE X e (LE k W me)) (hg : PG X (.Subscript o i pos') (gSub (LE k W mo) (LE k W mi) rSetL))
    (hs : swapsWithSole [.Subscript o i pos'] e pos.line X.env = pure false := by rfl) (hw : swappedStores [.Subscript o i pos'] e X.env = pure none := by rfl) (h1 : (assignEach [.Subscript o i pos'] X.env).map (·.2) = [assign (.Subscript o i pos') X.env] := by rfl) :
    PS X (.Assign [.Subscript o i pos'] e pos) (LS k W (sSetL me mo mi)) := (ps_asg he hg hs hw h1).cq fun _ _ _ h => ls_setL h
end
/-! ### list methods that write -/
def mAppend (mo me : ME) : ME := fun F C => bnd (mo F C) fun o C1 => if (vL o C1).isSome = true then bnd (me F C1) fun v C2 => match cL o C2 with
    | some (i, ds) => if szN (ds.length + 1) = true then match wr F.fl i (.lst (ds ++ [v])) C2 with
      | some C3 => .ok .non C3
      | none => .stuck
      else .stuck
    | none => .stuck
  else .stuck
def mExtend (mo me : ME) : ME := fun F C => bnd (mo F C) fun o C1 => if (vL o C1).isSome = true then bnd (me F C1) fun v C2 => match cL o C2, vL v C2 with
    | some (i, ds), some es => if szN (ds.length + es.length) = true then match wr F.fl i (.lst (ds ++ es)) C2 with
      | some C3 => .ok .non C3
      | none => .stuck
      else .stuck
    | _, _ => .stuck
  else .stuck
section
variable {X : Cx} {k : Cn} {W : WX} {σ : L2.St} {H : Hp} {Q : VK}
theorem tyL {A : Nat → Addr} {C : Store} {v : V} {d : D} (st : StOk k A C H) (r : Rep k A C H v d) (h : (vL d C).isSome = true) : tyV k.K "list" v H := by
  obtain ⟨xs, e⟩ := Option.isSome_iff_exists.mp h
  obtain ⟨a, vs, rfl, ha, _⟩ := vL_at st r e
  exact Or.inl ⟨rfl, vs, .inl (.inl ha)⟩
theorem le_append {mo me : ME} (h : LE k W (mAppend mo me) σ H Q) : tBM k.K "list" rAppend (LE k W mo) (tCons (LE k W me) tNil) σ H Q := by
  obtain ⟨A, F, C, s, h⟩ := h
  refine ⟨A, F, C, s, (Aft.bnd (rel := RepD k) h).mono fun dO C1 A1 H1 o p1 st1 ro h1 => ?_⟩
  have s1 := s.step p1 st1
  split at h1
  · rename_i hs
    refine ⟨tyL st1 ro hs, A1, F, C1, s1, (Aft.bnd (rel := RepD k) h1).mono fun dv C2 A2 H2 v p2 st2 rv h2 => ?_⟩
    cases ec : cL dO C2 with
    | none => simp only [ec] at h2; exact h2.elim
    | some q =>
      obtain ⟨i, ds⟩ := q
      simp only [ec] at h2
      obtain ⟨rfl, rfl, hi, vs, hv, rvs⟩ := cL_at st2 (p2.rep _ _ ro) ec
      split at h2
      · rename_i hz
        cases ew : wr F.fl i (.lst (ds ++ [dv])) C2 with
        | none => simp only [ew] at h2; exact h2.elim
        | some C3 =>
          simp only [ew] at h2
          obtain ⟨q1, q2⟩ := write_L st2 hi (rvs.append (.cons rv .nil)) ew
          exact ⟨A2 i, vs, v, rfl, rfl, hv, by have := szN_le hz; rw [rvs.length]; omega, h2 A2 _ .non q1 q2 .non⟩
      · exact h2.elim
  · exact h1.elim
theorem le_extend {mo me : ME} (h : LE k W (mExtend mo me) σ H Q) : tBM k.K "list" rExtend (LE k W mo) (tCons (LE k W me) tNil) σ H Q := by
  obtain ⟨A, F, C, s, h⟩ := h
  refine ⟨A, F, C, s, (Aft.bnd (rel := RepD k) h).mono fun dO C1 A1 H1 o p1 st1 ro h1 => ?_⟩
  have s1 := s.step p1 st1
  split at h1
  · rename_i hs
    refine ⟨tyL st1 ro hs, A1, F, C1, s1, (Aft.bnd (rel := RepD k) h1).mono fun dv C2 A2 H2 v p2 st2 rv h2 => ?_⟩
    cases ec : cL dO C2 with
    | none => simp only [ec] at h2; exact h2.elim
    | some q =>
      obtain ⟨i, ds⟩ := q
      cases el : vL dv C2 with
      | none => simp only [ec, el] at h2; exact h2.elim
      | some es =>
        simp only [ec, el] at h2
        obtain ⟨rfl, rfl, hi, vs, hv, rvs⟩ := cL_at st2 (p2.rep _ _ ro) ec
        obtain ⟨b, ws, rfl, hb, rws⟩ := vL_at st2 rv el
        split at h2
        · rename_i hz
          cases ew : wr F.fl i (.lst (ds ++ es)) C2 with
          | none => simp only [ew] at h2; exact h2.elim
          | some C3 =>
            simp only [ew] at h2
            obtain ⟨q1, q2⟩ := write_L st2 hi (rvs.append rws) ew
            exact ⟨A2 i, b, vs, ws, rfl, rfl, hv, hb, by have := szN_le hz; rw [rvs.length, rws.length]; omega, h2 A2 _ .non q1 q2 .non⟩
        · exact h2.elim
  · exact h1.elim
variable {o e e2 : Expr} {apos cpos : Pos} {mo me mi : ME}
theorem de_append (hK : X.K = k.K := by rfl) (ho : PE X o (LE k W mo)) (he : PE X e (LE k W me)) (hs : starEach [e] X.env = (false, eval e X.env) :: starEach [] X.env := by rfl) (hbase : attributeBase o "append" X.env (eval o X.env) = eval o X.env := by rfl)
    (hfew : ((backTo cpos (starEach [e] X.env)).all (fun x => !x.1) && (backToKw cpos (keywordEach [] X.env)).all (fun x => x.1.isSome) && decide ([e].length + ([] : List Keyword).length + (if ([] : List Keyword).isEmpty then 0 else 1) < 30)) = true := by rfl)
    (hline : (apos.endLine == cpos.line) = true := by rfl) (hplain : (backTo cpos (starEach [] X.env)).any (·.1) = false := by rfl) : PE X (.Call (.Attribute o "append" apos) [e] [] cpos) (LE k W (mAppend mo me)) :=
  (pe_bm PySem.F.plainAttrs_list PySem.F.slot_list_append PySem.F.type_list_append mt_append ho (pa_cons he pa_nil hs) hbase hfew hline hs hplain).cq fun _ _ _ h => by
    rw [hK]
    exact le_append h
theorem de_extend (hK : X.K = k.K := by rfl) (ho : PE X o (LE k W mo)) (he : PE X e (LE k W me)) (hs : starEach [e] X.env = (false, eval e X.env) :: starEach [] X.env := by rfl) (hbase : attributeBase o "extend" X.env (eval o X.env) = eval o X.env := by rfl)
    (hfew : ((backTo cpos (starEach [e] X.env)).all (fun x => !x.1) && (backToKw cpos (keywordEach [] X.env)).all (fun x => x.1.isSome) && decide ([e].length + ([] : List Keyword).length + (if ([] : List Keyword).isEmpty then 0 else 1) < 30)) = true := by rfl)
    (hline : (apos.endLine == cpos.line) = true := by rfl) (hplain : (backTo cpos (starEach [] X.env)).any (·.1) = false := by rfl) : PE X (.Call (.Attribute o "extend" apos) [e] [] cpos) (LE k W (mExtend mo me)) :=
  (pe_bm PySem.F.plainAttrs_list PySem.F.slot_list_extend PySem.F.type_list_extend mt_extend ho (pa_cons he pa_nil hs) hbase hfew hline hs hplain).cq fun _ _ _ h => by
    rw [hK]
    exact le_extend h
end
end CT
set_option maxHeartbeats 4000000
/-! DL6: targets, loops, comprehensions over data. -/
namespace CT
open PySem L2
/-! ### targets of names -/
inductive Tgt where
  | nm (i : Nat) | tp (is : List Nat)
def Tgt.M : Tgt → MG
  | .nm i => gN i
  | .tp is => gT is
def Tgt.T (K : PySem.W.Frag) : Tgt → TG
  | .nm i => gName i
  | .tp is => gTup K is.length (gsN is)
def Tgt.slots : Tgt → List Nat
  | .nm i => [i]
  | .tp is => is
theorem wipe_get {σ : L2.St} {j : Nat} : ∀ {vs : List Nat}, (wipe σ vs)[j]? = if j ∈ vs then (if j < σ.length then some none else none) else σ[j]?
  | [] => by simp [wipe]
  | v :: vs => by
    unfold wipe
    have ih := wipe_get (σ := σ) (j := j) (vs := vs)
    by_cases e : v = j
    · subst e
      by_cases hl : v < σ.length
      · rw [List.getElem?_set_self (by rw [wipe_length]; exact hl), if_pos (by simp), if_pos hl]
      · rw [List.getElem?_eq_none (by rw [List.length_set, wipe_length]; omega), if_pos (by simp), if_neg hl]
    · rw [List.getElem?_set_ne e, ih]
      by_cases hj : j ∈ vs
      · rw [if_pos hj, if_pos (List.mem_cons_of_mem _ hj)]
      · rw [if_neg hj, if_neg (by simp; exact ⟨fun z => e z.symm, hj⟩)]
theorem wipe_set {σ : L2.St} {i : Nat} {x : Option V} {vs : List Nat} (h : i ∈ vs) : wipe (σ.set i x) vs = wipe σ vs := by
  apply List.ext_getElem?
  intro j
  rw [wipe_get, wipe_get, List.length_set]
  by_cases hj : j ∈ vs
  · rw [if_pos hj, if_pos hj]
  · rw [if_neg hj, if_neg hj, List.getElem?_set_ne (fun (e : i = j) => hj (by rw [← e]; exact h))]
theorem wipe_wipe {σ : L2.St} {vs : List Nat} : wipe (wipe σ vs) vs = wipe σ vs := by
  apply List.ext_getElem?
  intro j
  rw [wipe_get, wipe_length]
  by_cases hj : j ∈ vs
  · rw [if_pos hj, wipe_get, if_pos hj]
  · rw [if_neg hj]
def wipeD (sl : List (Option D)) : List Nat → List (Option D)
  | [] => sl
  | v :: vs => (wipeD sl vs).set v none
section
variable {k : Cn} {A : Nat → Addr} {F : Fr} {C : Store} {σ : L2.St} {H : Hp} {fl : Nat} {sl : List (Option D)}
theorem SR.wipe (s : SR k A ⟨fl, sl⟩ C σ H) : ∀ vs : List Nat, SR k A ⟨fl, wipeD sl vs⟩ C (L2.wipe σ vs) H
  | [] => s
  | v :: vs => (SR.wipe s vs).unset
theorem gsN_of2 {Q : L2.St → Hp → Prop} {vs0 : List Nat} : ∀ {is : List Nat} {vs : List V} {ds : List D} {sl sl' : List (Option D)} {σ : L2.St}, SR k A ⟨fl, sl⟩ C σ H → RepL k A C H vs ds → setAll is ds sl = some sl' →
    (∀ σ', SR k A ⟨fl, sl'⟩ C σ' H → ((∀ i ∈ is, i ∈ vs0) → L2.wipe σ' vs0 = L2.wipe σ vs0) → Q σ' H) → gsN is vs σ H Q
  | [], _, _, _, _, _, s, .nil, e, q => by
    cases e
    exact ⟨rfl, q _ s fun _ => rfl⟩
  | i :: is, _, _, _, _, _, s, .cons r t, e, q => by
    refine ⟨_, _, rfl, gsN_of2 (vs0 := vs0) (is := is) (s.set (i := i) r) t e fun σ' s' w => q σ' s' fun hi => ?_⟩
    rw [w fun j hj => hi j (List.mem_cons_of_mem _ hj)]
    exact wipe_set (hi i (List.mem_cons_self ..))
  | [], _, _, _, _, _, s, .cons r t, e, q => by cases e
  | i :: is, _, _, _, _, _, s, .nil, e, q => by cases e
theorem Tgt.of {t : Tgt} {v : V} {d : D} {sl' : List (Option D)} {Q : L2.St → Hp → Prop} {vs0 : List Nat} (s : SR k A ⟨fl, sl⟩ C σ H) (r : Rep k A C H v d) (e : t.M d sl = some sl')
    (q : ∀ σ', SR k A ⟨fl, sl'⟩ C σ' H → ((∀ i ∈ t.slots, i ∈ vs0) → L2.wipe σ' vs0 = L2.wipe σ vs0) → Q σ' H) : t.T k.K v σ H Q := by
  cases t with
  | nm i =>
    cases e
    exact q _ (s.set r) fun hi => wipe_set (hi i (by simp [Tgt.slots]))
  | tp is =>
    simp only [Tgt.M, gT] at e
    cases ev : vT d with
    | none => rw [ev] at e; cases e
    | some ds =>
      rw [ev] at e
      obtain ⟨a, vs, rfl, hs, rl⟩ := vT_at r ev
      exact ⟨a, vs, rfl, hs, by rw [rl.length, setAll_len e], gsN_of2 (vs0 := vs0) s rl e q⟩
end
section
variable {X : Cx} {k : Cn} {W : WX} {E : Ends} {σ : L2.St} {H : Hp}
theorem tg_nm {i : Nat} {x : Str} {pos : Pos} (hN : X.N.Nodup) (hi : X.N[i]? = some x) (hx : Loc X.env.scope x) (hf : X.fn x = true ∨ X.env.scope.names.lookup x = some .local := by first | exact .inl rfl | exact .inr rfl | assumption) : PG X (.Name x pos) (Tgt.T k.K (.nm i)) := pg_name hN hi hx hf
theorem tg_tp {es : List Expr} {kk : Nat} {pos : Pos} (is : List Nat) (hK : X.K = k.K) (hc : X.calm = true) (h : PGs X es (gsN is)) (hn : (assignEach es X.env).length = is.length := by rfl) (hst : (assignEach es X.env).findIdx? (·.1) = none := by rfl) :
    PG X (.Tuple es kk pos) (Tgt.T k.K (.tp is)) := by
  have h' := pg_tup (k := kk) (pos := pos) hc h hn hst
  rw [hK] at h'
  exact h'
end
/-! ### what is walked -/
structure ItD where
  n : Nat
  item : Nat → Store → Option D
  fin : Store → Bool
def ItOk (k : Cn) (fl : Nat) (J : It) (it : ItD) (A : Nat → Addr) (C : Store) (H : Hp) : Prop := ∀ A' C' H', Stp k fl A C H A' C' H' → StOk k A' C' H' →
  (∀ j d, j < it.n → it.item j C' = some d → J.go j H' ∧ ∀ x H'', J.yld j H' x H'' → ∃ A'', Stp k fl A' C' H' A'' C' H'' ∧ StOk k A'' C' H'' ∧ Rep k A'' C' H'' x d) ∧ (it.fin C' = true → J.stop it.n H')
abbrev MI := Fr → Store → R ItD
def LI (k : Cn) (W : WX) (m : MI) : TI := fun σ H Rr => ∃ A F C, SR k A F C σ H ∧ Aft k F.fl A C H (fun A C H (J : It) (it : ItD) => ItOk k F.fl J it A C H) (m F C) (fun _ _ _ H' J => Rr J H') (fun c d H' => W c d σ H')
/-! ### for -/
def loopN (it : ItD) (g : MG) (body : MS) (fl : Nat) : Nat → Nat → List (Option D) → Store → RS
  | 0, _, sl, C => if it.fin C = true then .nx sl C else .stuck
  | r + 1, j, sl, C => match it.item j C with
    | none => .stuck
    | some d => match g d sl with
      | none => .stuck
      | some sl1 => match body ⟨fl, sl1⟩ C with
        | .nx sl2 C2 => loopN it g body fl r (j + 1) sl2 C2
        | .ct sl2 C2 => loopN it g body fl r (j + 1) sl2 C2
        | .bk sl2 C2 => .nx sl2 C2
        | .rt d C2 => .rt d C2
        | .xc e sl2 C2 => .xc e sl2 C2
        | .stuck => .stuck
def sFor (mi : MI) (g : MG) (body : MS) : MS := fun F C => bndS F.sl (mi F C) fun it C1 => loopN it g body F.fl it.n 0 F.sl C1
section
variable {X : Cx} {k : Cn} {W : WX} {E : Ends} {σ : L2.St} {H : Hp}
theorem ls_for {mi : MI} {t : Tgt} {body : MS} (h : LS k W (sFor mi t.M body) E σ H) : tFor (LI k W mi) (t.T k.K) (LS k W body) E σ H := by
  obtain ⟨A, F, C, s, h⟩ := h
  refine ⟨A, F, C, s, (AftS.bnd (rel := fun A C H (J : It) (it : ItD) => ItOk k F.fl J it A C H) s h).mono fun it C1 A1 H1 J p1 st1 ok h1 => ?_⟩
  refine ⟨fun i m σ' H' => ∃ A' C' sl, m = it.n - i ∧ i ≤ it.n ∧ Stp k F.fl A1 C1 H1 A' C' H' ∧ SR k A' ⟨F.fl, sl⟩ C' σ' H' ∧ AftS k W F.fl A' C' H' (loopN it t.M body F.fl (it.n - i) i sl C') E,
    ⟨it.n, A1, C1, F.sl, rfl, Nat.zero_le _, Stp.refl, s.step p1 st1, h1⟩, ?_⟩
  rintro i m σ' H' ⟨A', C', sl, rfl, hi, p, s', h'⟩
  obtain ⟨o1, o2⟩ := ok A' C' H' p s'.st
  cases er : it.n - i with
  | zero =>
    rw [er] at h'
    unfold loopN at h'
    have e : i = it.n := by omega
    split at h'
    · rename_i hf
      subst e
      exact .inl ⟨o2 hf, h' A' σ' H' Stp.refl s'⟩
    · exact h'.elim
  | succ r =>
    rw [er] at h'
    unfold loopN at h'
    have hlt : i < it.n := by omega
    cases ei : it.item i C' with
    | none => simp only [ei] at h'; exact h'.elim
    | some d =>
      simp only [ei] at h'
      obtain ⟨g1, g2⟩ := o1 i d hlt ei
      cases eg : t.M d sl with
      | none => simp only [eg] at h'; exact h'.elim
      | some sl1 =>
        simp only [eg] at h'
        refine .inr ⟨g1, fun σ2 H2 => ∃ A2 C2 sl2, i + 1 ≤ it.n ∧ Stp k F.fl A1 C1 H1 A2 C2 H2 ∧ SR k A2 ⟨F.fl, sl2⟩ C2 σ2 H2 ∧ AftS k W F.fl A2 C2 H2 (loopN it t.M body F.fl (it.n - (i + 1)) (i + 1) sl2 C2) E,
          fun σ2 H2 ⟨A2, C2, sl2, a, b, c, d⟩ => ⟨it.n - (i + 1), by omega, A2, C2, sl2, rfl, a, b, c, d⟩, fun x H'' y => ?_⟩
        obtain ⟨A'', p2, st2, rx⟩ := g2 x H'' y
        have s2 := s'.step p2 st2
        refine Tgt.of (vs0 := []) s2 rx eg fun σ2 s3 _ => ⟨A'', ⟨F.fl, sl1⟩, C', s3, ?_⟩
        have hr : it.n - (i + 1) = r := by omega
        cases eb : body ⟨F.fl, sl1⟩ C' with
        | nx sl2 C2 =>
          simp only [eb] at h'
          intro A3 σ3 H3 p3 s4
          have pp := p2.trans p3
          exact ⟨A3, C2, sl2, by omega, p.trans pp, s4, by rw [hr]; exact h'.shift pp⟩
        | ct sl2 C2 =>
          simp only [eb] at h'
          intro A3 σ3 H3 p3 s4
          have pp := p2.trans p3
          exact ⟨A3, C2, sl2, by omega, p.trans pp, s4, by rw [hr]; exact h'.shift pp⟩
        | bk sl2 C2 =>
          simp only [eb] at h'
          exact fun A3 σ3 H3 p3 s4 => h' A3 σ3 H3 (p2.trans p3) s4
        | rt d C2 =>
          simp only [eb] at h'
          exact fun A3 H3 v p3 st r => h' A3 H3 v (p2.trans p3) st r
        | xc e sl2 C2 =>
          simp only [eb] at h'
          exact fun A3 σ3 H3 dd vs p3 s4 x l r => h' A3 σ3 H3 dd vs (p2.trans p3) s4 x l r
        | stuck =>
          simp only [eb] at h'
          exact h'.elim
theorem _root_.L2.PI.cq {X : Cx} {tg e : Expr} {t t' : TI} (h : PI X tg e t) (c : ∀ σ H R, t' σ H R → t σ H R) : PI X tg e t' := ⟨fun pins s σ H R I q => h.run pins s σ H R I (c σ H R q)⟩
end
/-! ### list comprehensions -/
def bn0 {α β : Type} (m : R α) (f : α → Store → R β) : R β := match m with
  | .ok a C => f a C
  | _ => .stuck
@[simp] theorem bn0_ok {α β : Type} (a : α) (C : Store) (f : α → Store → R β) : bn0 (.ok a C) f = f a C := rfl
def lcN (it : ItD) (g : MG) (tt : MT) (te : ME) (n : Nat) (sl : List (Option D)) : Nat → Nat → Store → R Unit
  | 0, _, C => if it.fin C = true then .ok () C else .stuck
  | r + 1, j, C => match it.item j C with
    | none => .stuck
    | some d => match g d sl with
      | none => .stuck
      | some sl1 => bn0 (tt ⟨n, sl1⟩ C) fun b C1 => if b = true then bn0 (te ⟨n, sl1⟩ C1) fun y C2 => match C2[n]? with
          | some (some (.lst acc)) => if szN (acc.length + 1) = true then lcN it g tt te n sl r (j + 1) (C2.set n (some (.lst (acc ++ [y])))) else .stuck
          | _ => .stuck
        else lcN it g tt te n sl r (j + 1) C1
/-- behind the loop: an own list; or plain data, the cell forgotten -/
def lcEnd (own : Bool) (n : Nat) (C : Store) : R D := if own = true then .ok (.cell n) C else match C[n]? with
  | some (some (.lst acc)) => if cbL n acc = true then .ok (.lst acc) (C.take n) else .stuck
  | _ => .stuck
def mLc (own : Bool) (mi : MI) (g : MG) (tt : MT) (te : ME) (vs : List Nat) : ME := fun F C => bnd (mi F C) fun it C1 => bn0 (lcN it g tt te C1.length (wipeD F.sl vs) it.n 0 (C1 ++ [some (.lst [])])) fun _ C2 => lcEnd own C1.length C2
abbrev WF : WX := fun _ _ _ _ => False
section
variable {X : Cx} {k : Cn} {W : WX} {σ : L2.St} {H : Hp} {Q : VK}
/-- the list cell becomes plain data -/
theorem fz_end {fl n : Nat} {A A' : Nat → Addr} {C C' : Store} {H H' : Hp} {p : Addr} {acc : List D} (hn : n = C.length) (st0 : StOk k A C H) (st : StOk k A' C' H') (s : Stp k fl A C H A' C' H') (hf : fl ≤ n) (hl : n ≤ C'.length) (low : LowC n C') (ha : A' n = p) (hc : C'[n]? = some (some (.lst acc))) (hcb : cbL n acc = true) :
    Stp k fl A C H A' (C'.take n) H' ∧ StOk k A' (C'.take n) H' ∧ Rep k A' (C'.take n) H' (.ref p) (.lst acc) := by
  obtain ⟨vs, hv, rv⟩ := st.at_ n _ hc
  have tl : (C'.take n).length = n := by rw [List.length_take]; omega
  refine ⟨⟨fun v d r => (s.rep v d r).cut hl (by rw [hn]; exact r.cb), by rw [tl, hn]; exact Nat.le_refl _, fun f h1 h2 l => low_take (s.low f h1 h2 l)⟩, st.take hl low, ?_⟩
  rw [← ha]
  refine .lst (fun l => ?_) hv (rv.cut hl hcb)
  obtain ⟨i, c, e, z⟩ := l
  by_cases hi : i < n
  · rw [List.getElem?_take_of_lt hi] at e
    exact absurd (st.inj i n _ _ e hc z) (Nat.ne_of_lt hi)
  · rw [List.getElem?_eq_none (by rw [tl]; omega)] at e
    cases e
/-- the new list: at D, the cell n -/
theorem cell_at {A A' : Nat → Addr} {C C' : Store} {H H' : Hp} {fl n : Nat} {p : Addr} (s : Stp k fl A C H A' C' H') (h : A n = p) (hn : n < C.length) : A' n = p ∧ n < C'.length := by
  have r : Rep k A C H (.ref (A n)) (.cell n) := .cell hn
  have r' := s.rep _ _ r
  rw [h] at r'
  have inv : ∀ {v : V} {d : D}, Rep k A' C' H' v d → v = .ref p → d = .cell n → A' n = p ∧ n < C'.length := by
    intro v d r hv hd
    cases r with
    | cell hi => cases hd; cases hv; exact ⟨rfl, hi⟩
    | _ => cases hd
  exact inv r' rfl rfl
theorem push_L {A : Nat → Addr} {C : Store} {H : Hp} {fl n : Nat} {p : Addr} {acc : List D} {y : D} {v : V} {ws : List V} (hf : fl ≤ n) (st : StOk k A C H) (ha : A n = p) (hc : C[n]? = some (some (.lst acc))) (hw : H p = some (.lst ws)) (r : Rep k A C H v y) :
    Stp k fl A C H A (C.set n (some (.lst (acc ++ [y])))) (upd H p (.lst (ws ++ [v]))) ∧ StOk k A (C.set n (some (.lst (acc ++ [y])))) (upd H p (.lst (ws ++ [v]))) := by
  obtain ⟨vs, hv, rv⟩ := st.at_ n _ hc
  rw [ha, hw] at hv
  cases hv
  have q : Kp A C H A (C.set n (some (.lst (acc ++ [y])))) (upd H (A n) (.lst (ws ++ [v]))) := kp_write hc
  rw [← ha]
  exact ⟨q.stp fun f h1 h2 l => low_set (fl := fl) (fun hi => absurd hi (Nat.not_lt.mpr hf)) h1 l, st.write hc ⟨_, upd_same, (rv.append (.cons r .nil)).kp q⟩⟩
theorem bn0_inv {fl : Nat} {A : Nat → Addr} {C : Store} {H : Hp} {m : R Unit} {f : Unit → Store → R D} {Q : D → Store → (Nat → Addr) → Hp → V → Prop} {W' : XK} (h : Aft k fl A C H (RepD k) (CT.bn0 m f) Q W') : ∃ C3, m = .ok () C3 ∧ Aft k fl A C H (RepD k) (f () C3) Q W' := by
  cases m with
  | ok d C' => exact ⟨C', rfl, h⟩
  | exc e C' => exact h.elim
  | stuck => exact h.elim
theorem Stp.less {fl n : Nat} {A A' : Nat → Addr} {C C' : Store} {H H' : Hp} (p : Stp k n A C H A' C' H') (h : fl ≤ n) : Stp k fl A C H A' C' H' := ⟨p.rep, p.len, fun f hf => p.low f (Nat.le_trans hf h)⟩
theorem SR.re {fl n : Nat} {A A' : Nat → Addr} {F : Fr} {C C' : Store} {H H' : Hp} (s : SR k A F C σ H) (p : Stp k fl A C H A' C' H') (st : StOk k A' C' H') (low : LowC n C') (hn : n ≤ C'.length) : SR k A' ⟨n, F.sl⟩ C' σ H' :=
  ⟨st, low, hn, s.len, fun i d e => let ⟨v, h1, h2⟩ := s.sl i d e; ⟨v, h1, p.rep v d h2⟩⟩
theorem le_lcEnd {own : Bool} {fl : Nat} {A A1 A' : Nat → Addr} {C C1 C' : Store} {H H1 H' : Hp} {Dl : Addr} {W' : XK} (hf : fl ≤ C1.length) (p : Stp k fl A C H A1 C1 H1) (st1 : StOk k A1 C1 H1) (p' : Stp k fl A1 C1 H1 A' C' H') (low : LowC C1.length C') (st' : StOk k A' C' H') (ha : A' C1.length = Dl) (hl : C1.length < C'.length)
    (h : Aft k fl A C H (RepD k) (lcEnd own C1.length C') (fun _ _ _ H' v => Q v H') W') : Q (.ref Dl) H' := by
  unfold lcEnd at h
  cases own with
  | true =>
    have r : Rep k A' C' H' (.ref (A' C1.length)) (.cell C1.length) := .cell hl
    rw [ha] at r
    exact h A' H' _ (p.trans p') st' r
  | false =>
    split at h
    · rename_i z; cases z
    · split at h
      · rename_i acc hc
        split at h
        · rename_i hcb
          obtain ⟨q1, q2, q3⟩ := fz_end (k := k) (fl := fl) rfl st1 st' p' hf (Nat.le_of_lt hl) low ha hc hcb
          exact h A' H' _ (p.trans q1) q2 q3
        · exact h.elim
      · exact h.elim
theorem le_lc {own : Bool} {mi : MI} {t : Tgt} {tt : MT} {te : ME} {vs : List Nat} (hv : ∀ i ∈ t.slots, i ∈ vs) (h : LE k W (mLc own mi t.M tt te vs) σ H Q) : tLc (LI k W mi) (t.T k.K) (LT k WF tt) (LE k WF te) vs σ H Q := by
  obtain ⟨A, F, C, s, h⟩ := h
  refine ⟨A, F, C, s, (Aft.bnd (rel := fun A C H (J : It) (it : ItD) => ItOk k F.fl J it A C H) h).mono fun it C1 A1 H1 J p1 st1 ok h1 => ?_⟩
  have s1 := s.step p1 st1
  intro Dl hD
  have q0 : Kp A1 C1 H1 (ext A1 C1.length Dl) (C1 ++ [some (.lst [])]) (upd H1 Dl (.lst [])) := kp_cell (k := k) st1 hD
  have p2 : Stp k C1.length A1 C1 H1 (ext A1 C1.length Dl) (C1 ++ [some (.lst [])]) (upd H1 Dl (.lst [])) := q0.stp fun f h1 h2 l => low_app h2 l
  have p2' : Stp k F.fl A1 C1 H1 (ext A1 C1.length Dl) (C1 ++ [some (.lst [])]) (upd H1 Dl (.lst [])) := ⟨p2.rep, p2.len, fun f hf => p2.low f (Nat.le_trans hf s1.fl)⟩
  have st2 : StOk k (ext A1 C1.length Dl) (C1 ++ [some (.lst [])]) (upd H1 Dl (.lst [])) := st1.cell hD ⟨[], upd_same, .nil⟩
  have n1 : C1.length < (C1 ++ [some (Cell.lst [])]).length := by simp
  have low1 : LowC C1.length (C1 ++ [some (Cell.lst [])]) := p2.low _ (Nat.le_refl _) (Nat.le_refl _) st1.low
  obtain ⟨C3, e3, h3⟩ := bn0_inv h1
  refine ⟨fun i m H' => ∃ A' C', m = it.n - i ∧ i ≤ it.n ∧ Stp k C1.length (ext A1 C1.length Dl) (C1 ++ [some (.lst [])]) (upd H1 Dl (.lst [])) A' C' H' ∧ StOk k A' C' H' ∧ lcN it t.M tt te C1.length (wipeD F.sl vs) (it.n - i) i C' = .ok () C3,
    ⟨it.n, _, _, rfl, Nat.zero_le _, Stp.refl, st2, e3⟩, ?_⟩
  rintro i m H' ⟨A', C', rfl, hi, p, st', h'⟩
  obtain ⟨ha', hl'⟩ := cell_at p (ext_at A1 C1.length Dl) n1
  have low' : LowC C1.length C' := p.low _ (Nat.le_refl _) (Nat.le_of_lt n1) low1
  have pF : Stp k F.fl (ext A1 C1.length Dl) (C1 ++ [some (.lst [])]) (upd H1 Dl (.lst [])) A' C' H' := p.less s1.fl
  obtain ⟨o1, o2⟩ := ok A' C' H' (p2'.trans pF) st'
  cases er : it.n - i with
  | zero =>
    rw [er] at h'
    unfold lcN at h'
    have e : i = it.n := by omega
    split at h'
    · rename_i hf
      cases h'
      subst e
      exact .inl ⟨o2 hf, le_lcEnd s1.fl Stp.refl st1 (p2'.trans pF) low' st' ha' hl' h3⟩
    · cases h'
  | succ r =>
    rw [er] at h'
    unfold lcN at h'
    have hlt : i < it.n := by omega
    have hr : it.n - (i + 1) = r := by omega
    cases ei : it.item i C' with
    | none => simp only [ei] at h'; cases h'
    | some d =>
      simp only [ei] at h'
      obtain ⟨g1, g2⟩ := o1 i d hlt ei
      cases eg : t.M d (wipeD F.sl vs) with
      | none => simp only [eg] at h'; cases h'
      | some sl1 =>
        simp only [eg] at h'
        refine .inr ⟨g1, fun H4 => ∃ A4 C4, Stp k C1.length (ext A1 C1.length Dl) (C1 ++ [some (.lst [])]) (upd H1 Dl (.lst [])) A4 C4 H4 ∧ StOk k A4 C4 H4 ∧ lcN it t.M tt te C1.length (wipeD F.sl vs) (it.n - (i + 1)) (i + 1) C4 = .ok () C3,
          fun H4 ⟨A4, C4, a, b, c⟩ => ⟨it.n - (i + 1), by omega, A4, C4, rfl, by omega, a, b, c⟩, fun x H'' y => ?_⟩
        obtain ⟨A'', py, sty, rx⟩ := g2 x H'' y
        have py' : Stp k C1.length A' C' H' A'' C' H'' := ⟨py.rep, py.len, fun f _ _ h => h⟩
        have sr : SR k A'' ⟨C1.length, wipeD F.sl vs⟩ C' (L2.wipe σ vs) H'' := ((s1.re (p2.trans (p.trans py')) sty low' (Nat.le_of_lt hl')).wipe vs)
        refine Tgt.of (vs0 := vs) sr rx eg fun σ2 s2 w2 => ⟨by rw [w2 hv, wipe_wipe], A'', ⟨C1.length, sl1⟩, C', s2, ?_⟩
        cases et : tt ⟨C1.length, sl1⟩ C' with
        | ok b C5 =>
          rw [et] at h'
          simp only [bn0_ok] at h'
          intro A5 H5 v5 p5 st5 e5
          have e5 : v5 = b := e5
          subst e5
          have s5 := s2.step p5 st5
          cases v5 with
          | true =>
            rw [if_pos rfl] at h'
            refine iteT ⟨A5, ⟨C1.length, sl1⟩, C5, s5, ?_⟩
            cases ee : te ⟨C1.length, sl1⟩ C5 with
            | ok yd C6 =>
              rw [ee] at h'
              simp only [bn0_ok] at h'
              intro A6 H6 v6 p6 st6 r6
              have pall := (p.trans py').trans (p5.trans p6)
              obtain ⟨ha6, hl6⟩ := cell_at pall (ext_at A1 C1.length Dl) n1
              split at h'
              · rename_i acc hc
                split at h'
                · rename_i hz
                  obtain ⟨ws, hw, rw6⟩ := st6.at_ _ _ hc
                  rw [ha6] at hw
                  obtain ⟨q1, q2⟩ := push_L (k := k) (fl := C1.length) (Nat.le_refl _) st6 ha6 hc hw r6
                  refine ⟨ws, hw, by have := szN_le hz; rw [rw6.length]; omega, A6, _, pall.trans q1, q2, ?_⟩
                  rw [hr]
                  exact h'
                · cases h'
              · cases h'
            | exc e C6 => rw [ee] at h'; cases h'
            | stuck => rw [ee] at h'; cases h'
          | false =>
            rw [if_neg (by decide)] at h'
            refine iteF ⟨A5, C5, (p.trans py').trans p5, st5, ?_⟩
            rw [hr]
            exact h'
        | exc e C5 => rw [et] at h'; cases h'
        | stuck => rw [et] at h'; cases h'
theorem de_lc {elt tg iter : Expr} {ifs : List Expr} {scope : Scope} {own : List (Str × Nat)} {pos : Pos} {mi : MI} {t : Tgt} {tt : MT} {te : ME} (ow : Bool) (hK : X.K = k.K) (hc : X.calm = true) (hN : X.N.Nodup) (hi : PI X tg iter (LI k W mi)) (ok : BlkOk X.N X.env.scope scope own) (hv : ∀ i ∈ t.slots, i ∈ own.map (·.2))
    (hg : ∀ (s : Shared) (H : Hp) (C : Addr) (cl : List (Str × Addr)) (fp : List Addr), PG (X.blk s H scope (compEnvC scope cl C X.env) fp) tg (t.T k.K)) (ht : ∀ (s : Shared) (H : Hp) (C : Addr) (cl : List (Str × Addr)) (fp : List Addr), PTs (X.blk s H scope (compEnvC scope cl C X.env) fp) ifs (LT k WF tt))
    (he : ∀ (s : Shared) (H : Hp) (C : Addr) (cl : List (Str × Addr)) (fp : List Addr), PE (X.blk s H scope (compEnvC scope cl C X.env) fp) elt (LE k WF te)) (hs : ∀ x, foldedSetIterable iter X.env x = pure x := by intro _; rfl) :
    PE X (.ListComp elt [⟨tg, iter, ifs, 0⟩] scope pos) (LE k W (mLc ow mi t.M tt te (own.map (·.2)))) := (pe_lc hc hN hi ok hg ht he hs).cq fun _ _ _ h => le_lc hv h
end
end CT
set_option maxHeartbeats 4000000
/-! DL7: what is walked; defs. -/
namespace CT
open PySem L2
section
variable {X : Cx} {k : Cn} {W : WX} {E : Ends} {σ : L2.St} {H : Hp}
theorem ds_for {tg iter : Expr} {body : List Stmt} {pos : Pos} {mi : MI} {t : Tgt} {mb : MS} (hp : PassesOwn (model X.prog X.w) X.A X.env X.xe) (hc : X.calm = true) (hi : PI X tg iter (LI k W mi)) (hg : PG X tg (t.T k.K)) (hb : PSs X body (LS k W mb))
    (hs : ∀ x, foldedSetIterable iter X.env x = pure x := by intro _; rfl) : PS X (.For tg iter body [] pos) (LS k W (sFor mi t.M mb)) := (ps_for hp hc hi hg hb hs).cq fun _ _ _ h => ls_for h
/-! ### lists and tuples -/
def itC (xs : List D) : ItD := ⟨xs.length, fun j _ => xs[j]?, fun _ => true⟩
def itV (i n : Nat) : ItD := ⟨n, fun j C => match C[i]? with
    | some (some (.lst ys)) => if ys.length = n then ys[j]? else none
    | _ => none, fun C => match C[i]? with
    | some (some (.lst ys)) => decide (ys.length = n)
    | _ => false⟩
def itS (d : D) (C : Store) : Option ItD := match d with
  | .tup xs => some (itC xs)
  | .kt xs => some (itC xs)
  | .lst xs => some (itC xs)
  | .cell i => match C[i]? with
    | some (some (.lst ys)) => some (itV i ys.length)
    | _ => none
  | _ => none
def mSeq (m : ME) : MI := fun F C => bnd (m F C) fun d C1 => match itS d C1 with
  | some it => .ok it C1
  | none => .stuck
def iSeq (K : PySem.W.Frag) (tl : TE) : TI := fun σ H R => tl σ H fun x H1 => ∃ a, x = .ref a ∧ (((∃ xs, SqL K H1 a xs) ∧ R (Itl K a) H1) ∨ ((∃ xs, SqT K H1 a xs) ∧ R (Itt K a) H1))
theorem pi_seq {tg l : Expr} {tl : TE} (hl : PE X l tl) : PI X tg l (iSeq X.K tl) := by
  refine ⟨fun pins s σ H R I h => ?_⟩
  refine thn (hl.run pins s σ H _ I h) fun v s1 ⟨x, H1, I1, r1, q1⟩ => ?_
  obtain ⟨a, e, ⟨⟨xs, hq⟩, q⟩ | ⟨⟨xs, hq⟩, q⟩⟩ := q1
  · subst e
    cases r1
    obtain ⟨its, rv, p, hz⟩ := I1.list hq
    refine wpAny_pyIter_list p.isList ?_
    refine ⟨s1.heap.objs.size, [s1.heap.objs.size], _, _, H1, rfl, I1.kept (t' := s1.toks) fun b o e => Heap.get?_push_of_some _ e, turn_list a _, ⟨_, Heap.get?_push_size _ rfl, rfl, rfl⟩, fun b hb => ?_, q⟩
    have e : b = s1.heap.objs.size := by simpa using hb
    subst e
    exact I1.fpOk (Nat.le_refl _) (I1.hok.fresh (Nat.le_refl _))
  · subst e
    cases r1
    obtain ⟨its, rv, p, hz⟩ := I1.tuple hq
    refine wpAny_pyIter_tuple (show s1.heap.IsTuple a its.toArray from p) ?_
    refine ⟨s1.heap.objs.size, [s1.heap.objs.size], _, _, H1, rfl, I1.kept (t' := s1.toks) fun b o e => Heap.get?_push_of_some _ e, turn_tuple a _, ⟨_, Heap.get?_push_size _ rfl, rfl, rfl⟩, fun b hb => ?_, q⟩
    have e : b = s1.heap.objs.size := by simpa using hb
    subst e
    exact I1.fpOk (Nat.le_refl _) (I1.hok.fresh (Nat.le_refl _))
theorem itC_L {fl : Nat} {A : Nat → Addr} {C : Store} {a : Addr} {xs : List D} (r : Rep k A C H (.ref a) (.lst xs)) : ItOk k fl (Itl k.K a) (itC xs) A C H := fun A' C' H' p st' => by
  cases p.rep _ _ r with
  | lst l h rv =>
    have hl : SqL k.K H' a _ := .inl (.inl h)
    refine ⟨fun j y hj ey => ?_, fun _ => ⟨_, hl, by rw [rv.length]; exact Nat.le_refl _⟩⟩
    obtain ⟨v, hv, rv1⟩ := rv.get ey
    exact ⟨⟨_, v, hl, hv⟩, fun x H'' ⟨e1, e2⟩ => by
      subst e1
      cases (e2 _ hl).symm.trans hv
      exact ⟨A', Stp.refl, st', rv1⟩⟩
theorem itC_T {fl : Nat} {A : Nat → Addr} {C : Store} {v : V} {d : D} {xs : List D} (r : Rep k A C H v d) (e : vT d = some xs) : ∃ a, v = .ref a ∧ (∃ vs, SqT k.K H a vs) ∧ ItOk k fl (Itt k.K a) (itC xs) A C H := by
  obtain ⟨a, vs, rfl, hs, _⟩ := vT_at r e
  refine ⟨a, rfl, ⟨vs, hs⟩, fun A' C' H' p st' => ?_⟩
  obtain ⟨a', vs', ea, hl, rv⟩ := vT_at (p.rep _ _ r) e
  cases ea
  refine ⟨fun j y hj ey => ?_, fun _ => ⟨_, hl, by rw [rv.length]; exact Nat.le_refl _⟩⟩
  obtain ⟨v, hv, rv1⟩ := rv.get ey
  exact ⟨⟨_, v, hl, hv⟩, fun x H'' ⟨e1, e2⟩ => by
    subst e1
    cases (e2 _ hl).symm.trans hv
    exact ⟨A', Stp.refl, st', rv1⟩⟩
theorem itV_L {fl : Nat} {A : Nat → Addr} {C : Store} {a : Addr} {i n : Nat} (r : Rep k A C H (.ref a) (.cell i)) : ItOk k fl (Itl k.K a) (itV i n) A C H := fun A' C' H' p st' => by
  cases p.rep _ _ r with
  | cell hi =>
    refine ⟨fun j y hj ey => ?_, fun hf => ?_⟩
    · simp only [itV] at ey
      split at ey
      · rename_i ys ec
        split at ey
        · obtain ⟨vs, hv, rv⟩ := st'.at_ i _ ec
          have hl : SqL k.K H' (A' i) vs := .inl (.inl hv)
          obtain ⟨v, hw, rv1⟩ := rv.get ey
          exact ⟨⟨_, v, hl, hw⟩, fun x H'' ⟨e1, e2⟩ => by
            subst e1
            cases (e2 _ hl).symm.trans hw
            exact ⟨A', Stp.refl, st', rv1⟩⟩
        · cases ey
      · cases ey
    · simp only [itV] at hf
      split at hf
      · rename_i ys ec
        obtain ⟨vs, hv, rv⟩ := st'.at_ i _ ec
        have := of_decide_eq_true hf
        exact ⟨vs, .inl (.inl hv), by show vs.length ≤ n; rw [rv.length]; omega⟩
      · cases hf
theorem li_seq {m : ME} {R : It → Hp → Prop} (h : LI k W (mSeq m) σ H R) : iSeq k.K (LE k W m) σ H R := by
  obtain ⟨A, F, C, s, h⟩ := h
  refine ⟨A, F, C, s, (Aft.bnd (rel := RepD k) h).mono fun d C1 A1 H1 v p st r h1 => ?_⟩
  have tup : ∀ xs, vT d = some xs → itS d C1 = some (itC xs) → ∃ a, v = .ref a ∧ (((∃ xs, SqL k.K H1 a xs) ∧ R (Itl k.K a) H1) ∨ ((∃ xs, SqT k.K H1 a xs) ∧ R (Itt k.K a) H1)) := fun xs e ei => by
    rw [ei] at h1
    obtain ⟨a, rfl, hs, ok⟩ := itC_T (fl := F.fl) r e
    exact ⟨a, rfl, .inr ⟨hs, h1 A1 H1 _ Stp.refl st ok⟩⟩
  cases d with
  | tup xs => exact tup xs rfl rfl
  | kt xs => exact tup xs rfl rfl
  | lst xs =>
    cases r with
    | lst l hh rv => exact ⟨_, rfl, .inl ⟨⟨_, .inl (.inl hh)⟩, h1 A1 H1 _ Stp.refl st (itC_L (.lst l hh rv))⟩⟩
  | cell i =>
    cases r with
    | cell hi =>
      simp only [itS] at h1
      split at h1
      · rename_i it e
        split at e
        · rename_i ys ec
          cases e
          obtain ⟨vs, hv, rv⟩ := st.at_ i _ ec
          exact ⟨_, rfl, .inl ⟨⟨vs, .inl (.inl hv)⟩, h1 A1 H1 _ Stp.refl st (itV_L (.cell hi))⟩⟩
        · cases e
      · exact h1.elim
  | _ => exact h1.elim
theorem di_seq {tg l : Expr} {m : ME} (hK : X.K = k.K) (hl : PE X l (LE k W m)) : PI X tg l (LI k W (mSeq m)) := (pi_seq hl).cq fun _ _ _ h => by
  rw [hK]
  exact li_seq h
/-! ### ranges -/
def inR (i : Int) : Bool := decide (-(2 ^ 62) ≤ i) && decide (i < 2 ^ 62)
def itR (lo : Int) (n : Nat) : ItD := ⟨n, fun j _ => some (.int (lo + j)), fun _ => true⟩
def mRng1 (a : ME) : MI := fun F C => bnd (a F C) fun d C1 => match d with
  | .int j => if inR j = true then .ok (itR 0 j.toNat) C1 else .stuck
  | _ => .stuck
def mRng2 (a b : ME) : MI := fun F C => bnd (a F C) fun d C1 => bnd (b F C1) fun e C2 => match d, e with
  | .int i, .int j => if (inR i && inR j) = true then .ok (itR i (j - i).toNat) C2 else .stuck
  | _, _ => .stuck
theorem itR_ok {fl : Nat} {A : Nat → Addr} {C : Store} {lo : Int} {n : Nat} : ItOk k fl (Itr lo n) (itR lo n) A C H := fun A' C' H' p st' =>
  ⟨fun j y hj ey => ⟨hj, fun x H'' ⟨e1, e2⟩ => by
    subst e1
    subst e2
    cases ey
    exact ⟨A', Stp.refl, st', .int _⟩⟩, fun _ => Nat.le_refl _⟩
theorem li_rng1 {m : ME} {R : It → Hp → Prop} (h : LI k W (mRng1 m) σ H R) : iRng1 (tCons (LE k W m) tNil) σ H R := by
  obtain ⟨A, F, C, s, h⟩ := h
  refine ⟨A, F, C, s, (Aft.bnd (rel := RepD k) h).mono fun d C1 A1 H1 v p st r h1 => ?_⟩
  cases r with
  | int j =>
    simp only at h1
    split at h1
    · rename_i hb
      simp only [inR, Bool.and_eq_true, decide_eq_true_eq] at hb
      exact ⟨j, rfl, hb.1, hb.2, h1 A1 H1 _ Stp.refl st itR_ok⟩
    · exact h1.elim
  | _ => exact h1.elim
theorem di_rng1 {tg a : Expr} {p pos : Pos} {m : ME} (hg : Gl X "range") (hm : X.mg "range" = none) (ha : PE X a (LE k W m)) (hs : starEach [a] X.env = [(false, eval a X.env)] := by rfl) : PI X tg (.Call (.Name "range" p) [a] [] pos) (LI k W (mRng1 m)) :=
  (pi_range1 hg hm (pa_cons ha pa_nil hs) hs).cq fun _ _ _ h => li_rng1 h
end
/-! ### defs -/
abbrev MF := List D → Store → R D
/-- what a def hands back: an own list or dict that it made becomes plain data; its cells are forgotten -/
def fz (n : Nat) (d : D) (C : Store) : D := match d with
  | .cell i => if i < n then d else match C[i]? with
    | some (some (.lst xs)) => .lst xs
    | some (some (.dT ks vs)) => .dT ks vs
    | _ => d
  | _ => d
def fin (n : Nat) (d : D) (C : Store) : R D := if cb n (fz n d C) = true then .ok (fz n d C) (C.take n) else .stuck
def mDef (np ns : Nat) (body : MS) : MF := fun ds C => if ds.length = np then (match body ⟨C.length, ds.map some ++ List.replicate (ns - np) none⟩ C with
    | .nx _ C' => fin C.length .non C'
    | .rt d C' => fin C.length d C'
    | .xc e _ C' => if cbL C.length e.fs = true then .exc e (C'.take C.length) else .stuck
    | _ => .stuck) else .stuck
/-- the promise of a def that computes m -/
def SpD (k : Cn) (np : Nat) (m : MF) : Sp := fun vs H Q E => vs.length = np ∧ ∃ A C ds, StOk k A C H ∧ RepL k A C H vs ds ∧ Aft k C.length A C H (RepD k) (m ds C) (fun _ _ _ H' v => Q v H') E
section
variable {k : Cn}
theorem cut_stp {n : Nat} {A A' : Nat → Addr} {C C' : Store} {H H' : Hp} (hn : n = C.length) (st0 : StOk k A C H) (st : StOk k A' C' H') (s : Stp k n A C H A' C' H') :
    Stp k n A C H A' (C'.take n) H' ∧ StOk k A' (C'.take n) H' ∧ n ≤ C'.length ∧ (C'.take n).length = n := by
  have hl : n ≤ C'.length := by rw [hn]; exact s.len
  have tl : (C'.take n).length = n := by rw [List.length_take]; omega
  have low : LowC n C' := s.low n (Nat.le_refl _) (by omega) (by rw [hn]; exact st0.low)
  exact ⟨⟨fun v d r => (s.rep v d r).cut hl (by rw [hn]; exact r.cb), by rw [tl, hn]; exact Nat.le_refl _, fun f h1 h2 l => low_take (s.low f h1 h2 l)⟩, st.take hl low, hl, tl⟩
theorem fz_rep {n : Nat} {A : Nat → Addr} {C : Store} {H : Hp} {v : V} {d : D} (st : StOk k A C H) (hl : n ≤ C.length) (r : Rep k A C H v d) (h : cb n (fz n d C) = true) : Rep k A (C.take n) H v (fz n d C) := by
  have tl : (C.take n).length = n := by rw [List.length_take]; omega
  have nl : ∀ i c, ¬ i < n → C[i]? = some (some c) → ¬ Live A (C.take n) (A i) := fun i c hi e l => by
    obtain ⟨j, c', e', z⟩ := l
    by_cases hj : j < n
    · rw [List.getElem?_take_of_lt hj] at e'
      have := st.inj j i _ _ e' e z
      omega
    · rw [List.getElem?_eq_none (by rw [tl]; omega)] at e'
      cases e'
  cases d with
  | cell i =>
    by_cases hi : i < n
    · have e : fz n (.cell i) C = .cell i := by simp [fz, hi]
      rw [e] at h ⊢
      exact r.cut hl h
    · cases r with
      | cell hi' =>
        simp only [fz, if_neg hi] at h ⊢
        split
        · rename_i xs ec
          rw [ec] at h
          obtain ⟨vs, hv, rv⟩ := st.at_ i _ ec
          exact .lst (nl i _ hi ec) hv (rv.cut hl (by simpa [cb] using h))
        · rename_i ks xs ec
          rw [ec] at h
          obtain ⟨kvs, hv, hk, rv⟩ := st.at_ i _ ec
          subst hk
          exact .dT (nl i _ hi ec) hv (rv.cut hl (by simpa [cb] using h))
        · rename_i n1 n2
          exfalso
          split at h
          · rename_i ec; exact n1 _ ec
          · rename_i ec; exact n2 _ _ ec
          · simp only [cb, decide_eq_true_eq] at h
            exact hi h
  | _ => exact r.cut hl h
/-- from a body to the promise -/
theorem spD_body {np ns : Nat} {body : MS} {N : List Str} {vs : List V} {H : Hp} {Q : VK} {E : XK} (hN : N.length = ns) (hp : np ≤ ns) (h : SpD k np (mDef np ns body) vs H Q E) :
    LS k (fun c d _ H' => E c d H') body { nx := fun _ H' => Q .non H', rt := Q } (L2.start N vs) H := by
  obtain ⟨hv, A, C, ds, st, rl, h⟩ := h
  have hd : ds.length = np := by rw [← rl.length]; exact hv
  unfold mDef at h
  rw [if_pos hd] at h
  have sl : (L2.start N vs) = vs.map some ++ List.replicate (ns - np) none := by unfold L2.start; rw [hN, hv]
  have sr : SR k A ⟨C.length, ds.map some ++ List.replicate (ns - np) none⟩ C (L2.start N vs) H := by
    refine ⟨st, st.low, Nat.le_refl _, ?_, fun i d e => ?_⟩
    · rw [sl]
      simp [rl.length]
    · rw [sl]
      have e' : (ds.map some ++ List.replicate (ns - np) none)[i]? = some (some d) := e
      by_cases hi : i < ds.length
      · rw [List.getElem?_append_left (by simpa using hi), List.getElem?_map] at e'
        cases ed : ds[i]? with
        | none => rw [ed] at e'; cases e'
        | some d' =>
          rw [ed] at e'
          cases e'
          obtain ⟨v, h1, h2⟩ := rl.get ed
          refine ⟨v, ?_, h2⟩
          rw [List.getElem?_append_left (by rw [List.length_map, rl.length]; exact hi), List.getElem?_map, h1]
          rfl
      · rw [List.getElem?_append_right (by simpa using hi)] at e'
        have := List.getElem?_eq_some_iff.mp e'
        obtain ⟨h1, h2⟩ := this
        rw [List.getElem_replicate] at h2
        cases h2
  refine ⟨A, _, C, sr, ?_⟩
  have done : ∀ (d : D) (C' : Store), Aft k C.length A C H (RepD k) (fin C.length d C') (fun _ _ _ H' v => Q v H') E → ∀ A' H' v, Stp k C.length A C H A' C' H' → StOk k A' C' H' → Rep k A' C' H' v d → Q v H' := fun d C' hf A' H' v p st' r => by
    unfold fin at hf
    split at hf
    · rename_i hc
      obtain ⟨q1, q2, q3, q4⟩ := cut_stp rfl st st' p
      exact hf A' H' v q1 q2 (fz_rep st' q3 r hc)
    · exact hf.elim
  show AftS k _ C.length A C H (body ⟨C.length, ds.map some ++ List.replicate (ns - np) none⟩ C) _
  cases eb : body ⟨C.length, ds.map some ++ List.replicate (ns - np) none⟩ C with
  | nx sl' C' =>
    rw [eb] at h
    exact fun A' σ' H' p s' => done .non C' h A' H' .non p s'.st .non
  | rt d C' =>
    rw [eb] at h
    exact fun A' H' v p st' r => done d C' h A' H' v p st' r
  | bk sl' C' => rw [eb] at h; exact h.elim
  | ct sl' C' => rw [eb] at h; exact h.elim
  | stuck => rw [eb] at h; exact h.elim
  | xc e sl' C' =>
    rw [eb] at h
    intro A' σ' H' dd ws p s' x l r
    simp only at h
    split at h
    · rename_i hc
      obtain ⟨q1, q2, q3, q4⟩ := cut_stp rfl st s'.st p
      exact h A' H' dd ws q1 q2 x l (r.cut q3 hc)
    · exact h.elim
end
end CT
set_option maxHeartbeats 4000000
/-! DL8: defs, calls, instances over data. -/
namespace CT
open PySem L2 PySem.Spec PyProof.Rows
theorem Aft.more {k : Cn} {fl n : Nat} {A : Nat → Addr} {C : Store} {H : Hp} {α β : Type} {rel : (Nat → Addr) → Store → Hp → β → α → Prop} {m : R α} {Q : α → Store → (Nat → Addr) → Hp → β → Prop} {W : XK} (hn : fl ≤ n) (h : Aft k fl A C H rel m Q W) : Aft k n A C H rel m Q W := by
  cases m with
  | ok d C' => exact fun A' H' v p st r => h A' H' v (p.less hn) st r
  | exc e C' => exact fun A' H' dd vs p st x l r => h A' H' dd vs (p.less hn) st x l r
  | stuck => exact h
/-- a def of np parameters -/
def Ar (np : Nat) (m : MF) : Prop := ∀ ds C, ds.length ≠ np → m ds C = .stuck
theorem mDef_ar {np ns : Nat} {body : MS} : Ar np (mDef np ns body) := fun ds C h => by
  unfold mDef
  rw [if_neg h]
/-! ### defs that know that no repr runs around them -/
structure RoomG (lev : Nat) (A : Around) : Prop where
  room : Room lev A
  gd : A.guards = some []
theorem RoomG.mono {i j : Nat} {A : Around} (r : RoomG j A) (h : i ≤ j) : RoomG i A := ⟨r.room.mono h, r.gd⟩
theorem RoomG.in1 {j : Nat} {A : Around} (r : RoomG (j + 1) A) : RoomG j A.in1 := ⟨r.room.in1, r.gd⟩
theorem RoomG.make {j : Nat} {A : Around} (r : RoomG (j + 1) A) (C : Addr) (us : List Value) (kw : List (Str × Value)) : RoomG j (A.under (.builtin "type.__call__" ⟨.ref C :: us, kw⟩)) :=
  ⟨r.room.make C us kw, by
    have e : (A.under (.builtin "type.__call__" ⟨.ref C :: us, kw⟩)).guards = A.guards := by
      first
        | rfl
        | simp [Around.under, Code.guards, Code.isGuard, pushGuards, guardIds]
    rw [e]
    exact r.gd⟩
structure FnG (P : Program) (w : World) (K : PySem.W.Frag) (mg : Str → Option Value) (base : Heap) (lev : Nat) (f : Addr) (fd : FuncData) (ps : List Str) (sp : Sp) : Prop where
  len : ∀ vs H Q E, sp vs H Q E → vs.length = ps.length
  run : ∀ (A : Around) (outer : List Env) (s : Shared) (H : Hp) (args : Args) (us : List Value) (vs : List V) (Q : VK) (E : XK), RoomG lev A → Env0 P w K mg base A outer s H → BindsTo s fd args (ps.zip us) → Vals vs us → sp vs H Q E →
    codeAny (model P w) A (.call (.ref f) args) (CR (L2.CX P w) outer P w H s Q E) s
theorem FnG.mono {P : Program} {w : World} {K : PySem.W.Frag} {mg : Str → Option Value} {base : Heap} {i j : Nat} {f : Addr} {fd : FuncData} {ps : List Str} {sp : Sp} (F : FnG P w K mg base i f fd ps sp) (h : i ≤ j) : FnG P w K mg base j f fd ps sp :=
  ⟨F.len, fun A outer s H args us vs Q E hr => F.run A outer s H args us vs Q E (hr.mono h)⟩
theorem fn_ofG {P : Program} {w : World} {K : PySem.W.Frag} {mg : Str → Option Value} {base : Heap} {lev : Nat} {f : Addr} {name qual : Str} {params : Arguments} {body : List Stmt} {scope : Scope} {dV kV doc pm cdv ct oc : Value} {an od : Option Addr}
    {osl : Array (Option Value)} {N ps : List Str} {sp : Sp} (lk : K.lookup f = some ⟨oc, od, .func (PySem.W.fnOf name qual params body scope dV kV doc pm an cdv ct), osl⟩) (hcd : PySem.W.codeIn K cdv qual = true) (S : FnScope N ps scope)
    (len : ∀ vs H Q E, sp vs H Q E → vs.length = ps.length)
    (hbody : ∀ (A : Around) (outer : List Env) (s : Shared) (H : Hp) (vs : List V) (Q : VK) (E : XK), RoomG lev (A.deeper (envOfC qual scope s.heap.objs.size f cdv)) → sp vs H Q E →
      ∃ t, PSs (cxOf (L2.CX P w) P w K mg base N qual scope f cdv A outer s H E) body t ∧ t { nx := fun _ H' => Q .non H', rt := Q } (L2.start N vs) H) :
    FnG P w K mg base (lev + 1) f (PySem.W.fnOf name qual params body scope dV kV doc pm an cdv ct) ps sp := by
  refine ⟨len, fun A outer s H args us vs Q E hr e0 hb r hsp => ?_⟩
  have hl := len _ _ _ _ hsp
  have KX : K.In s.heap := e0.mod.kin.keeps fun b o e => (e0.bs b o e).1
  have lim : s.heap.NoLimit := e0.mod.nolimit.keeps fun b o e => (e0.bs b o e).1
  have hkind : ∀ y ∈ ps.zip us, scope.names.lookup y.1 = some .local ∨ (scope.names.lookup y.1 = some .cell ∧ ((cellsFrom (s.heap.objs.size + 1) scope.names []).lookup y.1).isSome = true) := fun ⟨n, v⟩ hy => by
    rcases S.par n (List.of_mem_zip hy).1 with q | q
    · exact .inl q
    · exact .inr ⟨q, PySem.W.cellsFrom_some _ _ _ (.inl q)⟩
  refine codeAny_call_function hr.room.depth (KX _ _ lk) rfl S.co S.gen rfl (PySem.W.codeRec_of KX hcd) (hb _ _ _ _ ?_)
  refine wpAny_newFunctionEnv_cells S.kind hkind fun env he s1 x => ?_
  subst he
  refine ⟨lim.keeps x.toInCall.keep, codeAny_func ?_⟩
  obtain ⟨t, ht, hq⟩ := hbody A outer s H vs Q E ⟨hr.room.deeper _, hr.gd⟩ hsp
  have I : Inv (cxOf (L2.CX P w) P w K mg base N qual scope f cdv A outer s H E) [] (L2.start N vs) H s1 := inv_start S hr.room.hd e0 hl r x
  refine wpAny_mono (ht.run [] s1 (L2.start N vs) H _ I hq) (fun fl s' hs => ?_) fun e s' hs => hs
  have fin : ∀ {σ' : L2.St} {H' : Hp} {v : V} {u : Value}, Inv (cxOf (L2.CX P w) P w K mg base N qual scope f cdv A outer s H E) [] σ' H' s' → RelV v u → Q v H' → CE outer P w H s Q u s' :=
    fun {σ' H' v u} J rv q => ⟨v, H', J.os, J.bare, J.base, J.hok, rv, q⟩
  cases fl with
  | ret u =>
    obtain ⟨v, σ', H', J, rv, q⟩ := hs
    exact fin J rv q
  | next =>
    obtain ⟨σ', H', J, q⟩ := hs
    exact fin (v := V.non) (u := Value.none) J rfl q
  | brk =>
    obtain ⟨_, _, _, q⟩ := hs
    exact False.elim q
  | cont =>
    obtain ⟨_, _, _, q⟩ := hs
    exact False.elim q
section
variable {P : Program} {w : World} {k : Cn} {mg : Str → Option Value} {base : Heap} {x qual : Str} {params : Arguments} {body : List Stmt} {scope : Scope} {dvs : List V} {kws : List (Str × V)} {f : Addr} {fd : FuncData}
/-- THE RULE for a def: its body's derivation -/
theorem fn_ok {N ps : List Str} {lev : Nat} {m : MS} (F : FunD k.K x qual params body scope dvs kws f fd) (S : FnScope N ps scope) (hp : ps.length ≤ N.length)
    (hb : ∀ (cdv : Value) (A : Around) (outer : List Env) (s : Shared) (H : Hp) (E : XK), RoomG lev (A.deeper (envOfC qual scope s.heap.objs.size f cdv)) → PSs (cxOf (L2.CX P w) P w k.K mg base N qual scope f cdv A outer s H E) body (LS k (fun c d _ H' => E c d H') m)) :
    FnG P w k.K mg base (lev + 1) f fd ps (SpD k ps.length (mDef ps.length N.length m)) := by
  obtain ⟨oc, od, dV, kV, doc, pm, an, cdv, ct, osl, rfl, lk, hcd, _, _⟩ := F.ex
  exact fn_ofG lk hcd S (fun vs H Q E h => h.1) fun A outer s H vs Q E hr h => ⟨_, hb cdv A outer s H E hr, spD_body rfl hp h⟩
end
/-! ### calls -/
def mCall (m : MF) (dds : List D) (a : MA) : ME := fun F C => bnd (a F C) fun ds C1 => m (ds ++ dds) C1
section
variable {X : Cx} {k : Cn} {W : WX} {σ : L2.St} {H : Hp} {Q : VK} {lev : Nat} {f C p g : Addr} {fd : FuncData} {ps : List Str} {np : Nat} {m : MF} {dvs : List V} {dds : List D} {ds : List Value} {x nm : Str} {pn pos apos : Pos} {e o : Expr} {es : List Expr} {ma : MA} {mo : ME}
theorem sp_of {A : Nat → Addr} {C : Store} {fl : Nat} {vs : List V} {xs : List D} {E : XK} (hf : fl ≤ C.length) (ar : Ar np m) (st : StOk k A C H) (r : RepL k A C H vs xs) (h : Aft k fl A C H (RepD k) (m xs C) (fun _ _ _ H' v => Q v H') E) : SpD k np m vs H Q E := by
  refine ⟨?_, A, C, xs, st, r, h.more hf⟩
  rw [r.length]
  by_cases hl : xs.length = np
  · exact hl
  · rw [ar xs C hl] at h
    exact h.elim
theorem run_fnG {sp : Sp} {E : L2.St → XK} {pins : List (Addr × Obj)} {σ : L2.St} {H : Hp} {s : Shared} {Q : VK} {us : List Value} {vs : List V} (F : FnG X.prog X.w X.K X.mg X.base lev f fd ps sp) (hr : RoomG lev X.A) (hb : Binds X.K fd ps ds) (hd : Vals dvs ds) (hx : PassesAt (L2.CX X.prog X.w) X σ (E σ))
    (I : Inv X pins σ H s) (r : Vals vs us) (h : sp (vs ++ dvs) H Q (E σ)) : wpAny (model X.prog X.w) X.A (call (.ref f) us) (EP X pins σ Q) X.xe s := by
  have r2 : Vals (vs ++ dvs) (us ++ ds) := r.append hd
  have hl : (us ++ ds).length = ps.length := by rw [← r2.length]; exact F.len _ _ _ _ h
  refine wpAny_call (codeAny_mono (F.run X.A X.stack s H ⟨us, []⟩ (us ++ ds) (vs ++ dvs) Q (E σ) hr I.env0 (hb s us I.kIn hl) r2 h) fun r s' hq => ?_)
  cases r with
  | error e => exact hx pins H s e s' I hq
  | ok fl =>
    cases fl with
    | ret u => exact I.after hq
    | next => exact False.elim hq
    | brk => exact False.elim hq
    | cont => exact False.elim hq
theorem pe_callG {sp : Sp} {E : L2.St → XK} {t : TA} (F : FnG X.prog X.w X.K X.mg X.base lev f fd ps sp) (hr : RoomG lev X.A) (hg : Gl X x) (hm : X.mg x = some (.ref f)) (hk : PySem.W.keepIn X.K (.ref f) = true) (hb : Binds X.K fd ps ds) (hd : Vals dvs ds) (hx : ∀ σ, PassesAt (L2.CX X.prog X.w) X σ (E σ))
    (ha : PA X (e :: es) t) (hdb : (x == ("__debug__" : Str)) = false := by decide) (he : starEach (e :: es) X.env = (false, eval e X.env) :: starEach es X.env := by rfl) (hpl : (backTo pos (starEach es X.env)).any (·.1) = false := by rfl) :
    PE X (.Call (.Name x pn) (e :: es) [] pos) (tCallSD sp dvs E t) := by
  refine ⟨fun pins s σ H Q I h => ?_⟩
  refine wpAny_Call_Name_kw (ld_glob I hg hm ?_ hdb)
  refine PySem.W.callWith_K (h₀ := X.base) I.ok.mod.kin hk (thn (ha.run pos pins s σ H _ I h) fun us s1 ⟨vs, H1, I1, r, q⟩ => ⟨I1.kIn, ?_⟩) he hpl
  exact run_fnG F hr hb hd (hx σ) I1 r q
theorem le_call (ar : Ar np m) (hd : ∀ A C H, RepL k A C H dvs dds) (h : LE k W (mCall m dds ma) σ H Q) : tCallSD (SpD k np m) dvs (WE W) (LA k W ma) σ H Q := by
  obtain ⟨A, F, C, s, h⟩ := h
  refine ⟨A, F, C, s, (Aft.bnd (rel := RepDs k) h).mono fun xs C1 A1 H1 vs p1 st1 r1 h1 => ?_⟩
  exact sp_of (s.step p1 st1).fl ar st1 (r1.append (hd _ _ _)) h1
/-- f(e, ..) -/
theorem de_call (tk : Takes X W) (F : FnG X.prog X.w X.K X.mg X.base lev f fd ps (SpD k np m)) (ar : Ar np m) (hr : RoomG lev X.A) (hg : Gl X x) (hm : X.mg x = some (.ref f)) (hk : PySem.W.keepIn X.K (.ref f) = true) (hb : Binds X.K fd ps ds) (hd : Vals dvs ds) (hdd : ∀ A C H, RepL k A C H dvs dds)
    (ha : PA X (e :: es) (LA k W ma)) (hdb : (x == ("__debug__" : Str)) = false := by decide) (he : starEach (e :: es) X.env = (false, eval e X.env) :: starEach es X.env := by rfl) (hpl : (backTo pos (starEach es X.env)).any (·.1) = false := by rfl) :
    PE X (.Call (.Name x pn) (e :: es) [] pos) (LE k W (mCall m dds ma)) := (pe_callG F hr hg hm hk hb hd (fun σ => passAt tk σ) ha hdb he hpl).cq fun _ _ _ h => le_call ar hdd h
/-! ### instances -/
/-- the class and the attributes of an instance -/
def vO (d : D) (C : Store) : Option (Nat × List D) := match d with
  | .obj c fs => some (c, fs)
  | .cell i => match C[i]? with
    | some (some (.ins c fs)) => some (c, fs)
    | _ => none
  | _ => none
theorem vO_at {A : Nat → Addr} {C : Store} {v : V} {d : D} {c : Nat} {fs : List D} (st : StOk k A C H) (r : Rep k A C H v d) (e : vO d C = some (c, fs)) : ∃ a dx vs, v = .ref a ∧ H a = some (.ins (k.cl c) dx (((k.fn c).take fs.length).zip vs)) ∧ fs.length ≤ (k.fn c).length ∧ RepL k A C H vs fs := by
  cases r with
  | @obj a0 dx0 c0 vs0 ds0 l h z rv =>
    cases e
    have hl : fs.length = (k.fn c).length := by rw [← rv.length]; exact z
    refine ⟨a0, dx0, vs0, rfl, ?_, Nat.le_of_eq hl, rv⟩
    rw [hl, List.take_length]
    exact h
  | cell hi =>
    rename_i i
    simp only [vO] at e
    split at e
    · rename_i c' fs' ec
      cases e
      obtain ⟨dx, vs, h, z, rv⟩ := st.at_ i _ ec
      exact ⟨_, dx, vs, rfl, h, z, rv⟩
    · cases e
  | _ => cases e
/-- o.f, the n-th attribute of the class c -/
def oFld (c n : Nat) : O1 := fun x C => match vO x C with
  | some (c', fs) => if c' = c then (fs[n]?).map fun d => (d, C) else none
  | none => none
theorem zip_look {names : List Str} {vs : List V} {n : Nat} {f : Str} {v : V} (nd : names.Nodup) (hn : names[n]? = some f) (hv : vs[n]? = some v) : (names.zip vs).lookup f = some v := by
  induction names generalizing vs n with
  | nil => simp at hn
  | cons a r ih =>
    cases vs with
    | nil => simp at hv
    | cons b t =>
      cases n with
      | zero =>
        simp at hn hv
        subst hn
        subst hv
        simp [List.lookup]
      | succ n =>
        simp at hn hv
        have ne : (f == a) = false := by
          simp only [List.nodup_cons] at nd
          have : f ≠ a := fun e => nd.1 (by rw [← e]; exact List.mem_of_getElem? hn)
          simpa using this
        rw [List.zip_cons_cons, List.lookup_cons, ne]
        exact ih (by simp only [List.nodup_cons] at nd; exact nd.2) hn hv
theorem zip_none {names : List Str} {vs : List V} {f : Str} (h : f ∉ names) : (names.zip vs).lookup f = none := by
  induction names generalizing vs with
  | nil => simp
  | cons a r ih =>
    cases vs with
    | nil => simp
    | cons b t =>
      simp only [List.mem_cons, not_or] at h
      have ne : (f == a) = false := by simpa using h.1
      rw [List.zip_cons_cons, List.lookup_cons, ne]
      exact ih h.2
theorem d_fld {c n : Nat} {f : Str} (hc : Cls k.K (k.cl c)) (hno : NoAttr k.K (k.cl c) f) (nd : (k.fn c).Nodup) (hf : (k.fn c)[n]? = some f) : ∀ fl A C H x dx d C' (Q : VK), fl ≤ C.length → LowC fl C → StOk k A C H → Rep k A C H x dx → oFld c n dx C = some (d, C') →
    (∀ A' H' v, Stp k fl A C H A' C' H' → StOk k A' C' H' → Rep k A' C' H' v d → Q v H') → ∃ a Cc dxx fs v, x = .ref a ∧ H a = some (.ins Cc dxx fs) ∧ Cls k.K Cc ∧ NoAttr k.K Cc f ∧ fs.lookup f = some v ∧ Q v H := by
  intro fl A C H x dx d C' Q hfl hl st r e q
  unfold oFld at e
  split at e
  · rename_i c' fs ev
    split at e
    · rename_i hcc
      subst hcc
      simp only [Option.map_eq_some_iff] at e
      obtain ⟨d', e1, e2⟩ := e
      cases e2
      obtain ⟨a, dx', vs, rfl, ha, hle, rv⟩ := vO_at st r ev
      obtain ⟨v, hv, rv1⟩ := rv.get e1
      have hn : n < fs.length := (List.getElem?_eq_some_iff.mp e1).1
      refine ⟨a, _, dx', _, v, rfl, ha, hc, hno, zip_look (nd.sublist (List.take_sublist _ _)) (by rw [List.getElem?_take_of_lt hn]; exact hf) hv, q A H v Stp.refl st rv1⟩
    · cases e
  · cases e
theorem le_fld {c n : Nat} {f : Str} (hc : Cls k.K (k.cl c)) (hno : NoAttr k.K (k.cl c) f) (nd : (k.fn c).Nodup) (hf : (k.fn c)[n]? = some f) (h : LE k W (mUn (oFld c n) mo) σ H Q) : tFld k.K (LE k W mo) f σ H Q := by
  obtain ⟨A, F, C, s, h⟩ := h
  refine ⟨A, F, C, s, (Aft.bnd (rel := RepD k) h).mono fun dx C1 A1 H1 v p1 st1 r1 h1 => ?_⟩
  obtain ⟨d, C', e, q⟩ := aft_ofO h1
  have s1 := s.step p1 st1
  exact d_fld hc hno nd hf F.fl A1 C1 H1 v dx d C' Q s1.fl s1.low st1 r1 e q
theorem de_fld (c n : Nat) {f : Str} (hK : X.K = k.K) (hc : Cls k.K (k.cl c)) (hno : NoAttr k.K (k.cl c) f) (nd : (k.fn c).Nodup) (hf : (k.fn c)[n]? = some f) (he : PE X o (LE k W mo)) (hb : attributeBase o f X.env (eval o X.env) = eval o X.env := by rfl) : PE X (.Attribute o f pos) (LE k W (mUn (oFld c n) mo)) :=
  (pe_fld he hb).cq fun _ _ _ h => by
    rw [hK]
    exact le_fld hc hno nd hf h
/-! ### methods, properties -/
/-- the receiver is an instance of c -/
def mMeth (c : Nat) (m : MF) (dds : List D) (mo : ME) (a : MA) : ME := fun F C => bnd (mo F C) fun x C1 => match vO x C1 with
  | some (c', _) => if c' = c then bnd (a F C1) fun ds C2 => m (x :: (ds ++ dds)) C2 else .stuck
  | none => .stuck
def tMethS (Cc : Addr) (nm : Str) (sp : Sp) (dvs : List V) (E : L2.St → XK) (ta : TE) (t : TA) : TE := fun σ H Q => ta σ H fun x H1 => ∃ a dx fs, x = .ref a ∧ H1 a = some (.ins Cc dx fs) ∧ fs.lookup nm = none ∧
  t σ H1 fun vs H2 => sp (x :: (vs ++ dvs)) H2 Q (E σ)
theorem pe_methSD {pl : Sem Bool} {ta : TE} {t : TA} {sp : Sp} {E : L2.St → XK} (he : PE X o ta) (c : Cls X.K C) (hm : Meth X.K C nm f) (F : FnG X.prog X.w X.K X.mg X.base lev f fd ps sp) (hr : RoomG lev X.A) (hb : Binds X.K fd ps ds) (hd : Vals dvs ds) (hx : ∀ σ, PassesAt (L2.CX X.prog X.w) X σ (E σ)) (ha : PA X (e :: es) t)
    (hst : starEach (e :: es) X.env = (false, eval e X.env) :: starEach es X.env := by rfl) (hpl : (backTo pos (starEach es X.env)).any (·.1) = false := by rfl)
    (ht : eval (.Call (.Attribute o nm apos) (e :: es) [] pos) X.env = (do
      let ov ← eval o X.env
      standAt apos.atName
      let (f, first) ← holding [ov] (getMethod ov nm pl)
      callWith pos f first (backTo pos (starEach (e :: es) X.env)) (backToKw pos (keywordEach [] X.env))) := by rfl) :
    PE X (.Call (.Attribute o nm apos) (e :: es) [] pos) (tMethS C nm sp dvs E ta t) := by
  refine ⟨fun pins s σ H Q I h => ?_⟩
  refine PySem.W.methodCall_KW (pl := pl) (thn (he.run pins s σ H _ I h) fun u s1 ⟨x, H1, I1, rx, a, dx, fs, ex, ea, l, q⟩ => ?_) ht
  subst ex
  obtain rfl : u = Value.ref a := rx
  refine getmeth_ok I1 ea c hm l ?_
  refine PySem.W.callWith_K (first := [.ref a]) (h₀ := X.base) I.ok.mod.kin hm.kp (thn (ha.run pos pins s1 σ H1 _ I1 q) fun us s2 ⟨vs, H2, I2, r, q2⟩ => ⟨I2.kIn, ?_⟩) hst hpl
  exact run_fnG (us := .ref a :: us) (vs := .ref a :: vs) F hr hb hd (hx σ) I2 (.cons rfl r) q2
theorem le_meth {c : Nat} (ar : Ar np m) (hno : nm ∉ k.fn c) (hdd : ∀ A C H, RepL k A C H dvs dds) (h : LE k W (mMeth c m dds mo ma) σ H Q) : tMethS (k.cl c) nm (SpD k np m) dvs (WE W) (LE k W mo) (LA k W ma) σ H Q := by
  obtain ⟨A, F, C, s, h⟩ := h
  refine ⟨A, F, C, s, (Aft.bnd (rel := RepD k) h).mono fun dx C1 A1 H1 v p1 st1 r1 h1 => ?_⟩
  have s1 := s.step p1 st1
  split at h1
  · rename_i c' fs ev
    split at h1
    · rename_i hcc
      subst hcc
      obtain ⟨a, dx', vs, rfl, ha, hle, rv⟩ := vO_at st1 r1 ev
      refine ⟨a, dx', _, rfl, ha, zip_none (fun z => hno (List.mem_of_mem_take z)), A1, F, C1, s1, (Aft.bnd (rel := RepDs k) h1).mono fun xs C2 A2 H2 ws p2 st2 r2 h2 => ?_⟩
      exact sp_of (s1.step p2 st2).fl ar st2 (.cons (p2.rep _ _ r1) (r2.append (hdd _ _ _))) h2
    · exact h1.elim
  · exact h1.elim
theorem de_meth {pl : Sem Bool} (c : Nat) (tk : Takes X W) (hK : X.K = k.K) (he : PE X o (LE k W mo)) (hc : Cls k.K (k.cl c)) (hm : Meth k.K (k.cl c) nm f) (F : FnG X.prog X.w X.K X.mg X.base lev f fd ps (SpD k np m)) (ar : Ar np m) (hno : nm ∉ k.fn c) (hr : RoomG lev X.A) (hb : Binds X.K fd ps ds) (hd : Vals dvs ds) (hdd : ∀ A C H, RepL k A C H dvs dds)
    (ha : PA X (e :: es) (LA k W ma)) (hst : starEach (e :: es) X.env = (false, eval e X.env) :: starEach es X.env := by rfl) (hpl : (backTo pos (starEach es X.env)).any (·.1) = false := by rfl)
    (ht : eval (.Call (.Attribute o nm apos) (e :: es) [] pos) X.env = (do
      let ov ← eval o X.env
      standAt apos.atName
      let (f, first) ← holding [ov] (getMethod ov nm pl)
      callWith pos f first (backTo pos (starEach (e :: es) X.env)) (backToKw pos (keywordEach [] X.env))) := by rfl) :
    PE X (.Call (.Attribute o nm apos) (e :: es) [] pos) (LE k W (mMeth c m dds mo ma)) :=
  (pe_methSD (pl := pl) he (by rw [hK]; exact hc) (by rw [hK]; exact hm) F hr hb hd (fun σ => passAt tk σ) ha hst hpl ht).cq fun _ _ _ h => le_meth ar hno hdd h
end
end CT
set_option maxHeartbeats 4000000
/-! DL9: built-in functions over data. -/
namespace CT
open PySem L2 PySem.Spec PyProof.Rows
/-! ### data as the library's own -/
mutual
def toP0 : D → Option PyData
  | .non => some .none
  | .bl b => some (.bool b)
  | .int i => some (.int i)
  | .str s => some (.str s)
  | .lst xs => (toP0s xs).map .list
  | .tup xs => (toP0s xs).map .tuple
  | .kt xs => (toP0s xs).map .tuple
  | .scr _ => none | .obj _ _ => none | .dT _ _ => none | .cell _ => none | .exn _ _ => none | .cls _ => none
def toP0s : List D → Option (List PyData)
  | [] => some []
  | d :: ds => match toP0 d, toP0s ds with
    | some p, some ps => some (p :: ps)
    | _, _ => none
end
mutual
/-- cells are looked into, one deep -/
def toP (C : Store) : D → Option PyData
  | .non => some .none
  | .bl b => some (.bool b)
  | .int i => some (.int i)
  | .str s => some (.str s)
  | .lst xs => (toPs C xs).map .list
  | .tup xs => (toPs C xs).map .tuple
  | .kt xs => (toPs C xs).map .tuple
  | .cell i => match C[i]? with
    | some (some (.lst xs)) => (toP0s xs).map .list
    | _ => none
  | .scr _ => none | .obj _ _ => none | .dT _ _ => none | .exn _ _ => none | .cls _ => none
def toPs (C : Store) : List D → Option (List PyData)
  | [] => some []
  | d :: ds => match toP C d, toPs C ds with
    | some p, some ps => some (p :: ps)
    | _, _ => none
end
section
variable {k : Cn} {A : Nat → Addr} {C : Store} {H : Hp}
mutual
theorem toP0_dp : ∀ {v : V} {d : D} {p : PyData}, Rep k A C H v d → toP0 d = some p → Dp k.K H v p
  | _, _, _, .non, e => by simp only [toP0] at e; cases e; exact .non
  | _, _, _, .bl b, e => by simp only [toP0] at e; cases e; exact .bl b
  | _, _, _, .int i, e => by simp only [toP0] at e; cases e; exact .int i
  | _, _, _, .str s, e => by simp only [toP0] at e; cases e; exact .str s
  | _, _, _, .lst l h r, e => by
    simp only [toP0, Option.map_eq_some_iff] at e
    obtain ⟨ps, e1, rfl⟩ := e
    exact .lst (.inl (.inl h)) (toP0s_dp r e1)
  | _, _, _, .tup l h r, e => by
    simp only [toP0, Option.map_eq_some_iff] at e
    obtain ⟨ps, e1, rfl⟩ := e
    exact .tup (.inl (.inl h)) (toP0s_dp r e1)
  | _, _, _, .ktup h r, e => by
    simp only [toP0, Option.map_eq_some_iff] at e
    obtain ⟨ps, e1, rfl⟩ := e
    exact .tup (.inr h) (toP0s_dp r e1)
  | _, _, _, .scr l h r, e => by simp only [toP0] at e; cases e
  | _, _, _, .kscr h r, e => by simp only [toP0] at e; cases e
  | _, _, _, .obj l h z r, e => by simp only [toP0] at e; cases e
  | _, _, _, .exn x l h z r, e => by simp only [toP0] at e; cases e
  | _, _, _, .cls c, e => by simp only [toP0] at e; cases e
  | _, _, _, .dT l h r, e => by simp only [toP0] at e; cases e
  | _, _, _, .cell hi, e => by simp only [toP0] at e; cases e
theorem toP0s_dp : ∀ {vs : List V} {ds : List D} {ps : List PyData}, RepL k A C H vs ds → toP0s ds = some ps → DpAll k.K H vs ps
  | _, _, _, .nil, e => by simp only [toP0s] at e; cases e; exact .nil
  | _, _, _, .cons (d := d) (ds := ds) r t, e => by
    simp only [toP0s] at e
    cases e1 : toP0 d with
    | none => rw [e1] at e; cases e
    | some p =>
      cases e2 : toP0s ds with
      | none => rw [e1, e2] at e; cases e
      | some ps =>
        rw [e1, e2] at e
        cases e
        exact .cons (toP0_dp r e1) (toP0s_dp t e2)
end
mutual
theorem toP_dp (st : StOk k A C H) : ∀ {v : V} {d : D} {p : PyData}, Rep k A C H v d → toP C d = some p → Dp k.K H v p
  | _, _, _, .non, e => by simp only [toP] at e; cases e; exact .non
  | _, _, _, .bl b, e => by simp only [toP] at e; cases e; exact .bl b
  | _, _, _, .int i, e => by simp only [toP] at e; cases e; exact .int i
  | _, _, _, .str s, e => by simp only [toP] at e; cases e; exact .str s
  | _, _, _, .lst l h r, e => by
    simp only [toP, Option.map_eq_some_iff] at e
    obtain ⟨ps, e1, rfl⟩ := e
    exact .lst (.inl (.inl h)) (toPs_dp st r e1)
  | _, _, _, .tup l h r, e => by
    simp only [toP, Option.map_eq_some_iff] at e
    obtain ⟨ps, e1, rfl⟩ := e
    exact .tup (.inl (.inl h)) (toPs_dp st r e1)
  | _, _, _, .ktup h r, e => by
    simp only [toP, Option.map_eq_some_iff] at e
    obtain ⟨ps, e1, rfl⟩ := e
    exact .tup (.inr h) (toPs_dp st r e1)
  | _, _, _, .scr l h r, e => by simp only [toP] at e; cases e
  | _, _, _, .kscr h r, e => by simp only [toP] at e; cases e
  | _, _, _, .obj l h z r, e => by simp only [toP] at e; cases e
  | _, _, _, .exn x l h z r, e => by simp only [toP] at e; cases e
  | _, _, _, .cls c, e => by simp only [toP] at e; cases e
  | _, _, _, .dT l h r, e => by simp only [toP] at e; cases e
  | _, _, _, .cell (i := i) hi, e => by
    simp only [toP] at e
    split at e
    · rename_i xs ec
      simp only [Option.map_eq_some_iff] at e
      obtain ⟨ps, e1, rfl⟩ := e
      obtain ⟨vs, hv, rv⟩ := st.at_ i _ ec
      exact .lst (.inl (.inl hv)) (toP0s_dp rv e1)
    · cases e
theorem toPs_dp (st : StOk k A C H) : ∀ {vs : List V} {ds : List D} {ps : List PyData}, RepL k A C H vs ds → toPs C ds = some ps → DpAll k.K H vs ps
  | _, _, _, .nil, e => by simp only [toPs] at e; cases e; exact .nil
  | _, _, _, .cons (d := d) (ds := ds) r t, e => by
    simp only [toPs] at e
    cases e1 : toP C d with
    | none => rw [e1] at e; cases e
    | some p =>
      cases e2 : toPs C ds with
      | none => rw [e1, e2] at e; cases e
      | some ps =>
        rw [e1, e2] at e
        cases e
        exact .cons (toP_dp st r e1) (toPs_dp st t e2)
end
end
/-! ### == and != of data -/
def oEqD (neg : Bool) : O2 := fun x y C => match toP C x, toP C y with
  | some p, some q => if (SeqAt.shaped p && SeqAt.shaped q) = true then some (.bl (if neg = true then !PyData.eqv p q else PyData.eqv p q), C) else none
  | _, _ => none
theorem d_eqD {k : Cn} : OpD k (rEqD k.K) (oEqD false) := by
  intro fl A C H x y dx dy d C' Q hf hl st rx ry e q
  simp only [oEqD] at e
  split at e
  · rename_i p q' e1 e2
    split at e
    · rename_i hs
      simp only [Bool.and_eq_true] at hs
      cases e
      exact ⟨p, q', toP_dp st rx e1, toP_dp st ry e2, hs.1, hs.2, q A H _ Stp.refl st (.bl _)⟩
    · cases e
  · cases e
theorem d_neD {k : Cn} : OpD k (rNeD k.K) (oEqD true) := by
  intro fl A C H x y dx dy d C' Q hf hl st rx ry e q
  simp only [oEqD] at e
  split at e
  · rename_i p q' e1 e2
    split at e
    · rename_i hs
      simp only [Bool.and_eq_true] at hs
      cases e
      exact ⟨p, q', toP_dp st rx e1, toP_dp st ry e2, hs.1, hs.2, q A H _ Stp.refl st (.bl _)⟩
    · cases e
  · cases e
/-! ### repr -/
def rReprD (K : PySem.W.Frag) : List V → Hp → VK → Prop := fun xs H Q => ∃ v d, xs = [v] ∧ Dp K H v d ∧ d.showable = true ∧ d.hasDict = false ∧ d.depth ≤ 60 ∧ d.shown.length ≤ sizeLine ∧ Q (.str d.shown) H
theorem call_reprD {X : Cx} (hr : RoomG 0 X.A) : CallR X (.builtin "repr") (rReprD X.K) := by
  intro pins s σ H xs us Q I r h
  obtain ⟨v, d, rfl, hd, h1, h2, h3, h4, q⟩ := h
  obtain ⟨u, rfl, ru⟩ := Vals.one r
  have un : X.A.units + 200 < cLine := by have := hr.room.un; omega
  obtain ⟨as, rd⟩ := Dp.reads I d v u hd ru
  have fin : ∀ (t : Tok) (h' : Heap) (tk : Nat), (∀ b o, s.heap.get? b = some o → h'.get? b = some o) → EP X pins σ Q (.str d.shown t) { s with heap := h', toks := tk } := fun t h' tk hk => ⟨.str d.shown, H, I.kept (t' := tk) hk, ⟨_, rfl⟩, q⟩
  cases hd with
  | non =>
    cases ru
    exact PySem.P.repr_of_none (fin _ _ _ fun _ _ e => e)
  | bl b =>
    cases ru
    exact PySem.P.repr_of_bool (fin _ _ _ fun _ _ e => e)
  | int i =>
    obtain ⟨t, rfl⟩ := ru
    exact PySem.P.repr_of_int (by simpa [PyData.showable] using h1) (fin _ _ _ fun _ _ e => e)
  | str x =>
    obtain ⟨t, rfl⟩ := ru
    exact PySem.P.repr_of_str (fin _ _ _ fun _ _ e => e) h4
  | lst hs ha =>
    cases ru
    exact repr_of_reads' rd h1 (PyData.noDict_hsm h2) hr.gd (by omega) (fun _ _ e => e) (fun h' u tk hk => fin u h' tk hk) h4
  | tup hs ha =>
    cases ru
    exact repr_of_reads' rd h1 (PyData.noDict_hsm h2) hr.gd (by omega) (fun _ _ e => e) (fun h' u tk hk => fin u h' tk hk) h4
def repOk (p : PyData) : Bool := p.showable && !p.hasDict && decide (p.depth ≤ 60) && szN p.shown.length
def oRepr : OA := fun xs C => match xs with
  | [d] => match toP C d with
    | some p => if repOk p = true then some (.str p.shown, C) else none
    | none => none
  | _ => none
theorem d_repr {k : Cn} : ApD k (rReprD k.K) oRepr := by
  intro fl A C H x dx d C' Q hf hl st rx e q
  unfold oRepr at e
  split at e
  · rename_i d0
    split at e
    · rename_i p ep
      split at e
      · rename_i ho
        cases e
        cases rx with
        | cons r t =>
          cases t
          simp only [repOk, Bool.and_eq_true, Bool.not_eq_true', decide_eq_true_eq] at ho
          exact ⟨_, p, rfl, toP_dp st r ep, ho.1.1.1, ho.1.1.2, ho.1.2, szN_le ho.2, q A H _ Stp.refl st (.str _)⟩
      · cases e
    · cases e
  · cases e
/-! ### len, sums, least, greatest, conversions -/
def oLen : OA := fun xs C => match xs with
  | [d] => (vS d C).map fun ys => (.int ys.length, C)
  | _ => none
theorem d_len {k : Cn} : ApD k (fun xs H Q => ∃ p ys, xs = [.ref p] ∧ (SqL k.K H p ys ∨ SqT k.K H p ys) ∧ Q (.int ys.length) H) oLen := by
  intro fl A C H x dx d C' Q hf hl st rx e q
  unfold oLen at e
  split at e
  · rename_i d0
    simp only [Option.map_eq_some_iff] at e
    obtain ⟨ys, e1, e2⟩ := e
    cases e2
    cases rx with
    | cons r t =>
      cases t
      obtain ⟨a, vs, rfl, hs, rv⟩ := vS_at st r e1
      exact ⟨a, vs, rfl, hs, q A H _ Stp.refl st (by rw [rv.length]; exact .int _)⟩
  · cases e
def dInts : List D → Option (List Int)
  | [] => some []
  | .int i :: r => (dInts r).map fun l => i :: l
  | _ :: _ => none
theorem dInts_eq : ∀ {ds : List D} {ns : List Int}, dInts ds = some ns → ds = ns.map D.int
  | [], _, e => by cases e; rfl
  | .int i :: r, _, e => by
    simp only [dInts, Option.map_eq_some_iff] at e
    obtain ⟨l, e1, rfl⟩ := e
    rw [dInts_eq e1]
    rfl
  | .non :: _, _, e => by cases e
  | .bl _ :: _, _, e => by cases e
  | .str _ :: _, _, e => by cases e
  | .lst _ :: _, _, e => by cases e
  | .tup _ :: _, _, e => by cases e
  | .scr _ :: _, _, e => by cases e
  | .kt _ :: _, _, e => by cases e
  | .obj _ _ :: _, _, e => by cases e
  | .exn _ _ :: _, _, e => by cases e
  | .cls _ :: _, _, e => by cases e
  | .dT _ _ :: _, _, e => by cases e
  | .cell _ :: _, _, e => by cases e
@[simp] theorem dInts_map (ns : List Int) : dInts (ns.map D.int) = some ns := by
  induction ns with
  | nil => rfl
  | cons n r ih => simp [dInts, ih]
def dBools : List D → Option (List Bool)
  | [] => some []
  | .bl i :: r => (dBools r).map fun l => i :: l
  | _ :: _ => none
theorem dBools_eq : ∀ {ds : List D} {ns : List Bool}, dBools ds = some ns → ds = ns.map D.bl
  | [], _, e => by cases e; rfl
  | .bl i :: r, _, e => by
    simp only [dBools, Option.map_eq_some_iff] at e
    obtain ⟨l, e1, rfl⟩ := e
    rw [dBools_eq e1]
    rfl
  | .non :: _, _, e => by cases e
  | .int _ :: _, _, e => by cases e
  | .str _ :: _, _, e => by cases e
  | .lst _ :: _, _, e => by cases e
  | .tup _ :: _, _, e => by cases e
  | .scr _ :: _, _, e => by cases e
  | .kt _ :: _, _, e => by cases e
  | .obj _ _ :: _, _, e => by cases e
  | .exn _ _ :: _, _, e => by cases e
  | .cls _ :: _, _, e => by cases e
  | .dT _ _ :: _, _, e => by cases e
  | .cell _ :: _, _, e => by cases e
@[simp] theorem dBools_map (ns : List Bool) : dBools (ns.map D.bl) = some ns := by
  induction ns with
  | nil => rfl
  | cons n r ih => simp [dBools, ih]
def oSum : OA := fun xs C => match xs with
  | [d] => (vL d C).bind fun ys => (dInts ys).map fun ns => (.int ns.sum, C)
  | _ => none
def oAny : OA := fun xs C => match xs with
  | [d] => (vL d C).bind fun ys => (dBools ys).map fun ns => (.bl (ns.any id), C)
  | _ => none
theorem d_sum {k : Cn} : ApD k (rSum k.K) oSum := by
  intro fl A C H x dx d C' Q hf hl st rx e q
  unfold oSum at e
  split at e
  · simp only [Option.bind_eq_some_iff, Option.map_eq_some_iff] at e
    obtain ⟨ys, e1, ns, e2, e3⟩ := e
    cases e3
    cases rx with
    | cons r t =>
      cases t
      obtain ⟨a, vs, rfl, ha, rv⟩ := vL_at st r e1
      rw [dInts_eq e2] at rv
      have := rv.ints_inv
      subst this
      exact ⟨a, ns, rfl, .inl (.inl ha), q A H _ Stp.refl st (.int _)⟩
  · cases e
theorem d_any {k : Cn} : ApD k (rAny k.K) oAny := by
  intro fl A C H x dx d C' Q hf hl st rx e q
  unfold oAny at e
  split at e
  · simp only [Option.bind_eq_some_iff, Option.map_eq_some_iff] at e
    obtain ⟨ys, e1, ns, e2, e3⟩ := e
    cases e3
    cases rx with
    | cons r t =>
      cases t
      obtain ⟨a, vs, rfl, ha, rv⟩ := vL_at st r e1
      rw [dBools_eq e2] at rv
      have := rv.bls_inv
      subst this
      exact ⟨a, ns, rfl, .inl (.inl ha), q A H _ Stp.refl st (.bl _)⟩
  · cases e
def o2I (g : Int → Int → Int) : OA := fun xs C => match xs with
  | [.int i, .int j] => some (.int (g i j), C)
  | _ => none
def oMax2 : OA := o2I fun i j => if j > i then j else i
def oMin2 : OA := o2I fun i j => if j < i then j else i
theorem d_2I {k : Cn} (g : Int → Int → Int) : ApD k (fun xs H Q => ∃ i j, xs = [.int i, .int j] ∧ Q (.int (g i j)) H) (o2I g) := by
  intro fl A C H x dx d C' Q hf hl st rx e q
  unfold o2I at e
  split at e
  · rename_i i j
    cases e
    cases rx with
    | cons r t =>
      cases t with
      | cons r2 t2 =>
        cases t2
        cases r
        cases r2
        exact ⟨i, j, rfl, q A H _ Stp.refl st (.int _)⟩
  · cases e
theorem d_max2 {k : Cn} : ApD k (fun xs H Q => ∃ i j, xs = [.int i, .int j] ∧ Q (.int (if j > i then j else i)) H) oMax2 := d_2I _
theorem d_min2 {k : Cn} : ApD k (fun xs H Q => ∃ i j, xs = [.int i, .int j] ∧ Q (.int (if j < i then j else i)) H) oMin2 := d_2I _
def oAbs : OA := fun xs C => match xs with
  | [.int i] => some (.int (if i < 0 then -i else i), C)
  | _ => none
theorem d_abs {k : Cn} : ApD k (fun xs H Q => ∃ i, xs = [.int i] ∧ Q (.int (if i < 0 then -i else i)) H) oAbs := by
  intro fl A C H x dx d C' Q hf hl st rx e q
  unfold oAbs at e
  split at e
  · rename_i i
    cases e
    cases rx with
    | cons r t =>
      cases t
      cases r
      exact ⟨i, rfl, q A H _ Stp.refl st (.int _)⟩
  · cases e
def oInt : OA := fun xs C => match xs with
  | [.int i] => some (.int i, C)
  | [.bl b] => some (.int (if b then 1 else 0), C)
  | _ => none
theorem d_int {k : Cn} : ApD k (fun xs H Q => (∃ i, xs = [.int i] ∧ Q (.int i) H) ∨ ∃ k, xs = [.bl k] ∧ Q (.int (if k then 1 else 0)) H) oInt := by
  intro fl A C H x dx d C' Q hf hl st rx e q
  unfold oInt at e
  split at e
  · rename_i i
    cases e
    cases rx with
    | cons r t =>
      cases t
      cases r
      exact .inl ⟨i, rfl, q A H _ Stp.refl st (.int _)⟩
  · rename_i i
    cases e
    cases rx with
    | cons r t =>
      cases t
      cases r
      exact .inr ⟨i, rfl, q A H _ Stp.refl st (.int _)⟩
  · cases e
/-- tuple(list), tuple(tuple) -/
def oTupOf : OA := fun xs C => match xs with
  | [.tup ys] => some (.tup ys, C)
  | [.kt ys] => some (.kt ys, C)
  | [d] => (vL d C).map fun ys => (.tup ys, C)
  | _ => none
theorem d_tupOf {k : Cn} : ApD k (fun xs H Q => ∃ p ys, xs = [.ref p] ∧ ((SqL k.K H p ys ∧ ∀ l, H l = none → Q (.ref l) (upd H l (.tup ys))) ∨ (SqT k.K H p ys ∧ Q (.ref p) H))) oTupOf := by
  intro fl A C H x dx d C' Q hf hl st rx e q
  unfold oTupOf at e
  split at e
  · cases e
    cases rx with
    | cons r t =>
      cases t
      obtain ⟨a, vs, rfl, hs, rv⟩ := vT_at r rfl
      exact ⟨a, vs, rfl, .inr ⟨hs, q A H _ Stp.refl st r⟩⟩
  · cases e
    cases rx with
    | cons r t =>
      cases t
      obtain ⟨a, vs, rfl, hs, rv⟩ := vT_at r rfl
      exact ⟨a, vs, rfl, .inr ⟨hs, q A H _ Stp.refl st r⟩⟩
  · simp only [Option.map_eq_some_iff] at e
    obtain ⟨ys, e1, e2⟩ := e
    cases e2
    cases rx with
    | cons r t =>
      cases t
      obtain ⟨a, vs, rfl, ha, rv⟩ := vL_at st r e1
      refine ⟨a, vs, rfl, .inl ⟨.inl (.inl ha), fun l hl => ?_⟩⟩
      obtain ⟨w1, w2, w3⟩ := fresh_T (fl := fl) st rv hl
      exact q A _ _ w1 w2 w3
  · cases e
/-! ### + and * of lists, + of tuples -/
def oCat (own : Bool) : O2 := fun x y C => match vL x C, vL y C with
  | some xs, some ys => if szN (xs.length + ys.length) = true then some (mkL own (xs ++ ys) C) else none
  | _, _ => none
theorem d_cat {k : Cn} (own : Bool) : OpD k rCat (oCat own) := by
  intro fl A C H x y dx dy d C' Q hf hl st rx ry e q
  unfold oCat at e
  split at e
  · rename_i xs ys e1 e2
    split at e
    · rename_i hz
      obtain ⟨a, vs, rfl, ha, rv⟩ := vL_at st rx e1
      obtain ⟨b, ws, rfl, hb, rw⟩ := vL_at st ry e2
      refine ⟨a, b, vs, ws, rfl, rfl, ha, hb, by rw [rv.length, rw.length]; exact szN_le hz, fun p hp => ?_⟩
      obtain ⟨A2, w1, w2, w3⟩ := fresh_L (own := own) hf st (rv.append rw) hp
      have e' := Option.some.inj e
      rw [e'] at w1 w2 w3
      exact q A2 _ _ w1 w2 w3
    · cases e
  · cases e
def oCatT : O2 := fun x y C => match vT x, vT y with
  | some xs, some ys => if szN (xs.length + ys.length) = true then (if xs.isEmpty = true then some (y, C) else if ys.isEmpty = true then some (x, C) else some (.tup (xs ++ ys), C)) else none
  | _, _ => none
theorem d_catT {k : Cn} : OpD k (rCatA k.K) oCatT := by
  intro fl A C H x y dx dy d C' Q hf hl st rx ry e q
  unfold oCatT at e
  split at e
  · rename_i xs ys e1 e2
    obtain ⟨a, vs, rfl, ha, rv⟩ := vT_at rx e1
    obtain ⟨b, ws, rfl, hb, rw⟩ := vT_at ry e2
    have z1 : vs = [] ↔ xs = [] := by
      have := rv.length
      constructor
      · intro h; subst h; exact List.length_eq_zero_iff.mp (by simpa using this.symm)
      · intro h; subst h; exact List.length_eq_zero_iff.mp (by simpa using this)
    have z2 : ws = [] ↔ ys = [] := by
      have := rw.length
      constructor
      · intro h; subst h; exact List.length_eq_zero_iff.mp (by simpa using this.symm)
      · intro h; subst h; exact List.length_eq_zero_iff.mp (by simpa using this)
    split at e
    · rename_i hz
      refine ⟨a, b, vs, ws, rfl, rfl, ha, hb, by rw [rv.length, rw.length]; exact szN_le hz, fun h => ?_, fun h h' => ?_, fun h h' p hp => ?_⟩
      · rw [if_pos (by simpa using z1.mp h)] at e
        cases e
        exact q A H _ Stp.refl st ry
      · have n1 : ¬ (xs.isEmpty = true) := by simpa using fun z => h (z1.mpr z)
        rw [if_neg n1, if_pos (by simpa using z2.mp h')] at e
        cases e
        exact q A H _ Stp.refl st rx
      · have n1 : ¬ (xs.isEmpty = true) := by simpa using fun z => h (z1.mpr z)
        have n2 : ¬ (ys.isEmpty = true) := by simpa using fun z => h' (z2.mpr z)
        rw [if_neg n1, if_neg n2] at e
        cases e
        obtain ⟨w1, w2, w3⟩ := fresh_T (fl := fl) st (rv.append rw) hp
        exact q A _ _ w1 w2 w3
    · cases e
  · cases e
/-! ### slices of lists -/
def mNoPart : Fr → Store → R (Option Int) := fun _ C => .ok none C
def mPart (m : ME) : Fr → Store → R (Option Int) := fun F C => bnd (m F C) fun d C1 => match d with
  | .int i => .ok (some i) C1
  | _ => .stuck
def cutD (xs : List D) (lo hi : Option Int) : List D := (xs.drop (HT.sIx xs.length 0 lo)).take (HT.sIx xs.length xs.length hi - HT.sIx xs.length 0 lo)
theorem cutD_rep {k : Cn} {A : Nat → Addr} {C : Store} {H : Hp} {vs : List V} {xs : List D} (r : RepL k A C H vs xs) (lo hi : Option Int) : RepL k A C H (cutV vs lo hi) (cutD xs lo hi) := by
  unfold cutV cutD
  rw [r.length]
  exact (r.drop _).take _
def LO (k : Cn) (W : WX) (m : Fr → Store → R (Option Int)) : TO := fun σ H Q => ∃ A F C, SR k A F C σ H ∧ Aft k F.fl A C H (fun _ _ _ (v d : Option Int) => v = d) (m F C) (fun _ _ _ H' v => Q v H') (fun c d H' => W c d σ H')
def vLs (d : D) (C : Store) : Option (List D) := match d with
  | .scr xs => some xs
  | _ => vL d C
/-- xs[lo:hi] of a list, a new list -/
def mSlL (own : Bool) (a : ME) (l h : Fr → Store → R (Option Int)) : ME := fun F C => bnd (a F C) fun x C1 => bnd (l F C1) fun lo C2 => bnd (h F C2) fun hi C3 => match vLs x C3 with
  | some xs => ofO (some (mkL own (cutD xs lo hi) C3))
  | none => .stuck
section
variable {X : Cx} {k : Cn} {W : WX} {σ : L2.St} {H : Hp} {Q : VK}
theorem _root_.L2.PO.cq {X : Cx} {e : Option Expr} {t t' : TO} (h : PO X e t) (c : ∀ σ H Q, t' σ H Q → t σ H Q) : PO X e t' := ⟨fun pins s σ H Q I q => h.run pins s σ H Q I (c σ H Q q)⟩
theorem do_none : PO X none (LO k W mNoPart) := po_none.cq fun σ H Q h => by
  obtain ⟨A, F, C, s, h⟩ := h
  exact h A H none Stp.refl s.st rfl
theorem do_some {e : Expr} {m : ME} (h : PE X e (LE k W m)) : PO X (some e) (LO k W (mPart m)) := (po_some h).cq fun σ H Q h => by
  obtain ⟨A, F, C, s, h⟩ := h
  refine ⟨A, F, C, s, (Aft.bnd (rel := RepD k) h).mono fun dx C1 A1 H1 x p1 st1 rx h1 => ?_⟩
  cases rx with
  | int i => exact ⟨i, rfl, h1 A1 H1 (some i) Stp.refl st1 rfl⟩
  | _ => exact h1.elim
theorem vLs_at {A : Nat → Addr} {C : Store} {v : V} {d : D} {ds : List D} (st : StOk k A C H) (r : Rep k A C H v d) (e : vLs d C = some ds) : ∃ a vs, v = .ref a ∧ SqL k.K H a vs ∧ RepL k A C H vs ds := by
  cases d with
  | scr xs =>
    cases r with
    | scr l h rv => cases e; exact ⟨_, _, rfl, .inl (.inr ⟨_, h⟩), rv⟩
    | kscr h rv => cases e; exact ⟨_, _, rfl, .inr h, rv⟩
  | lst xs => obtain ⟨a, vs, rfl, ha, rv⟩ := vL_at st r e; exact ⟨a, vs, rfl, .inl (.inl ha), rv⟩
  | cell i => obtain ⟨a, vs, rfl, ha, rv⟩ := vL_at st r e; exact ⟨a, vs, rfl, .inl (.inl ha), rv⟩
  | _ => cases e
theorem le_slL {own : Bool} {ma : ME} {l h' : Fr → Store → R (Option Int)} (h : LE k W (mSlL own ma l h') σ H Q) : tSl (rSlL k.K) (LE k W ma) (LO k W l) (LO k W h') σ H Q := by
  obtain ⟨A, F, C, s, h⟩ := h
  refine ⟨A, F, C, s, (Aft.bnd (rel := RepD k) h).mono fun dx C1 A1 H1 x p1 st1 rx h1 => ?_⟩
  have s1 := s.step p1 st1
  refine ⟨A1, F, C1, s1, (Aft.bnd (rel := fun _ _ _ (v d : Option Int) => v = d) h1).mono fun lo C2 A2 H2 lo' p2 st2 rl h2 => ?_⟩
  have rl : lo' = lo := rl
  subst rl
  have s2 := s1.step p2 st2
  refine ⟨A2, F, C2, s2, (Aft.bnd (rel := fun _ _ _ (v d : Option Int) => v = d) h2).mono fun hi C3 A3 H3 hi' p3 st3 rh h3 => ?_⟩
  have rh : hi' = hi := rh
  subst rh
  have s3 := s2.step p3 st3
  split at h3
  · rename_i xs ev
    obtain ⟨a, vs, rfl, ha, rv⟩ := vLs_at st3 (p3.rep _ _ (p2.rep _ _ rx)) ev
    refine ⟨a, vs, rfl, ha, fun p hp => ?_⟩
    obtain ⟨A4, w1, w2, w3⟩ := fresh_L (own := own) s3.fl st3 (cutD_rep rv lo' hi') hp
    exact h3 A4 _ _ w1 w2 w3
  · exact h3.elim
theorem de_slL (own : Bool) {e : Expr} {lo hi : Option Expr} {p2 pos : Pos} {ma : ME} {l h : Fr → Store → R (Option Int)} (hK : X.K = k.K) (he : PE X e (LE k W ma)) (hl : PO X lo (LO k W l)) (hu : PO X hi (LO k W h)) : PE X (.Subscript e (.Slice lo hi none p2) pos) (LE k W (mSlL own ma l h)) :=
  (pe_slice sl_list he hl hu).cq fun _ _ _ h => by
    rw [hK]
    exact le_slL h
end
end CT
set_option maxHeartbeats 4000000
/-! DLA: instances made, attributes stored, properties, isinstance. -/
namespace CT
open PySem L2 PySem.Spec PyProof.Rows
/-! ### C(..) -/
def mMake (own : Bool) (c nf : Nat) (m : MF) (dds : List D) (a : MA) : ME := fun F C => bnd (a F C) fun ds C1 => match m (.cell C1.length :: (ds ++ dds)) (C1 ++ [some (.ins c [])]) with
  | .ok .non C2 => if own = true then .ok (.cell C1.length) C2 else (match C2[C1.length]? with
    | some (some (.ins c' fs)) => if c' = c ∧ fs.length = nf ∧ cbL C1.length fs = true then .ok (.obj c fs) (C2.take C1.length) else .stuck
    | _ => .stuck)
  | .exc e C2 => if cbL C1.length e.fs = true then .exc e (C2.take C1.length) else .stuck
  | _ => .stuck
def tMakeS (Cc : Addr) (sp : Sp) (dvs : List V) (E : L2.St → XK) (t : TA) : TE := fun σ H Q => t σ H fun vs H1 => ∀ x dx, H1 x = none → H1 dx = none → dx ≠ x →
  sp (.ref x :: (vs ++ dvs)) (upd (upd H1 dx (.own x)) x (.ins Cc dx [])) (fun v H2 => v = .non ∧ Q (.ref x) H2) (E σ)
section
variable {X : Cx} {k : Cn} {W : WX} {σ : L2.St} {H : Hp} {Q : VK} {lev : Nat} {f C p g : Addr} {fd : FuncData} {ps : List Str} {np : Nat} {m : MF} {dvs : List V} {dds : List D} {ds : List Value} {x nm : Str} {pn pos apos : Pos} {e o : Expr} {es : List Expr} {ma : MA} {mo : ME}
theorem le_make {own : Bool} {c nf : Nat} (ar : Ar np m) (hnf : (k.fn c).length = nf) (hdd : ∀ A C H, RepL k A C H dvs dds) (h : LE k W (mMake own c nf m dds ma) σ H Q) : tMakeS (k.cl c) (SpD k np m) dvs (WE W) (LA k W ma) σ H Q := by
  obtain ⟨A, F, C, s, h⟩ := h
  refine ⟨A, F, C, s, (Aft.bnd (rel := RepDs k) h).mono fun xs C1 A1 H1 vs p1 st1 r1 h1 => ?_⟩
  have s1 := s.step p1 st1
  intro x dx hx hdx hne
  have hx' : (upd H1 dx (.own x)) x = none := by rw [upd_ne (Ne.symm hne)]; exact hx
  have k1 : Kp A1 C1 H1 A1 C1 (upd H1 dx (.own x)) := kp_new hdx
  have st2 : StOk k A1 C1 (upd H1 dx (.own x)) := st1.new hdx
  have k2 : Kp A1 C1 (upd H1 dx (.own x)) (ext A1 C1.length x) (C1 ++ [some (.ins c [])]) (upd (upd H1 dx (.own x)) x (.ins (k.cl c) dx [])) := kp_cell (k := k) st2 hx'
  have st3 : StOk k (ext A1 C1.length x) (C1 ++ [some (.ins c [])]) (upd (upd H1 dx (.own x)) x (.ins (k.cl c) dx [])) := st2.cell hx' ⟨dx, [], upd_same, Nat.zero_le _, .nil⟩
  have pp : Stp k C1.length A1 C1 H1 (ext A1 C1.length x) (C1 ++ [some (.ins c [])]) (upd (upd H1 dx (.own x)) x (.ins (k.cl c) dx [])) := (k1.stp0).trans (k2.stp fun f h1 h2 l => low_app h2 l)
  have ppF := pp.less s1.fl
  have n1 : C1.length < (C1 ++ [some (Cell.ins c [])]).length := by simp
  have rs : RepL k (ext A1 C1.length x) (C1 ++ [some (.ins c [])]) (upd (upd H1 dx (.own x)) x (.ins (k.cl c) dx [])) (.ref x :: (vs ++ dvs)) (.cell C1.length :: (xs ++ dds)) := .cons (rep_new C1.length _) ((pp.reps r1).append (hdd _ _ _))
  have low0 : LowC C1.length (C1 ++ [some (Cell.ins c [])]) := low_app (Nat.le_refl _) st1.low
  refine sp_of (fl := C1.length) (Nat.le_of_lt n1) ar st3 rs ?_
  cases em : m (.cell C1.length :: (xs ++ dds)) (C1 ++ [some (.ins c [])]) with
  | ok d C2 =>
    rw [em] at h1
    intro A3 H3 v p3 st4 r3
    obtain ⟨ha3, hl3⟩ := cell_at p3 (ext_at A1 C1.length x) n1
    have p3n : Stp k C1.length A1 C1 H1 A3 C2 H3 := pp.trans p3
    have low3 : LowC C1.length C2 := p3.low _ (Nat.le_refl _) (Nat.le_of_lt n1) low0
    cases d with
    | non =>
      cases r3
      refine ⟨rfl, ?_⟩
      simp only at h1
      cases own with
      | true =>
        rw [if_pos rfl] at h1
        have r : Rep k A3 C2 H3 (.ref (A3 C1.length)) (.cell C1.length) := .cell hl3
        rw [ha3] at r
        exact h1 A3 H3 _ (p3n.less s1.fl) st4 r
      | false =>
        rw [if_neg (by decide)] at h1
        split at h1
        · rename_i c' fs ec
          split at h1
          · rename_i hc
            obtain ⟨rfl, hfs, hcb⟩ := hc
            obtain ⟨dx3, ws, hw, hle, rw3⟩ := st4.at_ _ _ ec
            have tl : (C2.take C1.length).length = C1.length := by rw [List.length_take]; omega
            have p4 : Stp k F.fl A1 C1 H1 A3 (C2.take C1.length) H3 := ⟨fun v d r => (p3n.rep v d r).cut (Nat.le_of_lt hl3) r.cb, by rw [tl]; exact Nat.le_refl _, fun f h1 h2 l => low_take ((p3n.less s1.fl).low f h1 h2 l)⟩
            refine h1 A3 H3 _ p4 (st4.take (Nat.le_of_lt hl3) low3) ?_
            rw [← ha3]
            refine .obj (fun l => ?_) (dx := dx3) (vs := ws) ?_ ?_ (rw3.cut (Nat.le_of_lt hl3) hcb)
            · obtain ⟨i, c, e, z⟩ := l
              by_cases hi : i < C1.length
              · rw [List.getElem?_take_of_lt hi] at e
                exact absurd (st4.inj i _ _ _ e ec z) (Nat.ne_of_lt hi)
              · rw [List.getElem?_eq_none (by rw [tl]; omega)] at e
                cases e
            · rw [hw, hfs, ← hnf, List.take_length]
            · rw [rw3.length, hfs, hnf]
          · exact h1.elim
        · exact h1.elim
    | _ => simp only at h1; exact h1.elim
  | exc e C2 =>
    rw [em] at h1
    simp only at h1
    intro A3 H3 dd ws p3 st4 hx3 hl3' r3
    obtain ⟨ha3, hl3⟩ := cell_at p3 (ext_at A1 C1.length x) n1
    have p3n : Stp k C1.length A1 C1 H1 A3 C2 H3 := pp.trans p3
    have low3 : LowC C1.length C2 := p3.low _ (Nat.le_refl _) (Nat.le_of_lt n1) low0
    split at h1
    · rename_i hcb
      have tl : (C2.take C1.length).length = C1.length := by rw [List.length_take]; omega
      have p4 : Stp k F.fl A1 C1 H1 A3 (C2.take C1.length) H3 := ⟨fun v d r => (p3n.rep v d r).cut (Nat.le_of_lt hl3) r.cb, by rw [tl]; exact Nat.le_refl _, fun f h1 h2 l => low_take ((p3n.less s1.fl).low f h1 h2 l)⟩
      exact h1 A3 H3 dd ws p4 (st4.take (Nat.le_of_lt hl3) low3) hx3 hl3' (r3.cut (Nat.le_of_lt hl3) hcb)
    · exact h1.elim
  | stuck =>
    rw [em] at h1
    exact h1.elim
/-! ### o.f = e -/
def sFldS (c n : Nat) (me mo : ME) : MS := fun F C => bndS F.sl (me F C) fun v C1 => bndS F.sl (mo F C1) fun o C2 => match o with
  | .cell i => match C2[i]? with
    | some (some (.ins c' fs)) => if c' = c ∧ n ≤ fs.length then (match wr F.fl i (.ins c (if n < fs.length then fs.set n v else fs ++ [v])) C2 with
      | some C3 => .nx F.sl C3
      | none => .stuck) else .stuck
    | _ => .stuck
  | _ => .stuck
end
theorem putF_set {y : V} {f : Str} : ∀ {names : List Str} {vs : List V} {n : Nat}, names.Nodup → vs.length = names.length → names[n]? = some f → putF f y (names.zip vs) = names.zip (vs.set n y)
  | [], _, _, _, _, h => by simp at h
  | a :: r, [], _, _, hl, _ => by simp at hl
  | a :: r, b :: t, 0, nd, hl, h => by
    simp at h
    subst h
    simp [putF]
  | a :: r, b :: t, n + 1, nd, hl, h => by
    simp at h hl
    simp only [List.nodup_cons] at nd
    have ne : ¬ (a = f) := fun e => nd.1 (by rw [e]; exact List.mem_of_getElem? h)
    rw [List.zip_cons_cons, List.set_cons_succ, List.zip_cons_cons]
    show (if a = f then _ else (a, b) :: putF f y (r.zip t)) = _
    rw [if_neg ne, putF_set nd.2 hl h]
theorem putF_new {y : V} {f : Str} : ∀ {names : List Str} {vs : List V}, f ∉ names → vs.length = names.length → putF f y (names.zip vs) = (names ++ [f]).zip (vs ++ [y])
  | [], [], _, _ => rfl
  | [], _ :: _, _, hl => by simp at hl
  | a :: r, [], _, hl => by simp at hl
  | a :: r, b :: t, h, hl => by
    simp only [List.mem_cons, not_or] at h
    simp at hl
    rw [List.zip_cons_cons]
    show (if a = f then _ else (a, b) :: putF f y (r.zip t)) = _
    rw [if_neg (fun e => h.1 e.symm), putF_new h.2 hl]
    rfl
section
variable {X : Cx} {k : Cn} {W : WX} {σ : L2.St} {H : Hp} {E : Ends} {e o : Expr} {me mo : ME} {pos pos' : Pos}
theorem ls_fld {c n : Nat} {f : Str} (hc : Cls k.K (k.cl c)) (hno : NoAttr k.K (k.cl c) f) (nd : (k.fn c).Nodup) (hf : (k.fn c)[n]? = some f) (h9 : (k.fn c).length < 1000) (h : LS k W (sFldS c n me mo) E σ H) : sFld k.K (LE k W mo) (LE k W me) f E σ H := by
  obtain ⟨A, F, C, s, h⟩ := h
  refine ⟨A, F, C, s, (AftS.bnd (rel := RepD k) s h).mono fun dv C1 A1 H1 v p1 st1 rv h1 => ?_⟩
  have s1 := s.step p1 st1
  refine ⟨A1, F, C1, s1, (AftS.bnd (rel := RepD k) s1 h1).mono fun dO C2 A2 H2 o p2 st2 ro h2 => ?_⟩
  have s2 := s1.step p2 st2
  cases ro with
  | @cell i hi =>
    simp only at h2
    split at h2
    · rename_i c' fs ec
      split at h2
      · rename_i hcn
        obtain ⟨rfl, hn⟩ := hcn
        cases ew : wr F.fl i (.ins c' (if n < fs.length then fs.set n dv else fs ++ [dv])) C2 with
        | none => simp only [ew] at h2; exact h2.elim
        | some C3 =>
          simp only [ew] at h2
          obtain ⟨dx, vs, ha, hle, rvs⟩ := st2.at_ i _ ec
          have hnl : n < (k.fn c').length := (List.getElem?_eq_some_iff.mp hf).1
          obtain ⟨rfl, hcb⟩ := wr_some ew
          have hz : (((k.fn c').take fs.length).zip vs).length < 1000 := by rw [List.length_zip, List.length_take]; omega
          refine ⟨A2 i, k.cl c', dx, _, rfl, ha, hc, hno, hz, ?_⟩
          have vl : vs.length = ((k.fn c').take fs.length).length := by rw [rvs.length, List.length_take]; omega
          have rv2 := p2.rep _ _ rv
          by_cases hlt : n < fs.length
          · rw [if_pos hlt] at h2 hcb
            have e1 : putF f v (((k.fn c').take fs.length).zip vs) = ((k.fn c').take (fs.set n dv).length).zip (vs.set n v) := by
              rw [List.length_set]
              exact putF_set (nd.sublist (List.take_sublist _ _)) vl (by rw [List.getElem?_take_of_lt hlt]; exact hf)
            rw [e1]
            have q : Kp A2 C2 H2 A2 (C2.set i (some (.ins c' (fs.set n dv)))) (upd H2 (A2 i) (.ins (k.cl c') dx (((k.fn c').take (fs.set n dv).length).zip (vs.set n v)))) := kp_write ec
            have w1 : Stp k F.fl A2 C2 H2 A2 _ _ := q.stp fun f h1 h2 l => low_set hcb h1 l
            have w2 : StOk k A2 _ _ := st2.write ec (c := .ins c' (fs.set n dv)) ⟨dx, vs.set n v, upd_same, by simpa using hle, (rvs.set rv2 n).kp q⟩
            exact h2 A2 σ _ w1 (s2.step w1 w2)
          · have en : n = fs.length := by omega
            rw [if_neg hlt] at h2 hcb
            have e1 : putF f v (((k.fn c').take fs.length).zip vs) = ((k.fn c').take (fs ++ [dv]).length).zip (vs ++ [v]) := by
              have e2 : (k.fn c').take (fs ++ [dv]).length = (k.fn c').take fs.length ++ [f] := by
                rw [List.length_append, List.length_singleton, List.take_add_one, ← en, hf]
                rfl
              rw [e2]
              refine putF_new (fun hm => ?_) vl
              obtain ⟨j, hj⟩ := List.mem_iff_getElem?.mp hm
              have hjl : j < fs.length := by
                have := (List.getElem?_eq_some_iff.mp hj).1
                rw [List.length_take] at this
                omega
              rw [List.getElem?_take_of_lt hjl] at hj
              have := nd_ix nd hj hf
              omega
            rw [e1]
            have q : Kp A2 C2 H2 A2 (C2.set i (some (.ins c' (fs ++ [dv])))) (upd H2 (A2 i) (.ins (k.cl c') dx (((k.fn c').take (fs ++ [dv]).length).zip (vs ++ [v])))) := kp_write ec
            have w1 : Stp k F.fl A2 C2 H2 A2 _ _ := q.stp fun f h1 h2 l => low_set hcb h1 l
            have w2 : StOk k A2 _ _ := st2.write ec (c := .ins c' (fs ++ [dv])) ⟨dx, vs ++ [v], upd_same, by simp; omega, (rvs.append (.cons rv2 .nil)).kp q⟩
            exact h2 A2 σ _ w1 (s2.step w1 w2)
      · exact h2.elim
    · exact h2.elim
  | _ => exact h2.elim
theorem ds_fld (c n : Nat) {f : Str} (hK : X.K = k.K) (hc : Cls k.K (k.cl c)) (hno : NoAttr k.K (k.cl c) f) (nd : (k.fn c).Nodup) (hf : (k.fn c)[n]? = some f) (h9 : (k.fn c).length < 1000) (ho : PE X o (LE k W mo)) (he : PE X e (LE k W me)) (hs : swapsWith e (some (.Attribute o f pos')) pos.line X.env = pure false := by rfl) :
    PS X (.Assign [.Attribute o f pos'] e pos) (LS k W (sFldS c n me mo)) := (ps_fld ho he hs).cq fun _ _ _ h => by
  rw [hK]
  exact ls_fld hc hno nd hf h9 h
end
end CT
set_option maxHeartbeats 4000000
/-! DLB: properties, isinstance, comprehensions as statements, two clauses. -/
namespace CT
open PySem L2 PySem.Spec PyProof.Rows
/-! ### o.f, a property -/
def mProp (c : Nat) (m : MF) (mo : ME) : ME := fun F C => bnd (mo F C) fun x C1 => match vO x C1 with
  | some (c', _) => if c' = c then (match m [x] C1 with
    | .ok d C2 => .ok d C2
    | _ => .stuck) else .stuck
  | none => .stuck
def tPropS (Cc : Addr) (sp : Sp) (ta : TE) : TE := fun σ H Q => ta σ H fun x H1 => ∃ a dx fs, x = .ref a ∧ H1 a = some (.ins Cc dx fs) ∧ sp [.ref a] H1 Q E0
section
variable {X : Cx} {k : Cn} {W : WX} {σ : L2.St} {H : Hp} {Q : VK} {lev : Nat} {C p g a dx : Addr} {fs : List (Str × V)} {f : Str} {fd : FuncData} {ps : List Str} {np : Nat} {m : MF} {e o : Expr} {pos : Pos} {ta : TE} {mo : ME}
theorem getprop_G {sp : Sp} {pins : List (Addr × Obj)} {σ : L2.St} {H : Hp} {s : Shared} {Q : VK} {b : Bool} (I : Inv X pins σ H s) (ea : H a = some (.ins C dx fs)) (c : Cls X.K C) (hp : PropOf X.K C f p g)
    (F : FnG X.prog X.w X.K X.mg X.base lev g fd ps sp) (hr : RoomG (lev + 1) X.A) (hb : Binds X.K fd ps []) (h : sp [.ref a] H Q E0) :
    wpAny (model X.prog X.w) X.A (getAttr (.ref a) f b) (EP X pins σ Q) X.xe s := by
  obtain ⟨mA, O, _, _, _, _⟩ := ins_get I.hok ea
  obtain ⟨od, J, _⟩ := O.look
  obtain ⟨rest, hrec⟩ := hp.rec_
  have I1 := I.tok (s.toks + 1)
  have hl : ([Value.ref a] ++ []).length = ps.length := by
    rw [← F.len _ _ _ _ h]
    rfl
  have hc : (PySem.W.clsIn X.K C).isSome = true := by
    obtain ⟨cd, hc, _⟩ := PySem.W.any_some c.hd
    rw [hc]
    rfl
  refine PySem.W.get_bind I.kIn J (PySem.W.plainGet_of (c.get f)).1 (PySem.W.findObj_data hc hp.at_ hp.get hp.tak) (PySem.W.plainGet_of (c.get f)).2 (wpAny_call (PySem.W.prop_get (s := { s with toks := s.toks + 1 }) I.kIn hrec ?_))
  refine codeAny_mono (F.run X.A.in1 X.stack { s with toks := s.toks + 1 } H ⟨[.ref a], []⟩ [.ref a] [.ref a] Q E0 hr.in1 I1.env0.in1 (by simpa using hb _ [.ref a] I1.kIn hl) (.cons rfl .nil) h) fun r s' hq => ?_
  cases r with
  | error er =>
    obtain ⟨_, _, _, _, _, _, _, _, _, _, _, _, z⟩ := hq
    exact z.elim
  | ok fl =>
    cases fl with
    | ret u =>
      obtain ⟨v, H', I3, rv, q3⟩ := I1.after hq
      show wpAny _ _ (handedOut u) _ _ _
      rw [PySem.W.handedOut_of (handed_of rv)]
      exact wpAny_pure ⟨v, H', I3, rv, q3⟩
    | next => exact False.elim hq
    | brk => exact False.elim hq
    | cont => exact False.elim hq
theorem pe_propG {sp : Sp} (he : PE X e ta) (c : Cls X.K C) (hp : PropOf X.K C f p g) (F : FnG X.prog X.w X.K X.mg X.base lev g fd ps sp) (hr : RoomG (lev + 1) X.A) (hb : Binds X.K fd ps [])
    (hab : attributeBase e f X.env (eval e X.env) = eval e X.env) : PE X (.Attribute e f pos) (tPropS C sp ta) := by
  refine ⟨fun pins s σ H Q I h => ?_⟩
  refine attr_of hab (thn (he.run pins s σ H _ I h) fun u s1 ⟨x, H1, I1, rx, a, dx, fs, ex, ea, q⟩ => ?_)
  subst ex
  obtain rfl : u = Value.ref a := rx
  exact getprop_G I1 ea c hp F hr hb q
theorem le_prop {c : Nat} (ar : Ar np m) (h : LE k W (mProp c m mo) σ H Q) : tPropS (k.cl c) (SpD k np m) (LE k W mo) σ H Q := by
  obtain ⟨A, F, C, s, h⟩ := h
  refine ⟨A, F, C, s, (Aft.bnd (rel := RepD k) h).mono fun dx C1 A1 H1 v p1 st1 r1 h1 => ?_⟩
  split at h1
  · rename_i c' fs ev
    split at h1
    · rename_i hcc
      subst hcc
      obtain ⟨a, dx', vs, rfl, ha, hle, rv⟩ := vO_at st1 r1 ev
      refine ⟨a, dx', _, rfl, ha, sp_of (s.step p1 st1).fl ar st1 (.cons r1 .nil) ?_⟩
      cases em : m [dx] C1 with
      | ok d C2 => rw [em] at h1; exact h1
      | exc e C2 => rw [em] at h1; exact h1.elim
      | stuck => rw [em] at h1; exact h1.elim
    · exact h1.elim
  · exact h1.elim
theorem de_prop (c : Nat) (hK : X.K = k.K) (he : PE X o (LE k W mo)) (hc : Cls k.K (k.cl c)) (hp : PropOf k.K (k.cl c) f p g) (F : FnG X.prog X.w X.K X.mg X.base lev g fd ps (SpD k np m)) (ar : Ar np m) (hr : RoomG (lev + 1) X.A) (hb : Binds X.K fd ps [])
    (hab : attributeBase o f X.env (eval o X.env) = eval o X.env := by rfl) : PE X (.Attribute o f pos) (LE k W (mProp c m mo)) :=
  (pe_propG he (by rw [hK]; exact hc) (by rw [hK]; exact hp) F hr hb hab).cq fun _ _ _ h => le_prop ar h
end
/-! ### isinstance -/
inductive Bt where
  | int | bool | str | list | tuple | dict | none
  deriving DecidableEq
def Bt.name : Bt → String
  | .int => "int" | .bool => "bool" | .str => "str" | .list => "list" | .tuple => "tuple" | .dict => "dict" | .none => "NoneType"
inductive Cc where
  | ty (b : Bt) | own (c : Nat)
def isaT : Bt → Bt → Bool
  | .bool, .int => true
  | a, b => decide (a = b)
theorem isaT_ok : ∀ a b : Bt, kitB a.name b.name = some (isaT a b) := by
  intro a b
  cases a <;> cases b <;> decide +kernel
def tyD (d : D) (C : Store) : Option Cc := match d with
  | .non => some (.ty .none) | .bl _ => some (.ty .bool) | .int _ => some (.ty .int) | .str _ => some (.ty .str)
  | .lst _ => some (.ty .list) | .tup _ => some (.ty .tuple) | .kt _ => some (.ty .tuple) | .dT _ _ => some (.ty .dict)
  | .obj c _ => some (.own c)
  | .scr _ => none
  | .exn _ _ => none
  | .cls _ => none
  | .cell i => match C[i]? with
    | some (some (.lst _)) => some (.ty .list)
    | some (some (.dT _ _)) => some (.ty .dict)
    | some (some (.ins c _)) => some (.own c)
    | _ => none
def isi (kn : List Nat) (d : D) (C : Store) (t : Cc) : Option Bool := match tyD d C with
  | some (.ty a) => (match t with
    | .ty b => some (isaT a b)
    | .own _ => some false)
  | some (.own c) => if c ∈ kn then (match t with
    | .ty _ => some false
    | .own c' => some (decide (c = c'))) else none
  | none => none
def mIsi (kn : List Nat) (t : Cc) (m : ME) : ME := fun F C => bnd (m F C) fun d C1 => match isi kn d C1 t with
  | some b => .ok (.bl b) C1
  | none => .stuck
def mIsi2 (kn : List Nat) (t u : Cc) (m : ME) : ME := fun F C => bnd (m F C) fun d C1 => match isi kn d C1 t, isi kn d C1 u with
  | some b, some b' => .ok (.bl (b || b')) C1
  | _, _ => .stuck
/-- what the written part says of the own classes in kn -/
structure IsaOk (k : Cn) (kn : List Nat) : Prop where
  ins : ∀ c ∈ kn, C8.InsC k.K (k.cl c)
  own : ∀ c ∈ kn, ∀ c' ∈ kn, PySem.W.kitOne k.K (.ref (k.cl c)) (.ref (k.cl c')) = some (decide (c = c'))
  bty : ∀ c ∈ kn, ∀ b : Bt, PySem.W.kitOne k.K (.ref (k.cl c)) (.type b.name) = some false
  tyb : ∀ c ∈ kn, ∀ b : Bt, PySem.W.kitOne k.K (.type b.name) (.ref (k.cl c)) = some false
def Cc.val (k : Cn) : Cc → Value
  | .ty b => .type b.name
  | .own c => .ref (k.cl c)
def Cc.v (k : Cn) : Cc → V
  | .ty b => .ty b.name
  | .own c => .ref (k.cl c)
def Cc.inn (kn : List Nat) : Cc → Bool
  | .ty _ => true
  | .own c => decide (c ∈ kn)
theorem Cc.cls {k : Cn} (t : Cc) : ClsV (t.v k) (t.val k) := by
  cases t with
  | ty b => exact .ty _
  | own c => exact .own _
section
variable {X : Cx} {k : Cn} {W : WX} {σ : L2.St} {H : Hp} {Q : VK}
theorem isi_ok {kn : List Nat} (ok : IsaOk k kn) {A : Nat → Addr} {C : Store} {v : V} {d : D} {t : Cc} {b : Bool} (ht : t.inn kn = true) (st : StOk k A C H) (r : Rep k A C H v d) (e : isi kn d C t = some b) : ∃ c0 : Cc, tyD d C = some c0 ∧ TyX k.K H v (c0.val k) ∧ PySem.W.kitOne k.K (c0.val k) (t.val k) = some b := by
  have base : ∀ a : Bt, tyD d C = some (.ty a) → PySem.W.kitOne k.K (.type a.name) (t.val k) = some b := fun a ea => by
    unfold isi at e
    rw [ea] at e
    cases t with
    | ty b' =>
      cases e
      exact kit_ty (isaT_ok a b')
    | own c =>
      cases e
      exact ok.tyb c (of_decide_eq_true ht) a
  have inst : ∀ c fs dx (a : Addr), tyD d C = some (.own c) → H a = some (.ins (k.cl c) dx fs) → ∃ c0 : Cc, tyD d C = some c0 ∧ TyX k.K H (.ref a) (c0.val k) ∧ PySem.W.kitOne k.K (c0.val k) (t.val k) = some b := fun c fs dx a ea ha => by
    unfold isi at e
    rw [ea] at e
    simp only at e
    split at e
    · rename_i hc
      have I := ok.ins c hc
      refine ⟨.own c, ea, .base (.ins ha I.cl I.ha I.hn I.htk I.hm), ?_⟩
      cases t with
      | ty b' => cases e; exact ok.bty c hc b'
      | own c' => cases e; exact ok.own c hc c' (of_decide_eq_true ht)
    · cases e
  cases r with
  | non => exact ⟨.ty .none, rfl, .base .non, base .none rfl⟩
  | bl b => exact ⟨.ty .bool, rfl, .base (.bl b), base .bool rfl⟩
  | int i => exact ⟨.ty .int, rfl, .base (.int i), base .int rfl⟩
  | str s => exact ⟨.ty .str, rfl, .base (.str s), base .str rfl⟩
  | lst l h rv => exact ⟨.ty .list, rfl, .base (.lst h), base .list rfl⟩
  | tup l h rv => exact ⟨.ty .tuple, rfl, .base (.tup h), base .tuple rfl⟩
  | ktup h rv =>
    obtain ⟨o, its, n, h1, h2, _⟩ := h
    exact ⟨.ty .tuple, rfl, .kTuple h1 h2, base .tuple rfl⟩
  | scr l h rv => cases e
  | kscr h rv => cases e
  | obj l h z rv => exact inst _ _ _ _ rfl h
  | exn x l h z rv => cases e
  | cls c => cases e
  | dT l h rv => exact ⟨.ty .dict, rfl, .base (.dT h), base .dict rfl⟩
  | @cell i hi =>
    cases ec : C[i]? with
    | none => simp only [isi, tyD, ec] at e; cases e
    | some oc =>
      cases oc with
      | none => simp only [isi, tyD, ec] at e; cases e
      | some c =>
        cases c with
        | lst xs =>
          obtain ⟨vs, hv, _⟩ := st.at_ i _ ec
          exact ⟨.ty .list, by simp only [tyD, ec], .base (.lst hv), base .list (by simp only [tyD, ec])⟩
        | dT ks xs =>
          obtain ⟨vs, hv, _⟩ := st.at_ i _ ec
          exact ⟨.ty .dict, by simp only [tyD, ec], .base (.dT hv), base .dict (by simp only [tyD, ec])⟩
        | ins c xs =>
          obtain ⟨dx, vs, hv, _⟩ := st.at_ i _ ec
          exact inst c _ dx _ (by simp only [tyD, ec]) hv
theorem le_isi {kn : List Nat} {t : Cc} {m : ME} (ok : IsaOk k kn) (ht : t.inn kn = true) (h : LE k W (mIsi kn t m) σ H Q) : tCB (rIsi k.K) (tCons (LE k W m) (tCons (tC (t.v k)) tNil)) σ H Q := by
  obtain ⟨A, F, C, s, h⟩ := h
  refine ⟨A, F, C, s, (Aft.bnd (rel := RepD k) h).mono fun d C1 A1 H1 v p1 st1 r1 h1 => ?_⟩
  split at h1
  · rename_i b e
    obtain ⟨c0, _, h2, h3⟩ := isi_ok ok ht st1 r1 e
    exact ⟨v, t.v k, c0.val k, t.val k, b, rfl, t.cls, h2, h3, h1 A1 H1 _ Stp.refl st1 (.bl b)⟩
  · exact h1.elim
end
end CT
set_option maxHeartbeats 4000000
/-! DLC: isinstance as an expression; comprehensions that are assigned, and of two clauses; xs[i] += e; membership; list(range(..)). -/
namespace CT
open PySem L2 PySem.Spec PyProof.Rows
section
variable {X : Cx} {k : Cn} {W : WX} {σ : L2.St} {H : Hp} {Q : VK} {E : Ends}
theorem de_isi {e c : Expr} {p pos : Pos} {kn : List Nat} {t : Cc} {m : ME} (hg : Gl X "isinstance") (hm : X.mg "isinstance" = none) (ok : IsaOk k kn) (ht : t.inn kn = true) (hK : X.K = k.K) (he : PE X e (LE k W m)) (hc : PE X c (tC (t.v k)))
    (hs : starEach [e, c] X.env = (false, eval e X.env) :: starEach [c] X.env := by rfl) (hs2 : starEach [c] X.env = (false, eval c X.env) :: starEach [] X.env := by rfl) (hpl : (backTo pos (starEach [c] X.env)).any (·.1) = false := by rfl) : PE X (.Call (.Name "isinstance" p) [e, c] [] pos) (LE k W (mIsi kn t m)) :=
  (pe_callB call_isi hg hm (by decide +kernel) (pa_cons he (pa_cons hc pa_nil hs2) hs) (he := hs) (hpl := hpl)).cq fun _ _ _ h => by
    rw [hK]
    exact le_isi ok ht h
/-! ### tests of a clause -/
def tYesM : MT := fun _ C => .ok true C
theorem _root_.L2.PTs.cq {X : Cx} {e : List Expr} {t t' : TT} (h : PTs X e t) (c : ∀ σ H Q, t' σ H Q → t σ H Q) : PTs X e t' := ⟨fun pins s σ H Q I q => h.run pins s σ H Q I (c σ H Q q)⟩
theorem dts_nil : PTs X [] (LT k W tYesM) := pts_nil.cq fun σ H Q h => by
  obtain ⟨A, F, C, s, h⟩ := h
  exact h A H true Stp.refl s.st rfl
/-! ### y = [..] -/
/-! ### two clauses -/
def lc2N (it : ItD) (g : MG) (tt : MT) (mi1 : MI) (g1 : MG) (tt1 : MT) (te : ME) (n : Nat) (sl : List (Option D)) (vs1 : List Nat) : Nat → Nat → Store → R Unit
  | 0, _, C => if it.fin C = true then .ok () C else .stuck
  | r + 1, j, C => match it.item j C with
    | none => .stuck
    | some d => match g d sl with
      | none => .stuck
      | some sl1 => bn0 (tt ⟨n, sl1⟩ C) fun b C1 => if b = true then bn0 (mi1 ⟨n, sl1⟩ C1) fun it1 C2 => bn0 (lcN it1 g1 tt1 te n (wipeD sl1 vs1) it1.n 0 C2) fun _ C3 => lc2N it g tt mi1 g1 tt1 te n sl vs1 r (j + 1) C3
        else lc2N it g tt mi1 g1 tt1 te n sl vs1 r (j + 1) C1
def mLc2 (own : Bool) (mi : MI) (g : MG) (tt : MT) (mi1 : MI) (g1 : MG) (tt1 : MT) (te : ME) (vs vs1 : List Nat) : ME := fun F C => bnd (mi F C) fun it C1 => bn0 (lc2N it g tt mi1 g1 tt1 te C1.length (wipeD F.sl vs) vs1 it.n 0 (C1 ++ [some (.lst [])])) fun _ C2 => lcEnd own C1.length C2
theorem bn0_out {α β : Type} {m : R α} {f : α → Store → R β} {b : β} {C : Store} (h : bn0 m f = .ok b C) : ∃ a C1, m = .ok a C1 ∧ f a C1 = .ok b C := by
  cases m with
  | ok a C1 => exact ⟨a, C1, rfl, h⟩
  | exc e C1 => cases h
  | stuck => cases h
/-- the inner loop -/
theorem lc_inner {fl n : Nat} {J : It} {it : ItD} {t : Tgt} {tt : MT} {te : ME} {vs : List Nat} {sl0 : List (Option D)} {A : Nat → Addr} {C C3 : Store} {Dl : Addr} {Nx : Hp → Prop} (hv : ∀ i ∈ t.slots, i ∈ vs) (hf : fl ≤ n) (ok : ItOk k fl J it A C H) (sr : SR k A ⟨n, sl0⟩ C σ H) (hn : n < C.length) (ha : A n = Dl)
    (e : lcN it t.M tt te n (wipeD sl0 vs) it.n 0 C = .ok () C3) (hN : ∀ A' H', Stp k n A C H A' C3 H' → StOk k A' C3 H' → Nx H') :
    ∃ W1 : Nat → Nat → Hp → Prop, (∃ m, W1 0 m H) ∧ ∀ i m H, W1 i m H → (J.stop i H ∧ Nx H) ∨ (J.go i H ∧ ∃ Nx1 : Hp → Prop, (∀ H', Nx1 H' → ∃ m', m' < m ∧ W1 (i + 1) m' H') ∧ ∀ x H', J.yld i H x H' → t.T k.K x (L2.wipe σ vs) H' fun σ3 H5 => L2.wipe σ3 vs = L2.wipe σ vs ∧ LT k WF tt σ3 H5 fun b H6 =>
      if b = true then LE k WF te σ3 H6 fun y H7 => ∃ acc, H7 Dl = some (.lst acc) ∧ acc.length < sizeLine ∧ Nx1 (upd H7 Dl (.lst (acc ++ [y]))) else Nx1 H6) := by
  refine ⟨fun i m H' => ∃ A' C', m = it.n - i ∧ i ≤ it.n ∧ Stp k n A C H A' C' H' ∧ StOk k A' C' H' ∧ lcN it t.M tt te n (wipeD sl0 vs) (it.n - i) i C' = .ok () C3,
    ⟨it.n, _, _, rfl, Nat.zero_le _, Stp.refl, sr.st, e⟩, ?_⟩
  rintro i m H' ⟨A', C', rfl, hi, p, st', h'⟩
  obtain ⟨ha', hl'⟩ := cell_at p ha hn
  have low' : LowC n C' := p.low _ (Nat.le_refl _) (Nat.le_of_lt hn) sr.low
  obtain ⟨o1, o2⟩ := ok A' C' H' (p.less hf) st'
  cases er : it.n - i with
  | zero =>
    rw [er] at h'
    unfold lcN at h'
    have e : i = it.n := by omega
    split at h'
    · rename_i hf
      cases h'
      subst e
      exact .inl ⟨o2 hf, hN A' H' p st'⟩
    · cases h'
  | succ r =>
    rw [er] at h'
    unfold lcN at h'
    have hlt : i < it.n := by omega
    have hr : it.n - (i + 1) = r := by omega
    cases ei : it.item i C' with
    | none => simp only [ei] at h'; cases h'
    | some d =>
      simp only [ei] at h'
      obtain ⟨g1, g2⟩ := o1 i d hlt ei
      cases eg : t.M d (wipeD sl0 vs) with
      | none => simp only [eg] at h'; cases h'
      | some sl1 =>
        simp only [eg] at h'
        refine .inr ⟨g1, fun H4 => ∃ A4 C4, Stp k n A C H A4 C4 H4 ∧ StOk k A4 C4 H4 ∧ lcN it t.M tt te n (wipeD sl0 vs) (it.n - (i + 1)) (i + 1) C4 = .ok () C3,
          fun H4 ⟨A4, C4, a, b, c⟩ => ⟨it.n - (i + 1), by omega, A4, C4, rfl, by omega, a, b, c⟩, fun x H'' y => ?_⟩
        obtain ⟨A'', py, sty, rx⟩ := g2 x H'' y
        have py' : Stp k n A' C' H' A'' C' H'' := ⟨py.rep, py.len, fun f _ _ h => h⟩
        have s9 : SR k A'' ⟨n, wipeD sl0 vs⟩ C' (L2.wipe σ vs) H'' := ((sr.re (p.trans py') sty low' (Nat.le_of_lt hl')).wipe vs)
        refine Tgt.of (vs0 := vs) s9 rx eg fun σ2 s2 w2 => ⟨by rw [w2 hv, wipe_wipe], A'', ⟨n, sl1⟩, C', s2, ?_⟩
        cases et : tt ⟨n, sl1⟩ C' with
        | ok b C5 =>
          rw [et] at h'
          simp only [bn0_ok] at h'
          intro A5 H5 v5 p5 st5 e5
          have e5 : v5 = b := e5
          subst e5
          have s5 := s2.step p5 st5
          cases v5 with
          | true =>
            rw [if_pos rfl] at h'
            refine iteT ⟨A5, ⟨n, sl1⟩, C5, s5, ?_⟩
            cases ee : te ⟨n, sl1⟩ C5 with
            | ok yd C6 =>
              rw [ee] at h'
              simp only [bn0_ok] at h'
              intro A6 H6 v6 p6 st6 r6
              have pall := (p.trans py').trans (p5.trans p6)
              obtain ⟨ha6, hl6⟩ := cell_at pall ha hn
              split at h'
              · rename_i acc hc
                split at h'
                · rename_i hz
                  obtain ⟨ws, hw, rw6⟩ := st6.at_ _ _ hc
                  rw [ha6] at hw
                  obtain ⟨q1, q2⟩ := push_L (k := k) (fl := n) (Nat.le_refl _) st6 ha6 hc hw r6
                  refine ⟨ws, hw, by have := szN_le hz; rw [rw6.length]; omega, A6, _, pall.trans q1, q2, ?_⟩
                  rw [hr]
                  exact h'
                · cases h'
              · cases h'
            | exc e C6 => rw [ee] at h'; cases h'
            | stuck => rw [ee] at h'; cases h'
          | false =>
            rw [if_neg (by decide)] at h'
            refine iteF ⟨A5, C5, (p.trans py').trans p5, st5, ?_⟩
            rw [hr]
            exact h'
        | exc e C5 => rw [et] at h'; cases h'
        | stuck => rw [et] at h'; cases h'
theorem le_lc2 {own : Bool} {mi mi1 : MI} {t t1 : Tgt} {tt tt1 : MT} {te : ME} {vs vs1 : List Nat} (hv : ∀ i ∈ t.slots, i ∈ vs) (hv1 : ∀ i ∈ t1.slots, i ∈ vs1) (h : LE k W (mLc2 own mi t.M tt mi1 t1.M tt1 te vs vs1) σ H Q) :
    tLc2 (LI k W mi) (t.T k.K) (LT k WF tt) (LI k WF mi1) (t1.T k.K) (LT k WF tt1) (LE k WF te) vs vs1 σ H Q := by
  obtain ⟨A, F, C, s, h⟩ := h
  refine ⟨A, F, C, s, (Aft.bnd (rel := fun A C H (J : It) (it : ItD) => ItOk k F.fl J it A C H) h).mono fun it C1 A1 H1 J p1 st1 ok h1 => ?_⟩
  have s1 := s.step p1 st1
  intro Dl hD
  have q0 : Kp A1 C1 H1 (ext A1 C1.length Dl) (C1 ++ [some (.lst [])]) (upd H1 Dl (.lst [])) := kp_cell (k := k) st1 hD
  have p2 : Stp k C1.length A1 C1 H1 (ext A1 C1.length Dl) (C1 ++ [some (.lst [])]) (upd H1 Dl (.lst [])) := q0.stp fun f h1 h2 l => low_app h2 l
  have p2' : Stp k F.fl A1 C1 H1 (ext A1 C1.length Dl) (C1 ++ [some (.lst [])]) (upd H1 Dl (.lst [])) := p2.less s1.fl
  have st2 : StOk k (ext A1 C1.length Dl) (C1 ++ [some (.lst [])]) (upd H1 Dl (.lst [])) := st1.cell hD ⟨[], upd_same, .nil⟩
  have n1 : C1.length < (C1 ++ [some (Cell.lst [])]).length := by simp
  have low1 : LowC C1.length (C1 ++ [some (Cell.lst [])]) := p2.low _ (Nat.le_refl _) (Nat.le_refl _) st1.low
  obtain ⟨C3, e3, h3⟩ := bn0_inv h1
  refine ⟨fun i m H' => ∃ A' C', m = it.n - i ∧ i ≤ it.n ∧ Stp k C1.length (ext A1 C1.length Dl) (C1 ++ [some (.lst [])]) (upd H1 Dl (.lst [])) A' C' H' ∧ StOk k A' C' H' ∧ lc2N it t.M tt mi1 t1.M tt1 te C1.length (wipeD F.sl vs) vs1 (it.n - i) i C' = .ok () C3,
    ⟨it.n, _, _, rfl, Nat.zero_le _, Stp.refl, st2, e3⟩, ?_⟩
  rintro i m H' ⟨A', C', rfl, hi, p, st', h'⟩
  obtain ⟨ha', hl'⟩ := cell_at p (ext_at A1 C1.length Dl) n1
  have low' : LowC C1.length C' := p.low _ (Nat.le_refl _) (Nat.le_of_lt n1) low1
  have pF : Stp k F.fl (ext A1 C1.length Dl) (C1 ++ [some (.lst [])]) (upd H1 Dl (.lst [])) A' C' H' := p.less s1.fl
  obtain ⟨o1, o2⟩ := ok A' C' H' (p2'.trans pF) st'
  cases er : it.n - i with
  | zero =>
    rw [er] at h'
    unfold lc2N at h'
    have e : i = it.n := by omega
    split at h'
    · rename_i hf
      cases h'
      subst e
      exact .inl ⟨o2 hf, le_lcEnd s1.fl Stp.refl st1 (p2'.trans pF) low' st' ha' hl' h3⟩
    · cases h'
  | succ r =>
    rw [er] at h'
    unfold lc2N at h'
    have hlt : i < it.n := by omega
    have hr : it.n - (i + 1) = r := by omega
    cases ei : it.item i C' with
    | none => simp only [ei] at h'; cases h'
    | some d =>
      simp only [ei] at h'
      obtain ⟨g1, g2⟩ := o1 i d hlt ei
      cases eg : t.M d (wipeD F.sl vs) with
      | none => simp only [eg] at h'; cases h'
      | some sl1 =>
        simp only [eg] at h'
        refine .inr ⟨g1, fun H4 => ∃ A4 C4, Stp k C1.length (ext A1 C1.length Dl) (C1 ++ [some (.lst [])]) (upd H1 Dl (.lst [])) A4 C4 H4 ∧ StOk k A4 C4 H4 ∧ lc2N it t.M tt mi1 t1.M tt1 te C1.length (wipeD F.sl vs) vs1 (it.n - (i + 1)) (i + 1) C4 = .ok () C3,
          fun H4 ⟨A4, C4, a, b, c⟩ => ⟨it.n - (i + 1), by omega, A4, C4, rfl, by omega, a, b, c⟩, fun x H'' y => ?_⟩
        obtain ⟨A'', py, sty, rx⟩ := g2 x H'' y
        have py' : Stp k C1.length A' C' H' A'' C' H'' := ⟨py.rep, py.len, fun f _ _ h => h⟩
        have sr : SR k A'' ⟨C1.length, wipeD F.sl vs⟩ C' (L2.wipe σ vs) H'' := ((s1.re (p2.trans (p.trans py')) sty low' (Nat.le_of_lt hl')).wipe vs)
        refine Tgt.of (vs0 := vs) sr rx eg fun σ2 s2 w2 => ⟨by rw [w2 hv, wipe_wipe], A'', ⟨C1.length, sl1⟩, C', s2, ?_⟩
        obtain ⟨b, C5, et, h'⟩ := bn0_out h'
        rw [et]
        intro A5 H5 v5 p5 st5 e5
        have e5 : v5 = b := e5
        subst e5
        have s5 := s2.step p5 st5
        cases v5 with
        | true =>
          rw [if_pos rfl] at h'
          obtain ⟨it1, C6, em, h'⟩ := bn0_out h'
          obtain ⟨u, C7, el, h'⟩ := bn0_out h'
          refine iteT ⟨A5, ⟨C1.length, sl1⟩, C5, s5, ?_⟩
          rw [em]
          intro A6 H6 J1 p6 st6 ok6
          have pall := (p.trans py').trans (p5.trans p6)
          obtain ⟨ha6, hl6⟩ := cell_at pall (ext_at A1 C1.length Dl) n1
          refine lc_inner (fl := C1.length) (n := C1.length) hv1 (Nat.le_refl _) ok6 (s5.step p6 st6) hl6 ha6 el fun A7 H7 p7 st7 => ⟨A7, C7, pall.trans p7, st7, ?_⟩
          rw [hr]
          exact h'
        | false =>
          rw [if_neg (by decide)] at h'
          refine iteF ⟨A5, C5, (p.trans py').trans p5, st5, ?_⟩
          rw [hr]
          exact h'
section
variable {elt tg iter tg1 iter1 : Expr} {ifs ifs1 : List Expr} {scope : Scope} {own : List (Str × Nat)} {vs1 : List Nat} {pos : Pos} {mi mi1 : MI} {t t1 : Tgt} {tt tt1 : MT} {te : ME}
theorem de_lc2 (ow : Bool) (hK : X.K = k.K) (hc : X.calm = true) (hN : X.N.Nodup) (hi : PI X tg iter (LI k W mi)) (ok : BlkOk X.N X.env.scope scope own) (hv : ∀ i ∈ vs1, i ∈ own.map (·.2)) (hv0 : ∀ i ∈ t.slots, i ∈ own.map (·.2)) (hv1 : ∀ i ∈ t1.slots, i ∈ vs1)
    (hg : ∀ (s : Shared) (H : Hp) (C : Addr) (cl : List (Str × Addr)) (fp : List Addr), PG (X.blk s H scope (compEnvC scope cl C X.env) fp) tg (t.T k.K)) (ht : ∀ (s : Shared) (H : Hp) (C : Addr) (cl : List (Str × Addr)) (fp : List Addr), PTs (X.blk s H scope (compEnvC scope cl C X.env) fp) ifs (LT k WF tt))
    (hi1 : ∀ (s : Shared) (H : Hp) (C : Addr) (cl : List (Str × Addr)) (fp : List Addr), PI (X.blk s H scope (compEnvC scope cl C X.env) fp) tg1 iter1 (LI k WF mi1))
    (hg1 : ∀ (s : Shared) (H : Hp) (C : Addr) (cl : List (Str × Addr)) (fp : List Addr), PG (X.blk s H scope (compEnvC scope cl C X.env) fp) tg1 (t1.T k.K)) (ht1 : ∀ (s : Shared) (H : Hp) (C : Addr) (cl : List (Str × Addr)) (fp : List Addr), PTs (X.blk s H scope (compEnvC scope cl C X.env) fp) ifs1 (LT k WF tt1))
    (he : ∀ (s : Shared) (H : Hp) (C : Addr) (cl : List (Str × Addr)) (fp : List Addr), PE (X.blk s H scope (compEnvC scope cl C X.env) fp) elt (LE k WF te)) (hs : ∀ x, foldedSetIterable iter X.env x = pure x := by intro _; rfl) (hs1 : ∀ env x, foldedSetIterable iter1 env x = pure x := by intro _ _; rfl) :
    PE X (.ListComp elt [⟨tg, iter, ifs, 0⟩, ⟨tg1, iter1, ifs1, 0⟩] scope pos) (LE k W (mLc2 ow mi t.M tt mi1 t1.M tt1 te (own.map (·.2)) vs1)) :=
  (pe_lc2 hc hN hi ok hv hg ht hi1 hg1 ht1 he hs hs1).cq fun _ _ _ h => le_lc2 hv0 hv1 h
end
/-! ### xs[i] += e -/
def sAugL (o : Int → Int → Int) (mo mi me : ME) : MS := fun F C => bndS F.sl (mo F C) fun l C1 => bndS F.sl (mi F C1) fun x C2 => match x, cL l C2 with
  | .int n, some (_, ds) => if 0 ≤ n then (match ds[n.toNat]? with
    | some (.int a) => bndS F.sl (me F C2) fun v C3 => (match v, cL l C3 with
      | .int b, some (i, es) => (match ixN es.length n with
        | some j => (match wr F.fl i (.lst (es.set j (.int (o a b)))) C3 with
          | some C4 => .nx F.sl C4
          | none => .stuck)
        | none => .stuck)
      | _, _ => .stuck)
    | _ => .stuck) else .stuck
  | _, _ => .stuck
def rGetL : V → V → Hp → VK → Prop := fun o i H Q => ∃ p xs n v, o = .ref p ∧ i = .int n ∧ H p = some (.lst xs) ∧ 0 ≤ n ∧ xs[n.toNat]? = some v ∧ Q v H
theorem pget_L : PGet X rGetL := by
  intro pins s σ H o i ov iv Q I ro ri h
  obtain ⟨p, xs, n, v, rfl, rfl, hp, h0, hx, q⟩ := h
  cases ro
  obtain ⟨t, rfl⟩ := ri
  obtain ⟨its, r, pl, hz⟩ := I.list (Or.inl (Or.inl hp))
  obtain ⟨w, ew, rw'⟩ := r.get hx
  have hl := r.length
  have hn := line63
  have hlt : n.toNat < xs.length := (List.getElem?_eq_some_iff.mp hx).1
  exact wpAny_getItem_list pl.isList h0 (by omega) (by simpa using ew) ⟨v, H, I, rw', q⟩
theorem ls_augL {o : Int → Int → Int} {mo mi me : ME} (h : LS k W (sAugL o mo mi me) E σ H) : tAugS (LE k W mo) (LE k W mi) (LE k W me) rGetL (ipI o) rSetL E σ H := by
  obtain ⟨A, F, C, s, h⟩ := h
  refine ⟨A, F, C, s, (AftS.bnd (rel := RepD k) s h).mono fun dl C1 A1 H1 l p1 st1 rl h1 => ?_⟩
  have s1 := s.step p1 st1
  refine ⟨A1, F, C1, s1, (AftS.bnd (rel := RepD k) s1 h1).mono fun dx C2 A2 H2 x p2 st2 rx h2 => ?_⟩
  have s2 := s1.step p2 st2
  have rl2 := p2.rep _ _ rl
  cases rx with
  | int n =>
    cases ec : cL dl C2 with
    | none => simp only [ec] at h2; exact h2.elim
    | some q =>
      obtain ⟨i, ds⟩ := q
      simp only [ec] at h2
      obtain ⟨rfl, rfl, hi, vs, hv, rvs⟩ := cL_at st2 rl2 ec
      split at h2
      · rename_i h0
        split at h2
        · rename_i a ea
          obtain ⟨v, ev, rv⟩ := rvs.get ea
          cases rv
          refine ⟨A2 i, vs, n, _, rfl, rfl, hv, h0, ev, A2, F, C2, s2, (AftS.bnd (rel := RepD k) s2 h2).mono fun dv C3 A3 H3 w p3 st3 rw3 h3 => ?_⟩
          have s3 := s2.step p3 st3
          cases rw3 with
          | int b =>
            cases ec3 : cL (.cell i) C3 with
            | none => simp only [ec3] at h3; exact h3.elim
            | some q =>
              obtain ⟨i', es⟩ := q
              simp only [ec3] at h3
              obtain ⟨ei, ev3, hi3, ws, hw, rws⟩ := cL_at st3 (p3.rep _ _ rl2) ec3
              cases ei
              cases ej : ixN es.length n with
              | none => simp only [ej] at h3; exact h3.elim
              | some j =>
                simp only [ej] at h3
                cases ew : wr F.fl i (.lst (es.set j (.int (o a b)))) C3 with
                | none => simp only [ew] at h3; exact h3.elim
                | some C4 =>
                  simp only [ew] at h3
                  obtain ⟨q1, q2⟩ := write_L st3 hi3 (rws.set (.int (o a b)) j) ew
                  exact ⟨a, b, rfl, rfl, A3 i, ws, n, j, ev3, rfl, hw, by rw [rws.length]; exact ej, h3 A3 σ _ q1 (s3.step q1 q2)⟩
          | _ => exact h3.elim
        · exact h2.elim
      · exact h2.elim
  | _ => exact h2.elim
theorem ds_augL {o i e : Expr} {op : Operator} {f : Int → Int → Int} {tpos pos : Pos} {mo mi me : ME} (hp : PIp X op (ipI f)) (ho : PE X o (LE k W mo)) (hi : PE X i (LE k W mi)) (he : PE X e (LE k W me))
    (ha : ∀ ov iv new, augStore i ov iv new = (do holding [new, ov, iv] (setItem ov iv new); release [new, ov, iv] []; pure .next) := by intros; rfl) : PS X (.AugAssign (.Subscript o i tpos) op e pos) (LS k W (sAugL f mo mi me)) :=
  (ps_augS ho hi pget_L he hp set_list ha).cq fun _ _ _ h => ls_augL h
/-! ### x in a tuple or list of data -/
def rInA (K : PySem.W.Frag) (neg : Bool) : R2 := fun x y H Q => ∃ d ds l, Dp K H x d ∧ Dp K H y l ∧ (l = .list ds ∨ l = .tuple ds) ∧ SeqAt.shaped d = true ∧ SeqAt.shaped l = true ∧ Q (.bl (if neg = true then !(ds.any fun z => PyData.eqv z d) else ds.any fun z => PyData.eqv z d)) H
theorem op_inA (hu : X.A.units + 65 < cLine) : OpR X (compareOp .In) (rInA X.K false) := by
  intro pins s σ H x y v u Q I rx ry h
  obtain ⟨d, ds, l, hd, he, hl, sd, se, q⟩ := h
  obtain ⟨as, r1⟩ := Dp.reads I d x v hd rx
  obtain ⟨bs, r2⟩ := Dp.reads I l y u he ry
  rcases hl with rfl | rfl
  · exact SeqAt.in_list_reads r2 r1 (SeqAt.canLay_of_shaped se) (SeqAt.canLay_of_shaped sd) (room_in_shaped sd hu) ⟨.bl _, H, I, rfl, q⟩
  · exact SeqAt.in_tuple_reads r2 r1 (SeqAt.canLay_of_shaped se) (SeqAt.canLay_of_shaped sd) (room_in_shaped sd hu) ⟨.bl _, H, I, rfl, q⟩
def itemsP : PyData → Option (List PyData)
  | .list ds => some ds
  | .tuple ds => some ds
  | _ => none
def oInD (neg : Bool) : O2 := fun x y C => match toP C x, toP C y with
  | some p, some q => (match itemsP q with
    | some ds => if (SeqAt.shaped p && SeqAt.shaped q) = true then some (.bl (if neg = true then !(ds.any fun z => PyData.eqv z p) else ds.any fun z => PyData.eqv z p), C) else none
    | none => none)
  | _, _ => none
theorem d_inD {neg : Bool} : OpD k (rInA k.K neg) (oInD neg) := by
  intro fl A C H x y dx dy d C' Q hf hl st rx ry e q
  simp only [oInD] at e
  split at e
  · rename_i p q' e1 e2
    split at e
    · rename_i ds eds
      split at e
      · rename_i hs
        simp only [Bool.and_eq_true] at hs
        cases e
        refine ⟨p, ds, q', toP_dp st rx e1, toP_dp st ry e2, ?_, hs.1, hs.2, q A H _ Stp.refl st (.bl _)⟩
        cases q' <;> simp only [itemsP] at eds <;> cases eds <;> simp
      · cases e
    · cases e
  · cases e
end
end CT
set_option maxHeartbeats 4000000
/-! DLD: list(range(..)), sorted(..), dict(..). -/
namespace CT
open PySem L2 PySem.Spec PyProof.Rows
def rngD (a b : Int) : List D := (List.range (b - a).toNat).map fun i => D.int (a + (i : Nat))
theorem rng_rep {k : Cn} {A : Nat → Addr} {C : Store} {H : Hp} (a b : Int) : RepL k A C H (rgV a b) (rngD a b) := by
  unfold rgV rngD
  generalize List.range (b - a).toNat = l
  induction l with
  | nil => exact .nil
  | cons x l ih => exact .cons (.int _) ih
def rgOk (a b : Int) : Bool := decide (-(2 ^ 62) ≤ a) && decide (a < 2 ^ 62) && decide (-(2 ^ 62) ≤ b) && decide (b < 2 ^ 62) && decide ((b - a).toNat ≤ 2 ^ 24)
theorem rgOk_ok {a b : Int} (h : rgOk a b = true) : RgOk a b := by
  simp only [rgOk, Bool.and_eq_true, decide_eq_true_eq] at h
  obtain ⟨⟨⟨⟨h1, h2⟩, h3⟩, h4⟩, h5⟩ := h
  exact ⟨h1, h2, h3, h4, h5⟩
def mLRng2 (own : Bool) (m m2 : ME) : ME := fun F C => bnd (m F C) fun x C1 => bnd (m2 F C1) fun y C2 => match x, y with
  | .int a, .int b => if rgOk a b = true then .ok (mkL own (rngD a b) C2).1 (mkL own (rngD a b) C2).2 else .stuck
  | _, _ => .stuck
section
variable {X : Cx} {k : Cn} {W : WX} {σ : L2.St} {H : Hp} {Q : VK}
theorem le_lrng2 {own : Bool} {m m2 : ME} (h : LE k W (mLRng2 own m m2) σ H Q) : tLstRg (tRg2 (LE k W m) (LE k W m2)) σ H Q := by
  obtain ⟨A, F, C, s, h⟩ := h
  refine ⟨A, F, C, s, (Aft.bnd (rel := RepD k) h).mono fun dx C1 A1 H1 x p1 st1 rx h1 => ?_⟩
  have s1 := s.step p1 st1
  refine ⟨A1, F, C1, s1, (Aft.bnd (rel := RepD k) h1).mono fun dy C2 A2 H2 y p2 st2 ry h2 => ?_⟩
  cases rx with
  | int a =>
    cases ry with
    | int b =>
      simp only at h2
      split at h2
      · rename_i ho
        refine ⟨a, b, rfl, rfl, rgOk_ok ho, fun q hq => ?_⟩
        obtain ⟨A3, w1, w2, w3⟩ := fresh_L (own := own) (s1.step p2 st2).fl st2 (rng_rep (k := k) (A := A2) (C := C2) (H := H2) a b) hq
        exact h2 A3 _ _ w1 w2 w3
      · exact h2.elim
    | _ => exact h2.elim
  | _ => exact h2.elim
variable {e a b : Expr} {p pos p' pos' : Pos} {m m2 : ME}
theorem de_lrng2 (own : Bool) (hc : X.calm = true) (hg : Gl X "list") (hm : X.mg "list" = none) (hg' : Gl X "range") (hm' : X.mg "range" = none) (ha : PE X a (LE k W m)) (hb : PE X b (LE k W m2)) (na : starEach [a, b] X.env = (false, eval a X.env) :: starEach [b] X.env := by rfl)
    (nb : starEach [b] X.env = (false, eval b X.env) :: starEach [] X.env := by rfl) (hp : (backTo pos' (starEach [b] X.env)).any (·.1) = false := by rfl)
    (na' : starEach [.Call (.Name "range" p') [a, b] [] pos'] X.env = (false, eval (.Call (.Name "range" p') [a, b] [] pos') X.env) :: starEach [] X.env := by rfl) : PE X (.Call (.Name "list" p) [.Call (.Name "range" p') [a, b] [] pos'] [] pos) (LE k W (mLRng2 own m m2)) :=
  (pe_listRg hc hg hm (prg_2 hg' hm' ha hb na nb hp) na').cq fun _ _ _ h => le_lrng2 h
end
/-! ### sorted -/
def rSortA (K : PySem.W.Frag) : List V → Hp → VK → Prop := fun xs H Q => ∃ (a : Addr) (β : Type) (bs : List β) (f : β → V) (enc : β → PyData), xs = [.ref a] ∧ SqL K H a (bs.map f) ∧ (∀ b ∈ bs, Dp K H (f b) (enc b)) ∧ PySem.W.AllAlike (bs.map enc) ∧ PySem.W.Sortable (bs.map enc) ∧ (∀ b ∈ bs, (enc b).depth ≤ 60) ∧
  ∀ p, H p = none → Q (.ref p) (upd H p (.lst ((bs.mergeSort (PySem.W.dataLe false enc)).map f)))
theorem each_vals {β : Type} {f : β → V} : ∀ {bs : List β} {us : List Value}, Vals (bs.map f) us → PySem.W.EachIs (fun u b => RelV (f b) u) us bs
  | [], _, .nil => .nil
  | _ :: _, _, .cons r t => .cons r (each_vals t)
theorem vals_each {β : Type} {f : β → V} : ∀ {bs : List β} {us : List Value}, PySem.W.EachIs (fun u b => RelV (f b) u) us bs → Vals (bs.map f) us
  | _, _, .nil => .nil
  | _, _, .cons r t => .cons r (vals_each t)
theorem each_in {α β : Type} {R S : α → β → Prop} : ∀ {us : List α} {bs : List β}, PySem.W.EachIs R us bs → (∀ u b, b ∈ bs → R u b → S u b) → PySem.W.EachIs S us bs
  | _, _, .nil, _ => .nil
  | _, _, .cons r t, h => .cons (h _ _ (List.mem_cons_self ..) r) (each_in t fun u b hb => h u b (List.mem_cons_of_mem _ hb))
section
variable {X : Cx} {k : Cn} {W : WX} {σ : L2.St} {H : Hp} {Q : VK}
theorem cr_sortA (hu : X.A.units + 200 < cLine) : CallR X (.builtin "sorted") (rSortA X.K) := by
  intro pins s σ H xs us Q I r h
  obtain ⟨a, β, bs, f, enc, rfl, hs, hd, hal, hk, hdp, q⟩ := h
  obtain ⟨its, rv, hl, hz⟩ := I.list hs
  obtain ⟨u, rfl, ru⟩ := vals1 r
  obtain rfl : u = Value.ref a := ru
  have e := each_vals rv
  rw [List.length_map] at hz
  refine PySem.W.sorted_data hl.isList e (each_in e fun u b hb rb => Dp.reads I _ _ _ (hd b hb) rb) hal hk hz (fun b hb => by have := hdp b hb; omega) fun out ho eo => ?_
  obtain ⟨c, hc⟩ := sortedAll_at s.heap its out.toArray
  have hle : s.heap.objs.size ≤ s.heap.objs.size + 1 := Nat.le_succ _
  refine ⟨.ref (s.heap.objs.size + 1), _, I.laid (t' := s.toks) (o := .lst ((bs.mergeSort (PySem.W.dataLe false enc)).map f)) (fun b o hb => sortedAll_old hb) hle ⟨?_, out, c, vals_each eo, hc⟩, rfl, q _ (I.hok.fresh hle)⟩
  rw [List.length_map, List.length_mergeSort]
  exact hz
end
end CT
set_option maxHeartbeats 4000000
/-! DLE: sorted and dict(d) over data. -/
namespace CT
open PySem L2 PySem.Spec PyProof.Rows
def encD (C : Store) (d : D) : PyData := (toP C d).getD .none
def tup1 : PyData → Bool
  | .tuple (_ :: _) => true
  | _ => false
def nTup : PyData → Bool
  | .tuple _ => false
  | .none => false
  | _ => true
def srtb (ps : List PyData) : Bool := (ps.all fun d => ps.all fun e => PySem.W.alike d e) && (ps.all tup1 || ps.all nTup)
theorem srtb_ok {ps : List PyData} (h : srtb ps = true) : PySem.W.AllAlike ps ∧ PySem.W.Sortable ps := by
  simp only [srtb, Bool.and_eq_true, Bool.or_eq_true, List.all_eq_true] at h
  refine ⟨fun d hd e he => h.1 d hd e he, ?_⟩
  rcases h.2 with h | h
  · refine .inl fun d hd => ?_
    have := h d hd
    cases d with
    | tuple xs =>
      cases xs with
      | nil => simp [tup1] at this
      | cons x r => exact ⟨x, r, rfl⟩
    | _ => simp [tup1] at this
  · refine .inr fun d hd => ?_
    have := h d hd
    cases d with
    | tuple xs => simp [nTup] at this
    | none => simp [nTup] at this
    | _ => exact ⟨by simp, by simp⟩
def oSortL (own : Bool) : OA := fun xs C => match xs with
  | [x] => (match vL x C with
    | some ds => if (ds.all (fun d => (toP C d).isSome && decide ((encD C d).depth ≤ 60)) && srtb (ds.map (encD C))) = true then some (mkL own (ds.mergeSort (PySem.W.dataLe false (encD C))) C) else none
    | none => none)
  | _ => none
section
variable {X : Cx} {k : Cn} {W : WX} {σ : L2.St} {H : Hp} {Q : VK} {A : Nat → Addr} {C : Store}
theorem repL_zip : ∀ {vs : List V} {ds : List D}, RepL k A C H vs ds → (∀ x ∈ vs.zip ds, Rep k A C H x.1 x.2) ∧ (vs.zip ds).map (·.1) = vs ∧ (vs.zip ds).map (·.2) = ds
  | _, _, .nil => ⟨by simp, rfl, rfl⟩
  | _, _, .cons r t => by
    obtain ⟨h1, h2, h3⟩ := repL_zip t
    refine ⟨fun x hx => ?_, by simp [h2], by simp [h3]⟩
    rw [List.zip_cons_cons, List.mem_cons] at hx
    rcases hx with rfl | hx
    · exact r
    · exact h1 x hx
theorem repL_of : ∀ {l : List (V × D)}, (∀ x ∈ l, Rep k A C H x.1 x.2) → RepL k A C H (l.map (·.1)) (l.map (·.2))
  | [], _ => .nil
  | x :: l, h => .cons (h x (List.mem_cons_self ..)) (repL_of fun y hy => h y (List.mem_cons_of_mem _ hy))
theorem d_sortL {own : Bool} : ApD k (rSortA k.K) (oSortL own) := by
  intro fl A C H x dx d C' Q hf hl st rx e q
  cases rx with
  | nil => cases e
  | cons r t =>
    cases t with
    | cons _ _ => cases e
    | nil =>
      rename_i v0 d0
      simp only [oSortL] at e
      split at e
      · rename_i ds ev
        split at e
        · rename_i hb
          obtain ⟨a, vs, rfl, ha, rv⟩ := vL_at st r ev
          obtain ⟨z1, z2, z3⟩ := repL_zip rv
          simp only [Bool.and_eq_true, List.all_eq_true, decide_eq_true_eq] at hb
          obtain ⟨hb1, hb2⟩ := hb
          obtain ⟨al, so⟩ := srtb_ok hb2
          have em : (vs.zip ds).map (fun x => encD C x.2) = ds.map (encD C) := by
            have := congrArg (List.map (encD C)) z3
            rw [List.map_map] at this
            exact this
          have hm : ∀ x ∈ vs.zip ds, x.2 ∈ ds := fun x hx => by rw [← z3]; exact List.mem_map.mpr ⟨x, hx, rfl⟩
          refine ⟨a, V × D, vs.zip ds, (·.1), fun x => encD C x.2, rfl, by rw [z2]; exact .inl (.inl ha), fun b hb => ?_, by rw [em]; exact al, by rw [em]; exact so, fun b hb => (hb1 b.2 (hm b hb)).2, fun p hp => ?_⟩
          · have := (hb1 b.2 (hm b hb)).1
            obtain ⟨pd, e3⟩ := Option.isSome_iff_exists.mp this
            have := toP_dp st (z1 b hb) e3
            have e5 : encD C b.2 = pd := by unfold encD; rw [e3]; rfl
            show Dp k.K H b.1 (encD C b.2)
            rw [e5]
            exact this
          · have e4 : ((vs.zip ds).mergeSort (PySem.W.dataLe false fun x => encD C x.2)).map (·.2) = ds.mergeSort (PySem.W.dataLe false (encD C)) := by
              have em2 := List.map_mergeSort (r := PySem.W.dataLe false fun x : V × D => encD C x.2) (s := PySem.W.dataLe false (encD C)) (f := fun x : V × D => x.2) (l := vs.zip ds) (fun a _ b _ => rfl)
              rw [em2, z3]
            have rr : RepL k A C H (((vs.zip ds).mergeSort (PySem.W.dataLe false fun x => encD C x.2)).map (·.1)) (ds.mergeSort (PySem.W.dataLe false (encD C))) := by
              rw [← e4]
              exact repL_of fun y hy => z1 y (List.mem_mergeSort.mp hy)
            obtain ⟨A2, w1, w2, w3⟩ := fresh_L (own := own) hf st rr hp
            have e1 := Option.some.inj e
            rw [e1] at w1 w2 w3
            exact q A2 _ _ w1 w2 w3
        · cases e
      · cases e
theorem tup_nl (st : StOk k A C H) {b : Addr} {vs : List V} (h : H b = some (.tup vs)) : ¬ Live A C b := by
  rintro ⟨i, c, hc, rfl⟩
  have := st.at_ i c hc
  cases c with
  | lst ds => obtain ⟨ws, e, _⟩ := this; rw [h] at e; cases e
  | dT ks ds => obtain ⟨ws, e, _⟩ := this; rw [h] at e; cases e
  | ins c ds => obtain ⟨dx, ws, e, _⟩ := this; rw [h] at e; cases e
end
/-! ### dict(d), keys that are tuples -/
end CT
set_option maxHeartbeats 4000000
/-! DLF: dict(d) over data; enumerate. -/
namespace CT
open PySem L2 PySem.Spec PyProof.Rows
/-! ### a list of unlike numbers -/
inductive BT where
  | lf | nd (l : BT) (x : Nat) (r : BT)
def BT.look (x : Nat) : BT → Bool
  | .lf => false
  | .nd l y r => bif Nat.blt x y then l.look x else bif Nat.blt y x then r.look x else true
def BT.ins (x : Nat) : BT → Option BT
  | .lf => some (.nd .lf x .lf)
  | .nd l y r => bif Nat.blt x y then (match l.ins x with
      | some l' => some (.nd l' y r)
      | none => none) else bif Nat.blt y x then (match r.ins x with
      | some r' => some (.nd l y r')
      | none => none) else none
/-! ### enumerate(tuple) -/
section
variable {prog : Program} {w : World} {A : Around} {E : Value → Shared → Prop} {s : Shared}
theorem meets_enum1 {v : Value} {o : Obj} {H : Heap → Prop} (B : Begins v o H) :
    Meets (Builtin.«enumerate.__new__» ⟨[.type "enumerate", v], []⟩) (fun _ R s => H s.heap ∧
      R (.ok (.ret (.ref (s.heap.push o).objs.size))) { s with heap := (s.heap.push o).push { cls := .type "enumerate", data := .fields #[.none, .bool false, .ref s.heap.objs.size, rawInt 0, .none, .none] } }) :=
  .of_wp fun prog w A R s h => by
    obtain ⟨hp, g, d, tk, os⟩ := s; obtain ⟨h1, h⟩ := h
    have hsub := sub_enumerate
    have q1 : ∀ {A' : Around} {E : Value → Shared → Prop} {Q : Value → Shared → Prop}, Q (.ref hp.objs.size) ⟨hp.push o, g, d, tk, os⟩ → wpAny (model prog w) A' (pyIter v) Q E ⟨hp, g, d, tk, os⟩ :=
      fun q => B.iter prog w _ _ ⟨hp, g, d, tk, os⟩ _ h1 q
    wp_walk using q1
    refine wpAny_stack_any fun st => wpAny_pure ?_
    split
    · rename_i c _ _ _ _ _
      cases (c == Value.type "enumerate")
      · wp_walk using q1
        exact ⟨_, rfl, h⟩
      · wp_walk using q1
        exact ⟨_, rfl, h⟩
    · wp_walk using q1
      exact ⟨_, rfl, h⟩
theorem call_enum1 {v : Value} {o : Obj} {H : Heap → Prop} {Q : Value → Shared → Prop} (B : Begins v o H) (h1 : H s.heap)
    (h : ∀ h', IsEnum h' (s.heap.objs.size + 1) s.heap.objs.size 0 .none → h'.get? s.heap.objs.size = some o → (∀ b o, s.heap.get? b = some o → h'.get? b = some o) → Q (.ref (s.heap.objs.size + 1)) { s with heap := h' }) :
    wpAny (model prog w) A (call (.type "enumerate") [v]) Q E s := by
  refine callType_new F.called_enumerate (by decide) (F.typeCall_enumerate_1 _) (F.newCall_enumerate_1 _) (fun obj => F.args_object_init_2 obj _) F.entry_enumerate_new (meets_enum1 B) ⟨h1, ?_⟩
  have hz : (s.heap.push o).objs.size = s.heap.objs.size + 1 := Heap.size_push ..
  show _ ∧ _
  rw [hz]
  have he : IsEnum ((s.heap.push o).push { cls := .type "enumerate", data := .fields #[.none, .bool false, .ref s.heap.objs.size, rawInt 0, .none, .none] }) (s.heap.objs.size + 1) s.heap.objs.size 0 .none := by
    have := Heap.get?_push_size (s.heap.push o) (o := { cls := .type "enumerate", data := .fields #[.none, .bool false, .ref s.heap.objs.size, rawInt 0, .none, .none] }) rfl
    rw [hz] at this; exact this
  exact ⟨⟨_, he, rfl⟩, h _ he (Heap.get?_push_of_some _ (Heap.get?_push_size _ B.free)) fun b o x => Heap.get?_push_of_some _ (Heap.get?_push_of_some _ x)⟩
end
def IteT (K : PySem.W.Frag) (a : Addr) : It :=
  ⟨fun i H => ∃ (xs : List V) (x : V), SqT K H a xs ∧ xs[i]? = some x, fun i H v H' => ∃ T x, v = .ref T ∧ H T = none ∧ H' = upd H T (.tup [.int (i : Nat), x]) ∧ ∀ xs, SqT K H a xs → xs[i]? = some x, fun i H => ∃ xs : List V, SqT K H a xs ∧ xs.length ≤ i⟩
theorem enumT_end {prog : Program} {w : World} {A : Around} {E : Value → Shared → Prop} {s : Shared} {e it t : Addr} {i : Nat} {c : Int} {items : Array Value} {old : Value} {Q : Option Value → Shared → Prop} (hh : A.handled = none)
    (he : IsEnum s.heap e it c old) (hit : s.heap.IsTupleIter it t i) (ht : s.heap.IsTuple t items) (hx : items[i]? = none) (hQ : ∀ h', Heap.ExtBut it s.heap h' → Q none { s with heap := h' }) : wpAny (model prog w) A (pyNext (.ref e)) Q E s := by
  have hT : s.TypeIs (.ref e) "enumerate" := ⟨_, he, rfl⟩
  unfold pyNext
  refine wpAny_bind (wpAny_attempt (wpAny_callSpecial?_slot (name := Str.ofString "__next__") hT F.slot_enumerate_next
    (wpAny_call_entry F.slot_enumerate_next hT F.entry_enumerate_next ?_ (F.args_enumerate_next_1 _))))
  show wpAny _ _ (field (.ref e) 2 >>= _) _ _ _
  refine wpAny_bind (wpAny_field he rfl (x := .ref it) rfl ?_)
  refine wpAny_bind (wpAny_nextOf_tuple_end (show A.in1.handled = none from hh) hit ht hx fun h' x he' hx' => ?_)
  obtain ⟨o, ho, hc⟩ := hx'
  refine wpAny_bind (wpAny_isInstance (T := "StopIteration") (b := true) ⟨o, ho, hc⟩ isSubtype_stop ?_)
  exact wpAny_pure (hQ _ he')
theorem turn_enumT {P : Program} {w : World} {K : PySem.W.Frag} {elts : List Expr} {kk : Nat} {tpos : Pos} (a e it : Addr) :
    Turn P w K (.Tuple elts kk tpos) (IteT K a) [e, it] e (fun i h => (∃ old, IsEnum h e it ((i : Nat) : Int) old) ∧ h.IsTupleIter it a i ∧ e ≠ it ∧ a ≠ it ∧ a ≠ e) where
  mem := by simp
  obj := fun i h st b hb => by
    obtain ⟨⟨old, he⟩, ⟨o, ho, hc, hd⟩, _⟩ := st
    have e' : b = e ∨ b = it := by simpa using hb
    rcases e' with z | z
    · rw [z]; exact ⟨_, he, fun v q => nomatch q⟩
    · rw [z]; exact ⟨o, ho, fun v q => by rw [hd] at q; cases q⟩
  keep := fun i h h' st k => let ⟨⟨old, he⟩, hi, hne⟩ := st; ⟨⟨old, k e (by simp) _ he⟩, hi.at fun o q => k it (by simp) o q, hne⟩
  item := by
    intro X hP hw hK hc i pins s σ H E I hf st hg
    subst hP hw hK
    obtain ⟨⟨old, he⟩, hit, hne, hai, hae⟩ := st
    obtain ⟨xs, x, hq, hx⟩ := hg
    obtain ⟨its, rv, p, hz⟩ := I.tuple hq
    have hlt : i < its.toArray.size := by
      have h1 := rv.length
      have h2 := (List.getElem?_eq_some_iff.mp hx).1
      simp
      omega
    have hel : e < s.heap.objs.size := Heap.lt_size he
    have hil : it < s.heap.objs.size := by obtain ⟨_, q, _⟩ := hit; exact Heap.lt_size q
    have D := Draws.tuple (prog := X.prog) (w := X.w) (A := X.A.in1) (I.ok.hd hc) it a hai its.toArray
    refine wpAny_pyNext_enum_itemD D he ⟨hit, p⟩ hlt hne (by simp; exact ⟨hne, fun z => hae z.symm⟩) fun u h' tk hu ho hit' hT hsz hk => ?_
    have hu' : its[i]? = some u := by simpa using hu
    obtain ⟨u2, hu2, ru⟩ := rv.get hx
    have e2 : u2 = u := by
      rw [hu'] at hu2
      exact (Option.some.inj hu2).symm
    subst e2
    refine ⟨_, rfl, wpAny_letOwnedTupleGo_enum (s := { s with heap := h', toks := tk + 1 }) ho fun h'' he' sb => ?_⟩
    have hT2 : h''.get? s.heap.objs.size = some { cls := .type "tuple", data := .seq #[.int i tk, u2] } := (sb.2 _ (Nat.ne_of_gt hel)).trans hT
    have new : ObjOk X.prog X.w (upd H s.heap.objs.size (.tup [.int (i : Nat), x])) h'' s.heap.objs.size (.tup [.int (i : Nat), x]) :=
      ⟨by show 2 ≤ sizeLine; decide, [.int i tk, u2], .cons ⟨_, rfl⟩ (.cons ru .nil), ⟨_, hT2, rfl, _, rfl⟩⟩
    have I1 : Inv X pins σ (upd H s.heap.objs.size (.tup [.int (i : Nat), x])) { s with heap := h'', toks := tk + 1 } :=
      I.turnedNew (ch := [e, it]) (fun b ob hb q => (sb.2 b (fun z => hb (by simp [z]))).trans (hk b ob (fun z => hb (by simp [z])) (fun z => hb (by simp [z])) q)) hf (Nat.le_refl _) new
    refine ⟨.ref s.heap.objs.size, _, I1, rfl, ⟨_, x, rfl, I.hok.fresh (Nat.le_refl _), rfl, fun ys hy => by rw [I.tuple_inj hy hq]; exact hx⟩, ⟨⟨u2, ?_⟩, hit'.1.at fun o q => (sb.2 it (Ne.symm hne)).trans q, hne, hai, hae⟩, fun b hb => ?_⟩
    · have e1 : ((i + 1 : Nat) : Int) = (i : Int) + 1 := by omega
      rw [e1]; exact he'
    · have hb' : b < s.heap.objs.size := by
        have e' : b = e ∨ b = it := by simpa using hb
        rcases e' with z | z
        · rw [z]; exact hel
        · rw [z]; exact hil
      rw [upd_ne (Nat.ne_of_lt hb')]
      exact (hf b hb).1
  done := by
    intro X hP hw hK hc i pins s σ H E I hf st hg
    subst hP hw hK
    obtain ⟨⟨old, he⟩, hit, hne, hai, hae⟩ := st
    obtain ⟨xs, hq, hx⟩ := hg
    obtain ⟨its, rv, p, hz⟩ := I.tuple hq
    obtain ⟨f0, f1, f2, f3, f4, f5⟩ := hf it (by simp)
    have hl := rv.length
    exact enumT_end (I.ok.hd hc) he hit p (by simp; omega) fun h' eb => ⟨rfl, I.turned (t' := s.toks) (fun b o hb q => eb b o hb q) f0 f1 f3 f4 f5⟩
  self := fun A i s Q E st h => let ⟨⟨_, he⟩, _⟩ := st; wpAny_pyIter_enum he h
def iEnumA (K : PySem.W.Frag) (ta : TA) : TI := fun σ H R => ta σ H fun vs H1 => ∃ a, vs = [.ref a] ∧ (((∃ xs, SqL K H1 a xs) ∧ R (Ite K a) H1) ∨ ((∃ xs, SqT K H1 a xs) ∧ R (IteT K a) H1))
theorem pi_enumA {X : Cx} {e : Expr} {ta : TA} {p pos tpos : Pos} {elts : List Expr} {kk : Nat} (hg : Gl X "enumerate") (hm : X.mg "enumerate" = none) (ha : PA X [e] ta) (hs : starEach [e] X.env = [(false, eval e X.env)] := by rfl) :
    PI X (.Tuple elts kk tpos) (.Call (.Name "enumerate" p) [e] [] pos) (iEnumA X.K ta) := by
  refine ⟨fun pins s σ H R I h => ?_⟩
  refine Call_ (ld_blt I hg hm boot_enumerate (PyProof.Rows.callWith_type1 (thn (ha.run pos pins s σ H _ I h) fun us s1 ⟨vs, H1, I1, r1, q1⟩ => ?_) hs rfl))
  have fp2 : ∀ b ∈ [s1.heap.objs.size + 1, s1.heap.objs.size], FpOk X pins H1 b := fun b hb => by
    have e' : b = s1.heap.objs.size + 1 ∨ b = s1.heap.objs.size := by simpa using hb
    have hle : s1.heap.objs.size ≤ b := by omega
    exact I1.fpOk hle (I1.hok.fresh hle)
  obtain ⟨a, ex, ⟨⟨xs, hq⟩, q⟩ | ⟨⟨xs, hq⟩, q⟩⟩ := q1
  · subst ex
    obtain ⟨u, rfl, ru⟩ := vals1 r1
    obtain rfl : u = Value.ref a := ru
    obtain ⟨its, rv, p', hz⟩ := I1.list hq
    refine call_enumerate_list p'.isList fun h' he hit hsz hk => wpAny_pyIter_enum he ?_
    exact ⟨s1.heap.objs.size + 1, [s1.heap.objs.size + 1, s1.heap.objs.size], _, _, H1, rfl, I1.kept (t' := s1.toks) hk, turn_enum a (s1.heap.objs.size + 1) s1.heap.objs.size, ⟨⟨.none, he⟩, hit, Nat.succ_ne_self _⟩, fp2, q⟩
  · subst ex
    obtain ⟨u, rfl, ru⟩ := vals1 r1
    obtain rfl : u = Value.ref a := ru
    obtain ⟨its, rv, p', hz⟩ := I1.tuple hq
    refine call_enum1 (begins_tuple a its.toArray) p' fun h' he hit hk => wpAny_pyIter_enum he ?_
    have hlt : a < s1.heap.objs.size := by obtain ⟨o, ho, _⟩ := p'; exact Heap.lt_size ho
    exact ⟨s1.heap.objs.size + 1, [s1.heap.objs.size + 1, s1.heap.objs.size], _, _, H1, rfl, I1.kept (t' := s1.toks) hk, turn_enumT a (s1.heap.objs.size + 1) s1.heap.objs.size, ⟨⟨.none, he⟩, ⟨_, hit, rfl, rfl⟩, Nat.succ_ne_self _, Nat.ne_of_lt hlt, Nat.ne_of_lt (Nat.lt_succ_of_lt hlt)⟩, fp2, q⟩
def prI (it : ItD) : ItD := ⟨it.n, fun j C => (it.item j C).map fun x => .tup [.int (j : Nat), x], it.fin⟩
def mEnum (m : ME) : MI := fun F C => bnd (m F C) fun d C1 => match itS d C1 with
  | some it => .ok (prI it) C1
  | none => .stuck
section
variable {X : Cx} {k : Cn} {W : WX} {σ : L2.St} {H : Hp}
theorem pr_L {fl : Nat} {A : Nat → Addr} {C : Store} {a : Addr} {it : ItD} (ok : ItOk k fl (Itl k.K a) it A C H) : ItOk k fl (Ite k.K a) (prI it) A C H := fun A' C' H' p st' => by
  obtain ⟨o1, o2⟩ := ok A' C' H' p st'
  refine ⟨fun j d hj e => ?_, fun hf => o2 hf⟩
  simp only [prI, Option.map_eq_some_iff] at e
  obtain ⟨x, ex, rfl⟩ := e
  obtain ⟨⟨xs, v, hq, hv⟩, h2⟩ := o1 j x hj ex
  refine ⟨⟨xs, v, hq, hv⟩, fun y H'' ⟨T, z, ey, hT, eH, hz⟩ => ?_⟩
  subst ey eH
  have ez : z = v := Option.some.inj ((hz xs hq).symm.trans hv)
  subst ez
  obtain ⟨A3, p3, st3, r3⟩ := h2 z H' ⟨rfl, fun ys hy => hz ys hy⟩
  have q : Kp A3 C' H' A3 C' (upd H' T (.tup [.int (j : Nat), z])) := kp_new hT
  refine ⟨A3, p3.trans q.stp0, st3.new hT, ?_⟩
  have st4 := st3.new (o := .tup [.int (j : Nat), z]) hT
  exact .tup (tup_nl st4 upd_same) upd_same (.cons (.int _) (.cons (r3.kp q) .nil))
theorem pr_T {fl : Nat} {A : Nat → Addr} {C : Store} {a : Addr} {it : ItD} (ok : ItOk k fl (Itt k.K a) it A C H) : ItOk k fl (IteT k.K a) (prI it) A C H := fun A' C' H' p st' => by
  obtain ⟨o1, o2⟩ := ok A' C' H' p st'
  refine ⟨fun j d hj e => ?_, fun hf => o2 hf⟩
  simp only [prI, Option.map_eq_some_iff] at e
  obtain ⟨x, ex, rfl⟩ := e
  obtain ⟨⟨xs, v, hq, hv⟩, h2⟩ := o1 j x hj ex
  refine ⟨⟨xs, v, hq, hv⟩, fun y H'' ⟨T, z, ey, hT, eH, hz⟩ => ?_⟩
  subst ey eH
  have ez : z = v := Option.some.inj ((hz xs hq).symm.trans hv)
  subst ez
  obtain ⟨A3, p3, st3, r3⟩ := h2 z H' ⟨rfl, fun ys hy => hz ys hy⟩
  have q : Kp A3 C' H' A3 C' (upd H' T (.tup [.int (j : Nat), z])) := kp_new hT
  refine ⟨A3, p3.trans q.stp0, st3.new hT, ?_⟩
  have st4 := st3.new (o := .tup [.int (j : Nat), z]) hT
  exact .tup (tup_nl st4 upd_same) upd_same (.cons (.int _) (.cons (r3.kp q) .nil))
theorem li_enum {m : ME} {R : It → Hp → Prop} (h : LI k W (mEnum m) σ H R) : iEnumA k.K (tCons (LE k W m) tNil) σ H R := by
  obtain ⟨A, F, C, s, h⟩ := h
  refine ⟨A, F, C, s, (Aft.bnd (rel := RepD k) h).mono fun d C1 A1 H1 v p st r h1 => ?_⟩
  have tup : ∀ xs, vT d = some xs → itS d C1 = some (itC xs) → ∃ a, [v] = [.ref a] ∧ (((∃ xs, SqL k.K H1 a xs) ∧ R (Ite k.K a) H1) ∨ ((∃ xs, SqT k.K H1 a xs) ∧ R (IteT k.K a) H1)) := fun xs e ei => by
    rw [ei] at h1
    obtain ⟨a, rfl, hs, ok⟩ := itC_T (fl := F.fl) r e
    exact ⟨a, rfl, .inr ⟨hs, h1 A1 H1 _ Stp.refl st (pr_T ok)⟩⟩
  show ∃ a, [v] = [.ref a] ∧ _
  cases d with
  | tup xs => exact tup xs rfl rfl
  | kt xs => exact tup xs rfl rfl
  | lst xs =>
    cases r with
    | lst l hh rv => exact ⟨_, rfl, .inl ⟨⟨_, .inl (.inl hh)⟩, h1 A1 H1 _ Stp.refl st (pr_L (itC_L (.lst l hh rv)))⟩⟩
  | cell i =>
    cases r with
    | cell hi =>
      simp only [itS] at h1
      split at h1
      · rename_i it e
        split at e
        · rename_i ys ec
          cases e
          obtain ⟨vs, hv, rv⟩ := st.at_ i _ ec
          exact ⟨_, rfl, .inl ⟨⟨vs, .inl (.inl hv)⟩, h1 A1 H1 _ Stp.refl st (pr_L (itV_L (.cell hi)))⟩⟩
        · cases e
      · exact h1.elim
  | _ => exact h1.elim
theorem di_enum {e : Expr} {p pos tpos : Pos} {elts : List Expr} {kk : Nat} {m : ME} (hg : Gl X "enumerate") (hm : X.mg "enumerate" = none) (hK : X.K = k.K) (he : PE X e (LE k W m)) (hs : starEach [e] X.env = [(false, eval e X.env)] := by rfl) :
    PI X (.Tuple elts kk tpos) (.Call (.Name "enumerate" p) [e] [] pos) (LI k W (mEnum m)) := (pi_enumA hg hm (pa_cons he pa_nil (by rw [hs]; rfl)) hs).cq fun _ _ _ h => by
  rw [hK]
  exact li_enum h
end
end CT
set_option maxHeartbeats 4000000
/-! DLG: what the head tells (defs by addresses, checks), the law's end for data. -/
namespace CT
open PySem L2 PySem.Spec PyProof.Rows
/-! ### defs, by where they stand -/
structure DefX where
  adr : PySem.W.Frag → Addr
  name : Str
  qual : Str
  params : Arguments
  body : List Stmt
  scope : Scope
  dfl : PySem.W.Frag → List V := fun _ => []
def fnX (K : PySem.W.Frag) (a : Addr) : He.FnW := match K.lookup a with
  | some ⟨_, _, .func fd, _⟩ => some (fd.name, fd.qualname, fd.params, fd.body, fd.scope, fd.globals, fd.closure, fd.builtins)
  | _ => none
def DefX.val (d : DefX) : He.FnW := some (d.name, d.qual, d.params, .stmts d.body, d.scope, mainGlobals, [], builtinsNs)
def DefX.ok (K : PySem.W.Frag) (d : DefX) : Bool := PySem.W.keepIn K (.ref (d.adr K)) && (match K.lookup (d.adr K) with
  | some ⟨_, _, .func fd, _⟩ => PySem.W.codeIn K fd.code d.qual && He.dflB K fd.defaults (d.dfl K)
  | _ => false)
theorem DefX.funD {K : PySem.W.Frag} {d : DefX} (e : fnX K (d.adr K) = d.val) (c : d.ok K = true) : ∃ fd, FunD K d.name d.qual d.params d.body d.scope (d.dfl K) [] (d.adr K) fd := by
  obtain ⟨kp, c2⟩ := He.ba c
  unfold fnX at e
  split at c2
  · rename_i oc od fd osl q
    rw [q] at e
    obtain ⟨k1, k2⟩ := He.ba c2
    cases fd
    simp only [DefX.val, Option.some.injEq, Prod.mk.injEq] at e
    obtain ⟨h1, h2, h3, h4, h5, h6, h7, h8⟩ := e
    subst h1 h2 h3 h4 h5 h6 h7 h8
    exact ⟨_, ⟨_, _, _, _, _, _, _, _, _, _, rfl, q, k1, He.dflB_ok k2, .inl rfl⟩, kp⟩
  · cases c2
/-! ### the head's look -/
abbrev AlX : Type := Bool × List He.FnW
def obX (fs : List (PySem.W.Frag → Bool)) (fn : List DefX) (K : PySem.W.Frag) : AlX := ((fs.all fun f => f K) && fn.all fun d => d.ok K, fn.map fun d => fnX K (d.adr K))
def vlX (fn : List DefX) : AlX := (true, fn.map DefX.val)
def SaysX (fs : List (PySem.W.Frag → Bool)) (fn : List DefX) (K : PySem.W.Frag) : Prop := obX fs fn K = vlX fn
section
variable {fs : List (PySem.W.Frag → Bool)} {fn : List DefX} {K : PySem.W.Frag}
theorem SaysX.fact (c : SaysX fs fn K) (i : Nat) {f : PySem.W.Frag → Bool} (h : fs[i]? = some f := by rfl) : f K = true :=
  List.all_eq_true.mp (He.ba (show ((fs.all fun f => f K) && fn.all fun d => d.ok K) = true from congrArg (fun z : AlX => z.1) c)).1 f (List.mem_of_getElem? h)
theorem SaysX.def_ (c : SaysX fs fn K) (i : Nat) {d : DefX} (h : fn[i]? = some d := by rfl) : ∃ fd, FunD K d.name d.qual d.params d.body d.scope (d.dfl K) [] (d.adr K) fd := by
  have c2 := (He.ba (show ((fs.all fun f => f K) && fn.all fun d => d.ok K) = true from congrArg (fun z : AlX => z.1) c)).2
  have e2 : (fn.map fun d => fnX K (d.adr K))[i]? = (fn.map DefX.val)[i]? := congrArg (fun z : AlX => z.2[i]?) c
  rw [List.getElem?_map, List.getElem?_map, h] at e2
  exact DefX.funD (Option.some.inj e2) (List.all_eq_true.mp c2 d (List.mem_of_getElem? h))
end
/-! ### checks -/
section
variable {K : PySem.W.Frag}
/-- a property's object, its getter -/
def prA (K : PySem.W.Frag) (C : Addr) (f : Str) : Addr := He.ma K C f
def prG (K : PySem.W.Frag) (C : Addr) (f : Str) : Addr := match PySem.W.recIn K (prA K C f) "property" with
  | some (.ref g :: _) => g
  | _ => 0
def prB (x f : Str) (K : PySem.W.Frag) : Bool := He.eqO (PySem.W.findIn K (.ref (He.ga K x)) f) (some (some (.ref (prA K (He.ga K x) f)))) && (He.eqO (PySem.W.specialIn K (.ref (prA K (He.ga K x) f)) "__get__") (some (some (.builtin "property.__get__"))) &&
  (decide (PySem.W.takesIn K (.ref (prA K (He.ga K x) f)) = some true) && (match PySem.W.recIn K (prA K (He.ga K x) f) "property" with
    | some (.ref _ :: _) => true
    | _ => false)))
theorem prB_ok {x f : Str} (h : prB x f K = true) : PropOf K (He.ga K x) f (prA K (He.ga K x) f) (prG K (He.ga K x) f) := by
  obtain ⟨h1, h⟩ := He.ba h
  obtain ⟨h2, h⟩ := He.ba h
  obtain ⟨h3, h4⟩ := He.ba h
  refine ⟨He.eqO_ok h1, He.eqO_ok h2, of_decide_eq_true h3, ?_⟩
  split at h4
  · rename_i g rest e
    refine ⟨rest, ?_⟩
    unfold prG
    rw [e]
  · cases h4
def allBt : List Bt := [.int, .bool, .str, .list, .tuple, .dict, .none]
theorem mem_allBt (b : Bt) : b ∈ allBt := by cases b <;> simp [allBt]
def insB (C : Addr) (K : PySem.W.Frag) : Bool := PySem.W.plainGet K C Str.empty && (PySem.W.hasDictIn K C && (PySem.W.plainOver K C && (He.eqO (PySem.W.findIn K (.ref C) "__setattr__") (some (some (.builtin "object.__setattr__"))) &&
  (He.eqO (PySem.W.findIn K (.ref C) "__class__") (some (some (.builtin "object.__class__"))) && (He.eqO (PySem.W.specialIn K (.builtin "object.__class__") "__get__") (some (some (.builtin "getset_descriptor.__get__"))) &&
  (decide (PySem.W.takesIn K (.builtin "object.__class__") = some true) && (decide (PySem.W.mroIn K C (.type "object") = some true) && decide (PySem.W.kitOne K (.ref C) (.ref C) = some true))))))))
theorem insB_ok {C : Addr} (h : insB C K = true) : C8.InsC K C := by
  obtain ⟨h1, h⟩ := He.ba h
  obtain ⟨h2, h⟩ := He.ba h
  obtain ⟨h3, h⟩ := He.ba h
  obtain ⟨h4, h⟩ := He.ba h
  obtain ⟨h5, h⟩ := He.ba h
  obtain ⟨h6, h⟩ := He.ba h
  obtain ⟨h7, h⟩ := He.ba h
  obtain ⟨h8, h9⟩ := He.ba h
  exact ⟨⟨h1, h2, h3, He.eqO_ok h4⟩, He.eqO_ok h5, He.eqO_ok h6, of_decide_eq_true h7, of_decide_eq_true h8, of_decide_eq_true h9⟩
def isaB (cl : PySem.W.Frag → Nat → Addr) (kn : List Nat) (K : PySem.W.Frag) : Bool := (kn.all fun c => insB (cl K c) K) && ((kn.all fun c => kn.all fun c' => decide (PySem.W.kitOne K (.ref (cl K c)) (.ref (cl K c')) = some (decide (c = c')))) &&
  (kn.all fun c => allBt.all fun b => decide (PySem.W.kitOne K (.ref (cl K c)) (.type b.name) = some false) && decide (PySem.W.kitOne K (.type b.name) (.ref (cl K c)) = some false)))
theorem isaB_ok {cl : PySem.W.Frag → Nat → Addr} {kn : List Nat} {k : Cn} (hK : k.K = K) (hc : k.cl = cl K) (h : isaB cl kn K = true) : IsaOk k kn := by
  obtain ⟨h1, h⟩ := He.ba h
  obtain ⟨h2, h3⟩ := He.ba h
  rw [List.all_eq_true] at h1 h2 h3
  refine ⟨fun c hm => ?_, fun c hm c' hm' => ?_, fun c hm b => ?_, fun c hm b => ?_⟩
  · rw [hK, hc]
    exact insB_ok (h1 c hm)
  · rw [hK, hc]
    exact of_decide_eq_true (List.all_eq_true.mp (h2 c hm) c' hm')
  · rw [hK, hc]
    exact of_decide_eq_true (He.ba (List.all_eq_true.mp (h3 c hm) b (mem_allBt b))).1
  · rw [hK, hc]
    exact of_decide_eq_true (He.ba (List.all_eq_true.mp (h3 c hm) b (mem_allBt b))).2
end
/-! ### the end -/
def scrD (ns : List Int) : D := .scr (ns.map D.int)
theorem rep_scr {k : Cn} {H : Hp} {a : Addr} {ns : List Int} (hO : Only H) (h : SqL k.K H a (ns.map V.int)) : Rep k (fun _ => 0) [] H (.ref a) (scrD ns) := by
  have nl : ¬ Live (fun _ => 0) [] a := by
    rintro ⟨i, c, e, _⟩
    simp at e
  rcases h with h | ⟨o, its, n, h1, h2, h3, h4, h5, h6⟩
  · rcases h with h | ⟨o, h⟩
    · rcases hO a with z | ⟨o, xs, z⟩
      · rw [h] at z; cases z
      · rw [h] at z; cases z
    · exact .scr nl h RepL.ints
  · exact .kscr ⟨o, its, n, h1, h2, h3, h4, h5, h6⟩ RepL.ints
theorem law_core {P : Program} {w : World} {K : PySem.W.Frag} {mg mb : Str → Option Value} {fa a : Addr} {sp : Sp} {s₁ : Shared} {vs : List Value} {ns : List Int}
    (KX : K.In s₁.heap) (hns : s₁.heap.Ns mainGlobals mg) (hb : s₁.heap.Ns builtinsNs mb) (hbb : ∀ x : Str, x ≠ "__name__" → mb x = bootBuiltins x) (hlim : s₁.heap.NoLimit) (hg : s₁.gens = #[])
    (ha : s₁.heap.get? a = some { cls := .type "list", data := .seq vs.toArray }) (hi : IntsAre vs ns) (hl : ns.length ≤ sizeLine)
    (key : ∀ base : Heap, K.In base → base.Ns mainGlobals mg → ∀ (s : Shared) (H : Hp), Env0 P w K mg base callerA [] s H → sp [.ref a] H (fun v _ => v = .bl true) (fun _ _ _ => False) →
      codeAny (model P w) callerA (.call (.ref fa) ⟨[.ref a], []⟩) (CR (L2.CX P w) [] P w H s (fun v _ => v = .bl true) fun _ _ _ => False) s)
    (hsp : ∀ H : Hp, Only H → SqL K H a (ns.map V.int) → sp [.ref a] H (fun v _ => v = .bl true) fun _ _ _ => False) :
    codeAny (model P w) callerA (.call (.ref fa) ⟨[.ref a], []⟩) (fun r s' => r = .ok (.ret (.bool true)) ∧ OldK s₁.heap s'.heap ∧ s'.os = s₁.os ∧ AllBare s'.gens) s₁ := by
  have rv := vals_ints hi
  have lenV := hi.length
  -- from an abstract heap in which nothing but the script may be tracked
  have core : ∀ H : Hp, Only H → SqL K H a (ns.map V.int) → HOk P w H s₁.heap → (∀ b, H b ≠ none → b = a) → (H a ≠ none → K.lookup a = none) →
      codeAny (model P w) callerA (.call (.ref fa) ⟨[.ref a], []⟩) (fun r s' => r = .ok (.ret (.bool true)) ∧ OldK s₁.heap s'.heap ∧ s'.os = s₁.os ∧ AllBare s'.gens) s₁ := by
    intro H hO hS hok hA hK
    have base_of : ∀ {b : Addr} {o : Obj}, s₁.heap.get? b = some o → H b = none → (hidT s₁.heap H).get? b = some o := fun e n => hidT_get e n
    have noA : ∀ {b : Addr} {o : Obj} {es : Array DictEntry} {ep : Nat}, s₁.heap.get? b = some o → o.data = .dict es ep → H b = none := fun {b o es ep} e d => by
      cases q : H b with
      | none => rfl
      | some u =>
        have e' : b = a := hA b (by rw [q]; simp)
        subst e'
        rw [ha] at e; cases e
        have d' : Data.seq vs.toArray _ = Data.dict es ep := d
        cases d'
    have nsK : ∀ {b : Addr} {m : Str → Option Value}, s₁.heap.Ns b m → (hidT s₁.heap H).Ns b m := fun {b m} ⟨o, es, ep, e, d, r⟩ => ⟨o, es, ep, base_of e (noA e d), d, r⟩
    have hKb : K.In (hidT s₁.heap H) := fun b o e => base_of (KX b o e) (by
      cases q : H b with
      | none => rfl
      | some u =>
        have e' : b = a := hA b (by rw [q]; simp)
        subst e'
        rw [hK (by rw [q]; simp)] at e; cases e)
    have hM : Mod K mg (hidT s₁.heap H) := ⟨hKb, nsK hns, ⟨mb, nsK hb, hbb⟩, let ⟨mc, h1, h2⟩ := hlim; ⟨mc, nsK h1, h2⟩⟩
    have e0 : Env0 P w K mg (hidT s₁.heap H) callerA [] s₁ H := ⟨rfl, hM, fun b o e => of_hidT e, Nat.le_of_eq (hidT_size _ _), trivial, fun b hb => absurd (show b ∈ ([] : List Addr) from hb) (by simp), hok, .of_eq hg⟩
    refine codeAny_mono (key _ hKb (nsK hns) s₁ H e0 (hsp H hO hS)) fun r s' h => ?_
    cases r with
    | error e =>
      obtain ⟨_, _, _, _, _, _, _, _, _, _, _, _, z⟩ := h
      exact z.elim
    | ok fl =>
      cases fl with
      | next => exact False.elim h
      | brk => exact False.elim h
      | cont => exact False.elim h
      | ret u =>
        obtain ⟨v, H', os, bare, un, hok', r', q⟩ := h
        have q' : v = .bl true := q
        subst q'
        obtain rfl : u = Value.bool true := r'
        refine ⟨rfl, OldK.of_keep fun b o e => ?_, os, bare⟩
        cases q : H b with
        | none => exact un.keep b o e q (by intro z; exact absurd (show b ∈ ([] : List Addr) from z) (by simp)) (by simp)
        | some u =>
          rcases hO b with z | ⟨ob, xs, z⟩
          · rw [q] at z; cases z
          · have z2 := un.frzs b ob _ z
            obtain ⟨e1, _⟩ := hok b _ z
            obtain ⟨e2, _⟩ := hok' b _ z2
            rw [e] at e1; cases e1
            exact e2
  cases hk : K.lookup a with
  | some o =>
    -- the script is one of the module's own objects
    have e := KX a o hk
    rw [ha] at e
    cases e
    refine core (fun _ => none) (fun _ => .inl rfl) (.inr ⟨_, vs.toArray, _, hk, rfl, rfl, rfl, by rw [List.size_toArray, lenV]; exact hl, by simpa using rv⟩) (fun b u z => by have z' : (none : Option HO) = some u := z; cases z') (fun b z => absurd rfl z) fun z => absurd rfl z
  | none =>
    refine core (fun b => if b = a then some (.frz { cls := .type "list", data := .seq vs.toArray } (.lst (ns.map V.int))) else none) (fun b => ?_) (.inl (.inr ⟨{ cls := .type "list", data := .seq vs.toArray }, if_pos rfl⟩)) (fun b u z => ?_) (fun b z => ?_) fun _ => hk
    · by_cases hb : b = a
      · exact .inr ⟨_, _, if_pos hb⟩
      · exact .inl (if_neg hb)
    · by_cases hb : b = a
      · have z' := (if_pos hb).symm.trans z
        cases z'
        subst hb
        exact ⟨ha, by rw [List.length_map]; exact hl, vs, _, rv, ha⟩
      · have z' := (if_neg hb).symm.trans z
        cases z'
    · by_cases hb : b = a
      · exact hb
      · exact absurd (if_neg hb) z
end CT
set_option maxHeartbeats 4000000
/-! DLH: a def that hands back a list of its own, to be changed by its caller. -/
namespace CT
open PySem L2 PySem.Spec PyProof.Rows
section
variable {k : Cn} {A A2 : Nat → Addr} {C C2 : Store} {H : Hp} {n : Nat}
structure Fw2 (n : Nat) (A : Nat → Addr) (C : Store) (A2 : Nat → Addr) (C2 : Store) : Prop where
  lv : ∀ a, Live A2 C2 a → Live A C a
  ix : ∀ j, j < n → A2 j = A j
  len : n ≤ C2.length
mutual
theorem Rep.fw2 (q : Fw2 n A C A2 C2) : ∀ {v : V} {d : D}, Rep k A C H v d → CT.cb n d = true → Rep k A2 C2 H v d
  | _, _, .non, _ => .non
  | _, _, .bl b, _ => .bl b
  | _, _, .int i, _ => .int i
  | _, _, .str s, _ => .str s
  | _, _, .lst l h r, z => .lst (fun y => l (q.lv _ y)) h (r.fw2 q (by simpa [CT.cb] using z))
  | _, _, .tup l h r, z => .tup (fun y => l (q.lv _ y)) h (r.fw2 q (by simpa [CT.cb] using z))
  | _, _, .ktup h r, z => .ktup h (r.fw2 q (by simpa [CT.cb] using z))
  | _, _, .scr l h r, z => .scr (fun y => l (q.lv _ y)) h (r.fw2 q (by simpa [CT.cb] using z))
  | _, _, .kscr h r, z => .kscr h (r.fw2 q (by simpa [CT.cb] using z))
  | _, _, .obj l h e r, z => .obj (fun y => l (q.lv _ y)) h e (r.fw2 q (by simpa [CT.cb] using z))
  | _, _, .exn x l h e r, z => .exn x (fun y => l (q.lv _ y)) h e (r.fw2 q (by simpa [CT.cb] using z))
  | _, _, .cls c, _ => .cls c
  | _, _, .dT l h r, z => .dT (fun y => l (q.lv _ y)) h (r.fw2 q (by simpa [CT.cb] using z))
  | _, _, .cell (i := i) hi, z => by
    have hi : i < n := by simpa [CT.cb] using z
    rw [← q.ix i hi]
    exact .cell (Nat.lt_of_lt_of_le hi q.len)
theorem RepL.fw2 (q : Fw2 n A C A2 C2) : ∀ {vs : List V} {ds : List D}, RepL k A C H vs ds → CT.cbL n ds = true → RepL k A2 C2 H vs ds
  | _, _, .nil, _ => .nil
  | _, _, .cons r t, z => by
    simp [CT.cbL] at z
    exact .cons (r.fw2 q z.1) (t.fw2 q z.2)
end
end
def finO (n : Nat) (d : D) (C : Store) : R D := match d with
  | .cell i => if n ≤ i then (match C[i]? with
    | some (some (.lst xs)) => if cbL n xs = true then .ok (.cell n) (C.take n ++ [some (.lst xs)]) else .stuck
    | _ => .stuck) else .stuck
  | _ => .stuck
def mDefO (np ns : Nat) (body : MS) : MF := fun ds C => if ds.length = np then (match body ⟨C.length, ds.map some ++ List.replicate (ns - np) none⟩ C with
    | .rt d C' => finO C.length d C'
    | .xc e _ C' => if cbL C.length e.fs = true then .exc e (C'.take C.length) else .stuck
    | _ => .stuck) else .stuck
theorem mDefO_ar {np ns : Nat} {body : MS} : Ar np (mDefO np ns body) := fun ds C h => by
  unfold mDefO
  rw [if_neg h]
section
variable {k : Cn}
theorem start_sr {np ns : Nat} {N : List Str} {vs : List V} {ds : List D} {H : Hp} {A : Nat → Addr} {C : Store} (hN : N.length = ns) (hv : vs.length = np) (hd : ds.length = np) (hp : np ≤ ns) (st : StOk k A C H) (rl : RepL k A C H vs ds) :
    SR k A ⟨C.length, ds.map some ++ List.replicate (ns - np) none⟩ C (L2.start N vs) H := by
  have sl : (L2.start N vs) = vs.map some ++ List.replicate (ns - np) none := by unfold L2.start; rw [hN, hv]
  refine ⟨st, st.low, Nat.le_refl _, ?_, fun i d e => ?_⟩
  · rw [sl]
    simp [rl.length]
  · rw [sl]
    have e' : (ds.map some ++ List.replicate (ns - np) none)[i]? = some (some d) := e
    by_cases hi : i < ds.length
    · rw [List.getElem?_append_left (by simpa using hi), List.getElem?_map] at e'
      cases ed : ds[i]? with
      | none => rw [ed] at e'; cases e'
      | some d' =>
        rw [ed] at e'
        cases e'
        obtain ⟨v, h1, h2⟩ := rl.get ed
        refine ⟨v, ?_, h2⟩
        rw [List.getElem?_append_left (by rw [List.length_map, rl.length]; exact hi), List.getElem?_map, h1]
        rfl
    · rw [List.getElem?_append_right (by simpa using hi)] at e'
      have := List.getElem?_eq_some_iff.mp e'
      obtain ⟨h1, h2⟩ := this
      rw [List.getElem_replicate] at h2
      cases h2
theorem spDO_body {np ns : Nat} {body : MS} {N : List Str} {vs : List V} {H : Hp} {Q : VK} {E : XK} (hN : N.length = ns) (hp : np ≤ ns) (h : SpD k np (mDefO np ns body) vs H Q E) :
    LS k (fun c d _ H' => E c d H') body { nx := fun _ H' => Q .non H', rt := Q } (L2.start N vs) H := by
  obtain ⟨hv, A, C, ds, st, rl, h⟩ := h
  have hd : ds.length = np := by rw [← rl.length]; exact hv
  unfold mDefO at h
  rw [if_pos hd] at h
  refine ⟨A, _, C, start_sr hN hv hd hp st rl, ?_⟩
  show AftS k _ C.length A C H (body ⟨C.length, ds.map some ++ List.replicate (ns - np) none⟩ C) _
  cases eb : body ⟨C.length, ds.map some ++ List.replicate (ns - np) none⟩ C with
  | nx sl' C' => rw [eb] at h; exact h.elim
  | bk sl' C' => rw [eb] at h; exact h.elim
  | ct sl' C' => rw [eb] at h; exact h.elim
  | stuck => rw [eb] at h; exact h.elim
  | rt d C' =>
    rw [eb] at h
    intro A' H' v p st' r
    simp only at h
    unfold finO at h
    split at h
    · rename_i i
      split at h
      · rename_i hi
        split at h
        · rename_i xs ec
          split at h
          · rename_i hc
            obtain ⟨q1, q2, q3, q4⟩ := cut_stp rfl st st' p
            cases r with
            | cell hi' =>
              obtain ⟨ws, hw, rw'⟩ := st'.at_ i _ ec
              have tl : (C'.take C.length ++ [some (Cell.lst xs)]).length = C.length + 1 := by simp [List.length_take]; omega
              have at_lt : ∀ j, j < C.length → (C'.take C.length ++ [some (Cell.lst xs)])[j]? = C'[j]? := fun j hj => by
                rw [List.getElem?_append_left (by rw [q4]; exact hj), List.getElem?_take_of_lt hj]
              have at_n : (C'.take C.length ++ [some (Cell.lst xs)])[C.length]? = some (some (.lst xs)) := by
                rw [List.getElem?_append_right (by rw [q4]; exact Nat.le_refl _), q4]
                simp
              have ex_lt : ∀ j, j < C.length → ext A' C.length (A' i) j = A' j := fun j hj => if_neg (Nat.ne_of_lt hj)
              have fw : Fw2 C.length A' C' (ext A' C.length (A' i)) (C'.take C.length ++ [some (.lst xs)]) := by
                refine ⟨fun a l => ?_, ex_lt, by rw [tl]; exact Nat.le_succ _⟩
                obtain ⟨j, c, e, z⟩ := l
                have hj : j < C.length + 1 := by rw [← tl]; exact (List.getElem?_eq_some_iff.mp e).1
                by_cases hj' : j < C.length
                · rw [at_lt j hj'] at e
                  rw [ex_lt j hj'] at z
                  exact ⟨j, c, e, z⟩
                · have ej : j = C.length := by omega
                  subst ej
                  rw [ext_at] at z
                  exact ⟨i, _, ec, z⟩
              have low : LowC C.length C' := p.low _ (Nat.le_refl _) (Nat.le_refl _) st.low
              have cellOk : ∀ c a, cbC C.length c = true → CellAt k A' C' H' a c → CellAt k (ext A' C.length (A' i)) (C'.take C.length ++ [some (.lst xs)]) H' a c := fun c a hb hx => by
                cases c with
                | lst ds => obtain ⟨ws, e, r⟩ := hx; exact ⟨ws, e, r.fw2 fw hb⟩
                | dT ks ds => obtain ⟨ws, e, z, r⟩ := hx; exact ⟨ws, e, z, r.fw2 fw hb⟩
                | ins c ds => obtain ⟨dx, ws, e, z, r⟩ := hx; exact ⟨dx, ws, e, z, r.fw2 fw hb⟩
              have st2 : StOk k (ext A' C.length (A' i)) (C'.take C.length ++ [some (.lst xs)]) H' := by
                refine ⟨fun j c e => ?_, fun j j' c c' e e' z => ?_⟩
                · have hj : j < C.length + 1 := by rw [← tl]; exact (List.getElem?_eq_some_iff.mp e).1
                  by_cases hj' : j < C.length
                  · rw [at_lt j hj'] at e
                    rw [ex_lt j hj']
                    exact cellOk c _ (low j c hj' e) (st'.at_ j c e)
                  · have ej : j = C.length := by omega
                    subst ej
                    rw [at_n] at e
                    cases e
                    rw [ext_at]
                    exact cellOk _ _ hc (st'.at_ i _ ec)
                · have hj : j < C.length + 1 := by rw [← tl]; exact (List.getElem?_eq_some_iff.mp e).1
                  have hk : j' < C.length + 1 := by rw [← tl]; exact (List.getElem?_eq_some_iff.mp e').1
                  by_cases hj' : j < C.length
                  · by_cases hk' : j' < C.length
                    · rw [at_lt j hj'] at e
                      rw [at_lt j' hk'] at e'
                      rw [ex_lt j hj', ex_lt j' hk'] at z
                      exact st'.inj j j' c c' e e' z
                    · have ek : j' = C.length := by omega
                      subst ek
                      rw [at_lt j hj'] at e
                      rw [ex_lt j hj', ext_at] at z
                      have := st'.inj j i c _ e ec z
                      omega
                  · have ej : j = C.length := by omega
                    subst ej
                    by_cases hk' : j' < C.length
                    · rw [at_lt j' hk'] at e'
                      rw [ex_lt j' hk', ext_at] at z
                      have := st'.inj j' i c' _ e' ec z.symm
                      omega
                    · omega
              refine h (ext A' C.length (A' i)) H' (.ref (A' i)) ⟨fun v d r => (p.rep v d r).fw2 fw r.cb, by rw [tl]; exact Nat.le_succ _, fun f h1 h2 l => low_app (by rw [q4]; exact h1) (low_take (p.low f h1 h2 l))⟩ st2 ?_
              have r9 : Rep k (ext A' C.length (A' i)) (C'.take C.length ++ [some (.lst xs)]) H' (.ref (ext A' C.length (A' i) C.length)) (.cell C.length) := .cell (by rw [tl]; exact Nat.lt_succ_self _)
              rw [ext_at] at r9
              exact r9
          · exact h.elim
        · exact h.elim
      · exact h.elim
    · exact h.elim
  | xc e sl' C' =>
    rw [eb] at h
    intro A' σ' H' dd ws p s' x l r
    simp only at h
    split at h
    · rename_i hc
      obtain ⟨q1, q2, q3, q4⟩ := cut_stp rfl st s'.st p
      exact h A' H' dd ws q1 q2 x l (r.cut q3 hc)
    · exact h.elim
variable {P : Program} {w : World} {mg : Str → Option Value} {base : Heap} {x qual : Str} {params : Arguments} {body : List Stmt} {scope : Scope} {dvs : List V} {kws : List (Str × V)} {f : Addr} {fd : FuncData}
theorem fn_okO {N ps : List Str} {lev : Nat} {m : MS} (F : FunD k.K x qual params body scope dvs kws f fd) (S : FnScope N ps scope) (hp : ps.length ≤ N.length)
    (hb : ∀ (cdv : Value) (A : Around) (outer : List Env) (s : Shared) (H : Hp) (E : XK), RoomG lev (A.deeper (envOfC qual scope s.heap.objs.size f cdv)) → PSs (cxOf (L2.CX P w) P w k.K mg base N qual scope f cdv A outer s H E) body (LS k (fun c d _ H' => E c d H') m)) :
    FnG P w k.K mg base (lev + 1) f fd ps (SpD k ps.length (mDefO ps.length N.length m)) := by
  obtain ⟨oc, od, dV, kV, doc, pm, an, cdv, ct, osl, rfl, lk, hcd, _, _⟩ := F.ex
  exact fn_ofG lk hcd S (fun vs H Q E h => h.1) fun A outer s H vs Q E hr h => ⟨_, hb cdv A outer s H E hr, spDO_body rfl hp h⟩
end
end CT
set_option maxHeartbeats 4000000
/-! DLI: comparisons as tests. -/
namespace CT
open PySem L2 PySem.Spec PyProof.Rows
theorem RoomG.u65 {n : Nat} {A : Around} (hr : RoomG n A) : A.units + 65 < cLine := by have := hr.room.un; omega
theorem RoomG.u200 {n : Nat} {A : Around} (hr : RoomG n A) : A.units + 200 < cLine := by have := hr.room.un; omega
section
variable {X : Cx} {k : Cn} {W : WX} {a b c : Expr} {pos : Pos} {op op' : CmpOp} {r r' : R2} {o o' : O2} {ma mb mc : ME}
theorem dt_cmp (hR : OpR X (compareOp op) r) (hD : OpD k r o) (ha : PE X a (LE k W ma)) (hb : PE X b (LE k W mb)) (hm : behindInMarks op b = false) : PT X (.Compare a [op] [b] pos) (LT k W (mTst (mOp o ma mb))) :=
  (pt_cmpR hR ha hb hm).cq fun _ _ _ h => le_op hD (lt_val h)
end
/-! ### == and !=, scalars or data -/
def oEqA (neg : Bool) : O2 := fun x y C => match x, y with
  | .int a, .int b => some (.bl (if neg = true then !decide (a = b) else decide (a = b)), C)
  | .str a, .str b => some (.bl (if neg = true then !decide (a = b) else decide (a = b)), C)
  | x, y => oEqD neg x y C
theorem d_eqA {k : Cn} : OpD k (fun x y H Q => rEq x y H Q ∨ rEqD k.K x y H Q) (oEqA false) := by
  intro fl A C H x y dx dy d C' Q hf hl st rx ry e q
  unfold oEqA at e
  split at e
  · cases rx; cases ry; cases e
    refine .inl ⟨rfl, ?_⟩
    have := q A H _ Stp.refl st (.bl _)
    simpa using this
  · cases rx; cases ry; cases e
    refine .inl ⟨rfl, ?_⟩
    have := q A H _ Stp.refl st (.bl _)
    simpa using this
  · exact .inr (d_eqD fl A C H x y _ _ d C' Q hf hl st rx ry e q)
theorem d_neA {k : Cn} : OpD k (fun x y H Q => rNe x y H Q ∨ rNeD k.K x y H Q) (oEqA true) := by
  intro fl A C H x y dx dy d C' Q hf hl st rx ry e q
  unfold oEqA at e
  split at e
  · cases rx; cases ry; cases e
    refine .inl ⟨rfl, ?_⟩
    have := q A H _ Stp.refl st (.bl _)
    simpa using this
  · cases rx; cases ry; cases e
    refine .inl ⟨rfl, ?_⟩
    have := q A H _ Stp.refl st (.bl _)
    simpa using this
  · exact .inr (d_neD fl A C H x y _ _ d C' Q hf hl st rx ry e q)
end CT
set_option maxHeartbeats 4000000
/-! E1: how the terms of the layer are worked out. -/
namespace CT
open PySem L2
/-! ### named steps; simp looks at what is done first alone -/
def getV (o : Option (Option D)) (C : Store) : R D := match o with
  | some (some d) => .ok d C
  | _ => .stuck
@[simp] theorem getV_some (d : D) (C : Store) : getV (some (some d)) C = .ok d C := rfl
def thenS (r : RS) (f : List (Option D) → Store → RS) : RS := match r with
  | .nx sl C => f sl C
  | r => r
@[simp] theorem thenS_nx (sl : List (Option D)) (C : Store) (f : List (Option D) → Store → RS) : thenS (.nx sl C) f = f sl C := rfl
@[simp] theorem thenS_rt (d : D) (C : Store) (f : List (Option D) → Store → RS) : thenS (.rt d C) f = .rt d C := rfl
@[simp] theorem thenS_bk (sl : List (Option D)) (C : Store) (f : List (Option D) → Store → RS) : thenS (.bk sl C) f = .bk sl C := rfl
@[simp] theorem thenS_ct (sl : List (Option D)) (C : Store) (f : List (Option D) → Store → RS) : thenS (.ct sl C) f = .ct sl C := rfl
def asB (d : D) (C : Store) : R Bool := match d with
  | .bl b => .ok b C
  | _ => .stuck
@[simp] theorem asB_bl (b : Bool) (C : Store) : asB (.bl b) C = .ok b C := rfl
def asgS (o : Option (List (Option D))) (C : Store) : RS := match o with
  | some sl => .nx sl C
  | none => .stuck
@[simp] theorem asgS_some (sl : List (Option D)) (C : Store) : asgS (some sl) C = .nx sl C := rfl
def finS (n : Nat) (r : RS) : R D := match r with
  | .nx _ C' => fin n .non C'
  | .rt d C' => fin n d C'
  | .xc e _ C' => if cbL n e.fs = true then .exc e (C'.take n) else .stuck
  | _ => .stuck
@[simp] theorem finS_nx (n : Nat) (sl : List (Option D)) (C : Store) : finS n (.nx sl C) = fin n .non C := rfl
@[simp] theorem finS_rt (n : Nat) (d : D) (C : Store) : finS n (.rt d C) = fin n d C := rfl
theorem ev_def {np ns : Nat} {body : MS} {ds : List D} {C : Store} (h : ds.length = np) : mDef np ns body ds C = finS C.length (body ⟨C.length, ds.map some ++ List.replicate (ns - np) none⟩ C) := by
  unfold mDef
  rw [if_pos h]
  rfl
@[simp] theorem fin_int (n : Nat) (i : Int) (C : Store) : fin n (.int i) C = .ok (.int i) (C.take n) := rfl
@[simp] theorem fin_bl (n : Nat) (i : Bool) (C : Store) : fin n (.bl i) C = .ok (.bl i) (C.take n) := rfl
@[simp] theorem fin_non (n : Nat) (C : Store) : fin n .non C = .ok .non (C.take n) := rfl
@[simp] theorem fin_str (n : Nat) (i : Str) (C : Store) : fin n (.str i) C = .ok (.str i) (C.take n) := rfl
section
variable (fl : Nat) (sl : List (Option D)) (C : Store) (F : Fr)
@[simp] theorem ev_var (i : Nat) : mVar i ⟨fl, sl⟩ C = getV sl[i]? C := rfl
@[simp] theorem ev_c (d : D) : mC d F C = .ok d C := rfl
@[simp] theorem ev_nil : mNil F C = .ok [] C := rfl
@[simp] theorem ev_next : sNext F C = .nx F.sl C := rfl
@[simp] theorem ev_yes : tYesM F C = .ok true C := rfl
@[simp] theorem ev_retN : sRetN F C = .rt .non C := rfl
@[simp] theorem ev_gN (i : Nat) (d : D) : gN i d sl = some (sl.set i (some d)) := rfl
@[simp] theorem ev_ofO_some (d : D) : ofO (some (d, C)) = .ok d C := rfl
@[simp] theorem ev_ofO_none : ofO none = .stuck := rfl
@[simp] theorem ev_add (a b : Int) : oAdd (.int a) (.int b) C = some (.int (a + b), C) := rfl
@[simp] theorem ev_sub (a b : Int) : oSub (.int a) (.int b) C = some (.int (a - b), C) := rfl
@[simp] theorem ev_lt (a b : Int) : oLt (.int a) (.int b) C = some (.bl (decide (a < b)), C) := rfl
@[simp] theorem ev_le (a b : Int) : oLe (.int a) (.int b) C = some (.bl (decide (a ≤ b)), C) := rfl
@[simp] theorem ev_gt (a b : Int) : oGt (.int a) (.int b) C = some (.bl (decide (b < a)), C) := rfl
@[simp] theorem ev_ge (a b : Int) : oGe (.int a) (.int b) C = some (.bl (decide (b ≤ a)), C) := rfl
@[simp] theorem ev_neg (a : Int) : oNeg (.int a) C = some (.int (-a), C) := rfl
@[simp] theorem ev_min (a b : Int) : oMin2 [.int a, .int b] C = some (.int (min a b), C) := by
  show some (D.int (if b < a then b else a), C) = _
  congr 3
  by_cases h : b < a
  · rw [if_pos h]; omega
  · rw [if_neg h]; omega
@[simp] theorem ev_max (a b : Int) : oMax2 [.int a, .int b] C = some (.int (max a b), C) := by
  show some (D.int (if b > a then b else a), C) = _
  congr 3
  by_cases h : b > a
  · rw [if_pos h]; omega
  · rw [if_neg h]; omega
@[simp] theorem ev_int (a : Int) : oInt [.int a] C = some (.int a, C) := rfl
@[simp] theorem ev_abs (a : Int) : oAbs [.int a] C = some (.int (a.natAbs : Int), C) := by
  show some (D.int (if a < 0 then -a else a), C) = _
  congr 3
  by_cases h : a < 0
  · rw [if_pos h]; omega
  · rw [if_neg h]; omega
theorem ev_mul {a b : Int} (h : cMul a b = true) : oMul (.int a) (.int b) C = some (.int (a * b), C) := by
  show (if cMul a b = true then some (D.int (a * b), C) else none) = _
  rw [if_pos h]
theorem ev_mod {a b : Int} (h : 0 < b) : oMod (.int a) (.int b) C = some (.int (a % b), C) := by
  show (if decide (0 < b) = true then some (D.int (a % b), C) else none) = _
  rw [if_pos (decide_eq_true h)]
theorem ev_div {a b : Int} (h : 0 < b) (h2 : b < 4611686018427387904) : oDiv (.int a) (.int b) C = some (.int (a / b), C) := by
  show (if cDiv a b = true then some (D.int (a / b), C) else none) = _
  rw [if_pos (by simp [cDiv, h, h2])]
@[simp] theorem ev_eq (a b : Int) : oEqA false (.int a) (.int b) C = some (.bl (decide (a = b)), C) := rfl
@[simp] theorem ev_ne (a b : Int) : oEqA true (.int a) (.int b) C = some (.bl (!decide (a = b)), C) := rfl
@[simp] theorem ev_eqS (a b : Str) : oEqA false (.str a) (.str b) C = some (.bl (decide (a = b)), C) := rfl
@[simp] theorem ev_neS (a b : Str) : oEqA true (.str a) (.str b) C = some (.bl (!decide (a = b)), C) := rfl
end
/-! ### what is done next, as constants -/
section
variable {α β : Type}
def opK2 (o : O2) (x : D) (m : R D) : R D := bnd m fun y C2 => ofO (o x y C2)
@[simp] theorem opK2_ok (o : O2) (x y : D) (C : Store) : opK2 o x (.ok y C) = ofO (o x y C) := rfl
def opK (o : O2) (b : ME) (F : Fr) (m : R D) : R D := bnd m fun x C1 => opK2 o x (b F C1)
@[simp] theorem opK_ok (o : O2) (b : ME) (F : Fr) (x : D) (C : Store) : opK o b F (.ok x C) = opK2 o x (b F C) := rfl
@[simp] theorem ev_op (o : O2) (a b : ME) (F : Fr) (C : Store) : mOp o a b F C = opK o b F (a F C) := rfl
def unK (o : O1) (m : R D) : R D := bnd m fun x C1 => ofO (o x C1)
@[simp] theorem unK_ok (o : O1) (x : D) (C : Store) : unK o (.ok x C) = ofO (o x C) := rfl
@[simp] theorem ev_un (o : O1) (a : ME) (F : Fr) (C : Store) : mUn o a F C = unK o (a F C) := rfl
def consK2 (x : D) (m : R (List D)) : R (List D) := bnd m fun xs C2 => .ok (x :: xs) C2
@[simp] theorem consK2_ok (x : D) (xs : List D) (C : Store) : consK2 x (.ok xs C) = .ok (x :: xs) C := rfl
def consK (r : MA) (F : Fr) (m : R D) : R (List D) := bnd m fun x C1 => consK2 x (r F C1)
@[simp] theorem consK_ok (r : MA) (F : Fr) (x : D) (C : Store) : consK r F (.ok x C) = consK2 x (r F C) := rfl
@[simp] theorem ev_cons (a : ME) (r : MA) (F : Fr) (C : Store) : mCons a r F C = consK r F (a F C) := rfl
def apK (o : OA) (m : R (List D)) : R D := bnd m fun xs C1 => ofO (o xs C1)
@[simp] theorem apK_ok (o : OA) (xs : List D) (C : Store) : apK o (.ok xs C) = ofO (o xs C) := rfl
@[simp] theorem ev_ap (o : OA) (a : MA) (F : Fr) (C : Store) : mAp o a F C = apK o (a F C) := rfl
def tstK (m : R D) : R Bool := bnd m asB
@[simp] theorem tstK_ok (b : Bool) (C : Store) : tstK (.ok (.bl b) C) = .ok b C := rfl
@[simp] theorem ev_tst (a : ME) (F : Fr) (C : Store) : mTst a F C = tstK (a F C) := rfl
def tandK (b : MT) (F : Fr) (m : R Bool) : R Bool := bnd m fun x C1 => if x = true then b F C1 else .ok false C1
@[simp] theorem tandK_t (b : MT) (F : Fr) (C : Store) : tandK b F (.ok true C) = b F C := rfl
@[simp] theorem tandK_f (b : MT) (F : Fr) (C : Store) : tandK b F (.ok false C) = .ok false C := rfl
@[simp] theorem ev_tand (a b : MT) (F : Fr) (C : Store) : tAndM a b F C = tandK b F (a F C) := rfl
def torK (b : MT) (F : Fr) (m : R Bool) : R Bool := bnd m fun x C1 => if x = true then .ok true C1 else b F C1
@[simp] theorem torK_t (b : MT) (F : Fr) (C : Store) : torK b F (.ok true C) = .ok true C := rfl
@[simp] theorem torK_f (b : MT) (F : Fr) (C : Store) : torK b F (.ok false C) = b F C := rfl
@[simp] theorem ev_tor (a b : MT) (F : Fr) (C : Store) : tOrM a b F C = torK b F (a F C) := rfl
def tnotK (m : R Bool) : R Bool := bnd m fun x C1 => .ok (!x) C1
@[simp] theorem tnotK_ok (x : Bool) (C : Store) : tnotK (.ok x C) = .ok (!x) C := rfl
@[simp] theorem ev_tnot (a : MT) (F : Fr) (C : Store) : tNotM a F C = tnotK (a F C) := rfl
def ifK (a b : ME) (F : Fr) (m : R Bool) : R D := bnd m fun x C1 => if x = true then a F C1 else b F C1
@[simp] theorem ifK_t (a b : ME) (F : Fr) (C : Store) : ifK a b F (.ok true C) = a F C := rfl
@[simp] theorem ifK_f (a b : ME) (F : Fr) (C : Store) : ifK a b F (.ok false C) = b F C := rfl
@[simp] theorem ev_if (t : MT) (a b : ME) (F : Fr) (C : Store) : mIf t a b F C = ifK a b F (t F C) := rfl
def andK (b : ME) (F : Fr) (m : R D) : R D := bnd m fun x C1 => match x with
  | .bl true => b F C1
  | .bl false => .ok (.bl false) C1
  | _ => .stuck
@[simp] theorem andK_t (b : ME) (F : Fr) (C : Store) : andK b F (.ok (.bl true) C) = b F C := rfl
@[simp] theorem andK_f (b : ME) (F : Fr) (C : Store) : andK b F (.ok (.bl false) C) = .ok (.bl false) C := rfl
@[simp] theorem ev_and (a b : ME) (F : Fr) (C : Store) : mAnd a b F C = andK b F (a F C) := rfl
def orK (b : ME) (F : Fr) (m : R D) : R D := bnd m fun x C1 => match x with
  | .bl true => .ok (.bl true) C1
  | .bl false => b F C1
  | _ => .stuck
@[simp] theorem orK_t (b : ME) (F : Fr) (C : Store) : orK b F (.ok (.bl true) C) = .ok (.bl true) C := rfl
@[simp] theorem orK_f (b : ME) (F : Fr) (C : Store) : orK b F (.ok (.bl false) C) = b F C := rfl
@[simp] theorem ev_or (a b : ME) (F : Fr) (C : Store) : mOr a b F C = orK b F (a F C) := rfl
def notK (m : R D) : R D := bnd m fun x C1 => match x with
  | .bl b => .ok (.bl (!b)) C1
  | _ => .stuck
@[simp] theorem notK_ok (b : Bool) (C : Store) : notK (.ok (.bl b) C) = .ok (.bl (!b)) C := rfl
@[simp] theorem ev_not (a : ME) (F : Fr) (C : Store) : mNot a F C = notK (a F C) := rfl
def chK4 (o' : O2) (y : D) (m : R D) : R D := bnd m fun w C4 => ofO (o' y w C4)
@[simp] theorem chK4_ok (o' : O2) (y w : D) (C : Store) : chK4 o' y (.ok w C) = ofO (o' y w C) := rfl
def chK3 (o' : O2) (c : ME) (F : Fr) (y : D) (m : R D) : R D := bnd m fun z C3 => match z with
  | .bl true => chK4 o' y (c F C3)
  | .bl false => .ok (.bl false) C3
  | _ => .stuck
@[simp] theorem chK3_t (o' : O2) (c : ME) (F : Fr) (y : D) (C : Store) : chK3 o' c F y (.ok (.bl true) C) = chK4 o' y (c F C) := rfl
@[simp] theorem chK3_f (o' : O2) (c : ME) (F : Fr) (y : D) (C : Store) : chK3 o' c F y (.ok (.bl false) C) = .ok (.bl false) C := rfl
def chK2 (o o' : O2) (c : ME) (F : Fr) (x : D) (m : R D) : R D := bnd m fun y C2 => chK3 o' c F y (ofO (o x y C2))
@[simp] theorem chK2_ok (o o' : O2) (c : ME) (F : Fr) (x y : D) (C : Store) : chK2 o o' c F x (.ok y C) = chK3 o' c F y (ofO (o x y C)) := rfl
def chK (o o' : O2) (b c : ME) (F : Fr) (m : R D) : R D := bnd m fun x C1 => chK2 o o' c F x (b F C1)
@[simp] theorem chK_ok (o o' : O2) (b c : ME) (F : Fr) (x : D) (C : Store) : chK o o' b c F (.ok x C) = chK2 o o' c F x (b F C) := rfl
@[simp] theorem ev_chain (o o' : O2) (a b c : ME) (F : Fr) (C : Store) : mChain o o' a b c F C = chK o o' b c F (a F C) := rfl
def seqK (b : MS) (fl : Nat) (r : RS) : RS := match r with
  | .nx sl C1 => b ⟨fl, sl⟩ C1
  | r => r
@[simp] theorem seqK_nx (b : MS) (fl : Nat) (sl : List (Option D)) (C : Store) : seqK b fl (.nx sl C) = b ⟨fl, sl⟩ C := rfl
@[simp] theorem seqK_rt (b : MS) (fl : Nat) (d : D) (C : Store) : seqK b fl (.rt d C) = .rt d C := rfl
@[simp] theorem ev_seq (a b : MS) (F : Fr) (C : Store) : sSeq a b F C = seqK b F.fl (a F C) := by
  unfold sSeq seqK
  cases a F C <;> rfl
def dropK (sl : List (Option D)) (m : R D) : RS := bndS sl m fun _ C1 => .nx sl C1
@[simp] theorem dropK_ok (sl : List (Option D)) (d : D) (C : Store) : dropK sl (.ok d C) = .nx sl C := rfl
@[simp] theorem ev_sdrop (m : ME) (F : Fr) (C : Store) : sDrop m F C = dropK F.sl (m F C) := rfl
def retK (sl : List (Option D)) (m : R D) : RS := bndS sl m fun d C1 => .rt d C1
@[simp] theorem retK_ok (sl : List (Option D)) (d : D) (C : Store) : retK sl (.ok d C) = .rt d C := rfl
@[simp] theorem ev_sret (m : ME) (F : Fr) (C : Store) : sRet m F C = retK F.sl (m F C) := rfl
def sifK (a b : MS) (F : Fr) (m : R Bool) : RS := bndS F.sl m fun x C1 => if x = true then a F C1 else b F C1
@[simp] theorem sifK_t (a b : MS) (F : Fr) (C : Store) : sifK a b F (.ok true C) = a F C := rfl
@[simp] theorem sifK_f (a b : MS) (F : Fr) (C : Store) : sifK a b F (.ok false C) = b F C := rfl
@[simp] theorem ev_sif (t : MT) (a b : MS) (F : Fr) (C : Store) : sIf t a b F C = sifK a b F (t F C) := rfl
def asgK (g : MG) (sl : List (Option D)) (m : R D) : RS := bndS sl m fun d C1 => asgS (g d sl) C1
@[simp] theorem asgK_ok (g : MG) (sl : List (Option D)) (d : D) (C : Store) : asgK g sl (.ok d C) = asgS (g d sl) C := rfl
@[simp] theorem ev_asg (m : ME) (g : MG) (F : Fr) (C : Store) : sAsg m g F C = asgK g F.sl (m F C) := rfl
def parK (is : List Nat) (sl : List (Option D)) (m : R (List D)) : RS := bndS sl m fun ds C1 => asgS (setAll is ds sl) C1
@[simp] theorem parK_ok (is : List Nat) (sl : List (Option D)) (ds : List D) (C : Store) : parK is sl (.ok ds C) = asgS (setAll is ds sl) C := rfl
@[simp] theorem ev_par (is : List Nat) (m : MA) (F : Fr) (C : Store) : sPar is m F C = parK is F.sl (m F C) := rfl
@[simp] theorem setAll_nil (sl : List (Option D)) : setAll [] [] sl = some sl := rfl
@[simp] theorem setAll_cons (i : Nat) (is : List Nat) (d : D) (ds : List D) (sl : List (Option D)) : setAll (i :: is) (d :: ds) sl = setAll is ds (sl.set i (some d)) := rfl
@[simp] theorem ev_gT (is : List Nat) (ds : List D) (sl : List (Option D)) : gT is (.tup ds) sl = setAll is ds sl := rfl
def callK (m : MF) (dds : List D) (r : R (List D)) : R D := bnd r fun ds C1 => m (ds ++ dds) C1
@[simp] theorem callK_ok (m : MF) (dds ds : List D) (C : Store) : callK m dds (.ok ds C) = m (ds ++ dds) C := rfl
@[simp] theorem ev_call (m : MF) (dds : List D) (a : MA) (F : Fr) (C : Store) : mCall m dds a F C = callK m dds (a F C) := rfl
def forK (g : MG) (body : MS) (F : Fr) (m : R ItD) : RS := bndS F.sl m fun it C1 => loopN it g body F.fl it.n 0 F.sl C1
@[simp] theorem forK_ok (g : MG) (body : MS) (F : Fr) (it : ItD) (C : Store) : forK g body F (.ok it C) = loopN it g body F.fl it.n 0 F.sl C := rfl
@[simp] theorem ev_for (mi : MI) (g : MG) (body : MS) (F : Fr) (C : Store) : sFor mi g body F C = forK g body F (mi F C) := rfl
/-! #### methods, properties, dicts -/
def mthK2 (m : MF) (dds : List D) (x : D) (r : R (List D)) : R D := bnd r fun ds C2 => m (x :: (ds ++ dds)) C2
@[simp] theorem mthK2_ok (m : MF) (dds ds : List D) (x : D) (C : Store) : mthK2 m dds x (.ok ds C) = m (x :: (ds ++ dds)) C := rfl
def mthK (c : Nat) (m : MF) (dds : List D) (a : MA) (F : Fr) (r : R D) : R D := bnd r fun x C1 => match vO x C1 with
  | some (c', _) => if c' = c then mthK2 m dds x (a F C1) else .stuck
  | none => .stuck
@[simp] theorem mthK_ok (c : Nat) (m : MF) (dds : List D) (a : MA) (F : Fr) (fs : List D) (C : Store) : mthK c m dds a F (.ok (.obj c fs) C) = mthK2 m dds (.obj c fs) (a F C) := by
  show (if c = c then mthK2 m dds (.obj c fs) (a F C) else .stuck) = _
  rw [if_pos rfl]
@[simp] theorem ev_meth (c : Nat) (m : MF) (dds : List D) (mo : ME) (a : MA) (F : Fr) (C : Store) : mMeth c m dds mo a F C = mthK c m dds a F (mo F C) := rfl
def prpK (c : Nat) (m : MF) (r : R D) : R D := bnd r fun x C1 => match vO x C1 with
  | some (c', _) => if c' = c then (match m [x] C1 with
    | .ok d C2 => .ok d C2
    | _ => .stuck) else .stuck
  | none => .stuck
@[simp] theorem ev_prop (c : Nat) (m : MF) (mo : ME) (F : Fr) (C : Store) : mProp c m mo F C = prpK c m (mo F C) := rfl
@[simp] theorem ev_fld (c n : Nat) (fs : List D) (C : Store) : oFld c n (.obj c fs) C = (fs[n]?).map fun d => (d, C) := by
  unfold oFld
  simp [vO]
def getK3 (x y : D) (m : R D) : R D := bnd m fun z C3 => ofO (oDGet x y z C3)
@[simp] theorem getK3_ok (x y z : D) (C : Store) : getK3 x y (.ok z C) = ofO (oDGet x y z C) := rfl
def getK2 (c : ME) (F : Fr) (x : D) (m : R D) : R D := bnd m fun y C2 => getK3 x y (c F C2)
@[simp] theorem getK2_ok (c : ME) (F : Fr) (x y : D) (C : Store) : getK2 c F x (.ok y C) = getK3 x y (c F C) := rfl
def getK (b c : ME) (F : Fr) (m : R D) : R D := bnd m fun x C1 => if (vD x C1).isSome = true then getK2 c F x (b F C1) else .stuck
@[simp] theorem ev_dget (a b c : ME) (F : Fr) (C : Store) : mDGet a b c F C = getK b c F (a F C) := rfl
def isiK (kn : List Nat) (t : Cc) (m : R D) : R D := bnd m fun d C1 => match isi kn d C1 t with
  | some b => .ok (.bl b) C1
  | none => .stuck
@[simp] theorem ev_isi (kn : List Nat) (t : Cc) (m : ME) (F : Fr) (C : Store) : mIsi kn t m F C = isiK kn t (m F C) := rfl
@[simp] theorem isiK_ok (kn : List Nat) (t : Cc) (d : D) (C : Store) : isiK kn t (.ok d C) = ofO ((isi kn d C t).map fun b => (.bl b, C)) := by
  show (match isi kn d C t with
    | some b => R.ok (D.bl b) C
    | none => R.stuck) = _
  cases isi kn d C t <;> rfl
/-! #### lists written -/
def stK4 (F : Fr) (v o : D) (x : D) (C3 : Store) : RS := match x, cL o C3 with
  | .int n, some (i, ds) => match ixN ds.length n with
    | some j => match wr F.fl i (.lst (ds.set j v)) C3 with
      | some C4 => .nx F.sl C4
      | none => .stuck
    | none => .stuck
  | _, _ => .stuck
def stK3 (F : Fr) (v o : D) (m : R D) : RS := bndS F.sl m fun x C3 => stK4 F v o x C3
@[simp] theorem stK3_ok (F : Fr) (v o x : D) (C : Store) : stK3 F v o (.ok x C) = stK4 F v o x C := rfl
def stK2 (mi : ME) (F : Fr) (v : D) (m : R D) : RS := bndS F.sl m fun o C2 => stK3 F v o (mi F C2)
@[simp] theorem stK2_ok (mi : ME) (F : Fr) (v o : D) (C : Store) : stK2 mi F v (.ok o C) = stK3 F v o (mi F C) := rfl
def stK (mo mi : ME) (F : Fr) (m : R D) : RS := bndS F.sl m fun v C1 => stK2 mi F v (mo F C1)
@[simp] theorem stK_ok (mo mi : ME) (F : Fr) (v : D) (C : Store) : stK mo mi F (.ok v C) = stK2 mi F v (mo F C) := rfl
@[simp] theorem ev_setL (me mo mi : ME) (F : Fr) (C : Store) : sSetL me mo mi F C = stK mo mi F (me F C) := rfl
def auK4 (o : Int → Int → Int) (F : Fr) (l : D) (n a : Int) (v : D) (C3 : Store) : RS := match v, cL l C3 with
  | .int b, some (i, es) => (match ixN es.length n with
    | some j => (match wr F.fl i (.lst (es.set j (.int (o a b)))) C3 with
      | some C4 => .nx F.sl C4
      | none => .stuck)
    | none => .stuck)
  | _, _ => .stuck
def auK3 (o : Int → Int → Int) (F : Fr) (l : D) (n a : Int) (m : R D) : RS := bndS F.sl m fun v C3 => auK4 o F l n a v C3
@[simp] theorem auK3_ok (o : Int → Int → Int) (F : Fr) (l : D) (n a : Int) (v : D) (C : Store) : auK3 o F l n a (.ok v C) = auK4 o F l n a v C := rfl
def auK2 (o : Int → Int → Int) (me : ME) (F : Fr) (l : D) (x : D) (C2 : Store) : RS := match x, cL l C2 with
  | .int n, some (_, ds) => if 0 ≤ n then (match ds[n.toNat]? with
    | some (.int a) => auK3 o F l n a (me F C2)
    | _ => .stuck) else .stuck
  | _, _ => .stuck
def auK1 (o : Int → Int → Int) (me : ME) (F : Fr) (l : D) (m : R D) : RS := bndS F.sl m fun x C2 => auK2 o me F l x C2
@[simp] theorem auK1_ok (o : Int → Int → Int) (me : ME) (F : Fr) (l x : D) (C : Store) : auK1 o me F l (.ok x C) = auK2 o me F l x C := rfl
def auK (o : Int → Int → Int) (mi me : ME) (F : Fr) (m : R D) : RS := bndS F.sl m fun l C1 => auK1 o me F l (mi F C1)
@[simp] theorem auK_ok (o : Int → Int → Int) (mi me : ME) (F : Fr) (l : D) (C : Store) : auK o mi me F (.ok l C) = auK1 o me F l (mi F C) := rfl
@[simp] theorem ev_augL (o : Int → Int → Int) (mo mi me : ME) (F : Fr) (C : Store) : sAugL o mo mi me F C = auK o mi me F (mo F C) := rfl
@[simp] theorem cbL_ints (n : Nat) : ∀ cs : List Int, cbL n (cs.map D.int) = true
  | [] => rfl
  | c :: cs => by
    show (cb n (.int c) && cbL n (cs.map D.int)) = true
    rw [cbL_ints n cs]
    rfl
end
end CT
set_option maxHeartbeats 4000000
/-! DLJ: operators that a class defines: ==, !=, +, in, []. -/
namespace CT
open PySem L2 PySem.Spec PyProof.Rows
/-- an operation that may call a def of the program's own -/
def OpX (X : Cx) (f : Value → Value → Sem Value) (r : L2.St → R2) : Prop :=
  ∀ (pins : List (Addr × Obj)) (s : Shared) (σ : L2.St) (H : Hp) (x y : V) (v u : Value) (Q : VK), Inv X pins σ H s → RelV x v → RelV y u → r σ x y H Q → wpAny (model X.prog X.w) X.A (f v u) (EP X pins σ Q) X.xe s
def tOpX (r : L2.St → R2) (ta tb : TE) : TE := fun σ H Q => ta σ H fun x H1 => tb σ H1 fun y H2 => r σ x y H2 Q
section
variable {X : Cx} {k : Cn} {W : WX} {σ : L2.St} {H : Hp} {Q : VK} {lev : Nat} {C g a dx : Addr} {fs : List (Str × V)} {f : Str} {fd : FuncData} {ps : List Str} {np : Nat} {m : MF} {e o b : Expr} {pos : Pos} {ta tb : TE} {mo me : ME} {E : L2.St → XK} {sp : Sp} {r : L2.St → R2}
theorem pe_cmpX {op : CmpOp} (ho : OpX X (compareOp op) r) (ha : PE X e ta) (hb : PE X b tb) (hm : behindInMarks op b = false) : PE X (.Compare e [op] [b] pos) (tOpX r ta tb) :=
  ⟨fun pins s σ H Q I h => wpAny_Compare1 (binT ha hb I h fun v u s2 x y H2 I2 rx ry q => ho pins s2 σ H2 x y v u Q I2 rx ry q) hm⟩
/-- y in x, x an instance with an own __contains__ that gives a truth -/
theorem op_inO {neg : Bool} (hs : PySem.W.findIn X.K (.ref C) "__contains__" = some (some (.ref g))) (hf : PySem.W.isFn X.K (.ref g) = true) (F : FnG X.prog X.w X.K X.mg X.base lev g fd ps sp) (hr : RoomG lev X.A) (hb : Binds X.K fd ps []) (hx : ∀ σ, PassesAt (L2.CX X.prog X.w) X σ (E σ)) :
    OpX X (compareOp (if neg = true then .NotIn else .In)) fun σ x y H Q => ∃ a dx fs, y = .ref a ∧ H a = some (.ins C dx fs) ∧ sp [y, x] H (fun z H' => ∃ t, z = .bl t ∧ Q (.bl (if neg = true then !t else t)) H') (E σ) := by
  intro pins s σ H x y v u Q I rx ry h
  obtain ⟨a, dx, fs, rfl, ha, q⟩ := h
  cases (show u = Value.ref a from ry)
  obtain ⟨mA, O, _, _, _, _⟩ := ins_get I.hok ha
  obtain ⟨od, J, _⟩ := O.look
  obtain ⟨mm, hF⟩ := I.fr
  have run := run_fnG (us := [.ref a, v]) (vs := [.ref a, x]) (dvs := []) (ds := []) F hr hb .nil (hx σ) I (.cons rfl (.cons rx .nil)) q
  cases neg with
  | false =>
    refine PySem.W.in_K hF I.ok.mod.kin J hs hf (wpAny_mono run (fun z' s' hz => ?_) fun _ _ z => z)
    obtain ⟨z, H', I', rz, t, ez, qz⟩ := hz
    subst ez
    cases rz
    exact wpAny_truthy_bool ⟨.bl t, H', I', rfl, qz⟩
  | true =>
    refine PySem.W.notIn_K hF I.ok.mod.kin J hs hf (wpAny_mono run (fun z' s' hz => ?_) fun _ _ z => z)
    obtain ⟨z, H', I', rz, t, ez, qz⟩ := hz
    subst ez
    cases rz
    exact wpAny_truthy_bool ⟨.bl (!t), H', I', rfl, qz⟩
end
end CT
set_option maxHeartbeats 4000000
/-! DLK: != by an own __eq__; x[i] by an own __getitem__. -/
namespace CT
open PySem L2 PySem.Spec PyProof.Rows
end CT
set_option maxHeartbeats 4000000
/-! DLL: own operators over data. -/
namespace CT
open PySem L2 PySem.Spec PyProof.Rows
/-! ### the terms -/
def isC (c : Nat) (x : D) (C : Store) : Bool := match vO x C with
  | some (c', _) => decide (c' = c)
  | none => false
def negB (neg : Bool) (r : R D) : R D := bnd r fun z C3 => match z with
  | .bl t => .ok (.bl (if neg = true then !t else t)) C3
  | _ => .stuck
/-- x in y by __contains__ -/
def mInO (neg : Bool) (c : Nat) (m : MF) (me mo : ME) : ME := fun F C => bnd (me F C) fun x C1 => bnd (mo F C1) fun y C2 => if isC c y C2 = true then negB neg (m [y, x] C2) else .stuck
/-! ### readings -/
section
variable {X : Cx} {k : Cn} {W : WX} {σ : L2.St} {H : Hp} {Q : VK} {lev : Nat} {C g a dx : Addr} {fs : List (Str × V)} {f : Str} {fd : FuncData} {ps : List Str} {np : Nat} {m : MF} {e o b : Expr} {pos : Pos} {ta tb : TE} {mo me : ME} {E : L2.St → XK} {sp : Sp} {r : L2.St → R2}
theorem isC_at {c : Nat} {A : Nat → Addr} {S : Store} {x : D} {v : V} (st : StOk k A S H) (r : Rep k A S H v x) (h : isC c x S = true) : ∃ a dx gs, v = .ref a ∧ H a = some (.ins (k.cl c) dx gs) := by
  unfold isC at h
  split at h
  · rename_i c' fs' ev
    obtain rfl := of_decide_eq_true h
    obtain ⟨a, dx', vs, rfl, ha, _, _⟩ := vO_at st r ev
    exact ⟨a, dx', _, rfl, ha⟩
  · cases h
theorem aft_neg {neg : Bool} {fl : Nat} {A : Nat → Addr} {S : Store} {R : R D} {E' : XK} (h : Aft k fl A S H (RepD k) (negB neg R) (fun _ _ _ H' v => Q v H') E') : Aft k fl A S H (RepD k) R (fun _ _ _ H' v => ∃ t, v = .bl t ∧ Q (.bl (if neg = true then !t else t)) H') E' := by
  refine (Aft.bnd (rel := RepD k) h).mono fun z C3 A3 H3 v p3 st3 r3 h3 => ?_
  cases r3 with
  | bl t => exact ⟨t, rfl, h3 A3 H3 _ Stp.refl st3 (.bl _)⟩
  | _ => exact h3.elim
theorem le_inO {neg : Bool} {c : Nat} (ar : Ar np m) (h : LE k W (mInO neg c m me mo) σ H Q) : tOpX (fun σ x y H Q => ∃ a dx fs, y = .ref a ∧ H a = some (.ins (k.cl c) dx fs) ∧ SpD k np m [y, x] H (fun z H' => ∃ t, z = .bl t ∧ Q (.bl (if neg = true then !t else t)) H') (WE W σ)) (LE k W me) (LE k W mo) σ H Q := by
  obtain ⟨A, F, C, s, h⟩ := h
  refine ⟨A, F, C, s, (Aft.bnd (rel := RepD k) h).mono fun dx C1 A1 H1 v p1 st1 r1 h1 => ?_⟩
  have s1 := s.step p1 st1
  refine ⟨A1, F, C1, s1, (Aft.bnd (rel := RepD k) h1).mono fun dy C2 A2 H2 u p2 st2 r2 h2 => ?_⟩
  have s2 := s1.step p2 st2
  split at h2
  · rename_i hc
    obtain ⟨a, dx', gs, rfl, ha⟩ := isC_at st2 r2 hc
    exact ⟨a, dx', gs, rfl, ha, sp_of s2.fl ar st2 (.cons r2 (.cons (p2.rep _ _ r1) .nil)) (aft_neg h2)⟩
  · exact h2.elim
/-! ### the rules -/
theorem de_inO (c : Nat) (tk : Takes X W) (ha : PE X e (LE k W me)) (hbb : PE X b (LE k W mo)) (hK : X.K = k.K) (hs : PySem.W.findIn k.K (.ref (k.cl c)) "__contains__" = some (some (.ref g))) (hf : PySem.W.isFn k.K (.ref g) = true) (F : FnG X.prog X.w X.K X.mg X.base lev g fd ps (SpD k np m)) (ar : Ar np m) (hr : RoomG lev X.A) (hb : Binds X.K fd ps []) (hm : behindInMarks .In b = false := by rfl) :
    PE X (.Compare e [.In] [b] pos) (LE k W (mInO false c m me mo)) :=
  (pe_cmpX (op_inO (neg := false) (by rw [hK]; exact hs) (by rw [hK]; exact hf) F hr hb fun σ => passAt tk σ) ha hbb hm).cq fun _ _ _ h => le_inO (neg := false) ar h
end
end CT
set_option maxHeartbeats 4000000
/-! DLM: what the head says of own operators. -/
namespace CT
open PySem L2 PySem.Spec PyProof.Rows
section
variable {K : PySem.W.Frag}
/-- a def that the class has under a name -/
structure DnOk (K : PySem.W.Frag) (C : Addr) (f : Str) (g : Addr) : Prop where
  at_ : PySem.W.findIn K (.ref C) f = some (some (.ref g))
  fn : PySem.W.isFn K (.ref g) = true
  fi : PySem.W.fnIn K g = true
def dnB (x f : Str) (K : PySem.W.Frag) : Bool := He.eqO (PySem.W.findIn K (.ref (He.ga K x)) f) (some (some (.ref (He.ma K (He.ga K x) f)))) && (PySem.W.isFn K (.ref (He.ma K (He.ga K x) f)) && PySem.W.fnIn K (He.ma K (He.ga K x) f))
theorem dnB_ok {x f : Str} (h : dnB x f K = true) : DnOk K (He.ga K x) f (He.ma K (He.ga K x) f) := by
  obtain ⟨h1, h⟩ := He.ba h
  obtain ⟨h2, h3⟩ := He.ba h
  exact ⟨He.eqO_ok h1, h2, h3⟩
end
end CT
set_option maxHeartbeats 4000000
/-! DLN: t[::-1], xs[::-1], t[lo:hi]. -/
namespace CT
open PySem L2 PySem.Spec PyProof.Rows HT
def mRevT (m : ME) : ME := fun F C => bnd (m F C) fun x C1 => match vT x with
  | some xs => .ok (.tup xs.reverse) C1
  | none => .stuck
def mRevL (own : Bool) (m : ME) : ME := fun F C => bnd (m F C) fun x C1 => match vL x C1 with
  | some xs => ofO (some (mkL own xs.reverse C1))
  | none => .stuck
/-- t[lo:hi], the whole tuple too -/
def mSlA (a : ME) (l h : Fr → Store → R (Option Int)) : ME := fun F C => bnd (a F C) fun x C1 => bnd (l F C1) fun lo C2 => bnd (h F C2) fun hi C3 => match vT x with
  | some xs => if HT.sIx xs.length 0 lo = 0 ∧ HT.sIx xs.length xs.length hi = xs.length then .ok x C3 else .ok (.tup (cutD xs lo hi)) C3
  | none => .stuck
section
variable {X : Cx} {k : Cn} {W : WX} {σ : L2.St} {H : Hp} {Q : VK} {e : Expr} {te : TE} {kk : Nat} {p1 p2 p3 pos : Pos} {ma : ME}
theorem rep_rev {A : Nat → Addr} {S : Store} : ∀ {vs : List V} {xs : List D}, RepL k A S H vs xs → RepL k A S H vs.reverse xs.reverse
  | _, _, .nil => .nil
  | _, _, .cons h t => by
    rw [List.reverse_cons, List.reverse_cons]
    exact (rep_rev t).append (.cons h .nil)
theorem le_revL {own : Bool} (h : LE k W (mRevL own ma) σ H Q) : tRevL k.K (LE k W ma) σ H Q := by
  obtain ⟨A, F, C, s, h⟩ := h
  refine ⟨A, F, C, s, (Aft.bnd (rel := RepD k) h).mono fun dx C1 A1 H1 v p1 st1 r1 h1 => ?_⟩
  have s1 := s.step p1 st1
  split at h1
  · rename_i xs ev
    obtain ⟨a, vs, rfl, ha, rv⟩ := vL_at st1 r1 ev
    refine ⟨a, vs, rfl, .inl (.inl ha), fun p hp => ?_⟩
    obtain ⟨A4, w1, w2, w3⟩ := fresh_L (own := own) s1.fl st1 (rep_rev rv) hp
    exact h1 A4 _ _ w1 w2 w3
  · exact h1.elim
theorem de_revL (own : Bool) (hK : X.K = k.K) (he : PE X e (LE k W ma)) : PE X (.Subscript e (.Slice none none (some (.UnaryOp .USub (.Constant (.int 1) kk p1) p2)) p3) pos) (LE k W (mRevL own ma)) :=
  (pe_revL he).cq fun _ _ _ h => by
    rw [hK]
    exact le_revL h
end
end CT
set_option maxHeartbeats 4000000
/-! DLO: errors of the program's own: made and raised. -/
namespace CT
open PySem L2 PySem.Spec PyProof.Rows
/-! ### what the head says of an error class -/
/-! ### __init__: one field, two fields -/
/-! ### raise C(e, ..) -/
def sRaise (c n : Nat) (ma : MA) : MS := fun F C => bndS F.sl (ma F C) fun ds C1 => if ds.length = n then .xc ⟨c, ds.reverse⟩ F.sl C1 else .stuck
end CT
set_option maxHeartbeats 4000000
/-! DLP: try: .. except C as n: .. return; the error is held as data. -/
namespace CT
open PySem L2 PySem.Spec PyProof.Rows
mutual
/-- no held error within -/
def nx : D → Bool
  | .lst xs => nxL xs
  | .tup xs => nxL xs
  | .scr xs => nxL xs
  | .kt xs => nxL xs
  | .obj _ fs => nxL fs
  | .dT _ vs => nxL vs
  | .exn _ _ => false
  | .cls _ => true
  | .cell _ => true | .non => true | .bl _ => true | .int _ => true | .str _ => true
def nxL : List D → Bool
  | [] => true
  | d :: ds => nx d && nxL ds
end
/-- k, with the error at a held -/
def Cn.hold (k : Cn) (a : Addr) (c : Nat) (dd : Addr) : Cn := { k with ex := some (a, c, dd) }
section
variable {k : Cn} {A A' : Nat → Addr} {C C' : Store} {H H' : Hp} {a dd : Addr} {c : Nat} {fl : Nat}
mutual
theorem Rep.nx (hk : k.ex = none) : ∀ {v : V} {d : D}, Rep k A C H v d → CT.nx d = true
  | _, _, .non => rfl
  | _, _, .bl b => rfl
  | _, _, .int i => rfl
  | _, _, .str s => rfl
  | _, _, .lst l h r => by simpa [CT.nx] using r.nx hk
  | _, _, .tup l h r => by simpa [CT.nx] using r.nx hk
  | _, _, .ktup h r => by simpa [CT.nx] using r.nx hk
  | _, _, .scr l h r => by simpa [CT.nx] using r.nx hk
  | _, _, .kscr h r => by simpa [CT.nx] using r.nx hk
  | _, _, .obj l h z r => by simpa [CT.nx] using r.nx hk
  | _, _, .dT l h r => by simpa [CT.nx] using r.nx hk
  | _, _, .cell hi => rfl
  | _, _, .cls c => rfl
  | _, _, .exn x l h z r => by rw [hk] at x; cases x
theorem RepL.nx (hk : k.ex = none) : ∀ {vs : List V} {ds : List D}, RepL k A C H vs ds → CT.nxL ds = true
  | _, _, .nil => rfl
  | _, _, .cons r t => by simp [CT.nxL, r.nx hk, t.nx hk]
end
mutual
theorem Rep.up (hk : k.ex = none) : ∀ {v : V} {d : D}, Rep k A C H v d → Rep (k.hold a c dd) A C H v d
  | _, _, .non => .non
  | _, _, .bl b => .bl b
  | _, _, .int i => .int i
  | _, _, .str s => .str s
  | _, _, .lst l h r => .lst l h (r.up hk)
  | _, _, .tup l h r => .tup l h (r.up hk)
  | _, _, .ktup h r => .ktup h (r.up hk)
  | _, _, .scr l h r => .scr l h (r.up hk)
  | _, _, .kscr h r => .kscr h (r.up hk)
  | _, _, .obj l h z r => .obj l h z (r.up hk)
  | _, _, .dT l h r => .dT l h (r.up hk)
  | _, _, .cell hi => .cell hi
  | _, _, .cls c => .cls c
  | _, _, .exn x l h z r => by rw [hk] at x; cases x
theorem RepL.up (hk : k.ex = none) : ∀ {vs : List V} {ds : List D}, RepL k A C H vs ds → RepL (k.hold a c dd) A C H vs ds
  | _, _, .nil => .nil
  | _, _, .cons r t => .cons (r.up hk) (t.up hk)
end
theorem StOk.up (hk : k.ex = none) (st : StOk k A C H) : StOk (k.hold a c dd) A C H := by
  refine ⟨fun i x e => ?_, st.inj⟩
  have q := st.at_ i x e
  cases x with
  | lst ds => obtain ⟨vs, h1, r⟩ := q; exact ⟨vs, h1, r.up hk⟩
  | dT ks ds => obtain ⟨vs, h1, h2, r⟩ := q; exact ⟨vs, h1, h2, r.up hk⟩
  | ins c' ds => obtain ⟨dx, vs, h1, h2, r⟩ := q; exact ⟨dx, vs, h1, h2, r.up hk⟩
end
end CT
set_option maxHeartbeats 4000000
/-! DLQ: isinstance of the held error. -/
namespace CT
open PySem L2 PySem.Spec PyProof.Rows PySem.W
end CT
set_option maxHeartbeats 4000000
/-! DLR: web * k. -/
namespace CT
open PySem L2 PySem.Spec PyProof.Rows PySem.W
/-! ### over data -/
def mulB (x : Str) (K : Frag) : Bool := selfFirst K (He.ga K x) && (He.eqO (findIn K (.ref (He.ga K x)) (PySem.dunder "mul")) (some (some (.ref (He.ma K (He.ga K x) "__mul__")))) && (He.eqO (findIn K (.ref (He.ga K x)) (PySem.dunderR "mul")) (some (some (.ref (He.ma K (He.ga K x) "__rmul__")))) &&
  (isFn K (.ref (He.ma K (He.ga K x) "__mul__")) && (isFn K (.ref (He.ma K (He.ga K x) "__rmul__")) && (decide (subIn K (.type "int") (.ref (He.ga K x)) = some false) && decide (subIn K (.ref (He.ga K x)) (.type "int") = some false))))))
end CT
set_option maxHeartbeats 4000000
/-! DLS: is None; sorted(set(xs)) of ints, len(set(xs)) of tuples of ints. -/
namespace CT
open PySem L2 PySem.Spec PyProof.Rows
/-! ### is None, is not None -/
def oIsN (neg : Bool) : O2 := fun x y C => match y with
  | .non => (match x with
    | .non => some (.bl (!neg), C)
    | _ => some (.bl neg, C))
  | _ => none
section
variable {k : Cn}
theorem d_isN : OpD k (fun x y H Q => y = .non ∧ Q (.bl (decide (x = .non))) H) (oIsN false) := by
  intro fl A C H x y dx dy d C' Q hf hl st rx ry e q
  cases ry with
  | non =>
    refine ⟨rfl, ?_⟩
    cases rx with
    | non => cases e; exact q A H _ .refl st (.bl _)
    | _ => cases e; exact q A H _ .refl st (.bl _)
  | _ => cases e
end
/-! ### set(xs), xs a list of ints -/
abbrev emS (w : World) : Obj := { cls := .type "set", dict := none, data := .set #[] 0 (.fresh 0 0 (!w.params.followText "set-order")) }
section
variable {P : Program} {w : World} {A : Around} {E : Value → Shared → Prop} {s : Shared}
/-- what set(xs) leaves -/
def SetMade (w : World) (ns : List Int) (s s2 : Shared) : Prop := ∃ h' tk c, s2 = { s with heap := h', toks := tk } ∧ SetR w h' s.heap.objs.size (fun j => decide (j ∈ ns)) c ∧ c ≤ ns.length ∧ ∀ b o, s.heap.get? b = some o → h'.get? b = some o
theorem set_fill {l : Addr} {its : Array Value} {ns : List Int} (hh : A.handled = none) (hl : s.heap.IsList l its) (hi : IntsAre its.toList ns) (hb : ns.length + 1 < scanBound) {R : Result → Shared → Prop}
    (hR : ∀ s2, SetMade w ns s s2 → R (.ok (.ret .none)) s2) :
    codeAny (model P w) A (.builtin "set.update.loop" ⟨[.ref s.heap.objs.size, .ref (s.heap.push (emS w)).objs.size], []⟩) R
      { s with heap := (s.heap.push (emS w)).push { cls := .type "list_iterator", data := .fields #[.ref l, .int 0 0] } } := by
  have hz : its.size = ns.length := (Array.length_toList (xs := its)).symm.trans (IntsAre.length hi)
  have ll : l < s.heap.objs.size := let ⟨_, ho, _⟩ := hl; Heap.lt_size ho
  have z1 : (s.heap.push (emS w)).objs.size = s.heap.objs.size + 1 := Heap.size_push ..
  have hl1 := hl.push (emS w)
  refine set_update_ints ((Walks.list (A := A.in1) (by simp [hh]) (s.heap.push (emS w)).objs.size l (by rw [z1]; exact Nat.ne_of_lt (Nat.lt_succ_of_lt ll)) its).toS) s.heap.objs.size (by simp only [List.mem_cons, List.not_mem_nil, or_false, not_or, z1]; exact ⟨Nat.ne_of_lt (Nat.lt_succ_self _), Nat.ne_of_gt ll⟩) ns hz hb (fun i v hv => ?_) its.size 0 _ (by omega) (Nat.zero_le _)
    ⟨⟨_, Heap.get?_push_size _ rfl, rfl, rfl⟩, hl1.push _⟩ ⟨0, Nat.le_refl 0, setR_new_at (Heap.get?_push_of_some _ (Heap.get?_push_size _ rfl))⟩ fun s2 c hm hc hS => hR s2 ?_
  · have li : i < ns.length := hz ▸ (Array.getElem?_eq_some_iff.mp hv).1
    obtain ⟨t, e⟩ := IntsAre.int_at hi i v ((Array.getElem?_toList ..).trans hv)
    refine ⟨ns[i], t, List.getElem?_eq_getElem li, e.trans ?_⟩
    rw [List.getD_eq_getElem?_getD, List.getElem?_eq_getElem li]
    rfl
  · obtain ⟨h', g2, d', tk', os'⟩ := s2
    obtain rfl : g2 = s.gens := hm.gens
    obtain rfl : d' = s.drawn := hm.drawn
    obtain rfl : os' = s.os := hm.os
    refine ⟨h', tk', c, rfl, hS, hz ▸ hc, fun b o e => hm.heap b o ?_ (Heap.get?_push_of_some _ (Heap.get?_push_of_some _ e))⟩
    have q := Heap.lt_size e
    simp only [List.mem_cons, List.not_mem_nil, or_false, not_or, z1]
    exact ⟨Nat.ne_of_lt q, Nat.ne_of_lt (Nat.lt_succ_of_lt q)⟩
set_option maxHeartbeats 8000000 in
theorem set_ints {l : Addr} {its : Array Value} {ns : List Int} {Q : Value → Shared → Prop} (hh : A.handled = none) (hl : s.heap.IsList l its) (hi : IntsAre its.toList ns) (hb : ns.length + 1 < scanBound)
    (h : ∀ s2, SetMade w ns s s2 → Q (.ref s.heap.objs.size) s2) : wpAny (model P w) A (call (.type "set") [.ref l]) Q E s := by
  obtain ⟨c, tl, hmro⟩ := F.called_set.mro
  have q1 := F.called_set.made; have q2 := F.called_set.sub; have q3 := F.called_set.notType; have q4 := F.called_set.canCreate
  have q5 := F.typeCall_set_1 (.ref l)
  refine wpAny_call (codeAny_of_tree (show wpAny _ _ (callAny (.type "set") _) _ _ _ from wpAny_pure ⟨Code.quiet_builtin _ (by decide +kernel), codeAny_builtin F.entry_type_call ?_⟩))
  rw [Around.under_plain (weight_type_call_type "set" [.ref l] []) rfl]
  repeat (any_goals (first | assumption | wp_step))
  refine codeAny_mono (code_set_led1 (E := E) (.ref l) (Q₁ := fun o s1 => o = .ref s.heap.objs.size ∧ s1 = { s with heap := s.heap.push (emS w) }) ⟨rfl, rfl⟩) fun r s1 hr => ?_
  rcases r with e | (_ | _ | _ | v)
  all_goals first | exact hr | exact hr.elim | skip
  · obtain ⟨e1, e2⟩ := hr
    subst e1; subst e2
    have hT : Shared.TypeIs { s with heap := s.heap.push (emS w) } (.ref s.heap.objs.size) "set" := ⟨_, Heap.get?_push_size _ rfl, rfl⟩
    have r1 := F.called_set.init.lookup; have r2 := F.called_set.init.bind (.ref s.heap.objs.size)
    repeat (any_goals (first | assumption | wp_step))
    refine codeAny_mono (codeAny_call_builtin (R := wants (fun r s2 => r = .none ∧ SetMade w ns s s2) E) F.called_set.init.plain F.entry_set_init (check_set_init_1 hT ?_)) fun r2 s2 hr2 => ?_
    · have hl1 := hl.push (emS w)
      obtain ⟨⟨oc, od, oa, os⟩, ho, ec, n, ed⟩ := hl1
      simp only at ec ed
      subst ec; subst ed
      have u1 := F.sub_list_set; have u2 := F.sub_list_frozenset
      have u3 : (Value.type "list" == Value.type "dict") = false := by decide
      unfold Builtin.«set.__init__» noKeywords Builtin.Frozenset.updateFrom
      generalize hPI : pyIter = PI
      wp_walk
      subst hPI
      refine wpAny_pyIter_list (hl.push (emS w)) (wpAny_bind (wpAny_runValue (set_fill (by simp [hh]) hl hi hb fun s2 m => ?_)))
      show wpAny _ _ _ _ _ _
      refine wpAny_pure ?_
      show wpAny _ _ (ret Value.none) _ _ _
      exact wpAny_pure ⟨rfl, m⟩
    · rcases r2 with e | (_ | _ | _ | v)
      all_goals first | exact hr2 | exact hr2.elim | skip
      · obtain ⟨e1, m⟩ := hr2
        subst e1
        obtain ⟨h', tk, c', e3, hS, hc, hk⟩ := m
        subst e3
        repeat (any_goals (first | assumption | wp_step))
        exact h _ ⟨h', tk, c', rfl, hS, hc, hk⟩
end
end CT
set_option maxHeartbeats 4000000
/-! DLT: sorted(set(xs)) of ints, len(set(xs)) of tuples of ints. -/
namespace CT
open PySem L2 PySem.Spec PyProof.Rows
theorem mDef_e {np ns : Nat} {b : MS} {ds : List D} {C : Store} {sl : List (Option D)} (h : ds.length = np) (hs : ds.map some ++ List.replicate (ns - np) none = sl) : mDef np ns b ds C = finS C.length (b ⟨C.length, sl⟩ C) := by
  rw [← hs]
  exact ev_def h
/-! ### unlike members, ascending -/
def insI (x : Int) : List Int → List Int
  | [] => [x]
  | y :: r => if x < y then x :: y :: r else if x = y then y :: r else y :: insI x r
def srtI (ns : List Int) : List Int := ns.foldr insI []
theorem insI_mem {x z : Int} : ∀ {l : List Int}, z ∈ insI x l ↔ z = x ∨ z ∈ l
  | [] => by simp [insI]
  | y :: r => by
    unfold insI
    split
    · simp
    · split
      · rename_i h; subst h; simp
      · simp only [List.mem_cons, insI_mem (l := r)]
        constructor
        · rintro (h | h | h) <;> simp [h]
        · rintro (h | h | h) <;> simp [h]
theorem insI_up {x : Int} : ∀ {l : List Int}, l.Pairwise (· < ·) → (insI x l).Pairwise (· < ·)
  | [], _ => by simp [insI]
  | y :: r, h => by
    have ⟨h1, h2⟩ := List.pairwise_cons.mp h
    unfold insI
    split
    · rename_i q
      refine List.pairwise_cons.mpr ⟨fun z hz => ?_, h⟩
      rcases List.mem_cons.mp hz with rfl | hz
      · exact q
      · exact Int.lt_trans q (h1 z hz)
    · split
      · exact h
      · refine List.pairwise_cons.mpr ⟨fun z hz => ?_, insI_up h2⟩
        rcases insI_mem.mp hz with rfl | hz
        · omega
        · exact h1 z hz
theorem srtI_mem {z : Int} : ∀ {l : List Int}, z ∈ srtI l ↔ z ∈ l
  | [] => by simp [srtI]
  | y :: r => by
    show z ∈ insI y (srtI r) ↔ _
    rw [insI_mem, srtI_mem (l := r), List.mem_cons]
theorem srtI_up : ∀ {l : List Int}, (srtI l).Pairwise (· < ·)
  | [] => List.Pairwise.nil
  | y :: r => insI_up (srtI_up (l := r))
theorem up_one : ∀ {a b : List Int}, a.Pairwise (· < ·) → b.Pairwise (· < ·) → (∀ z, z ∈ a ↔ z ∈ b) → a = b
  | [], [], _, _, _ => rfl
  | [], y :: r, _, _, h => absurd ((h y).mpr (List.mem_cons_self ..)) (by simp)
  | x :: q, [], _, _, h => absurd ((h x).mp (List.mem_cons_self ..)) (by simp)
  | x :: q, y :: r, ha, hb, h => by
    have ⟨a1, a2⟩ := List.pairwise_cons.mp ha
    have ⟨b1, b2⟩ := List.pairwise_cons.mp hb
    have e : x = y := by
      rcases List.mem_cons.mp ((h x).mp (List.mem_cons_self ..)) with e | e
      · exact e
      · rcases List.mem_cons.mp ((h y).mpr (List.mem_cons_self ..)) with e' | e'
        · exact e'.symm
        · have := a1 y e'
          have := b1 x e
          omega
    subst e
    rw [up_one a2 b2 fun z => ?_]
    constructor
    · intro hz
      rcases List.mem_cons.mp ((h z).mp (List.mem_cons_of_mem _ hz)) with e | e
      · have := a1 z hz; omega
      · exact e
    · intro hz
      rcases List.mem_cons.mp ((h z).mpr (List.mem_cons_of_mem _ hz)) with e | e
      · have := b1 z hz; omega
      · exact e
/-! ### unlike rows -/
/-! ### the calls -/
def rSetI (K : PySem.W.Frag) (w : World) : List V → Hp → VK → Prop := fun xs H Q => ∃ (l : Addr) (ns : List Int), xs = [V.ref l] ∧ SqL K H l (ns.map V.int) ∧ ns.length < 64 ∧
  ∀ a c, H a = none → c ≤ ns.length → Q (.ref a) (upd H a (SetO w a (fun j => decide (j ∈ ns)) c))
section
variable {X : Cx}
theorem ints_are : ∀ {ns : List Int} {its : List Value}, Vals (ns.map V.int) its → IntsAre its ns
  | [], _, .nil => .nil
  | n :: ns, _, .cons r t => by
    obtain ⟨tk, rfl⟩ := r
    exact .cons n tk (ints_are t)
theorem cr_setI (hc : X.calm = true) : CallR X (.type "set") (rSetI X.K X.w) := by
  intro pins s σ H xs us Q I r h
  obtain ⟨l, ns, rfl, hl, hf, q⟩ := h
  rw [Vals.ref1 r]
  obtain ⟨its, rv, pl, hz⟩ := I.list hl
  refine set_ints (I.ok.hd hc) pl.isList (by simpa using ints_are rv) (by unfold scanBound; omega) fun s2 m => ?_
  obtain ⟨h', tk, c, rfl, hS, hn, hk⟩ := m
  exact ⟨.ref s.heap.objs.size, upd H s.heap.objs.size _, I.laid (t' := tk) hk (Nat.le_refl _) (setO_new hS), rfl, q _ c (I.hok.fresh (Nat.le_refl _)) hn⟩
end
/-! ### over data -/
def oSortS (own : Bool) : OA := fun xs C => match xs with
  | [d] => (vL d C).bind fun ys => (dInts ys).bind fun ns => if ns.length < 64 then some (mkL own ((srtI ns).map D.int) C) else none
  | _ => none
section
variable {X : Cx} {k : Cn} {W : WX} {A : Nat → Addr} {C : Store} {H : Hp}
theorem d_sortS {own : Bool} {w : World} : ApD k (fun xs H Q => rSetI k.K w xs H fun v H1 => rSortedSet w [v] H1 Q) (oSortS own) := by
  intro fl A C H x dx d C' Q hf hl st rx e q
  cases rx with
  | nil => cases e
  | cons r t =>
    cases t with
    | cons _ _ => cases e
    | nil =>
      simp only [oSortS, Option.bind_eq_some_iff] at e
      obtain ⟨ds, ev, ns, en, e⟩ := e
      split at e
      · rename_i hn
        obtain ⟨a, vs, rfl, ha, rv⟩ := vL_at st r ev
        rw [dInts_eq en] at rv
        have := RepL.ints_inv rv
        subst this
        refine ⟨a, ns, rfl, .inl (.inl ha), hn, fun b c hb hc => ⟨b, _, c, rfl, upd_same, by omega, fun out p u1 u2 u3 hp => ?_⟩⟩
        have eo : out = srtI ns := up_one u1 srtI_up fun z => by rw [u2, srtI_mem]; simp
        subst eo
        have st1 : StOk k A C (upd H b (SetO w b (fun j => decide (j ∈ ns)) c)) := st.new hb
        obtain ⟨A2, w1, w2, w3⟩ := fresh_L (own := own) hf st1 (RepL.ints (ns := srtI ns)) hp
        have e1 := Option.some.inj e
        rw [e1] at w1 w2 w3
        exact q A2 _ _ ((kp_new hb).stp0.trans w1) w2 w3
      · cases e
variable {e : Expr} {p p' pos pos' : Pos} {ma : MA}
theorem de_sortS (own : Bool) (hK : X.K = k.K) (hc : X.calm = true) (hg : Gl X "sorted") (hm : X.mg "sorted" = none) (hg' : Gl X "set") (hm' : X.mg "set" = none) (ha : PA X [e] (LA k W ma)) (hs : starEach [e] X.env = (false, eval e X.env) :: starEach [] X.env := by rfl)
    (hs' : starEach [.Call (.Name "set" p') [e] [] pos'] X.env = (false, eval (.Call (.Name "set" p') [e] [] pos') X.env) :: starEach [] X.env := by rfl) (hpl : (backTo pos' (starEach [] X.env)).any (·.1) = false := by rfl) (hpl' : (backTo pos (starEach [] X.env)).any (·.1) = false := by rfl) :
    PE X (.Call (.Name "sorted" p) [.Call (.Name "set" p') [e] [] pos'] [] pos) (LE k W (mAp (oSortS own) ma)) :=
  (pe_callB (cr_sortedSet hc) hg hm (by decide +kernel) (pa_cons (pe_callTy (cr_setI hc) hg' hm' (by decide +kernel) ha (by decide) (by decide) hs hpl) pa_nil hs') (by decide) (by decide) hs' hpl').cq fun _ _ _ h => le_ap (r := fun xs H Q => rSetI X.K X.w xs H fun v H1 => rSortedSet X.w [v] H1 Q) (by rw [hK]; exact d_sortS) h
end
end CT
set_option maxHeartbeats 4000000
/-! DLU: repr of an empty dict. -/
namespace CT
open PySem L2 PySem.Spec PyProof.Rows
end CT
set_option maxHeartbeats 4000000
/-! DLV: l.count(x) over data. -/
namespace CT
open PySem L2 PySem.Spec PyProof.Rows
end CT
set_option maxHeartbeats 4000000
/-! DLW: a class whose __init__ takes *numbers and a keyword. -/
namespace CT
open PySem L2 PySem.Spec PyProof.Rows
abbrev tupO (its : List Value) : Obj := { cls := .type "tuple", data := .seq its.toArray }
abbrev pushT (s : Shared) (its : List Value) : Shared := { s with heap := s.heap.push (tupO its) }
/-- binding makes a tuple of the rest -/
def BindsW (s : Shared) (fd : FuncData) (args : Args) (binds : List (Str × Value)) (its : List Value) : Prop :=
  ∀ (M : Model) (A : Around) (E : Value → Shared → Prop) (Q : List (Str × Value) → Shared → Prop), Q binds (pushT s its) → wpAny M A (bindArgs fd args) Q E s
structure FnW (P : Program) (w : World) (K : PySem.W.Frag) (mg : Str → Option Value) (base : Heap) (lev : Nat) (f : Addr) (fd : FuncData) (ps : List Str) (sp : Sp) : Prop where
  len : ∀ vs H Q E, sp vs H Q E → vs.length = ps.length
  run : ∀ (A : Around) (outer : List Env) (s : Shared) (H : Hp) (args : Args) (us its : List Value) (vs ws : List V) (Q : VK) (E : XK), RoomG lev A → Env0 P w K mg base A outer s H → its.length ≤ sizeLine → Vals ws its → BindsW s fd args (ps.zip us) its → Vals vs us → sp vs (upd H s.heap.objs.size (.tup ws)) Q E →
    codeAny (model P w) A (.call (.ref f) args) (CR (L2.CX P w) outer P w H s Q E) s
section
variable {P : Program} {w : World} {K : PySem.W.Frag} {mg : Str → Option Value} {base : Heap} {A : Around} {outer : List Env} {s : Shared} {H : Hp}
theorem push_keep (s : Shared) (its : List Value) : ∀ b u, s.heap.get? b = some u → (pushT s its).heap.get? b = some u := fun _ _ q => Heap.get?_push_of_some _ q
theorem tup_okW {its : List Value} {ws : List V} (hl : its.length ≤ sizeLine) (r : Vals ws its) : ObjOk P w (upd H s.heap.objs.size (.tup ws)) (pushT s its).heap s.heap.objs.size (.tup ws) :=
  ⟨by rw [r.length]; exact hl, its, r, IsTup.new _ _⟩
theorem env_pushT {its : List Value} {ws : List V} (hl : its.length ≤ sizeLine) (r : Vals ws its) (e : Env0 P w K mg base A outer s H) : Env0 P w K mg base A outer (pushT s its) (upd H s.heap.objs.size (.tup ws)) := by
  refine ⟨e.frames, e.mod, fun b o h => ?_, ?_, ?_, fun b hb => ?_, e.hok.laid (push_keep s its) (Nat.le_refl _) (tup_okW hl r), e.bare⟩
  · obtain ⟨h1, h2⟩ := e.bs b o h
    refine ⟨push_keep s its b o h1, ?_⟩
    rw [upd_ne (Nat.ne_of_lt (Heap.lt_size h1))]
    exact h2
  · show base.objs.size ≤ (s.heap.push (tupO its)).objs.size
    rw [Heap.size_push]
    exact Nat.le_succ_of_le e.bsz
  · exact Heap.FunFrames.of_keeps (fun b o h _ => ⟨o, push_keep s its b o h, rfl⟩) e.funs
  · obtain ⟨_, o, ho, _⟩ := Heap.FunFrames.mem e.funs hb
    rw [upd_ne (Nat.ne_of_lt (Heap.lt_size ho))]
    exact e.frf b hb
theorem un_pushT {its : List Value} {ws : List V} (hok : HOk P w H s.heap) : Un (frs outer) [] H (upd H s.heap.objs.size (.tup ws)) s.heap (pushT s its).heap := Un.laid (push_keep s its) (Nat.le_refl _) (hok.fresh (Nat.le_refl _))
theorem ub_pre {fs : List Addr} {H H1 H' : Hp} {h h1 B h' : Heap} (hf : ∀ b ∈ fs, H b = none) (a : Un fs [] H H1 h h1) (b : UB fs H1 H' h1 B h') : UB fs H H' h B h' where
  keep := fun c o q n hc => b.keep c o (a.keep c o q n hc (by simp)) (a.free c o q n (by simp)) hc
  slot := fun c o q hc => by
    obtain ⟨sl, e1⟩ := a.slot c o q (hf c hc) hc (by simp)
    obtain ⟨sl', e2⟩ := b.slot c _ e1 hc
    exact ⟨sl', e2⟩
  free := fun c o q n => by
    obtain ⟨o', e1⟩ := a.there c o q (by simp)
    exact b.free c o' e1 (a.free c o q n (by simp))
  there := fun c o q hc => by
    obtain ⟨o', e1⟩ := a.there c o q (by simp)
    exact b.there c o' e1 hc
  tups := fun c xs q => b.tups c xs (a.tups c xs q)
  frzs := fun c o xs q => b.frzs c o xs (a.frzs c o xs q)
  tbls := fun c ps q => by
    obtain ⟨m1, e1⟩ := a.tbls c ps q
    obtain ⟨m2, e2⟩ := b.tbls c _ e1
    exact ⟨m1 ++ m2, by rw [e2, Array.append_assoc]⟩
theorem cr_pushT {its : List Value} {ws : List V} {Q : VK} {E : XK} {r : Result} {s' : Shared} (e : Env0 P w K mg base A outer s H) (h : CR (L2.CX P w) outer P w (upd H s.heap.objs.size (.tup ws)) (pushT s its) Q E r s') : CR (L2.CX P w) outer P w H s Q E r s' := by
  cases r with
  | error u =>
    obtain ⟨a, B, H', cls, d, h1, h2, h3, h4, h5, h6, h7, h8⟩ := h
    exact ⟨a, B, H', cls, d, h1, h2, h3, ub_pre e.frf (un_pushT e.hok) h4, h5, h6, h7, h8⟩
  | ok fl =>
    cases fl with
    | ret u =>
      obtain ⟨v, H', h1, h2, h3, h4, h5, h6⟩ := h
      exact ⟨v, H', h1, h2, (un_pushT e.hok).trans h3, h4, h5, h6⟩
    | next => exact h
    | brk => exact h
    | cont => exact h
end
theorem fn_ofW {P : Program} {w : World} {K : PySem.W.Frag} {mg : Str → Option Value} {base : Heap} {lev : Nat} {f : Addr} {name qual : Str} {params : Arguments} {body : List Stmt} {scope : Scope} {dV kV doc pm cdv ct oc : Value} {an od : Option Addr}
    {osl : Array (Option Value)} {N ps : List Str} {sp : Sp} (lk : K.lookup f = some ⟨oc, od, .func (PySem.W.fnOf name qual params body scope dV kV doc pm an cdv ct), osl⟩) (hcd : PySem.W.codeIn K cdv qual = true) (S : FnScope N ps scope)
    (len : ∀ vs H Q E, sp vs H Q E → vs.length = ps.length)
    (hbody : ∀ (A : Around) (outer : List Env) (s : Shared) (H : Hp) (vs : List V) (Q : VK) (E : XK), RoomG lev (A.deeper (envOfC qual scope s.heap.objs.size f cdv)) → sp vs H Q E →
      ∃ t, PSs (cxOf (L2.CX P w) P w K mg base N qual scope f cdv A outer s H E) body t ∧ t { nx := fun _ H' => Q .non H', rt := Q } (L2.start N vs) H) :
    FnW P w K mg base (lev + 1) f (PySem.W.fnOf name qual params body scope dV kV doc pm an cdv ct) ps sp := by
  refine ⟨len, fun A outer s0 H0 args us its vs ws Q E hr e00 hits hws hb r hsp => ?_⟩
  have e0 := env_pushT hits hws e00
  have hl := len _ _ _ _ hsp
  have KX0 : K.In s0.heap := e00.mod.kin.keeps fun b o e => (e00.bs b o e).1
  refine codeAny_mono (R := CR (L2.CX P w) outer P w (upd H0 s0.heap.objs.size (.tup ws)) (pushT s0 its) Q E) ?_ fun r s' h => cr_pushT e00 h
  refine codeAny_call_function hr.room.depth (KX0 _ _ lk) rfl S.co S.gen rfl (PySem.W.codeRec_of KX0 hcd) (hb _ _ _ _ ?_)
  generalize upd H0 s0.heap.objs.size (.tup ws) = H at e0 hsp ⊢
  generalize pushT s0 its = s at e0 ⊢
  have KX : K.In s.heap := e0.mod.kin.keeps fun b o e => (e0.bs b o e).1
  have lim : s.heap.NoLimit := e0.mod.nolimit.keeps fun b o e => (e0.bs b o e).1
  have hkind : ∀ y ∈ ps.zip us, scope.names.lookup y.1 = some .local ∨ (scope.names.lookup y.1 = some .cell ∧ ((cellsFrom (s.heap.objs.size + 1) scope.names []).lookup y.1).isSome = true) := fun ⟨n, v⟩ hy => by
    rcases S.par n (List.of_mem_zip hy).1 with q | q
    · exact .inl q
    · exact .inr ⟨q, PySem.W.cellsFrom_some _ _ _ (.inl q)⟩
  refine wpAny_newFunctionEnv_cells S.kind hkind fun env he s1 x => ?_
  subst he
  refine ⟨lim.keeps x.toInCall.keep, codeAny_func ?_⟩
  obtain ⟨t, ht, hq⟩ := hbody A outer s H vs Q E ⟨hr.room.deeper _, hr.gd⟩ hsp
  have I : Inv (cxOf (L2.CX P w) P w K mg base N qual scope f cdv A outer s H E) [] (L2.start N vs) H s1 := inv_start S hr.room.hd e0 hl r x
  refine wpAny_mono (ht.run [] s1 (L2.start N vs) H _ I hq) (fun fl s' hs => ?_) fun e s' hs => hs
  have fin : ∀ {σ' : L2.St} {H' : Hp} {v : V} {u : Value}, Inv (cxOf (L2.CX P w) P w K mg base N qual scope f cdv A outer s H E) [] σ' H' s' → RelV v u → Q v H' → CE outer P w H s Q u s' :=
    fun {σ' H' v u} J rv q => ⟨v, H', J.os, J.bare, J.base, J.hok, rv, q⟩
  cases fl with
  | ret u =>
    obtain ⟨v, σ', H', J, rv, q⟩ := hs
    exact fin J rv q
  | next =>
    obtain ⟨σ', H', J, q⟩ := hs
    exact fin (v := V.non) (u := Value.none) J rfl q
  | brk =>
    obtain ⟨_, _, _, q⟩ := hs
    exact False.elim q
  | cont =>
    obtain ⟨_, _, _, q⟩ := hs
    exact False.elim q
section
variable {P : Program} {w : World} {k : Cn} {mg : Str → Option Value} {base : Heap} {x qual : Str} {params : Arguments} {body : List Stmt} {scope : Scope} {dvs : List V} {kws : List (Str × V)} {f : Addr} {fd : FuncData}
theorem fn_okW {N ps : List Str} {lev : Nat} {m : MS} (F : FunD k.K x qual params body scope dvs kws f fd) (S : FnScope N ps scope) (hp : ps.length ≤ N.length)
    (hb : ∀ (cdv : Value) (A : Around) (outer : List Env) (s : Shared) (H : Hp) (E : XK), RoomG lev (A.deeper (envOfC qual scope s.heap.objs.size f cdv)) → PSs (cxOf (L2.CX P w) P w k.K mg base N qual scope f cdv A outer s H E) body (LS k (fun c d _ H' => E c d H') m)) :
    FnW P w k.K mg base (lev + 1) f fd ps (SpD k ps.length (mDef ps.length N.length m)) := by
  obtain ⟨oc, od, dV, kV, doc, pm, an, cdv, ct, osl, rfl, lk, hcd, _, _⟩ := F.ex
  exact fn_ofW lk hcd S (fun vs H Q E h => h.1) fun A outer s H vs Q E hr h => ⟨_, hb cdv A outer s H E hr, spD_body rfl hp h⟩
end
/-! ### C(e, ..), C(k = e) -/
/-- what the call's arguments become: the keyword's value, the rest -/
inductive Vg where
  | pos | kw
def Vg.d : Vg → List D → D × List D
  | .pos, ds => (.non, ds)
  | .kw, ds => (ds.headD .non, [])
def Vg.v : Vg → List V → V × List V
  | .pos, ds => (.non, ds)
  | .kw, ds => (ds.headD .non, [])
def Vg.u : Vg → List Value → Value × List Value
  | .pos, ds => (.none, ds)
  | .kw, ds => (ds.headD .none, [])
def vaM (g : Vg) (n : Nat) (m : MF) : MF := fun ds C => if ds.length = n + 1 then (match ds with
  | d :: r => m [d, (g.d r).1, .tup (g.d r).2] C
  | [] => .stuck) else .stuck
theorem vaM_ar {g : Vg} {n : Nat} {m : MF} : Ar (n + 1) (vaM g n m) := fun ds C h => by
  unfold vaM
  rw [if_neg h]
theorem Vg.rel (g : Vg) {vs : List V} {us : List Value} (r : Vals vs us) : RelV (g.v vs).1 (g.u us).1 ∧ Vals (g.v vs).2 (g.u us).2 := by
  cases g with
  | pos => exact ⟨rfl, r⟩
  | kw => cases r with
    | nil => exact ⟨rfl, .nil⟩
    | cons h t => exact ⟨h, .nil⟩
section
variable {k : Cn} {A : Nat → Addr} {C : Store} {H : Hp}
theorem Vg.rep (g : Vg) {vs : List V} {ds : List D} (r : RepL k A C H vs ds) : Rep k A C H (g.v vs).1 (g.d ds).1 ∧ RepL k A C H (g.v vs).2 (g.d ds).2 := by
  cases g with
  | pos => exact ⟨.non, r⟩
  | kw => cases r with
    | nil => exact ⟨.non, .nil⟩
    | cons h t => exact ⟨h, .nil⟩
theorem sp_va {g : Vg} {n : Nat} {m : MF} {v0 : V} {vs : List V} {p : Addr} {Q : VK} {E : XK} (hp : H p = none) (h : SpD k (n + 1) (vaM g n m) (v0 :: vs) H Q E) : SpD k 3 m [v0, (g.v vs).1, .ref p] (upd H p (.tup (g.v vs).2)) Q E := by
  obtain ⟨hl, A, C, ds, st, rl, h⟩ := h
  cases rl with
  | @cons _ d _ r rd rr =>
    have hlen : (d :: r).length = n + 1 := by
      have := rr.length
      simp only [List.length_cons] at hl ⊢
      omega
    unfold vaM at h
    rw [if_pos hlen] at h
    simp only at h
    have q : Kp A C H A C (upd H p (.tup (g.v vs).2)) := kp_new hp
    have st2 : StOk k A C (upd H p (.tup (g.v vs).2)) := st.new hp
    obtain ⟨r1, r2⟩ := g.rep rr
    refine ⟨rfl, A, C, [d, (g.d r).1, .tup (g.d r).2], st2, .cons (rd.kp q) (.cons (r1.kp q) (.cons (.tup (st.notLive hp) upd_same (r2.kp q)) .nil)), ?_⟩
    exact Aft.shift q.stp0 h
end
section
variable {X : Cx} {k : Cn} {W : WX} {σ : L2.St} {H : Hp} {Q : VK} {lev : Nat} {f C p : Addr} {fd : FuncData} {ps : List Str} {m : MF} {x : Str} {pn pos : Pos} {e : Expr} {es : List Expr} {ma : MA} {n : Nat} {g : Vg}
/-- how the parameters are bound -/
def BnW (K : PySem.W.Frag) (fd : FuncData) (ps : List Str) (g : Vg) (n : Nat) (ks : List Str) : Prop :=
  ∀ (s : Shared) (u0 : Value) (us : List Value), K.In s.heap → us.length = n → BindsW s fd (match g with | .pos => ⟨u0 :: us, []⟩ | .kw => ⟨[u0], ks.zip us⟩) (ps.zip [u0, (g.u us).1, .ref s.heap.objs.size]) (g.u us).2
theorem run_makeW {E : L2.St → XK} {pins : List (Addr × Obj)} {σ : L2.St} {H : Hp} {s : Shared} {Q : VK} {us : List Value} {vs : List V} {ks : List Str} (M : Mk X.K C f) (F : FnW X.prog X.w X.K X.mg X.base lev f fd ps (SpD k 3 m)) (hr : RoomG (lev + 1) X.A) (hb : BnW X.K fd ps g n ks) (hn : n ≤ 1000)
    (hx : ∀ σ, PassesAt (L2.CX X.prog X.w) X σ (E σ)) (I : Inv X pins σ H s) (r : Vals vs us)
    (h : ∀ x dx, H x = none → H dx = none → dx ≠ x → SpD k (n + 1) (vaM g n m) (.ref x :: vs) (upd (upd H dx (.own x)) x (.ins C dx [])) (fun v H2 => v = .non ∧ Q (.ref x) H2) (E σ)) :
    wpAny (model X.prog X.w) X.A (match g with | .pos => call (.ref C) us | .kw => call (.ref C) [] (ks.zip us)) (EP X pins σ Q) X.xe s := by
  have hq := h (s.heap.objs.size + 1) s.heap.objs.size (I.hok.fresh (Nat.le_succ _)) (I.hok.fresh (Nat.le_refl _)) (Nat.ne_of_lt (Nat.lt_succ_self _))
  have I2 := Inv.made (C := C) I
  have hl : us.length = n := by
    have := hq.1
    rw [← r.length]
    simpa using this
  obtain ⟨g1, g2⟩ := g.rel r
  have hits : (g.u us).2.length ≤ sizeLine := by
    cases g with
    | pos => show us.length ≤ _; rw [hl]; exact Nat.le_trans hn (by decide)
    | kw => exact Nat.zero_le _
  have hz : (upd (upd H s.heap.objs.size (.own (s.heap.objs.size + 1))) (s.heap.objs.size + 1) (.ins C s.heap.objs.size [])) ((s.heap.push PySem.W.emptyDict).push (PySem.W.instObj C s.heap.objs.size)).objs.size = none := I2.hok.fresh (Nat.le_refl _)
  have hq2 := sp_va (g := g) hz hq
  have fin : ∀ (r : Result) (s' : Shared), CR (L2.CX X.prog X.w) X.stack X.prog X.w _ { s with heap := (s.heap.push PySem.W.emptyDict).push (PySem.W.instObj C s.heap.objs.size) } (fun v H2 => v = .non ∧ Q (.ref (s.heap.objs.size + 1)) H2) (E σ) r s' → PySem.W.InitBack (s.heap.objs.size + 1) (wants (EP X pins σ Q) X.xe) r s' := fun r s' hq' => by
    cases r with
    | error e => exact hx σ pins _ _ e s' I2 hq'
    | ok fl =>
      cases fl with
      | ret u =>
        obtain ⟨v, H', I3, rv, ev, q3⟩ := I2.after hq'
        subst ev
        exact ⟨rv, ⟨V.ref (s.heap.objs.size + 1), H', I3, rfl, q3⟩⟩
      | next => exact False.elim hq'
      | brk => exact False.elim hq'
      | cont => exact False.elim hq'
  have vs3 : Vals [V.ref (s.heap.objs.size + 1), (g.v vs).1, .ref ((s.heap.push PySem.W.emptyDict).push (PySem.W.instObj C s.heap.objs.size)).objs.size] [Value.ref (s.heap.objs.size + 1), (g.u us).1, .ref ((s.heap.push PySem.W.emptyDict).push (PySem.W.instObj C s.heap.objs.size)).objs.size] := .cons rfl (.cons g1 (.cons rfl .nil))
  cases g with
  | pos =>
    exact wpAny_call (make_map (f := f) I.kIn M.makes M.init (beq_iff_eq.mp M.fn) (codeAny_mono (F.run _ X.stack _ _ ⟨Value.ref (s.heap.objs.size + 1) :: us, []⟩ _ _ _ _ _ (E σ) (hr.make C us [])
      (I2.env0.make C us []) hits g2 (hb _ (Value.ref (s.heap.objs.size + 1)) us I2.kIn hl) vs3 hq2) fin))
  | kw =>
    exact wpAny_call (make_map (f := f) I.kIn M.makes M.init (beq_iff_eq.mp M.fn) (codeAny_mono (F.run _ X.stack _ _ ⟨[Value.ref (s.heap.objs.size + 1)], ks.zip us⟩ _ _ _ _ _ (E σ) (hr.make C [] (ks.zip us))
      (I2.env0.make C [] (ks.zip us)) hits g2 (hb _ (Value.ref (s.heap.objs.size + 1)) us I2.kIn hl) vs3 hq2) fin))
/-- C(e, ..) -/
theorem de_makeW (own : Bool) (c nf : Nat) (tk : Takes X W) (hK : X.K = k.K) (M : Mk k.K (k.cl c) f) (F : FnW X.prog X.w X.K X.mg X.base lev f fd ps (SpD k 3 m)) (hnf : (k.fn c).length = nf) (hr : RoomG (lev + 1) X.A) (hg : Gl X x) (hm : X.mg x = some (.ref (k.cl c))) (hb : BnW X.K fd ps .pos n []) (hn : n ≤ 1000)
    (ha : PA X (e :: es) (LA k W ma)) (hdb : (x == ("__debug__" : Str)) = false := by decide) (he : starEach (e :: es) X.env = (false, eval e X.env) :: starEach es X.env := by rfl) (hpl : (backTo pos (starEach es X.env)).any (·.1) = false := by rfl) :
    PE X (.Call (.Name x pn) (e :: es) [] pos) (LE k W (mMake own c nf (vaM .pos n m) [] ma)) := by
  have M' : Mk X.K (k.cl c) f := by rw [hK]; exact M
  refine PE.cq (t := tMakeS (k.cl c) (SpD k (n + 1) (vaM .pos n m)) [] (WE W) (LA k W ma)) ⟨fun pins s σ H Q I h => ?_⟩ fun _ _ _ h => le_make vaM_ar hnf (fun _ _ _ => .nil) h
  refine wpAny_Call_Name_kw (ld_glob I hg hm ?_ hdb)
  refine PySem.W.callWith_K (h₀ := X.base) I.ok.mod.kin M'.kp (thn (ha.run pos pins s σ H _ I h) fun us s1 ⟨vs, H1, I1, r, q⟩ => ⟨I1.kIn, ?_⟩) he hpl
  exact run_makeW (g := .pos) (ks := []) M' F hr hb hn (fun σ => passAt tk σ) I1 r fun x dx h1 h2 h3 => by have := q x dx h1 h2 h3; rwa [List.append_nil] at this
/-- C() -/
theorem de_makeW0 (own : Bool) (c nf : Nat) (tk : Takes X W) (hK : X.K = k.K) (M : Mk k.K (k.cl c) f) (F : FnW X.prog X.w X.K X.mg X.base lev f fd ps (SpD k 3 m)) (hnf : (k.fn c).length = nf) (hr : RoomG (lev + 1) X.A) (hg : Gl X x) (hm : X.mg x = some (.ref (k.cl c))) (hb : BnW X.K fd ps .pos 0 [])
    (hdb : (x == ("__debug__" : Str)) = false := by decide) : PE X (.Call (.Name x pn) [] [] pos) (LE k W (mMake own c nf (vaM .pos 0 m) [] mNil)) := by
  have M' : Mk X.K (k.cl c) f := by rw [hK]; exact M
  refine ⟨fun pins s σ H Q I h => ?_⟩
  have h' : tMakeS (k.cl c) (SpD k 1 (vaM .pos 0 m)) [] (WE W) (LA k W mNil) σ H Q := le_make vaM_ar hnf (fun _ _ _ => .nil) h
  refine wpAny_Call_Name_kw (ld_glob I hg hm ?_ hdb)
  refine PySem.W.callWith_K0 I.kIn M'.kp ?_
  exact run_makeW (g := .pos) (ks := []) (us := []) (vs := []) M' F hr hb (by decide) (fun σ => passAt tk σ) I .nil fun x dx h1 h2 h3 => by have := la_nil h' x dx h1 h2 h3; rwa [List.append_nil] at this
theorem la_one {me : ME} {σ : L2.St} {H : Hp} {Q : List V → Hp → Prop} (h : LA k W (mCons me mNil) σ H Q) : tCons (LE k W me) tNil σ H Q := by
  obtain ⟨A, F, C, s, h⟩ := h
  refine ⟨A, F, C, s, (Aft.bnd (rel := RepD k) h).mono fun dx C1 A1 H1 x p1 st1 rx h1 => ?_⟩
  exact h1 A1 H1 [x] Stp.refl st1 (.cons rx .nil)
end
end CT
set_option maxHeartbeats 4000000
/-! DLX: len(set(t)) of a tuple of ints; sorted(t); str(n), f-strings, join. -/
namespace CT
open PySem L2 PySem.Spec PyProof.Rows
/-! ### len(set(t)) -/
theorem nd_lenI : ∀ {a b : List Int}, a.Nodup → b.Nodup → (∀ z, z ∈ a ↔ z ∈ b) → a.length = b.length
  | [], b, _, _, h => by
    cases b with
    | nil => rfl
    | cons y r => exact absurd ((h y).mpr (List.mem_cons_self ..)) (by simp)
  | x :: q, b, ha, hb, h => by
    have ⟨a1, a2⟩ := List.nodup_cons.mp ha
    have hx : x ∈ b := (h x).mp (List.mem_cons_self ..)
    have e := nd_lenI a2 (hb.erase x) fun z => by
      rw [List.Nodup.mem_erase_iff hb]
      constructor
      · exact fun hz => ⟨fun e => a1 (e ▸ hz), (h z).mp (List.mem_cons_of_mem _ hz)⟩
      · rintro ⟨h1, h2⟩
        rcases List.mem_cons.mp ((h z).mpr h2) with e | e
        · exact absurd e h1
        · exact e
    rw [List.length_cons, e, List.length_erase_of_mem hx]
    have : 0 < b.length := List.length_pos_of_mem hx
    omega
theorem setR_card {w : World} {h : Heap} {a : Addr} {ns : List Int} {c : Nat} (R : SetR w h a (fun j => decide (j ∈ ns)) c) : c = (srtI ns).length := by
  obtain ⟨o, es, ep, t, ho, hx, hd, hg, nd, hm, _, _, hn, _⟩ := R
  rw [← hn, ← Array.length_toList, ← List.length_map (f := keyOf)]
  refine nd_lenI nd (srtI_up.imp fun h => by omega) fun z => ?_
  rw [← hm z, srtI_mem]
  simp
def rSetTI (K : PySem.W.Frag) (w : World) : List V → Hp → VK → Prop := fun xs H Q => ∃ (l : Addr) (ns : List Int), xs = [V.ref l] ∧ SqT K H l (ns.map V.int) ∧ ns.length < 64 ∧
  ∀ a, H a = none → Q (.ref a) (upd H a (SetO w a (fun j => decide (j ∈ ns)) (srtI ns).length))
def rLenSI (w : World) : List V → Hp → VK → Prop := fun xs H Q => ∃ (a : Addr) (S : Int → Bool) (n : Nat), xs = [V.ref a] ∧ H a = some (SetO w a S n) ∧ Q (.int n) H
section
variable {X : Cx}
theorem cr_setTI (hc : X.calm = true) : CallR X (.type "set") (rSetTI X.K X.w) := by
  intro pins s σ H xs us Q I r h
  obtain ⟨l, ns, rfl, hl, hf, q⟩ := h
  rw [Vals.ref1 r]
  obtain ⟨its, rv, pl, hz⟩ := I.tuple hl
  refine call_set_tupI ns (I.ok.hd hc) pl (by simpa using ints_are rv) (by unfold scanBound; omega) fun h' tk c hS hn hk => ?_
  have ec := setR_card hS
  subst ec
  exact ⟨.ref s.heap.objs.size, upd H s.heap.objs.size _, I.laid (t' := tk) hk (Nat.le_refl _) (setO_new hS), rfl, q _ (I.hok.fresh (Nat.le_refl _))⟩
theorem cr_lenSI : CallR X (.builtin "len") (rLenSI X.w) := by
  intro pins s σ H xs us Q I r h
  obtain ⟨a, S, n, rfl, ha, q⟩ := h
  rw [Vals.ref1 r]
  have R0 : SetR X.w s.heap a S n := (I.hok a _ ha).1
  obtain ⟨o, es, ep, t, ho, hx, hd, hg, nd, hm, hsz, hft, hn, _⟩ := R0
  refine call_len_set ho hx hd hft (by unfold scanBound at hsz; omega) ?_
  exact ⟨.int n, H, I.tok _, ⟨_, by rw [hn]⟩, q⟩
end
def oLenSI : OA := fun xs C => match xs with
  | [d] => (vT d).bind fun ys => (dInts ys).bind fun ns => if ns.length < 64 then some (.int (srtI ns).length, C) else none
  | _ => none
section
variable {X : Cx} {k : Cn} {W : WX}
theorem d_lenSI {w : World} : ApD k (fun xs H Q => rSetTI k.K w xs H fun v H1 => rLenSI w [v] H1 Q) oLenSI := by
  intro fl A C H x dx d C' Q hf hl st rx e q
  cases rx with
  | nil => cases e
  | cons r t =>
    cases t with
    | cons _ _ => cases e
    | nil =>
      simp only [oLenSI, Option.bind_eq_some_iff] at e
      obtain ⟨ds, ev, ns, en, e⟩ := e
      split at e
      · rename_i hn
        obtain ⟨a, vs, rfl, ha, rv⟩ := vT_at r ev
        rw [dInts_eq en] at rv
        have := RepL.ints_inv rv
        subst this
        cases e
        exact ⟨a, ns, rfl, ha, hn, fun b hb => ⟨b, _, _, rfl, upd_same, q A _ _ (kp_new hb).stp0 (st.new hb) (.int _)⟩⟩
      · cases e
variable {e : Expr} {p p' pos pos' : Pos} {ma : MA}
theorem de_lenSI (hK : X.K = k.K) (hc : X.calm = true) (hg : Gl X "len") (hm : X.mg "len" = none) (hg' : Gl X "set") (hm' : X.mg "set" = none) (ha : PA X [e] (LA k W ma)) (hs : starEach [e] X.env = (false, eval e X.env) :: starEach [] X.env := by rfl)
    (hs' : starEach [.Call (.Name "set" p') [e] [] pos'] X.env = (false, eval (.Call (.Name "set" p') [e] [] pos') X.env) :: starEach [] X.env := by rfl) (hpl : (backTo pos' (starEach [] X.env)).any (·.1) = false := by rfl) (hpl' : (backTo pos (starEach [] X.env)).any (·.1) = false := by rfl) :
    PE X (.Call (.Name "len" p) [.Call (.Name "set" p') [e] [] pos'] [] pos) (LE k W (mAp oLenSI ma)) :=
  (pe_callB cr_lenSI hg hm (by decide +kernel) (pa_cons (pe_callTy (cr_setTI hc) hg' hm' (by decide +kernel) ha (by decide) (by decide) hs hpl) pa_nil hs') (by decide) (by decide) hs' hpl').cq fun _ _ _ h => le_ap (r := fun xs H Q => rSetTI X.K X.w xs H fun v H1 => rLenSI X.w [v] H1 Q) (by rw [hK]; exact d_lenSI) h
end
/-! ### sorted(t) -/
mutual
theorem reads_lt {h : Heap} : ∀ {v : Value} {d : PyData} {as : List Addr}, Reads h v d as → ∀ a ∈ as, a < h.objs.size
  | _, _, _, .none, a, ha => by cases ha
  | _, _, _, .bool _, a, ha => by cases ha
  | _, _, _, .int _ _, a, ha => by cases ha
  | _, _, _, .str _ _, a, ha => by cases ha
  | _, _, _, .list h1 _ _ h4, a, ha => by
    rcases List.mem_cons.mp ha with rfl | ha
    · exact Heap.lt_size h1
    · exact readsAll_lt h4 a ha
  | _, _, _, .tuple _ _ _ h4, a, ha => readsAll_lt h4 a ha
  | _, _, _, .dict h1 _ _ h4 h5, a, ha => by
    simp only [List.cons_append, List.mem_cons, List.mem_append] at ha
    rcases ha with rfl | ha | ha
    · exact Heap.lt_size h1
    · exact readsAll_lt h4 a ha
    · exact readsAll_lt h5 a ha
theorem readsAll_lt {h : Heap} : ∀ {vs : List Value} {ds : List PyData} {as : List Addr}, ReadsAll h vs ds as → ∀ a ∈ as, a < h.objs.size
  | _, _, _, .nil, a, ha => by cases ha
  | _, _, _, .cons r t, a, ha => by
    rcases List.mem_append.mp ha with ha | ha
    · exact reads_lt r a ha
    · exact readsAll_lt t a ha
end
def rSortP (K : PySem.W.Frag) : List V → Hp → VK → Prop := fun xs H Q => ∃ (a : Addr) (β : Type) (bs : List β) (f : β → V) (enc : β → PyData), xs = [.ref a] ∧ SqT K H a (bs.map f) ∧ (∀ b ∈ bs, Dp K H (f b) (enc b)) ∧ PySem.W.AllAlike (bs.map enc) ∧ PySem.W.Sortable (bs.map enc) ∧ (∀ b ∈ bs, (enc b).depth ≤ 60) ∧
  ∀ p, H p = none → Q (.ref p) (upd H p (.lst ((bs.mergeSort (PySem.W.dataLe false enc)).map f)))
section
variable {X : Cx}
theorem cr_sortP (hu : X.A.units + 200 < cLine) : CallR X (.builtin "sorted") (rSortP X.K) := by
  intro pins s σ H xs us Q I r h
  obtain ⟨a, β, bs, f, enc, rfl, hs, hd, hal, hk, hdp, q⟩ := h
  obtain ⟨its, rv, ⟨o, ho, hoc, n, hod⟩, hz⟩ := I.tuple hs
  obtain ⟨u, rfl, ru⟩ := vals1 r
  obtain rfl : u = Value.ref a := ru
  have hL : bs.length ≤ sizeLine := by rw [List.length_map] at hz; exact hz
  have hzi : its.toArray.size ≤ sizeLine := by rw [List.size_toArray, ← rv.length]; exact hz
  refine Calls.call_function_entry PyProof.Rows.kind_sorted PyProof.Rows.plain_sorted PyProof.Rows.entry_sorted (PyProof.Rows.args_sorted1 _) ?_
  unfold Builtin.«sorted»
  refine wpAny_bind (m := checkCount "sorted" 1 1 _) (wpAny_pure ?_)
  refine wpAny_bind (wpAny_collect_seq a (.inr rfl) ho hoc hod (fun h' hk' => ?_) hzi)
  have I1 : Inv X pins σ H { s with heap := h' } := I.kept (t' := s.toks) hk'
  have ea : its.toArray.toList = its := by simp
  rw [ea]
  refine wpAny_bind (wpAny_newList ?_ (by rw [List.size_toArray] at hzi; exact hzi))
  have hoL : (h'.push (seqObj "list" its.toArray 0)).get? h'.objs.size = some (seqObj "list" its.toArray 0) := Heap.get?_push_size _ rfl
  show wpAny _ _ _ _ _ { s with heap := h'.push (seqObj "list" its.toArray 0) }
  have each1 := each_vals rv
  have each2 : PySem.W.EachIs (fun u b => ∃ as, Reads (h'.push (seqObj "list" its.toArray 0)) u (enc b) as ∧ h'.objs.size ∉ as) its bs := each_in each1 fun u b hb e => by
    obtain ⟨as, ra⟩ := Dp.reads I1 _ _ _ (hd b hb) e
    exact ⟨as, PyProof.Rows.Reads.keeps (fun b o q => Heap.get?_push_of_some _ q) ra, fun hm => absurd (reads_lt ra _ hm) (Nat.lt_irrefl _)⟩
  refine wpAny_bind (wpAny_holding (PySem.W.list_sort_data (s := { s with heap := h'.push (seqObj "list" its.toArray 0) }) (R := fun u b => RelV (f b) u) (enc := enc) (bs := bs) hoL each1 each2 hal hk hL (fun b hb => ?_) fun out hout eo => ?_))
  · have := hdp b hb
    show X.A.units + 1 + 1 + _ < _
    omega
  · obtain ⟨e', he'⟩ := PyProof.Rows.sortedHeap_at (vs := its) (out := out.toArray) hoL
    refine wpAny_pure ⟨_, rfl, .ref h'.objs.size, _, I1.laid (t' := s.toks) (o := .lst ((bs.mergeSort (PySem.W.dataLe false enc)).map f)) (fun b u e => ?_) (Nat.le_refl _) ⟨?_, out, e', vals_each eo, he'⟩, rfl, q _ (I1.hok.fresh (Nat.le_refl _))⟩
    · have hb : b < h'.objs.size := Heap.lt_size e
      rw [PyProof.Rows.sortedHeap_old (Nat.ne_of_lt hb) (by rw [size_push']; exact Nat.lt_succ_of_lt hb)]
      exact Heap.get?_push_of_some _ e
    · rw [List.length_map, List.length_mergeSort]
      exact hL
end
end CT
set_option maxHeartbeats 4000000
/-! DLY: sorted of lists or tuples; str(n), f-strings, join; str(o) by the class's own __str__. -/
namespace CT
open PySem L2 PySem.Spec PyProof.Rows
def oSortQ (own : Bool) : OA := fun xs C => match xs with
  | [x] => (match vL x C with
    | some ds => oSortL own [x] C
    | none => (match vT x with
      | some ds => if (ds.all (fun d => (toP C d).isSome && decide ((encD C d).depth ≤ 60)) && srtb (ds.map (encD C))) = true then some (mkL own (ds.mergeSort (PySem.W.dataLe false (encD C))) C) else none
      | none => none))
  | _ => none
section
variable {X : Cx} {k : Cn} {W : WX} {σ : L2.St} {H : Hp} {Q : VK}
theorem d_sortQ {own : Bool} : ApD k (fun xs H Q => rSortA k.K xs H Q ∨ rSortP k.K xs H Q) (oSortQ own) := by
  intro fl A C H x dx d C' Q hf hl st rx e q
  cases rx with
  | nil => cases e
  | cons r t =>
    cases t with
    | cons _ _ => cases e
    | nil =>
      rename_i v0 d0
      simp only [oSortQ] at e
      split at e
      · exact .inl (d_sortL fl A C H _ _ d C' Q hf hl st (.cons r .nil) e q)
      · split at e
        · rename_i ds ev
          split at e
          · rename_i hb
            obtain ⟨a, vs, rfl, ha, rv⟩ := vT_at r ev
            obtain ⟨z1, z2, z3⟩ := repL_zip rv
            simp only [Bool.and_eq_true, List.all_eq_true, decide_eq_true_eq] at hb
            obtain ⟨hb1, hb2⟩ := hb
            obtain ⟨al, so⟩ := srtb_ok hb2
            have em : (vs.zip ds).map (fun x => encD C x.2) = ds.map (encD C) := by
              have := congrArg (List.map (encD C)) z3
              rw [List.map_map] at this
              exact this
            have hm : ∀ x ∈ vs.zip ds, x.2 ∈ ds := fun x hx => by rw [← z3]; exact List.mem_map.mpr ⟨x, hx, rfl⟩
            refine .inr ⟨a, V × D, vs.zip ds, (·.1), fun x => encD C x.2, rfl, by rw [z2]; exact ha, fun b hb => ?_, by rw [em]; exact al, by rw [em]; exact so, fun b hb => (hb1 b.2 (hm b hb)).2, fun p hp => ?_⟩
            · have := (hb1 b.2 (hm b hb)).1
              obtain ⟨pd, e3⟩ := Option.isSome_iff_exists.mp this
              have := toP_dp st (z1 b hb) e3
              have e5 : encD C b.2 = pd := by unfold encD; rw [e3]; rfl
              show Dp k.K H b.1 (encD C b.2)
              rw [e5]
              exact this
            · have e4 : ((vs.zip ds).mergeSort (PySem.W.dataLe false fun x => encD C x.2)).map (·.2) = ds.mergeSort (PySem.W.dataLe false (encD C)) := by
                have em2 := List.map_mergeSort (r := PySem.W.dataLe false fun x : V × D => encD C x.2) (s := PySem.W.dataLe false (encD C)) (f := fun x : V × D => x.2) (l := vs.zip ds) (fun a _ b _ => rfl)
                rw [em2, z3]
              have rr : RepL k A C H (((vs.zip ds).mergeSort (PySem.W.dataLe false fun x => encD C x.2)).map (·.1)) (ds.mergeSort (PySem.W.dataLe false (encD C))) := by
                rw [← e4]
                exact repL_of fun y hy => z1 y (List.mem_mergeSort.mp hy)
              obtain ⟨A2, w1, w2, w3⟩ := fresh_L (own := own) hf st rr hp
              have e1 := Option.some.inj e
              rw [e1] at w1 w2 w3
              exact q A2 _ _ w1 w2 w3
          · cases e
        · cases e
/-! ### str(n) -/
def oStrI : OA := fun xs C => match xs with
  | [.int i] => if i.natAbs.log2 < 1920 then some (.str (toString i), C) else none
  | _ => none
theorem d_strI : ApD k (fun xs H Q => ∃ i : Int, xs = [.int i] ∧ i.natAbs.log2 < 1920 ∧ Q (.str (toString i)) H) oStrI := by
  intro fl A C H x dx d C' Q hf hl st rx e q
  unfold oStrI at e
  split at e
  · rename_i i
    split at e
    · rename_i hi
      cases e
      cases rx with
      | cons r t =>
        cases t
        cases r
        exact ⟨i, rfl, hi, q A H _ Stp.refl st (.str _)⟩
    · cases e
  · cases e
/-! ### f-strings -/
inductive FP where
  | txt (s : Str) | ex (m : ME)
def fmtD : D → Option Str
  | .int i => if i.natAbs.log2 < 1920 then some (toString i) else none
  | .str y => if y.length ≤ 16777216 then some y else none
  | _ => none
def fsN : List FP → Str → ME
  | [], acc => fun _ C => .ok (.str acc) C
  | .txt s :: r, acc => fun F C => if (acc ++ s).length ≤ 16777216 then fsN r (acc ++ s) F C else .stuck
  | .ex m :: r, acc => fun F C => bnd (m F C) fun d C1 => match fmtD d with
    | some y => if (acc ++ y).length ≤ 16777216 then fsN r (acc ++ y) F C1 else .stuck
    | none => .stuck
def mFs (ps : List FP) : ME := fsN ps Str.empty
def FP.t (k : Cn) (W : WX) : FP → TE
  | .txt s => tC (.str s)
  | .ex m => tFmt (LE k W m)
theorem le_fs : ∀ (ps : List FP) (acc : Str) (H : Hp) (A : Nat → Addr) (F : Fr) (C : Store), SR k A F C σ H → Aft k F.fl A C H (RepD k) (fsN ps acc F C) (fun _ _ _ H' v => Q v H') (fun c d H' => W c d σ H') →
    tJs (ps.map (FP.t k W)) acc σ H fun out H1 => Q (.str out) H1
  | [], acc, H, A, F, C, s, h => h A H (.str acc) Stp.refl s.st (.str _)
  | .txt x :: r, acc, H, A, F, C, s, h => by
    unfold fsN at h
    split at h
    · rename_i hz
      exact ⟨x, rfl, hz, le_fs r _ H A F C s h⟩
    · exact h.elim
  | .ex m :: r, acc, H, A, F, C, s, h => by
    unfold fsN at h
    refine ⟨A, F, C, s, (Aft.bnd (rel := RepD k) h).mono fun dx C1 A1 H1 v p1 st1 r1 h1 => ?_⟩
    have s1 := s.step p1 st1
    split at h1
    · rename_i y ey
      split at h1
      · rename_i hz
        have go := le_fs r _ H1 A1 F C1 s1 h1
        cases r1 with
        | int i =>
          simp only [fmtD] at ey
          split at ey
          · rename_i hi
            cases ey
            exact .inr ⟨i, rfl, hi, _, rfl, hz, go⟩
          · cases ey
        | str z =>
          simp only [fmtD] at ey
          split at ey
          · rename_i hi
            cases ey
            exact .inl ⟨_, rfl, hi, _, rfl, hz, go⟩
          · cases ey
        | _ => cases ey
      · exact h1.elim
    · exact h1.elim
variable {v1 v2 : Expr} {rest : List Expr} {pos : Pos}
theorem de_fs {ps : List FP} (h : PJ X (v1 :: v2 :: rest) (ps.map (FP.t k W))) : PE X (.JoinedStr (v1 :: v2 :: rest) pos) (LE k W (mFs ps)) :=
  (pe_joined h).cq fun σ H Q h => by
    obtain ⟨A, F, C, s, h⟩ := h
    exact le_fs ps _ H A F C s h
/-! ### join -/
def dStrs : List D → Option (List Str)
  | [] => some []
  | .str s :: r => (dStrs r).map (s :: ·)
  | _ => none
theorem dStrs_eq : ∀ {l : List D} {ys : List Str}, dStrs l = some ys → l = ys.map .str
  | [], _, e => by cases e; rfl
  | .str s :: r, _, e => by
    simp only [dStrs, Option.map_eq_some_iff] at e
    obtain ⟨ys, e1, rfl⟩ := e
    rw [dStrs_eq e1]
    rfl
  | .non :: _, _, e => by cases e
  | .bl _ :: _, _, e => by cases e
  | .int _ :: _, _, e => by cases e
  | .lst _ :: _, _, e => by cases e
  | .tup _ :: _, _, e => by cases e
  | .scr _ :: _, _, e => by cases e
  | .kt _ :: _, _, e => by cases e
  | .obj _ _ :: _, _, e => by cases e
  | .dT _ _ :: _, _, e => by cases e
  | .cell _ :: _, _, e => by cases e
  | .exn _ _ :: _, _, e => by cases e
  | .cls _ :: _, _, e => by cases e
theorem repL_strs {A : Nat → Addr} {C : Store} : ∀ {ys : List Str} {vs : List V}, RepL k A C H vs (ys.map .str) → vs = ys.map V.str
  | [], _, .nil => rfl
  | y :: ys, _, .cons r t => by
    cases r
    rw [repL_strs t]
    rfl
def mJoin (mo me : ME) : ME := fun F C => bnd (mo F C) fun o C1 => match o with
  | .str a => bnd (me F C1) fun x C2 => (match (vL x C2).bind dStrs with
    | some ys => if (ys.map (·.length)).sum + ys.length * a.length ≤ 16777216 then .ok (.str (Txt.join a ys)) C2 else .stuck
    | none => .stuck)
  | _ => .stuck
variable {mo me : ME}
theorem le_join (h : LE k W (mJoin mo me) σ H Q) : tM1 (fun x xs H Q => ∃ a p, ∃ ys : List Str, x = .str a ∧ xs = [.ref p] ∧ (SqL k.K H p (ys.map V.str) ∨ SqT k.K H p (ys.map V.str)) ∧
    (ys.map (·.length)).sum + ys.length * a.length ≤ 16777216 ∧ Q (.str (Txt.join a ys)) H) (LE k W mo) (LE k W me) σ H Q := by
  obtain ⟨A, F, C, s, h⟩ := h
  refine ⟨A, F, C, s, (Aft.bnd (rel := RepD k) h).mono fun dx C1 A1 H1 v p1 st1 r1 h1 => ?_⟩
  have s1 := s.step p1 st1
  cases r1 with
  | str a =>
    simp only at h1
    refine ⟨⟨a, rfl⟩, A1, F, C1, s1, (Aft.bnd (rel := RepD k) h1).mono fun dy C2 A2 H2 u p2 st2 r2 h2 => ?_⟩
    split at h2
    · rename_i ys ey
      split at h2
      · rename_i hz
        obtain ⟨l, e1, e2⟩ := Option.bind_eq_some_iff.mp ey
        obtain ⟨p, vs, rfl, hp, rv⟩ := vL_at st2 r2 e1
        rw [dStrs_eq e2] at rv
        have := repL_strs rv
        subst this
        exact ⟨a, p, ys, rfl, rfl, .inl (.inl (.inl hp)), hz, h2 A2 H2 _ Stp.refl st2 (.str _)⟩
      · exact h2.elim
    · exact h2.elim
  | _ => exact h1.elim
variable {o e : Expr} {apos : Pos}
theorem de_join (hK : X.K = k.K) (ho : PE X o (LE k W mo)) (he : PE X e (LE k W me)) (hs : starEach [e] X.env = [(false, eval e X.env)] := by rfl) (hbase : attributeBase o "join" X.env (eval o X.env) = eval o X.env := by rfl) (hline : (apos.endLine == pos.line) = true := by rfl) :
    PE X (.Call (.Attribute o "join" apos) [e] [] pos) (LE k W (mJoin mo me)) :=
  (pe_join ho he hs hbase hline).cq fun _ _ _ h => by
    rw [hK]
    exact le_join h
/-! ### str(o) -/
def mStrO (c : Nat) (m : MF) (me : ME) : ME := fun F C => bnd (me F C) fun x C1 => match vO x C1 with
  | some (c', _) => if c' = c then (match m [x] C1 with
    | .ok (.str s) C2 => .ok (.str s) C2
    | _ => .stuck) else .stuck
  | none => .stuck
variable {lev : Nat} {g : Addr} {fd : FuncData} {ps : List Str} {m : MF} {p : Pos}
theorem run_in2 {sp : Sp} {pins : List (Addr × Obj)} {σ : L2.St} {H : Hp} {s : Shared} {Q : VK} {us : List Value} {vs : List V} {Ex : XK} (F : FnG X.prog X.w X.K X.mg X.base lev g fd ps sp) (hr : RoomG (lev + 2) X.A) (hb : Binds X.K fd ps []) (hx : PassesAt (L2.CX X.prog X.w) X σ Ex)
    (I : Inv X pins σ H s) (r : Vals vs us) (h : sp vs H Q Ex) : wpAny (model X.prog X.w) X.A.in1.in1 (call (.ref g) us) (EP X pins σ Q) X.xe s := by
  have hl : (us ++ []).length = ps.length := by
    rw [List.append_nil, ← r.length]
    exact F.len _ _ _ _ h
  have B := hb s us I.kIn hl
  rw [List.append_nil] at B
  refine wpAny_call (codeAny_mono (F.run X.A.in1.in1 X.stack s H ⟨us, []⟩ us vs Q Ex hr.in1.in1 I.env0.in1.in1 B r h) fun r s' hq => ?_)
  cases r with
  | error er => exact hx pins H s er s' I hq
  | ok fl =>
    cases fl with
    | ret u => exact I.after hq
    | next => exact False.elim hq
    | brk => exact False.elim hq
    | cont => exact False.elim hq
theorem de_strO (c : Nat) (tk : Takes X W) (hK : X.K = k.K) (he : PE X e (LE k W me)) (hs' : PySem.W.findIn k.K (.ref (k.cl c)) "__str__" = some (some (.ref g))) (hf : PySem.W.isFn k.K (.ref g) = true) (F : FnG X.prog X.w X.K X.mg X.base lev g fd ps (SpD k 1 m)) (ar : Ar 1 m) (hr : RoomG (lev + 2) X.A) (hb : Binds X.K fd ps [])
    (hg : Gl X "str") (hm : X.mg "str" = none) (hs : starEach [e] X.env = (false, eval e X.env) :: starEach [] X.env := by rfl) (hpl : (backTo pos (starEach [] X.env)).any (·.1) = false := by rfl) :
    PE X (.Call (.Name "str" p) [e] [] pos) (LE k W (mStrO c m me)) := by
  refine ⟨fun pins s σ H Q I h => ?_⟩
  refine wpAny_Call_Name_kw (ld_blt I hg hm (u := .type "str") (by decide +kernel) ?_ (by decide) (by decide))
  have h' : tCons (LE k W me) tNil σ H (fun vs H1 => ∃ v, vs = [v] ∧ ∃ a dx fs, v = .ref a ∧ H1 a = some (.ins (k.cl c) dx fs) ∧ SpD k 1 m [v] H1 (fun z H2 => ∃ t, z = .str t ∧ Q (.str t) H2) (WE W σ)) := by
    obtain ⟨A, F', C, s', h⟩ := h
    refine ⟨A, F', C, s', (Aft.bnd (rel := RepD k) h).mono fun dx C1 A1 H1 v p1 st1 r1 h1 => ?_⟩
    have s1 := s'.step p1 st1
    split at h1
    · rename_i c' fs ev
      split at h1
      · rename_i hcc
        subst hcc
        obtain ⟨a, dx', vs, rfl, ha, hle, rv⟩ := vO_at st1 r1 ev
        refine ⟨_, rfl, a, dx', _, rfl, ha, sp_of s1.fl ar st1 (.cons r1 .nil) ?_⟩
        cases em : m [dx] C1 with
        | ok d C2 =>
          rw [em] at h1
          intro A2 H2 z p2 st2 rz
          cases rz with
          | str t => exact ⟨t, rfl, h1 A2 H2 _ p2 st2 (.str _)⟩
          | _ => exact h1.elim
        | exc e C2 => rw [em] at h1; exact h1.elim
        | stuck => rw [em] at h1; exact h1.elim
      · exact h1.elim
    · exact h1.elim
  refine PyProof.Rows.callWith_type1 (thn ((pa_cons he pa_nil hs).run pos pins s σ H _ I h') fun us s1 ⟨vs, H1, I1, r1, v, ev, a, dx, fs, ea, ha, q1⟩ => ?_) hs hpl
  subst ev
  subst ea
  obtain ⟨u, rfl, ru⟩ := Vals.one r1
  cases (show u = Value.ref a from ru)
  obtain ⟨mA, O, _, _, _, _⟩ := ins_get I1.hok ha
  obtain ⟨od, J, _⟩ := O.look
  refine PySem.W.kso_call hr.in1.in1.room.units0 I1.kIn J (by rw [hK]; exact hs') (by rw [hK]; exact hf) ?_
  refine wpAny_mono (run_in2 (us := [.ref a]) (vs := [.ref a]) F hr hb (passAt tk σ) I1 (.cons rfl .nil) q1) (fun z' s' hz => ?_) fun _ _ z => z
  obtain ⟨z, H', I', rz, t, ez, qz⟩ := hz
  subst ez
  obtain ⟨tt, rfl⟩ := rz
  exact ⟨.str t, H', I', ⟨tt, rfl⟩, qz⟩
end
end CT
set_option maxHeartbeats 4000000
/-! DLZ: binding of *numbers and a keyword that is None by itself. -/
namespace CT
open PySem L2 PySem.Spec PyProof.Rows
def KwNon (K : PySem.W.Frag) (f : Addr) (kn : Str) : Prop := ∀ oc od fd osl, K.lookup f = some ⟨oc, od, .func fd, osl⟩ → ∃ D, fd.kwdefaults = .ref D ∧ PySem.W.nsIn K D kn = some (some .none)
def kwB (a : PySem.W.Frag → Addr) (kn : Str) (K : PySem.W.Frag) : Bool := match K.lookup (a K) with
  | some ⟨_, _, .func fd, _⟩ => (match fd.kwdefaults with
    | .ref D => He.eqO (PySem.W.nsIn K D kn) (some (some .none))
    | _ => false)
  | _ => false
theorem kwB_ok {a : PySem.W.Frag → Addr} {kn : Str} {K : PySem.W.Frag} (h : kwB a kn K = true) : KwNon K (a K) kn := by
  intro oc od fd osl e
  unfold kwB at h
  rw [e] at h
  simp only at h
  split at h
  · rename_i D hD
    exact ⟨D, hD, He.eqO_ok h⟩
  · cases h
section
variable {K : PySem.W.Frag} {x qual : Str} {params : Arguments} {body : List Stmt} {scope : Scope} {f : Addr} {fd : FuncData} {ps : List Str} {kn : Str}
theorem bn_pos (F : FunD K x qual params body scope [] [] f fd) (kw : KwNon K f kn) (n : Nat) (hn : n ≤ 1000)
    (h : ∀ (D : Addr) (doc pm : Value) (an : Option Addr) (cdv ct : Value) (u0 : Value) (us : List Value), us.length = n → ∃ (β γ : Type) (k1 : Option Value → Sem β) (k2 : β → Sem γ) (k3 : γ → Sem (List (Str × Value))) (a : β),
      bindArgs (PySem.W.fnOf x qual params body scope .none (.ref D) doc pm an cdv ct) ⟨u0 :: us, []⟩ = ((nsGet D kn >>= k1) >>= k2) >>= k3 ∧ k1 (some .none) = pure a ∧ (k2 a >>= k3) = (newTuple us >>= fun t => pure (ps.zip [u0, .none, t]))) : BnW K fd ps .pos n [] := by
  obtain ⟨oc, od, dV, kV, doc, pm, an, cdv, ct, osl, rfl, lk, hcd, hD, hK⟩ := F.ex
  obtain ⟨D, e1, e2⟩ := kw _ _ _ _ lk
  have e1' : kV = .ref D := e1
  subst e1'
  rcases hD with ⟨_, rfl⟩ | ⟨e, _⟩
  · intro s u0 us KX hl M A E Q q
    obtain ⟨β, γ, k1, k2, k3, a, h1, h2, h3⟩ := h D doc pm an cdv ct u0 us hl
    show wpAny M A (bindArgs _ ⟨u0 :: us, []⟩) Q E s
    have l1 : PySem.W.Looks M s.heap (nsGet D kn >>= k1) a := (PySem.W.looks_nsIn KX e2).andThen (PySem.W.Looks.of_pure h2)
    rw [h1, bind_assoc]
    refine wpAny_bind (l1.here ?_)
    rw [h3]
    refine wpAny_bind (wpAny_newTuple (wpAny_pure q) (by rw [hl]; exact Nat.le_trans hn (by decide)))
  · exact absurd rfl e
theorem bn_kw (F : FunD K x qual params body scope [] [] f fd)
    (h : ∀ (kV doc pm : Value) (an : Option Addr) (cdv ct : Value) (u0 u : Value), bindArgs (PySem.W.fnOf x qual params body scope .none kV doc pm an cdv ct) ⟨[u0], [(kn, u)]⟩ = (newTuple [] >>= fun t => pure (ps.zip [u0, u, t]))) : BnW K fd ps .kw 1 [kn] := by
  obtain ⟨oc, od, dV, kV, doc, pm, an, cdv, ct, osl, rfl, lk, hcd, hD, hK⟩ := F.ex
  rcases hD with ⟨_, rfl⟩ | ⟨e, _⟩
  · intro s u0 us KX hl M A E Q q
    match us, hl with
    | [u], _ =>
      show wpAny M A (bindArgs _ ⟨[u0], [(kn, u)]⟩) Q E s
      rw [h]
      exact wpAny_bind (wpAny_newTuple (wpAny_pure q) (by decide))
  · exact absurd rfl e
end
end CT
set_option maxHeartbeats 4000000
/-! DM1: classmethods (C.m(..), cls(k = e)); + of texts. -/
namespace CT
open PySem L2 PySem.Spec PyProof.Rows
def cmG (K : PySem.W.Frag) (C : Addr) (m : Str) : Addr := He5.wf K C "classmethod" m
structure CmOk (K : PySem.W.Frag) (C : Addr) (m : Str) (g : Addr) : Prop where
  rd : ClX.CRead K C (.type "type")
  mt : ClX.CMet K C (.type "type") m (He.ma K C m) g
def cmB (x m : Str) (K : PySem.W.Frag) : Bool := PySem.W.readsIn K (He.ga K x) (.type "type") && (He5.wrapB K (He.ga K x) "classmethod" "classmethod.__get__" m && PySem.W.fnIn K (cmG K (He.ga K x) m))
theorem cmB_ok {K : PySem.W.Frag} {x m : Str} (h : cmB x m K = true) : CmOk K (He.ga K x) m (cmG K (He.ga K x) m) := by
  obtain ⟨h1, h⟩ := He.ba h
  obtain ⟨h2, h3⟩ := He.ba h
  refine ⟨⟨h1, ?_⟩, He5.cmet_of h2 h3⟩
  unfold PySem.W.readsIn at h1
  obtain ⟨h, _⟩ := He.ba h1
  obtain ⟨h, _⟩ := He.ba h
  obtain ⟨h, h3⟩ := He.ba h
  obtain ⟨_, h2⟩ := He.ba h
  unfold PySem.W.specialIn
  rw [beq_iff_eq.mp h2, Option.bind_some]
  exact beq_iff_eq.mp h3
def clM (c : Nat) (m : MF) : MF := fun ds C => m (.cls c :: ds) C
theorem clM_ar {c n : Nat} {m : MF} (h : Ar (n + 1) m) : Ar n (clM c m) := fun ds C hl => h _ _ (by simpa using hl)
section
variable {X : Cx} {k : Cn} {W : WX} {σ : L2.St} {H : Hp} {Q : VK} {lev : Nat} {f C p g : Addr} {fd : FuncData} {ps : List Str} {np n : Nat} {m : MF} {x nm : Str} {pn pos apos : Pos} {e : Expr} {es : List Expr} {ma : MA}
theorem sp_cls {c : Nat} {vs : List V} {E : XK} (h : SpD k n (clM c m) vs H Q E) : SpD k (n + 1) m (.ref (k.cl c) :: vs) H Q E := by
  obtain ⟨hl, A, C, ds, st, rl, h⟩ := h
  exact ⟨by simp [hl], A, C, .cls c :: ds, st, .cons (.cls c) rl, h⟩
theorem run_cmG {q : Addr} {pins : List (Addr × Obj)} {s : Shared} {sp : Sp} {E : L2.St → XK} {us : List Value} {vs : List V} (F : FnG X.prog X.w X.K X.mg X.base lev g fd ps sp) (hr : RoomG lev X.A) (hb : Binds X.K fd ps []) (hx : PassesAt (L2.CX X.prog X.w) X σ (E σ)) (I : Inv X ((q, PySem.W.methodObj (.ref g) (.ref C)) :: pins) σ H s)
    (r : Vals vs us) (h : sp (.ref C :: vs) H Q (E σ)) : wpAny (model X.prog X.w) X.A (call (.ref q) us) (EP X pins σ Q) X.xe s := by
  have r2 : Vals (V.ref C :: vs) (Value.ref C :: us ++ []) := by rw [List.append_nil]; exact .cons rfl r
  have hl : (Value.ref C :: us ++ []).length = ps.length := by rw [← r2.length]; exact F.len _ _ _ _ h
  have z : wpAny (model X.prog X.w) X.A (call (.ref q) us) (EP X ((q, PySem.W.methodObj (.ref g) (.ref C)) :: pins) σ Q) X.xe s := by
    refine wpAny_call (PySem.W.method_call (ClX.pin_at I) (codeAny_mono (F.run X.A X.stack s H ⟨.ref C :: us, []⟩ (.ref C :: us ++ []) (.ref C :: vs) Q (E σ) hr I.env0 (hb s (.ref C :: us) I.kIn hl) r2 h) fun r s' hq => ?_))
    cases r with
    | error e => exact hx _ H s e s' I hq
    | ok fl =>
      cases fl with
      | ret u => exact I.after hq
      | next => exact False.elim hq
      | brk => exact False.elim hq
      | cont => exact False.elim hq
  exact thn z fun _ _ y => ClX.unpinE y
/-- C.m(e, ..) -/
theorem de_cmeth {pl : Sem Bool} (c : Nat) (tk : Takes X W) (hK : X.K = k.K) (hg : Gl X x) (hm : X.mg x = some (.ref (k.cl c))) (hc : CmOk k.K (k.cl c) nm g) (F : FnG X.prog X.w X.K X.mg X.base lev g fd ps (SpD k (n + 1) m)) (ar : Ar (n + 1) m) (hr : RoomG lev X.A) (hb : Binds X.K fd ps [])
    (ha : PA X (e :: es) (LA k W ma)) (hdb : (x == ("__debug__" : Str)) = false := by decide)
    (hst : starEach (e :: es) X.env = (false, eval e X.env) :: starEach es X.env := by rfl) (hpl : (backTo pos (starEach es X.env)).any (·.1) = false := by rfl)
    (ht : eval (.Call (.Attribute (.Name x pn) nm apos) (e :: es) [] pos) X.env = (do
      let ov ← eval (.Name x pn) X.env
      standAt apos.atName
      let (f, first) ← holding [ov] (getMethod ov nm pl)
      callWith pos f first (backTo pos (starEach (e :: es) X.env)) (backToKw pos (keywordEach [] X.env))) := by rfl) :
    PE X (.Call (.Attribute (.Name x pn) nm apos) (e :: es) [] pos) (LE k W (mCall (clM c m) [] ma)) := by
  rw [← hK] at hc
  refine PE.cq (t := tCallSD (SpD k n (clM c m)) [] (WE W) (LA k W ma)) ⟨fun pins s σ H Q I h => ?_⟩ fun _ _ _ h => le_call (clM_ar ar) (fun _ _ _ => .nil) h
  have hn : PE X (.Name x pn) (tC (.ref (k.cl c))) := pe_glob hg hm rfl hdb
  refine PySem.W.methodCall_KW (pl := pl) (thn (hn.run pins s σ H (fun v H1 => v = .ref (k.cl c) ∧ H1 = H) I ⟨rfl, rfl⟩) fun u s1 ⟨v, H1, I1, r1, q1⟩ => ?_) ht
  obtain ⟨rfl, rfl⟩ := q1
  obtain rfl : u = Value.ref (k.cl c) := r1
  refine ClX.getmethcm_ok I1 hc.rd hc.mt fun s2 I2 => ?_
  refine ClX.callwith_cm I2 (ClX.base_none I1 (Nat.le_refl _)) hc.mt.fi (thn (ha.run pos _ s2 σ _ _ I2 h) fun us s3 ⟨vs, H2, I3, rv, q2⟩ => ⟨⟨ClX.pin_at I3, I3.kIn⟩, ?_⟩) hst hpl
  have q3 : SpD k n (clM c m) (vs ++ []) H2 Q (WE W σ) := q2
  rw [List.append_nil] at q3
  exact run_cmG (E := WE W) F hr hb (passAt tk σ) I3 rv (sp_cls q3)
/-- cls(k = e) -/
def mMkC (i c nf : Nat) (m : MF) (me : ME) : ME := fun F C => match F.sl[i]? with
  | some (some (.cls c')) => if c' = c then mMake false c nf (vaM .kw 1 m) [] (mCons me mNil) F C else .stuck
  | _ => .stuck
theorem le_mkC {i c nf : Nat} {me : ME} (h : LE k W (mMkC i c nf m me) σ H Q) : σ[i]? = some (some (.ref (k.cl c))) ∧ LE k W (mMake false c nf (vaM .kw 1 m) [] (mCons me mNil)) σ H Q := by
  obtain ⟨A, F, C, s, h⟩ := h
  unfold mMkC at h
  split at h
  · rename_i c' e
    split at h
    · rename_i hc
      subst hc
      obtain ⟨v, hv, r⟩ := s.sl i _ e
      cases r
      exact ⟨hv, A, F, C, s, h⟩
    · exact h.elim
  · exact h.elim
theorem de_mkC (c nf : Nat) {i : Nat} {kn : Str} {kpos : Pos} (tk : Takes X W) (hK : X.K = k.K) (M : Mk k.K (k.cl c) f) (F : FnW X.prog X.w X.K X.mg X.base lev f fd ps (SpD k 3 m)) (hnf : (k.fn c).length = nf) (hr : RoomG (lev + 1) X.A) (hb : BnW X.K fd ps .kw 1 [kn])
    {me : ME} (he : PE X e (LE k W me)) (hN : X.N[i]? = some x := by rfl) (hv : Vis X.env.scope x := by first | exact Or.inl rfl | exact Or.inr (Or.inl rfl) | exact Or.inr (Or.inr rfl)) (hdb : (x == ("__debug__" : Str)) = false := by decide) (hcd : (x == ("__classdict__" : Str)) = false := by decide)
    (hall : (backToKw pos (keywordEach [⟨some kn, e, kpos⟩] X.env)).all (·.1.isSome) = true := by rfl) (hks : (backToKw pos (keywordEach [⟨some kn, e, kpos⟩] X.env)).filterMap (·.1) = [kn] := by rfl)
    (hpl : ((backTo pos (starEach [] X.env)).any (·.1) || (backToKw pos (keywordEach [⟨some kn, e, kpos⟩] X.env)).any (·.1.isNone)) = false := by rfl) :
    PE X (.Call (.Name x pn) [] [⟨some kn, e, kpos⟩] pos) (LE k W (mMkC i c nf m me)) := by
  have M' : Mk X.K (k.cl c) f := by rw [hK]; exact M
  refine ⟨fun pins s σ H Q I h0 => ?_⟩
  obtain ⟨hs, h1⟩ := le_mkC h0
  have h : tMakeS (k.cl c) (SpD k 2 (vaM .kw 1 m)) [] (WE W) (LA k W (mCons me mNil)) σ H Q := le_make vaM_ar hnf (fun _ _ _ => .nil) h1
  refine wpAny_Call_Name_kw (thn ((pe_var (pos := pn) hN hv hdb hcd).run pins s σ H (fun v H1 => v = .ref (k.cl c) ∧ H1 = H) I ⟨.ref (k.cl c), hs, rfl, rfl⟩) fun u s1 ⟨v, H1, I1, r1, q1⟩ => ?_)
  obtain ⟨rfl, rfl⟩ := q1
  cases r1
  refine PySem.W.callWith_KW0 (h₀ := X.base) I.ok.mod.kin M'.kp hall ?_ hpl
  refine thn ((pk_cons he pk_nil).run pos pins s1 σ _ _ I1 (la_one h)) fun us s2 ⟨vs, H2, I2, r, q⟩ => ⟨I2.kIn, ?_⟩
  rw [hks]
  exact run_makeW (g := .kw) (ks := [kn]) M' F hr hb (by decide) (fun σ => passAt tk σ) I2 r fun x dx h1 h2 h3 => by have := q x dx h1 h2 h3; rwa [List.append_nil] at this
/-! ### + of texts -/
def oCatS : O2 := fun x y C => match x, y with
  | .str i, .str j => if i.length + j.length ≤ 16777216 then some (.str (i ++ j), C) else none
  | _, _ => none
theorem d_catS : OpD k (fun x y H Q => ∃ i j, x = .str i ∧ y = .str j ∧ i.length + j.length ≤ sizeLine ∧ Q (.str (i ++ j)) H) oCatS := by
  intro fl A C H x y dx dy d C' Q hf hl st rx ry e q
  unfold oCatS at e
  split at e
  · rename_i i j
    split at e
    · rename_i hz
      cases e
      cases rx
      cases ry
      exact ⟨i, j, rfl, rfl, by rw [sizeLine_eq]; exact hz, q A H _ Stp.refl st (.str _)⟩
    · cases e
  · cases e
end
end CT
set_option maxHeartbeats 4000000
/-! DM2: the head's Hook where attributes of classes are read. -/
namespace CT
open PySem L2 PySem.Spec PyProof.Rows
def obGs (n : Nat) (fs : List (PySem.W.Frag → Bool)) (fn : List DefX) (g : Addr → Option Obj) : AlX := obX fs fn (He.frG g (He.asD g n ++ [cStatics]))
def hookXs (n : Nat) (fs : List (PySem.W.Frag → Bool)) (fn : List DefX) : PySem.W.Hook where
  α := AlX
  obs := fun s => obGs n fs fn s.heap.get?
  val := fun _ => vlX fn
  says := fun _ h => ∃ K : PySem.W.Frag, K.In h ∧ SaysX fs fn K
  of := fun _ _ e => ⟨_, He.frG_in, e⟩
  keeps := fun _ _ _ ⟨K, hK, c⟩ k => ⟨K, PySem.W.Frag.In.keeps hK k, c⟩
theorem obGs_eq {n : Nat} {fs : List (PySem.W.Frag → Bool)} {fn : List DefX} (s : PySem.W.SharedT) : obGs n fs fn (HandSHeadRun.getT s) = (hookXs n fs fn).obs s.abs := by
  have e : HandSHeadRun.getT s = s.abs.heap.get? := funext (HandSHeadRun.getT_eq s)
  rw [e]
  rfl
end CT
set_option maxHeartbeats 4000000
/-! DM3: is True; t * n; bool(o) by the class's own __bool__; a or b of tuples, bool(t). -/
namespace CT
open PySem L2 PySem.Spec PyProof.Rows
/-! ### t * n -/
/-! ### a or b of tuples; bool(t) -/
def mOrT (ma mb : ME) : ME := fun F C => bnd (ma F C) fun x C1 => match vT x with
  | some xs => if xs.isEmpty = true then mb F C1 else .ok x C1
  | none => .stuck
section
variable {X : Cx} {k : Cn} {W : WX} {σ : L2.St} {H : Hp} {Q : VK} {a b : Expr} {rest : List Expr} {pos : Pos} {ma mb : ME}
theorem isE {A : Nat → Addr} {C : Store} {vs : List V} {xs : List D} (r : RepL k A C H vs xs) : vs.isEmpty = xs.isEmpty := by
  cases r <;> rfl
theorem le_orT (h : LE k W (mOrT ma mb) σ H Q) : tOrT k.K (LE k W ma) (LE k W mb) σ H Q := by
  obtain ⟨A, F, C, s, h⟩ := h
  refine ⟨A, F, C, s, (Aft.bnd (rel := RepD k) h).mono fun dx C1 A1 H1 v p1 st1 r1 h1 => ?_⟩
  have s1 := s.step p1 st1
  split at h1
  · rename_i xs ev
    obtain ⟨p, vs, rfl, hp, rv⟩ := vT_at r1 ev
    refine ⟨!vs.isEmpty, .inr (.inl ⟨vs, hp, rfl⟩), ?_⟩
    rw [isE rv]
    cases he : xs.isEmpty with
    | true =>
      rw [he] at h1
      exact ⟨A1, F, C1, s1, h1⟩
    | false =>
      rw [he] at h1
      exact h1 A1 H1 _ Stp.refl st1 r1
  · exact h1.elim
theorem de_orT (hK : X.K = k.K) (ha : PE X a (LE k W ma)) (hb : PE X b (LE k W mb)) : PE X (.BoolOp .Or [a, b] pos) (LE k W (mOrT ma mb)) :=
  (pe_orT ha (pe_one hb)).cq fun _ _ _ h => by rw [hK]; exact le_orT h
end
theorem meets_bool_tup (l : Addr) (items : Array Value) (hfit : (items.size : Int) < 2 ^ 63) :
    Meets (Builtin.«bool.__new__» ⟨[.type "bool", .ref l], []⟩) (fun _ R s => IsTup s.heap l items ∧ R (.ok (.ret (.bool (!items.isEmpty)))) { s with toks := s.toks + 1 + 1 }) :=
  Meets.of_wp fun prog w A R s hs => by
    obtain ⟨hl, hs⟩ := hs
    obtain ⟨hp, g, d, tk, os⟩ := s
    have f1 := PySem.F.conv_sub_bool
    repeat (any_goals (first | assumption | (with_reducible refine truthy_tuple hl hfit ?_) | wp_step))
    all_goals first | exact ⟨_, rfl, hs⟩ | exact hs | skip
theorem call_boolT {X : Cx} : CallR X (.type "bool") (fun xs H Q => ∃ (a : Addr) (zs : List V), xs = [.ref a] ∧ SqT X.K H a zs ∧ Q (.bl (!zs.isEmpty)) H) := by
  intro pins s σ H xs us Q I r h
  obtain ⟨a, zs, rfl, hq, q⟩ := h
  obtain rfl := Vals.ref1 r
  obtain ⟨its, rv, pl, hz⟩ := I.tuple hq
  have hl := line63
  have hlen := rv.length
  refine call_bool_1 (meets_bool_tup a its.toArray (by simp only [List.size_toArray]; omega)) ⟨pl, rfl, ?_⟩
  exact ⟨.bl (!zs.isEmpty), H, I.tok _, by rw [isEmpty_of rv]; rfl, q⟩
def oBoolT : OA := fun xs C => match xs with
  | [x] => (vT x).map fun ys => (.bl (!ys.isEmpty), C)
  | _ => none
theorem d_boolT {k : Cn} : ApD k (fun xs H Q => ∃ (a : Addr) (zs : List V), xs = [.ref a] ∧ SqT k.K H a zs ∧ Q (.bl (!zs.isEmpty)) H) oBoolT := by
  intro fl A C H x dx d C' Q hf hl st rx e q
  cases rx with
  | nil => cases e
  | cons r t =>
    cases t with
    | cons _ _ => cases e
    | nil =>
      simp only [oBoolT, Option.map_eq_some_iff] at e
      obtain ⟨ys, ev, e⟩ := e
      obtain ⟨a, vs, rfl, ha, rv⟩ := vT_at r ev
      cases e
      exact ⟨a, vs, rfl, ha, by rw [isE rv]; exact q A H _ Stp.refl st (.bl _)⟩
end CT
set_option maxHeartbeats 4000000
/-! DM4: bool(o) by the class's own __bool__. -/
namespace CT
open PySem L2 PySem.Spec PyProof.Rows
section
variable {prog : Program} {w : World} {A : Around} {E : Value → Shared → Prop} {s : Shared} {K : PySem.W.Frag} {x C f : Addr} {ox : Obj} {od : Option Obj}
theorem truthy_own {M : Model} {Q : Bool → Shared → Prop} (X : K.In s.heap) (I : PySem.W.InstAt s.heap x ox C od) (hs : PySem.W.findIn K (.ref C) "__bool__" = some (some (.ref f))) (hf : PySem.W.isFn K (.ref f) = true)
    (h : wpAny M A (call (.ref f) [.ref x]) (PySem.W.BoolBack Q) E s) : wpAny M A (truthy (.ref x)) Q E s := by
  unfold truthy
  refine wpAny_bind (m := callSpecial? (.ref x) (Str.ofString "__bool__")) (PySem.W.special_fn X I hs (beq_iff_eq.mp hf) (wpAny_mono h (fun r s' hr => ?_) fun _ _ y => y))
  cases r <;> first | exact hr.elim | skip
  exact wpAny_pure hr
theorem bool_new_tree (v : Value) : Builtin.«bool.__new__» ⟨[.type "bool", v], []⟩ = (do
    if !(← isType (.type "bool")) then
      rule "bool.__new__.no-type"; raiseError "TypeError" s!"bool.__new__(X): X is not a type object ({← typeNameOf (.type "bool")})"
    if !(← isSubtype (.type "bool") (.type "bool")) then
      rule "bool.__new__.no-subtype"; raiseError "TypeError" s!"bool.__new__({← typeName (.type "bool")}): {← typeName (.type "bool")} is not a subtype of bool"
    match ← PySem.someArgs "bool" 0 1 ⟨[v], []⟩ with
    | x :: _ => ret (.bool (← truthy x))
    | [] => ret (.bool false)) := rfl
theorem some1 (v : Value) : PySem.someArgs "bool" 0 1 ⟨[v], []⟩ = pure [v] := by
  kernel_rfl
theorem kbo_call {Q : Value → Shared → Prop} (X : K.In s.heap) (I : PySem.W.InstAt s.heap x ox C od) (hs : PySem.W.findIn K (.ref C) "__bool__" = some (some (.ref f))) (hf : PySem.W.isFn K (.ref f) = true)
    (h : wpAny (model prog w) A.in1.in1 (call (.ref f) [.ref x]) (PySem.W.BoolBack fun b s' => Q (.bool b) s') E s) : wpAny (model prog w) A (call (.type "bool") [.ref x]) Q E s := by
  refine callType_codes (T := "bool") (Bi := Builtin.«object.__init__») (Q₁ := fun r s₁ => ∃ y, r = .bool y ∧ Q r s₁) PySem.F.called_bool (PySem.F.typeCall_bool_1 _) PySem.F.entry_object_init ?_ ?_
  · refine codeAny_of_tree ?_
    show wpAny _ A.in1.in1 (do checkBuiltinCall "bool.__new__" ⟨[.type "bool", .ref x], []⟩; again (.builtin "bool.__new__" ⟨[.type "bool", .ref x], []⟩)) _ _ s
    refine wpAny_bind (wpAny_of_eq (PySem.F.newCall_bool_1 _) (wpAny_pure ⟨plainId_quiet (by decide +kernel) _, codeAny_builtin PySem.F.entry_bool_new ?_⟩))
    rw [Around.under_plainId (by decide +kernel) _]
    rw [bool_new_tree]
    refine wpAny_bind (wpAny_pure ?_)
    refine wpAny_bind (wpAny_of_eq PySem.F.conv_sub_bool ?_)
    refine wpAny_bind (wpAny_of_eq (some1 _) ?_)
    refine wpAny_bind (wpAny_mono (truthy_own X I hs hf (Q := fun b s₁ => Q (.bool b) s₁) h) (fun r s₁ hr => wpAny_pure ⟨_, rfl, hr⟩) fun _ _ y => y)
  · rintro obj s₁ ⟨y, rfl, hq⟩
    exact ⟨PySem.typeIs_bool _ _, PySem.F.args_object_init_2 _ _, object_init_meets PySem.F.called_bool.init.lookup PySem.F.called_bool.made (by decide) prog w A.in1 _ s₁ ⟨PySem.typeIs_bool _ _, rfl, hq⟩⟩
end
/-! ### bool(o) -/
def mBoolO (c : Nat) (m : MF) (me : ME) : ME := fun F C => bnd (me F C) fun x C1 => match vO x C1 with
  | some (c', _) => if c' = c then (match m [x] C1 with
    | .ok (.bl s) C2 => .ok (.bl s) C2
    | _ => .stuck) else .stuck
  | none => .stuck
section
variable {X : Cx} {k : Cn} {W : WX} {σ : L2.St} {H : Hp} {Q : VK} {me : ME} {e : Expr} {pos p : Pos} {lev : Nat} {g : Addr} {fd : FuncData} {ps : List Str} {m : MF}
theorem de_boolO (c : Nat) (tk : Takes X W) (hK : X.K = k.K) (he : PE X e (LE k W me)) (hs' : PySem.W.findIn k.K (.ref (k.cl c)) "__bool__" = some (some (.ref g))) (hf : PySem.W.isFn k.K (.ref g) = true) (F : FnG X.prog X.w X.K X.mg X.base lev g fd ps (SpD k 1 m)) (ar : Ar 1 m) (hr : RoomG (lev + 2) X.A) (hb : Binds X.K fd ps [])
    (hg : Gl X "bool") (hm : X.mg "bool" = none) (hs : starEach [e] X.env = (false, eval e X.env) :: starEach [] X.env := by rfl) (hpl : (backTo pos (starEach [] X.env)).any (·.1) = false := by rfl) :
    PE X (.Call (.Name "bool" p) [e] [] pos) (LE k W (mBoolO c m me)) := by
  refine ⟨fun pins s σ H Q I h => ?_⟩
  refine wpAny_Call_Name_kw (ld_blt I hg hm (u := .type "bool") (by decide +kernel) ?_ (by decide) (by decide))
  have h' : tCons (LE k W me) tNil σ H (fun vs H1 => ∃ v, vs = [v] ∧ ∃ a dx fs, v = .ref a ∧ H1 a = some (.ins (k.cl c) dx fs) ∧ SpD k 1 m [v] H1 (fun z H2 => ∃ t, z = .bl t ∧ Q (.bl t) H2) (WE W σ)) := by
    obtain ⟨A, F', C, s', h⟩ := h
    refine ⟨A, F', C, s', (Aft.bnd (rel := RepD k) h).mono fun dx C1 A1 H1 v p1 st1 r1 h1 => ?_⟩
    have s1 := s'.step p1 st1
    split at h1
    · rename_i c' fs ev
      split at h1
      · rename_i hcc
        subst hcc
        obtain ⟨a, dx', vs, rfl, ha, hle, rv⟩ := vO_at st1 r1 ev
        refine ⟨_, rfl, a, dx', _, rfl, ha, sp_of s1.fl ar st1 (.cons r1 .nil) ?_⟩
        cases em : m [dx] C1 with
        | ok d C2 =>
          rw [em] at h1
          intro A2 H2 z p2 st2 rz
          cases rz with
          | bl t => exact ⟨t, rfl, h1 A2 H2 _ p2 st2 (.bl _)⟩
          | _ => exact h1.elim
        | exc e C2 => rw [em] at h1; exact h1.elim
        | stuck => rw [em] at h1; exact h1.elim
      · exact h1.elim
    · exact h1.elim
  refine PyProof.Rows.callWith_type1 (thn ((pa_cons he pa_nil hs).run pos pins s σ H _ I h') fun us s1 ⟨vs, H1, I1, r1, v, ev, a, dx, fs, ea, ha, q1⟩ => ?_) hs hpl
  subst ev
  subst ea
  obtain ⟨u, rfl, ru⟩ := Vals.one r1
  cases (show u = Value.ref a from ru)
  obtain ⟨mA, O, _, _, _, _⟩ := ins_get I1.hok ha
  obtain ⟨od, J, _⟩ := O.look
  refine kbo_call I1.kIn J (by rw [hK]; exact hs') (by rw [hK]; exact hf) ?_
  refine wpAny_mono (run_in2 (us := [.ref a]) (vs := [.ref a]) F hr hb (passAt tk σ) I1 (.cons rfl .nil) q1) (fun z' s' hz => ?_) fun _ _ z => z
  obtain ⟨z, H', I', rz, t, ez, qz⟩ := hz
  subst ez
  cases rz
  exact ⟨.bl t, H', I', rfl, qz⟩
end
end CT
set_option maxHeartbeats 4000000
/-! DM5: zip of two tuples; min and max of a list of ints with a default. -/
namespace CT
open PySem L2 PySem.Spec PyProof.Rows RZ
end CT
set_option maxHeartbeats 4000000
/-! DM6: min and max of a list of ints with a default. -/
namespace CT
open PySem L2 PySem.Spec PyProof.Rows
def rMinD (f : Int → Int → Int) (K : PySem.W.Frag) : List V → List V → Hp → VK → Prop := fun xs zs H Q => ∃ (a : Addr) (ns : List Int) (z : V), xs = [.ref a] ∧ zs = [z] ∧ SqL K H a (ns.map V.int) ∧ (match ns with
  | [] => Q z H
  | y :: ys => Q (.int (ys.foldl f y)) H)
section
variable {X : Cx}
theorem reads_int {h : Heap} {v : Value} {n : Int} {bs : List Addr} (r : Reads h v (.int n) bs) : ∃ t, v = .int n t := by
  cases r
  exact ⟨_, rfl⟩
theorem dep_ints : ∀ ns : List Int, PyData.depthAll (ns.map .int) = 0
  | [] => rfl
  | n :: ns => by
    have := dep_ints ns
    simp only [List.map_cons, PyData.depthAll, PyData.depth, this]
    omega
theorem alike_ints (ns : List Int) : PySem.W.AlikeAll (ns.map .int) := by
  refine ⟨fun x hx y hy => ?_, fun x hx => ?_⟩
  · obtain ⟨a, _, rfl⟩ := List.mem_map.mp hx
    obtain ⟨b, _, rfl⟩ := List.mem_map.mp hy
    rfl
  · obtain ⟨a, _, rfl⟩ := List.mem_map.mp hx
    simp
theorem cr_minD (hr : X.A.handled = none) (hu : X.A.units + 200 < cLine) : CallRK X (.builtin "min") ["default"] (rMinD min X.K) := by
  intro pins s σ H xs zs us ws Q I r1 r2 h
  obtain ⟨a, ns, z, rfl, rfl, hq, q⟩ := h
  obtain rfl := Vals.ref1 r1
  obtain ⟨its, rv, pl, hz⟩ := I.list hq
  have ia : IntsAre its ns := ints_are rv
  obtain ⟨d, rfl, rd⟩ := Vals.one r2
  have hd := dep_ints ns
  refine PySem.W.min_list_default hr pl.isList (ia.reads _) ?_ (by rw [hd]; omega) (fun e h' tk hk => ?_) (fun y ys i v h' tk bs e hv hrd hk => ?_)
  · exact alike_ints ns
  · have : ns = [] := by simpa using e
    subst this
    exact ⟨z, H, I.kept (t' := tk) hk, rd, q⟩
  · cases ns with
    | nil => cases e
    | cons n ns =>
      simp only [List.map_cons, List.cons.injEq] at e
      obtain ⟨rfl, rfl⟩ := e
      rw [PySem.W.minD_ints] at hrd
      obtain ⟨t, rfl⟩ := reads_int hrd
      exact ⟨.int _, H, I.kept (t' := tk) hk, ⟨t, rfl⟩, q⟩
theorem cr_maxD (hr : X.A.handled = none) (hu : X.A.units + 200 < cLine) : CallRK X (.builtin "max") ["default"] (rMinD max X.K) := by
  intro pins s σ H xs zs us ws Q I r1 r2 h
  obtain ⟨a, ns, z, rfl, rfl, hq, q⟩ := h
  obtain rfl := Vals.ref1 r1
  obtain ⟨its, rv, pl, hz⟩ := I.list hq
  have ia : IntsAre its ns := ints_are rv
  obtain ⟨d, rfl, rd⟩ := Vals.one r2
  have hd := dep_ints ns
  refine PySem.W.max_list_default hr pl.isList (ia.reads _) ?_ (by rw [hd]; omega) (fun e h' tk hk => ?_) (fun y ys i v h' tk bs e hv hrd hk => ?_)
  · exact alike_ints ns
  · have : ns = [] := by simpa using e
    subst this
    exact ⟨z, H, I.kept (t' := tk) hk, rd, q⟩
  · cases ns with
    | nil => cases e
    | cons n ns =>
      simp only [List.map_cons, List.cons.injEq] at e
      obtain ⟨rfl, rfl⟩ := e
      rw [PySem.W.maxD_ints] at hrd
      obtain ⟨t, rfl⟩ := reads_int hrd
      exact ⟨.int _, H, I.kept (t' := tk) hk, ⟨t, rfl⟩, q⟩
end
def mMnD (f : Int → Int → Int) (ma md : ME) : ME := fun F C => bnd (ma F C) fun x C1 => bnd (md F C1) fun z C2 => match (vL x C2).bind dInts with
  | some [] => .ok z C2
  | some (y :: ys) => .ok (.int (ys.foldl f y)) C2
  | none => .stuck
section
variable {X : Cx} {k : Cn} {W : WX} {σ : L2.St} {H : Hp} {Q : VK} {ma md : ME} {f : Int → Int → Int} {e d : Expr} {p pos kpos : Pos} {x : Str} {id : String}
theorem le_mnD (h : LE k W (mMnD f ma md) σ H Q) : tCKw (rMinD f k.K) (tCons (LE k W ma) tNil) (tCons (LE k W md) tNil) σ H Q := by
  obtain ⟨A, F, C, s, h⟩ := h
  refine ⟨A, F, C, s, (Aft.bnd (rel := RepD k) h).mono fun dx C1 A1 H1 v p1 st1 r1 h1 => ?_⟩
  have s1 := s.step p1 st1
  refine ⟨A1, F, C1, s1, (Aft.bnd (rel := RepD k) h1).mono fun dz C2 A2 H2 z p2 st2 r2 h2 => ?_⟩
  have r1' := p2.rep _ _ r1
  split at h2
  · rename_i ei
    obtain ⟨l, e1, e2⟩ := Option.bind_eq_some_iff.mp ei
    obtain ⟨q, vs, rfl, hq, rv⟩ := vL_at st2 r1' e1
    rw [dInts_eq e2] at rv
    have := RepL.ints_inv rv
    subst this
    exact ⟨q, [], z, rfl, rfl, .inl (.inl hq), h2 A2 H2 _ Stp.refl st2 r2⟩
  · rename_i y ys ei
    obtain ⟨l, e1, e2⟩ := Option.bind_eq_some_iff.mp ei
    obtain ⟨q, vs, rfl, hq, rv⟩ := vL_at st2 r1' e1
    rw [dInts_eq e2] at rv
    have := RepL.ints_inv rv
    subst this
    exact ⟨q, y :: ys, z, rfl, rfl, .inl (.inl hq), h2 A2 H2 _ Stp.refl st2 (.int _)⟩
  · exact h2.elim
theorem de_mnD (hK : X.K = k.K) (hc : CallRK X (.builtin id) [("default" : Str)] (rMinD f X.K)) (hg : Gl X x) (hm : X.mg x = none) (hv : bootBuiltins x = some (.builtin id)) (he : PE X e (LE k W ma)) (hd : PE X d (LE k W md)) (hn : x ≠ "__name__" := by decide) (hdb : (x == ("__debug__" : Str)) = false := by decide)
    (hs : starEach [e] X.env = (false, eval e X.env) :: starEach [] X.env := by rfl)
    (h1 : backTo pos (starEach [e] X.env) = (false, eval e X.env) :: backTo pos (starEach [] X.env) := by rfl) (hpl : (backTo pos (starEach [e] X.env)).any (·.1) = false := by rfl)
    (hall : (backToKw pos (keywordEach [⟨some "default", d, kpos⟩] X.env)).all (·.1.isSome) = true := by rfl) (hnone : (backToKw pos (keywordEach [⟨some "default", d, kpos⟩] X.env)).any (·.1.isNone) = false := by rfl) (hks : (backToKw pos (keywordEach [⟨some "default", d, kpos⟩] X.env)).filterMap (·.1) = [("default" : Str)] := by rfl) :
    PE X (.Call (.Name x p) [e] [⟨some "default", d, kpos⟩] pos) (LE k W (mMnD f ma md)) :=
  (pe_callBK hc hg hm hv (pa_cons he pa_nil hs) (pk_cons hd pk_nil) hn hdb h1 hpl hall hnone hks).cq fun _ _ _ h => by rw [hK]; exact le_mnD h
end
end CT
set_option maxHeartbeats 4000000
/-! DM7: x + k, k + x, x - k, k - x, -x for an own x and an int k. -/
namespace CT
open PySem L2 PySem.Spec PyProof.Rows PySem.W
end CT
set_option maxHeartbeats 4000000
/-! DM8: list(range(a, b, 2)); sorted(set(xs)), len(set(xs)) of up to 4,000 ints. -/
namespace CT
open PySem L2 PySem.Spec PyProof.Rows
def rn2 (a b : Int) : Nat := ((b - a + 1) / 2).toNat
def rgI2 (a b : Int) : List Int := (List.range (rn2 a b)).map fun i => a + (i : Nat) * 2
theorem rangeSize_two (a b : Int) : Builtin.Range.rangeSize a b 2 = (rn2 a b : Int) := by
  unfold Builtin.Range.rangeSize rn2
  simp only [show (2 : Int) > 0 by decide, if_true]
  split <;> omega
theorem small_two {a b : Int} (ha : -(2 ^ 61) ≤ a) (ha' : a < 2 ^ 61) (hb : -(2 ^ 61) ≤ b) (hb' : b < 2 ^ 61) : Builtin.Range.small a b 2 = true := by
  unfold Builtin.Range.small
  rw [rangeSize_two]
  unfold rn2
  simp only [Builtin.Range.rangeFitsLong, Bool.and_eq_true, Bool.or_eq_true, decide_eq_true_eq, beq_iff_eq, show (2 : Int) > 0 by decide, if_true]
  omega
def rgOk2 (a b : Int) : Bool := decide (-(2 ^ 61) ≤ a) && decide (a < 2 ^ 61) && decide (-(2 ^ 61) ≤ b) && decide (b < 2 ^ 61) && decide (rn2 a b ≤ 2 ^ 24)
def mLRng3 (own : Bool) (m m2 m3 : ME) : ME := fun F C => bnd (m F C) fun x C1 => bnd (m2 F C1) fun y C2 => bnd (m3 F C2) fun z C3 => match x, y, z with
  | .int a, .int b, .int 2 => if rgOk2 a b = true then .ok (mkL own ((rgI2 a b).map .int) C3).1 (mkL own ((rgI2 a b).map .int) C3).2 else .stuck
  | _, _, _ => .stuck
theorem vals_rg2 {a : Int} {n : Nat} {acc : Array Value} (h : ItemsOf (fun i v => ∃ t, v = .int (a + i * 2) t) acc n) : Vals (((List.range n).map fun i => a + (i : Nat) * 2).map V.int) acc.toList := by
  have e : acc.toList.length = n := by rw [Array.length_toList]; exact h.1
  rw [List.map_map, ← e]
  refine vals_of_get acc.toList _ fun j u hj => ?_
  obtain ⟨t, rfl⟩ := h.2 j u (by rw [← hj, Array.getElem?_toList])
  exact ⟨t, rfl⟩
section
variable {X : Cx} {k : Cn} {W : WX} {σ : L2.St} {H : Hp} {Q : VK} {e a b c : Expr} {p pos p' pos' : Pos} {m m2 m3 : ME}
theorem le_lrng3 {own : Bool} (h : LE k W (mLRng3 own m m2 m3) σ H Q) : tCons (LE k W m) (tCons (LE k W m2) (tCons (LE k W m3) tNil)) σ H fun vs H1 => ∃ i j : Int, vs = [.int i, .int j, .int 2] ∧ rgOk2 i j = true ∧ ∀ q, H1 q = none → Q (.ref q) (upd H1 q (.lst ((rgI2 i j).map V.int))) := by
  obtain ⟨A, F, C, s, h⟩ := h
  refine ⟨A, F, C, s, (Aft.bnd (rel := RepD k) h).mono fun dx C1 A1 H1 x p1 st1 rx h1 => ?_⟩
  have s1 := s.step p1 st1
  refine ⟨A1, F, C1, s1, (Aft.bnd (rel := RepD k) h1).mono fun dy C2 A2 H2 y p2 st2 ry h2 => ?_⟩
  have s2 := s1.step p2 st2
  refine ⟨A2, F, C2, s2, (Aft.bnd (rel := RepD k) h2).mono fun dz C3 A3 H3 z p3 st3 rz h3 => ?_⟩
  split at h3
  · split at h3
    · rename_i ho
      cases rx
      cases ry
      cases rz
      refine ⟨_, _, rfl, ho, fun q hq => ?_⟩
      obtain ⟨A4, w1, w2, w3⟩ := fresh_L (own := own) (s2.step p3 st3).fl st3 (RepL.ints (k := k) (A := A3) (C := C3) (H := H3)) hq
      exact h3 A4 _ _ w1 w2 w3
    · exact h3.elim
  · exact h3.elim
theorem de_lrng3 (own : Bool) (hc : X.calm = true) (hg : Gl X "list") (hm : X.mg "list" = none) (hg' : Gl X "range") (hm' : X.mg "range" = none) (ha : PE X a (LE k W m)) (hb : PE X b (LE k W m2)) (hcc : PE X c (LE k W m3))
    (n1 : starEach [a, b, c] X.env = (false, eval a X.env) :: starEach [b, c] X.env := by rfl) (n2 : starEach [b, c] X.env = (false, eval b X.env) :: starEach [c] X.env := by rfl) (n3 : starEach [c] X.env = (false, eval c X.env) :: starEach [] X.env := by rfl)
    (hpl : (backTo pos' (starEach [b, c] X.env)).any (·.1) = false := by rfl)
    (na : starEach [.Call (.Name "range" p') [a, b, c] [] pos'] X.env = (false, eval (.Call (.Name "range" p') [a, b, c] [] pos') X.env) :: starEach [] X.env := by rfl) : PE X (.Call (.Name "list" p) [.Call (.Name "range" p') [a, b, c] [] pos'] [] pos) (LE k W (mLRng3 own m m2 m3)) := by
  refine ⟨fun pins s σ H Q I h => ?_⟩
  have h' := le_lrng3 h
  refine Call_ (ld_blt I hg hm boot_list (PyProof.Rows.callWith_type1 (args_cons ?_ na) na))
  refine thn (Q := fun x s' => ∃ (r : Addr) (i j : Int) (t u v : Tok) (H1 : Hp), x = .ref r ∧ IsRange s'.heap r i j 2 t u v ∧ Inv X pins σ H1 s' ∧ rgOk2 i j = true ∧ ∀ q, H1 q = none → Q (.ref q) (upd H1 q (.lst ((rgI2 i j).map V.int)))) ?_ fun x s1 ⟨r, i, j, t, u, v, H1, ex, hr, I1, ok, q⟩ => args_nil ?_
  · refine Call_ (ld_blt I hg' hm' boot_range (PyProof.Rows.callWith_type1 (thn ((pa_cons ha (pa_cons hb (pa_cons hcc pa_nil n3) n2) n1).run pos' pins s σ H _ I h') fun us s1 ⟨vs, H1, I1, r1, i, j, ev, ok, q⟩ => ?_) n1 hpl))
    subst ev
    cases r1 with
    | cons r rr =>
      cases rr with
      | cons r' rr =>
        cases rr with
        | cons r'' rr =>
          cases rr
          obtain ⟨t, rfl⟩ := r
          obtain ⟨t', rfl⟩ := r'
          obtain ⟨t'', rfl⟩ := r''
          refine call_range_3 (by decide) ?_ (.inl (PyProof.noPylong_small (by decide)))
          exact ⟨_, i, j, _, _, _, H1, rfl, IsRange.new .., I1.kept (t' := s1.toks) fun b o e => Heap.get?_push_of_some _ e, ok, q⟩
  · subst ex
    simp only [rgOk2, Bool.and_eq_true, decide_eq_true_eq] at ok
    obtain ⟨⟨⟨⟨b1, b2⟩, b3⟩, b4⟩, b5⟩ := ok
    refine call_list_range (n := rn2 i j) (I1.ok.hd hc) hr (small_two b1 b2 b3 b4) (rangeSize_two i j) b5 fun h' tk acc c' hk e' hi => ?_
    refine ⟨.ref s1.heap.objs.size, upd H1 s1.heap.objs.size (.lst ((rgI2 i j).map V.int)), I1.laid hk (Nat.le_refl _) (show ObjOk X.prog X.w _ _ _ (.lst ((rgI2 i j).map V.int)) from ⟨?_, acc.toList, c', vals_rg2 hi, ?_⟩), rfl, q _ (I1.hok.fresh (Nat.le_refl _))⟩
    · rw [List.length_map]
      unfold rgI2
      rw [List.length_map, List.length_range, sizeLine_eq]
      omega
    · rw [Array.toArray_toList]; exact e'
end
/-! ### sets of more ints -/
theorem each_ints {h : Heap} {a : Addr} : ∀ {us : List Value} {ns : List Int}, IntsAre us ns → PySem.W.EachIs (fun v (n : Int) => ∃ as, Reads h v (.int n) as ∧ a ∉ as) us ns
  | _, _, .nil => .nil
  | _, _, .cons k tk t => .cons ⟨[], .int _ _, by simp⟩ (each_ints t)
theorem each_int {us : List Value} {ns : List Int} (h : IntsAre us ns) : PySem.W.EachIs (fun v (n : Int) => ∃ t, v = .int n t) us ns := by
  induction h with
  | nil => exact .nil
  | cons k tk t ih => exact .cons ⟨tk, rfl⟩ ih
theorem ints_each : ∀ {us : List Value} {ns : List Int}, PySem.W.EachIs (fun v (n : Int) => ∃ t, v = .int n t) us ns → IntsAre us ns
  | _, _, .nil => .nil
  | _, _, .cons h t => by obtain ⟨tk, rfl⟩ := h; exact .cons _ tk (ints_each t)
section
variable {P : Program} {w : World} {A : Around} {E : Value → Shared → Prop} {s : Shared} {a : Addr}
theorem sort_setB {S : Int → Bool} {n : Nat} {Q : Value → Shared → Prop} (R : SetR w s.heap a S n) (hh : A.handled = none) (hu : A.units + 200 < cLine)
    (hQ : ∀ s' p (out : Array Value) (c : Nat) (ns : List Int), (∀ b o, s.heap.get? b = some o → s'.heap.get? b = some o) → s'.gens = s.gens → s'.os = s.os → s.heap.objs.size ≤ p →
      s'.heap.get? p = some (seqObj "list" out c) → IntsAre out.toList ns → ns.Pairwise (· < ·) → (∀ k, k ∈ ns ↔ S k = true) → ns.length = n → Q (.ref p) s') :
    wpAny (model P w) A (call (.builtin "sorted") [.ref a]) Q E s := by
  obtain ⟨o, es, ep, t, ho, hex, hd, g, nd, hm, hb, hf, hn, hr, hl⟩ := R
  refine Calls.call_function_entry kind_sorted plain_sorted entry_sorted (args_sorted1 _) ?_
  unfold Builtin.«sorted»
  refine wpAny_bind (m := checkCount "sorted" 1 1 _) (wpAny_pure ?_)
  refine wpAny_bind (collect_set (A := A.in1) hh ⟨o, ho, hex.1, hd⟩ hf hb hr hl fun s1 vs k1 hz g1 o1 pm => ?_)
  have hvl : vs.length = n := by rw [pm.length_eq, List.length_map, Array.length_toList]; exact hn
  have hI : IntsAre vs (vs.map Builtin.Re.reRawOf) := ints_of vs fun v hv => by
    obtain ⟨e, he, q⟩ := List.mem_map.mp (pm.mem_iff.mp hv)
    obtain ⟨k, tk, h1, _⟩ := g e he
    exact ⟨k, tk, by rw [← q]; exact h1⟩
  have pk : (vs.map Builtin.Re.reRawOf).Perm (es.toList.map keyOf) := by
    have q := pm.map Builtin.Re.reRawOf
    rw [List.map_map] at q
    exact q
  have hnb : n < 4096 := by rw [← hn]; exact hb
  refine wpAny_bind (wpAny_newList ?_ (by rw [hvl, sizeLine_eq]; omega))
  have hoL : (s1.heap.push (seqObj "list" vs.toArray 0)).get? s1.heap.objs.size = some (seqObj "list" vs.toArray 0) := Heap.get?_push_size _ rfl
  have hI2 := hI
  generalize vs.map Builtin.Re.reRawOf = ks at hI hI2 pk
  have hkl : ks.length = n := by rw [← hI.length]; exact hvl
  refine wpAny_bind (wpAny_holding (PySem.W.list_sort_data (s := { s1 with heap := s1.heap.push (seqObj "list" vs.toArray 0) }) (R := fun v (k : Int) => ∃ t, v = .int k t) (enc := fun k : Int => .int k) (bs := ks) hoL (each_int hI) (each_ints hI2) ?_ ?_ (by rw [hkl, sizeLine_eq]; omega) (fun b hb => ?_) fun out hout eo => ?_))
  · intro x hx y hy
    obtain ⟨_, _, rfl⟩ := List.mem_map.mp hx
    obtain ⟨_, _, rfl⟩ := List.mem_map.mp hy
    rfl
  · refine .inr fun x hx => ?_
    obtain ⟨_, _, rfl⟩ := List.mem_map.mp hx
    exact ⟨by simp, by simp⟩
  · show A.units + 1 + 1 + 0 < _
    omega
  · obtain ⟨c, hc⟩ := sortedHeap_at (vs := vs) (out := out.toArray) hoL
    have es2 := ints_each eo
    rw [PySem.W.dataLe_int (fun k : Int => k)] at es2
    have pp := List.mergeSort_perm ks fun a b => decide (a ≤ b)
    have up : (ks.mergeSort fun a b => decide (a ≤ b)).Pairwise (· ≤ ·) := (List.pairwise_mergeSort (le := fun a b : Int => decide (a ≤ b)) (fun a b c h1 h2 => by simp only [decide_eq_true_eq] at *; omega) (fun a b => by simp only [Bool.or_eq_true, decide_eq_true_eq]; omega) ks).imp fun h => of_decide_eq_true h
    generalize (ks.mergeSort fun a b => decide (a ≤ b)) = ns' at es2 pp up
    have pn : ns'.Perm (es.toList.map keyOf) := pp.trans pk
    refine wpAny_pure ⟨_, rfl, hQ _ s1.heap.objs.size out.toArray c ns' (fun b u e => ?_) g1 o1 hz hc es2 (lt_of_le_nodup ns' up (pn.nodup_iff.mpr nd)) (fun k => by rw [pn.mem_iff, ← hm k]) ?_⟩
    · have q := k1 b u e
      have hlt := Heap.lt_size q
      show (sortedHeap (s1.heap.push (seqObj "list" vs.toArray 0)) s1.heap.objs.size vs out.toArray).get? b = some u
      rw [sortedHeap_old (Nat.ne_of_lt hlt) (by rw [size_push']; exact Nat.lt_succ_of_lt hlt)]
      exact Heap.get?_push_of_some _ q
    · rw [pn.length_eq, List.length_map, Array.length_toList]; exact hn
end
end CT
set_option maxHeartbeats 4000000
/-! DM9: xs[i], ys[j] = e, f. -/
namespace CT
open PySem L2 PySem.Spec PyProof.Rows
end CT
set_option maxHeartbeats 4000000
/-! DM10: a def that hands back an own list, as an equation. -/
namespace CT
open PySem L2
def finOS (n : Nat) (r : RS) : R D := match r with
  | .rt d C' => finO n d C'
  | .xc e _ C' => if cbL n e.fs = true then .exc e (C'.take n) else .stuck
  | _ => .stuck
theorem mDefO_e {np ns : Nat} {b : MS} {ds : List D} {C : Store} {sl : List (Option D)} (h : ds.length = np) (hs : ds.map some ++ List.replicate (ns - np) none = sl) : mDefO np ns b ds C = finOS C.length (b ⟨C.length, sl⟩ C) := by
  subst hs
  unfold mDefO
  rw [if_pos h]
  rfl
end CT
set_option maxHeartbeats 4000000
/-! DM11: {x for u in a if .. for x in b if ..} of ints, two clauses; its members in a list beside the heap. -/
namespace CT
open PySem L2 PySem.Spec PyProof.Rows
/-- the set at D holds the ints of acc -/
def SetI (w : World) (h : Heap) (D : Addr) (acc : List Int) : Prop := ∃ c, c ≤ acc.length ∧ SetR w h D (fun j => decide (j ∈ acc)) c
theorem SetI.at {w : World} {h h' : Heap} {D : Addr} {acc : List Int} (R : SetI w h D acc) (k : ∀ o, h.get? D = some o → h'.get? D = some o) : SetI w h' D acc := by
  obtain ⟨c, hc, R⟩ := R
  exact ⟨c, hc, R.at k⟩
theorem SetI.obj {w : World} {h : Heap} {D : Addr} {acc : List Int} (R : SetI w h D acc) : ∃ o, h.get? D = some o ∧ ∀ v, o.data ≠ .cell v := by
  obtain ⟨c, hc, o, es, ep, t, ho, hx, hd, _⟩ := R
  exact ⟨o, ho, fun v z => by rw [hd] at z; cases z⟩
section
variable {prog : Program} {w : World} {A : Around} {R : Result → Shared → Prop} {s : Shared} {elt t0 i0 t1 i1 : Expr} {ifs0 ifs1 : List Expr} {scope : Scope} {pos : Pos} {it acc : Value} {env : Env}
theorem sc2_first : compTurn (.SetComp elt [⟨t0, i0, ifs0, 0⟩, ⟨t1, i1, ifs1, 0⟩] scope pos) 0 it acc env = (do
      standAt i0.pos
      match ← pyNext it with
      | none => pure (.done .next)
      | some v =>
        letOwnedTupleGo t0 it v
        assign t0 env v
        let mut ok := true
        for c in ifs0 do
          if ok then ok ← isTrue c env (eval c env)
        if ok then
          let x ← eval i1 env
          standAt i1.pos
          let x ← foldedSetIterable i1 env x
          let _ ← runOwn (.compStart (.SetComp elt [⟨t0, i0, ifs0, 0⟩, ⟨t1, i1, ifs1, 0⟩] scope pos) 1 (← holding [x] (pyIter x)) acc env) env
        again (.compLoop (.SetComp elt [⟨t0, i0, ifs0, 0⟩, ⟨t1, i1, ifs1, 0⟩] scope pos) 0 it acc env)) := by rfl
theorem sc2_second : compTurn (.SetComp elt [⟨t0, i0, ifs0, 0⟩, ⟨t1, i1, ifs1, 0⟩] scope pos) 1 it acc env = (do
      standAt i1.pos
      match ← pyNext it with
      | none => pure (.done .next)
      | some v =>
        letOwnedTupleGo t1 it v
        assign t1 env v
        let mut ok := true
        for c in ifs1 do
          if ok then ok ← isTrue c env (eval c env)
        if ok then
          (do let v ← eval elt env; standAt elt.pos; let _ ← call (.builtin "set.add") [acc, v])
        again (.compLoop (.SetComp elt [⟨t0, i0, ifs0, 0⟩, ⟨t1, i1, ifs1, 0⟩] scope pos) 1 it acc env)) := by rfl
theorem sc2_loop0 (hs : ∀ x, foldedSetIterable i1 env x = pure x) (I : Nat → Shared → Prop)
    (turn : ∀ n s, I n s → wpAny (model prog w) A (pyNext it) (fun r s₁ => match r with
      | none => R (.ok .next) s₁
      | some v => wpAny (model prog w) A (letOwnedTupleGo t0 it v) (fun _ sa => wpAny (model prog w) A (assign t0 env v) (fun _ s₂ =>
          wpAny (model prog w) A (forIn ifs0 true fun c r => if r = true then do let ok ← isTrue c env (eval c env); pure (ForInStep.yield ok) else pure (ForInStep.yield r)) (fun ok s₃ =>
            if ok = true then wpAny (model prog w) A (eval i1 env) (fun x s₄ => wpAny (model prog w) A (pyIter x) (fun it1 s₅ =>
              codeAny (model prog w) A (.compStart (.SetComp elt [⟨t0, i0, ifs0, 0⟩, ⟨t1, i1, ifs1, 0⟩] scope pos) 1 it1 acc env) (fun r s' => match r with
                | .ok _ => ∃ m, m < n ∧ I m s'
                | .error _ => False) s₅) (notedBy (model prog w) A env fun e s' => R (.error e) s') s₄) (notedBy (model prog w) A env fun e s' => R (.error e) s') s₃
            else ∃ m, m < n ∧ I m s₃) (notedBy (model prog w) A env fun e s' => R (.error e) s') s₂) (notedBy (model prog w) A env fun e s' => R (.error e) s') sa) (notedBy (model prog w) A env fun e s' => R (.error e) s') s₁) (notedBy (model prog w) A env fun e s' => R (.error e) s') s)
    (n : Nat) (h : I n s) :
    codeAny (model prog w) A (.compLoop (.SetComp elt [⟨t0, i0, ifs0, 0⟩, ⟨t1, i1, ifs1, 0⟩] scope pos) 0 it acc env) R s := by
  refine codeAny_loop rfl I (fun n s hI => ?_) n h
  show wpAny _ A ((compTurn (.SetComp elt [⟨t0, i0, ifs0, 0⟩, ⟨t1, i1, ifs1, 0⟩] scope pos) 0 it acc env).onRaise (fun x => do noteFrame x env; theTreesLotGoes x)) _ _ s
  refine wpAny_noted ?_
  rw [sc2_first]
  refine wpAny_bind (wpAny_standAt (wpAny_bind (wpAny_mono (turn n s hI) (fun r sb hb => ?_) fun _ _ z => z)))
  cases r with
  | none => exact wpAny_pure hb
  | some v =>
    refine wpAny_bind (wpAny_mono hb (fun _ sc hc => ?_) fun _ _ z => z)
    refine wpAny_bind (wpAny_mono hc (fun _ sd hd => wpAny_bind (wpAny_mono hd (fun ok se he => ?_) fun _ _ z => z)) fun _ _ z => z)
    cases ok with
    | false => exact wpAny_pure ⟨rfl, he⟩
    | true =>
      refine wpAny_bind (wpAny_mono he (fun x sf hf => ?_) fun _ _ z => z)
      refine wpAny_bind (wpAny_standAt (wpAny_bind (wpAny_of_eq (hs x) (wpAny_bind (wpAny_holding (wpAny_mono hf (fun it1 sg hg => ?_) fun _ _ z => z))))))
      refine wpAny_bind (wpAny_runOwn ?_)
      rw [Around.mark_none]
      refine codeAny_mono hg fun r sh hr => ?_
      cases r with
      | ok f =>
        first
          | exact wpAny_pure ⟨rfl, hr⟩
          | exact wpAny_bind (wpAny_pure (wpAny_pure ⟨rfl, hr⟩))
      | error e => exact hr.elim
theorem sc2_loop1 (I : Nat → Shared → Prop)
    (turn : ∀ n s, I n s → wpAny (model prog w) A (pyNext it) (fun r s₁ => match r with
      | none => R (.ok .next) s₁
      | some v => wpAny (model prog w) A (letOwnedTupleGo t1 it v) (fun _ sa => wpAny (model prog w) A (assign t1 env v) (fun _ s₂ =>
          wpAny (model prog w) A (forIn ifs1 true fun c r => if r = true then do let ok ← isTrue c env (eval c env); pure (ForInStep.yield ok) else pure (ForInStep.yield r)) (fun ok s₃ =>
            if ok = true then wpAny (model prog w) A (eval elt env) (fun x s₄ =>
              wpAny (model prog w) A (call (.builtin "set.add") [acc, x]) (fun _ s₅ => ∃ m, m < n ∧ I m s₅) (notedBy (model prog w) A env fun e s' => R (.error e) s') s₄) (notedBy (model prog w) A env fun e s' => R (.error e) s') s₃
            else ∃ m, m < n ∧ I m s₃) (notedBy (model prog w) A env fun e s' => R (.error e) s') s₂) (notedBy (model prog w) A env fun e s' => R (.error e) s') sa) (notedBy (model prog w) A env fun e s' => R (.error e) s') s₁) (notedBy (model prog w) A env fun e s' => R (.error e) s') s)
    (n : Nat) (h : I n s) :
    codeAny (model prog w) A (.compLoop (.SetComp elt [⟨t0, i0, ifs0, 0⟩, ⟨t1, i1, ifs1, 0⟩] scope pos) 1 it acc env) R s := by
  refine codeAny_loop rfl I (fun n s hI => ?_) n h
  show wpAny _ A ((compTurn (.SetComp elt [⟨t0, i0, ifs0, 0⟩, ⟨t1, i1, ifs1, 0⟩] scope pos) 1 it acc env).onRaise (fun x => do noteFrame x env; theTreesLotGoes x)) _ _ s
  refine wpAny_noted ?_
  rw [sc2_second]
  refine wpAny_bind (wpAny_standAt (wpAny_bind (wpAny_mono (turn n s hI) (fun r sb hb => ?_) fun _ _ z => z)))
  cases r with
  | none => exact wpAny_pure hb
  | some v =>
    refine wpAny_bind (wpAny_mono hb (fun _ sc hc => ?_) fun _ _ z => z)
    refine wpAny_bind (wpAny_mono hc (fun _ sd hd => wpAny_bind (wpAny_mono hd (fun ok se he => ?_) fun _ _ z => z)) fun _ _ z => z)
    cases ok with
    | false => exact wpAny_pure ⟨rfl, he⟩
    | true =>
      exact wpAny_bind (wpAny_bind (wpAny_mono he (fun x sf hf => wpAny_bind (wpAny_standAt (wpAny_bind (wpAny_mono hf (fun _ sg hg => wpAny_pure (wpAny_pure ⟨rfl, hg⟩)) fun _ _ z => z)))) fun _ _ z => z))
theorem sc2_start1 (h0 : codeAny (model prog w) A (.compLoop (.SetComp elt [⟨t0, i0, ifs0, 0⟩, ⟨t1, i1, ifs1, 0⟩] scope pos) 1 it acc env) R s)
    (h : wpAny (model prog w) A (pyIter it) (fun ia s' => codeAny (model prog w) A (.compLoop (.SetComp elt [⟨t0, i0, ifs0, 0⟩, ⟨t1, i1, ifs1, 0⟩] scope pos) 1 ia acc env) R s')
      (notedBy (model prog w) A env fun x s' => R (.error x) s') s) :
    codeAny (model prog w) A (.compStart (.SetComp elt [⟨t0, i0, ifs0, 0⟩, ⟨t1, i1, ifs1, 0⟩] scope pos) 1 it acc env) R s := by
  refine codeAny_of_tree ?_
  show wpAny _ _ ((compStart (.SetComp elt [⟨t0, i0, ifs0, 0⟩, ⟨t1, i1, ifs1, 0⟩] scope pos) 1 it acc env).onRaise (fun x => do noteFrame x env; standAt theWindowsPlace)) _ _ s
  refine wpAny_notedAt ?_
  unfold compStart
  show wpAny _ _ (ask >>= _) _ _ s
  refine wpAny_bind (wpAny_askSetting (wpAny_ite ?_))
  split
  · first
      | exact wpAny_bind (wpAny_pure (wpAny_pure (And.intro rfl h0)))
      | exact wpAny_pure (And.intro rfl h0)
  · first
      | exact wpAny_bind (wpAny_rule (wpAny_bind (wpAny_standAt (wpAny_bind (wpAny_mono h (fun ia sj hj => wpAny_pure (And.intro rfl hj)) fun _ _ z => z)))))
      | (refine wpAny_bind (wpAny_rule ?_); show wpAny _ _ (standAt i1.pos >>= _) _ _ s; exact wpAny_bind (wpAny_standAt (wpAny_bind (wpAny_mono h (fun ia sj hj => wpAny_pure (And.intro rfl hj)) fun _ _ z => z))))
end
/-- the reading: the ints so far go along -/
def tSc2 (wi : TI) (g : TG) (tt : TT) (wi1 : TI) (g1 : TG) (tt1 : TT) (te : TE) (vs vs1 : List Nat) : L2.St → Hp → (List Int → Hp → Prop) → Prop := fun σ H Q => wi σ H fun J H1 => ∃ W : Nat → Nat → List Int → Hp → Prop, (∃ m, W 0 m [] H1) ∧ ∀ i m acc H, W i m acc H →
  (J.stop i H ∧ Q acc H) ∨ (J.go i H ∧ ∃ Nx : List Int → Hp → Prop, (∀ a H', Nx a H' → ∃ m', m' < m ∧ W (i + 1) m' a H') ∧ ∀ x H', J.yld i H x H' → g x (L2.wipe σ vs) H' fun σ2 H2 => L2.wipe σ2 vs = L2.wipe σ vs ∧ tt σ2 H2 fun b H3 =>
    if b = true then wi1 σ2 H3 fun J1 H4 => ∃ W1 : Nat → Nat → List Int → Hp → Prop, (∃ m, W1 0 m acc H4) ∧ ∀ j k a H, W1 j k a H →
      (J1.stop j H ∧ Nx a H) ∨ (J1.go j H ∧ ∃ Nx1 : List Int → Hp → Prop, (∀ a H', Nx1 a H' → ∃ k', k' < k ∧ W1 (j + 1) k' a H') ∧ ∀ x H', J1.yld j H x H' → g1 x (L2.wipe σ2 vs1) H' fun σ3 H5 => L2.wipe σ3 vs1 = L2.wipe σ2 vs1 ∧ tt1 σ3 H5 fun b H6 =>
        if b = true then te σ3 H6 fun y H7 => ∃ n : Int, y = .int n ∧ a.length + 1 < scanBound ∧ Nx1 (a ++ [n]) H7 else Nx1 a H6)
    else Nx acc H3)
section
variable {X : Cx}
theorem sc2_core {pins : List (Addr × Obj)} {s : Shared} {σ : L2.St} {H : Hp} {Q : List Int → Hp → Prop} {elt tg iter tg1 iter1 : Expr} {ifs ifs1 : List Expr} {scope : Scope} {own : List (Str × Nat)} {vs1 : List Nat} {pos pos' : Pos} {wi wi1 : TI} {g g1 : TG} {tt tt1 : TT} {te : TE} {Qf : Value → Shared → Prop}
    (hc : X.calm = true) (hN : X.N.Nodup) (I : Inv X pins σ H s) (hi : PI X tg iter wi) (ok : BlkOk X.N X.env.scope scope own) (hv : ∀ i ∈ vs1, i ∈ own.map (·.2))
    (hg : ∀ (s : Shared) (H : Hp) (C : Addr) (cl : List (Str × Addr)) (fp : List Addr), PG (X.blk s H scope (compEnvC scope cl C X.env) fp) tg g) (ht : ∀ (s : Shared) (H : Hp) (C : Addr) (cl : List (Str × Addr)) (fp : List Addr), PTs (X.blk s H scope (compEnvC scope cl C X.env) fp) ifs tt)
    (he : ∀ (s : Shared) (H : Hp) (C : Addr) (cl : List (Str × Addr)) (fp : List Addr), PE (X.blk s H scope (compEnvC scope cl C X.env) fp) elt te) (hs : ∀ x, foldedSetIterable iter X.env x = pure x)
    (hi1 : ∀ (s : Shared) (H : Hp) (C : Addr) (cl : List (Str × Addr)) (fp : List Addr), PI (X.blk s H scope (compEnvC scope cl C X.env) fp) tg1 iter1 wi1)
    (hg1 : ∀ (s : Shared) (H : Hp) (C : Addr) (cl : List (Str × Addr)) (fp : List Addr), PG (X.blk s H scope (compEnvC scope cl C X.env) fp) tg1 g1)
    (ht1 : ∀ (s : Shared) (H : Hp) (C : Addr) (cl : List (Str × Addr)) (fp : List Addr), PTs (X.blk s H scope (compEnvC scope cl C X.env) fp) ifs1 tt1)
    (hs1 : ∀ env x, foldedSetIterable iter1 env x = pure x)
    (h : tSc2 wi g tt wi1 g1 tt1 te (own.map (·.2)) vs1 σ H Q)
    (hRR : ∀ D C s' m H' acc, Inv X pins σ H' s' → SetI X.w s'.heap D acc → FpOk X pins H' D → D ≠ C → Q acc H' → s'.heap.Ns C m → FpOk X pins H' C → compPost (model X.prog X.w) X.A X.xe none Qf (.ref D) C (.ok .next) s') :
    wpAny (model X.prog X.w) X.A (comprehension (.SetComp elt [⟨tg, iter, ifs, 0⟩, ⟨tg1, iter1, ifs1, 0⟩] scope pos) scope X.env pos' (newSet (.type "set")) false (eval iter X.env) none) Qf X.xe s := by
  have hfr : ∀ y ∈ scope.names, y.2 = .free → ∃ c, X.env.cells.lookup y.1 = some c := fun y hy e => (ok.free y hy e).elim (fun z => I.ok.has _ (.inl z)) fun z => I.ok.has _ (.inr z)
  refine wpAny_comprehension_free (use := none) rfl hs (closure_ok hfr) ok.kind (fun y hy e => by rw [ok.uniq y hy, e])
    (thn (hi.run pins s σ H _ I h) fun xv s1 hx => thn hx fun itv s2 h2 => ?_)
  obtain ⟨ia, fp, tn, J, H2, ei, I2, T, st2, f2, W, ⟨m0, w0⟩, turn⟩ := h2
  subst ei
  refine PpSet.newSet_ok (newEnv_comp ?_)
  generalize hD : s2.heap.objs.size = D
  have hDn : H2 D = none := I2.hok.fresh (Nat.le_of_eq hD)
  generalize hs3 : ({ s2 with heap := s2.heap.push { cls := .type "set", dict := none, data := .set #[] 0 (.fresh 0 0 (!X.w.params.followText "set-order")) } } : Shared) = s3
  have k23 : ∀ b o, s2.heap.get? b = some o → s3.heap.get? b = some o := fun b o e => by rw [← hs3]; exact Heap.get?_push_of_some _ e
  have I3 : Inv X pins σ H2 s3 := by rw [← hs3]; exact I2.kept (t' := s2.toks) fun b o e => Heap.get?_push_of_some _ e
  have S3 : SetI X.w s3.heap D [] := by
    rw [← hs3, ← hD]
    exact ⟨0, Nat.le_refl _, by have z := setR_fresh (h := s2.heap) X.w; simpa using z⟩
  have sz3 : s3.heap.objs.size = D + 1 := by rw [← hs3, ← hD]; exact Heap.size_push ..
  have szf : ∀ b ∈ fp, b < D := fun b hb => by
    obtain ⟨o, e, _⟩ := T.obj _ _ st2 b hb
    rw [← hD]
    exact Heap.lt_size e
  have fD : FpOk X pins H2 D := I2.fpOk (Nat.le_of_eq hD) hDn
  have f3 : ∀ b ∈ D :: fp, FpOk X pins H2 b ∧ b < s3.heap.objs.size := fun b hb => by
    rcases List.mem_cons.mp hb with rfl | hb
    · exact ⟨fD, by rw [sz3]; exact Nat.lt_succ_self _⟩
    · exact ⟨f2 b hb, by rw [sz3]; exact Nat.lt_succ_of_lt (szf b hb)⟩
  have st3 : tn 0 s3.heap := T.keep _ _ _ st2 fun b _ o e => k23 b o e
  have I4 := block_start I3 ok hN f3
  have pg := hg s3 H2 s3.heap.objs.size (cellsFrom (s3.heap.objs.size + 1) scope.names (cloFrom X.env.cells scope.names [])) (D :: fp)
  have pt := ht s3 H2 s3.heap.objs.size (cellsFrom (s3.heap.objs.size + 1) scope.names (cloFrom X.env.cells scope.names [])) (D :: fp)
  have pe := he s3 H2 s3.heap.objs.size (cellsFrom (s3.heap.objs.size + 1) scope.names (cloFrom X.env.cells scope.names [])) (D :: fp)
  have pi1 := hi1 s3 H2 s3.heap.objs.size (cellsFrom (s3.heap.objs.size + 1) scope.names (cloFrom X.env.cells scope.names [])) (D :: fp)
  have pg1 := hg1 s3 H2 s3.heap.objs.size (cellsFrom (s3.heap.objs.size + 1) scope.names (cloFrom X.env.cells scope.names [])) (D :: fp)
  have pt1 := ht1 s3 H2 s3.heap.objs.size (cellsFrom (s3.heap.objs.size + 1) scope.names (cloFrom X.env.cells scope.names [])) (D :: fp)
  show codeAny _ _ (.compStart (.SetComp elt [⟨tg, iter, ifs, 0⟩, ⟨tg1, iter1, ifs1, 0⟩] scope pos) 0 (.ref ia) (.ref D) (compEnvC scope (cellsFrom (s3.heap.objs.size + 1) scope.names (cloFrom X.env.cells scope.names [])) s3.heap.objs.size X.env)) (compPost (model X.prog X.w) X.A X.xe none Qf (.ref D) s3.heap.objs.size) { s3 with heap := pushCells (s3.heap.push { cls := .type "dict", data := .dict #[] }) scope.names }
  generalize hce : compEnvC scope (cellsFrom (s3.heap.objs.size + 1) scope.names (cloFrom X.env.cells scope.names [])) s3.heap.objs.size X.env = ce at I4 pg pt pe pi1 pg1 pt1 ⊢
  have cL : ce.locals = s3.heap.objs.size := by subst hce; rfl
  generalize hs4 : ({ s3 with heap := pushCells (s3.heap.push { cls := .type "dict", data := .dict #[] }) scope.names } : Shared) = s4 at I4 ⊢
  have k34 : ∀ b o, s3.heap.get? b = some o → s4.heap.get? b = some o := fun b o e => by rw [← hs4]; exact pushCells_keeps _ _ _ _ (Heap.get?_push_of_some _ e)
  have st4 : tn 0 s4.heap := T.keep _ _ _ st3 fun b _ o e => k34 b o e
  have S4 : SetI X.w s4.heap D [] := S3.at fun o e => k34 D o e
  generalize hXB : X.blk s3 H2 scope ce (D :: fp) = XB at I4 pg pt pe pi1 pg1 pt1
  have eP : XB.prog = X.prog := by rw [← hXB]
  have eW : XB.w = X.w := by rw [← hXB]
  have eK : XB.K = X.K := by rw [← hXB]
  have eA : XB.A = X.A := by rw [← hXB]
  have eC : XB.calm = true := by rw [← hXB]; exact hc
  have eE : XB.env = ce := by rw [← hXB]
  have eN : XB.pn = [] := by rw [← hXB]
  have eX : XB.ex = D :: fp := by rw [← hXB]
  have eV : XB.xe = fun _ _ => False := by rw [← hXB]
  -- what holds of an address of the block's own
  have stat : ∀ {q : List (Addr × Obj)} {σ' : L2.St} {H' : Hp} {s' : Shared}, Inv XB q σ' H' s' → (∀ p ∈ q, p.1 ∉ D :: fp) → (∀ b ∈ D :: fp, H' b = none) → ∀ b ∈ D :: fp, FpOk XB q H' b := fun {q σ' H' s'} I' hq hn b hb =>
    ⟨hn b hb, (I'.ok.exf b (by rw [eX]; exact hb)).1, I'.ok.exfs b (by rw [eX]; exact hb), .inl (by rw [eX]; exact hb), fun x c e => (I'.ok.exf b (by rw [eX]; exact hb)).2 x c e, fun p hp => by
      rw [eN, List.nil_append] at hp
      exact fun e => hq p hp (by rw [e]; exact hb)⟩
  have Dfp : D ∉ fp := fun z => absurd (szf D z) (Nat.lt_irrefl _)
  have keepD : ∀ {h1 h2 : Heap} {acc : List Int} {q : List (Addr × Obj)} {σ' : L2.St} {H' : Hp} {s' : Shared}, SetI X.w h1 D acc → (∀ o, h1.get? D = some o → (D, o) ∈ q) → Inv XB q σ' H' s' → SetI X.w s'.heap D acc ∧ H' D = none := fun {h1 h2 acc q σ' H' s'} R hq I' => by
    obtain ⟨o, eo, _⟩ := R.obj
    have z := I'.pin (D, o) (List.mem_append_right _ (hq o eo))
    exact ⟨R.at fun o' e' => by rw [eo] at e'; cases e'; exact z.1, z.2.1⟩
  have loop : codeAny (model X.prog X.w) X.A (.compLoop (.SetComp elt [⟨tg, iter, ifs, 0⟩, ⟨tg1, iter1, ifs1, 0⟩] scope pos) 0 (.ref ia) (.ref D) ce) (compPost (model X.prog X.w) X.A X.xe none Qf (.ref D) s3.heap.objs.size) s4 := by
    refine sc2_loop0 (hs1 ce) (fun n s' => ∃ i H' acc, Inv XB [] (L2.wipe σ (own.map (·.2))) H' s' ∧ tn i s'.heap ∧ (∀ b ∈ D :: fp, H' b = none) ∧ SetI X.w s'.heap D acc ∧ W i n acc H') ?_ m0 ⟨0, H2, [], I4, st4, fun b hb => (f3 b hb).1.1, S4, w0⟩
    rintro n s5 ⟨i, H5, acc, I5, st5, n5, S5, w5⟩
    have fp5 := stat I5 (fun p hp => by cases hp) n5
    have I5d := I5.pinned (fp := [D]) (fun b hb => by rw [List.mem_singleton.mp hb]; exact fp5 D (List.mem_cons_self ..)) fun b hb => by rw [List.mem_singleton.mp hb]; exact S5.obj
    have pinD : ∀ o, s5.heap.get? D = some o → (D, o) ∈ [] ++ pinsAt [D] s5.heap := fun o e => List.mem_append_right _ (mem_pinsAt (List.mem_singleton.mpr rfl) e)
    have fpd : ∀ {H' : Hp}, (∀ b ∈ fp, H' b = none) → ∀ b ∈ fp, FpOk XB ([] ++ pinsAt [D] s5.heap) H' b := fun {H'} hn b hb => by
      obtain ⟨_, a1, a2, a3, a4, _⟩ := fp5 b (List.mem_cons_of_mem _ hb)
      refine ⟨hn b hb, a1, a2, a3, a4, fun p hp e => ?_⟩
      rw [eN, List.nil_append, List.nil_append] at hp
      have z := (of_pinsAt hp).1
      rw [List.mem_singleton.mp z] at e
      exact Dfp (e ▸ hb)
    have n5f : ∀ b ∈ fp, H5 b = none := fun b hb => n5 b (List.mem_cons_of_mem _ hb)
    rcases turn i n acc H5 w5 with ⟨stop, qq⟩ | ⟨go, Nx, hNx, step⟩
    · have td := T.done XB eP eW eK eC i _ s5 _ H5 (fun _ _ => False) I5d (fpd n5f) st5 stop
      rw [eA] at td
      refine thnF td fun r s6 ⟨hr, I6⟩ => ?_
      subst hr
      obtain ⟨S6, _⟩ := keepD (h2 := s5.heap) S5 pinD I6
      have I6 : Inv XB [] _ H5 s6 := I6.unpinned (pins := [])
      rw [← hXB] at I6
      have I7 : Inv X pins σ H5 s6 := I3.call' (ch := D :: fp) I6.os I6.base I6.hok I6.bare fun b hb => ⟨(f3 b hb).1.2.2.2.1, (f3 b hb).1.2.1, (f3 b hb).1.2.2.2.2.1, (f3 b hb).1.2.2.2.2.2⟩
      have nC : H5 s3.heap.objs.size = none := by
        have z : H5 ce.locals = none := I6.free
        rwa [cL] at z
      obtain ⟨m, hn, _⟩ := I6.loc
      have hn : s6.heap.Ns ce.locals m := hn
      rw [cL] at hn
      exact hRR D s3.heap.objs.size s6 m H5 acc I7 S6 ⟨n5 D (List.mem_cons_self ..), fD.2⟩ (by rw [sz3]; exact Nat.ne_of_lt (Nat.lt_succ_self _)) qq hn (I3.fpOk (Nat.le_refl _) nC)
    · have ti := T.item XB eP eW eK eC i _ s5 _ H5 (fun _ _ => False) I5d (fpd n5f) st5 go
      rw [eA] at ti
      refine thnF ti fun r s6 ⟨u, hr, h6⟩ => ?_
      subst hr
      refine thnF h6 fun _ s7 ⟨x, H7, I7, r7, y7, st7, n7⟩ => ?_
      obtain ⟨S7, nD7⟩ := keepD (h2 := s5.heap) S5 pinD I7
      have I7' := I7.pinned (fpd n7) (T.obj _ _ st7)
      have pgr := pg.run _ s7 _ H7 x u _ I7' r7 (step x H7 y7)
      rw [eA, eP, eW, eE, eV] at pgr
      refine thnF pgr fun _ s8 ⟨σ8, H8, I8, hw8, q8⟩ => ?_
      have ptr := pt.run _ s8 σ8 H8 _ I8 q8
      rw [eA, eP, eW, eE, eV] at ptr
      refine thnF ptr fun b s9 ⟨H9, I9, q9⟩ => ?_
      -- the pins of the outer iterator alone
      have onlyI : ∀ {σ9 : L2.St} {s' : Shared} {H' : Hp} {q : List (Addr × Obj)}, Inv XB (([] ++ pinsAt [D] s5.heap) ++ pinsAt fp s7.heap ++ q) σ9 H' s' → Inv XB (pinsAt fp s7.heap) σ9 H' s' := fun {σ9 s' H' q} I' => I'.pins_of fun p hp => I'.pin p (List.mem_append_right _ (List.mem_append_left _ (List.mem_append_right _ hp)))
      have fin : ∀ {σ9 : L2.St} {s' : Shared} {H' : Hp} {a : List Int}, Inv XB (pinsAt fp s7.heap) σ9 H' s' → SetI X.w s'.heap D a → H' D = none → (L2.wipe σ (own.map (·.2))).length = σ9.length → (∀ (j : Nat) v, (L2.wipe σ (own.map (·.2)))[j]? = some (some v) → σ9[j]? = some (some v)) → Nx a H' →
          ∃ m, m < n ∧ ∃ i H' acc, Inv XB [] (L2.wipe σ (own.map (·.2))) H' s' ∧ tn i s'.heap ∧ (∀ b ∈ D :: fp, H' b = none) ∧ SetI X.w s'.heap D acc ∧ W i m acc H' := fun {σ9 s' H' a} I' S' nD hl hk nx => by
        obtain ⟨m', hm, w'⟩ := hNx a H' nx
        have pin' : ∀ b ∈ fp, ∀ o, s7.heap.get? b = some o → s'.heap.get? b = some o ∧ H' b = none := fun b hb o e =>
          let z := I'.pin (b, o) (List.mem_append_right _ (mem_pinsAt hb e))
          ⟨z.1, z.2.1⟩
        refine ⟨m', hm, i + 1, H', a, (I'.pins_of fun p hp => by cases hp).weak hl hk, T.keep _ _ _ st7 fun b hb o e => (pin' b hb o e).1, fun b hb => ?_, S', w'⟩
        rcases List.mem_cons.mp hb with rfl | hb
        · exact nD
        · obtain ⟨o, e, _⟩ := T.obj _ _ st7 b hb
          exact (pin' b hb o e).2
      have hl8 : (L2.wipe σ (own.map (·.2))).length = σ8.length := by rw [← hw8, L2.wipe_length]
      have hk8 : ∀ (j : Nat) v, (L2.wipe σ (own.map (·.2)))[j]? = some (some v) → σ8[j]? = some (some v) := fun j v e => by
        rw [← hw8] at e
        exact (L2.wipe_some e).1
      have hk9 : ∀ (j : Nat) v, (L2.wipe σ (own.map (·.2)))[j]? = some (some v) → (L2.wipe σ8 vs1)[j]? = some (some v) := fun j v e => by
        rw [← hw8] at e
        obtain ⟨e1, e2⟩ := L2.wipe_some e
        rw [L2.wipe_out fun z => e2 (hv j z)]
        exact e1
      have pinD8 : ∀ o, s5.heap.get? D = some o → (D, o) ∈ ([] ++ pinsAt [D] s5.heap) ++ pinsAt fp s7.heap := fun o e => List.mem_append_left _ (pinD o e)
      cases b with
      | false =>
        simp only [Bool.false_eq_true, if_false] at q9 ⊢
        obtain ⟨S9, nD9⟩ := keepD (h2 := s5.heap) S5 pinD8 I9
        exact fin (onlyI (q := []) (by rw [List.append_nil]; exact I9)) S9 nD9 hl8 hk8 q9
      | true =>
        simp only [if_true] at q9 ⊢
        have pir := pi1.run _ s9 σ8 H9 _ I9 q9
        rw [eA, eP, eW, eE, eV] at pir
        refine thnF pir fun xv s10 hx => thnF hx fun itv s11 h11 => ?_
        obtain ⟨ib, fp1, tn1, J1, H11, e1, I11, T1, st11, f11, W1, ⟨m1, w1⟩, turn1⟩ := h11
        subst e1
        rw [eP, eW, eK] at T1
        obtain ⟨S11, nD11⟩ := keepD (h2 := s5.heap) S5 pinD8 I11
        have Dfp1 : D ∉ fp1 := fun z => by
          obtain ⟨o, eo, _⟩ := S5.obj
          exact (f11 D z).2.2.2.2.2 (D, o) (by rw [eN, List.nil_append]; exact pinD8 o eo) rfl
        have O11 := onlyI (q := []) (by rw [List.append_nil]; exact I11)
        -- the inner loop
        have loop1 : codeAny (model X.prog X.w) X.A (.compLoop (.SetComp elt [⟨tg, iter, ifs, 0⟩, ⟨tg1, iter1, ifs1, 0⟩] scope pos) 1 (.ref ib) (.ref D) ce)
            (fun r s' => match r with
              | .ok _ => ∃ m, m < n ∧ ∃ i H' acc, Inv XB [] (L2.wipe σ (own.map (·.2))) H' s' ∧ tn i s'.heap ∧ (∀ b ∈ D :: fp, H' b = none) ∧ SetI X.w s'.heap D acc ∧ W i m acc H'
              | .error _ => False) s11 := by
          refine sc2_loop1 (fun k s' => ∃ j H' a, Inv XB (pinsAt fp s7.heap) (L2.wipe σ8 vs1) H' s' ∧ tn1 j s'.heap ∧ (∀ b ∈ fp1, H' b = none) ∧ H' D = none ∧ SetI X.w s'.heap D a ∧ W1 j k a H') ?_ m1 ⟨0, H11, acc, O11.weak (L2.wipe_length _ _) (fun j v e => (L2.wipe_some e).1), st11, fun b hb => (f11 b hb).1, nD11, S11, w1⟩
          rintro k s12 ⟨j, H12, a, I12, st12, n12, nD12, S12, w12⟩
          have fD12 : FpOk XB (pinsAt fp s7.heap) H12 D := by
            obtain ⟨_, a1, a2, a3, a4, _⟩ := fp5 D (List.mem_cons_self ..)
            refine ⟨nD12, a1, a2, a3, a4, fun p hp e => ?_⟩
            rw [eN, List.nil_append] at hp
            exact Dfp (e ▸ (of_pinsAt hp).1)
          have I12d := I12.pinned (fp := [D]) (fun b hb => by rw [List.mem_singleton.mp hb]; exact fD12) fun b hb => by rw [List.mem_singleton.mp hb]; exact S12.obj
          have pin12 : ∀ {q : List (Addr × Obj)} (o : Obj), s12.heap.get? D = some o → (D, o) ∈ (pinsAt fp s7.heap ++ pinsAt [D] s12.heap) ++ q := fun {q} o e => List.mem_append_left _ (List.mem_append_right _ (mem_pinsAt (List.mem_singleton.mpr rfl) e))
          have pin12' : ∀ (o : Obj), s12.heap.get? D = some o → (D, o) ∈ pinsAt fp s7.heap ++ pinsAt [D] s12.heap := fun o e => List.mem_append_right _ (mem_pinsAt (List.mem_singleton.mpr rfl) e)
          have stat1 : ∀ {H' : Hp}, (∀ b ∈ fp1, H' b = none) → ∀ b ∈ fp1, FpOk XB (pinsAt fp s7.heap ++ pinsAt [D] s12.heap) H' b := fun {H'} hn b hb => by
            obtain ⟨_, a1, a2, a3, a4, a5⟩ := f11 b hb
            refine ⟨hn b hb, a1, a2, a3, a4, fun p hp e => ?_⟩
            rw [eN, List.nil_append] at hp
            rcases List.mem_append.mp hp with hp | hp
            · exact a5 p (by rw [eN, List.nil_append]; exact List.mem_append_right _ hp) e
            · rw [List.mem_singleton.mp (of_pinsAt hp).1] at e
              exact Dfp1 (e ▸ hb)
          rcases turn1 j k a H12 w12 with ⟨stop1, nx1⟩ | ⟨go1, Nx1, hNx1, step1⟩
          · have td := T1.done XB eP eW eK eC j _ s12 (L2.wipe σ8 vs1) H12 (fun _ _ => False) I12d (stat1 n12) st12 stop1
            rw [eA] at td
            refine thnF td fun r s13 ⟨hr, I13⟩ => ?_
            subst hr
            obtain ⟨S13, nD13⟩ := keepD (h2 := s12.heap) S12 pin12' I13
            exact fin I13.unpinned S13 nD13 (hl8.trans (L2.wipe_length σ8 vs1).symm) hk9 nx1
          · have ti := T1.item XB eP eW eK eC j _ s12 (L2.wipe σ8 vs1) H12 (fun _ _ => False) I12d (stat1 n12) st12 go1
            rw [eA] at ti
            refine thnF ti fun r s13 ⟨u1, hr, h13⟩ => ?_
            subst hr
            refine thnF h13 fun _ s14 ⟨x1, H14, I14, r14, y14, st14, n14⟩ => ?_
            have I14' := I14.pinned (stat1 n14) (T1.obj _ _ st14)
            have pgr := pg1.run _ s14 (L2.wipe σ8 vs1) H14 x1 u1 _ I14' r14 (step1 x1 H14 y14)
            rw [eA, eP, eW, eE, eV] at pgr
            refine thnF pgr fun _ s15 ⟨σ15, H15, I15, hw15, q15⟩ => ?_
            have ptr := pt1.run _ s15 σ15 H15 _ I15 q15
            rw [eA, eP, eW, eE, eV] at ptr
            refine thnF ptr fun b1 s16 ⟨H16, I16, q16⟩ => ?_
            have drop : ∀ {σ' : L2.St} {H' : Hp} {s' : Shared}, Inv XB ((pinsAt fp s7.heap ++ pinsAt [D] s12.heap) ++ pinsAt fp1 s14.heap) σ' H' s' → Inv XB (pinsAt fp s7.heap ++ pinsAt fp1 s14.heap) σ' H' s' := fun {σ' H' s'} I' => I'.pins_of fun p hp => I'.pin p (List.mem_append_right _ ((List.mem_append.mp hp).elim (fun z => List.mem_append_left _ (List.mem_append_left _ z)) fun z => List.mem_append_right _ z))
            have fin1 : ∀ {s' : Shared} {H' : Hp} {a' : List Int}, Inv XB (pinsAt fp s7.heap ++ pinsAt fp1 s14.heap) σ15 H' s' → SetI X.w s'.heap D a' → H' D = none → Nx1 a' H' → ∃ m, m < k ∧ ∃ j H' a, Inv XB (pinsAt fp s7.heap) (L2.wipe σ8 vs1) H' s' ∧ tn1 j s'.heap ∧ (∀ b ∈ fp1, H' b = none) ∧ H' D = none ∧ SetI X.w s'.heap D a ∧ W1 j m a H' := fun {s' H' a'} I' S' nD nx => by
              obtain ⟨m', hm, w'⟩ := hNx1 a' H' nx
              have pin' : ∀ b ∈ fp1, ∀ o, s14.heap.get? b = some o → s'.heap.get? b = some o ∧ H' b = none := fun b hb o e =>
                let z := I'.pin (b, o) (List.mem_append_right _ (List.mem_append_right _ (mem_pinsAt hb e)))
                ⟨z.1, z.2.1⟩
              refine ⟨m', hm, j + 1, H', a', I'.unpinned.weak (by rw [← hw15, L2.wipe_length]) (fun j v e => by rw [← hw15] at e; exact (L2.wipe_some e).1), T1.keep _ _ _ st14 fun b hb o e => (pin' b hb o e).1, fun b hb => ?_, nD, S', w'⟩
              obtain ⟨o, e, _⟩ := T1.obj _ _ st14 b hb
              exact (pin' b hb o e).2
            cases b1 with
            | false =>
              simp only [Bool.false_eq_true, if_false] at q16 ⊢
              obtain ⟨S16, nD16⟩ := keepD (h2 := s12.heap) S12 pin12 I16
              exact fin1 (drop I16) S16 nD16 q16
            | true =>
              simp only [if_true] at q16 ⊢
              have per := pe.run _ s16 σ15 H16 _ I16 q16
              rw [eA, eP, eW, eE, eV] at per
              refine thnF per fun z s17 ⟨yv, H17, I17, r17, nn, ey, hz17, nx⟩ => ?_
              subst ey
              obtain ⟨tk, rfl⟩ := r17
              obtain ⟨S17, nD17⟩ := keepD (h2 := s12.heap) S12 pin12 I17
              have I17' := drop I17
              obtain ⟨c, hcl, R17⟩ := S17
              refine setR_add R17 (by omega) fun h' sb new => ?_
              have fD17 : FpOk XB (pinsAt fp s7.heap ++ pinsAt fp1 s14.heap) H17 D := by
                obtain ⟨_, a1, a2, a3, a4, _⟩ := fp5 D (List.mem_cons_self ..)
                refine ⟨nD17, a1, a2, a3, a4, fun p hp e => ?_⟩
                rw [eN, List.nil_append] at hp
                rcases List.mem_append.mp hp with hp | hp
                · exact Dfp (e ▸ (of_pinsAt hp).1)
                · exact Dfp1 (e ▸ (of_pinsAt hp).1)
              obtain ⟨f0, f1, f2', f3', f4, f5⟩ := fD17
              have I18 := I17'.turned (t' := s17.toks + 1) (fun b o hb e => (sb.2 b hb).trans e) f0 f1 f3' f4 f5
              refine fin1 I18 ⟨_, ?_, new.congr fun j => ?_⟩ nD17 nx
              · rw [List.length_append]
                show (if decide (nn ∈ a) = true then c else c + 1) ≤ a.length + 1
                split <;> omega
              · rw [Bool.eq_iff_iff]
                simp only [decide_eq_true_eq, Bool.or_eq_true, List.mem_append, List.mem_singleton]
        exact sc2_start1 loop1 (T1.self X.A 0 _ _ _ st11 loop1)
  exact PpSet.codeAny_compStart_set loop (T.self X.A 0 _ _ _ st4 loop)
end
end CT
set_option maxHeartbeats 4000000
/-! DM12: sorted({x for u in a if .. for x in b if ..}) over data. -/
namespace CT
open PySem L2 PySem.Spec PyProof.Rows
def scN (it : ItD) (g : MG) (tt : MT) (te : ME) (n : Nat) (sl : List (Option D)) : Nat → Nat → List Int → Store → R (List Int)
  | 0, _, a, C => if it.fin C = true then .ok a C else .stuck
  | r + 1, j, a, C => match it.item j C with
    | none => .stuck
    | some d => match g d sl with
      | none => .stuck
      | some sl1 => bn0 (tt ⟨n, sl1⟩ C) fun b C1 => if b = true then bn0 (te ⟨n, sl1⟩ C1) fun y C2 => (match y with
          | .int x => if a.length < 4000 then scN it g tt te n sl r (j + 1) (a ++ [x]) C2 else .stuck
          | _ => .stuck)
        else scN it g tt te n sl r (j + 1) a C1
def sc2N (it : ItD) (g : MG) (tt : MT) (mi1 : MI) (g1 : MG) (tt1 : MT) (te : ME) (n : Nat) (sl : List (Option D)) (vs1 : List Nat) : Nat → Nat → List Int → Store → R (List Int)
  | 0, _, a, C => if it.fin C = true then .ok a C else .stuck
  | r + 1, j, a, C => match it.item j C with
    | none => .stuck
    | some d => match g d sl with
      | none => .stuck
      | some sl1 => bn0 (tt ⟨n, sl1⟩ C) fun b C1 => if b = true then bn0 (mi1 ⟨n, sl1⟩ C1) fun it1 C2 => bn0 (scN it1 g1 tt1 te n (wipeD sl1 vs1) it1.n 0 a C2) fun a' C3 => sc2N it g tt mi1 g1 tt1 te n sl vs1 r (j + 1) a' C3
        else sc2N it g tt mi1 g1 tt1 te n sl vs1 r (j + 1) a C1
def mSortSc2 (own : Bool) (mi : MI) (g : MG) (tt : MT) (mi1 : MI) (g1 : MG) (tt1 : MT) (te : ME) (vs vs1 : List Nat) : ME := fun F C => bnd (mi F C) fun it C1 => bn0 (sc2N it g tt mi1 g1 tt1 te C1.length (wipeD F.sl vs) vs1 it.n 0 [] C1) fun a C2 => .ok (mkL own ((srtI a).map .int) C2).1 (mkL own ((srtI a).map .int) C2).2
section
variable {X : Cx}
theorem pe_sortSc2 {elt tg iter tg1 iter1 : Expr} {ifs ifs1 : List Expr} {scope : Scope} {own : List (Str × Nat)} {vs1 : List Nat} {p pos pos' : Pos} {wi wi1 : TI} {g g1 : TG} {tt tt1 : TT} {te : TE}
    (hc : X.calm = true) (hu : X.A.units + 200 < cLine) (hgl : Gl X "sorted") (hm : X.mg "sorted" = none) (hN : X.N.Nodup) (hi : PI X tg iter wi) (ok : BlkOk X.N X.env.scope scope own) (hv : ∀ i ∈ vs1, i ∈ own.map (·.2))
    (hg : ∀ (s : Shared) (H : Hp) (C : Addr) (cl : List (Str × Addr)) (fp : List Addr), PG (X.blk s H scope (compEnvC scope cl C X.env) fp) tg g) (ht : ∀ (s : Shared) (H : Hp) (C : Addr) (cl : List (Str × Addr)) (fp : List Addr), PTs (X.blk s H scope (compEnvC scope cl C X.env) fp) ifs tt)
    (hi1 : ∀ (s : Shared) (H : Hp) (C : Addr) (cl : List (Str × Addr)) (fp : List Addr), PI (X.blk s H scope (compEnvC scope cl C X.env) fp) tg1 iter1 wi1)
    (hg1 : ∀ (s : Shared) (H : Hp) (C : Addr) (cl : List (Str × Addr)) (fp : List Addr), PG (X.blk s H scope (compEnvC scope cl C X.env) fp) tg1 g1)
    (ht1 : ∀ (s : Shared) (H : Hp) (C : Addr) (cl : List (Str × Addr)) (fp : List Addr), PTs (X.blk s H scope (compEnvC scope cl C X.env) fp) ifs1 tt1)
    (he : ∀ (s : Shared) (H : Hp) (C : Addr) (cl : List (Str × Addr)) (fp : List Addr), PE (X.blk s H scope (compEnvC scope cl C X.env) fp) elt te) (hs : ∀ x, foldedSetIterable iter X.env x = pure x := by intro _; rfl) (hs1 : ∀ env x, foldedSetIterable iter1 env x = pure x := by intro _ _; rfl)
    (na : starEach [.SetComp elt [⟨tg, iter, ifs, 0⟩, ⟨tg1, iter1, ifs1, 0⟩] scope pos'] X.env = (false, eval (.SetComp elt [⟨tg, iter, ifs, 0⟩, ⟨tg1, iter1, ifs1, 0⟩] scope pos') X.env) :: starEach [] X.env := by rfl) :
    PE X (.Call (.Name "sorted" p) [.SetComp elt [⟨tg, iter, ifs, 0⟩, ⟨tg1, iter1, ifs1, 0⟩] scope pos'] [] pos) (fun σ H Q => tSc2 wi g tt wi1 g1 tt1 te (own.map (·.2)) vs1 σ H fun acc H' => ∀ q, H' q = none → Q (.ref q) (upd H' q (.lst ((srtI acc).map V.int)))) := by
  refine ⟨fun pins s σ H Q I h => ?_⟩
  refine wpAny_Call_Name_kw (ld_blt I hgl hm (u := .builtin "sorted") (by decide +kernel) ?_ (by decide) (by decide))
  refine PyProof.Rows.callWith_builtin1 (args_cons ?_ na) na
  rw [PpSet.eval_SetComp]
  refine sc2_core hc hN I hi ok hv hg ht he hs hi1 hg1 ht1 hs1 h fun D C s' m H' acc I' S' fD hDC q hn fC => ⟨m, hn, fun h'' sb => args_nil ?_⟩
  obtain ⟨f0, f1, f2, f3, f4, f5⟩ := fC
  have I2 : Inv X pins σ H' { s' with heap := h'' } := I'.turned (t' := s'.toks) (fun b o hb e => (sb.2 b hb).trans e) f0 f1 f3 f4 f5
  obtain ⟨c, hcl, R⟩ := S'.at (h' := h'') fun o e => (sb.2 D hDC).trans e
  generalize hsx : ({ s' with heap := h'' } : Shared) = sx at I2
  have R : SetR X.w sx.heap D (fun j => decide (j ∈ acc)) c := by rw [← hsx]; exact R
  refine sort_setB (s := sx) R (I2.ok.hd hc) hu fun s2 a out c' ns k gg oo ha hga hin hup hmem hlen => ?_
  have en : ns = srtI acc := up_one hup srtI_up fun z => by rw [hmem, srtI_mem, decide_eq_true_eq]
  subst en
  have hz : ((srtI acc).map V.int).length ≤ sizeLine := by
    obtain ⟨_, es, _, _, _, _, _, _, _, _, hsz, _, hnn, _⟩ := R
    rw [List.length_map, hlen, ← hnn, sizeLine_eq]
    unfold scanBound at hsz
    omega
  have ha0 : H' a = none := I2.hok.fresh ha
  have J : Inv X pins σ (upd H' a (.lst ((srtI acc).map V.int))) { sx with heap := s2.heap, gens := s2.gens, drawn := s2.drawn, toks := s2.toks } :=
    I2.call (ch := []) (Un.laid k ha ha0) (I2.hok.laid k ha ⟨hz, out.toList, c', vals_of_ints hin, hga⟩) (by rw [gg]; exact I2.bare) (fun _ z => nomatch z)
  have e : s2 = { sx with heap := s2.heap, gens := s2.gens, drawn := s2.drawn, toks := s2.toks } := by
    cases s2
    cases sx
    cases oo
    rfl
  rw [e]
  exact ⟨.ref a, _, J, rfl, q a ha0⟩
end
section
variable {X : Cx} {k : Cn} {W : WX} {σ : L2.St} {H : Hp} {Q : VK}
theorem sc_inner {n : Nat} {J : It} {it : ItD} {t : Tgt} {tt : MT} {te : ME} {vs : List Nat} {sl0 : List (Option D)} {A : Nat → Addr} {C C3 : Store} {a0 a3 : List Int} {Nx : List Int → Hp → Prop} (hv : ∀ i ∈ t.slots, i ∈ vs) (ok : ItOk k n J it A C H) (sr : SR k A ⟨n, sl0⟩ C σ H)
    (e : scN it t.M tt te n (wipeD sl0 vs) it.n 0 a0 C = .ok a3 C3) (hN : ∀ A' H', Stp k n A C H A' C3 H' → StOk k A' C3 H' → Nx a3 H') :
    ∃ W1 : Nat → Nat → List Int → Hp → Prop, (∃ m, W1 0 m a0 H) ∧ ∀ i m a H, W1 i m a H → (J.stop i H ∧ Nx a H) ∨ (J.go i H ∧ ∃ Nx1 : List Int → Hp → Prop, (∀ a H', Nx1 a H' → ∃ m', m' < m ∧ W1 (i + 1) m' a H') ∧ ∀ x H', J.yld i H x H' → t.T k.K x (L2.wipe σ vs) H' fun σ3 H5 => L2.wipe σ3 vs = L2.wipe σ vs ∧ LT k WF tt σ3 H5 fun b H6 =>
      if b = true then LE k WF te σ3 H6 fun y H7 => ∃ n : Int, y = .int n ∧ a.length + 1 < scanBound ∧ Nx1 (a ++ [n]) H7 else Nx1 a H6) := by
  refine ⟨fun i m a H' => ∃ A' C', m = it.n - i ∧ i ≤ it.n ∧ Stp k n A C H A' C' H' ∧ StOk k A' C' H' ∧ scN it t.M tt te n (wipeD sl0 vs) (it.n - i) i a C' = .ok a3 C3,
    ⟨it.n, _, _, rfl, Nat.zero_le _, Stp.refl, sr.st, e⟩, ?_⟩
  rintro i m a H' ⟨A', C', rfl, hi, p, st', h'⟩
  have hl' : n ≤ C'.length := Nat.le_trans sr.fl p.len
  have low' : LowC n C' := p.low _ (Nat.le_refl _) sr.fl sr.low
  obtain ⟨o1, o2⟩ := ok A' C' H' p st'
  cases er : it.n - i with
  | zero =>
    rw [er] at h'
    unfold scN at h'
    have e : i = it.n := by omega
    split at h'
    · rename_i hf
      cases h'
      subst e
      exact .inl ⟨o2 hf, hN A' H' p st'⟩
    · cases h'
  | succ r =>
    rw [er] at h'
    unfold scN at h'
    have hlt : i < it.n := by omega
    have hr : it.n - (i + 1) = r := by omega
    cases ei : it.item i C' with
    | none => simp only [ei] at h'; cases h'
    | some d =>
      simp only [ei] at h'
      obtain ⟨g1, g2⟩ := o1 i d hlt ei
      cases eg : t.M d (wipeD sl0 vs) with
      | none => simp only [eg] at h'; cases h'
      | some sl1 =>
        simp only [eg] at h'
        refine .inr ⟨g1, fun a H4 => ∃ A4 C4, Stp k n A C H A4 C4 H4 ∧ StOk k A4 C4 H4 ∧ scN it t.M tt te n (wipeD sl0 vs) (it.n - (i + 1)) (i + 1) a C4 = .ok a3 C3,
          fun a H4 ⟨A4, C4, q1, q2, q3⟩ => ⟨it.n - (i + 1), by omega, A4, C4, rfl, by omega, q1, q2, q3⟩, fun x H'' y => ?_⟩
        obtain ⟨A'', py, sty, rx⟩ := g2 x H'' y
        have py' : Stp k n A' C' H' A'' C' H'' := ⟨py.rep, py.len, fun f _ _ h => h⟩
        have s9 : SR k A'' ⟨n, wipeD sl0 vs⟩ C' (L2.wipe σ vs) H'' := ((sr.re (p.trans py') sty low' hl').wipe vs)
        refine Tgt.of (vs0 := vs) s9 rx eg fun σ2 s2 w2 => ⟨by rw [w2 hv, wipe_wipe], A'', ⟨n, sl1⟩, C', s2, ?_⟩
        obtain ⟨b, C5, et, h'⟩ := bn0_out h'
        rw [et]
        intro A5 H5 v5 p5 st5 e5
        have e5 : v5 = b := e5
        subst e5
        have s5 := s2.step p5 st5
        cases v5 with
        | true =>
          rw [if_pos rfl] at h'
          refine iteT ⟨A5, ⟨n, sl1⟩, C5, s5, ?_⟩
          obtain ⟨yd, C6, ee, h'⟩ := bn0_out h'
          rw [ee]
          intro A6 H6 v6 p6 st6 r6
          have pall := (p.trans py').trans (p5.trans p6)
          split at h'
          · split at h'
            · rename_i hz
              cases r6
              refine ⟨_, rfl, by unfold scanBound; omega, A6, C6, pall, st6, ?_⟩
              rw [hr]
              exact h'
            · cases h'
          · cases h'
        | false =>
          rw [if_neg (by decide)] at h'
          refine iteF ⟨A5, C5, (p.trans py').trans p5, st5, ?_⟩
          rw [hr]
          exact h'
theorem le_sortSc2 {ow : Bool} {mi mi1 : MI} {t t1 : Tgt} {tt tt1 : MT} {te : ME} {vs vs1 : List Nat} (hv : ∀ i ∈ t.slots, i ∈ vs) (hv1 : ∀ i ∈ t1.slots, i ∈ vs1) (h : LE k W (mSortSc2 ow mi t.M tt mi1 t1.M tt1 te vs vs1) σ H Q) :
    tSc2 (LI k W mi) (t.T k.K) (LT k WF tt) (LI k WF mi1) (t1.T k.K) (LT k WF tt1) (LE k WF te) vs vs1 σ H fun acc H' => ∀ q, H' q = none → Q (.ref q) (upd H' q (.lst ((srtI acc).map V.int))) := by
  obtain ⟨A, F, C, s, h⟩ := h
  refine ⟨A, F, C, s, (Aft.bnd (rel := fun A C H (J : It) (it : ItD) => ItOk k F.fl J it A C H) h).mono fun it C1 A1 H1 J p1 st1 ok h1 => ?_⟩
  have s1 := s.step p1 st1
  obtain ⟨a3, C3, e3, h3⟩ : ∃ a3 C3, sc2N it t.M tt mi1 t1.M tt1 te C1.length (wipeD F.sl vs) vs1 it.n 0 [] C1 = .ok a3 C3 ∧ Aft k F.fl A1 C1 H1 (RepD k) (.ok (mkL ow ((srtI a3).map .int) C3).1 (mkL ow ((srtI a3).map .int) C3).2) (fun _ _ _ H' v => Q v H') (fun c d H' => W c d σ H') := by
    cases e : sc2N it t.M tt mi1 t1.M tt1 te C1.length (wipeD F.sl vs) vs1 it.n 0 [] C1 with
    | ok a C2 => rw [e] at h1; exact ⟨a, C2, rfl, h1⟩
    | exc x C2 => rw [e] at h1; exact h1.elim
    | stuck => rw [e] at h1; exact h1.elim
  refine ⟨fun i m a H' => ∃ A' C', m = it.n - i ∧ i ≤ it.n ∧ Stp k C1.length A1 C1 H1 A' C' H' ∧ StOk k A' C' H' ∧ sc2N it t.M tt mi1 t1.M tt1 te C1.length (wipeD F.sl vs) vs1 (it.n - i) i a C' = .ok a3 C3,
    ⟨it.n, _, _, rfl, Nat.zero_le _, Stp.refl, st1, e3⟩, ?_⟩
  rintro i m a H' ⟨A', C', rfl, hi, p, st', h'⟩
  have hl' : C1.length ≤ C'.length := p.len
  have low' : LowC C1.length C' := p.low _ (Nat.le_refl _) (Nat.le_refl _) st1.low
  have pF : Stp k F.fl A1 C1 H1 A' C' H' := p.less s1.fl
  obtain ⟨o1, o2⟩ := ok A' C' H' pF st'
  cases er : it.n - i with
  | zero =>
    rw [er] at h'
    unfold sc2N at h'
    have e : i = it.n := by omega
    split at h'
    · rename_i hf
      cases h'
      subst e
      refine .inl ⟨o2 hf, fun q hq => ?_⟩
      obtain ⟨A2, w1, w2, w3⟩ := fresh_L (own := ow) (Nat.le_trans s1.fl hl') st' (RepL.ints (ns := srtI a3)) hq
      exact h3 A2 _ _ (pF.trans w1) w2 w3
    · cases h'
  | succ r =>
    rw [er] at h'
    unfold sc2N at h'
    have hlt : i < it.n := by omega
    have hr : it.n - (i + 1) = r := by omega
    cases ei : it.item i C' with
    | none => simp only [ei] at h'; cases h'
    | some d =>
      simp only [ei] at h'
      obtain ⟨g1, g2⟩ := o1 i d hlt ei
      cases eg : t.M d (wipeD F.sl vs) with
      | none => simp only [eg] at h'; cases h'
      | some sl1 =>
        simp only [eg] at h'
        refine .inr ⟨g1, fun a H4 => ∃ A4 C4, Stp k C1.length A1 C1 H1 A4 C4 H4 ∧ StOk k A4 C4 H4 ∧ sc2N it t.M tt mi1 t1.M tt1 te C1.length (wipeD F.sl vs) vs1 (it.n - (i + 1)) (i + 1) a C4 = .ok a3 C3,
          fun a H4 ⟨A4, C4, q1, q2, q3⟩ => ⟨it.n - (i + 1), by omega, A4, C4, rfl, by omega, q1, q2, q3⟩, fun x H'' y => ?_⟩
        obtain ⟨A'', py, sty, rx⟩ := g2 x H'' y
        have py' : Stp k C1.length A' C' H' A'' C' H'' := ⟨py.rep, py.len, fun f _ _ h => h⟩
        have sr : SR k A'' ⟨C1.length, wipeD F.sl vs⟩ C' (L2.wipe σ vs) H'' := ((s1.re (p.trans py') sty low' hl').wipe vs)
        refine Tgt.of (vs0 := vs) sr rx eg fun σ2 s2 w2 => ⟨by rw [w2 hv, wipe_wipe], A'', ⟨C1.length, sl1⟩, C', s2, ?_⟩
        obtain ⟨b, C5, et, h'⟩ := bn0_out h'
        rw [et]
        intro A5 H5 v5 p5 st5 e5
        have e5 : v5 = b := e5
        subst e5
        have s5 := s2.step p5 st5
        cases v5 with
        | true =>
          rw [if_pos rfl] at h'
          obtain ⟨it1, C6, em, h'⟩ := bn0_out h'
          obtain ⟨a7, C7, el, h'⟩ := bn0_out h'
          refine iteT ⟨A5, ⟨C1.length, sl1⟩, C5, s5, ?_⟩
          rw [em]
          intro A6 H6 J1 p6 st6 ok6
          have pall := (p.trans py').trans (p5.trans p6)
          refine sc_inner hv1 ok6 (s5.step p6 st6) el fun A7 H7 p7 st7 => ⟨A7, C7, pall.trans p7, st7, ?_⟩
          rw [hr]
          exact h'
        | false =>
          rw [if_neg (by decide)] at h'
          refine iteF ⟨A5, C5, (p.trans py').trans p5, st5, ?_⟩
          rw [hr]
          exact h'
variable {elt tg iter tg1 iter1 : Expr} {ifs ifs1 : List Expr} {scope : Scope} {own : List (Str × Nat)} {vs1 : List Nat} {p pos pos' : Pos} {mi mi1 : MI} {t t1 : Tgt} {tt tt1 : MT} {te : ME}
theorem de_sortSc2 (ow : Bool) (hK : X.K = k.K) (hc : X.calm = true) (hu : X.A.units + 200 < cLine) (hgl : Gl X "sorted") (hm : X.mg "sorted" = none) (hN : X.N.Nodup) (hi : PI X tg iter (LI k W mi)) (ok : BlkOk X.N X.env.scope scope own) (hv : ∀ i ∈ vs1, i ∈ own.map (·.2)) (hv0 : ∀ i ∈ t.slots, i ∈ own.map (·.2)) (hv1 : ∀ i ∈ t1.slots, i ∈ vs1)
    (hg : ∀ (s : Shared) (H : Hp) (C : Addr) (cl : List (Str × Addr)) (fp : List Addr), PG (X.blk s H scope (compEnvC scope cl C X.env) fp) tg (t.T k.K)) (ht : ∀ (s : Shared) (H : Hp) (C : Addr) (cl : List (Str × Addr)) (fp : List Addr), PTs (X.blk s H scope (compEnvC scope cl C X.env) fp) ifs (LT k WF tt))
    (hi1 : ∀ (s : Shared) (H : Hp) (C : Addr) (cl : List (Str × Addr)) (fp : List Addr), PI (X.blk s H scope (compEnvC scope cl C X.env) fp) tg1 iter1 (LI k WF mi1))
    (hg1 : ∀ (s : Shared) (H : Hp) (C : Addr) (cl : List (Str × Addr)) (fp : List Addr), PG (X.blk s H scope (compEnvC scope cl C X.env) fp) tg1 (t1.T k.K))
    (ht1 : ∀ (s : Shared) (H : Hp) (C : Addr) (cl : List (Str × Addr)) (fp : List Addr), PTs (X.blk s H scope (compEnvC scope cl C X.env) fp) ifs1 (LT k WF tt1))
    (he : ∀ (s : Shared) (H : Hp) (C : Addr) (cl : List (Str × Addr)) (fp : List Addr), PE (X.blk s H scope (compEnvC scope cl C X.env) fp) elt (LE k WF te)) (hs : ∀ x, foldedSetIterable iter X.env x = pure x := by intro _; rfl) (hs1 : ∀ env x, foldedSetIterable iter1 env x = pure x := by intro _ _; rfl)
    (na : starEach [.SetComp elt [⟨tg, iter, ifs, 0⟩, ⟨tg1, iter1, ifs1, 0⟩] scope pos'] X.env = (false, eval (.SetComp elt [⟨tg, iter, ifs, 0⟩, ⟨tg1, iter1, ifs1, 0⟩] scope pos') X.env) :: starEach [] X.env := by rfl) :
    PE X (.Call (.Name "sorted" p) [.SetComp elt [⟨tg, iter, ifs, 0⟩, ⟨tg1, iter1, ifs1, 0⟩] scope pos'] [] pos) (LE k W (mSortSc2 ow mi t.M tt mi1 t1.M tt1 te (own.map (·.2)) vs1)) :=
  (pe_sortSc2 hc hu hgl hm hN hi ok hv hg ht hi1 hg1 ht1 he hs hs1 na).cq fun _ _ _ h => le_sortSc2 hv0 hv1 h
end
end CT
set_option maxHeartbeats 8000000
set_option pp.maxSteps 60
namespace CL
open PySem L2 PySem.Spec PyProof.Rows CT
def top (i : Nat) : Stmt := PySem.Challenge.pw_contentties_k12_wants_told.main.body.getD i (.Pass ⟨0, 0, 0, 0⟩)
def mem (i j : Nat) : Stmt := match top i with
  | .ClassDef _ _ _ b _ _ _ _ _ _ _ => b.getD j (.Pass ⟨0, 0, 0, 0⟩)
  | s => s
def clA (K : PySem.W.Frag) (c : Nat) : Addr := match c with
  | 0 => He.ga K "Want"
  | _ => 0
def flA (c : Nat) : List Str := match c with
  | 0 => ["halves"]
  | _ => []
abbrev cn (K : PySem.W.Frag) : Cn := ⟨K, clA K, flA, none⟩
abbrev s_is_integer : Stmt := top 7
abbrev a_is_integer (K : PySem.W.Frag) : Addr := He.ga K "is_integer"
abbrev s_is_number : Stmt := top 8
abbrev a_is_number (K : PySem.W.Frag) : Addr := He.ga K "is_number"
abbrev s_merged : Stmt := top 10
abbrev a_merged (K : PySem.W.Frag) : Addr := He.ga K "merged"
abbrev s_halves_between : Stmt := top 15
abbrev a_halves_between (K : PySem.W.Frag) : Addr := He.ga K "halves_between"
abbrev s_check_numbers : Stmt := top 17
abbrev a_check_numbers (K : PySem.W.Frag) : Addr := He.ga K "check_numbers"
abbrev s_halves_of : Stmt := top 18
abbrev a_halves_of (K : PySem.W.Frag) : Addr := He.ga K "halves_of"
abbrev s_run_text : Stmt := top 21
abbrev a_run_text (K : PySem.W.Frag) : Addr := He.ga K "run_text"
abbrev s_Want__init : Stmt := mem 22 0
abbrev a_Want__init (K : PySem.W.Frag) : Addr := He.ma K (He.ga K "Want") "__init__"
abbrev s_Want_between : Stmt := mem 22 1
abbrev a_Want_between (K : PySem.W.Frag) : Addr := cmG K (He.ga K "Want") "between"
abbrev s_Want_stepped : Stmt := mem 22 2
abbrev a_Want_stepped (K : PySem.W.Frag) : Addr := cmG K (He.ga K "Want") "stepped"
abbrev s_Want_evens : Stmt := mem 22 3
abbrev a_Want_evens (K : PySem.W.Frag) : Addr := prG K (He.ga K "Want") "evens"
abbrev s_Want_odds : Stmt := mem 22 4
abbrev a_Want_odds (K : PySem.W.Frag) : Addr := prG K (He.ga K "Want") "odds"
abbrev s_Want_low : Stmt := mem 22 5
abbrev a_Want_low (K : PySem.W.Frag) : Addr := prG K (He.ga K "Want") "low"
abbrev s_Want_high : Stmt := mem 22 6
abbrev a_Want_high (K : PySem.W.Frag) : Addr := prG K (He.ga K "Want") "high"
abbrev s_Want_many : Stmt := mem 22 7
abbrev a_Want_many (K : PySem.W.Frag) : Addr := prG K (He.ga K "Want") "many"
abbrev s_Want_corners : Stmt := mem 22 8
abbrev a_Want_corners (K : PySem.W.Frag) : Addr := prG K (He.ga K "Want") "corners"
abbrev s_Want_least : Stmt := mem 22 9
abbrev a_Want_least (K : PySem.W.Frag) : Addr := He.ma K (He.ga K "Want") "least"
abbrev s_Want_greatest : Stmt := mem 22 10
abbrev a_Want_greatest (K : PySem.W.Frag) : Addr := He.ma K (He.ga K "Want") "greatest"
abbrev s_Want_first : Stmt := mem 22 13
abbrev a_Want_first (K : PySem.W.Frag) : Addr := He.ma K (He.ga K "Want") "first"
abbrev s_Want__contains : Stmt := mem 22 23
abbrev a_Want__contains (K : PySem.W.Frag) : Addr := He.ma K (He.ga K "Want") "__contains__"
abbrev s_Want__bool : Stmt := mem 22 24
abbrev a_Want__bool (K : PySem.W.Frag) : Addr := He.ma K (He.ga K "Want") "__bool__"
abbrev s_Want__str : Stmt := mem 22 26
abbrev a_Want__str (K : PySem.W.Frag) : Addr := He.ma K (He.ga K "Want") "__str__"
abbrev s_law_bag : Stmt := top 24
abbrev a_law_bag (K : PySem.W.Frag) : Addr := He.ga K "_law_bag"
abbrev s_law_take : Stmt := top 25
abbrev a_law_take (K : PySem.W.Frag) : Addr := He.ga K "_law_take"
abbrev s_law_list : Stmt := top 27
abbrev a_law_list (K : PySem.W.Frag) : Addr := He.ga K "_law_list"
abbrev s_law_runs : Stmt := top 28
abbrev a_law_runs (K : PySem.W.Frag) : Addr := He.ga K "_law_runs"
abbrev s_law_made : Stmt := top 29
abbrev a_law_made (K : PySem.W.Frag) : Addr := He.ga K "_law_made"
abbrev s_law_text : Stmt := top 30
abbrev a_law_text (K : PySem.W.Frag) : Addr := He.ga K "_law_text"
abbrev s_law_ends : Stmt := top 31
abbrev a_law_ends (K : PySem.W.Frag) : Addr := He.ga K "_law_ends"
abbrev s_law_right : Stmt := top 32
abbrev a_law_right (K : PySem.W.Frag) : Addr := He.ga K "_law_right"
abbrev s_law : Stmt := top 33
abbrev a_law (K : PySem.W.Frag) : Addr := He.ga K "law"
structure Txt (K : PySem.W.Frag) (mg : Str → Option Value) : Prop where
  n_abs : mg "abs" = none
  n_any : mg "any" = none
  n_bool : mg "bool" = none
  n_enumerate : mg "enumerate" = none
  n_int : mg "int" = none
  n_isinstance : mg "isinstance" = none
  n_len : mg "len" = none
  n_list : mg "list" = none
  n_max : mg "max" = none
  n_min : mg "min" = none
  n_range : mg "range" = none
  n_repr : mg "repr" = none
  n_set : mg "set" = none
  n_sorted : mg "sorted" = none
  n_str : mg "str" = none
  n_sum : mg "sum" = none
  n_tuple : mg "tuple" = none
  c_MOST : ∃ t, mg "MOST" = some (.int 1000000000 t)
  g_is_integer : mg "is_integer" = some (.ref (a_is_integer K))
  g_is_number : mg "is_number" = some (.ref (a_is_number K))
  g_merged : mg "merged" = some (.ref (a_merged K))
  g_halves_between : mg "halves_between" = some (.ref (a_halves_between K))
  g_check_numbers : mg "check_numbers" = some (.ref (a_check_numbers K))
  g_halves_of : mg "halves_of" = some (.ref (a_halves_of K))
  g_run_text : mg "run_text" = some (.ref (a_run_text K))
  g_law_bag : mg "_law_bag" = some (.ref (a_law_bag K))
  g_law_take : mg "_law_take" = some (.ref (a_law_take K))
  g_law_list : mg "_law_list" = some (.ref (a_law_list K))
  g_law_runs : mg "_law_runs" = some (.ref (a_law_runs K))
  g_law_made : mg "_law_made" = some (.ref (a_law_made K))
  g_law_text : mg "_law_text" = some (.ref (a_law_text K))
  g_law_ends : mg "_law_ends" = some (.ref (a_law_ends K))
  g_law_right : mg "_law_right" = some (.ref (a_law_right K))
  g_law : mg "law" = some (.ref (a_law K))
  g_Want : mg "Want" = some (.ref (He.ga K "Want"))
  cl_Want : Cls K (He.ga K "Want")
  no_Want_halves : NoAttr K (He.ga K "Want") "halves"
  mk_Want : Mk K (He.ga K "Want") (a_Want__init K)
  kw_Want__init : KwNon K (a_Want__init K) "halves"
  cm_Want_between : CmOk K (He.ga K "Want") "between" (a_Want_between K)
  cm_Want_stepped : CmOk K (He.ga K "Want") "stepped" (a_Want_stepped K)
  pr_evens : PropOf K (He.ga K "Want") "evens" (prA K (He.ga K "Want") "evens") (a_Want_evens K)
  pr_odds : PropOf K (He.ga K "Want") "odds" (prA K (He.ga K "Want") "odds") (a_Want_odds K)
  pr_low : PropOf K (He.ga K "Want") "low" (prA K (He.ga K "Want") "low") (a_Want_low K)
  pr_high : PropOf K (He.ga K "Want") "high" (prA K (He.ga K "Want") "high") (a_Want_high K)
  pr_many : PropOf K (He.ga K "Want") "many" (prA K (He.ga K "Want") "many") (a_Want_many K)
  pr_corners : PropOf K (He.ga K "Want") "corners" (prA K (He.ga K "Want") "corners") (a_Want_corners K)
  me_Want_least : Meth K (He.ga K "Want") "least" (a_Want_least K)
  me_Want_greatest : Meth K (He.ga K "Want") "greatest" (a_Want_greatest K)
  me_Want_first : Meth K (He.ga K "Want") "first" (a_Want_first K)
  dn_Want__contains : DnOk K (He.ga K "Want") "__contains__" (a_Want__contains K)
  dn_Want__bool : DnOk K (He.ga K "Want") "__bool__" (a_Want__bool K)
  dn_Want__str : DnOk K (He.ga K "Want") "__str__" (a_Want__str K)
  isa : IsaOk (cn K) [0]
  f_is_integer : ∃ fd, FunD K "is_integer" "is_integer" (defArgs s_is_integer) (defBody s_is_integer) (defScope s_is_integer) [] [] (a_is_integer K) fd
  f_is_number : ∃ fd, FunD K "is_number" "is_number" (defArgs s_is_number) (defBody s_is_number) (defScope s_is_number) [] [] (a_is_number K) fd
  f_merged : ∃ fd, FunD K "merged" "merged" (defArgs s_merged) (defBody s_merged) (defScope s_merged) [] [] (a_merged K) fd
  f_halves_between : ∃ fd, FunD K "halves_between" "halves_between" (defArgs s_halves_between) (defBody s_halves_between) (defScope s_halves_between) [] [] (a_halves_between K) fd
  f_check_numbers : ∃ fd, FunD K "check_numbers" "check_numbers" (defArgs s_check_numbers) (defBody s_check_numbers) (defScope s_check_numbers) [] [] (a_check_numbers K) fd
  f_halves_of : ∃ fd, FunD K "halves_of" "halves_of" (defArgs s_halves_of) (defBody s_halves_of) (defScope s_halves_of) [] [] (a_halves_of K) fd
  f_run_text : ∃ fd, FunD K "run_text" "run_text" (defArgs s_run_text) (defBody s_run_text) (defScope s_run_text) [] [] (a_run_text K) fd
  f_Want__init : ∃ fd, FunD K "__init__" "Want.__init__" (defArgs s_Want__init) (defBody s_Want__init) (defScope s_Want__init) [] [] (a_Want__init K) fd
  f_Want_between : ∃ fd, FunD K "between" "Want.between" (defArgs s_Want_between) (defBody s_Want_between) (defScope s_Want_between) [] [] (a_Want_between K) fd
  f_Want_stepped : ∃ fd, FunD K "stepped" "Want.stepped" (defArgs s_Want_stepped) (defBody s_Want_stepped) (defScope s_Want_stepped) [] [] (a_Want_stepped K) fd
  f_Want_evens : ∃ fd, FunD K "evens" "Want.evens" (defArgs s_Want_evens) (defBody s_Want_evens) (defScope s_Want_evens) [] [] (a_Want_evens K) fd
  f_Want_odds : ∃ fd, FunD K "odds" "Want.odds" (defArgs s_Want_odds) (defBody s_Want_odds) (defScope s_Want_odds) [] [] (a_Want_odds K) fd
  f_Want_low : ∃ fd, FunD K "low" "Want.low" (defArgs s_Want_low) (defBody s_Want_low) (defScope s_Want_low) [] [] (a_Want_low K) fd
  f_Want_high : ∃ fd, FunD K "high" "Want.high" (defArgs s_Want_high) (defBody s_Want_high) (defScope s_Want_high) [] [] (a_Want_high K) fd
  f_Want_many : ∃ fd, FunD K "many" "Want.many" (defArgs s_Want_many) (defBody s_Want_many) (defScope s_Want_many) [] [] (a_Want_many K) fd
  f_Want_corners : ∃ fd, FunD K "corners" "Want.corners" (defArgs s_Want_corners) (defBody s_Want_corners) (defScope s_Want_corners) [] [] (a_Want_corners K) fd
  f_Want_least : ∃ fd, FunD K "least" "Want.least" (defArgs s_Want_least) (defBody s_Want_least) (defScope s_Want_least) [] [] (a_Want_least K) fd
  f_Want_greatest : ∃ fd, FunD K "greatest" "Want.greatest" (defArgs s_Want_greatest) (defBody s_Want_greatest) (defScope s_Want_greatest) [] [] (a_Want_greatest K) fd
  f_Want_first : ∃ fd, FunD K "first" "Want.first" (defArgs s_Want_first) (defBody s_Want_first) (defScope s_Want_first) [] [] (a_Want_first K) fd
  f_Want__contains : ∃ fd, FunD K "__contains__" "Want.__contains__" (defArgs s_Want__contains) (defBody s_Want__contains) (defScope s_Want__contains) [] [] (a_Want__contains K) fd
  f_Want__bool : ∃ fd, FunD K "__bool__" "Want.__bool__" (defArgs s_Want__bool) (defBody s_Want__bool) (defScope s_Want__bool) [] [] (a_Want__bool K) fd
  f_Want__str : ∃ fd, FunD K "__str__" "Want.__str__" (defArgs s_Want__str) (defBody s_Want__str) (defScope s_Want__str) [] [] (a_Want__str K) fd
  f_law_bag : ∃ fd, FunD K "_law_bag" "_law_bag" (defArgs s_law_bag) (defBody s_law_bag) (defScope s_law_bag) [] [] (a_law_bag K) fd
  f_law_take : ∃ fd, FunD K "_law_take" "_law_take" (defArgs s_law_take) (defBody s_law_take) (defScope s_law_take) [] [] (a_law_take K) fd
  f_law_list : ∃ fd, FunD K "_law_list" "_law_list" (defArgs s_law_list) (defBody s_law_list) (defScope s_law_list) [] [] (a_law_list K) fd
  f_law_runs : ∃ fd, FunD K "_law_runs" "_law_runs" (defArgs s_law_runs) (defBody s_law_runs) (defScope s_law_runs) [] [] (a_law_runs K) fd
  f_law_made : ∃ fd, FunD K "_law_made" "_law_made" (defArgs s_law_made) (defBody s_law_made) (defScope s_law_made) [] [] (a_law_made K) fd
  f_law_text : ∃ fd, FunD K "_law_text" "_law_text" (defArgs s_law_text) (defBody s_law_text) (defScope s_law_text) [] [] (a_law_text K) fd
  f_law_ends : ∃ fd, FunD K "_law_ends" "_law_ends" (defArgs s_law_ends) (defBody s_law_ends) (defScope s_law_ends) [] [] (a_law_ends K) fd
  f_law_right : ∃ fd, FunD K "_law_right" "_law_right" (defArgs s_law_right) (defBody s_law_right) (defScope s_law_right) [] [] (a_law_right K) fd
  f_law : ∃ fd, FunD K "law" "law" (defArgs s_law) (defBody s_law) (defScope s_law) [] [] (a_law K) fd
def fs : List (PySem.W.Frag → Bool) := [(He.Fa.free "abs").ok,
  (He.Fa.free "any").ok,
  (He.Fa.free "bool").ok,
  (He.Fa.free "enumerate").ok,
  (He.Fa.free "int").ok,
  (He.Fa.free "isinstance").ok,
  (He.Fa.free "len").ok,
  (He.Fa.free "list").ok,
  (He.Fa.free "max").ok,
  (He.Fa.free "min").ok,
  (He.Fa.free "range").ok,
  (He.Fa.free "repr").ok,
  (He.Fa.free "set").ok,
  (He.Fa.free "sorted").ok,
  (He.Fa.free "str").ok,
  (He.Fa.free "sum").ok,
  (He.Fa.free "tuple").ok,
  (He.Fa.int "MOST" 1000000000).ok,
  (He.Fa.glo "is_integer").ok,
  (He.Fa.glo "is_number").ok,
  (He.Fa.glo "merged").ok,
  (He.Fa.glo "halves_between").ok,
  (He.Fa.glo "check_numbers").ok,
  (He.Fa.glo "halves_of").ok,
  (He.Fa.glo "run_text").ok,
  (He.Fa.glo "_law_bag").ok,
  (He.Fa.glo "_law_take").ok,
  (He.Fa.glo "_law_list").ok,
  (He.Fa.glo "_law_runs").ok,
  (He.Fa.glo "_law_made").ok,
  (He.Fa.glo "_law_text").ok,
  (He.Fa.glo "_law_ends").ok,
  (He.Fa.glo "_law_right").ok,
  (He.Fa.glo "law").ok,
  (He.Fa.glo "Want").ok,
  (He.Fa.cls "Want").ok,
  (He.Fa.noat "Want" "halves").ok,
  (He.Fa.mkr "Want").ok,
  kwB a_Want__init "halves",
  cmB "Want" "between",
  cmB "Want" "stepped",
  prB "Want" "evens",
  prB "Want" "odds",
  prB "Want" "low",
  prB "Want" "high",
  prB "Want" "many",
  prB "Want" "corners",
  (He.Fa.meth "Want" "least").ok,
  (He.Fa.meth "Want" "greatest").ok,
  (He.Fa.meth "Want" "first").ok,
  dnB "Want" "__contains__",
  dnB "Want" "__bool__",
  dnB "Want" "__str__",
  isaB clA [0]]
def dx_is_integer : DefX := ⟨a_is_integer, "is_integer", "is_integer", defArgs s_is_integer, defBody s_is_integer, defScope s_is_integer, fun _ => []⟩
def dx_is_number : DefX := ⟨a_is_number, "is_number", "is_number", defArgs s_is_number, defBody s_is_number, defScope s_is_number, fun _ => []⟩
def dx_merged : DefX := ⟨a_merged, "merged", "merged", defArgs s_merged, defBody s_merged, defScope s_merged, fun _ => []⟩
def dx_halves_between : DefX := ⟨a_halves_between, "halves_between", "halves_between", defArgs s_halves_between, defBody s_halves_between, defScope s_halves_between, fun _ => []⟩
def dx_check_numbers : DefX := ⟨a_check_numbers, "check_numbers", "check_numbers", defArgs s_check_numbers, defBody s_check_numbers, defScope s_check_numbers, fun _ => []⟩
def dx_halves_of : DefX := ⟨a_halves_of, "halves_of", "halves_of", defArgs s_halves_of, defBody s_halves_of, defScope s_halves_of, fun _ => []⟩
def dx_run_text : DefX := ⟨a_run_text, "run_text", "run_text", defArgs s_run_text, defBody s_run_text, defScope s_run_text, fun _ => []⟩
def dx_Want__init : DefX := ⟨a_Want__init, "__init__", "Want.__init__", defArgs s_Want__init, defBody s_Want__init, defScope s_Want__init, fun _ => []⟩
def dx_Want_between : DefX := ⟨a_Want_between, "between", "Want.between", defArgs s_Want_between, defBody s_Want_between, defScope s_Want_between, fun _ => []⟩
def dx_Want_stepped : DefX := ⟨a_Want_stepped, "stepped", "Want.stepped", defArgs s_Want_stepped, defBody s_Want_stepped, defScope s_Want_stepped, fun _ => []⟩
def dx_Want_evens : DefX := ⟨a_Want_evens, "evens", "Want.evens", defArgs s_Want_evens, defBody s_Want_evens, defScope s_Want_evens, fun _ => []⟩
def dx_Want_odds : DefX := ⟨a_Want_odds, "odds", "Want.odds", defArgs s_Want_odds, defBody s_Want_odds, defScope s_Want_odds, fun _ => []⟩
def dx_Want_low : DefX := ⟨a_Want_low, "low", "Want.low", defArgs s_Want_low, defBody s_Want_low, defScope s_Want_low, fun _ => []⟩
def dx_Want_high : DefX := ⟨a_Want_high, "high", "Want.high", defArgs s_Want_high, defBody s_Want_high, defScope s_Want_high, fun _ => []⟩
def dx_Want_many : DefX := ⟨a_Want_many, "many", "Want.many", defArgs s_Want_many, defBody s_Want_many, defScope s_Want_many, fun _ => []⟩
def dx_Want_corners : DefX := ⟨a_Want_corners, "corners", "Want.corners", defArgs s_Want_corners, defBody s_Want_corners, defScope s_Want_corners, fun _ => []⟩
def dx_Want_least : DefX := ⟨a_Want_least, "least", "Want.least", defArgs s_Want_least, defBody s_Want_least, defScope s_Want_least, fun _ => []⟩
def dx_Want_greatest : DefX := ⟨a_Want_greatest, "greatest", "Want.greatest", defArgs s_Want_greatest, defBody s_Want_greatest, defScope s_Want_greatest, fun _ => []⟩
def dx_Want_first : DefX := ⟨a_Want_first, "first", "Want.first", defArgs s_Want_first, defBody s_Want_first, defScope s_Want_first, fun _ => []⟩
def dx_Want__contains : DefX := ⟨a_Want__contains, "__contains__", "Want.__contains__", defArgs s_Want__contains, defBody s_Want__contains, defScope s_Want__contains, fun _ => []⟩
def dx_Want__bool : DefX := ⟨a_Want__bool, "__bool__", "Want.__bool__", defArgs s_Want__bool, defBody s_Want__bool, defScope s_Want__bool, fun _ => []⟩
def dx_Want__str : DefX := ⟨a_Want__str, "__str__", "Want.__str__", defArgs s_Want__str, defBody s_Want__str, defScope s_Want__str, fun _ => []⟩
def dx_law_bag : DefX := ⟨a_law_bag, "_law_bag", "_law_bag", defArgs s_law_bag, defBody s_law_bag, defScope s_law_bag, fun _ => []⟩
def dx_law_take : DefX := ⟨a_law_take, "_law_take", "_law_take", defArgs s_law_take, defBody s_law_take, defScope s_law_take, fun _ => []⟩
def dx_law_list : DefX := ⟨a_law_list, "_law_list", "_law_list", defArgs s_law_list, defBody s_law_list, defScope s_law_list, fun _ => []⟩
def dx_law_runs : DefX := ⟨a_law_runs, "_law_runs", "_law_runs", defArgs s_law_runs, defBody s_law_runs, defScope s_law_runs, fun _ => []⟩
def dx_law_made : DefX := ⟨a_law_made, "_law_made", "_law_made", defArgs s_law_made, defBody s_law_made, defScope s_law_made, fun _ => []⟩
def dx_law_text : DefX := ⟨a_law_text, "_law_text", "_law_text", defArgs s_law_text, defBody s_law_text, defScope s_law_text, fun _ => []⟩
def dx_law_ends : DefX := ⟨a_law_ends, "_law_ends", "_law_ends", defArgs s_law_ends, defBody s_law_ends, defScope s_law_ends, fun _ => []⟩
def dx_law_right : DefX := ⟨a_law_right, "_law_right", "_law_right", defArgs s_law_right, defBody s_law_right, defScope s_law_right, fun _ => []⟩
def dx_law : DefX := ⟨a_law, "law", "law", defArgs s_law, defBody s_law, defScope s_law, fun _ => []⟩
def fn : List DefX := [dx_is_integer, dx_is_number, dx_merged, dx_halves_between, dx_check_numbers, dx_halves_of, dx_run_text, dx_Want__init, dx_Want_between, dx_Want_stepped, dx_Want_evens, dx_Want_odds, dx_Want_low, dx_Want_high, dx_Want_many, dx_Want_corners, dx_Want_least, dx_Want_greatest, dx_Want_first, dx_Want__contains, dx_Want__bool, dx_Want__str, dx_law_bag, dx_law_take, dx_law_list, dx_law_runs, dx_law_made, dx_law_text, dx_law_ends, dx_law_right, dx_law]
theorem txt {K : PySem.W.Frag} {h : Heap} {mg : Str → Option Value} (X : K.In h) (G : h.Ns mainGlobals mg) (c : SaysX fs fn K) : Txt K mg where
  n_abs := He.free_ok X G (c.fact 0 (f := (He.Fa.free "abs").ok) rfl)
  n_any := He.free_ok X G (c.fact 1 (f := (He.Fa.free "any").ok) rfl)
  n_bool := He.free_ok X G (c.fact 2 (f := (He.Fa.free "bool").ok) rfl)
  n_enumerate := He.free_ok X G (c.fact 3 (f := (He.Fa.free "enumerate").ok) rfl)
  n_int := He.free_ok X G (c.fact 4 (f := (He.Fa.free "int").ok) rfl)
  n_isinstance := He.free_ok X G (c.fact 5 (f := (He.Fa.free "isinstance").ok) rfl)
  n_len := He.free_ok X G (c.fact 6 (f := (He.Fa.free "len").ok) rfl)
  n_list := He.free_ok X G (c.fact 7 (f := (He.Fa.free "list").ok) rfl)
  n_max := He.free_ok X G (c.fact 8 (f := (He.Fa.free "max").ok) rfl)
  n_min := He.free_ok X G (c.fact 9 (f := (He.Fa.free "min").ok) rfl)
  n_range := He.free_ok X G (c.fact 10 (f := (He.Fa.free "range").ok) rfl)
  n_repr := He.free_ok X G (c.fact 11 (f := (He.Fa.free "repr").ok) rfl)
  n_set := He.free_ok X G (c.fact 12 (f := (He.Fa.free "set").ok) rfl)
  n_sorted := He.free_ok X G (c.fact 13 (f := (He.Fa.free "sorted").ok) rfl)
  n_str := He.free_ok X G (c.fact 14 (f := (He.Fa.free "str").ok) rfl)
  n_sum := He.free_ok X G (c.fact 15 (f := (He.Fa.free "sum").ok) rfl)
  n_tuple := He.free_ok X G (c.fact 16 (f := (He.Fa.free "tuple").ok) rfl)
  c_MOST := He.int_ok X G (c.fact 17 (f := (He.Fa.int "MOST" 1000000000).ok) rfl)
  g_is_integer := He.glo_ok X G (c.fact 18 (f := (He.Fa.glo "is_integer").ok) rfl)
  g_is_number := He.glo_ok X G (c.fact 19 (f := (He.Fa.glo "is_number").ok) rfl)
  g_merged := He.glo_ok X G (c.fact 20 (f := (He.Fa.glo "merged").ok) rfl)
  g_halves_between := He.glo_ok X G (c.fact 21 (f := (He.Fa.glo "halves_between").ok) rfl)
  g_check_numbers := He.glo_ok X G (c.fact 22 (f := (He.Fa.glo "check_numbers").ok) rfl)
  g_halves_of := He.glo_ok X G (c.fact 23 (f := (He.Fa.glo "halves_of").ok) rfl)
  g_run_text := He.glo_ok X G (c.fact 24 (f := (He.Fa.glo "run_text").ok) rfl)
  g_law_bag := He.glo_ok X G (c.fact 25 (f := (He.Fa.glo "_law_bag").ok) rfl)
  g_law_take := He.glo_ok X G (c.fact 26 (f := (He.Fa.glo "_law_take").ok) rfl)
  g_law_list := He.glo_ok X G (c.fact 27 (f := (He.Fa.glo "_law_list").ok) rfl)
  g_law_runs := He.glo_ok X G (c.fact 28 (f := (He.Fa.glo "_law_runs").ok) rfl)
  g_law_made := He.glo_ok X G (c.fact 29 (f := (He.Fa.glo "_law_made").ok) rfl)
  g_law_text := He.glo_ok X G (c.fact 30 (f := (He.Fa.glo "_law_text").ok) rfl)
  g_law_ends := He.glo_ok X G (c.fact 31 (f := (He.Fa.glo "_law_ends").ok) rfl)
  g_law_right := He.glo_ok X G (c.fact 32 (f := (He.Fa.glo "_law_right").ok) rfl)
  g_law := He.glo_ok X G (c.fact 33 (f := (He.Fa.glo "law").ok) rfl)
  g_Want := He.glo_ok X G (c.fact 34 (f := (He.Fa.glo "Want").ok) rfl)
  cl_Want := He.cls_ok (c.fact 35 (f := (He.Fa.cls "Want").ok) rfl)
  no_Want_halves := He.noat_ok (c.fact 36 (f := (He.Fa.noat "Want" "halves").ok) rfl)
  mk_Want := He.mkr_ok (c.fact 37 (f := (He.Fa.mkr "Want").ok) rfl)
  kw_Want__init := kwB_ok (c.fact 38 (f := kwB a_Want__init "halves") rfl)
  cm_Want_between := cmB_ok (c.fact 39 (f := cmB "Want" "between") rfl)
  cm_Want_stepped := cmB_ok (c.fact 40 (f := cmB "Want" "stepped") rfl)
  pr_evens := prB_ok (c.fact 41 (f := prB "Want" "evens") rfl)
  pr_odds := prB_ok (c.fact 42 (f := prB "Want" "odds") rfl)
  pr_low := prB_ok (c.fact 43 (f := prB "Want" "low") rfl)
  pr_high := prB_ok (c.fact 44 (f := prB "Want" "high") rfl)
  pr_many := prB_ok (c.fact 45 (f := prB "Want" "many") rfl)
  pr_corners := prB_ok (c.fact 46 (f := prB "Want" "corners") rfl)
  me_Want_least := He.meth_ok (c.fact 47 (f := (He.Fa.meth "Want" "least").ok) rfl)
  me_Want_greatest := He.meth_ok (c.fact 48 (f := (He.Fa.meth "Want" "greatest").ok) rfl)
  me_Want_first := He.meth_ok (c.fact 49 (f := (He.Fa.meth "Want" "first").ok) rfl)
  dn_Want__contains := dnB_ok (c.fact 50 (f := dnB "Want" "__contains__") rfl)
  dn_Want__bool := dnB_ok (c.fact 51 (f := dnB "Want" "__bool__") rfl)
  dn_Want__str := dnB_ok (c.fact 52 (f := dnB "Want" "__str__") rfl)
  isa := isaB_ok rfl rfl (c.fact 53 (f := isaB clA [0]) rfl)
  f_is_integer := c.def_ 0 (d := dx_is_integer) rfl
  f_is_number := c.def_ 1 (d := dx_is_number) rfl
  f_merged := c.def_ 2 (d := dx_merged) rfl
  f_halves_between := c.def_ 3 (d := dx_halves_between) rfl
  f_check_numbers := c.def_ 4 (d := dx_check_numbers) rfl
  f_halves_of := c.def_ 5 (d := dx_halves_of) rfl
  f_run_text := c.def_ 6 (d := dx_run_text) rfl
  f_Want__init := c.def_ 7 (d := dx_Want__init) rfl
  f_Want_between := c.def_ 8 (d := dx_Want_between) rfl
  f_Want_stepped := c.def_ 9 (d := dx_Want_stepped) rfl
  f_Want_evens := c.def_ 10 (d := dx_Want_evens) rfl
  f_Want_odds := c.def_ 11 (d := dx_Want_odds) rfl
  f_Want_low := c.def_ 12 (d := dx_Want_low) rfl
  f_Want_high := c.def_ 13 (d := dx_Want_high) rfl
  f_Want_many := c.def_ 14 (d := dx_Want_many) rfl
  f_Want_corners := c.def_ 15 (d := dx_Want_corners) rfl
  f_Want_least := c.def_ 16 (d := dx_Want_least) rfl
  f_Want_greatest := c.def_ 17 (d := dx_Want_greatest) rfl
  f_Want_first := c.def_ 18 (d := dx_Want_first) rfl
  f_Want__contains := c.def_ 19 (d := dx_Want__contains) rfl
  f_Want__bool := c.def_ 20 (d := dx_Want__bool) rfl
  f_Want__str := c.def_ 21 (d := dx_Want__str) rfl
  f_law_bag := c.def_ 22 (d := dx_law_bag) rfl
  f_law_take := c.def_ 23 (d := dx_law_take) rfl
  f_law_list := c.def_ 24 (d := dx_law_list) rfl
  f_law_runs := c.def_ 25 (d := dx_law_runs) rfl
  f_law_made := c.def_ 26 (d := dx_law_made) rfl
  f_law_text := c.def_ 27 (d := dx_law_text) rfl
  f_law_ends := c.def_ 28 (d := dx_law_ends) rfl
  f_law_right := c.def_ 29 (d := dx_law_right) rfl
  f_law := c.def_ 30 (d := dx_law) rfl
theorem nd_Want {K : PySem.W.Frag} : ((cn K).fn 0).Nodup := (by decide : (flA 0).Nodup)
theorem nm_Want_least {K : PySem.W.Frag} : ("least" : Str) ∉ (cn K).fn 0 := (by decide : ("least" : Str) ∉ flA 0)
theorem nm_Want_greatest {K : PySem.W.Frag} : ("greatest" : Str) ∉ (cn K).fn 0 := (by decide : ("greatest" : Str) ∉ flA 0)
theorem nm_Want_first {K : PySem.W.Frag} : ("first" : Str) ∉ (cn K).fn 0 := (by decide : ("first" : Str) ∉ flA 0)
section
variable {P : Program} {w : World} {K : PySem.W.Frag} {mg : Str → Option Value} {base : Heap}
theorem sc_is_integer : FnScope ["thing"] ["thing"] (defScope s_is_integer) := ⟨rfl, rfl, rfl, by decide +kernel, rfl, by decide +kernel, by decide +kernel⟩
def b_is_integer : MS := (sRet (mAnd (mIsi [0] (.ty .int) (mVar 0)) (mNot (mIsi [0] (.ty .bool) (mVar 0)))))
def m_is_integer : MF := mDef 1 1 b_is_integer
theorem ar_is_integer : Ar 1 m_is_integer := mDef_ar
theorem ok_is_integer (T : Txt K mg) : ∃ fd, FnG P w K mg base 1 (a_is_integer K) fd ["thing"] (SpD (cn K) 1 m_is_integer) ∧ Binds K fd ["thing"] [] ∧ PySem.W.keepIn K (.ref (a_is_integer K)) = true := by
  obtain ⟨fd, F⟩ := T.f_is_integer
  refine ⟨fd, fn_ok (k := cn K) F sc_is_integer (by decide) fun cdv A outer s H E hr => ?_, F.bindsN fun _ _ _ _ _ _ us hl => match us, hl with | [_], _ => rfl, F.kp⟩
  have tk : Takes (cxOf (L2.CX P w) P w K mg base ["thing"] "is_integer" (defScope s_is_integer) (a_is_integer K) cdv A outer s H E) (fun c d _ H => E c d H) := takes_of rfl rfl rfl rfl
  exact (dss_one (ds_ret (de_and (de_isi (by rfl) T.n_isinstance T.isa rfl rfl (dv 0) (pe_bltn (v := .ty "int") (by rfl) T.n_int (by decide +kernel) rfl)) (de_one (de_not (de_isi (by rfl) T.n_isinstance T.isa rfl rfl (dv 0) (pe_bltn (v := .ty "bool") (by rfl) T.n_bool (by decide +kernel) rfl)))))))
theorem sc_is_number : FnScope ["thing"] ["thing"] (defScope s_is_number) := ⟨rfl, rfl, rfl, by decide +kernel, rfl, by decide +kernel, by decide +kernel⟩
def b_is_number : MS := (sRet (mAnd (mCall m_is_integer [] (mCons (mVar 0) mNil)) (mChain oLe oLe (mUn oNeg (mC (.int 1000000000))) (mVar 0) (mC (.int 1000000000)))))
def m_is_number : MF := mDef 1 1 b_is_number
theorem e_is_number (x0 : D) (C : Store) : m_is_number [x0] C = finS C.length (b_is_number ⟨C.length, [some x0]⟩ C) := mDef_e rfl rfl
theorem ar_is_number : Ar 1 m_is_number := mDef_ar
theorem ok_is_number (T : Txt K mg) : ∃ fd, FnG P w K mg base 2 (a_is_number K) fd ["thing"] (SpD (cn K) 1 m_is_number) ∧ Binds K fd ["thing"] [] ∧ PySem.W.keepIn K (.ref (a_is_number K)) = true := by
  obtain ⟨fd_is_integer, F_is_integer, B_is_integer, kp_is_integer⟩ := ok_is_integer (P := P) (w := w) (base := base) T
  obtain ⟨t_MOST, h_MOST⟩ := T.c_MOST
  obtain ⟨fd, F⟩ := T.f_is_number
  refine ⟨fd, fn_ok (k := cn K) F sc_is_number (by decide) fun cdv A outer s H E hr => ?_, F.bindsN fun _ _ _ _ _ _ us hl => match us, hl with | [_], _ => rfl, F.kp⟩
  have tk : Takes (cxOf (L2.CX P w) P w K mg base ["thing"] "is_number" (defScope s_is_number) (a_is_number K) cdv A outer s H E) (fun c d _ H => E c d H) := takes_of rfl rfl rfl rfl
  exact (dss_one (ds_ret (de_and (de_call tk F_is_integer ar_is_integer (hr.mono (by decide)) (by rfl) T.g_is_integer kp_is_integer B_is_integer .nil (fun _ _ _ => .nil) (da_cons (dv 0) da_nil)) (de_one (de_chain op_le d_le op_le d_le (de_un un_neg d_neg (de_glob (fun _ _ _ => .int _) (by rfl) h_MOST ⟨_, rfl⟩)) (dv 0) (de_glob (fun _ _ _ => .int _) (by rfl) h_MOST ⟨_, rfl⟩))))))
theorem sc_merged : FnScope ["runs", "found", "low", "high"] ["runs"] (defScope s_merged) := ⟨rfl, rfl, rfl, by decide +kernel, rfl, by decide +kernel, by decide +kernel⟩
def b_merged_0 : MS := (sAsg (mAp (oLst true) mNil) (gN 1))
def b_merged_1b_0 : MS := (sIf (tAndM (mTst (mOp (oEqA true) (mVar 1) (mAp (oLst false) mNil))) (mTst (mOp oLe (mVar 2) (mOp oAdd (mOp oIx (mOp oIx (mVar 1) (mUn oNeg (mC (.int 1)))) (mC (.int 1))) (mC (.int 2)))))) (sSetL (mAp oTup (mCons (mOp oIx (mOp oIx (mVar 1) (mUn oNeg (mC (.int 1)))) (mC (.int 0))) (mCons (mAp oMax2 (mCons (mOp oIx (mOp oIx (mVar 1) (mUn oNeg (mC (.int 1)))) (mC (.int 1))) (mCons (mVar 3) mNil))) mNil))) (mVar 1) (mUn oNeg (mC (.int 1)))) (sDrop (mAppend (mVar 1) (mAp oTup (mCons (mVar 2) (mCons (mVar 3) mNil))))))
def b_merged_1 : MS := (sFor (mSeq (mAp (oSortQ false) (mCons (mVar 0) mNil))) (Tgt.tp [2, 3]).M b_merged_1b_0)
def b_merged_2 : MS := (sRet (mAp oTupOf (mCons (mVar 1) mNil)))
def b_merged : MS := (sSeq b_merged_0 (sSeq b_merged_1 b_merged_2))
def m_merged : MF := mDef 1 4 b_merged
theorem e_merged (x0 : D) (C : Store) : m_merged [x0] C = finS C.length (b_merged ⟨C.length, [some x0, none, none, none]⟩ C) := mDef_e rfl rfl
theorem ar_merged : Ar 1 m_merged := mDef_ar
theorem ok_merged (T : Txt K mg) : ∃ fd, FnG P w K mg base 1 (a_merged K) fd ["runs"] (SpD (cn K) 1 m_merged) ∧ Binds K fd ["runs"] [] ∧ PySem.W.keepIn K (.ref (a_merged K)) = true := by
  obtain ⟨fd, F⟩ := T.f_merged
  refine ⟨fd, fn_ok (k := cn K) F sc_merged (by decide) fun cdv A outer s H E hr => ?_, F.bindsN fun _ _ _ _ _ _ us hl => match us, hl with | [_], _ => rfl, F.kp⟩
  have tk : Takes (cxOf (L2.CX P w) P w K mg base ["runs", "found", "low", "high"] "merged" (defScope s_merged) (a_merged K) cdv A outer s H E) (fun c d _ H => E c d H) := takes_of rfl rfl rfl rfl
  exact (dss_cons (ds_set (i := 1) sc_merged.nd rfl (Or.inl rfl) (de_lst true da_nil))
  (dss_cons (ds_for (passes_of rfl) rfl (di_seq rfl (de_callB ((cr_sortA hr.u200).or (cr_sortP hr.u200)) d_sortQ (by rfl) T.n_sorted (by decide +kernel) (da_cons (dv 0) da_nil))) (tg_tp [2, 3] rfl rfl (pgs_cons (pg_name (i := 2) sc_merged.nd rfl (Or.inl rfl)) (pgs_cons (pg_name (i := 3) sc_merged.nd rfl (Or.inl rfl)) pgs_nil))) (dss_one (ds_if (PW.pt (dw_and (dt_cmp (op_ne.or (op_neD hr.room.units)) d_neA (dv 1) (de_lst false da_nil) (nomark _)) (dw_and1 (dt_cmp op_le d_le (dv 2) (de_op op_add d_add (de_ix ix_seq d_ix (de_ix ix_seq d_ix (dv 1) (de_un un_neg d_neg de_int)) de_int) de_int) (nomark _))))) (dss_one (ds_setL (de_tup (da_cons (de_ix ix_seq d_ix (de_ix ix_seq d_ix (dv 1) (de_un un_neg d_neg de_int)) de_int) (da_cons (de_callB (call_max2 rfl) d_max2 (by rfl) T.n_max (by decide +kernel) (da_cons (de_ix ix_seq d_ix (de_ix ix_seq d_ix (dv 1) (de_un un_neg d_neg de_int)) de_int) (da_cons (dv 3) da_nil))) da_nil))) (pg_sub (dv 1) (de_un un_neg d_neg de_int) set_list))) (dss_one (ds_expr (de_append rfl (dv 1) (de_tup (da_cons (dv 2) (da_cons (dv 3) da_nil)))))))))
  (dss_one (ds_ret (de_callTy call_tuple_of d_tupOf (by rfl) T.n_tuple (by decide +kernel) (da_cons (dv 1) da_nil))))))
theorem sc_halves_between : FnScope ["low", "high", "found", "parity", "first", "last"] ["low", "high"] (defScope s_halves_between) := ⟨rfl, rfl, rfl, by decide +kernel, rfl, by decide +kernel, by decide +kernel⟩
def b_halves_between_0 : MS := (sAsg (mAp (oLst true) mNil) (gN 2))
def b_halves_between_1b_0 : MS := (sPar [4, 5] (mCons (mOp oAdd (mVar 0) (mOp oMod (mOp oAdd (mVar 0) (mVar 3)) (mC (.int 2)))) (mCons (mOp oSub (mVar 1) (mOp oMod (mOp oAdd (mVar 1) (mVar 3)) (mC (.int 2)))) mNil)))
def b_halves_between_1b_1 : MS := (sDrop (mAppend (mVar 2) (mIf (mTst (mOp oLe (mVar 4) (mVar 5))) (mAp oTup (mCons (mAp oTup (mCons (mVar 4) (mCons (mVar 5) mNil))) mNil)) (mAp oTup mNil))))
def b_halves_between_1 : MS := (sFor (mSeq (mAp oTup (mCons (mC (.int 0)) (mCons (mC (.int 1)) mNil)))) (Tgt.nm 3).M (sSeq b_halves_between_1b_0 b_halves_between_1b_1))
def b_halves_between_2 : MS := (sRet (mAp oTup (mCons (mOp oIx (mVar 2) (mC (.int 0))) (mCons (mOp oIx (mVar 2) (mC (.int 1))) mNil))))
def b_halves_between : MS := (sSeq b_halves_between_0 (sSeq b_halves_between_1 b_halves_between_2))
def m_halves_between : MF := mDef 2 6 b_halves_between
theorem e_halves_between (x0 x1 : D) (C : Store) : m_halves_between [x0, x1] C = finS C.length (b_halves_between ⟨C.length, [some x0, some x1, none, none, none, none]⟩ C) := mDef_e rfl rfl
theorem ar_halves_between : Ar 2 m_halves_between := mDef_ar
theorem ok_halves_between (T : Txt K mg) : ∃ fd, FnG P w K mg base 1 (a_halves_between K) fd ["low", "high"] (SpD (cn K) 2 m_halves_between) ∧ Binds K fd ["low", "high"] [] ∧ PySem.W.keepIn K (.ref (a_halves_between K)) = true := by
  obtain ⟨fd, F⟩ := T.f_halves_between
  refine ⟨fd, fn_ok (k := cn K) F sc_halves_between (by decide) fun cdv A outer s H E hr => ?_, F.bindsN fun _ _ _ _ _ _ us hl => match us, hl with | [_, _], _ => rfl, F.kp⟩
  have tk : Takes (cxOf (L2.CX P w) P w K mg base ["low", "high", "found", "parity", "first", "last"] "halves_between" (defScope s_halves_between) (a_halves_between K) cdv A outer s H E) (fun c d _ H => E c d H) := takes_of rfl rfl rfl rfl
  exact (dss_cons (ds_set (i := 2) sc_halves_between.nd rfl (Or.inl rfl) (de_lst true da_nil))
  (dss_cons (ds_for (passes_of rfl) rfl (di_seq rfl (de_tup (da_cons de_int (da_cons de_int da_nil)))) (tg_nm (i := 3) sc_halves_between.nd rfl (Or.inl rfl)) (dss_cons (ds_par (i := 4) (j := 5) rfl sc_halves_between.nd rfl rfl (by decide) rfl rfl (da_cons (de_op op_add d_add (dv 0) (de_op op_mod d_mod (de_op op_add d_add (dv 0) (dv 3)) de_int)) (da_cons (de_op op_sub d_sub (dv 1) (de_op op_mod d_mod (de_op op_add d_add (dv 1) (dv 3)) de_int)) da_nil)))
  (dss_one (ds_expr (de_append rfl (dv 2) (de_if (dt_cmp op_le d_le (dv 4) (dv 5) (nomark _)) (de_tup (da_cons (de_tup (da_cons (dv 4) (da_cons (dv 5) da_nil))) da_nil)) (de_tup da_nil)))))))
  (dss_one (ds_ret (de_tup (da_cons (de_ix ix_seq d_ix (dv 2) de_int) (da_cons (de_ix ix_seq d_ix (dv 2) de_int) da_nil)))))))
theorem sc_check_numbers : FnScope ["numbers", "place", "thing"] ["numbers"] (defScope s_check_numbers) := ⟨rfl, rfl, rfl, by decide +kernel, rfl, by decide +kernel, by decide +kernel⟩
def b_check_numbersb_0 : MS := (sIf (tNotM (mTst (mCall m_is_number [] (mCons (mVar 2) mNil)))) sNever sNext)
def b_check_numbers : MS := (sFor (mEnum (mVar 0)) (Tgt.tp [1, 2]).M b_check_numbersb_0)
def m_check_numbers : MF := mDef 1 3 b_check_numbers
theorem e_check_numbers (x0 : D) (C : Store) : m_check_numbers [x0] C = finS C.length (b_check_numbers ⟨C.length, [some x0, none, none]⟩ C) := mDef_e rfl rfl
theorem ar_check_numbers : Ar 1 m_check_numbers := mDef_ar
theorem ok_check_numbers (T : Txt K mg) : ∃ fd, FnG P w K mg base 3 (a_check_numbers K) fd ["numbers"] (SpD (cn K) 1 m_check_numbers) ∧ Binds K fd ["numbers"] [] ∧ PySem.W.keepIn K (.ref (a_check_numbers K)) = true := by
  obtain ⟨fd_is_number, F_is_number, B_is_number, kp_is_number⟩ := ok_is_number (P := P) (w := w) (base := base) T
  obtain ⟨fd, F⟩ := T.f_check_numbers
  refine ⟨fd, fn_ok (k := cn K) F sc_check_numbers (by decide) fun cdv A outer s H E hr => ?_, F.bindsN fun _ _ _ _ _ _ us hl => match us, hl with | [_], _ => rfl, F.kp⟩
  have tk : Takes (cxOf (L2.CX P w) P w K mg base ["numbers", "place", "thing"] "check_numbers" (defScope s_check_numbers) (a_check_numbers K) cdv A outer s H E) (fun c d _ H => E c d H) := takes_of rfl rfl rfl rfl
  exact (dss_one (ds_for (passes_of rfl) rfl (di_enum (by rfl) T.n_enumerate rfl (dv 0)) (tg_tp [1, 2] rfl rfl (pgs_cons (pg_name (i := 1) sc_check_numbers.nd rfl (Or.inl rfl)) (pgs_cons (pg_name (i := 2) sc_check_numbers.nd rfl (Or.inl rfl)) pgs_nil))) (dss_one (ds_if (dt_not (dt_val (de_call tk F_is_number ar_is_number (hr.mono (by decide)) (by rfl) T.g_is_number kp_is_number B_is_number .nil (fun _ _ _ => .nil) (da_cons (dv 2) da_nil)))) (dss_one ds_never) dss_nil))))
theorem sc_halves_of : FnScope ["numbers", "parity", "x"] ["numbers"] (defScope s_halves_of) := ⟨rfl, rfl, rfl, by decide +kernel, rfl, by decide +kernel, by decide +kernel⟩
def b_halves_of : MS := (sRet (mAp oTupOf (mCons (mLc false (mSeq (mAp oTup (mCons (mC (.int 0)) (mCons (mC (.int 1)) mNil)))) (Tgt.nm 1).M tYesM (mCall m_merged [] (mCons (mLc false (mSeq (mVar 0)) (Tgt.nm 2).M (mTst (mOp (oEqA false) (mOp oMod (mVar 2) (mC (.int 2))) (mVar 1))) (mAp oTup (mCons (mVar 2) (mCons (mVar 2) mNil))) [2]) mNil)) [1]) mNil)))
def m_halves_of : MF := mDef 1 3 b_halves_of
theorem e_halves_of (x0 : D) (C : Store) : m_halves_of [x0] C = finS C.length (b_halves_of ⟨C.length, [some x0, none, none]⟩ C) := mDef_e rfl rfl
theorem ar_halves_of : Ar 1 m_halves_of := mDef_ar
theorem ok_halves_of (T : Txt K mg) : ∃ fd, FnG P w K mg base 2 (a_halves_of K) fd ["numbers"] (SpD (cn K) 1 m_halves_of) ∧ Binds K fd ["numbers"] [] ∧ PySem.W.keepIn K (.ref (a_halves_of K)) = true := by
  obtain ⟨fd_merged, F_merged, B_merged, kp_merged⟩ := ok_merged (P := P) (w := w) (base := base) T
  obtain ⟨fd, F⟩ := T.f_halves_of
  refine ⟨fd, fn_ok (k := cn K) F sc_halves_of (by decide) fun cdv A outer s H E hr => ?_, F.bindsN fun _ _ _ _ _ _ us hl => match us, hl with | [_], _ => rfl, F.kp⟩
  have tk : Takes (cxOf (L2.CX P w) P w K mg base ["numbers", "parity", "x"] "halves_of" (defScope s_halves_of) (a_halves_of K) cdv A outer s H E) (fun c d _ H => E c d H) := takes_of rfl rfl rfl rfl
  exact (dss_one (ds_ret (de_callTy call_tuple_of d_tupOf (by rfl) T.n_tuple (by decide +kernel) (da_cons (de_lc (own := [("parity", 1)]) false rfl rfl sc_halves_of.nd (di_seq rfl (de_tup (da_cons de_int (da_cons de_int da_nil)))) (blkOk_by (own := [("parity", 1)]) rfl) (by decide) (fun _ _ _ _ _ => (tg_nm (i := 1) sc_halves_of.nd rfl (by first | exact Or.inl rfl | exact Or.inr rfl))) (fun _ _ _ _ _ => dts_nil) (fun _ _ _ _ _ => (de_call takes0 F_merged ar_merged (hr.mono (by decide)) (by rfl) T.g_merged kp_merged B_merged .nil (fun _ _ _ => .nil) (da_cons (de_lc (own := [("x", 2)]) false rfl rfl sc_halves_of.nd (di_seq rfl (dv 0)) (blkOk_by (own := [("x", 2)]) rfl) (by decide) (fun _ _ _ _ _ => (tg_nm (i := 2) sc_halves_of.nd rfl (by first | exact Or.inl rfl | exact Or.inr rfl))) (fun _ _ _ _ _ => (pts_one (dt_cmp (op_eq.or (op_eqD hr.room.units)) d_eqA (de_op op_mod d_mod (dv 2) de_int) (dv 1) (nomark _)))) (fun _ _ _ _ _ => (de_tup (da_cons (dv 2) (da_cons (dv 2) da_nil))))) da_nil)))) da_nil))))
theorem sc_run_text : FnScope ["run"] ["run"] (defScope s_run_text) := ⟨rfl, rfl, rfl, by decide +kernel, rfl, by decide +kernel, by decide +kernel⟩
def b_run_text : MS := (sRet (mIf (mTst (mOp (oEqA false) (mOp oIx (mVar 0) (mC (.int 0))) (mOp oIx (mVar 0) (mC (.int 1))))) (mAp oStrI (mCons (mOp oIx (mVar 0) (mC (.int 0))) mNil)) (mFs [.ex (mOp oIx (mVar 0) (mC (.int 0))), .txt "..", .ex (mOp oIx (mVar 0) (mC (.int 1))), .txt "/2"])))
def m_run_text : MF := mDef 1 1 b_run_text
theorem e_run_text (x0 : D) (C : Store) : m_run_text [x0] C = finS C.length (b_run_text ⟨C.length, [some x0]⟩ C) := mDef_e rfl rfl
theorem ar_run_text : Ar 1 m_run_text := mDef_ar
theorem ok_run_text (T : Txt K mg) : ∃ fd, FnG P w K mg base 1 (a_run_text K) fd ["run"] (SpD (cn K) 1 m_run_text) ∧ Binds K fd ["run"] [] ∧ PySem.W.keepIn K (.ref (a_run_text K)) = true := by
  obtain ⟨fd, F⟩ := T.f_run_text
  refine ⟨fd, fn_ok (k := cn K) F sc_run_text (by decide) fun cdv A outer s H E hr => ?_, F.bindsN fun _ _ _ _ _ _ us hl => match us, hl with | [_], _ => rfl, F.kp⟩
  have tk : Takes (cxOf (L2.CX P w) P w K mg base ["run"] "run_text" (defScope s_run_text) (a_run_text K) cdv A outer s H E) (fun c d _ H => E c d H) := takes_of rfl rfl rfl rfl
  exact (dss_one (ds_ret (de_if (dt_cmp (op_eq.or (op_eqD hr.room.units)) d_eqA (de_ix ix_seq d_ix (dv 0) de_int) (de_ix ix_seq d_ix (dv 0) de_int) (nomark _)) (de_callTy call_str_int d_strI (by rfl) T.n_str (by decide +kernel) (da_cons (de_ix ix_seq d_ix (dv 0) de_int) da_nil)) (de_fs (ps := [.ex (mOp oIx (mVar 0) (mC (.int 0))), .txt "..", .ex (mOp oIx (mVar 0) (mC (.int 1))), .txt "/2"]) (PJ.cons (pe_fmt (de_ix ix_seq d_ix (dv 0) de_int)) (PJ.cons pe_str (PJ.cons (pe_fmt (de_ix ix_seq d_ix (dv 0) de_int)) (PJ.cons pe_str PJ.nil))))))))
theorem sc_Want__init : FnScope ["self", "halves", "numbers"] ["self", "halves", "numbers"] (defScope s_Want__init) := ⟨rfl, rfl, rfl, by decide +kernel, rfl, by decide +kernel, by decide +kernel⟩
def b_Want__init_0 : MS := (sDrop (mCall m_check_numbers [] (mCons (mVar 2) mNil)))
def b_Want__init_1 : MS := (sIf (mTst (mOp oGt (mAp oLenSI (mCons (mVar 2) mNil)) (mC (.int 40)))) sNever sNext)
def b_Want__init_2 : MS := (sFldS 0 0 (mIf (mTst (mOp (oIsN false) (mVar 1) (mC .non))) (mCall m_halves_of [] (mCons (mVar 2) mNil)) (mVar 1)) (mVar 0))
def b_Want__init : MS := (sSeq b_Want__init_0 (sSeq b_Want__init_1 b_Want__init_2))
def m_Want__init : MF := mDef 3 3 b_Want__init
theorem e_Want__init (x0 x1 x2 : D) (C : Store) : m_Want__init [x0, x1, x2] C = finS C.length (b_Want__init ⟨C.length, [some x0, some x1, some x2]⟩ C) := mDef_e rfl rfl
theorem ok_Want__init (T : Txt K mg) : ∃ fd, FnW P w K mg base 4 (a_Want__init K) fd ["self", "halves", "numbers"] (SpD (cn K) 3 m_Want__init) ∧ BnW K fd ["self", "halves", "numbers"] .pos 0 [] ∧ BnW K fd ["self", "halves", "numbers"] .pos 1 [] ∧ BnW K fd ["self", "halves", "numbers"] .pos 2 [] ∧ BnW K fd ["self", "halves", "numbers"] .pos 3 [] ∧ BnW K fd ["self", "halves", "numbers"] .pos 5 [] ∧ BnW K fd ["self", "halves", "numbers"] .pos 8 [] ∧ BnW K fd ["self", "halves", "numbers"] .pos 12 [] ∧ BnW K fd ["self", "halves", "numbers"] .kw 1 ["halves"] := by
  obtain ⟨fd_check_numbers, F_check_numbers, B_check_numbers, kp_check_numbers⟩ := ok_check_numbers (P := P) (w := w) (base := base) T
  obtain ⟨fd_halves_of, F_halves_of, B_halves_of, kp_halves_of⟩ := ok_halves_of (P := P) (w := w) (base := base) T
  obtain ⟨fd, F⟩ := T.f_Want__init
  refine ⟨fd, fn_okW (k := cn K) F sc_Want__init (by decide) fun cdv A outer s H E hr => ?_, bn_pos F T.kw_Want__init 0 (by decide) fun D doc pm an cdv ct u0 us hl => match us, hl with | [], _ => ⟨_, _, _, _, _, _, rfl, rfl, rfl⟩, bn_pos F T.kw_Want__init 1 (by decide) fun D doc pm an cdv ct u0 us hl => match us, hl with | [_], _ => ⟨_, _, _, _, _, _, rfl, rfl, rfl⟩, bn_pos F T.kw_Want__init 2 (by decide) fun D doc pm an cdv ct u0 us hl => match us, hl with | [_, _], _ => ⟨_, _, _, _, _, _, rfl, rfl, rfl⟩, bn_pos F T.kw_Want__init 3 (by decide) fun D doc pm an cdv ct u0 us hl => match us, hl with | [_, _, _], _ => ⟨_, _, _, _, _, _, rfl, rfl, rfl⟩, bn_pos F T.kw_Want__init 5 (by decide) fun D doc pm an cdv ct u0 us hl => match us, hl with | [_, _, _, _, _], _ => ⟨_, _, _, _, _, _, rfl, rfl, rfl⟩, bn_pos F T.kw_Want__init 8 (by decide) fun D doc pm an cdv ct u0 us hl => match us, hl with | [_, _, _, _, _, _, _, _], _ => ⟨_, _, _, _, _, _, rfl, rfl, rfl⟩, bn_pos F T.kw_Want__init 12 (by decide) fun D doc pm an cdv ct u0 us hl => match us, hl with | [_, _, _, _, _, _, _, _, _, _, _, _], _ => ⟨_, _, _, _, _, _, rfl, rfl, rfl⟩, bn_kw F fun _ _ _ _ _ _ _ _ => rfl⟩
  have tk : Takes (cxOf (L2.CX P w) P w K mg base ["self", "halves", "numbers"] "Want.__init__" (defScope s_Want__init) (a_Want__init K) cdv A outer s H E) (fun c d _ H => E c d H) := takes_of rfl rfl rfl rfl
  exact (dss_cons (ds_expr (de_call tk F_check_numbers ar_check_numbers (hr.mono (by decide)) (by rfl) T.g_check_numbers kp_check_numbers B_check_numbers .nil (fun _ _ _ => .nil) (da_cons (dv 2) da_nil)))
  (dss_cons (ds_if (dt_cmp op_gt d_gt (de_lenSI rfl rfl (by rfl) T.n_len (by rfl) T.n_set (da_cons (dv 2) da_nil)) de_int (nomark _)) (dss_one ds_never) dss_nil)
  (dss_one (ds_fld 0 0 rfl T.cl_Want T.no_Want_halves nd_Want rfl (show 1 < 1000 by decide) (dv 0) (de_if (dt_cmp op_isN d_isN (dv 1) de_non (nomark _)) (de_call tk F_halves_of ar_halves_of (hr.mono (by decide)) (by rfl) T.g_halves_of kp_halves_of B_halves_of .nil (fun _ _ _ => .nil) (da_cons (dv 2) da_nil)) (dv 1))))))
theorem sc_Want_between : FnScope ["cls", "low", "high"] ["cls", "low", "high"] (defScope s_Want_between) := ⟨rfl, rfl, rfl, by decide +kernel, rfl, by decide +kernel, by decide +kernel⟩
def b_Want_between_0 : MS := (sDrop (mCall m_check_numbers [] (mCons (mAp oTup (mCons (mVar 1) (mCons (mVar 2) mNil))) mNil)))
def b_Want_between_1 : MS := (sRet (mMkC 0 0 1 m_Want__init (mCall m_halves_between [] (mCons (mVar 1) (mCons (mVar 2) mNil)))))
def b_Want_between : MS := (sSeq b_Want_between_0 b_Want_between_1)
def m_Want_between : MF := mDef 3 3 b_Want_between
theorem e_Want_between (x0 x1 x2 : D) (C : Store) : m_Want_between [x0, x1, x2] C = finS C.length (b_Want_between ⟨C.length, [some x0, some x1, some x2]⟩ C) := mDef_e rfl rfl
theorem ar_Want_between : Ar 3 m_Want_between := mDef_ar
theorem ok_Want_between (T : Txt K mg) : ∃ fd, FnG P w K mg base 6 (a_Want_between K) fd ["cls", "low", "high"] (SpD (cn K) 3 m_Want_between) ∧ Binds K fd ["cls", "low", "high"] [] ∧ PySem.W.keepIn K (.ref (a_Want_between K)) = true := by
  obtain ⟨fd_check_numbers, F_check_numbers, B_check_numbers, kp_check_numbers⟩ := ok_check_numbers (P := P) (w := w) (base := base) T
  obtain ⟨fd_Want__init, F_Want__init, Bn0_Want__init, Bn1_Want__init, Bn2_Want__init, Bn3_Want__init, Bn5_Want__init, Bn8_Want__init, Bn12_Want__init, Bk_Want__init⟩ := ok_Want__init (P := P) (w := w) (base := base) T
  obtain ⟨fd_halves_between, F_halves_between, B_halves_between, kp_halves_between⟩ := ok_halves_between (P := P) (w := w) (base := base) T
  obtain ⟨fd, F⟩ := T.f_Want_between
  refine ⟨fd, fn_ok (k := cn K) F sc_Want_between (by decide) fun cdv A outer s H E hr => ?_, F.bindsN fun _ _ _ _ _ _ us hl => match us, hl with | [_, _, _], _ => rfl, F.kp⟩
  have tk : Takes (cxOf (L2.CX P w) P w K mg base ["cls", "low", "high"] "Want.between" (defScope s_Want_between) (a_Want_between K) cdv A outer s H E) (fun c d _ H => E c d H) := takes_of rfl rfl rfl rfl
  exact (dss_cons (ds_expr (de_call tk F_check_numbers ar_check_numbers (hr.mono (by decide)) (by rfl) T.g_check_numbers kp_check_numbers B_check_numbers .nil (fun _ _ _ => .nil) (da_cons (de_tup (da_cons (dv 1) (da_cons (dv 2) da_nil))) da_nil)))
  (dss_one (ds_ret (de_mkC 0 1 (i := 0) tk rfl T.mk_Want F_Want__init rfl (hr.mono (by decide)) Bk_Want__init (de_call tk F_halves_between ar_halves_between (hr.mono (by decide)) (by rfl) T.g_halves_between kp_halves_between B_halves_between .nil (fun _ _ _ => .nil) (da_cons (dv 1) (da_cons (dv 2) da_nil)))))))
theorem sc_Want_stepped : FnScope ["cls", "low", "high", "runs"] ["cls", "low", "high"] (defScope s_Want_stepped) := ⟨rfl, rfl, rfl, by decide +kernel, rfl, by decide +kernel, by decide +kernel⟩
def b_Want_stepped_0 : MS := (sDrop (mCall m_check_numbers [] (mCons (mAp oTup (mCons (mVar 1) (mCons (mVar 2) mNil))) mNil)))
def b_Want_stepped_1 : MS := (sAsg (mIf (mTst (mOp oLe (mVar 1) (mVar 2))) (mAp oTup (mCons (mAp oTup (mCons (mVar 1) (mCons (mOp oSub (mVar 2) (mOp oMod (mOp oSub (mVar 2) (mVar 1)) (mC (.int 2)))) mNil))) mNil)) (mAp oTup mNil)) (gN 3))
def b_Want_stepped_2 : MS := (sRet (mMkC 0 0 1 m_Want__init (mIf (mTst (mOp (oEqA false) (mOp oMod (mVar 1) (mC (.int 2))) (mC (.int 0)))) (mAp oTup (mCons (mVar 3) (mCons (mAp oTup mNil) mNil))) (mAp oTup (mCons (mAp oTup mNil) (mCons (mVar 3) mNil))))))
def b_Want_stepped : MS := (sSeq b_Want_stepped_0 (sSeq b_Want_stepped_1 b_Want_stepped_2))
def m_Want_stepped : MF := mDef 3 4 b_Want_stepped
theorem e_Want_stepped (x0 x1 x2 : D) (C : Store) : m_Want_stepped [x0, x1, x2] C = finS C.length (b_Want_stepped ⟨C.length, [some x0, some x1, some x2, none]⟩ C) := mDef_e rfl rfl
theorem ar_Want_stepped : Ar 3 m_Want_stepped := mDef_ar
theorem ok_Want_stepped (T : Txt K mg) : ∃ fd, FnG P w K mg base 6 (a_Want_stepped K) fd ["cls", "low", "high"] (SpD (cn K) 3 m_Want_stepped) ∧ Binds K fd ["cls", "low", "high"] [] ∧ PySem.W.keepIn K (.ref (a_Want_stepped K)) = true := by
  obtain ⟨fd_check_numbers, F_check_numbers, B_check_numbers, kp_check_numbers⟩ := ok_check_numbers (P := P) (w := w) (base := base) T
  obtain ⟨fd_Want__init, F_Want__init, Bn0_Want__init, Bn1_Want__init, Bn2_Want__init, Bn3_Want__init, Bn5_Want__init, Bn8_Want__init, Bn12_Want__init, Bk_Want__init⟩ := ok_Want__init (P := P) (w := w) (base := base) T
  obtain ⟨fd, F⟩ := T.f_Want_stepped
  refine ⟨fd, fn_ok (k := cn K) F sc_Want_stepped (by decide) fun cdv A outer s H E hr => ?_, F.bindsN fun _ _ _ _ _ _ us hl => match us, hl with | [_, _, _], _ => rfl, F.kp⟩
  have tk : Takes (cxOf (L2.CX P w) P w K mg base ["cls", "low", "high", "runs"] "Want.stepped" (defScope s_Want_stepped) (a_Want_stepped K) cdv A outer s H E) (fun c d _ H => E c d H) := takes_of rfl rfl rfl rfl
  exact (dss_cons (ds_expr (de_call tk F_check_numbers ar_check_numbers (hr.mono (by decide)) (by rfl) T.g_check_numbers kp_check_numbers B_check_numbers .nil (fun _ _ _ => .nil) (da_cons (de_tup (da_cons (dv 1) (da_cons (dv 2) da_nil))) da_nil)))
  (dss_cons (ds_set (i := 3) sc_Want_stepped.nd rfl (Or.inl rfl) (de_if (dt_cmp op_le d_le (dv 1) (dv 2) (nomark _)) (de_tup (da_cons (de_tup (da_cons (dv 1) (da_cons (de_op op_sub d_sub (dv 2) (de_op op_mod d_mod (de_op op_sub d_sub (dv 2) (dv 1)) de_int)) da_nil))) da_nil)) (de_tup da_nil)))
  (dss_one (ds_ret (de_mkC 0 1 (i := 0) tk rfl T.mk_Want F_Want__init rfl (hr.mono (by decide)) Bk_Want__init (de_if (dt_cmp (op_eq.or (op_eqD hr.room.units)) d_eqA (de_op op_mod d_mod (dv 1) de_int) de_int (nomark _)) (de_tup (da_cons (dv 3) (da_cons (de_tup da_nil) da_nil))) (de_tup (da_cons (de_tup da_nil) (da_cons (dv 3) da_nil)))))))))
theorem sc_Want_evens : FnScope ["self"] ["self"] (defScope s_Want_evens) := ⟨rfl, rfl, rfl, by decide +kernel, rfl, by decide +kernel, by decide +kernel⟩
def b_Want_evens : MS := (sRet (mOp oIx (mUn (oFld 0 0) (mVar 0)) (mC (.int 0))))
def m_Want_evens : MF := mDef 1 1 b_Want_evens
theorem e_Want_evens (x0 : D) (C : Store) : m_Want_evens [x0] C = finS C.length (b_Want_evens ⟨C.length, [some x0]⟩ C) := mDef_e rfl rfl
theorem ar_Want_evens : Ar 1 m_Want_evens := mDef_ar
theorem ok_Want_evens (T : Txt K mg) : ∃ fd, FnG P w K mg base 1 (a_Want_evens K) fd ["self"] (SpD (cn K) 1 m_Want_evens) ∧ Binds K fd ["self"] [] ∧ PySem.W.keepIn K (.ref (a_Want_evens K)) = true := by
  obtain ⟨fd, F⟩ := T.f_Want_evens
  refine ⟨fd, fn_ok (k := cn K) F sc_Want_evens (by decide) fun cdv A outer s H E hr => ?_, F.bindsN fun _ _ _ _ _ _ us hl => match us, hl with | [_], _ => rfl, F.kp⟩
  have tk : Takes (cxOf (L2.CX P w) P w K mg base ["self"] "Want.evens" (defScope s_Want_evens) (a_Want_evens K) cdv A outer s H E) (fun c d _ H => E c d H) := takes_of rfl rfl rfl rfl
  exact (dss_one (ds_ret (de_ix ix_seq d_ix (de_fld 0 0 rfl T.cl_Want T.no_Want_halves nd_Want rfl (dv 0)) de_int)))
theorem sc_Want_odds : FnScope ["self"] ["self"] (defScope s_Want_odds) := ⟨rfl, rfl, rfl, by decide +kernel, rfl, by decide +kernel, by decide +kernel⟩
def b_Want_odds : MS := (sRet (mOp oIx (mUn (oFld 0 0) (mVar 0)) (mC (.int 1))))
def m_Want_odds : MF := mDef 1 1 b_Want_odds
theorem e_Want_odds (x0 : D) (C : Store) : m_Want_odds [x0] C = finS C.length (b_Want_odds ⟨C.length, [some x0]⟩ C) := mDef_e rfl rfl
theorem ar_Want_odds : Ar 1 m_Want_odds := mDef_ar
theorem ok_Want_odds (T : Txt K mg) : ∃ fd, FnG P w K mg base 1 (a_Want_odds K) fd ["self"] (SpD (cn K) 1 m_Want_odds) ∧ Binds K fd ["self"] [] ∧ PySem.W.keepIn K (.ref (a_Want_odds K)) = true := by
  obtain ⟨fd, F⟩ := T.f_Want_odds
  refine ⟨fd, fn_ok (k := cn K) F sc_Want_odds (by decide) fun cdv A outer s H E hr => ?_, F.bindsN fun _ _ _ _ _ _ us hl => match us, hl with | [_], _ => rfl, F.kp⟩
  have tk : Takes (cxOf (L2.CX P w) P w K mg base ["self"] "Want.odds" (defScope s_Want_odds) (a_Want_odds K) cdv A outer s H E) (fun c d _ H => E c d H) := takes_of rfl rfl rfl rfl
  exact (dss_one (ds_ret (de_ix ix_seq d_ix (de_fld 0 0 rfl T.cl_Want T.no_Want_halves nd_Want rfl (dv 0)) de_int)))
theorem sc_Want_low : FnScope ["self", "runs"] ["self"] (defScope s_Want_low) := ⟨rfl, rfl, rfl, by decide +kernel, rfl, by decide +kernel, by decide +kernel⟩
def b_Want_low : MS := (sRet (mMnD min (mLc false (mSeq (mUn (oFld 0 0) (mVar 0))) (Tgt.nm 1).M (mTst (mOp (oEqA true) (mVar 1) (mAp oTup mNil))) (mOp oIx (mOp oIx (mVar 1) (mC (.int 0))) (mC (.int 0))) [1]) (mC .non)))
def m_Want_low : MF := mDef 1 2 b_Want_low
theorem e_Want_low (x0 : D) (C : Store) : m_Want_low [x0] C = finS C.length (b_Want_low ⟨C.length, [some x0, none]⟩ C) := mDef_e rfl rfl
theorem ar_Want_low : Ar 1 m_Want_low := mDef_ar
theorem ok_Want_low (T : Txt K mg) : ∃ fd, FnG P w K mg base 1 (a_Want_low K) fd ["self"] (SpD (cn K) 1 m_Want_low) ∧ Binds K fd ["self"] [] ∧ PySem.W.keepIn K (.ref (a_Want_low K)) = true := by
  obtain ⟨fd, F⟩ := T.f_Want_low
  refine ⟨fd, fn_ok (k := cn K) F sc_Want_low (by decide) fun cdv A outer s H E hr => ?_, F.bindsN fun _ _ _ _ _ _ us hl => match us, hl with | [_], _ => rfl, F.kp⟩
  have tk : Takes (cxOf (L2.CX P w) P w K mg base ["self", "runs"] "Want.low" (defScope s_Want_low) (a_Want_low K) cdv A outer s H E) (fun c d _ H => E c d H) := takes_of rfl rfl rfl rfl
  exact (dss_one (ds_ret (de_mnD rfl (cr_minD hr.room.hd hr.u200) (by rfl) T.n_min (by decide +kernel) (de_lc (own := [("runs", 1)]) false rfl rfl sc_Want_low.nd (di_seq rfl (de_fld 0 0 rfl T.cl_Want T.no_Want_halves nd_Want rfl (dv 0))) (blkOk_by (own := [("runs", 1)]) rfl) (by decide) (fun _ _ _ _ _ => (tg_nm (i := 1) sc_Want_low.nd rfl (by first | exact Or.inl rfl | exact Or.inr rfl))) (fun _ _ _ _ _ => (pts_one (dt_cmp (op_ne.or (op_neD hr.room.units)) d_neA (dv 1) (de_tup da_nil) (nomark _)))) (fun _ _ _ _ _ => (de_ix ix_seq d_ix (de_ix ix_seq d_ix (dv 1) de_int) de_int))) de_non)))
theorem sc_Want_high : FnScope ["self", "runs"] ["self"] (defScope s_Want_high) := ⟨rfl, rfl, rfl, by decide +kernel, rfl, by decide +kernel, by decide +kernel⟩
def b_Want_high : MS := (sRet (mMnD max (mLc false (mSeq (mUn (oFld 0 0) (mVar 0))) (Tgt.nm 1).M (mTst (mOp (oEqA true) (mVar 1) (mAp oTup mNil))) (mOp oIx (mOp oIx (mVar 1) (mUn oNeg (mC (.int 1)))) (mC (.int 1))) [1]) (mC .non)))
def m_Want_high : MF := mDef 1 2 b_Want_high
theorem e_Want_high (x0 : D) (C : Store) : m_Want_high [x0] C = finS C.length (b_Want_high ⟨C.length, [some x0, none]⟩ C) := mDef_e rfl rfl
theorem ar_Want_high : Ar 1 m_Want_high := mDef_ar
theorem ok_Want_high (T : Txt K mg) : ∃ fd, FnG P w K mg base 1 (a_Want_high K) fd ["self"] (SpD (cn K) 1 m_Want_high) ∧ Binds K fd ["self"] [] ∧ PySem.W.keepIn K (.ref (a_Want_high K)) = true := by
  obtain ⟨fd, F⟩ := T.f_Want_high
  refine ⟨fd, fn_ok (k := cn K) F sc_Want_high (by decide) fun cdv A outer s H E hr => ?_, F.bindsN fun _ _ _ _ _ _ us hl => match us, hl with | [_], _ => rfl, F.kp⟩
  have tk : Takes (cxOf (L2.CX P w) P w K mg base ["self", "runs"] "Want.high" (defScope s_Want_high) (a_Want_high K) cdv A outer s H E) (fun c d _ H => E c d H) := takes_of rfl rfl rfl rfl
  exact (dss_one (ds_ret (de_mnD rfl (cr_maxD hr.room.hd hr.u200) (by rfl) T.n_max (by decide +kernel) (de_lc (own := [("runs", 1)]) false rfl rfl sc_Want_high.nd (di_seq rfl (de_fld 0 0 rfl T.cl_Want T.no_Want_halves nd_Want rfl (dv 0))) (blkOk_by (own := [("runs", 1)]) rfl) (by decide) (fun _ _ _ _ _ => (tg_nm (i := 1) sc_Want_high.nd rfl (by first | exact Or.inl rfl | exact Or.inr rfl))) (fun _ _ _ _ _ => (pts_one (dt_cmp (op_ne.or (op_neD hr.room.units)) d_neA (dv 1) (de_tup da_nil) (nomark _)))) (fun _ _ _ _ _ => (de_ix ix_seq d_ix (de_ix ix_seq d_ix (dv 1) (de_un un_neg d_neg de_int)) de_int))) de_non)))
theorem sc_Want_many : FnScope ["self", "runs", "low", "high"] ["self"] (defScope s_Want_many) := ⟨rfl, rfl, rfl, by decide +kernel, rfl, by decide +kernel, by decide +kernel⟩
def b_Want_many : MS := (sRet (mAp oSum (mCons (mLc2 false (mSeq (mUn (oFld 0 0) (mVar 0))) (Tgt.nm 1).M tYesM (mSeq (mVar 1)) (Tgt.tp [2, 3]).M tYesM (mOp oAdd (mOp oDiv (mOp oSub (mVar 3) (mVar 2)) (mC (.int 2))) (mC (.int 1))) [1, 2, 3] [2, 3]) mNil)))
def m_Want_many : MF := mDef 1 4 b_Want_many
theorem e_Want_many (x0 : D) (C : Store) : m_Want_many [x0] C = finS C.length (b_Want_many ⟨C.length, [some x0, none, none, none]⟩ C) := mDef_e rfl rfl
theorem ar_Want_many : Ar 1 m_Want_many := mDef_ar
theorem ok_Want_many (T : Txt K mg) : ∃ fd, FnG P w K mg base 1 (a_Want_many K) fd ["self"] (SpD (cn K) 1 m_Want_many) ∧ Binds K fd ["self"] [] ∧ PySem.W.keepIn K (.ref (a_Want_many K)) = true := by
  obtain ⟨fd, F⟩ := T.f_Want_many
  refine ⟨fd, fn_ok (k := cn K) F sc_Want_many (by decide) fun cdv A outer s H E hr => ?_, F.bindsN fun _ _ _ _ _ _ us hl => match us, hl with | [_], _ => rfl, F.kp⟩
  have tk : Takes (cxOf (L2.CX P w) P w K mg base ["self", "runs", "low", "high"] "Want.many" (defScope s_Want_many) (a_Want_many K) cdv A outer s H E) (fun c d _ H => E c d H) := takes_of rfl rfl rfl rfl
  exact (dss_one (ds_ret (de_callB (cr_sum rfl) d_sum (by rfl) T.n_sum (by decide +kernel) (da_cons (de_lc2 (own := [("runs", 1), ("low", 2), ("high", 3)]) (vs1 := [2, 3]) false rfl rfl sc_Want_many.nd (di_seq rfl (de_fld 0 0 rfl T.cl_Want T.no_Want_halves nd_Want rfl (dv 0))) (blkOk_by (own := [("runs", 1), ("low", 2), ("high", 3)]) rfl) (by decide) (by decide) (by decide) (fun _ _ _ _ _ => (tg_nm (i := 1) sc_Want_many.nd rfl (by first | exact Or.inl rfl | exact Or.inr rfl))) (fun _ _ _ _ _ => dts_nil) (fun _ _ _ _ _ => (di_seq rfl (dv 1))) (fun _ _ _ _ _ => (tg_tp [2, 3] rfl rfl (pgs_cons (pg_name (i := 2) sc_Want_many.nd rfl (by first | exact Or.inl rfl | exact Or.inr rfl)) (pgs_cons (pg_name (i := 3) sc_Want_many.nd rfl (by first | exact Or.inl rfl | exact Or.inr rfl)) pgs_nil)))) (fun _ _ _ _ _ => dts_nil) (fun _ _ _ _ _ => (de_op op_add d_add (de_op op_fdivW d_div (de_op op_sub d_sub (dv 3) (dv 2)) de_int) de_int))) da_nil))))
theorem sc_Want_corners : FnScope ["self", "runs", "x"] ["self"] (defScope s_Want_corners) := ⟨rfl, rfl, rfl, by decide +kernel, rfl, by decide +kernel, by decide +kernel⟩
def b_Want_corners : MS := (sRet (mAp oTupOf (mCons (mSortSc2 false (mSeq (mUn (oFld 0 0) (mVar 0))) (Tgt.nm 1).M (mTst (mOp (oEqA true) (mVar 1) (mAp oTup mNil))) (mSeq (mAp oTup (mCons (mOp oIx (mOp oIx (mVar 1) (mC (.int 0))) (mC (.int 0))) (mCons (mOp oIx (mOp oIx (mVar 1) (mUn oNeg (mC (.int 1)))) (mC (.int 1))) mNil)))) (Tgt.nm 2).M tYesM (mVar 2) [1, 2] [2]) mNil)))
def m_Want_corners : MF := mDef 1 3 b_Want_corners
theorem e_Want_corners (x0 : D) (C : Store) : m_Want_corners [x0] C = finS C.length (b_Want_corners ⟨C.length, [some x0, none, none]⟩ C) := mDef_e rfl rfl
theorem ar_Want_corners : Ar 1 m_Want_corners := mDef_ar
theorem ok_Want_corners (T : Txt K mg) : ∃ fd, FnG P w K mg base 1 (a_Want_corners K) fd ["self"] (SpD (cn K) 1 m_Want_corners) ∧ Binds K fd ["self"] [] ∧ PySem.W.keepIn K (.ref (a_Want_corners K)) = true := by
  obtain ⟨fd, F⟩ := T.f_Want_corners
  refine ⟨fd, fn_ok (k := cn K) F sc_Want_corners (by decide) fun cdv A outer s H E hr => ?_, F.bindsN fun _ _ _ _ _ _ us hl => match us, hl with | [_], _ => rfl, F.kp⟩
  have tk : Takes (cxOf (L2.CX P w) P w K mg base ["self", "runs", "x"] "Want.corners" (defScope s_Want_corners) (a_Want_corners K) cdv A outer s H E) (fun c d _ H => E c d H) := takes_of rfl rfl rfl rfl
  exact (dss_one (ds_ret (de_callTy call_tuple_of d_tupOf (by rfl) T.n_tuple (by decide +kernel) (da_cons (de_sortSc2 (own := [("runs", 1), ("x", 2)]) (vs1 := [2]) false rfl rfl hr.u200 (by rfl) T.n_sorted sc_Want_corners.nd (di_seq rfl (de_fld 0 0 rfl T.cl_Want T.no_Want_halves nd_Want rfl (dv 0))) (blkOk_by (own := [("runs", 1), ("x", 2)]) rfl) (by decide) (by decide) (by decide) (fun _ _ _ _ _ => (tg_nm (i := 1) sc_Want_corners.nd rfl (by first | exact Or.inl rfl | exact Or.inr rfl))) (fun _ _ _ _ _ => (pts_one (dt_cmp (op_ne.or (op_neD hr.room.units)) d_neA (dv 1) (de_tup da_nil) (nomark _)))) (fun _ _ _ _ _ => (di_seq rfl (de_tup (da_cons (de_ix ix_seq d_ix (de_ix ix_seq d_ix (dv 1) de_int) de_int) (da_cons (de_ix ix_seq d_ix (de_ix ix_seq d_ix (dv 1) (de_un un_neg d_neg de_int)) de_int) da_nil))))) (fun _ _ _ _ _ => (tg_nm (i := 2) sc_Want_corners.nd rfl (by first | exact Or.inl rfl | exact Or.inr rfl))) (fun _ _ _ _ _ => dts_nil) (fun _ _ _ _ _ => (dv 2))) da_nil))))
theorem sc_Want_least : FnScope ["self", "parity", "runs"] ["self", "parity"] (defScope s_Want_least) := ⟨rfl, rfl, rfl, by decide +kernel, rfl, by decide +kernel, by decide +kernel⟩
def b_Want_least_0 : MS := (sAsg (mOp oIx (mUn (oFld 0 0) (mVar 0)) (mVar 1)) (gN 2))
def b_Want_least_1 : MS := (sRet (mIf (mTst (mOp (oEqA true) (mVar 2) (mAp oTup mNil))) (mOp oIx (mOp oIx (mVar 2) (mC (.int 0))) (mC (.int 0))) (mC .non)))
def b_Want_least : MS := (sSeq b_Want_least_0 b_Want_least_1)
def m_Want_least : MF := mDef 2 3 b_Want_least
theorem e_Want_least (x0 x1 : D) (C : Store) : m_Want_least [x0, x1] C = finS C.length (b_Want_least ⟨C.length, [some x0, some x1, none]⟩ C) := mDef_e rfl rfl
theorem ar_Want_least : Ar 2 m_Want_least := mDef_ar
theorem ok_Want_least (T : Txt K mg) : ∃ fd, FnG P w K mg base 1 (a_Want_least K) fd ["self", "parity"] (SpD (cn K) 2 m_Want_least) ∧ Binds K fd ["self", "parity"] [] ∧ PySem.W.keepIn K (.ref (a_Want_least K)) = true := by
  obtain ⟨fd, F⟩ := T.f_Want_least
  refine ⟨fd, fn_ok (k := cn K) F sc_Want_least (by decide) fun cdv A outer s H E hr => ?_, F.bindsN fun _ _ _ _ _ _ us hl => match us, hl with | [_, _], _ => rfl, F.kp⟩
  have tk : Takes (cxOf (L2.CX P w) P w K mg base ["self", "parity", "runs"] "Want.least" (defScope s_Want_least) (a_Want_least K) cdv A outer s H E) (fun c d _ H => E c d H) := takes_of rfl rfl rfl rfl
  exact (dss_cons (ds_set (i := 2) sc_Want_least.nd rfl (Or.inl rfl) (de_ix ix_seq d_ix (de_fld 0 0 rfl T.cl_Want T.no_Want_halves nd_Want rfl (dv 0)) (dv 1)))
  (dss_one (ds_ret (de_if (dt_cmp (op_ne.or (op_neD hr.room.units)) d_neA (dv 2) (de_tup da_nil) (nomark _)) (de_ix ix_seq d_ix (de_ix ix_seq d_ix (dv 2) de_int) de_int) de_non))))
theorem sc_Want_greatest : FnScope ["self", "parity", "runs"] ["self", "parity"] (defScope s_Want_greatest) := ⟨rfl, rfl, rfl, by decide +kernel, rfl, by decide +kernel, by decide +kernel⟩
def b_Want_greatest_0 : MS := (sAsg (mOp oIx (mUn (oFld 0 0) (mVar 0)) (mVar 1)) (gN 2))
def b_Want_greatest_1 : MS := (sRet (mIf (mTst (mOp (oEqA true) (mVar 2) (mAp oTup mNil))) (mOp oIx (mOp oIx (mVar 2) (mUn oNeg (mC (.int 1)))) (mC (.int 1))) (mC .non)))
def b_Want_greatest : MS := (sSeq b_Want_greatest_0 b_Want_greatest_1)
def m_Want_greatest : MF := mDef 2 3 b_Want_greatest
theorem e_Want_greatest (x0 x1 : D) (C : Store) : m_Want_greatest [x0, x1] C = finS C.length (b_Want_greatest ⟨C.length, [some x0, some x1, none]⟩ C) := mDef_e rfl rfl
theorem ar_Want_greatest : Ar 2 m_Want_greatest := mDef_ar
theorem ok_Want_greatest (T : Txt K mg) : ∃ fd, FnG P w K mg base 1 (a_Want_greatest K) fd ["self", "parity"] (SpD (cn K) 2 m_Want_greatest) ∧ Binds K fd ["self", "parity"] [] ∧ PySem.W.keepIn K (.ref (a_Want_greatest K)) = true := by
  obtain ⟨fd, F⟩ := T.f_Want_greatest
  refine ⟨fd, fn_ok (k := cn K) F sc_Want_greatest (by decide) fun cdv A outer s H E hr => ?_, F.bindsN fun _ _ _ _ _ _ us hl => match us, hl with | [_, _], _ => rfl, F.kp⟩
  have tk : Takes (cxOf (L2.CX P w) P w K mg base ["self", "parity", "runs"] "Want.greatest" (defScope s_Want_greatest) (a_Want_greatest K) cdv A outer s H E) (fun c d _ H => E c d H) := takes_of rfl rfl rfl rfl
  exact (dss_cons (ds_set (i := 2) sc_Want_greatest.nd rfl (Or.inl rfl) (de_ix ix_seq d_ix (de_fld 0 0 rfl T.cl_Want T.no_Want_halves nd_Want rfl (dv 0)) (dv 1)))
  (dss_one (ds_ret (de_if (dt_cmp (op_ne.or (op_neD hr.room.units)) d_neA (dv 2) (de_tup da_nil) (nomark _)) (de_ix ix_seq d_ix (de_ix ix_seq d_ix (dv 2) (de_un un_neg d_neg de_int)) de_int) de_non))))
theorem sc_Want_first : FnScope ["self", "count", "found", "runs", "left", "low", "high", "part"] ["self", "count"] (defScope s_Want_first) := ⟨rfl, rfl, rfl, by decide +kernel, rfl, by decide +kernel, by decide +kernel⟩
def b_Want_first_0 : MS := (sAsg (mAp (oLst true) mNil) (gN 2))
def b_Want_first_1b_0 : MS := (sAsg (mVar 1) (gN 4))
def b_Want_first_1b_1b_0 : MS := (sAsg (mLRng3 false (mVar 5) (mOp oAdd (mAp oMin2 (mCons (mVar 6) (mCons (mOp oSub (mOp oAdd (mVar 5) (mOp oMul (mC (.int 2)) (mVar 4))) (mC (.int 2))) mNil))) (mC (.int 1))) (mC (.int 2))) (gN 7))
def b_Want_first_1b_1b_1 : MS := (sDrop (mExtend (mVar 2) (mVar 7)))
def b_Want_first_1b_1b_2 : MS := (sAug 4 (· - ·) (mAp oLen (mCons (mVar 7) mNil)))
def b_Want_first_1b_1 : MS := (sFor (mSeq (mVar 3)) (Tgt.tp [5, 6]).M (sSeq b_Want_first_1b_1b_0 (sSeq b_Want_first_1b_1b_1 b_Want_first_1b_1b_2)))
def b_Want_first_1 : MS := (sFor (mSeq (mUn (oFld 0 0) (mVar 0))) (Tgt.nm 3).M (sSeq b_Want_first_1b_0 b_Want_first_1b_1))
def b_Want_first_2 : MS := (sRet (mSlL true (mAp (oSortQ false) (mCons (mVar 2) mNil)) mNoPart (mPart (mVar 1))))
def b_Want_first : MS := (sSeq b_Want_first_0 (sSeq b_Want_first_1 b_Want_first_2))
def m_Want_first : MF := mDefO 2 8 b_Want_first
theorem e_Want_first (x0 x1 : D) (C : Store) : m_Want_first [x0, x1] C = finOS C.length (b_Want_first ⟨C.length, [some x0, some x1, none, none, none, none, none, none]⟩ C) := mDefO_e rfl rfl
theorem ar_Want_first : Ar 2 m_Want_first := mDefO_ar
theorem ok_Want_first (T : Txt K mg) : ∃ fd, FnG P w K mg base 1 (a_Want_first K) fd ["self", "count"] (SpD (cn K) 2 m_Want_first) ∧ Binds K fd ["self", "count"] [] ∧ PySem.W.keepIn K (.ref (a_Want_first K)) = true := by
  obtain ⟨fd, F⟩ := T.f_Want_first
  refine ⟨fd, fn_okO (k := cn K) F sc_Want_first (by decide) fun cdv A outer s H E hr => ?_, F.bindsN fun _ _ _ _ _ _ us hl => match us, hl with | [_, _], _ => rfl, F.kp⟩
  have tk : Takes (cxOf (L2.CX P w) P w K mg base ["self", "count", "found", "runs", "left", "low", "high", "part"] "Want.first" (defScope s_Want_first) (a_Want_first K) cdv A outer s H E) (fun c d _ H => E c d H) := takes_of rfl rfl rfl rfl
  exact (dss_cons (ds_set (i := 2) sc_Want_first.nd rfl (Or.inl rfl) (de_lst true da_nil))
  (dss_cons (ds_for (passes_of rfl) rfl (di_seq rfl (de_fld 0 0 rfl T.cl_Want T.no_Want_halves nd_Want rfl (dv 0))) (tg_nm (i := 3) sc_Want_first.nd rfl (Or.inl rfl)) (dss_cons (ds_set (i := 4) sc_Want_first.nd rfl (Or.inl rfl) (dv 1))
  (dss_one (ds_for (passes_of rfl) rfl (di_seq rfl (dv 3)) (tg_tp [5, 6] rfl rfl (pgs_cons (pg_name (i := 5) sc_Want_first.nd rfl (Or.inl rfl)) (pgs_cons (pg_name (i := 6) sc_Want_first.nd rfl (Or.inl rfl)) pgs_nil))) (dss_cons (ds_set (i := 7) sc_Want_first.nd rfl (Or.inl rfl) (de_lrng3 false rfl (by rfl) T.n_list (by rfl) T.n_range (dv 5) (de_op op_add d_add (de_callB (call_min2 rfl) d_min2 (by rfl) T.n_min (by decide +kernel) (da_cons (dv 6) (da_cons (de_op op_sub d_sub (de_op op_add d_add (dv 5) (de_op op_mul d_mul de_int (dv 4))) de_int) da_nil))) de_int) de_int))
  (dss_cons (ds_expr (de_extend rfl (dv 2) (dv 7)))
  (dss_one (ds_aug (i := 4) sc_Want_first.nd rfl (Or.inl rfl) (de_callB call_len_seq d_len (by rfl) T.n_len (by decide +kernel) (da_cons (dv 7) da_nil)) ip_sub))))))))
  (dss_one (ds_ret (de_slL true rfl (de_callB ((cr_sortA hr.u200).or (cr_sortP hr.u200)) d_sortQ (by rfl) T.n_sorted (by decide +kernel) (da_cons (dv 2) da_nil)) do_none (do_some (dv 1)))))))
theorem sc_Want__contains : FnScope ["self", "thing", "low", "high"] ["self", "thing"] (defScope s_Want__contains) := ⟨rfl, rfl, rfl, by decide +kernel, rfl, by decide +kernel, by decide +kernel⟩
def b_Want__contains_0 : MS := (sIf (tNotM (mTst (mCall m_is_integer [] (mCons (mVar 1) mNil)))) (sRet (mC (.bl false))) sNext)
def b_Want__contains_1 : MS := (sRet (mAp oAny (mCons (mLc false (mSeq (mOp oIx (mUn (oFld 0 0) (mVar 0)) (mOp oMod (mVar 1) (mC (.int 2))))) (Tgt.tp [2, 3]).M tYesM (mChain oLe oLe (mVar 2) (mVar 1) (mVar 3)) [2, 3]) mNil)))
def b_Want__contains : MS := (sSeq b_Want__contains_0 b_Want__contains_1)
def m_Want__contains : MF := mDef 2 4 b_Want__contains
theorem e_Want__contains (x0 x1 : D) (C : Store) : m_Want__contains [x0, x1] C = finS C.length (b_Want__contains ⟨C.length, [some x0, some x1, none, none]⟩ C) := mDef_e rfl rfl
theorem ar_Want__contains : Ar 2 m_Want__contains := mDef_ar
theorem ok_Want__contains (T : Txt K mg) : ∃ fd, FnG P w K mg base 2 (a_Want__contains K) fd ["self", "thing"] (SpD (cn K) 2 m_Want__contains) ∧ Binds K fd ["self", "thing"] [] ∧ PySem.W.keepIn K (.ref (a_Want__contains K)) = true := by
  obtain ⟨fd_is_integer, F_is_integer, B_is_integer, kp_is_integer⟩ := ok_is_integer (P := P) (w := w) (base := base) T
  obtain ⟨fd, F⟩ := T.f_Want__contains
  refine ⟨fd, fn_ok (k := cn K) F sc_Want__contains (by decide) fun cdv A outer s H E hr => ?_, F.bindsN fun _ _ _ _ _ _ us hl => match us, hl with | [_, _], _ => rfl, F.kp⟩
  have tk : Takes (cxOf (L2.CX P w) P w K mg base ["self", "thing", "low", "high"] "Want.__contains__" (defScope s_Want__contains) (a_Want__contains K) cdv A outer s H E) (fun c d _ H => E c d H) := takes_of rfl rfl rfl rfl
  exact (dss_cons (ds_if (dt_not (dt_val (de_call tk F_is_integer ar_is_integer (hr.mono (by decide)) (by rfl) T.g_is_integer kp_is_integer B_is_integer .nil (fun _ _ _ => .nil) (da_cons (dv 1) da_nil)))) (dss_one (ds_ret de_bl)) dss_nil)
  (dss_one (ds_ret (de_callB (cr_any rfl) d_any (by rfl) T.n_any (by decide +kernel) (da_cons (de_lc (own := [("low", 2), ("high", 3)]) false rfl rfl sc_Want__contains.nd (di_seq rfl (de_ix ix_seq d_ix (de_fld 0 0 rfl T.cl_Want T.no_Want_halves nd_Want rfl (dv 0)) (de_op op_mod d_mod (dv 1) de_int))) (blkOk_by (own := [("low", 2), ("high", 3)]) rfl) (by decide) (fun _ _ _ _ _ => (tg_tp [2, 3] rfl rfl (pgs_cons (pg_name (i := 2) sc_Want__contains.nd rfl (by first | exact Or.inl rfl | exact Or.inr rfl)) (pgs_cons (pg_name (i := 3) sc_Want__contains.nd rfl (by first | exact Or.inl rfl | exact Or.inr rfl)) pgs_nil)))) (fun _ _ _ _ _ => dts_nil) (fun _ _ _ _ _ => (de_chain op_le d_le op_le d_le (dv 2) (dv 1) (dv 3)))) da_nil)))))
theorem sc_Want__bool : FnScope ["self"] ["self"] (defScope s_Want__bool) := ⟨rfl, rfl, rfl, by decide +kernel, rfl, by decide +kernel, by decide +kernel⟩
def b_Want__bool : MS := (sRet (mAp oBoolT (mCons (mOrT (mOp oIx (mUn (oFld 0 0) (mVar 0)) (mC (.int 0))) (mOp oIx (mUn (oFld 0 0) (mVar 0)) (mC (.int 1)))) mNil)))
def m_Want__bool : MF := mDef 1 1 b_Want__bool
theorem e_Want__bool (x0 : D) (C : Store) : m_Want__bool [x0] C = finS C.length (b_Want__bool ⟨C.length, [some x0]⟩ C) := mDef_e rfl rfl
theorem ar_Want__bool : Ar 1 m_Want__bool := mDef_ar
theorem ok_Want__bool (T : Txt K mg) : ∃ fd, FnG P w K mg base 1 (a_Want__bool K) fd ["self"] (SpD (cn K) 1 m_Want__bool) ∧ Binds K fd ["self"] [] ∧ PySem.W.keepIn K (.ref (a_Want__bool K)) = true := by
  obtain ⟨fd, F⟩ := T.f_Want__bool
  refine ⟨fd, fn_ok (k := cn K) F sc_Want__bool (by decide) fun cdv A outer s H E hr => ?_, F.bindsN fun _ _ _ _ _ _ us hl => match us, hl with | [_], _ => rfl, F.kp⟩
  have tk : Takes (cxOf (L2.CX P w) P w K mg base ["self"] "Want.__bool__" (defScope s_Want__bool) (a_Want__bool K) cdv A outer s H E) (fun c d _ H => E c d H) := takes_of rfl rfl rfl rfl
  exact (dss_one (ds_ret (de_callTy call_boolT d_boolT (by rfl) T.n_bool (by decide +kernel) (da_cons (de_orT rfl (de_ix ix_seq d_ix (de_fld 0 0 rfl T.cl_Want T.no_Want_halves nd_Want rfl (dv 0)) de_int) (de_ix ix_seq d_ix (de_fld 0 0 rfl T.cl_Want T.no_Want_halves nd_Want rfl (dv 0)) de_int)) da_nil))))
theorem sc_Want__str : FnScope ["self", "runs", "run"] ["self"] (defScope s_Want__str) := ⟨rfl, rfl, rfl, by decide +kernel, rfl, by decide +kernel, by decide +kernel⟩
def b_Want__str_0 : MS := (sIf (mTst (mOp (oEqA false) (mUn (oFld 0 0) (mVar 0)) (mAp oTup (mCons (mAp oTup mNil) (mCons (mAp oTup mNil) mNil))))) (sRet (mC (.str "none"))) sNext)
def b_Want__str_1 : MS := (sRet (mJoin (mC (.str ", ")) (mLc false (mSeq (mAp (oSortQ false) (mCons (mLc2 false (mSeq (mUn (oFld 0 0) (mVar 0))) (Tgt.nm 1).M tYesM (mSeq (mVar 1)) (Tgt.nm 2).M tYesM (mVar 2) [1, 2] [2]) mNil))) (Tgt.nm 2).M tYesM (mCall m_run_text [] (mCons (mVar 2) mNil)) [2])))
def b_Want__str : MS := (sSeq b_Want__str_0 b_Want__str_1)
def m_Want__str : MF := mDef 1 3 b_Want__str
theorem e_Want__str (x0 : D) (C : Store) : m_Want__str [x0] C = finS C.length (b_Want__str ⟨C.length, [some x0, none, none]⟩ C) := mDef_e rfl rfl
theorem ar_Want__str : Ar 1 m_Want__str := mDef_ar
theorem ok_Want__str (T : Txt K mg) : ∃ fd, FnG P w K mg base 2 (a_Want__str K) fd ["self"] (SpD (cn K) 1 m_Want__str) ∧ Binds K fd ["self"] [] ∧ PySem.W.keepIn K (.ref (a_Want__str K)) = true := by
  obtain ⟨fd_run_text, F_run_text, B_run_text, kp_run_text⟩ := ok_run_text (P := P) (w := w) (base := base) T
  obtain ⟨fd, F⟩ := T.f_Want__str
  refine ⟨fd, fn_ok (k := cn K) F sc_Want__str (by decide) fun cdv A outer s H E hr => ?_, F.bindsN fun _ _ _ _ _ _ us hl => match us, hl with | [_], _ => rfl, F.kp⟩
  have tk : Takes (cxOf (L2.CX P w) P w K mg base ["self", "runs", "run"] "Want.__str__" (defScope s_Want__str) (a_Want__str K) cdv A outer s H E) (fun c d _ H => E c d H) := takes_of rfl rfl rfl rfl
  exact (dss_cons (ds_if (dt_cmp (op_eq.or (op_eqD hr.room.units)) d_eqA (de_fld 0 0 rfl T.cl_Want T.no_Want_halves nd_Want rfl (dv 0)) (de_tup (da_cons (de_tup da_nil) (da_cons (de_tup da_nil) da_nil))) (nomark _)) (dss_one (ds_ret de_str)) dss_nil)
  (dss_one (ds_ret (de_join rfl de_str (de_lc (own := [("run", 2)]) false rfl rfl sc_Want__str.nd (di_seq rfl (de_callB ((cr_sortA hr.u200).or (cr_sortP hr.u200)) d_sortQ (by rfl) T.n_sorted (by decide +kernel) (da_cons (de_lc2 (own := [("runs", 1), ("run", 2)]) (vs1 := [2]) false rfl rfl sc_Want__str.nd (di_seq rfl (de_fld 0 0 rfl T.cl_Want T.no_Want_halves nd_Want rfl (dv 0))) (blkOk_by (own := [("runs", 1), ("run", 2)]) rfl) (by decide) (by decide) (by decide) (fun _ _ _ _ _ => (tg_nm (i := 1) sc_Want__str.nd rfl (by first | exact Or.inl rfl | exact Or.inr rfl))) (fun _ _ _ _ _ => dts_nil) (fun _ _ _ _ _ => (di_seq rfl (dv 1))) (fun _ _ _ _ _ => (tg_nm (i := 2) sc_Want__str.nd rfl (by first | exact Or.inl rfl | exact Or.inr rfl))) (fun _ _ _ _ _ => dts_nil) (fun _ _ _ _ _ => (dv 2))) da_nil))) (blkOk_by (own := [("run", 2)]) rfl) (by decide) (fun _ _ _ _ _ => (tg_nm (i := 2) sc_Want__str.nd rfl (by first | exact Or.inl rfl | exact Or.inr rfl))) (fun _ _ _ _ _ => dts_nil) (fun _ _ _ _ _ => (de_call takes0 F_run_text ar_run_text (hr.mono (by decide)) (by rfl) T.g_run_text kp_run_text B_run_text .nil (fun _ _ _ => .nil) (da_cons (dv 2) da_nil))))))))
theorem sc_law_bag : FnScope ["_law_script", "_law_cell"] ["_law_script"] (defScope s_law_bag) := ⟨rfl, rfl, rfl, by decide +kernel, rfl, by decide +kernel, by decide +kernel⟩
def b_law_bag : MS := (sRet (mAp (oLst true) (mCons (mC (.int 0)) (mCons (mC (.int 1234567891)) (mCons (mC (.int 0)) (mCons (mLc false (mSeq (mSlL false (mVar 0) mNoPart (mPart (mC (.int 63))))) (Tgt.nm 1).M tYesM (mAp oAbs (mCons (mVar 1) mNil)) [1]) mNil))))))
def m_law_bag : MF := mDefO 1 2 b_law_bag
theorem ar_law_bag : Ar 1 m_law_bag := mDefO_ar
theorem ok_law_bag (T : Txt K mg) : ∃ fd, FnG P w K mg base 1 (a_law_bag K) fd ["_law_script"] (SpD (cn K) 1 m_law_bag) ∧ Binds K fd ["_law_script"] [] ∧ PySem.W.keepIn K (.ref (a_law_bag K)) = true := by
  obtain ⟨fd, F⟩ := T.f_law_bag
  refine ⟨fd, fn_okO (k := cn K) F sc_law_bag (by decide) fun cdv A outer s H E hr => ?_, F.bindsN fun _ _ _ _ _ _ us hl => match us, hl with | [_], _ => rfl, F.kp⟩
  have tk : Takes (cxOf (L2.CX P w) P w K mg base ["_law_script", "_law_cell"] "_law_bag" (defScope s_law_bag) (a_law_bag K) cdv A outer s H E) (fun c d _ H => E c d H) := takes_of rfl rfl rfl rfl
  exact (dss_one (ds_ret (de_lst true (da_cons de_int (da_cons de_int (da_cons de_int (da_cons (de_lc (own := [("_law_cell", 1)]) false rfl rfl sc_law_bag.nd (di_seq rfl (de_slL false rfl (dv 0) do_none (do_some de_int))) (blkOk_by (own := [("_law_cell", 1)]) rfl) (by decide) (fun _ _ _ _ _ => (tg_nm (i := 1) sc_law_bag.nd rfl (by first | exact Or.inl rfl | exact Or.inr rfl))) (fun _ _ _ _ _ => dts_nil) (fun _ _ _ _ _ => (de_callB call_abs d_abs (by rfl) T.n_abs (by decide +kernel) (da_cons (dv 1) da_nil)))) da_nil)))))))
theorem sc_law_take : FnScope ["_law_bag_here", "_law_many", "_law_cell", "_law_mixed", "_law_drawn", "_law_early", "_law_second"] ["_law_bag_here", "_law_many"] (defScope s_law_take) := ⟨rfl, rfl, rfl, by decide +kernel, rfl, by decide +kernel, by decide +kernel⟩
def b_law_take_0t_0 : MS := (sAsg (mC (.int 0)) (gN 2))
def b_law_take_0t_1 : MS := (sIf (mTst (mOp oLt (mOp oIx (mVar 0) (mC (.int 2))) (mAp oLen (mCons (mOp oIx (mVar 0) (mC (.int 3))) mNil)))) (sAsg (mOp oIx (mOp oIx (mVar 0) (mC (.int 3))) (mOp oIx (mVar 0) (mC (.int 2)))) (gN 2)) sNext)
def b_law_take_0t_2 : MS := (sAugL (· + ·) (mVar 0) (mC (.int 2)) (mC (.int 1)))
def b_law_take_0t_3 : MS := (sIf (mTst (mOp oGe (mVar 2) (mC (.int 1000000000000000000)))) (sSetL (mVar 2) (mVar 0) (mC (.int 0))) sNext)
def b_law_take_0t_4 : MS := (sAsg (mOp oAdd (mOp oAdd (mOp oMul (mOp oIx (mVar 0) (mC (.int 1))) (mC (.int 48271))) (mOp oMod (mAp oInt (mCons (mVar 2) mNil)) (mC (.int 2147483647)))) (mOp oMul (mC (.int 7919)) (mOp oIx (mVar 0) (mC (.int 2))))) (gN 3))
def b_law_take_0t_5 : MS := (sSetL (mOp oMod (mAp oInt (mCons (mVar 3) mNil)) (mC (.int 2147483647))) (mVar 0) (mC (.int 1)))
def b_law_take_0 : MS := (sIf (mTst (mOp (oEqA false) (mOp oIx (mVar 0) (mC (.int 0))) (mC (.int 0)))) (sSeq b_law_take_0t_0 (sSeq b_law_take_0t_1 (sSeq b_law_take_0t_2 (sSeq b_law_take_0t_3 (sSeq b_law_take_0t_4 b_law_take_0t_5))))) sNext)
def b_law_take_1t_0 : MS := (sAsg (mOp oMod (mAp oInt (mCons (mOp oIx (mVar 0) (mC (.int 0))) mNil)) (mVar 1)) (gN 4))
def b_law_take_1t_1 : MS := (sSetL (mOp oDiv (mAp oInt (mCons (mOp oIx (mVar 0) (mC (.int 0))) mNil)) (mVar 1)) (mVar 0) (mC (.int 0)))
def b_law_take_1t_2 : MS := (sRet (mVar 4))
def b_law_take_1 : MS := (sIf (mTst (mOp oGt (mOp oIx (mVar 0) (mC (.int 0))) (mC (.int 0)))) (sSeq b_law_take_1t_0 (sSeq b_law_take_1t_1 b_law_take_1t_2)) sNext)
def b_law_take_2 : MS := (sAsg (mOp oMod (mAp oInt (mCons (mOp oMul (mOp oAdd (mOp oIx (mVar 0) (mC (.int 1))) (mC (.int 1))) (mC (.int 39373))) mNil)) (mC (.int 1000000007))) (gN 5))
def b_law_take_3 : MS := (sAsg (mOp oMod (mAp oInt (mCons (mOp oMul (mOp oMod (mAp oInt (mCons (mOp oMul (mVar 5) (mVar 5)) mNil)) (mC (.int 998244353))) (mC (.int 30011))) mNil)) (mC (.int 998244353))) (gN 6))
def b_law_take_4 : MS := (sRet (mOp oMod (mAp oInt (mCons (mOp oDiv (mVar 6) (mC (.int 7))) mNil)) (mVar 1)))
def b_law_take : MS := (sSeq b_law_take_0 (sSeq b_law_take_1 (sSeq b_law_take_2 (sSeq b_law_take_3 b_law_take_4))))
def m_law_take : MF := mDef 2 7 b_law_take
theorem e_law_take (x0 x1 : D) (C : Store) : m_law_take [x0, x1] C = finS C.length (b_law_take ⟨C.length, [some x0, some x1, none, none, none, none, none]⟩ C) := mDef_e rfl rfl
theorem ar_law_take : Ar 2 m_law_take := mDef_ar
theorem ok_law_take (T : Txt K mg) : ∃ fd, FnG P w K mg base 1 (a_law_take K) fd ["_law_bag_here", "_law_many"] (SpD (cn K) 2 m_law_take) ∧ Binds K fd ["_law_bag_here", "_law_many"] [] ∧ PySem.W.keepIn K (.ref (a_law_take K)) = true := by
  obtain ⟨fd, F⟩ := T.f_law_take
  refine ⟨fd, fn_ok (k := cn K) F sc_law_take (by decide) fun cdv A outer s H E hr => ?_, F.bindsN fun _ _ _ _ _ _ us hl => match us, hl with | [_, _], _ => rfl, F.kp⟩
  have tk : Takes (cxOf (L2.CX P w) P w K mg base ["_law_bag_here", "_law_many", "_law_cell", "_law_mixed", "_law_drawn", "_law_early", "_law_second"] "_law_take" (defScope s_law_take) (a_law_take K) cdv A outer s H E) (fun c d _ H => E c d H) := takes_of rfl rfl rfl rfl
  exact (dss_cons (ds_if (dt_cmp (op_eq.or (op_eqD hr.room.units)) d_eqA (de_ix ix_seq d_ix (dv 0) de_int) de_int (nomark _)) (dss_cons (ds_set (i := 2) sc_law_take.nd rfl (Or.inl rfl) de_int)
  (dss_cons (ds_if (dt_cmp op_lt d_lt (de_ix ix_seq d_ix (dv 0) de_int) (de_callB call_len_seq d_len (by rfl) T.n_len (by decide +kernel) (da_cons (de_ix ix_seq d_ix (dv 0) de_int) da_nil)) (nomark _)) (dss_one (ds_set (i := 2) sc_law_take.nd rfl (Or.inl rfl) (de_ix ix_seq d_ix (de_ix ix_seq d_ix (dv 0) de_int) (de_ix ix_seq d_ix (dv 0) de_int)))) dss_nil)
  (dss_cons (ds_augL ip_add (dv 0) de_int de_int)
  (dss_cons (ds_if (dt_cmp op_ge d_ge (dv 2) de_int (nomark _)) (dss_one (ds_setL (dv 2) (pg_sub (dv 0) de_int set_list))) dss_nil)
  (dss_cons (ds_set (i := 3) sc_law_take.nd rfl (Or.inl rfl) (de_op op_add d_add (de_op op_add d_add (de_op op_mul d_mul (de_ix ix_seq d_ix (dv 0) de_int) de_int) (de_op op_mod d_mod (de_callTy call_int1 d_int (by rfl) T.n_int (by decide +kernel) (da_cons (dv 2) da_nil)) de_int)) (de_op op_mul d_mul de_int (de_ix ix_seq d_ix (dv 0) de_int))))
  (dss_one (ds_setL (de_op op_mod d_mod (de_callTy call_int1 d_int (by rfl) T.n_int (by decide +kernel) (da_cons (dv 3) da_nil)) de_int) (pg_sub (dv 0) de_int set_list)))))))) dss_nil)
  (dss_cons (ds_if (dt_cmp op_gt d_gt (de_ix ix_seq d_ix (dv 0) de_int) de_int (nomark _)) (dss_cons (ds_set (i := 4) sc_law_take.nd rfl (Or.inl rfl) (de_op op_mod d_mod (de_callTy call_int1 d_int (by rfl) T.n_int (by decide +kernel) (da_cons (de_ix ix_seq d_ix (dv 0) de_int) da_nil)) (dv 1)))
  (dss_cons (ds_setL (de_op op_fdivW d_div (de_callTy call_int1 d_int (by rfl) T.n_int (by decide +kernel) (da_cons (de_ix ix_seq d_ix (dv 0) de_int) da_nil)) (dv 1)) (pg_sub (dv 0) de_int set_list))
  (dss_one (ds_ret (dv 4))))) dss_nil)
  (dss_cons (ds_set (i := 5) sc_law_take.nd rfl (Or.inl rfl) (de_op op_mod d_mod (de_callTy call_int1 d_int (by rfl) T.n_int (by decide +kernel) (da_cons (de_op op_mul d_mul (de_op op_add d_add (de_ix ix_seq d_ix (dv 0) de_int) de_int) de_int) da_nil)) de_int))
  (dss_cons (ds_set (i := 6) sc_law_take.nd rfl (Or.inl rfl) (de_op op_mod d_mod (de_callTy call_int1 d_int (by rfl) T.n_int (by decide +kernel) (da_cons (de_op op_mul d_mul (de_op op_mod d_mod (de_callTy call_int1 d_int (by rfl) T.n_int (by decide +kernel) (da_cons (de_op op_mul d_mul (dv 5) (dv 5)) da_nil)) de_int) de_int) da_nil)) de_int))
  (dss_one (ds_ret (de_op op_mod d_mod (de_callTy call_int1 d_int (by rfl) T.n_int (by decide +kernel) (da_cons (de_op op_fdivW d_div (dv 6) de_int) da_nil)) (dv 1))))))))
theorem sc_law_list : FnScope ["_law_bag_here", "_law_many", "_law_base", "_law_k"] ["_law_bag_here", "_law_many"] (defScope s_law_list) := ⟨rfl, rfl, rfl, by decide +kernel, rfl, by decide +kernel, by decide +kernel⟩
def b_law_list_0 : MS := (sAsg (mOp oIx (mAp (oLst false) (mCons (mC (.int 0)) (mCons (mUn oNeg (mC (.int 4))) (mCons (mC (.int 999999992)) (mCons (mUn oNeg (mC (.int 1000000000))) (mCons (mOp oSub (mCall m_law_take [] (mCons (mVar 0) (mCons (mC (.int 1999999000)) mNil))) (mC (.int 1000000000))) mNil)))))) (mCall m_law_take [] (mCons (mVar 0) (mCons (mC (.int 5)) mNil)))) (gN 2))
def b_law_list_1 : MS := (sRet (mLc false (mRng1 (mVar 1)) (Tgt.nm 3).M tYesM (mOp oAdd (mVar 2) (mCall m_law_take [] (mCons (mVar 0) (mCons (mC (.int 9)) mNil)))) [3]))
def b_law_list : MS := (sSeq b_law_list_0 b_law_list_1)
def m_law_list : MF := mDef 2 4 b_law_list
theorem e_law_list (x0 x1 : D) (C : Store) : m_law_list [x0, x1] C = finS C.length (b_law_list ⟨C.length, [some x0, some x1, none, none]⟩ C) := mDef_e rfl rfl
theorem ar_law_list : Ar 2 m_law_list := mDef_ar
theorem ok_law_list (T : Txt K mg) : ∃ fd, FnG P w K mg base 2 (a_law_list K) fd ["_law_bag_here", "_law_many"] (SpD (cn K) 2 m_law_list) ∧ Binds K fd ["_law_bag_here", "_law_many"] [] ∧ PySem.W.keepIn K (.ref (a_law_list K)) = true := by
  obtain ⟨fd_law_take, F_law_take, B_law_take, kp_law_take⟩ := ok_law_take (P := P) (w := w) (base := base) T
  obtain ⟨fd, F⟩ := T.f_law_list
  refine ⟨fd, fn_ok (k := cn K) F sc_law_list (by decide) fun cdv A outer s H E hr => ?_, F.bindsN fun _ _ _ _ _ _ us hl => match us, hl with | [_, _], _ => rfl, F.kp⟩
  have tk : Takes (cxOf (L2.CX P w) P w K mg base ["_law_bag_here", "_law_many", "_law_base", "_law_k"] "_law_list" (defScope s_law_list) (a_law_list K) cdv A outer s H E) (fun c d _ H => E c d H) := takes_of rfl rfl rfl rfl
  exact (dss_cons (ds_set (i := 2) sc_law_list.nd rfl (Or.inr rfl) (de_ix ix_seq d_ix (de_lst false (da_cons de_int (da_cons (de_un un_neg d_neg de_int) (da_cons de_int (da_cons (de_un un_neg d_neg de_int) (da_cons (de_op op_sub d_sub (de_call tk F_law_take ar_law_take (hr.mono (by decide)) (by rfl) T.g_law_take kp_law_take B_law_take .nil (fun _ _ _ => .nil) (da_cons (dv 0) (da_cons de_int da_nil))) de_int) da_nil)))))) (de_call tk F_law_take ar_law_take (hr.mono (by decide)) (by rfl) T.g_law_take kp_law_take B_law_take .nil (fun _ _ _ => .nil) (da_cons (dv 0) (da_cons de_int da_nil)))))
  (dss_one (ds_ret (de_lc (own := [("_law_k", 3)]) false rfl rfl sc_law_list.nd (di_rng1 (by rfl) T.n_range (dv 1)) (blkOk_by (own := [("_law_k", 3)]) rfl) (by decide) (fun _ _ _ _ _ => (tg_nm (i := 3) sc_law_list.nd rfl (by first | exact Or.inl rfl | exact Or.inr rfl))) (fun _ _ _ _ _ => dts_nil) (fun _ _ _ _ _ => (de_op op_add d_add (dv 2) (de_call takes0 F_law_take ar_law_take (hr.mono (by decide)) (by rfl) T.g_law_take kp_law_take B_law_take .nil (fun _ _ _ => .nil) (da_cons (dv 0) (da_cons de_int da_nil)))))))))
theorem sc_law_runs : FnScope ["_law_xs", "_law_side", "_law_found", "_law_x"] ["_law_xs", "_law_side"] (defScope s_law_runs) := ⟨rfl, rfl, rfl, by decide +kernel, rfl, by decide +kernel, by decide +kernel⟩
def b_law_runs_0 : MS := (sAsg (mAp (oLst true) mNil) (gN 2))
def b_law_runs_1b_0 : MS := (sIf (mTst (mOp (oEqA false) (mOp oMod (mAp oInt (mCons (mVar 3) mNil)) (mC (.int 2))) (mVar 1))) (sIf (tAndM (mTst (mOp (oEqA true) (mVar 2) (mAp (oLst false) mNil))) (mTst (mOp (oEqA false) (mVar 3) (mOp oAdd (mOp oIx (mOp oIx (mVar 2) (mUn oNeg (mC (.int 1)))) (mC (.int 1))) (mC (.int 2)))))) (sSetL (mAp oTup (mCons (mOp oIx (mOp oIx (mVar 2) (mUn oNeg (mC (.int 1)))) (mC (.int 0))) (mCons (mVar 3) mNil))) (mVar 2) (mUn oNeg (mC (.int 1)))) (sDrop (mAppend (mVar 2) (mAp oTup (mCons (mVar 3) (mCons (mVar 3) mNil)))))) sNext)
def b_law_runs_1 : MS := (sFor (mSeq (mAp (oSortS false) (mCons (mVar 0) mNil))) (Tgt.nm 3).M b_law_runs_1b_0)
def b_law_runs_2 : MS := (sRet (mAp oTupOf (mCons (mVar 2) mNil)))
def b_law_runs : MS := (sSeq b_law_runs_0 (sSeq b_law_runs_1 b_law_runs_2))
def m_law_runs : MF := mDef 2 4 b_law_runs
theorem e_law_runs (x0 x1 : D) (C : Store) : m_law_runs [x0, x1] C = finS C.length (b_law_runs ⟨C.length, [some x0, some x1, none, none]⟩ C) := mDef_e rfl rfl
theorem ar_law_runs : Ar 2 m_law_runs := mDef_ar
theorem ok_law_runs (T : Txt K mg) : ∃ fd, FnG P w K mg base 1 (a_law_runs K) fd ["_law_xs", "_law_side"] (SpD (cn K) 2 m_law_runs) ∧ Binds K fd ["_law_xs", "_law_side"] [] ∧ PySem.W.keepIn K (.ref (a_law_runs K)) = true := by
  obtain ⟨fd, F⟩ := T.f_law_runs
  refine ⟨fd, fn_ok (k := cn K) F sc_law_runs (by decide) fun cdv A outer s H E hr => ?_, F.bindsN fun _ _ _ _ _ _ us hl => match us, hl with | [_, _], _ => rfl, F.kp⟩
  have tk : Takes (cxOf (L2.CX P w) P w K mg base ["_law_xs", "_law_side", "_law_found", "_law_x"] "_law_runs" (defScope s_law_runs) (a_law_runs K) cdv A outer s H E) (fun c d _ H => E c d H) := takes_of rfl rfl rfl rfl
  exact (dss_cons (ds_set (i := 2) sc_law_runs.nd rfl (Or.inl rfl) (de_lst true da_nil))
  (dss_cons (ds_for (passes_of rfl) rfl (di_seq rfl (de_sortS false rfl rfl (by rfl) T.n_sorted (by rfl) T.n_set (da_cons (dv 0) da_nil))) (tg_nm (i := 3) sc_law_runs.nd rfl (Or.inl rfl)) (dss_one (ds_if (dt_cmp (op_eq.or (op_eqD hr.room.units)) d_eqA (de_op op_mod d_mod (de_callTy call_int1 d_int (by rfl) T.n_int (by decide +kernel) (da_cons (dv 3) da_nil)) de_int) (dv 1) (nomark _)) (dss_one (ds_if (PW.pt (dw_and (dt_cmp (op_ne.or (op_neD hr.room.units)) d_neA (dv 2) (de_lst false da_nil) (nomark _)) (dw_and1 (dt_cmp (op_eq.or (op_eqD hr.room.units)) d_eqA (dv 3) (de_op op_add d_add (de_ix ix_seq d_ix (de_ix ix_seq d_ix (dv 2) (de_un un_neg d_neg de_int)) de_int) de_int) (nomark _))))) (dss_one (ds_setL (de_tup (da_cons (de_ix ix_seq d_ix (de_ix ix_seq d_ix (dv 2) (de_un un_neg d_neg de_int)) de_int) (da_cons (dv 3) da_nil))) (pg_sub (dv 2) (de_un un_neg d_neg de_int) set_list))) (dss_one (ds_expr (de_append rfl (dv 2) (de_tup (da_cons (dv 3) (da_cons (dv 3) da_nil)))))))) dss_nil)))
  (dss_one (ds_ret (de_callTy call_tuple_of d_tupOf (by rfl) T.n_tuple (by decide +kernel) (da_cons (dv 2) da_nil))))))
theorem sc_law_made : FnScope ["_law_xs"] ["_law_xs"] (defScope s_law_made) := ⟨rfl, rfl, rfl, by decide +kernel, rfl, by decide +kernel, by decide +kernel⟩
def b_law_made_0 : MS := (sIf (mTst (mOp (oEqA false) (mAp oLen (mCons (mVar 0) mNil)) (mC (.int 0)))) (sRet (mMake false 0 1 (vaM .pos 0 m_Want__init) [] mNil)) sNext)
def b_law_made_1 : MS := (sIf (mTst (mOp (oEqA false) (mAp oLen (mCons (mVar 0) mNil)) (mC (.int 1)))) (sRet (mMake false 0 1 (vaM .pos 1 m_Want__init) [] (mCons (mOp oIx (mVar 0) (mC (.int 0))) mNil))) sNext)
def b_law_made_2 : MS := (sIf (mTst (mOp (oEqA false) (mAp oLen (mCons (mVar 0) mNil)) (mC (.int 2)))) (sRet (mMake false 0 1 (vaM .pos 2 m_Want__init) [] (mCons (mOp oIx (mVar 0) (mC (.int 0))) (mCons (mOp oIx (mVar 0) (mC (.int 1))) mNil)))) sNext)
def b_law_made_3 : MS := (sIf (mTst (mOp (oEqA false) (mAp oLen (mCons (mVar 0) mNil)) (mC (.int 3)))) (sRet (mMake false 0 1 (vaM .pos 3 m_Want__init) [] (mCons (mOp oIx (mVar 0) (mC (.int 0))) (mCons (mOp oIx (mVar 0) (mC (.int 1))) (mCons (mOp oIx (mVar 0) (mC (.int 2))) mNil))))) sNext)
def b_law_made_4 : MS := (sIf (mTst (mOp (oEqA false) (mAp oLen (mCons (mVar 0) mNil)) (mC (.int 5)))) (sRet (mMake false 0 1 (vaM .pos 5 m_Want__init) [] (mCons (mOp oIx (mVar 0) (mC (.int 0))) (mCons (mOp oIx (mVar 0) (mC (.int 1))) (mCons (mOp oIx (mVar 0) (mC (.int 2))) (mCons (mOp oIx (mVar 0) (mC (.int 3))) (mCons (mOp oIx (mVar 0) (mC (.int 4))) mNil))))))) sNext)
def b_law_made_5 : MS := (sIf (mTst (mOp (oEqA false) (mAp oLen (mCons (mVar 0) mNil)) (mC (.int 8)))) (sRet (mMake false 0 1 (vaM .pos 8 m_Want__init) [] (mCons (mOp oIx (mVar 0) (mC (.int 0))) (mCons (mOp oIx (mVar 0) (mC (.int 1))) (mCons (mOp oIx (mVar 0) (mC (.int 2))) (mCons (mOp oIx (mVar 0) (mC (.int 3))) (mCons (mOp oIx (mVar 0) (mC (.int 4))) (mCons (mOp oIx (mVar 0) (mC (.int 5))) (mCons (mOp oIx (mVar 0) (mC (.int 6))) (mCons (mOp oIx (mVar 0) (mC (.int 7))) mNil)))))))))) sNext)
def b_law_made_6 : MS := (sRet (mMake false 0 1 (vaM .pos 12 m_Want__init) [] (mCons (mOp oIx (mVar 0) (mC (.int 0))) (mCons (mOp oIx (mVar 0) (mC (.int 1))) (mCons (mOp oIx (mVar 0) (mC (.int 2))) (mCons (mOp oIx (mVar 0) (mC (.int 3))) (mCons (mOp oIx (mVar 0) (mC (.int 4))) (mCons (mOp oIx (mVar 0) (mC (.int 5))) (mCons (mOp oIx (mVar 0) (mC (.int 6))) (mCons (mOp oIx (mVar 0) (mC (.int 7))) (mCons (mOp oIx (mVar 0) (mC (.int 8))) (mCons (mOp oIx (mVar 0) (mC (.int 9))) (mCons (mOp oIx (mVar 0) (mC (.int 10))) (mCons (mOp oIx (mVar 0) (mC (.int 11))) mNil))))))))))))))
def b_law_made : MS := (sSeq b_law_made_0 (sSeq b_law_made_1 (sSeq b_law_made_2 (sSeq b_law_made_3 (sSeq b_law_made_4 (sSeq b_law_made_5 b_law_made_6))))))
def m_law_made : MF := mDef 1 1 b_law_made
theorem e_law_made (x0 : D) (C : Store) : m_law_made [x0] C = finS C.length (b_law_made ⟨C.length, [some x0]⟩ C) := mDef_e rfl rfl
theorem ar_law_made : Ar 1 m_law_made := mDef_ar
theorem ok_law_made (T : Txt K mg) : ∃ fd, FnG P w K mg base 6 (a_law_made K) fd ["_law_xs"] (SpD (cn K) 1 m_law_made) ∧ Binds K fd ["_law_xs"] [] ∧ PySem.W.keepIn K (.ref (a_law_made K)) = true := by
  obtain ⟨fd_Want__init, F_Want__init, Bn0_Want__init, Bn1_Want__init, Bn2_Want__init, Bn3_Want__init, Bn5_Want__init, Bn8_Want__init, Bn12_Want__init, Bk_Want__init⟩ := ok_Want__init (P := P) (w := w) (base := base) T
  obtain ⟨fd, F⟩ := T.f_law_made
  refine ⟨fd, fn_ok (k := cn K) F sc_law_made (by decide) fun cdv A outer s H E hr => ?_, F.bindsN fun _ _ _ _ _ _ us hl => match us, hl with | [_], _ => rfl, F.kp⟩
  have tk : Takes (cxOf (L2.CX P w) P w K mg base ["_law_xs"] "_law_made" (defScope s_law_made) (a_law_made K) cdv A outer s H E) (fun c d _ H => E c d H) := takes_of rfl rfl rfl rfl
  exact (dss_cons (ds_if (dt_cmp (op_eq.or (op_eqD hr.room.units)) d_eqA (de_callB call_len_seq d_len (by rfl) T.n_len (by decide +kernel) (da_cons (dv 0) da_nil)) de_int (nomark _)) (dss_one (ds_ret (de_makeW0 false 0 1 tk rfl T.mk_Want F_Want__init rfl (hr.mono (by decide)) (by rfl) T.g_Want Bn0_Want__init))) dss_nil)
  (dss_cons (ds_if (dt_cmp (op_eq.or (op_eqD hr.room.units)) d_eqA (de_callB call_len_seq d_len (by rfl) T.n_len (by decide +kernel) (da_cons (dv 0) da_nil)) de_int (nomark _)) (dss_one (ds_ret (de_makeW false 0 1 tk rfl T.mk_Want F_Want__init rfl (hr.mono (by decide)) (by rfl) T.g_Want Bn1_Want__init (by decide) (da_cons (de_ix ix_seq d_ix (dv 0) de_int) da_nil)))) dss_nil)
  (dss_cons (ds_if (dt_cmp (op_eq.or (op_eqD hr.room.units)) d_eqA (de_callB call_len_seq d_len (by rfl) T.n_len (by decide +kernel) (da_cons (dv 0) da_nil)) de_int (nomark _)) (dss_one (ds_ret (de_makeW false 0 1 tk rfl T.mk_Want F_Want__init rfl (hr.mono (by decide)) (by rfl) T.g_Want Bn2_Want__init (by decide) (da_cons (de_ix ix_seq d_ix (dv 0) de_int) (da_cons (de_ix ix_seq d_ix (dv 0) de_int) da_nil))))) dss_nil)
  (dss_cons (ds_if (dt_cmp (op_eq.or (op_eqD hr.room.units)) d_eqA (de_callB call_len_seq d_len (by rfl) T.n_len (by decide +kernel) (da_cons (dv 0) da_nil)) de_int (nomark _)) (dss_one (ds_ret (de_makeW false 0 1 tk rfl T.mk_Want F_Want__init rfl (hr.mono (by decide)) (by rfl) T.g_Want Bn3_Want__init (by decide) (da_cons (de_ix ix_seq d_ix (dv 0) de_int) (da_cons (de_ix ix_seq d_ix (dv 0) de_int) (da_cons (de_ix ix_seq d_ix (dv 0) de_int) da_nil)))))) dss_nil)
  (dss_cons (ds_if (dt_cmp (op_eq.or (op_eqD hr.room.units)) d_eqA (de_callB call_len_seq d_len (by rfl) T.n_len (by decide +kernel) (da_cons (dv 0) da_nil)) de_int (nomark _)) (dss_one (ds_ret (de_makeW false 0 1 tk rfl T.mk_Want F_Want__init rfl (hr.mono (by decide)) (by rfl) T.g_Want Bn5_Want__init (by decide) (da_cons (de_ix ix_seq d_ix (dv 0) de_int) (da_cons (de_ix ix_seq d_ix (dv 0) de_int) (da_cons (de_ix ix_seq d_ix (dv 0) de_int) (da_cons (de_ix ix_seq d_ix (dv 0) de_int) (da_cons (de_ix ix_seq d_ix (dv 0) de_int) da_nil)))))))) dss_nil)
  (dss_cons (ds_if (dt_cmp (op_eq.or (op_eqD hr.room.units)) d_eqA (de_callB call_len_seq d_len (by rfl) T.n_len (by decide +kernel) (da_cons (dv 0) da_nil)) de_int (nomark _)) (dss_one (ds_ret (de_makeW false 0 1 tk rfl T.mk_Want F_Want__init rfl (hr.mono (by decide)) (by rfl) T.g_Want Bn8_Want__init (by decide) (da_cons (de_ix ix_seq d_ix (dv 0) de_int) (da_cons (de_ix ix_seq d_ix (dv 0) de_int) (da_cons (de_ix ix_seq d_ix (dv 0) de_int) (da_cons (de_ix ix_seq d_ix (dv 0) de_int) (da_cons (de_ix ix_seq d_ix (dv 0) de_int) (da_cons (de_ix ix_seq d_ix (dv 0) de_int) (da_cons (de_ix ix_seq d_ix (dv 0) de_int) (da_cons (de_ix ix_seq d_ix (dv 0) de_int) da_nil))))))))))) dss_nil)
  (dss_one (ds_ret (de_makeW false 0 1 tk rfl T.mk_Want F_Want__init rfl (hr.mono (by decide)) (by rfl) T.g_Want Bn12_Want__init (by decide) (da_cons (de_ix ix_seq d_ix (dv 0) de_int) (da_cons (de_ix ix_seq d_ix (dv 0) de_int) (da_cons (de_ix ix_seq d_ix (dv 0) de_int) (da_cons (de_ix ix_seq d_ix (dv 0) de_int) (da_cons (de_ix ix_seq d_ix (dv 0) de_int) (da_cons (de_ix ix_seq d_ix (dv 0) de_int) (da_cons (de_ix ix_seq d_ix (dv 0) de_int) (da_cons (de_ix ix_seq d_ix (dv 0) de_int) (da_cons (de_ix ix_seq d_ix (dv 0) de_int) (da_cons (de_ix ix_seq d_ix (dv 0) de_int) (da_cons (de_ix ix_seq d_ix (dv 0) de_int) (da_cons (de_ix ix_seq d_ix (dv 0) de_int) da_nil)))))))))))))))))))))
theorem sc_law_text : FnScope ["_law_runs_here", "_law_found", "_law_low", "_law_high"] ["_law_runs_here"] (defScope s_law_text) := ⟨rfl, rfl, rfl, by decide +kernel, rfl, by decide +kernel, by decide +kernel⟩
def b_law_text_0 : MS := (sIf (mTst (mOp (oEqA false) (mVar 0) (mAp (oLst false) mNil))) (sRet (mC (.str "none"))) sNext)
def b_law_text_1 : MS := (sAsg (mAp (oLst true) mNil) (gN 1))
def b_law_text_2b_0 : MS := (sDrop (mAppend (mVar 1) (mIf (mTst (mOp (oEqA false) (mVar 2) (mVar 3))) (mAp oStrI (mCons (mVar 2) mNil)) (mOp oCatS (mOp oCatS (mOp oCatS (mAp oStrI (mCons (mVar 2) mNil)) (mC (.str ".."))) (mAp oStrI (mCons (mVar 3) mNil))) (mC (.str "/2"))))))
def b_law_text_2 : MS := (sFor (mSeq (mVar 0)) (Tgt.tp [2, 3]).M b_law_text_2b_0)
def b_law_text_3 : MS := (sRet (mJoin (mC (.str ", ")) (mVar 1)))
def b_law_text : MS := (sSeq b_law_text_0 (sSeq b_law_text_1 (sSeq b_law_text_2 b_law_text_3)))
def m_law_text : MF := mDef 1 4 b_law_text
theorem e_law_text (x0 : D) (C : Store) : m_law_text [x0] C = finS C.length (b_law_text ⟨C.length, [some x0, none, none, none]⟩ C) := mDef_e rfl rfl
theorem ar_law_text : Ar 1 m_law_text := mDef_ar
theorem ok_law_text (T : Txt K mg) : ∃ fd, FnG P w K mg base 1 (a_law_text K) fd ["_law_runs_here"] (SpD (cn K) 1 m_law_text) ∧ Binds K fd ["_law_runs_here"] [] ∧ PySem.W.keepIn K (.ref (a_law_text K)) = true := by
  obtain ⟨fd, F⟩ := T.f_law_text
  refine ⟨fd, fn_ok (k := cn K) F sc_law_text (by decide) fun cdv A outer s H E hr => ?_, F.bindsN fun _ _ _ _ _ _ us hl => match us, hl with | [_], _ => rfl, F.kp⟩
  have tk : Takes (cxOf (L2.CX P w) P w K mg base ["_law_runs_here", "_law_found", "_law_low", "_law_high"] "_law_text" (defScope s_law_text) (a_law_text K) cdv A outer s H E) (fun c d _ H => E c d H) := takes_of rfl rfl rfl rfl
  exact (dss_cons (ds_if (dt_cmp (op_eq.or (op_eqD hr.room.units)) d_eqA (dv 0) (de_lst false da_nil) (nomark _)) (dss_one (ds_ret de_str)) dss_nil)
  (dss_cons (ds_set (i := 1) sc_law_text.nd rfl (Or.inl rfl) (de_lst true da_nil))
  (dss_cons (ds_for (passes_of rfl) rfl (di_seq rfl (dv 0)) (tg_tp [2, 3] rfl rfl (pgs_cons (pg_name (i := 2) sc_law_text.nd rfl (Or.inl rfl)) (pgs_cons (pg_name (i := 3) sc_law_text.nd rfl (Or.inl rfl)) pgs_nil))) (dss_one (ds_expr (de_append rfl (dv 1) (de_if (dt_cmp (op_eq.or (op_eqD hr.room.units)) d_eqA (dv 2) (dv 3) (nomark _)) (de_callTy call_str_int d_strI (by rfl) T.n_str (by decide +kernel) (da_cons (dv 2) da_nil)) (de_op op_add_str d_catS (de_op op_add_str d_catS (de_op op_add_str d_catS (de_callTy call_str_int d_strI (by rfl) T.n_str (by decide +kernel) (da_cons (dv 2) da_nil)) de_str) (de_callTy call_str_int d_strI (by rfl) T.n_str (by decide +kernel) (da_cons (dv 3) da_nil))) de_str))))))
  (dss_one (ds_ret (de_join rfl de_str (dv 1)))))))
theorem sc_law_ends : FnScope ["_law_runs_here"] ["_law_runs_here"] (defScope s_law_ends) := ⟨rfl, rfl, rfl, by decide +kernel, rfl, by decide +kernel, by decide +kernel⟩
def b_law_ends : MS := (sRet (mIf (mTst (mOp (oEqA true) (mVar 0) (mAp oTup mNil))) (mAp (oLst false) (mCons (mOp oIx (mOp oIx (mVar 0) (mC (.int 0))) (mC (.int 0))) (mCons (mOp oIx (mOp oIx (mVar 0) (mUn oNeg (mC (.int 1)))) (mC (.int 1))) mNil))) (mAp (oLst false) mNil)))
def m_law_ends : MF := mDef 1 1 b_law_ends
theorem e_law_ends (x0 : D) (C : Store) : m_law_ends [x0] C = finS C.length (b_law_ends ⟨C.length, [some x0]⟩ C) := mDef_e rfl rfl
theorem ar_law_ends : Ar 1 m_law_ends := mDef_ar
theorem ok_law_ends (T : Txt K mg) : ∃ fd, FnG P w K mg base 1 (a_law_ends K) fd ["_law_runs_here"] (SpD (cn K) 1 m_law_ends) ∧ Binds K fd ["_law_runs_here"] [] ∧ PySem.W.keepIn K (.ref (a_law_ends K)) = true := by
  obtain ⟨fd, F⟩ := T.f_law_ends
  refine ⟨fd, fn_ok (k := cn K) F sc_law_ends (by decide) fun cdv A outer s H E hr => ?_, F.bindsN fun _ _ _ _ _ _ us hl => match us, hl with | [_], _ => rfl, F.kp⟩
  have tk : Takes (cxOf (L2.CX P w) P w K mg base ["_law_runs_here"] "_law_ends" (defScope s_law_ends) (a_law_ends K) cdv A outer s H E) (fun c d _ H => E c d H) := takes_of rfl rfl rfl rfl
  exact (dss_one (ds_ret (de_if (dt_cmp (op_ne.or (op_neD hr.room.units)) d_neA (dv 0) (de_tup da_nil) (nomark _)) (de_lst false (da_cons (de_ix ix_seq d_ix (de_ix ix_seq d_ix (dv 0) de_int) de_int) (da_cons (de_ix ix_seq d_ix (de_ix ix_seq d_ix (dv 0) (de_un un_neg d_neg de_int)) de_int) da_nil))) (de_lst false da_nil))))
theorem sc_law_right : FnScope ["_law_bag_here", "_law_want", "_law_xs", "_law_due", "_law_evens", "_law_odds", "_law_wish", "_law_told", "_law_k", "_law_runs_here", "_law_ends_here", "_law_count", "_law_x", "_law_near", "_law_thing"] ["_law_bag_here", "_law_want", "_law_xs"] (defScope s_law_right) := ⟨rfl, rfl, rfl, by decide +kernel, rfl, by decide +kernel, by decide +kernel⟩
def b_law_right_0 : MS := (sAsg (mAp (oSortS false) (mCons (mVar 2) mNil)) (gN 3))
def b_law_right_1 : MS := (sPar [4, 5] (mCons (mCall m_law_runs [] (mCons (mVar 3) (mCons (mC (.int 0)) mNil))) (mCons (mCall m_law_runs [] (mCons (mVar 3) (mCons (mC (.int 1)) mNil))) mNil)))
def b_law_right_2 : MS := (sAsg (mAp (oLst false) (mCons (mVar 4) (mCons (mVar 5) (mCons (mIf (mTst (mOp (oEqA true) (mVar 3) (mAp (oLst false) mNil))) (mOp oIx (mVar 3) (mC (.int 0))) (mC .non)) (mCons (mIf (mTst (mOp (oEqA true) (mVar 3) (mAp (oLst false) mNil))) (mOp oIx (mVar 3) (mUn oNeg (mC (.int 1)))) (mC .non)) (mCons (mAp oLen (mCons (mVar 3) mNil)) mNil)))))) (gN 6))
def b_law_right_3 : MS := (sAsg (mOp (oCat false) (mVar 6) (mAp (oLst false) (mCons (mAp oTupOf (mCons (mAp (oSortS false) (mCons (mOp (oCat false) (mCall m_law_ends [] (mCons (mVar 4) mNil)) (mCall m_law_ends [] (mCons (mVar 5) mNil))) mNil)) mNil)) mNil))) (gN 6))
def b_law_right_4 : MS := (sAsg (mAp (oLst false) (mCons (mProp 0 m_Want_evens (mVar 1)) (mCons (mProp 0 m_Want_odds (mVar 1)) (mCons (mProp 0 m_Want_low (mVar 1)) (mCons (mProp 0 m_Want_high (mVar 1)) (mCons (mProp 0 m_Want_many (mVar 1)) (mCons (mProp 0 m_Want_corners (mVar 1)) mNil))))))) (gN 7))
def b_law_right_5 : MS := (sIf (tOrM (mTst (mOp (oEqA true) (mAp oRepr (mCons (mVar 7) mNil)) (mAp oRepr (mCons (mVar 6) mNil)))) (tNotM (mTst (mIsi [0] (.own 0) (mVar 1))))) (sRet (mC (.bl false))) sNext)
def b_law_right_6b_0 : MS := (sAsg (mSlL false (mOp (oCat false) (mCall m_law_ends [] (mCons (mVar 9) mNil)) (mAp (oLst false) (mCons (mC .non) (mCons (mC .non) mNil)))) mNoPart (mPart (mC (.int 2)))) (gN 10))
def b_law_right_6b_1 : MS := (sIf (mTst (mOp (oEqA true) (mAp oRepr (mCons (mAp (oLst false) (mCons (mMeth 0 m_Want_least [] (mVar 1) (mCons (mVar 8) mNil)) (mCons (mMeth 0 m_Want_greatest [] (mVar 1) (mCons (mVar 8) mNil)) mNil))) mNil)) (mAp oRepr (mCons (mVar 10) mNil)))) (sRet (mC (.bl false))) sNext)
def b_law_right_6 : MS := (sFor (mEnum (mAp (oLst false) (mCons (mVar 4) (mCons (mVar 5) mNil)))) (Tgt.tp [8, 9]).M (sSeq b_law_right_6b_0 b_law_right_6b_1))
def b_law_right_7b_0 : MS := (sIf (mTst (mOp (oEqA true) (mAp oRepr (mCons (mMeth 0 m_Want_first [] (mVar 1) (mCons (mVar 11) mNil)) mNil)) (mAp oRepr (mCons (mSlL false (mVar 3) mNoPart (mPart (mVar 11))) mNil)))) (sRet (mC (.bl false))) sNext)
def b_law_right_7 : MS := (sFor (mSeq (mAp oTup (mCons (mC (.int 0)) (mCons (mC (.int 1)) (mCons (mCall m_law_take [] (mCons (mVar 0) (mCons (mC (.int 6)) mNil))) (mCons (mAp oLen (mCons (mVar 3) mNil)) (mCons (mOp oAdd (mAp oLen (mCons (mVar 3) mNil)) (mC (.int 3))) (mCons (mC (.int 1000)) mNil)))))))) (Tgt.nm 11).M b_law_right_7b_0)
def b_law_right_8bb_0 : MS := (sIf (mTst (mOp (oEqA true) (mAp oRepr (mCons (mInO false 0 m_Want__contains (mVar 13) (mVar 1)) mNil)) (mAp oRepr (mCons (mOp (oInD false) (mVar 13) (mVar 3)) mNil)))) (sRet (mC (.bl false))) sNext)
def b_law_right_8b_0 : MS := (sFor (mSeq (mAp oTup (mCons (mOp oSub (mVar 12) (mC (.int 2))) (mCons (mOp oSub (mVar 12) (mC (.int 1))) (mCons (mVar 12) (mCons (mOp oAdd (mVar 12) (mC (.int 1))) (mCons (mOp oAdd (mVar 12) (mC (.int 2))) mNil))))))) (Tgt.nm 13).M b_law_right_8bb_0)
def b_law_right_8 : MS := (sFor (mSeq (mOp (oCat false) (mVar 3) (mAp (oLst false) (mCons (mC (.int 0)) (mCons (mC (.int 1)) (mCons (mOp oPow (mC (.int 10)) (mC (.int 40))) mNil)))))) (Tgt.nm 12).M b_law_right_8b_0)
def b_law_right_9b_0 : MS := (sIf (mTst (mOp (oEqA true) (mAp oRepr (mCons (mInO false 0 m_Want__contains (mVar 14) (mVar 1)) mNil)) (mC (.str "False")))) (sRet (mC (.bl false))) sNext)
def b_law_right_9 : MS := (sFor (mSeq (mAp (oLst false) (mCons (mC .non) (mCons (mC (.bl true)) (mCons (mC (.bl false)) (mCons (mC (.str "0")) (mCons (mC (.str "")) (mCons (mAp oTup (mCons (mC (.int 0)) mNil)) (mCons (mAp (oLst false) (mCons (mC (.int 0)) mNil)) (mCons (mDNew false) (mCons (mAp oTupOf (mCons (mVar 3) mNil)) (mCons (mVar 3) (mCons (mVar 1) mNil))))))))))))) (Tgt.nm 14).M b_law_right_9b_0)
def b_law_right_10 : MS := (sRet (mAnd (mOp (oEqA false) (mAp oRepr (mCons (mBoolO 0 m_Want__bool (mVar 1)) mNil)) (mAp oRepr (mCons (mOp (oEqA true) (mVar 3) (mAp (oLst false) mNil)) mNil))) (mOp (oEqA false) (mStrO 0 m_Want__str (mVar 1)) (mCall m_law_text [] (mCons (mAp (oSortQ false) (mCons (mOp oCatT (mVar 4) (mVar 5)) mNil)) mNil)))))
def b_law_right : MS := (sSeq b_law_right_0 (sSeq b_law_right_1 (sSeq b_law_right_2 (sSeq b_law_right_3 (sSeq b_law_right_4 (sSeq b_law_right_5 (sSeq b_law_right_6 (sSeq b_law_right_7 (sSeq b_law_right_8 (sSeq b_law_right_9 b_law_right_10))))))))))
def m_law_right : MF := mDef 3 15 b_law_right
theorem e_law_right (x0 x1 x2 : D) (C : Store) : m_law_right [x0, x1, x2] C = finS C.length (b_law_right ⟨C.length, [some x0, some x1, some x2, none, none, none, none, none, none, none, none, none, none, none, none]⟩ C) := mDef_e rfl rfl
theorem ar_law_right : Ar 3 m_law_right := mDef_ar
theorem ok_law_right (T : Txt K mg) : ∃ fd, FnG P w K mg base 5 (a_law_right K) fd ["_law_bag_here", "_law_want", "_law_xs"] (SpD (cn K) 3 m_law_right) ∧ Binds K fd ["_law_bag_here", "_law_want", "_law_xs"] [] ∧ PySem.W.keepIn K (.ref (a_law_right K)) = true := by
  obtain ⟨fd_law_runs, F_law_runs, B_law_runs, kp_law_runs⟩ := ok_law_runs (P := P) (w := w) (base := base) T
  obtain ⟨fd_law_ends, F_law_ends, B_law_ends, kp_law_ends⟩ := ok_law_ends (P := P) (w := w) (base := base) T
  obtain ⟨fd_Want_corners, F_Want_corners, B_Want_corners, kp_Want_corners⟩ := ok_Want_corners (P := P) (w := w) (base := base) T
  obtain ⟨fd_Want_many, F_Want_many, B_Want_many, kp_Want_many⟩ := ok_Want_many (P := P) (w := w) (base := base) T
  obtain ⟨fd_Want_high, F_Want_high, B_Want_high, kp_Want_high⟩ := ok_Want_high (P := P) (w := w) (base := base) T
  obtain ⟨fd_Want_low, F_Want_low, B_Want_low, kp_Want_low⟩ := ok_Want_low (P := P) (w := w) (base := base) T
  obtain ⟨fd_Want_odds, F_Want_odds, B_Want_odds, kp_Want_odds⟩ := ok_Want_odds (P := P) (w := w) (base := base) T
  obtain ⟨fd_Want_evens, F_Want_evens, B_Want_evens, kp_Want_evens⟩ := ok_Want_evens (P := P) (w := w) (base := base) T
  obtain ⟨fd_Want_greatest, F_Want_greatest, B_Want_greatest, kp_Want_greatest⟩ := ok_Want_greatest (P := P) (w := w) (base := base) T
  obtain ⟨fd_Want_least, F_Want_least, B_Want_least, kp_Want_least⟩ := ok_Want_least (P := P) (w := w) (base := base) T
  obtain ⟨fd_law_take, F_law_take, B_law_take, kp_law_take⟩ := ok_law_take (P := P) (w := w) (base := base) T
  obtain ⟨fd_Want_first, F_Want_first, B_Want_first, kp_Want_first⟩ := ok_Want_first (P := P) (w := w) (base := base) T
  obtain ⟨fd_Want__contains, F_Want__contains, B_Want__contains, kp_Want__contains⟩ := ok_Want__contains (P := P) (w := w) (base := base) T
  obtain ⟨fd_Want__bool, F_Want__bool, B_Want__bool, kp_Want__bool⟩ := ok_Want__bool (P := P) (w := w) (base := base) T
  obtain ⟨fd_Want__str, F_Want__str, B_Want__str, kp_Want__str⟩ := ok_Want__str (P := P) (w := w) (base := base) T
  obtain ⟨fd_law_text, F_law_text, B_law_text, kp_law_text⟩ := ok_law_text (P := P) (w := w) (base := base) T
  obtain ⟨fd, F⟩ := T.f_law_right
  refine ⟨fd, fn_ok (k := cn K) F sc_law_right (by decide) fun cdv A outer s H E hr => ?_, F.bindsN fun _ _ _ _ _ _ us hl => match us, hl with | [_, _, _], _ => rfl, F.kp⟩
  have tk : Takes (cxOf (L2.CX P w) P w K mg base ["_law_bag_here", "_law_want", "_law_xs", "_law_due", "_law_evens", "_law_odds", "_law_wish", "_law_told", "_law_k", "_law_runs_here", "_law_ends_here", "_law_count", "_law_x", "_law_near", "_law_thing"] "_law_right" (defScope s_law_right) (a_law_right K) cdv A outer s H E) (fun c d _ H => E c d H) := takes_of rfl rfl rfl rfl
  exact (dss_cons (ds_set (i := 3) sc_law_right.nd rfl (Or.inl rfl) (de_sortS false rfl rfl (by rfl) T.n_sorted (by rfl) T.n_set (da_cons (dv 2) da_nil)))
  (dss_cons (ds_par (i := 4) (j := 5) rfl sc_law_right.nd rfl rfl (by decide) rfl rfl (da_cons (de_call tk F_law_runs ar_law_runs (hr.mono (by decide)) (by rfl) T.g_law_runs kp_law_runs B_law_runs .nil (fun _ _ _ => .nil) (da_cons (dv 3) (da_cons de_int da_nil))) (da_cons (de_call tk F_law_runs ar_law_runs (hr.mono (by decide)) (by rfl) T.g_law_runs kp_law_runs B_law_runs .nil (fun _ _ _ => .nil) (da_cons (dv 3) (da_cons de_int da_nil))) da_nil)))
  (dss_cons (ds_set (i := 6) sc_law_right.nd rfl (Or.inl rfl) (de_lst false (da_cons (dv 4) (da_cons (dv 5) (da_cons (de_if (dt_cmp (op_ne.or (op_neD hr.room.units)) d_neA (dv 3) (de_lst false da_nil) (nomark _)) (de_ix ix_seq d_ix (dv 3) de_int) de_non) (da_cons (de_if (dt_cmp (op_ne.or (op_neD hr.room.units)) d_neA (dv 3) (de_lst false da_nil) (nomark _)) (de_ix ix_seq d_ix (dv 3) (de_un un_neg d_neg de_int)) de_non) (da_cons (de_callB call_len_seq d_len (by rfl) T.n_len (by decide +kernel) (da_cons (dv 3) da_nil)) da_nil)))))))
  (dss_cons (ds_set (i := 6) sc_law_right.nd rfl (Or.inl rfl) (de_op op_cat (d_cat false) (dv 6) (de_lst false (da_cons (de_callTy call_tuple_of d_tupOf (by rfl) T.n_tuple (by decide +kernel) (da_cons (de_sortS false rfl rfl (by rfl) T.n_sorted (by rfl) T.n_set (da_cons (de_op op_cat (d_cat false) (de_call tk F_law_ends ar_law_ends (hr.mono (by decide)) (by rfl) T.g_law_ends kp_law_ends B_law_ends .nil (fun _ _ _ => .nil) (da_cons (dv 4) da_nil)) (de_call tk F_law_ends ar_law_ends (hr.mono (by decide)) (by rfl) T.g_law_ends kp_law_ends B_law_ends .nil (fun _ _ _ => .nil) (da_cons (dv 5) da_nil))) da_nil)) da_nil)) da_nil))))
  (dss_cons (ds_set (i := 7) sc_law_right.nd rfl (Or.inl rfl) (de_lst false (da_cons (de_prop 0 rfl (dv 1) T.cl_Want T.pr_evens F_Want_evens ar_Want_evens (hr.mono (by decide)) B_Want_evens) (da_cons (de_prop 0 rfl (dv 1) T.cl_Want T.pr_odds F_Want_odds ar_Want_odds (hr.mono (by decide)) B_Want_odds) (da_cons (de_prop 0 rfl (dv 1) T.cl_Want T.pr_low F_Want_low ar_Want_low (hr.mono (by decide)) B_Want_low) (da_cons (de_prop 0 rfl (dv 1) T.cl_Want T.pr_high F_Want_high ar_Want_high (hr.mono (by decide)) B_Want_high) (da_cons (de_prop 0 rfl (dv 1) T.cl_Want T.pr_many F_Want_many ar_Want_many (hr.mono (by decide)) B_Want_many) (da_cons (de_prop 0 rfl (dv 1) T.cl_Want T.pr_corners F_Want_corners ar_Want_corners (hr.mono (by decide)) B_Want_corners) da_nil))))))))
  (dss_cons (ds_if (PW.pt (dw_or (dt_cmp (op_ne.or (op_neD hr.room.units)) d_neA (de_callB (call_reprD (hr.mono (by decide))) d_repr (by rfl) T.n_repr (by decide +kernel) (da_cons (dv 7) da_nil)) (de_callB (call_reprD (hr.mono (by decide))) d_repr (by rfl) T.n_repr (by decide +kernel) (da_cons (dv 6) da_nil)) (nomark _)) (dw_or1 (dt_not (dt_val (de_isi (by rfl) T.n_isinstance T.isa rfl rfl (dv 1) (pe_glob (by rfl) T.g_Want rfl))))))) (dss_one (ds_ret de_bl)) dss_nil)
  (dss_cons (ds_for (passes_of rfl) rfl (di_enum (by rfl) T.n_enumerate rfl (de_lst false (da_cons (dv 4) (da_cons (dv 5) da_nil)))) (tg_tp [8, 9] rfl rfl (pgs_cons (pg_name (i := 8) sc_law_right.nd rfl (Or.inl rfl)) (pgs_cons (pg_name (i := 9) sc_law_right.nd rfl (Or.inl rfl)) pgs_nil))) (dss_cons (ds_set (i := 10) sc_law_right.nd rfl (Or.inl rfl) (de_slL false rfl (de_op op_cat (d_cat false) (de_call tk F_law_ends ar_law_ends (hr.mono (by decide)) (by rfl) T.g_law_ends kp_law_ends B_law_ends .nil (fun _ _ _ => .nil) (da_cons (dv 9) da_nil)) (de_lst false (da_cons de_non (da_cons de_non da_nil)))) do_none (do_some de_int)))
  (dss_one (ds_if (dt_cmp (op_ne.or (op_neD hr.room.units)) d_neA (de_callB (call_reprD (hr.mono (by decide))) d_repr (by rfl) T.n_repr (by decide +kernel) (da_cons (de_lst false (da_cons (de_meth 0 tk rfl (dv 1) T.cl_Want T.me_Want_least F_Want_least ar_Want_least nm_Want_least (hr.mono (by decide)) B_Want_least .nil (fun _ _ _ => .nil) (da_cons (dv 8) da_nil)) (da_cons (de_meth 0 tk rfl (dv 1) T.cl_Want T.me_Want_greatest F_Want_greatest ar_Want_greatest nm_Want_greatest (hr.mono (by decide)) B_Want_greatest .nil (fun _ _ _ => .nil) (da_cons (dv 8) da_nil)) da_nil))) da_nil)) (de_callB (call_reprD (hr.mono (by decide))) d_repr (by rfl) T.n_repr (by decide +kernel) (da_cons (dv 10) da_nil)) (nomark _)) (dss_one (ds_ret de_bl)) dss_nil))))
  (dss_cons (ds_for (passes_of rfl) rfl (di_seq rfl (de_tup (da_cons de_int (da_cons de_int (da_cons (de_call tk F_law_take ar_law_take (hr.mono (by decide)) (by rfl) T.g_law_take kp_law_take B_law_take .nil (fun _ _ _ => .nil) (da_cons (dv 0) (da_cons de_int da_nil))) (da_cons (de_callB call_len_seq d_len (by rfl) T.n_len (by decide +kernel) (da_cons (dv 3) da_nil)) (da_cons (de_op op_add d_add (de_callB call_len_seq d_len (by rfl) T.n_len (by decide +kernel) (da_cons (dv 3) da_nil)) de_int) (da_cons de_int da_nil)))))))) (tg_nm (i := 11) sc_law_right.nd rfl (Or.inl rfl)) (dss_one (ds_if (dt_cmp (op_ne.or (op_neD hr.room.units)) d_neA (de_callB (call_reprD (hr.mono (by decide))) d_repr (by rfl) T.n_repr (by decide +kernel) (da_cons (de_meth 0 tk rfl (dv 1) T.cl_Want T.me_Want_first F_Want_first ar_Want_first nm_Want_first (hr.mono (by decide)) B_Want_first .nil (fun _ _ _ => .nil) (da_cons (dv 11) da_nil)) da_nil)) (de_callB (call_reprD (hr.mono (by decide))) d_repr (by rfl) T.n_repr (by decide +kernel) (da_cons (de_slL false rfl (dv 3) do_none (do_some (dv 11))) da_nil)) (nomark _)) (dss_one (ds_ret de_bl)) dss_nil)))
  (dss_cons (ds_for (passes_of rfl) rfl (di_seq rfl (de_op op_cat (d_cat false) (dv 3) (de_lst false (da_cons de_int (da_cons de_int (da_cons (de_op op_pow d_pow de_int de_int) da_nil)))))) (tg_nm (i := 12) sc_law_right.nd rfl (Or.inl rfl)) (dss_one (ds_for (passes_of rfl) rfl (di_seq rfl (de_tup (da_cons (de_op op_sub d_sub (dv 12) de_int) (da_cons (de_op op_sub d_sub (dv 12) de_int) (da_cons (dv 12) (da_cons (de_op op_add d_add (dv 12) de_int) (da_cons (de_op op_add d_add (dv 12) de_int) da_nil))))))) (tg_nm (i := 13) sc_law_right.nd rfl (Or.inl rfl)) (dss_one (ds_if (dt_cmp (op_ne.or (op_neD hr.room.units)) d_neA (de_callB (call_reprD (hr.mono (by decide))) d_repr (by rfl) T.n_repr (by decide +kernel) (da_cons (de_inO 0 tk (dv 13) (dv 1) rfl T.dn_Want__contains.at_ T.dn_Want__contains.fn F_Want__contains ar_Want__contains (hr.mono (by decide)) B_Want__contains) da_nil)) (de_callB (call_reprD (hr.mono (by decide))) d_repr (by rfl) T.n_repr (by decide +kernel) (da_cons (de_cmp (op_inA hr.u65) d_inD (dv 13) (dv 3) (by with_unfolding_all rfl)) da_nil)) (nomark _)) (dss_one (ds_ret de_bl)) dss_nil)))))
  (dss_cons (ds_for (passes_of rfl) rfl (di_seq rfl (de_lst false (da_cons de_non (da_cons de_bl (da_cons de_bl (da_cons de_str (da_cons de_str (da_cons (de_tup (da_cons de_int da_nil)) (da_cons (de_lst false (da_cons de_int da_nil)) (da_cons (de_dnew false) (da_cons (de_callTy call_tuple_of d_tupOf (by rfl) T.n_tuple (by decide +kernel) (da_cons (dv 3) da_nil)) (da_cons (dv 3) (da_cons (dv 1) da_nil))))))))))))) (tg_nm (i := 14) sc_law_right.nd rfl (Or.inl rfl)) (dss_one (ds_if (dt_cmp (op_ne.or (op_neD hr.room.units)) d_neA (de_callB (call_reprD (hr.mono (by decide))) d_repr (by rfl) T.n_repr (by decide +kernel) (da_cons (de_inO 0 tk (dv 14) (dv 1) rfl T.dn_Want__contains.at_ T.dn_Want__contains.fn F_Want__contains ar_Want__contains (hr.mono (by decide)) B_Want__contains) da_nil)) de_str (nomark _)) (dss_one (ds_ret de_bl)) dss_nil)))
  (dss_one (ds_ret (de_and (de_cmp (op_eq.or (op_eqD hr.room.units)) d_eqA (de_callB (call_reprD (hr.mono (by decide))) d_repr (by rfl) T.n_repr (by decide +kernel) (da_cons (de_boolO 0 tk rfl (dv 1) T.dn_Want__bool.at_ T.dn_Want__bool.fn F_Want__bool ar_Want__bool (hr.mono (by decide)) B_Want__bool (by rfl) T.n_bool) da_nil)) (de_callB (call_reprD (hr.mono (by decide))) d_repr (by rfl) T.n_repr (by decide +kernel) (da_cons (de_cmp (op_ne.or (op_neD hr.room.units)) d_neA (dv 3) (de_lst false da_nil) (nomark _)) da_nil)) (nomark _)) (de_one (de_cmp (op_eq.or (op_eqD hr.room.units)) d_eqA (de_strO 0 tk rfl (dv 1) T.dn_Want__str.at_ T.dn_Want__str.fn F_Want__str ar_Want__str (hr.mono (by decide)) B_Want__str (by rfl) T.n_str) (de_call tk F_law_text ar_law_text (hr.mono (by decide)) (by rfl) T.g_law_text kp_law_text B_law_text .nil (fun _ _ _ => .nil) (da_cons (de_callB ((cr_sortA hr.u200).or (cr_sortP hr.u200)) d_sortQ (by rfl) T.n_sorted (by decide +kernel) (da_cons (de_op op_catA d_catT (dv 4) (dv 5)) da_nil)) da_nil)) (nomark _))))))))))))))))
theorem sc_law : FnScope ["_law_script", "_law_bag_here", "_law_trip", "_law_xs", "_law_want", "_law_low", "_law_high"] ["_law_script"] (defScope s_law) := ⟨rfl, rfl, rfl, by decide +kernel, rfl, by decide +kernel, by decide +kernel⟩
def b_law_0 : MS := (sAsg (mCall m_law_bag [] (mCons (mVar 0) mNil)) (gN 1))
def b_law_1b_0 : MS := (sAsg (mCall m_law_list [] (mCons (mVar 1) (mCons (mOp oIx (mAp (oLst false) (mCons (mC (.int 0)) (mCons (mC (.int 1)) (mCons (mC (.int 2)) (mCons (mC (.int 3)) (mCons (mC (.int 5)) (mCons (mC (.int 8)) (mCons (mC (.int 12)) mNil)))))))) (mCall m_law_take [] (mCons (mVar 1) (mCons (mC (.int 7)) mNil)))) mNil))) (gN 3))
def b_law_1b_1 : MS := (sAsg (mCall m_law_made [] (mCons (mVar 3) mNil)) (gN 4))
def b_law_1b_2 : MS := (sAsg (mOp oIx (mCall m_law_list [] (mCons (mVar 1) (mCons (mC (.int 1)) mNil))) (mC (.int 0))) (gN 5))
def b_law_1b_3 : MS := (sAsg (mAp oMax2 (mCons (mUn oNeg (mC (.int 1000000000))) (mCons (mAp oMin2 (mCons (mC (.int 1000000000)) (mCons (mOp oSub (mOp oAdd (mVar 5) (mCall m_law_take [] (mCons (mVar 1) (mCons (mC (.int 14)) mNil)))) (mC (.int 3))) mNil))) mNil))) (gN 6))
def b_law_1b_4 : MS := (sIf (tNotM (mTst (mCall m_law_right [] (mCons (mVar 1) (mCons (mCall (clM 0 m_Want_between) [] (mCons (mVar 5) (mCons (mVar 6) mNil))) (mCons (mLRng2 false (mVar 5) (mOp oAdd (mVar 6) (mC (.int 1)))) mNil)))))) (sRet (mC (.bl false))) sNext)
def b_law_1b_5 : MS := (sIf (tNotM (mTst (mCall m_law_right [] (mCons (mVar 1) (mCons (mCall (clM 0 m_Want_stepped) [] (mCons (mVar 5) (mCons (mVar 6) mNil))) (mCons (mLRng3 false (mVar 5) (mOp oAdd (mVar 6) (mC (.int 1))) (mC (.int 2))) mNil)))))) (sRet (mC (.bl false))) sNext)
def b_law_1b_6 : MS := (sIf (tOrM (tNotM (mTst (mCall m_law_right [] (mCons (mVar 1) (mCons (mVar 4) (mCons (mVar 3) mNil)))))) (tNotM (mTst (mCall m_law_right [] (mCons (mVar 1) (mCons (mVar 4) (mCons (mRevL false (mVar 3)) mNil))))))) (sRet (mC (.bl false))) sNext)
def b_law_1 : MS := (sFor (mRng1 (mC (.int 4))) (Tgt.nm 2).M (sSeq b_law_1b_0 (sSeq b_law_1b_1 (sSeq b_law_1b_2 (sSeq b_law_1b_3 (sSeq b_law_1b_4 (sSeq b_law_1b_5 b_law_1b_6)))))))
def b_law_2 : MS := (sRet (mC (.bl true)))
def b_law : MS := (sSeq b_law_0 (sSeq b_law_1 b_law_2))
def m_law : MF := mDef 1 7 b_law
theorem e_law (x0 : D) (C : Store) : m_law [x0] C = finS C.length (b_law ⟨C.length, [some x0, none, none, none, none, none, none]⟩ C) := mDef_e rfl rfl
theorem ok_law (T : Txt K mg) : ∃ fd, FnG P w K mg base 7 (a_law K) fd ["_law_script"] (SpD (cn K) 1 m_law) ∧ Binds K fd ["_law_script"] [] ∧ PySem.W.keepIn K (.ref (a_law K)) = true := by
  obtain ⟨fd_law_bag, F_law_bag, B_law_bag, kp_law_bag⟩ := ok_law_bag (P := P) (w := w) (base := base) T
  obtain ⟨fd_law_list, F_law_list, B_law_list, kp_law_list⟩ := ok_law_list (P := P) (w := w) (base := base) T
  obtain ⟨fd_law_take, F_law_take, B_law_take, kp_law_take⟩ := ok_law_take (P := P) (w := w) (base := base) T
  obtain ⟨fd_law_made, F_law_made, B_law_made, kp_law_made⟩ := ok_law_made (P := P) (w := w) (base := base) T
  obtain ⟨fd_law_right, F_law_right, B_law_right, kp_law_right⟩ := ok_law_right (P := P) (w := w) (base := base) T
  obtain ⟨fd_Want_between, F_Want_between, B_Want_between, kp_Want_between⟩ := ok_Want_between (P := P) (w := w) (base := base) T
  obtain ⟨fd_Want_stepped, F_Want_stepped, B_Want_stepped, kp_Want_stepped⟩ := ok_Want_stepped (P := P) (w := w) (base := base) T
  obtain ⟨fd, F⟩ := T.f_law
  refine ⟨fd, fn_ok (k := cn K) F sc_law (by decide) fun cdv A outer s H E hr => ?_, F.bindsN fun _ _ _ _ _ _ us hl => match us, hl with | [_], _ => rfl, F.kp⟩
  have tk : Takes (cxOf (L2.CX P w) P w K mg base ["_law_script", "_law_bag_here", "_law_trip", "_law_xs", "_law_want", "_law_low", "_law_high"] "law" (defScope s_law) (a_law K) cdv A outer s H E) (fun c d _ H => E c d H) := takes_of rfl rfl rfl rfl
  exact (dss_cons (ds_set (i := 1) sc_law.nd rfl (Or.inl rfl) (de_call tk F_law_bag ar_law_bag (hr.mono (by decide)) (by rfl) T.g_law_bag kp_law_bag B_law_bag .nil (fun _ _ _ => .nil) (da_cons (dv 0) da_nil)))
  (dss_cons (ds_for (passes_of rfl) rfl (di_rng1 (by rfl) T.n_range de_int) (tg_nm (i := 2) sc_law.nd rfl (Or.inl rfl)) (dss_cons (ds_set (i := 3) sc_law.nd rfl (Or.inl rfl) (de_call tk F_law_list ar_law_list (hr.mono (by decide)) (by rfl) T.g_law_list kp_law_list B_law_list .nil (fun _ _ _ => .nil) (da_cons (dv 1) (da_cons (de_ix ix_seq d_ix (de_lst false (da_cons de_int (da_cons de_int (da_cons de_int (da_cons de_int (da_cons de_int (da_cons de_int (da_cons de_int da_nil)))))))) (de_call tk F_law_take ar_law_take (hr.mono (by decide)) (by rfl) T.g_law_take kp_law_take B_law_take .nil (fun _ _ _ => .nil) (da_cons (dv 1) (da_cons de_int da_nil)))) da_nil))))
  (dss_cons (ds_set (i := 4) sc_law.nd rfl (Or.inl rfl) (de_call tk F_law_made ar_law_made (hr.mono (by decide)) (by rfl) T.g_law_made kp_law_made B_law_made .nil (fun _ _ _ => .nil) (da_cons (dv 3) da_nil)))
  (dss_cons (ds_set (i := 5) sc_law.nd rfl (Or.inl rfl) (de_ix ix_seq d_ix (de_call tk F_law_list ar_law_list (hr.mono (by decide)) (by rfl) T.g_law_list kp_law_list B_law_list .nil (fun _ _ _ => .nil) (da_cons (dv 1) (da_cons de_int da_nil))) de_int))
  (dss_cons (ds_set (i := 6) sc_law.nd rfl (Or.inl rfl) (de_callB (call_max2 rfl) d_max2 (by rfl) T.n_max (by decide +kernel) (da_cons (de_un un_neg d_neg de_int) (da_cons (de_callB (call_min2 rfl) d_min2 (by rfl) T.n_min (by decide +kernel) (da_cons de_int (da_cons (de_op op_sub d_sub (de_op op_add d_add (dv 5) (de_call tk F_law_take ar_law_take (hr.mono (by decide)) (by rfl) T.g_law_take kp_law_take B_law_take .nil (fun _ _ _ => .nil) (da_cons (dv 1) (da_cons de_int da_nil)))) de_int) da_nil))) da_nil))))
  (dss_cons (ds_if (dt_not (dt_val (de_call tk F_law_right ar_law_right (hr.mono (by decide)) (by rfl) T.g_law_right kp_law_right B_law_right .nil (fun _ _ _ => .nil) (da_cons (dv 1) (da_cons (de_cmeth 0 tk rfl (by rfl) T.g_Want T.cm_Want_between F_Want_between ar_Want_between (hr.mono (by decide)) B_Want_between (da_cons (dv 5) (da_cons (dv 6) da_nil))) (da_cons (de_lrng2 false rfl (by rfl) T.n_list (by rfl) T.n_range (dv 5) (de_op op_add d_add (dv 6) de_int)) da_nil)))))) (dss_one (ds_ret de_bl)) dss_nil)
  (dss_cons (ds_if (dt_not (dt_val (de_call tk F_law_right ar_law_right (hr.mono (by decide)) (by rfl) T.g_law_right kp_law_right B_law_right .nil (fun _ _ _ => .nil) (da_cons (dv 1) (da_cons (de_cmeth 0 tk rfl (by rfl) T.g_Want T.cm_Want_stepped F_Want_stepped ar_Want_stepped (hr.mono (by decide)) B_Want_stepped (da_cons (dv 5) (da_cons (dv 6) da_nil))) (da_cons (de_lrng3 false rfl (by rfl) T.n_list (by rfl) T.n_range (dv 5) (de_op op_add d_add (dv 6) de_int) de_int) da_nil)))))) (dss_one (ds_ret de_bl)) dss_nil)
  (dss_one (ds_if (PW.pt (dw_or (dt_not (dt_val (de_call tk F_law_right ar_law_right (hr.mono (by decide)) (by rfl) T.g_law_right kp_law_right B_law_right .nil (fun _ _ _ => .nil) (da_cons (dv 1) (da_cons (dv 4) (da_cons (dv 3) da_nil)))))) (dw_or1 (dt_not (dt_val (de_call tk F_law_right ar_law_right (hr.mono (by decide)) (by rfl) T.g_law_right kp_law_right B_law_right .nil (fun _ _ _ => .nil) (da_cons (dv 1) (da_cons (dv 4) (da_cons (de_revL false rfl (dv 3)) da_nil))))))))) (dss_one (ds_ret de_bl)) dss_nil)))))))))
  (dss_one (ds_ret de_bl))))
end
end CL
set_option maxHeartbeats 0
namespace CL
open PySem L2 PySem.Spec PyProof.Rows CT
abbrev RR : PySem.W.OpenRow := PySem.W.OpenLaw.row PySem.Challenge.rw_contentties_k12_wants_told
abbrev hk : PySem.W.Hook := hookXs 6 fs fn
def ob (s : PySem.W.SharedT) : AlX := obGs 6 fs fn (HandSHeadRun.getT s)
def loose : List Str := (["_wall", "ContentError", "Wrong", "TooMany", "MOST", "is_integer", "is_number", "merged", "common", "rest", "moved", "mirrored", "halves_between", "check_numbers", "halves_of", "halves_moved"] : List Str) ++ (["halves_mirrored", "run_text", "Want", "_law_bag", "_law_take", "_law_one", "_law_list", "_law_runs", "_law_made", "_law_text", "_law_ends", "_law_right"] : List Str)
theorem run (w : World) : HandSHeadRun.RunEq RR (PySem.W.view RR.prog [33]) hk ob 20000 loose w := by
  intro os
  kernel_rfl
end CL
set_option maxHeartbeats 4000000
/-! S1: runs, in plain Lean. -/
namespace CT
abbrev Rn := Int × Int
/-- a run of the parity p -/
def RunOk (p : Int) (r : Rn) : Prop := r.1 ≤ r.2 ∧ r.1 % 2 = p ∧ r.2 % 2 = p
def Sep (r s : Rn) : Prop := r.2 + 2 < s.1
structure Canon (p : Int) (rs : List Rn) : Prop where
  ok : ∀ r ∈ rs, RunOk p r
  sep : rs.Pairwise Sep
def mR (rs : List Rn) (x : Int) : Prop := ∃ r ∈ rs, r.1 ≤ x ∧ x ≤ r.2
theorem canon_nil (p : Int) : Canon p [] := ⟨by simp, .nil⟩
theorem mR_nil (x : Int) : ¬ mR [] x := fun ⟨r, h, _⟩ => by cases h
theorem mR_cons {r : Rn} {rs : List Rn} {x : Int} : mR (r :: rs) x ↔ (r.1 ≤ x ∧ x ≤ r.2) ∨ mR rs x := by
  constructor
  · rintro ⟨s, hs, h⟩
    rcases List.mem_cons.mp hs with rfl | hs
    · exact .inl h
    · exact .inr ⟨s, hs, h⟩
  · rintro (h | ⟨s, hs, h⟩)
    · exact ⟨r, List.mem_cons_self .., h⟩
    · exact ⟨s, List.mem_cons_of_mem _ hs, h⟩
theorem mR_append {rs ss : List Rn} {x : Int} : mR (rs ++ ss) x ↔ mR rs x ∨ mR ss x := by
  constructor
  · rintro ⟨s, hs, h⟩
    rcases List.mem_append.mp hs with hs | hs
    · exact .inl ⟨s, hs, h⟩
    · exact .inr ⟨s, hs, h⟩
  · rintro (⟨s, hs, h⟩ | ⟨s, hs, h⟩)
    · exact ⟨s, List.mem_append_left _ hs, h⟩
    · exact ⟨s, List.mem_append_right _ hs, h⟩
theorem Canon.tail {p : Int} {r : Rn} {rs : List Rn} (h : Canon p (r :: rs)) : Canon p rs := ⟨fun s hs => h.ok s (List.mem_cons_of_mem _ hs), (List.pairwise_cons.mp h.sep).2⟩
theorem Canon.far {p : Int} {r : Rn} {rs : List Rn} (h : Canon p (r :: rs)) {x : Int} (hx : mR rs x) : r.2 + 2 < x := by
  obtain ⟨s, hs, h1, _⟩ := hx
  have := (List.pairwise_cons.mp h.sep).1 s hs
  unfold Sep at this
  omega
/-- canonical runs are one to one with sets -/
theorem canon_inj {p : Int} : ∀ {rs ss : List Rn}, Canon p rs → Canon p ss → (∀ x, x % 2 = p → (mR rs x ↔ mR ss x)) → rs = ss
  | [], [], _, _, _ => rfl
  | [], s :: ss, _, hs, h => by
    have ⟨a, b, c⟩ := hs.ok s (List.mem_cons_self ..)
    exact absurd ((h s.1 b).mpr (mR_cons.mpr (.inl ⟨Int.le_refl _, a⟩))) (mR_nil _)
  | r :: rs, [], hr, _, h => by
    have ⟨a, b, c⟩ := hr.ok r (List.mem_cons_self ..)
    exact absurd ((h r.1 b).mp (mR_cons.mpr (.inl ⟨Int.le_refl _, a⟩))) (mR_nil _)
  | r :: rs, s :: ss, hr, hs, h => by
    have ⟨a1, b1, c1⟩ := hr.ok r (List.mem_cons_self ..)
    have ⟨a2, b2, c2⟩ := hs.ok s (List.mem_cons_self ..)
    have e1 : r.1 = s.1 := by
      have m1 := (h r.1 b1).mp (mR_cons.mpr (.inl ⟨Int.le_refl _, a1⟩))
      have m2 := (h s.1 b2).mpr (mR_cons.mpr (.inl ⟨Int.le_refl _, a2⟩))
      rcases mR_cons.mp m1 with m1 | m1
      · rcases mR_cons.mp m2 with m2 | m2
        · omega
        · have := hr.far m2; omega
      · rcases mR_cons.mp m2 with m2 | m2
        · have := hs.far m1; omega
        · have := hs.far m1; have := hr.far m2; omega
    have e2 : r.2 = s.2 := by
      rcases Int.lt_trichotomy r.2 s.2 with q | q | q
      · have m := (h (r.2 + 2) (by omega)).mpr (mR_cons.mpr (.inl ⟨by omega, by omega⟩))
        rcases mR_cons.mp m with m | m
        · omega
        · have := hr.far m; omega
      · exact q
      · have m := (h (s.2 + 2) (by omega)).mp (mR_cons.mpr (.inl ⟨by omega, by omega⟩))
        rcases mR_cons.mp m with m | m
        · omega
        · have := hs.far m; omega
    have e : r = s := Prod.ext e1 e2
    subst e
    rw [canon_inj hr.tail hs.tail fun x hx => ?_]
    constructor
    · intro m
      rcases mR_cons.mp ((h x hx).mp (mR_cons.mpr (.inr m))) with q | q
      · have := hr.far m; omega
      · exact q
    · intro m
      rcases mR_cons.mp ((h x hx).mpr (mR_cons.mpr (.inr m))) with q | q
      · have := hs.far m; omega
      · exact q
/-! ### merged -/
def mstep (found : List Rn) (r : Rn) : List Rn := match found.getLast? with
  | some q => if r.1 ≤ q.2 + 2 then found.dropLast ++ [(q.1, max q.2 r.2)] else found ++ [r]
  | none => [r]
theorem last_split {α : Type} {l : List α} {q : α} (h : l.getLast? = some q) : l = l.dropLast ++ [q] := by
  have hne : l ≠ [] := fun e => by rw [e] at h; cases h
  have e := List.dropLast_concat_getLast hne
  rw [List.getLast?_eq_some_getLast hne] at h
  cases h
  exact e.symm
theorem mstep_ok {p : Int} {found : List Rn} {r : Rn} (h : Canon p found) (hr : RunOk p r) (ho : ∀ q ∈ found, q.1 ≤ r.1) : Canon p (mstep found r) ∧ (∀ x, x % 2 = p → (mR (mstep found r) x ↔ mR found x ∨ (r.1 ≤ x ∧ x ≤ r.2))) ∧ ∀ q ∈ mstep found r, q.1 ≤ r.1 := by
  unfold mstep
  cases e : found.getLast? with
  | none =>
    have e0 : found = [] := List.getLast?_eq_none_iff.mp e
    subst e0
    refine ⟨⟨by simpa using hr, by simp⟩, fun x hx => ?_, by simp⟩
    rw [mR_cons]
    constructor
    · rintro (q | q)
      · exact .inr q
      · exact absurd q (mR_nil _)
    · rintro (q | q)
      · exact absurd q (mR_nil _)
      · exact .inl q
  | some q =>
    have hs := last_split e
    generalize found.dropLast = f0 at hs
    subst hs
    obtain ⟨a1, b1, c1⟩ := hr
    have hq : RunOk p q := h.ok q (by simp)
    obtain ⟨a2, b2, c2⟩ := hq
    have hq1 := ho q (by simp)
    have hsep := List.pairwise_append.mp h.sep
    simp only
    by_cases hc : r.1 ≤ q.2 + 2
    · rw [if_pos hc]
      have gap : ∀ x, x % 2 = p → (q.1 ≤ x ∧ x ≤ max q.2 r.2 ↔ (q.1 ≤ x ∧ x ≤ q.2) ∨ (r.1 ≤ x ∧ x ≤ r.2)) := fun x hx => by
        constructor
        · rintro ⟨g1, g2⟩
          by_cases hx2 : x ≤ q.2
          · exact .inl ⟨g1, hx2⟩
          · exact .inr ⟨by omega, by omega⟩
        · rintro (g | g) <;> exact ⟨by omega, by omega⟩
      refine ⟨⟨fun s hs => ?_, ?_⟩, fun x hx => ?_, fun s hs => ?_⟩
      · rcases List.mem_append.mp hs with hs | hs
        · exact h.ok s (by simp [hs])
        · rw [List.mem_singleton.mp hs]
          refine ⟨?_, b2, ?_⟩ <;> simp only <;> omega
      · refine List.pairwise_append.mpr ⟨hsep.1, by simp, fun s hs t ht => ?_⟩
        rw [List.mem_singleton.mp ht]
        exact hsep.2.2 s hs q (by simp)
      · have g := gap x hx
        rw [mR_append, mR_append, mR_cons, mR_cons]
        simp only
        rw [g]
        constructor
        · rintro (z | (z | z) | z)
          · exact .inl (.inl z)
          · exact .inl (.inr (.inl z))
          · exact .inr z
          · exact absurd z (mR_nil _)
        · rintro ((z | z | z) | z)
          · exact .inl z
          · exact .inr (.inl (.inl z))
          · exact absurd z (mR_nil _)
          · exact .inr (.inl (.inr z))
      · rcases List.mem_append.mp hs with hs | hs
        · exact ho s (by simp [hs])
        · rw [List.mem_singleton.mp hs]
          exact hq1
    · rw [if_neg hc]
      refine ⟨⟨fun s hs => ?_, ?_⟩, fun x hx => ?_, fun s hs => ?_⟩
      · rcases List.mem_append.mp hs with hs | hs
        · exact h.ok s hs
        · rw [List.mem_singleton.mp hs]
          exact ⟨a1, b1, c1⟩
      · refine List.pairwise_append.mpr ⟨h.sep, by simp, fun s hs t ht => ?_⟩
        rw [List.mem_singleton.mp ht]
        unfold Sep
        rcases List.mem_append.mp hs with hs | hs
        · have h1 := hsep.2.2 s hs q (by simp)
          unfold Sep at h1
          omega
        · rw [List.mem_singleton.mp hs]
          omega
      · rw [mR_append, mR_cons]
        constructor
        · rintro (z | z | z)
          · exact .inl z
          · exact .inr z
          · exact absurd z (mR_nil _)
        · rintro (z | z)
          · exact .inl z
          · exact .inr (.inl z)
      · rcases List.mem_append.mp hs with hs | hs
        · exact ho s hs
        · rw [List.mem_singleton.mp hs]
          exact Int.le_refl _
theorem fold_ok {p : Int} : ∀ {l found : List Rn}, Canon p found → (∀ r ∈ l, RunOk p r) → l.Pairwise (fun r s => r.1 ≤ s.1) → (∀ q ∈ found, ∀ r ∈ l, q.1 ≤ r.1) → Canon p (l.foldl mstep found) ∧ ∀ x, x % 2 = p → (mR (l.foldl mstep found) x ↔ mR found x ∨ mR l x)
  | [], found, h, _, _, _ => ⟨h, fun x _ => ⟨fun z => .inl z, fun z => z.elim id fun z => absurd z (mR_nil _)⟩⟩
  | r :: l, found, h, ho, hs, hf => by
    obtain ⟨c1, c2, c3⟩ := mstep_ok h (ho r (List.mem_cons_self ..)) fun q hq => hf q hq r (List.mem_cons_self ..)
    have hs' := List.pairwise_cons.mp hs
    obtain ⟨d1, d2⟩ := fold_ok (l := l) c1 (fun s hs => ho s (List.mem_cons_of_mem _ hs)) hs'.2 fun q hq s hs => Int.le_trans (c3 q hq) (hs'.1 s hs)
    refine ⟨d1, fun x hx => ?_⟩
    show mR (l.foldl mstep (mstep found r)) x ↔ _
    rw [d2 x hx, c2 x hx, mR_cons, or_assoc]
theorem mstep_len (found : List Rn) (r : Rn) : (mstep found r).length ≤ found.length + 1 := by
  unfold mstep
  split
  · split
    · simp only [List.length_append, List.length_dropLast, List.length_cons, List.length_nil]; omega
    · simp
  · simp
theorem fold_len : ∀ (l found : List Rn), (l.foldl mstep found).length ≤ found.length + l.length
  | [], found => by simp
  | r :: l, found => by
    have h1 := fold_len l (mstep found r)
    have h2 := mstep_len found r
    simp only [List.foldl_cons, List.length_cons]
    omega
/-! ### numbers, one behind another (the law's own) -/
def lstep (p : Int) (found : List Rn) (x : Int) : List Rn := if x % 2 = p then (match found.getLast? with
  | some q => if x = q.2 + 2 then found.dropLast ++ [(q.1, x)] else found ++ [(x, x)]
  | none => [(x, x)]) else found
theorem lstep_eq {p : Int} {found : List Rn} {x : Int} (hx : x % 2 = p) (h : ∀ q ∈ found, q.2 < x) (hp : ∀ q ∈ found, q.2 % 2 = p) : lstep p found x = mstep found (x, x) := by
  unfold lstep mstep
  rw [if_pos hx]
  cases e : found.getLast? with
  | none => rfl
  | some q =>
    have hq : q ∈ found := List.mem_of_getLast? e
    have h1 := h q hq
    have h2 := hp q hq
    simp only
    by_cases hc : x = q.2 + 2
    · rw [if_pos hc, if_pos (by omega)]
      have : max q.2 x = x := by omega
      rw [this]
    · rw [if_neg hc, if_neg (by omega)]
theorem lfold_ok {p : Int} : ∀ {l : List Int} {found : List Rn}, Canon p found → l.Pairwise (· < ·) → (∀ q ∈ found, ∀ x ∈ l, q.2 < x) → Canon p (l.foldl (lstep p) found) ∧ ∀ x, x % 2 = p → (mR (l.foldl (lstep p) found) x ↔ mR found x ∨ x ∈ l)
  | [], found, h, _, _ => ⟨h, fun x _ => ⟨fun z => .inl z, fun z => z.elim id fun z => by cases z⟩⟩
  | y :: l, found, h, hs, hf => by
    have hs' := List.pairwise_cons.mp hs
    have hy : ∀ q ∈ found, q.2 < y := fun q hq => hf q hq y (List.mem_cons_self ..)
    by_cases hp : y % 2 = p
    · have e := lstep_eq hp hy (fun q hq => (h.ok q hq).2.2)
      obtain ⟨c1, c2, c3⟩ := mstep_ok h (r := (y, y)) ⟨Int.le_refl _, hp, hp⟩ fun q hq => by have := (h.ok q hq).1; have := hy q hq; simp only; omega
      have c4 : ∀ q ∈ mstep found (y, y), ∀ x ∈ l, q.2 < x := fun q hq x hx => by
        have hx1 := hs'.1 x hx
        have hm : mR (mstep found (y, y)) q.2 := ⟨q, hq, (c1.ok q hq).1, Int.le_refl _⟩
        rcases (c2 q.2 (c1.ok q hq).2.2).mp hm with z | z
        · obtain ⟨s, hs, z1, z2⟩ := z
          have := hy s hs
          omega
        · simp only at z
          omega
      rw [← e] at c1 c2 c4
      obtain ⟨d1, d2⟩ := lfold_ok (l := l) c1 hs'.2 c4
      refine ⟨d1, fun x hx => ?_⟩
      show mR (l.foldl (lstep p) (lstep p found y)) x ↔ _
      rw [d2 x hx, c2 x hx, List.mem_cons]
      simp only
      constructor
      · rintro ((z | z) | z)
        · exact .inl z
        · exact .inr (.inl (by omega))
        · exact .inr (.inr z)
      · rintro (z | z | z)
        · exact .inl (.inl z)
        · exact .inl (.inr (by omega))
        · exact .inr z
    · have e : lstep p found y = found := by unfold lstep; rw [if_neg hp]
      obtain ⟨d1, d2⟩ := lfold_ok (l := l) h hs'.2 fun q hq x hx => hf q hq x (List.mem_cons_of_mem _ hx)
      refine ⟨?_, fun x hx => ?_⟩
      · show Canon p (l.foldl (lstep p) (lstep p found y))
        rw [e]
        exact d1
      · show mR (l.foldl (lstep p) (lstep p found y)) x ↔ _
        rw [e, d2 x hx, List.mem_cons]
        constructor
        · rintro (z | z)
          · exact .inl z
          · exact .inr (.inr z)
        · rintro (z | z | z)
          · exact .inl z
          · rw [z] at hx; exact absurd hx hp
          · exact .inr z
theorem lstep_len (p : Int) (found : List Rn) (x : Int) : (lstep p found x).length ≤ found.length + 1 := by
  unfold lstep
  split
  · split
    · split
      · simp only [List.length_append, List.length_dropLast, List.length_cons, List.length_nil]; omega
      · simp
    · simp
  · omega
theorem lfold_len (p : Int) : ∀ (l : List Int) (found : List Rn), (l.foldl (lstep p) found).length ≤ found.length + l.length
  | [], found => by simp
  | r :: l, found => by
    have h1 := lfold_len p l (lstep p found r)
    have h2 := lstep_len p found r
    simp only [List.foldl_cons, List.length_cons]
    omega
/-! ### common -/
/-! ### rest -/
end CT
set_option maxHeartbeats 4000000
namespace CL
open PySem L2 CT
/-! ### the bag -/
def bagC (a b c : Int) (cs : List Int) : Cell := .lst [.int a, .int b, .int c, .lst (cs.map .int)]
section
variable {a b c n : Int} {cs : List Int} {C : Store} {i : Nat}
theorem mul1 (x : Int) (C : Store) : oMul (.int x) (.int 48271) C = some (.int (x * 48271), C) := ev_mul C (by simp [cMul])
theorem mul2 (x : Int) (C : Store) : oMul (.int 7919) (.int x) C = some (.int (7919 * x), C) := ev_mul C (by simp [cMul])
theorem mul3 (x : Int) (C : Store) : oMul (.int x) (.int 39373) C = some (.int (x * 39373), C) := ev_mul C (by simp [cMul])
theorem mul4 (x : Int) (C : Store) : oMul (.int x) (.int 30011) C = some (.int (x * 30011), C) := ev_mul C (by simp [cMul])
theorem mod1 (x : Int) (C : Store) : oMod (.int x) (.int 2147483647) C = some (.int (x % 2147483647), C) := ev_mod C (by decide)
theorem mod2 (x : Int) (C : Store) : oMod (.int x) (.int 1000000007) C = some (.int (x % 1000000007), C) := ev_mod C (by decide)
theorem mod3 (x : Int) (C : Store) : oMod (.int x) (.int 998244353) C = some (.int (x % 998244353), C) := ev_mod C (by decide)
theorem div7 (x : Int) (C : Store) : oDiv (.int x) (.int 7) C = some (.int (x / 7), C) := ev_div C (by decide) (by decide)
theorem take_0 (hC : C[i]? = some (some (bagC 0 b c cs))) (hb : 0 ≤ b) (hb2 : b < 2147483647) (hc : 0 ≤ c) (hcs : ∀ x ∈ cs, 0 ≤ x) : ∃ a' b' s2 s3, 0 ≤ a' ∧ 0 ≤ b' ∧ b' < 2147483647 ∧
    b_law_take_0 ⟨C.length, [some (.cell i), some (.int n), none, none, none, none, none]⟩ C = .nx [some (.cell i), some (.int n), s2, s3, none, none, none] (C.set i (some (bagC a' b' (c + 1) cs))) := by
  have hi : i < C.length := (List.getElem?_eq_some_iff.mp hC).1
  have hC' : C[i]? = some (some (Cell.lst [.int 0, .int b, .int c, .lst (cs.map .int)])) := hC
  have gs : ∀ x : Option Cell, (C.set i x)[i]? = some x := fun x => List.getElem?_set_self hi
  by_cases h1 : c < cs.length
  · have h1' : c.toNat < cs.length := by omega
    have hcell : 0 ≤ cs[c.toNat] := hcs _ (List.getElem_mem h1')
    by_cases h2 : 1000000000000000000 ≤ cs[c.toNat]
    · refine ⟨cs[c.toNat], (b * 48271 + cs[c.toNat] % 2147483647 + 7919 * (c + 1)) % 2147483647, some (.int cs[c.toNat]), some (.int (b * 48271 + cs[c.toNat] % 2147483647 + 7919 * (c + 1))), hcell, ?_, ?_, ?e⟩
      case e => simp [b_law_take_0, b_law_take_0t_0, b_law_take_0t_1, b_law_take_0t_2, b_law_take_0t_3, b_law_take_0t_4, b_law_take_0t_5, oIx, vS, hC', atI, ixN, gs, oLen, h1, h1', hc, auK2, auK4, cL, wr, cbC, cbL, cb, stK4, h2, mul1, mul2, mod1, bagC]
      · exact Int.emod_nonneg _ (by decide)
      · exact Int.emod_lt_of_pos _ (by decide)
    · refine ⟨0, (b * 48271 + cs[c.toNat] % 2147483647 + 7919 * (c + 1)) % 2147483647, some (.int cs[c.toNat]), some (.int (b * 48271 + cs[c.toNat] % 2147483647 + 7919 * (c + 1))), by decide, ?_, ?_, ?e⟩
      case e => simp [b_law_take_0, b_law_take_0t_0, b_law_take_0t_1, b_law_take_0t_2, b_law_take_0t_3, b_law_take_0t_4, b_law_take_0t_5, oIx, vS, hC', atI, ixN, gs, oLen, h1, h1', hc, auK2, auK4, cL, wr, cbC, cbL, cb, stK4, h2, mul1, mul2, mod1, bagC]
      · exact Int.emod_nonneg _ (by decide)
      · exact Int.emod_lt_of_pos _ (by decide)
  · refine ⟨0, (b * 48271 + 0 % 2147483647 + 7919 * (c + 1)) % 2147483647, some (.int 0), some (.int (b * 48271 + 0 % 2147483647 + 7919 * (c + 1))), by decide, ?_, ?_, ?e⟩
    case e => simp [b_law_take_0, b_law_take_0t_0, b_law_take_0t_1, b_law_take_0t_2, b_law_take_0t_3, b_law_take_0t_4, b_law_take_0t_5, oIx, vS, hC', atI, ixN, gs, oLen, h1, hc, auK2, auK4, cL, wr, cbC, cbL, cb, stK4, mul1, mul2, mod1, bagC]
    · exact Int.emod_nonneg _ (by decide)
    · exact Int.emod_lt_of_pos _ (by decide)
theorem take_1 (hC : C[i]? = some (some (bagC a b c cs))) (ha : 0 < a) (hn : 0 < n) (hn2 : n < 4611686018427387904) {s2 s3 : Option D} :
    b_law_take_1 ⟨C.length, [some (.cell i), some (.int n), s2, s3, none, none, none]⟩ C = .rt (.int (a % n)) (C.set i (some (bagC (a / n) b c cs))) := by
  have hC' : C[i]? = some (some (Cell.lst [.int a, .int b, .int c, .lst (cs.map .int)])) := hC
  simp [b_law_take_1, b_law_take_1t_0, b_law_take_1t_1, b_law_take_1t_2, oIx, vS, hC', atI, ixN, ha, ev_mod C hn, ev_div C hn hn2, stK4, cL, wr, cbC, cbL, cb, bagC]
theorem take_1n (hC : C[i]? = some (some (bagC 0 b c cs))) {s2 s3 : Option D} :
    b_law_take_1 ⟨C.length, [some (.cell i), some (.int n), s2, s3, none, none, none]⟩ C = .nx [some (.cell i), some (.int n), s2, s3, none, none, none] C := by
  have hC' : C[i]? = some (some (Cell.lst [.int 0, .int b, .int c, .lst (cs.map .int)])) := hC
  simp [b_law_take_1, oIx, vS, hC', atI, ixN]
theorem mulB {x y : Int} (h1 : 0 ≤ x) (h2 : x < 1000000007) (C : Store) : oMul (.int x) (.int y) C = some (.int (x * y), C) := ev_mul C (by
  have e1 : decide (-(2 ^ 64) < x) = true := decide_eq_true (by omega)
  have e2 : decide (x < 2 ^ 64) = true := decide_eq_true (by omega)
  simp only [cMul, e1, e2, Bool.and_self, Bool.true_or])
theorem take_2 (hC : C[i]? = some (some (bagC a b c cs))) (hb : 0 ≤ b) (hn : 0 < n) {s2 s3 : Option D} : ∃ r, 0 ≤ r ∧ r < n ∧
    sSeq b_law_take_2 (sSeq b_law_take_3 b_law_take_4) ⟨C.length, [some (.cell i), some (.int n), s2, s3, none, none, none]⟩ C = .rt (.int r) C := by
  have hC' : C[i]? = some (some (Cell.lst [.int a, .int b, .int c, .lst (cs.map .int)])) := hC
  have e0 : 0 ≤ (b + 1) * 39373 % 1000000007 := Int.emod_nonneg _ (by decide)
  have e1 : (b + 1) * 39373 % 1000000007 < 1000000007 := Int.emod_lt_of_pos _ (by decide)
  refine ⟨((b + 1) * 39373 % 1000000007 * ((b + 1) * 39373 % 1000000007) % 998244353 * 30011 % 998244353 / 7) % n, Int.emod_nonneg _ (by omega), Int.emod_lt_of_pos _ hn, ?_⟩
  simp [b_law_take_2, b_law_take_3, b_law_take_4, oIx, vS, hC', atI, ixN, mul3, mod2, mulB e0 e1, mod3, mul4, div7, ev_mod C hn]
/-- a bag in the store -/
def Bag (i : Nat) (cs : List Int) (C : Store) : Prop := ∃ a b c, C[i]? = some (some (bagC a b c cs)) ∧ 0 ≤ a ∧ 0 ≤ b ∧ b < 2147483647 ∧ 0 ≤ c
theorem take_ok (hB : Bag i cs C) (hcs : ∀ x ∈ cs, 0 ≤ x) (hn : 0 < n) (hn2 : n < 4611686018427387904) : ∃ r x, m_law_take [.cell i, .int n] C = .ok (.int r) (C.set i (some x)) ∧ 0 ≤ r ∧ r < n ∧ Bag i cs (C.set i (some x)) := by
  obtain ⟨a, b, c, hC, ha, hb, hb2, hc⟩ := hB
  have hi : i < C.length := (List.getElem?_eq_some_iff.mp hC).1
  have gs : ∀ x : Option Cell, (C.set i x)[i]? = some x := fun x => List.getElem?_set_self hi
  have tk : ∀ x : Option Cell, (C.set i x).take C.length = C.set i x := fun x => List.take_of_length_le (by simp)
  have hC' : C[i]? = some (some (Cell.lst [.int a, .int b, .int c, .lst (cs.map .int)])) := hC
  have ld : ∀ x : Option Cell, (C.set i x).length = C.length := fun x => by simp
  by_cases h0 : a = 0
  · subst h0
    obtain ⟨a', b', s2, s3, h1, h2, h3, e⟩ := take_0 (n := n) hC hb hb2 hc hcs
    by_cases h4 : a' = 0
    · subst h4
      obtain ⟨r, r1, r2, e2⟩ := take_2 (n := n) (s2 := s2) (s3 := s3) (gs (some (bagC 0 b' (c + 1) cs))) h2 hn
      have e1 := take_1n (n := n) (s2 := s2) (s3 := s3) (gs (some (bagC 0 b' (c + 1) cs)))
      rw [ld] at e1 e2
      refine ⟨r, _, ?_, r1, r2, 0, b', c + 1, gs _, by decide, h2, h3, by omega⟩
      rw [e_law_take, b_law_take, ev_seq, e, seqK_nx, ev_seq, e1, seqK_nx, e2]
      simp [tk]
    · have e1 := take_1 (n := n) (s2 := s2) (s3 := s3) (gs (some (bagC a' b' (c + 1) cs))) (by omega) hn hn2
      rw [ld] at e1
      refine ⟨a' % n, bagC (a' / n) b' (c + 1) cs, ?_, Int.emod_nonneg _ (by omega), Int.emod_lt_of_pos _ hn, a' / n, b', c + 1, gs _, Int.ediv_nonneg h1 (by omega), h2, h3, by omega⟩
      rw [e_law_take, b_law_take, ev_seq, e, seqK_nx, ev_seq, e1]
      simp [tk]
  · have e1 := take_1 (n := n) (s2 := none) (s3 := none) hC (by omega) hn hn2
    refine ⟨a % n, bagC (a / n) b c cs, ?_, Int.emod_nonneg _ (by omega), Int.emod_lt_of_pos _ hn, a / n, b, c, gs _, Int.ediv_nonneg ha (by omega), hb, hb2, hc⟩
    have e : b_law_take_0 ⟨C.length, [some (.cell i), some (.int n), none, none, none, none, none]⟩ C = .nx [some (.cell i), some (.int n), none, none, none, none, none] C := by
      simp [b_law_take_0, oIx, vS, hC', atI, ixN, h0]
    rw [e_law_take, b_law_take, ev_seq, e, seqK_nx, ev_seq, e1]
    simp [tk]
end
end CL
set_option maxHeartbeats 4000000
/-! E2: loops, comprehensions, dicts worked out. -/
namespace CT
open PySem L2
@[simp] theorem tgt_nm (i : Nat) (d : D) (sl : List (Option D)) : (Tgt.nm i).M d sl = some (sl.set i (some d)) := rfl
@[simp] theorem tgt_tp (is : List Nat) (ds : List D) (sl : List (Option D)) : (Tgt.tp is).M (.tup ds) sl = setAll is ds sl := rfl
@[simp] theorem wipe0 (sl : List (Option D)) : wipeD sl [] = sl := rfl
@[simp] theorem wipe1 (sl : List (Option D)) (v : Nat) (vs : List Nat) : wipeD sl (v :: vs) = (wipeD sl vs).set v none := rfl
/-- what is walked stays: these items -/
structure PureIt (it : ItD) (xs : List D) : Prop where
  n : it.n = xs.length
  item : ∀ j C, j < xs.length → it.item j C = xs[j]?
  fin : ∀ C, it.fin C = true
theorem pure_C (xs : List D) : PureIt (itC xs) xs := ⟨rfl, fun _ _ _ => rfl, fun _ => rfl⟩
def rngI (lo : Int) (n : Nat) : List D := (List.range n).map fun i => D.int (lo + (i : Nat))
theorem pure_R (lo : Int) (n : Nat) : PureIt (itR lo n) (rngI lo n) := ⟨by simp [itR, rngI], fun j C hj => by
  have : j < n := by simpa [rngI] using hj
  simp [itR, rngI, this], fun _ => rfl⟩
theorem pure_P {it : ItD} {xs : List D} (h : PureIt it xs) : PureIt (prI it) ((List.range xs.length).zip xs |>.map fun p => D.tup [.int (p.1 : Nat), p.2]) := by
  refine ⟨by simp [prI, h.n], fun j C hj => ?_, fun C => h.fin C⟩
  have hj' : j < xs.length := by simpa using hj
  show (it.item j C).map _ = _
  rw [h.item j C hj', List.getElem?_map, List.getElem?_eq_getElem hj']
  simp [List.getElem?_zip_eq_some, hj']
/-! ### comprehensions that change nothing -/
theorem lc_go {it : ItD} {xs : List D} (p : PureIt it xs) {g : MG} {tt : MT} {te : ME} {C : Store} {sl : List (Option D)} {f : D → Bool} {h : D → D} (sz : xs.length ≤ 16777215)
    (st : ∀ x ∈ xs, ∃ sl1, g x sl = some sl1 ∧ ∀ acc, tt ⟨C.length, sl1⟩ (C ++ [some (.lst acc)]) = .ok (f x) (C ++ [some (.lst acc)]) ∧ (f x = true → te ⟨C.length, sl1⟩ (C ++ [some (.lst acc)]) = .ok (h x) (C ++ [some (.lst acc)]))) :
    ∀ r j, r + j = xs.length → lcN it g tt te C.length sl r j (C ++ [some (.lst (((xs.take j).filter f).map h))]) = .ok () (C ++ [some (.lst ((xs.filter f).map h))])
  | 0, j, e => by
    have ej : j = xs.length := by omega
    subst ej
    unfold lcN
    rw [if_pos (p.fin _), List.take_length]
  | r + 1, j, e => by
    have hj : j < xs.length := by omega
    obtain ⟨sl1, h1, h2⟩ := st xs[j] (List.getElem_mem hj)
    have ih := lc_go p sz st r (j + 1) (by omega)
    have tk : xs.take (j + 1) = xs.take j ++ [xs[j]] := (List.take_append_getElem hj).symm
    rw [tk, List.filter_append, List.map_append] at ih
    unfold lcN
    rw [p.item j _ hj, List.getElem?_eq_getElem hj]
    simp only [h1]
    obtain ⟨e1, e2⟩ := h2 (((xs.take j).filter f).map h)
    rw [e1]
    simp only [bn0_ok]
    cases hf : f xs[j] with
    | true =>
      rw [if_pos rfl, e2 hf]
      simp only [bn0_ok]
      have at_n : (C ++ [some (Cell.lst (((xs.take j).filter f).map h))])[C.length]? = some (some (.lst (((xs.take j).filter f).map h))) := by simp
      have hz : szN ((((xs.take j).filter f).map h).length + 1) = true := by
        have l1 : ((xs.take j).filter f).length ≤ (xs.take j).length := List.length_filter_le _ _
        have l2 : (xs.take j).length ≤ j := by simp; omega
        simp only [szN, List.length_map, decide_eq_true_eq]
        omega
      rw [at_n]
      simp only [hz, if_true]
      have es : (C ++ [some (Cell.lst (((xs.take j).filter f).map h))]).set C.length (some (.lst (((xs.take j).filter f).map h ++ [h xs[j]]))) = C ++ [some (.lst (((xs.take j).filter f).map h ++ [h xs[j]]))] := by simp
      rw [es]
      simpa [List.filter_cons, hf] using ih
    | false =>
      rw [if_neg (by decide)]
      simpa [List.filter_cons, hf] using ih
/-- [e for t in it if c], nothing changed: plain data -/
theorem ev_lc {mi : MI} {it : ItD} {xs : List D} (p : PureIt it xs) {g : MG} {tt : MT} {te : ME} {vs : List Nat} {F : Fr} {C : Store} (f : D → Bool) (h : D → D) (hi : mi F C = .ok it C) (sz : xs.length ≤ 16777215)
    (st : ∀ x ∈ xs, ∃ sl1, g x (wipeD F.sl vs) = some sl1 ∧ ∀ acc, tt ⟨C.length, sl1⟩ (C ++ [some (.lst acc)]) = .ok (f x) (C ++ [some (.lst acc)]) ∧ (f x = true → te ⟨C.length, sl1⟩ (C ++ [some (.lst acc)]) = .ok (h x) (C ++ [some (.lst acc)])))
    (hc : ∀ x ∈ xs, f x = true → cb C.length (h x) = true) : mLc false mi g tt te vs F C = .ok (.lst ((xs.filter f).map h)) C := by
  have e := lc_go p sz st it.n 0 (by rw [p.n]; omega)
  unfold mLc
  rw [hi]
  simp only [bnd_ok]
  simp only [List.take_zero, List.filter_nil, List.map_nil] at e
  rw [e]
  simp only [bn0_ok]
  have at_n : (C ++ [some (Cell.lst ((xs.filter f).map h))])[C.length]? = some (some (.lst ((xs.filter f).map h))) := by simp
  have hb : cbL C.length ((xs.filter f).map h) = true := by
    have : ∀ l : List D, (∀ x ∈ l, f x = true → cb C.length (h x) = true) → cbL C.length ((l.filter f).map h) = true := by
      intro l
      induction l with
      | nil => intro _; rfl
      | cons x l ih =>
        intro hl
        rw [List.filter_cons]
        split
        · rename_i hx
          show (cb C.length (h x) && cbL C.length ((l.filter f).map h)) = true
          rw [hl x (List.mem_cons_self ..) hx, ih fun y hy => hl y (List.mem_cons_of_mem _ hy)]
          rfl
        · exact ih fun y hy => hl y (List.mem_cons_of_mem _ hy)
    exact this xs hc
  unfold lcEnd
  rw [if_neg (by decide), at_n]
  simp [hb]
theorem ev_seqI {m : ME} {F : Fr} {C : Store} {d : D} {it : ItD} (h : m F C = .ok d C) (hi : itS d C = some it) : mSeq m F C = .ok it C := by
  unfold mSeq
  rw [h]
  simp [hi]
/-! ### two clauses -/
theorem lc_from {it : ItD} {xs : List D} (p : PureIt it xs) {g : MG} {tt : MT} {te : ME} {C : Store} {sl : List (Option D)} {f : D → Bool} {h : D → D} {a0 : List D} (sz : a0.length + xs.length ≤ 16777215)
    (st : ∀ x ∈ xs, ∃ sl1, g x sl = some sl1 ∧ ∀ acc, tt ⟨C.length, sl1⟩ (C ++ [some (.lst acc)]) = .ok (f x) (C ++ [some (.lst acc)]) ∧ (f x = true → te ⟨C.length, sl1⟩ (C ++ [some (.lst acc)]) = .ok (h x) (C ++ [some (.lst acc)]))) :
    ∀ r j, r + j = xs.length → lcN it g tt te C.length sl r j (C ++ [some (.lst (a0 ++ ((xs.take j).filter f).map h))]) = .ok () (C ++ [some (.lst (a0 ++ (xs.filter f).map h))])
  | 0, j, e => by
    have ej : j = xs.length := by omega
    subst ej
    unfold lcN
    rw [if_pos (p.fin _), List.take_length]
  | r + 1, j, e => by
    have hj : j < xs.length := by omega
    obtain ⟨sl1, h1, h2⟩ := st xs[j] (List.getElem_mem hj)
    have ih := lc_from p sz st r (j + 1) (by omega)
    have tk : xs.take (j + 1) = xs.take j ++ [xs[j]] := (List.take_append_getElem hj).symm
    rw [tk, List.filter_append, List.map_append] at ih
    unfold lcN
    rw [p.item j _ hj, List.getElem?_eq_getElem hj]
    simp only [h1]
    obtain ⟨e1, e2⟩ := h2 (a0 ++ ((xs.take j).filter f).map h)
    rw [e1]
    simp only [bn0_ok]
    cases hf : f xs[j] with
    | true =>
      rw [if_pos rfl, e2 hf]
      simp only [bn0_ok]
      have at_n : (C ++ [some (Cell.lst (a0 ++ ((xs.take j).filter f).map h))])[C.length]? = some (some (.lst (a0 ++ ((xs.take j).filter f).map h))) := by simp
      have hz : szN ((a0 ++ ((xs.take j).filter f).map h).length + 1) = true := by
        have l1 : ((xs.take j).filter f).length ≤ (xs.take j).length := List.length_filter_le _ _
        have l2 : (xs.take j).length ≤ j := by simp; omega
        simp only [szN, List.length_append, List.length_map, decide_eq_true_eq]
        omega
      rw [at_n]
      simp only [hz, if_true]
      have es : (C ++ [some (Cell.lst (a0 ++ ((xs.take j).filter f).map h))]).set C.length (some (.lst (a0 ++ ((xs.take j).filter f).map h ++ [h xs[j]]))) = C ++ [some (.lst (a0 ++ ((xs.take j).filter f).map h ++ [h xs[j]]))] := by simp
      rw [es]
      simpa [List.filter_cons, hf] using ih
    | false =>
      rw [if_neg (by decide)]
      simpa [List.filter_cons, hf] using ih
/-- what the two clauses make -/
def flat2 (xs : List D) (ys : D → List D) (f : D → D → Bool) (h : D → D → D) : List D := xs.flatMap fun x => ((ys x).filter (f x)).map (h x)
theorem flat2_len (xs : List D) (ys : D → List D) (f : D → D → Bool) (h : D → D → D) {m : Nat} (hy : ∀ x ∈ xs, (ys x).length ≤ m) : (flat2 xs ys f h).length ≤ xs.length * m := by
  unfold flat2
  induction xs with
  | nil => simp
  | cons x xs ih =>
    have h1 := ih fun y hy' => hy y (List.mem_cons_of_mem _ hy')
    have h2 : (((ys x).filter (f x)).map (h x)).length ≤ m := by
      rw [List.length_map]
      exact Nat.le_trans (List.length_filter_le _ _) (hy x (List.mem_cons_self ..))
    rw [List.flatMap_cons, List.length_append, List.length_cons, Nat.succ_mul]
    omega
theorem lc2_go {it : ItD} {xs : List D} (p : PureIt it xs) {g g1 : MG} {mi1 : MI} {tt1 : MT} {te : ME} {C : Store} {sl : List (Option D)} {vs1 : List Nat} {ys : D → List D} {f : D → D → Bool} {h : D → D → D} {m : Nat} (hy : ∀ x ∈ xs, (ys x).length ≤ m) (sz : xs.length * m ≤ 16000000) (sm : m ≤ 700000)
    (st : ∀ x ∈ xs, ∃ sl1, g x sl = some sl1 ∧ ∀ acc, (∃ it1, PureIt it1 (ys x) ∧ mi1 ⟨C.length, sl1⟩ (C ++ [some (.lst acc)]) = .ok it1 (C ++ [some (.lst acc)])) ∧
      ∀ y ∈ ys x, ∃ sl2, g1 y (wipeD sl1 vs1) = some sl2 ∧ ∀ acc, tt1 ⟨C.length, sl2⟩ (C ++ [some (.lst acc)]) = .ok (f x y) (C ++ [some (.lst acc)]) ∧ (f x y = true → te ⟨C.length, sl2⟩ (C ++ [some (.lst acc)]) = .ok (h x y) (C ++ [some (.lst acc)]))) :
    ∀ r j, r + j = xs.length → lc2N it g tYesM mi1 g1 tt1 te C.length sl vs1 r j (C ++ [some (.lst (flat2 (xs.take j) ys f h))]) = .ok () (C ++ [some (.lst (flat2 xs ys f h))])
  | 0, j, e => by
    have ej : j = xs.length := by omega
    subst ej
    unfold lc2N
    rw [if_pos (p.fin _), List.take_length]
  | r + 1, j, e => by
    have hj : j < xs.length := by omega
    obtain ⟨sl1, h1, h2⟩ := st xs[j] (List.getElem_mem hj)
    have ih := lc2_go p hy sz sm st r (j + 1) (by omega)
    have tk : xs.take (j + 1) = xs.take j ++ [xs[j]] := (List.take_append_getElem hj).symm
    have fl : flat2 (xs.take (j + 1)) ys f h = flat2 (xs.take j) ys f h ++ ((ys xs[j]).filter (f xs[j])).map (h xs[j]) := by
      rw [tk]
      unfold flat2
      rw [List.flatMap_append]
      simp only [List.flatMap_cons, List.flatMap_nil, List.append_nil]
    rw [fl] at ih
    unfold lc2N
    rw [p.item j _ hj, List.getElem?_eq_getElem hj]
    simp only [h1]
    obtain ⟨⟨it1, p1, em⟩, h3⟩ := h2 (flat2 (xs.take j) ys f h)
    show bn0 (R.ok true (C ++ [some (.lst (flat2 (xs.take j) ys f h))])) _ = _
    simp only [bn0_ok, if_true]
    rw [em]
    simp only [bn0_ok]
    have hl : (flat2 (xs.take j) ys f h).length ≤ j * m := by
      have := flat2_len (xs.take j) ys f h (m := m) fun x hx => hy x (List.mem_of_mem_take hx)
      have e2 : (xs.take j).length = j := by simp; omega
      rw [e2] at this
      exact this
    have hl2 : (ys xs[j]).length ≤ m := hy _ (List.getElem_mem hj)
    have hjm : j * m ≤ xs.length * m := Nat.mul_le_mul_right _ (Nat.le_of_lt hj)
    have ein := lc_from p1 (g := g1) (tt := tt1) (te := te) (C := C) (sl := wipeD sl1 vs1) (f := f xs[j]) (h := h xs[j]) (a0 := flat2 (xs.take j) ys f h) (by omega) h3 it1.n 0 (by rw [p1.n]; omega)
    simp only [List.take_zero, List.filter_nil, List.map_nil, List.append_nil] at ein
    rw [ein]
    simp only [bn0_ok]
    exact ih
theorem ev_lc2 {mi mi1 : MI} {it : ItD} {xs : List D} (p : PureIt it xs) {g g1 : MG} {tt1 : MT} {te : ME} {vs vs1 : List Nat} {F : Fr} {C : Store} (ys : D → List D) (f : D → D → Bool) (h : D → D → D) (m : Nat) (hi : mi F C = .ok it C) (hy : ∀ x ∈ xs, (ys x).length ≤ m) (sz : xs.length * m ≤ 16000000) (sm : m ≤ 700000)
    (st : ∀ x ∈ xs, ∃ sl1, g x (wipeD F.sl vs) = some sl1 ∧ ∀ acc, (∃ it1, PureIt it1 (ys x) ∧ mi1 ⟨C.length, sl1⟩ (C ++ [some (.lst acc)]) = .ok it1 (C ++ [some (.lst acc)])) ∧
      ∀ y ∈ ys x, ∃ sl2, g1 y (wipeD sl1 vs1) = some sl2 ∧ ∀ acc, tt1 ⟨C.length, sl2⟩ (C ++ [some (.lst acc)]) = .ok (f x y) (C ++ [some (.lst acc)]) ∧ (f x y = true → te ⟨C.length, sl2⟩ (C ++ [some (.lst acc)]) = .ok (h x y) (C ++ [some (.lst acc)])))
    (hc : ∀ x ∈ xs, ∀ y ∈ ys x, f x y = true → cb C.length (h x y) = true) : mLc2 false mi g tYesM mi1 g1 tt1 te vs vs1 F C = .ok (.lst (flat2 xs ys f h)) C := by
  have e := lc2_go p hy sz sm st it.n 0 (by rw [p.n]; omega)
  unfold mLc2
  rw [hi]
  simp only [bnd_ok]
  have e0 : flat2 (xs.take 0) ys f h = [] := by simp [flat2]
  rw [e0] at e
  rw [e]
  simp only [bn0_ok]
  have at_n : (C ++ [some (Cell.lst (flat2 xs ys f h))])[C.length]? = some (some (.lst (flat2 xs ys f h))) := by simp
  have all : ∀ l : List D, (∀ d ∈ l, cb C.length d = true) → cbL C.length l = true := by
    intro l
    induction l with
    | nil => intro _; rfl
    | cons d l ih =>
      intro hl
      show (cb C.length d && cbL C.length l) = true
      rw [hl d (List.mem_cons_self ..), ih fun x hx => hl x (List.mem_cons_of_mem _ hx)]
      rfl
  have hb : cbL C.length (flat2 xs ys f h) = true := by
    refine all _ fun d hd => ?_
    unfold flat2 at hd
    obtain ⟨x, hx, hd⟩ := List.mem_flatMap.mp hd
    obtain ⟨y, hy', rfl⟩ := List.mem_map.mp hd
    obtain ⟨hy1, hy2⟩ := List.mem_filter.mp hy'
    exact hc x hx y hy1 hy2
  unfold lcEnd
  rw [if_neg (by decide), at_n]
  simp [hb]
/-! ### dicts from pairs to numbers -/
abbrev Dc := List ((Int × Int) × Int)
def dp (d : Dc) (k : Int × Int) (n : Int) : Dc := if d.any (fun p => decide (p.1 = k)) = true then d.map fun p => if p.1 = k then (p.1, n) else p else d ++ [(k, n)]
end CT
set_option maxHeartbeats 4000000
/-! E3: walks over cells; own operators worked out. -/
namespace CT
open PySem L2
/-- what is walked stays while P holds: these items -/
structure ItOn (P : Store → Prop) (it : ItD) (xs : List D) : Prop where
  n : it.n = xs.length
  item : ∀ j C, P C → j < xs.length → it.item j C = xs[j]?
  fin : ∀ C, P C → it.fin C = true
theorem PureIt.on {it : ItD} {xs : List D} (h : PureIt it xs) (P : Store → Prop) : ItOn P it xs := ⟨h.n, fun j C _ => h.item j C, fun C _ => h.fin C⟩
theorem ItOn.imp {P P' : Store → Prop} {it : ItD} {xs : List D} (h : ItOn P it xs) (q : ∀ C, P' C → P C) : ItOn P' it xs := ⟨h.n, fun j C p => h.item j C (q C p), fun C p => h.fin C (q C p)⟩
/-- d is walked as xs wherever the store begins by C -/
def SeqIn (d : D) (xs : List D) (C : Store) : Prop := ∃ it, (∀ Y, itS d (C ++ Y) = some it) ∧ ItOn (fun S => ∃ Y, S = C ++ Y) it xs
theorem SeqIn.app {d : D} {xs : List D} {C : Store} (h : SeqIn d xs C) (Z : Store) : SeqIn d xs (C ++ Z) := by
  obtain ⟨it, h1, h2⟩ := h
  exact ⟨it, fun Y => by rw [List.append_assoc]; exact h1 _, h2.imp fun S ⟨Y, e⟩ => ⟨Z ++ Y, by rw [e, List.append_assoc]⟩⟩
/-! ### own operators -/
@[simp] theorem ev_revT {m : ME} {F : Fr} {C C1 : Store} {xs : List D} (h : m F C = .ok (.tup xs) C1) : mRevT m F C = .ok (.tup xs.reverse) C1 := by
  unfold mRevT
  rw [h]
  rfl
end CT
set_option maxHeartbeats 4000000
/-! E4: what a run must lead to, told backwards. -/
namespace CT
open PySem L2
/-! ### results -/
def wR0 {α : Type} (r : R α) (Q : α → Store → Prop) (E : Exc → Store → Prop) : Prop := match r with
  | .ok a C => Q a C
  | .exc e C => E e C
  | .stuck => False
/-- kept shut, so that no goal is worked out by chance -/
structure wR {α : Type} (r : R α) (Q : α → Store → Prop) (E : Exc → Store → Prop) : Prop where
  h : wR0 r Q E
structure wO (o : Option (D × Store)) (Q : D → Store → Prop) : Prop where
  h : ∃ d C, o = some (d, C) ∧ Q d C
structure wS (r : RS) (P : RS → Prop) : Prop where
  h : P r
structure wI (b : Bool) (p q : Prop) : Prop where
  h : if b = true then p else q
abbrev noX : Exc → Store → Prop := fun _ _ => False
section
variable {α β : Type} {Q : α → Store → Prop} {E : Exc → Store → Prop} {P : RS → Prop} {F : Fr} {C : Store}
theorem w_ok {a : α} (h : Q a C) : wR (.ok a C) Q E := ⟨h⟩
theorem w_of {r : R α} {a : α} {C' : Store} (e : r = .ok a C') (h : Q a C') : wR r Q E := by rw [e]; exact ⟨h⟩
theorem w_mono {r : R α} {Q' : α → Store → Prop} {E' : Exc → Store → Prop} (h : wR r Q' E') (q : ∀ a C, Q' a C → Q a C) (x : ∀ a C, E' a C → E a C) : wR r Q E := by
  cases r with
  | ok a C => exact ⟨q a C h.h⟩
  | exc e C => exact ⟨x e C h.h⟩
  | stuck => exact ⟨h.h⟩
theorem w_conv {r : R α} {Q' : α → Store → Prop} (h : wR r Q' noX) (q : ∀ a C, Q' a C → Q a C) : wR r Q E := w_mono h q fun _ _ z => z.elim
theorem w_eqv {r : R α} {a : α} {C : Store} (h : wR r (fun d C' => d = a ∧ C' = C) noX) : r = .ok a C := by
  cases r with
  | ok a C => obtain ⟨h1, h2⟩ := h.h; rw [h1, h2]
  | exc e C => exact h.h.elim
  | stuck => exact h.h.elim
theorem w_out {r : R α} (h : wR r Q noX) : ∃ a C, r = .ok a C ∧ Q a C := by
  cases r with
  | ok a C => exact ⟨a, C, rfl, h.h⟩
  | exc e C => exact h.h.elim
  | stuck => exact h.h.elim
theorem w_bnd {m : R α} {f : α → Store → R β} {Q : β → Store → Prop} (h : wR m (fun a C => wR (f a C) Q E) E) : wR (bnd m f) Q E := by
  cases m with
  | ok a C => exact h.h
  | exc e C => exact ⟨h.h⟩
  | stuck => exact ⟨h.h⟩
theorem w_bn0 {m : R α} {f : α → Store → R β} {Q : β → Store → Prop} (h : wR m (fun a C => wR (f a C) Q E) noX) : wR (bn0 m f) Q E := by
  cases m with
  | ok a C => exact h.h
  | exc e C => exact h.h.elim
  | stuck => exact ⟨h.h⟩
theorem w_bndS {m : R α} {sl : List (Option D)} {f : α → Store → RS} (h : wR m (fun a C => wS (f a C) P) (fun e C => P (.xc e sl C))) : wS (bndS sl m f) P := by
  cases m with
  | ok a C => exact h.h
  | exc e C => exact ⟨h.h⟩
  | stuck => exact h.h.elim
theorem wo_of {o : Option (D × Store)} {d : D} {C' : Store} {Q : D → Store → Prop} (e : o = some (d, C')) (h : Q d C') : wO o Q := ⟨d, C', e, h⟩
theorem w_ofO {o : Option (D × Store)} {Q : D → Store → Prop} (h : wO o Q) : wR (ofO o) Q E := by
  obtain ⟨d, C', e, q⟩ := h.h
  rw [e]
  exact ⟨q⟩
theorem gR {r : R α} (h : wR r Q E) : wR r Q E := h
theorem gO {o : Option (D × Store)} {Q : D → Store → Prop} (h : wO o Q) : wO o Q := h
theorem gS {r : RS} (h : wS r P) : wS r P := h
theorem gI {b : Bool} {p q : Prop} (h : wI b p q) : wI b p q := h
theorem wI_t {p q : Prop} (h : p) : wI true p q := ⟨h⟩
theorem wI_f {p q : Prop} (h : q) : wI false p q := ⟨h⟩
theorem wI_d {b : Prop} [Decidable b] {p q : Prop} (h : b → p) (g : ¬ b → q) : wI (decide b) p q := by
  by_cases hb : b
  · rw [decide_eq_true hb]; exact ⟨h hb⟩
  · rw [decide_eq_false hb]; exact ⟨g hb⟩
theorem wI_dt {b : Prop} [Decidable b] {p q : Prop} (hb : b) (h : p) : wI (decide b) p q := by rw [decide_eq_true hb]; exact ⟨h⟩
theorem wI_df {b : Prop} [Decidable b] {p q : Prop} (hb : ¬ b) (h : q) : wI (decide b) p q := by rw [decide_eq_false hb]; exact ⟨h⟩
theorem wI_not {b : Bool} {p q : Prop} (h : wI b q p) : wI (!b) p q := by cases b <;> exact ⟨h.h⟩
end
/-! ### expressions -/
section
variable {Q : D → Store → Prop} {E : Exc → Store → Prop} {F : Fr} {C : Store}
theorem w_var {i : Nat} {fl : Nat} {sl : List (Option D)} {d : D} (e : sl[i]? = some (some d)) (h : Q d C) : wR (mVar i ⟨fl, sl⟩ C) Q E := by
  refine w_of (a := d) (C' := C) ?_ h
  show (match sl[i]? with
    | some (some d) => R.ok d C
    | _ => R.stuck) = _
  rw [e]
theorem w_c {d : D} (h : Q d C) : wR (mC d F C) Q E := ⟨h⟩
theorem w_op {o : O2} {a b : ME} (h : wR (a F C) (fun x C1 => wR (b F C1) (fun y C2 => wO (o x y C2) Q) E) E) : wR (mOp o a b F C) Q E :=
  w_bnd (w_mono h (fun _ _ g => w_bnd (w_mono g (fun _ _ g => w_ofO g) fun _ _ z => z)) fun _ _ z => z)
theorem w_un {o : O1} {a : ME} (h : wR (a F C) (fun x C1 => wO (o x C1) Q) E) : wR (mUn o a F C) Q E :=
  w_bnd (w_mono h (fun _ _ g => w_ofO g) fun _ _ z => z)
theorem w_ap {o : OA} {a : MA} (h : wR (a F C) (fun x C1 => wO (o x C1) Q) E) : wR (mAp o a F C) Q E :=
  w_bnd (w_mono h (fun _ _ g => w_ofO g) fun _ _ z => z)
theorem w_nil {Q : List D → Store → Prop} (h : Q [] C) : wR (mNil F C) Q E := ⟨h⟩
theorem w_cons {a : ME} {r : MA} {Q : List D → Store → Prop} (h : wR (a F C) (fun x C1 => wR (r F C1) (fun xs C2 => Q (x :: xs) C2) E) E) : wR (mCons a r F C) Q E :=
  w_bnd (w_mono h (fun _ _ g => w_bnd (w_mono g (fun _ _ g => w_ok g) fun _ _ z => z)) fun _ _ z => z)
theorem w_call {m : MF} {dds : List D} {a : MA} (h : wR (a F C) (fun xs C1 => wR (m (xs ++ dds) C1) Q E) E) : wR (mCall m dds a F C) Q E := w_bnd h
theorem w_tst {a : ME} {Q : Bool → Store → Prop} (h : wR (a F C) (fun d C1 => ∃ b, d = .bl b ∧ Q b C1) E) : wR (mTst a F C) Q E :=
  w_bnd (w_mono h (fun d C1 g => by obtain ⟨b, rfl, q⟩ := g; exact w_ok q) fun _ _ z => z)
theorem w_bl {b : Bool} {q : Bool → Prop} (h : q b) : ∃ b', D.bl b = .bl b' ∧ q b' := ⟨b, rfl, h⟩
theorem w_tand {a b : MT} {Q : Bool → Store → Prop} (h : wR (a F C) (fun x C1 => wI x (wR (b F C1) Q E) (Q false C1)) E) : wR (tAndM a b F C) Q E :=
  w_bnd (w_mono h (fun x C1 g => by
    cases x
    · exact w_ok g.h
    · exact g.h) fun _ _ z => z)
theorem w_tor {a b : MT} {Q : Bool → Store → Prop} (h : wR (a F C) (fun x C1 => wI x (Q true C1) (wR (b F C1) Q E)) E) : wR (tOrM a b F C) Q E :=
  w_bnd (w_mono h (fun x C1 g => by
    cases x
    · exact g.h
    · exact w_ok g.h) fun _ _ z => z)
theorem w_tnot {a : MT} {Q : Bool → Store → Prop} (h : wR (a F C) (fun x C1 => Q (!x) C1) E) : wR (tNotM a F C) Q E := w_bnd (w_mono h (fun _ _ g => w_ok g) fun _ _ z => z)
theorem w_yes {Q : Bool → Store → Prop} (h : Q true C) : wR (tYesM F C) Q E := ⟨h⟩
theorem w_and {a b : ME} (h : wR (a F C) (fun d C1 => ∃ x, d = .bl x ∧ wI x (wR (b F C1) Q E) (Q (.bl false) C1)) E) : wR (mAnd a b F C) Q E :=
  w_bnd (w_mono h (fun d C1 g => by
    obtain ⟨x, rfl, q⟩ := g
    cases x
    · exact w_ok q.h
    · exact q.h) fun _ _ z => z)
theorem w_or {a b : ME} (h : wR (a F C) (fun d C1 => ∃ x, d = .bl x ∧ wI x (Q (.bl true) C1) (wR (b F C1) Q E)) E) : wR (mOr a b F C) Q E :=
  w_bnd (w_mono h (fun d C1 g => by
    obtain ⟨x, rfl, q⟩ := g
    cases x
    · exact q.h
    · exact w_ok q.h) fun _ _ z => z)
theorem w_not {a : ME} (h : wR (a F C) (fun d C1 => ∃ x, d = .bl x ∧ Q (.bl (!x)) C1) E) : wR (mNot a F C) Q E :=
  w_bnd (w_mono h (fun d C1 g => by obtain ⟨x, rfl, q⟩ := g; exact w_ok q) fun _ _ z => z)
theorem w_if {t : MT} {a b : ME} (h : wR (t F C) (fun x C1 => wI x (wR (a F C1) Q E) (wR (b F C1) Q E)) E) : wR (mIf t a b F C) Q E :=
  w_bnd (w_mono h (fun x C1 g => by cases x <;> exact g.h) fun _ _ z => z)
theorem w_chain {o o' : O2} {a b c : ME} (h : wR (a F C) (fun x C1 => wR (b F C1) (fun y C2 => wO (o x y C2) fun z C3 => ∃ t, z = .bl t ∧ wI t (wR (c F C3) (fun w C4 => wO (o' y w C4) Q) E) (Q (.bl false) C3)) E) E) : wR (mChain o o' a b c F C) Q E :=
  w_bnd (w_mono h (fun x C1 g => w_bnd (w_mono g (fun y C2 g => w_bnd (w_ofO (by
    obtain ⟨d, C3, e, t, rfl, q⟩ := g.h
    refine wo_of e ?_
    cases t
    · exact w_ok q.h
    · exact w_bnd (w_mono q.h (fun _ _ g => w_ofO g) fun _ _ z => z)))) fun _ _ z => z)) fun _ _ z => z)
theorem w_prop {c : Nat} {m : MF} {mo : ME} (h : wR (mo F C) (fun d C1 => ∃ fs, d = .obj c fs ∧ wR (m [d] C1) Q noX) E) : wR (mProp c m mo F C) Q E :=
  w_bnd (w_mono h (fun d C1 g => by
    obtain ⟨fs, rfl, q⟩ := g
    show wR (if c = c then (match m [.obj c fs] C1 with
      | .ok d C2 => R.ok d C2
      | _ => R.stuck) else R.stuck) Q E
    rw [if_pos rfl]
    obtain ⟨a, C2, e, q⟩ := w_out q
    rw [e]
    exact w_ok q) fun _ _ z => z)
theorem w_meth {c : Nat} {m : MF} {dds : List D} {mo : ME} {a : MA} (h : wR (mo F C) (fun d C1 => ∃ fs, d = .obj c fs ∧ wR (a F C1) (fun xs C2 => wR (m (d :: (xs ++ dds)) C2) Q E) E) E) : wR (mMeth c m dds mo a F C) Q E :=
  w_bnd (w_mono h (fun d C1 g => by
    obtain ⟨fs, rfl, q⟩ := g
    simp only [vO, if_true]
    exact w_bnd q) fun _ _ z => z)
theorem w_obj {c : Nat} {fs : List D} {q : Prop} (h : q) : ∃ gs, D.obj c fs = .obj c gs ∧ q := ⟨fs, rfl, h⟩
theorem w_dget {a b c : ME} (h : wR (a F C) (fun x C1 => (vD x C1).isSome = true ∧ wR (b F C1) (fun y C2 => wR (c F C2) (fun z C3 => wO (oDGet x y z C3) Q) E) E) E) : wR (mDGet a b c F C) Q E :=
  w_bnd (w_mono h (fun x C1 g => by
    rw [if_pos g.1]
    exact w_bnd (w_mono g.2 (fun _ _ g => w_bnd (w_mono g (fun _ _ g => w_ofO g) fun _ _ z => z)) fun _ _ z => z)) fun _ _ z => z)
theorem w_isi {kn : List Nat} {t : Cc} {m : ME} (h : wR (m F C) (fun d C1 => ∃ b, isi kn d C1 t = some b ∧ Q (.bl b) C1) E) : wR (mIsi kn t m F C) Q E :=
  w_bnd (w_mono h (fun d C1 g => by obtain ⟨b, e, q⟩ := g; rw [e]; exact w_ok q) fun _ _ z => z)
theorem w_isi2 {kn : List Nat} {t u : Cc} {m : ME} (h : wR (m F C) (fun d C1 => ∃ b b', isi kn d C1 t = some b ∧ isi kn d C1 u = some b' ∧ Q (.bl (b || b')) C1) E) : wR (mIsi2 kn t u m F C) Q E :=
  w_bnd (w_mono h (fun d C1 g => by obtain ⟨b, b', e, e', q⟩ := g; rw [e, e']; exact w_ok q) fun _ _ z => z)
theorem w_part {m : ME} {Q : Option Int → Store → Prop} (h : wR (m F C) (fun d C1 => ∃ i, d = .int i ∧ Q (some i) C1) E) : wR (mPart m F C) Q E :=
  w_bnd (w_mono h (fun d C1 g => by obtain ⟨b, rfl, q⟩ := g; exact w_ok q) fun _ _ z => z)
theorem w_noPart {Q : Option Int → Store → Prop} (h : Q none C) : wR (mNoPart F C) Q E := ⟨h⟩
theorem w_slL {own : Bool} {a : ME} {l u : Fr → Store → R (Option Int)} (h : wR (a F C) (fun x C1 => wR (l F C1) (fun lo C2 => wR (u F C2) (fun hi C3 => ∃ xs, vLs x C3 = some xs ∧ Q (mkL own (cutD xs lo hi) C3).1 (mkL own (cutD xs lo hi) C3).2) E) E) E) : wR (mSlL own a l u F C) Q E :=
  w_bnd (w_mono h (fun _ _ g => w_bnd (w_mono g (fun _ _ g => w_bnd (w_mono g (fun _ _ g => by obtain ⟨xs, e, q⟩ := g; simp only [e]; exact w_ok q) fun _ _ z => z)) fun _ _ z => z)) fun _ _ z => z)
theorem w_slA {a : ME} {l u : Fr → Store → R (Option Int)} (h : wR (a F C) (fun x C1 => wR (l F C1) (fun lo C2 => wR (u F C2) (fun hi C3 => ∃ xs, x = .tup xs ∧ Q (.tup (cutD xs lo hi)) C3) E) E) E) : wR (mSlA a l u F C) Q E :=
  w_bnd (w_mono h (fun _ _ g => w_bnd (w_mono g (fun lo _ g => w_bnd (w_mono g (fun hi _ g => by
    obtain ⟨xs, rfl, q⟩ := g
    simp only [vT]
    split
    · rename_i hh
      have e : cutD xs lo hi = xs := by
        unfold cutD
        rw [hh.1, hh.2]
        simp
      rw [e] at q
      exact w_ok q
    · exact w_ok q) fun _ _ z => z)) fun _ _ z => z)) fun _ _ z => z)
theorem w_int {i : Int} {q : Int → Prop} (h : q i) : ∃ j, D.int i = .int j ∧ q j := ⟨i, rfl, h⟩
end
/-! ### operators -/
section
variable {Q : D → Store → Prop} {C : Store}
theorem wo_add {a b : Int} (h : Q (.int (a + b)) C) : wO (oAdd (.int a) (.int b) C) Q := wo_of rfl h
theorem wo_sub {a b : Int} (h : Q (.int (a - b)) C) : wO (oSub (.int a) (.int b) C) Q := wo_of rfl h
theorem wo_neg {a : Int} (h : Q (.int (-a)) C) : wO (oNeg (.int a) C) Q := wo_of rfl h
theorem wo_lt {a b : Int} (h : Q (.bl (decide (a < b))) C) : wO (oLt (.int a) (.int b) C) Q := wo_of rfl h
theorem wo_le {a b : Int} (h : Q (.bl (decide (a ≤ b))) C) : wO (oLe (.int a) (.int b) C) Q := wo_of rfl h
theorem wo_gt {a b : Int} (h : Q (.bl (decide (b < a))) C) : wO (oGt (.int a) (.int b) C) Q := wo_of rfl h
theorem wo_ge {a b : Int} (h : Q (.bl (decide (b ≤ a))) C) : wO (oGe (.int a) (.int b) C) Q := wo_of rfl h
theorem wo_eq {a b : Int} (h : Q (.bl (decide (a = b))) C) : wO (oEqA false (.int a) (.int b) C) Q := wo_of rfl h
theorem wo_ne {a b : Int} (h : Q (.bl (!decide (a = b))) C) : wO (oEqA true (.int a) (.int b) C) Q := wo_of rfl h
theorem wo_eqS {a b : Str} (h : Q (.bl (decide (a = b))) C) : wO (oEqA false (.str a) (.str b) C) Q := wo_of rfl h
theorem wo_neS {a b : Str} (h : Q (.bl (!decide (a = b))) C) : wO (oEqA true (.str a) (.str b) C) Q := wo_of rfl h
theorem wo_mul {a b : Int} (e : cMul a b = true) (h : Q (.int (a * b)) C) : wO (oMul (.int a) (.int b) C) Q := wo_of (ev_mul C e) h
theorem wo_mod {a b : Int} (e : 0 < b) (h : Q (.int (a % b)) C) : wO (oMod (.int a) (.int b) C) Q := wo_of (ev_mod C e) h
theorem wo_div {a b : Int} (e : 0 < b) (e2 : b < 4611686018427387904) (h : Q (.int (a / b)) C) : wO (oDiv (.int a) (.int b) C) Q := wo_of (ev_div C e e2) h
theorem wo_min {a b : Int} (h : Q (.int (min a b)) C) : wO (oMin2 [.int a, .int b] C) Q := wo_of (ev_min C a b) h
theorem wo_max {a b : Int} (h : Q (.int (max a b)) C) : wO (oMax2 [.int a, .int b] C) Q := wo_of (ev_max C a b) h
theorem wo_int {a : Int} (h : Q (.int a) C) : wO (oInt [.int a] C) Q := wo_of rfl h
theorem wo_abs {a : Int} (h : Q (.int (a.natAbs : Int)) C) : wO (oAbs [.int a] C) Q := wo_of (ev_abs C a) h
theorem wo_lst {own : Bool} {xs : List D} (e : szN xs.length = true) (h : Q (mkL own xs C).1 (mkL own xs C).2) : wO (oLst own xs C) Q := by
  refine wo_of ?_ h
  unfold oLst
  rw [if_pos e]
theorem wo_lstF {xs : List D} (e : szN xs.length = true) (h : Q (.lst xs) C) : wO (oLst false xs C) Q := wo_lst e h
theorem wo_lstT {xs : List D} (e : szN xs.length = true) (h : Q (.cell C.length) (C ++ [some (.lst xs)])) : wO (oLst true xs C) Q := wo_lst e h
theorem w_dnewF {E : Exc → Store → Prop} {F : Fr} (h : Q (.dT [] []) C) : wR (mDNew false F C) Q E := ⟨h⟩
theorem w_dnewT {E : Exc → Store → Prop} {F : Fr} (h : Q (.cell C.length) (C ++ [some (.dT [] [])])) : wR (mDNew true F C) Q E := ⟨h⟩
theorem w_slLF {E : Exc → Store → Prop} {F : Fr} {a : ME} {l u : Fr → Store → R (Option Int)} (h : wR (a F C) (fun x C1 => wR (l F C1) (fun lo C2 => wR (u F C2) (fun hi C3 => ∃ xs, vLs x C3 = some xs ∧ Q (.lst (cutD xs lo hi)) C3) E) E) E) : wR (mSlL false a l u F C) Q E := w_slL h
theorem wo_tup {xs : List D} (e : szN xs.length = true) (h : Q (.tup xs) C) : wO (oTup xs C) Q := by
  refine wo_of ?_ h
  unfold oTup
  rw [if_pos e]
theorem wo_fld {c n : Nat} {fs : List D} {d : D} (e : fs[n]? = some d) (h : Q d C) : wO (oFld c n (.obj c fs) C) Q := by
  refine wo_of ?_ h
  rw [ev_fld, e]
  rfl
theorem wo_len {x : D} {xs : List D} (e : vS x C = some xs) (h : Q (.int xs.length) C) : wO (oLen [x] C) Q := by
  refine wo_of (d := .int xs.length) (C' := C) ?_ h
  simp only [oLen, e, Option.map_some]
theorem wo_ix {x : D} {xs : List D} {i : Int} {k : Nat} {d : D} (e : vS x C = some xs) (hi : i = k) (hk : xs[k]? = some d) (h : Q d C) : wO (oIx x (.int i) C) Q := by
  subst hi
  have hl : k < xs.length := (List.getElem?_eq_some_iff.mp hk).1
  have e2 : atI xs (k : Int) = some d := by
    unfold atI ixN
    have h0 : (0 : Int) ≤ k := by omega
    simp [hl]
    exact (List.getElem?_eq_some_iff.mp hk).2
  refine wo_of (d := d) (C' := C) ?_ h
  unfold oIx
  rw [e]
  simp only [Option.bind_some, e2, Option.map_some]
end
/-! ### statements -/
def thn (b : MS) (fl : Nat) (P : RS → Prop) : RS → Prop := fun r => match r with
  | .nx sl C => wS (b ⟨fl, sl⟩ C) P
  | r => P r
section
variable {P : RS → Prop} {F : Fr} {C : Store} {E : Exc → Store → Prop}
theorem w_seq {a b : MS} {fl : Nat} {sl : List (Option D)} (h : wS (a ⟨fl, sl⟩ C) (thn b fl P)) : wS (sSeq a b ⟨fl, sl⟩ C) P := by
  have h := h.h
  unfold sSeq
  cases e : a ⟨fl, sl⟩ C with
  | nx sl C1 => rw [e] at h; exact h
  | rt d C1 => rw [e] at h; exact ⟨h⟩
  | bk d C1 => rw [e] at h; exact ⟨h⟩
  | ct d C1 => rw [e] at h; exact ⟨h⟩
  | xc x d C1 => rw [e] at h; exact ⟨h⟩
  | stuck => rw [e] at h; exact ⟨h⟩
theorem thn_nx {b : MS} {fl : Nat} {sl : List (Option D)} (h : wS (b ⟨fl, sl⟩ C) P) : thn b fl P (.nx sl C) := h
theorem thn_rt {b : MS} {fl : Nat} {d : D} (h : P (.rt d C)) : thn b fl P (.rt d C) := h
theorem thn_bk {b : MS} {fl : Nat} {sl : List (Option D)} (h : P (.bk sl C)) : thn b fl P (.bk sl C) := h
theorem thn_ct {b : MS} {fl : Nat} {sl : List (Option D)} (h : P (.ct sl C)) : thn b fl P (.ct sl C) := h
theorem thn_xc {b : MS} {fl : Nat} {e : Exc} {sl : List (Option D)} (h : P (.xc e sl C)) : thn b fl P (.xc e sl C) := h
theorem w_next {fl : Nat} {sl : List (Option D)} (h : P (.nx sl C)) : wS (sNext ⟨fl, sl⟩ C) P := ⟨h⟩
theorem w_brk {fl : Nat} {sl : List (Option D)} (h : P (.bk sl C)) : wS (sBrk ⟨fl, sl⟩ C) P := ⟨h⟩
theorem w_cnt {fl : Nat} {sl : List (Option D)} (h : P (.ct sl C)) : wS (sCnt ⟨fl, sl⟩ C) P := ⟨h⟩
theorem w_drop {m : ME} {fl : Nat} {sl : List (Option D)} (h : wR (m ⟨fl, sl⟩ C) (fun _ C1 => P (.nx sl C1)) (fun e C1 => P (.xc e sl C1))) : wS (sDrop m ⟨fl, sl⟩ C) P := w_bndS (w_mono h (fun _ _ g => ⟨g⟩) fun _ _ z => z)
theorem w_ret {m : ME} {fl : Nat} {sl : List (Option D)} (h : wR (m ⟨fl, sl⟩ C) (fun d C1 => P (.rt d C1)) (fun e C1 => P (.xc e sl C1))) : wS (sRet m ⟨fl, sl⟩ C) P := w_bndS (w_mono h (fun _ _ g => ⟨g⟩) fun _ _ z => z)
theorem w_retN (h : P (.rt .non C)) : wS (sRetN F C) P := ⟨h⟩
theorem w_sif {t : MT} {a b : MS} {fl : Nat} {sl : List (Option D)} (h : wR (t ⟨fl, sl⟩ C) (fun x C1 => wI x (wS (a ⟨fl, sl⟩ C1) P) (wS (b ⟨fl, sl⟩ C1) P)) (fun e C1 => P (.xc e sl C1))) : wS (sIf t a b ⟨fl, sl⟩ C) P :=
  w_bndS (w_mono h (fun x C1 g => by cases x <;> exact g.h) fun _ _ z => z)
theorem w_asg {m : ME} {i fl : Nat} {sl : List (Option D)} (h : wR (m ⟨fl, sl⟩ C) (fun d C1 => P (.nx (sl.set i (some d)) C1)) (fun e C1 => P (.xc e sl C1))) : wS (sAsg m (gN i) ⟨fl, sl⟩ C) P := w_bndS (w_mono h (fun _ _ g => ⟨g⟩) fun _ _ z => z)
theorem w_asgT {m : ME} {is : List Nat} {fl : Nat} {sl : List (Option D)} (h : wR (m ⟨fl, sl⟩ C) (fun d C1 => ∃ ds sl', d = .tup ds ∧ setAll is ds sl = some sl' ∧ P (.nx sl' C1)) (fun e C1 => P (.xc e sl C1))) : wS (sAsg m (gT is) ⟨fl, sl⟩ C) P :=
  w_bndS (w_mono h (fun x C1 g => by obtain ⟨ds, sl', rfl, e, q⟩ := g; show wS (asgS (setAll is ds sl) C1) P; rw [e]; exact ⟨q⟩) fun _ _ z => z)
theorem w_par {m : MA} {is : List Nat} {fl : Nat} {sl : List (Option D)} (h : wR (m ⟨fl, sl⟩ C) (fun ds C1 => ∃ sl', setAll is ds sl = some sl' ∧ P (.nx sl' C1)) (fun e C1 => P (.xc e sl C1))) : wS (sPar is m ⟨fl, sl⟩ C) P :=
  w_bndS (w_mono h (fun x C1 g => by obtain ⟨sl', e, q⟩ := g; show wS (asgS (setAll is x sl) C1) P; rw [e]; exact ⟨q⟩) fun _ _ z => z)
theorem w_aug {i : Nat} {o : Int → Int → Int} {m : ME} {fl : Nat} {sl : List (Option D)} {a : Int} (e : sl[i]? = some (some (.int a))) (h : wR (m ⟨fl, sl⟩ C) (fun d C1 => ∃ b, d = .int b ∧ P (.nx (sl.set i (some (.int (o a b)))) C1)) (fun e C1 => P (.xc e sl C1))) : wS (sAug i o m ⟨fl, sl⟩ C) P := by
  unfold sAug
  simp only [e]
  refine w_bndS (w_mono h (fun x C1 g => ?_) fun _ _ z => z)
  obtain ⟨b, rfl, q⟩ := g
  exact ⟨q⟩
theorem w_raise {c n : Nat} {ma : MA} {fl : Nat} {sl : List (Option D)} (h : wR (ma ⟨fl, sl⟩ C) (fun ds C1 => ds.length = n ∧ P (.xc ⟨c, ds.reverse⟩ sl C1)) (fun e C1 => P (.xc e sl C1))) : wS (sRaise c n ma ⟨fl, sl⟩ C) P :=
  w_bndS (w_mono h (fun x C1 g => by rw [if_pos g.1]; exact ⟨g.2⟩) fun _ _ z => z)
theorem w_eq {r r' : RS} (e : r = r') (h : P r') : wS r P := by rw [e]; exact ⟨h⟩
/-- what stands behind a def's body -/
def fnl (n : Nat) (Q : D → Store → Prop) (E : Exc → Store → Prop) : RS → Prop := fun r => wR (finS n r) Q E
theorem w_fin {n : Nat} {r : RS} {Q : D → Store → Prop} (h : wS r (fnl n Q E)) : wR (finS n r) Q E := h.h
theorem fnl_int {n : Nat} {Q : D → Store → Prop} {i : Int} (h : Q (.int i) (C.take n)) : fnl n Q E (.rt (.int i) C) := w_ok h
theorem fnl_bl {n : Nat} {Q : D → Store → Prop} {i : Bool} (h : Q (.bl i) (C.take n)) : fnl n Q E (.rt (.bl i) C) := w_ok h
theorem fnl_non {n : Nat} {Q : D → Store → Prop} (h : Q .non (C.take n)) : fnl n Q E (.rt .non C) := w_ok h
theorem fnl_str {n : Nat} {Q : D → Store → Prop} {i : Str} (h : Q (.str i) (C.take n)) : fnl n Q E (.rt (.str i) C) := w_ok h
theorem fnl_nx {n : Nat} {Q : D → Store → Prop} {sl : List (Option D)} (h : Q .non (C.take n)) : fnl n Q E (.nx sl C) := w_ok h
theorem fnl_d {n : Nat} {Q : D → Store → Prop} {d : D} (e : ∀ i, d ≠ .cell i) (hc : cb n d = true) (h : Q d (C.take n)) : fnl n Q E (.rt d C) := by
  have z : fz n d C = d := by
    unfold fz
    split
    · exact absurd rfl (e _)
    · rfl
  show wR (fin n d C) Q E
  unfold fin
  rw [z, if_pos hc]
  exact w_ok h
end
/-! ### loops -/
def lpP (I : Nat → List (Option D) → Store → Prop) (j : Nat) (P : RS → Prop) : RS → Prop := fun r => match r with
  | .nx sl C => I j sl C
  | .ct sl C => I j sl C
  | .bk sl C => P (.nx sl C)
  | .rt d C => P (.rt d C)
  | .xc e sl C => P (.xc e sl C)
  | .stuck => False
theorem lp_nx {I : Nat → List (Option D) → Store → Prop} {j : Nat} {P : RS → Prop} {sl : List (Option D)} {C : Store} (h : I j sl C) : lpP I j P (.nx sl C) := h
theorem lp_rt {I : Nat → List (Option D) → Store → Prop} {j : Nat} {P : RS → Prop} {d : D} {C : Store} (h : P (.rt d C)) : lpP I j P (.rt d C) := h
theorem lp_bk {I : Nat → List (Option D) → Store → Prop} {j : Nat} {P : RS → Prop} {sl : List (Option D)} {C : Store} (h : P (.nx sl C)) : lpP I j P (.bk sl C) := h
theorem lp_xc {I : Nat → List (Option D) → Store → Prop} {j : Nat} {P : RS → Prop} {e : Exc} {sl : List (Option D)} {C : Store} (h : P (.xc e sl C)) : lpP I j P (.xc e sl C) := h
theorem loop_w {S : Store → Prop} {it : ItD} {xs : List D} (p : ItOn S it xs) {g : MG} {body : MS} {fl : Nat} {P : RS → Prop} (I : Nat → List (Option D) → Store → Prop) (hS : ∀ j sl C, I j sl C → S C)
    (step : ∀ j x sl C, xs[j]? = some x → I j sl C → ∃ sl1, g x sl = some sl1 ∧ wS (body ⟨fl, sl1⟩ C) (lpP I (j + 1) P)) (fin : ∀ sl C, I xs.length sl C → P (.nx sl C)) :
    ∀ r j sl C, r + j = xs.length → I j sl C → wS (loopN it g body fl r j sl C) P
  | 0, j, sl, C, h, i => by
    have e : j = xs.length := by omega
    subst e
    unfold loopN
    rw [if_pos (p.fin C (hS _ _ _ i))]
    exact ⟨fin sl C i⟩
  | r + 1, j, sl, C, h, i => by
    have hj : j < xs.length := by omega
    obtain ⟨sl1, h1, h2⟩ := step j xs[j] sl C (List.getElem?_eq_getElem hj) i
    unfold loopN
    rw [p.item j C (hS _ _ _ i) hj, List.getElem?_eq_getElem hj]
    simp only [h1]
    have h2 := h2.h
    unfold lpP at h2
    cases e : body ⟨fl, sl1⟩ C with
    | nx sl2 C2 => rw [e] at h2; exact loop_w p I hS step fin r (j + 1) sl2 C2 (by omega) h2
    | ct sl2 C2 => rw [e] at h2; exact loop_w p I hS step fin r (j + 1) sl2 C2 (by omega) h2
    | bk sl2 C2 => rw [e] at h2; exact ⟨h2⟩
    | rt d C2 => rw [e] at h2; exact ⟨h2⟩
    | xc x sl2 C2 => rw [e] at h2; exact ⟨h2⟩
    | stuck => rw [e] at h2; exact h2.elim
/-! ### comprehensions -/
theorem lc_w {S : Store → Prop} {it : ItD} {xs : List D} (p : ItOn S it xs) {g : MG} {tt : MT} {te : ME} {n : Nat} {sl : List (Option D)} (J : Nat → List D → Store → Prop) (hS : ∀ j acc C, J j acc C → S C) (hz : ∀ j acc C, J j acc C → acc.length < 16777216)
    (step : ∀ j x acc C, xs[j]? = some x → C[n]? = some (some (.lst acc)) → J j acc C → ∃ sl1, g x sl = some sl1 ∧ wR (tt ⟨n, sl1⟩ C) (fun b C1 => wI b (wR (te ⟨n, sl1⟩ C1) (fun y C2 => ∃ acc', C2[n]? = some (some (.lst acc')) ∧ acc'.length < 16777216 ∧ J (j + 1) (acc' ++ [y]) (C2.set n (some (.lst (acc' ++ [y])))) ∧ n < C2.length) noX) (∃ acc', C1[n]? = some (some (.lst acc')) ∧ J (j + 1) acc' C1)) noX) :
    ∀ r j acc C, r + j = xs.length → C[n]? = some (some (.lst acc)) → J j acc C → ∃ acc' C', lcN it g tt te n sl r j C = .ok () C' ∧ C'[n]? = some (some (.lst acc')) ∧ J xs.length acc' C'
  | 0, j, acc, C, h, c, i => by
    have e : j = xs.length := by omega
    subst e
    unfold lcN
    rw [if_pos (p.fin C (hS _ _ _ i))]
    exact ⟨acc, C, rfl, c, i⟩
  | r + 1, j, acc, C, h, c, i => by
    have hj : j < xs.length := by omega
    obtain ⟨sl1, h1, h2⟩ := step j xs[j] acc C (List.getElem?_eq_getElem hj) c i
    unfold lcN
    rw [p.item j C (hS _ _ _ i) hj, List.getElem?_eq_getElem hj]
    simp only [h1]
    obtain ⟨b, C1, e1, h3⟩ := w_out h2
    rw [e1]
    simp only [bn0_ok]
    cases b with
    | false =>
      obtain ⟨acc', c1, i1⟩ := h3.h
      rw [if_neg (by decide)]
      exact lc_w p J hS hz step r (j + 1) acc' C1 (by omega) c1 i1
    | true =>
      obtain ⟨y, C2, e2, acc', c2, z, i2, hn⟩ := w_out h3.h
      rw [if_pos rfl, e2]
      simp only [bn0_ok]
      rw [c2]
      have hs : szN (acc'.length + 1) = true := by simp only [szN, decide_eq_true_eq]; omega
      simp only [hs, if_true]
      exact lc_w p J hS hz step r (j + 1) (acc' ++ [y]) _ (by omega) (List.getElem?_set_self hn) i2
/-- [e for t in it if c], that may draw -/
theorem w_lc {mi : MI} {g : MG} {tt : MT} {te : ME} {vs : List Nat} {F : Fr} {C C1 : Store} {it : ItD} {xs : List D} {S : Store → Prop} {Q : D → Store → Prop} {E : Exc → Store → Prop} (hi : mi F C = .ok it C1) (p : ItOn S it xs) (J : Nat → List D → Store → Prop) (hS : ∀ j acc C, J j acc C → S C) (hz : ∀ j acc C, J j acc C → acc.length < 16777216)
    (i0 : J 0 [] (C1 ++ [some (.lst [])]))
    (step : ∀ j x acc C, xs[j]? = some x → C[C1.length]? = some (some (.lst acc)) → J j acc C → ∃ sl1, g x (wipeD F.sl vs) = some sl1 ∧ wR (tt ⟨C1.length, sl1⟩ C) (fun b C2 => wI b (wR (te ⟨C1.length, sl1⟩ C2) (fun y C3 => ∃ acc', C3[C1.length]? = some (some (.lst acc')) ∧ acc'.length < 16777216 ∧ J (j + 1) (acc' ++ [y]) (C3.set C1.length (some (.lst (acc' ++ [y])))) ∧ C1.length < C3.length) noX) (∃ acc', C2[C1.length]? = some (some (.lst acc')) ∧ J (j + 1) acc' C2)) noX)
    (fin : ∀ acc C, C[C1.length]? = some (some (.lst acc)) → J xs.length acc C → cbL C1.length acc = true ∧ Q (.lst acc) (C.take C1.length)) : wR (mLc false mi g tt te vs F C) Q E := by
  obtain ⟨acc, C', e, c, i⟩ := lc_w p J hS hz step it.n 0 [] (C1 ++ [some (.lst [])]) (by rw [p.n]; omega) (by simp) i0
  obtain ⟨f1, f2⟩ := fin acc C' c i
  unfold mLc
  rw [hi]
  simp only [bnd_ok]
  rw [e]
  simp only [bn0_ok]
  unfold lcEnd
  rw [if_neg (by decide), c]
  simp only [f1, if_true]
  exact w_ok f2
end CT
set_option maxHeartbeats 4000000
/-! E5: more steps told backwards. -/
namespace CT
open PySem L2
abbrev accS (C : Store) (acc : List D) : Store := C ++ [some (.lst acc)]
/-- [e for t in it if c], nothing changed -/
theorem w_lcP {mi : MI} {it : ItD} {xs : List D} {g : MG} {tt : MT} {te : ME} {vs : List Nat} {F : Fr} {C : Store} {Q : D → Store → Prop} {E : Exc → Store → Prop} (hi : mi F C = .ok it C) (p : PureIt it xs) (f : D → Bool) (h : D → D) (sz : xs.length ≤ 16777215)
    (st : ∀ x ∈ xs, ∃ sl1, g x (wipeD F.sl vs) = some sl1 ∧ ∀ acc, wR (tt ⟨C.length, sl1⟩ (accS C acc)) (fun b C' => b = f x ∧ C' = accS C acc) noX ∧ (f x = true → wR (te ⟨C.length, sl1⟩ (accS C acc)) (fun d C' => d = h x ∧ C' = accS C acc) noX))
    (hc : ∀ x ∈ xs, f x = true → cb C.length (h x) = true) (q : Q (.lst ((xs.filter f).map h)) C) : wR (mLc false mi g tt te vs F C) Q E := by
  refine w_of (ev_lc p f h hi sz (fun x hx => ?_) hc) q
  obtain ⟨sl1, h1, h2⟩ := st x hx
  refine ⟨sl1, h1, fun acc => ⟨?_, fun hf => ?_⟩⟩
  · obtain ⟨b, C', e, rfl, rfl⟩ := w_out (h2 acc).1
    exact e
  · obtain ⟨b, C', e, rfl, rfl⟩ := w_out ((h2 acc).2 hf)
    exact e
theorem fnl_p {n : Nat} {Q : D → Store → Prop} {E : Exc → Store → Prop} {d : D} {C : Store} (hc : cb 0 d = true) (h : Q d (C.take n)) : fnl n Q E (.rt d C) :=
  fnl_d (fun i e => by subst e; simp [cb] at hc) (cb_mono (Nat.zero_le _) hc) h
/-- a list of cells' store that has one cell more -/
theorem take_app {C Y : Store} {n : Nat} (h : C.length = n) : (C ++ Y).take n = C := by subst h; simp
theorem wo_tupL {xs : List D} {C : Store} {Q : D → Store → Prop} (h : Q (.tup xs) C) : wO (oTupOf [.lst xs] C) Q := wo_of rfl h
theorem wo_tupT {xs : List D} {C : Store} {Q : D → Store → Prop} (h : Q (.tup xs) C) : wO (oTupOf [.tup xs] C) Q := wo_of rfl h
theorem wo_tupC {xs : List D} {C : Store} {Q : D → Store → Prop} {i : Nat} (e : C[i]? = some (some (.lst xs))) (h : Q (.tup xs) C) : wO (oTupOf [.cell i] C) Q := wo_of (by simp [oTupOf, vL, e]) h
theorem wo_catF {xs ys : List D} {C : Store} {Q : D → Store → Prop} (e : xs.length + ys.length ≤ 16777216) (h : Q (.lst (xs ++ ys)) C) : wO (oCat false (.lst xs) (.lst ys) C) Q := wo_of (by simp [oCat, vL, szN, e, mkL]) h
theorem get_new {C Y : Store} {c : Option Cell} : (C ++ c :: Y)[C.length]? = some c := by simp
/-! ### writing -/
theorem w_setL {me mo mi : ME} {fl : Nat} {sl : List (Option D)} {C : Store} {P : RS → Prop} (h : wR (me ⟨fl, sl⟩ C) (fun v C1 => wR (mo ⟨fl, sl⟩ C1) (fun o C2 => wR (mi ⟨fl, sl⟩ C2) (fun x C3 => ∃ n i ds j C4, x = .int n ∧ cL o C3 = some (i, ds) ∧ ixN ds.length n = some j ∧ wr fl i (.lst (ds.set j v)) C3 = some C4 ∧ P (.nx sl C4)) (fun e C => P (.xc e sl C))) (fun e C => P (.xc e sl C))) (fun e C => P (.xc e sl C))) : wS (sSetL me mo mi ⟨fl, sl⟩ C) P :=
  w_bndS (w_mono h (fun v C1 g => w_bndS (w_mono g (fun o C2 g => w_bndS (w_mono g (fun x C3 g => by
    obtain ⟨n, i, ds, j, C4, rfl, e1, e2, e3, q⟩ := g
    simp only [e1, e2, e3]
    exact ⟨q⟩) fun _ _ z => z)) fun _ _ z => z)) fun _ _ z => z)
theorem wr_hi {fl i : Nat} {c : Cell} {C : Store} (h : fl ≤ i) : wr fl i c C = some (C.set i (some c)) := by
  unfold wr
  rw [if_neg (fun z => by omega)]
theorem w_append {mo me : ME} {F : Fr} {C : Store} {Q : D → Store → Prop} {E : Exc → Store → Prop} (h : wR (mo F C) (fun o C1 => (vL o C1).isSome = true ∧ wR (me F C1) (fun v C2 => ∃ i ds, cL o C2 = some (i, ds) ∧ F.fl ≤ i ∧ ds.length < 16777216 ∧ Q .non (C2.set i (some (.lst (ds ++ [v]))))) E) E) : wR (mAppend mo me F C) Q E := by
  unfold mAppend
  refine w_bnd (w_mono h (fun o C1 g => ?_) fun _ _ z => z)
  rw [if_pos g.1]
  refine w_bnd (w_mono g.2 (fun v C2 g => ?_) fun _ _ z => z)
  obtain ⟨i, ds, e, hi, hz, q⟩ := g
  have hs : szN (ds.length + 1) = true := by simp only [szN, decide_eq_true_eq]; omega
  simp only [e, hs, if_true, wr_hi hi]
  exact w_ok q
end CT
set_option maxHeartbeats 4000000
/-! E6: walks and comprehensions, step by step. -/
namespace CT
open PySem L2
section
variable {E : Exc → Store → Prop} {F : Fr} {C : Store} {P : RS → Prop}
theorem w_forI {mi : MI} {g : MG} {body : MS} {fl : Nat} {sl : List (Option D)} (h : wR (mi ⟨fl, sl⟩ C) (fun it C1 => wS (loopN it g body fl it.n 0 sl C1) P) (fun e C1 => P (.xc e sl C1))) : wS (sFor mi g body ⟨fl, sl⟩ C) P := w_bndS h
theorem w_seqI {m : ME} {Q : ItD → Store → Prop} (h : wR (m F C) (fun d C1 => ∃ it, itS d C1 = some it ∧ Q it C1) E) : wR (mSeq m F C) Q E :=
  w_bnd (w_mono h (fun d C1 g => by obtain ⟨it, e, q⟩ := g; simp only [e]; exact w_ok q) fun _ _ z => z)
theorem w_enum {m : ME} {Q : ItD → Store → Prop} (h : wR (m F C) (fun d C1 => ∃ it, itS d C1 = some it ∧ Q (prI it) C1) E) : wR (mEnum m F C) Q E :=
  w_bnd (w_mono h (fun d C1 g => by obtain ⟨it, e, q⟩ := g; simp only [e]; exact w_ok q) fun _ _ z => z)
theorem w_itL {xs : List D} {q : ItD → Prop} (h : q (itC xs)) : ∃ it, itS (.lst xs) C = some it ∧ q it := ⟨_, rfl, h⟩
theorem w_itT {xs : List D} {q : ItD → Prop} (h : q (itC xs)) : ∃ it, itS (.tup xs) C = some it ∧ q it := ⟨_, rfl, h⟩
theorem w_itK {xs : List D} {q : ItD → Prop} (h : q (itC xs)) : ∃ it, itS (.kt xs) C = some it ∧ q it := ⟨_, rfl, h⟩
theorem w_rng1 {m : ME} {Q : ItD → Store → Prop} (h : wR (m F C) (fun d C1 => ∃ j, d = .int j ∧ inR j = true ∧ Q (itR 0 j.toNat) C1) E) : wR (mRng1 m F C) Q E :=
  w_bnd (w_mono h (fun d C1 g => by obtain ⟨j, rfl, e, q⟩ := g; simp only [e, if_true]; exact w_ok q) fun _ _ z => z)
theorem w_rng2 {m m2 : ME} {Q : ItD → Store → Prop} (h : wR (m F C) (fun d C1 => wR (m2 F C1) (fun e C2 => ∃ i j, d = .int i ∧ e = .int j ∧ inR i = true ∧ inR j = true ∧ Q (itR i (j - i).toNat) C2) E) E) : wR (mRng2 m m2 F C) Q E :=
  w_bnd (w_mono h (fun d C1 g => w_bnd (w_mono g (fun e C2 g => by obtain ⟨i, j, rfl, rfl, e1, e2, q⟩ := g; simp only [e1, e2, Bool.and_self, if_true]; exact w_ok q) fun _ _ z => z)) fun _ _ z => z)
theorem inR_of {j : Int} (h : -1000000000000 ≤ j) (h2 : j ≤ 1000000000000) : inR j = true := by
  have e1 : decide (-(2 ^ 62) ≤ j) = true := decide_eq_true (by omega)
  have e2 : decide (j < 2 ^ 62) = true := decide_eq_true (by omega)
  simp only [inR, e1, e2, Bool.and_self]
theorem loop_p {it : ItD} {xs : List D} (p : PureIt it xs) {g : MG} {body : MS} {fl : Nat} {sl : List (Option D)} (I : Nat → List (Option D) → Store → Prop) (i0 : I 0 sl C)
    (step : ∀ j x sl C, xs[j]? = some x → I j sl C → ∃ sl1, g x sl = some sl1 ∧ wS (body ⟨fl, sl1⟩ C) (lpP I (j + 1) P)) (fin : ∀ sl C, I xs.length sl C → P (.nx sl C)) : wS (loopN it g body fl it.n 0 sl C) P :=
  loop_w (p.on fun _ => True) I (fun _ _ _ _ => trivial) step fin it.n 0 sl C (by rw [p.n]; omega) i0
def lcR (it : ItD) (g : MG) (tt : MT) (te : ME) (vs : List Nat) (F : Fr) (C1 : Store) : R D := mLc false (fun _ C => .ok it C) g tt te vs F C1
theorem w_lcI {mi : MI} {g : MG} {tt : MT} {te : ME} {vs : List Nat} {Q : D → Store → Prop} (h : wR (mi F C) (fun it C1 => wR (lcR it g tt te vs F C1) Q E) E) : wR (mLc false mi g tt te vs F C) Q E := by
  unfold lcR mLc at h
  unfold mLc
  exact w_bnd h
theorem lc_p {it : ItD} {xs : List D} {g : MG} {tt : MT} {te : ME} {vs : List Nat} {Q : D → Store → Prop} (p : PureIt it xs) (f : D → Bool) (h : D → D) (sz : xs.length ≤ 16777215)
    (st : ∀ x ∈ xs, ∃ sl1, g x (wipeD F.sl vs) = some sl1 ∧ ∀ acc, wR (tt ⟨C.length, sl1⟩ (accS C acc)) (fun b C' => b = f x ∧ C' = accS C acc) noX ∧ (f x = true → wR (te ⟨C.length, sl1⟩ (accS C acc)) (fun d C' => d = h x ∧ C' = accS C acc) noX))
    (hc : ∀ x ∈ xs, f x = true → cb C.length (h x) = true) (q : Q (.lst ((xs.filter f).map h)) C) : wR (lcR it g tt te vs F C) Q E := w_lcP rfl p f h sz st hc q
/-- a comprehension that draws from the cell b and keeps all else; R tells of each item -/
theorem lc_d {it : ItD} {xs : List D} {g : MG} {te : ME} {vs : List Nat} {Q : D → Store → Prop} (p : PureIt it xs) (B : Store → Prop) (Rel : D → D → Prop) (sz : xs.length ≤ 16777215) (b0 : B C)
    (hb : ∀ x d n, x ∈ xs → Rel x d → cb n d = true)
    (st : ∀ x ∈ xs, ∃ sl1, g x (wipeD F.sl vs) = some sl1 ∧ ∀ C' acc, B C' → C'.length = C.length → wR (te ⟨C.length, sl1⟩ (accS C' acc)) (fun d S => ∃ C'', S = accS C'' acc ∧ B C'' ∧ C''.length = C.length ∧ Rel x d) noX)
    (q : ∀ (ys : List D) (C' : Store), ys.length = xs.length → (∀ (j : Nat) (x y : D), xs[j]? = some x → ys[j]? = some y → Rel x y) → B C' → C'.length = C.length → Q (.lst ys) C') : wR (lcR it g tYesM te vs F C) Q E := by
  refine w_lc (mi := fun _ C => .ok it C) rfl (p.on fun _ => True) (fun j acc S => ∃ C', S = accS C' acc ∧ B C' ∧ C'.length = C.length ∧ acc.length = j ∧ j ≤ xs.length ∧ ∀ (k : Nat) (x y : D), xs[k]? = some x → acc[k]? = some y → Rel x y) (fun _ _ _ _ => trivial)
    (fun j acc S h => by obtain ⟨_, _, _, _, e, e2, _⟩ := h; omega) ⟨C, rfl, b0, rfl, rfl, Nat.zero_le _, by simp⟩ (fun j x acc S hx hc h => ?_) (fun acc S hc h => ?_)
  · obtain ⟨C', rfl, b, l, hl, hj, hr⟩ := h
    obtain ⟨sl1, e, s⟩ := st x (List.mem_of_getElem? hx)
    have hjl : j < xs.length := (List.getElem?_eq_some_iff.mp hx).1
    refine ⟨sl1, e, w_yes (wI_t (w_mono (s C' acc b l) (fun d S g => ?_) fun _ _ z => z))⟩
    obtain ⟨C'', rfl, b2, l2, r⟩ := g
    refine ⟨acc, by rw [← l2]; exact get_new, by omega, ⟨C'', by simp [accS, ← l2], b2, l2, by simp [hl], by omega, fun k x' y hk hy => ?_⟩, by simp [accS, l2]⟩
    by_cases hkj : k < acc.length
    · rw [List.getElem?_append_left hkj] at hy
      exact hr k x' y hk hy
    · have hk2 : k < (acc ++ [d]).length := (List.getElem?_eq_some_iff.mp hy).1
      have : k = acc.length := by simp at hk2; omega
      subst this
      rw [hl, hx] at hk
      cases hk
      simp at hy
      subst hy
      exact r
  · obtain ⟨C', rfl, b, l, hl, hj, hr⟩ := h
    have tk : (accS C' acc).take C.length = C' := by rw [← l]; simp [accS]
    refine ⟨?_, ?_⟩
    · have : ∀ (l : List D), (∀ d ∈ l, cb C.length d = true) → cbL C.length l = true := by
        intro l
        induction l with
        | nil => intro _; rfl
        | cons d l ih => intro hl; simp only [cbL, hl d (List.mem_cons_self ..), ih fun x hx => hl x (List.mem_cons_of_mem _ hx), Bool.and_self]
      refine this acc fun d hd => ?_
      obtain ⟨k, hk, rfl⟩ := List.getElem_of_mem hd
      have hkx : k < xs.length := by omega
      exact hb xs[k] acc[k] _ (List.getElem_mem hkx) (hr k _ _ (List.getElem?_eq_getElem hkx) (List.getElem?_eq_getElem hk))
    · rw [tk]
      exact q acc C' hl hr b l
end
end CT
set_option maxHeartbeats 4000000
/-! M22: the bag. -/
namespace CL
open PySem L2 CT
theorem filter_yes {α : Type} (l : List α) : l.filter (fun _ => true) = l := List.filter_eq_self.mpr fun _ _ => rfl
def absD : D → D
  | .int i => .int (i.natAbs : Int)
  | _ => .non
theorem bag_ok (ns : List Int) (hl : ns.length ≤ 63) : ∃ cs : List Int, (∀ c ∈ cs, 0 ≤ c) ∧ m_law_bag [scrD ns] [] = .ok (.cell 0) [some (bagC 0 1234567891 0 cs)] := by
  obtain ⟨ms, e, hm⟩ : ∃ ms : List Int, cutD (ns.map D.int) none (some 63) = ms.map D.int ∧ ms.length ≤ 63 := by
    refine ⟨(ns.drop (HT.sIx (ns.map D.int).length 0 none)).take (HT.sIx (ns.map D.int).length (ns.map D.int).length (some 63) - HT.sIx (ns.map D.int).length 0 none), ?_, ?_⟩
    · unfold cutD
      rw [List.map_take, List.map_drop]
    · rw [List.length_take, List.length_drop]
      omega
  refine ⟨ms.map fun i => (i.natAbs : Int), fun c hc => ?_, ?_⟩
  · obtain ⟨i, _, rfl⟩ := List.mem_map.mp hc
    omega
  have es : mSlL false (mVar 0) mNoPart (mPart (mC (.int 63))) ⟨0, [some (scrD ns), none]⟩ [] = .ok (.lst (ms.map D.int)) [] := by
    show ofO (some (mkL false (cutD (ns.map D.int) none (some 63)) [])) = _
    rw [e]
    rfl
  have el := ev_lc (pure_C (ms.map D.int)) (mi := mSeq (mSlL false (mVar 0) mNoPart (mPart (mC (.int 63))))) (g := (Tgt.nm 1).M) (tt := tYesM) (te := mAp oAbs (mCons (mVar 1) mNil)) (vs := [1]) (F := ⟨0, [some (scrD ns), none]⟩) (C := []) (fun _ => true) absD
    (ev_seqI (d := .lst (ms.map D.int)) es rfl) (by rw [List.length_map]; omega)
    (fun y hy => by
      obtain ⟨i, _, rfl⟩ := List.mem_map.mp hy
      exact ⟨[some (scrD ns), some (.int i)], by simp, fun acc => ⟨rfl, fun _ => by simp [absD]⟩⟩)
    (fun y hy _ => by
      obtain ⟨i, _, rfl⟩ := List.mem_map.mp hy
      rfl)
  rw [filter_yes, List.map_map] at el
  have eb : b_law_bag ⟨0, [some (scrD ns), none]⟩ [] = .rt (.cell 0) [some (bagC 0 1234567891 0 (ms.map fun i => (i.natAbs : Int)))] := by
    rw [b_law_bag, ev_sret, ev_ap, ev_cons, ev_c, consK_ok, ev_cons, ev_c, consK_ok, ev_cons, ev_c, consK_ok, ev_cons, el, consK_ok, ev_nil, consK2_ok, consK2_ok, consK2_ok, consK2_ok, apK_ok]
    have eo : ∀ x : D, oLst true [.int 0, .int 1234567891, .int 0, x] [] = some (.cell 0, [some (.lst [.int 0, .int 1234567891, .int 0, x])]) := fun x => by simp [oLst, szN, mkL]
    rw [eo, ev_ofO_some, retK_ok, bagC, List.map_map]
    rfl
  have ed : m_law_bag [scrD ns] [] = (match b_law_bag ⟨0, [some (scrD ns), none]⟩ [] with
    | .rt d C' => finO 0 d C'
    | .xc e _ C' => if cbL 0 e.fs = true then .exc e (C'.take 0) else .stuck
    | _ => .stuck) := rfl
  have cI := cbL_ints 0 (ms.map fun i => (i.natAbs : Int))
  rw [List.map_map] at cI
  rw [ed, eb]
  simp [finO, bagC, cbL, cb, cI]
theorem cbL_all {n : Nat} : ∀ {l : List D}, (∀ d ∈ l, cb n d = true) → cbL n l = true
  | [], _ => rfl
  | d :: l, h => by
    show (cb n d && cbL n l) = true
    rw [h d (List.mem_cons_self ..), cbL_all fun x hx => h x (List.mem_cons_of_mem _ hx)]
    rfl
@[simp] theorem dBools_map : ∀ l : List Bool, dBools (l.map D.bl) = some l
  | [] => rfl
  | x :: l => by
    show (dBools (l.map D.bl)).map _ = _
    rw [dBools_map l]
    rfl
@[simp] theorem dInts_map : ∀ l : List Int, dInts (l.map D.int) = some l
  | [] => rfl
  | x :: l => by
    show (dInts (l.map D.int)).map _ = _
    rw [dInts_map l]
    rfl
/-- a bag at i -/
def Bg (i : Nat) (C : Store) : Prop := ∃ cs, (∀ x ∈ cs, 0 ≤ x) ∧ Bag i cs C
/-- the bag alone has changed -/
def To (i : Nat) (C C' : Store) : Prop := ∃ x, C' = C.set i (some x) ∧ Bg i C'
section
variable {i : Nat} {C C' C'' Y Z : Store} {n : Int}
theorem Bg.lt (h : Bg i C) : i < C.length := by
  obtain ⟨cs, _, a, b, c, e, _⟩ := h
  exact (List.getElem?_eq_some_iff.mp e).1
theorem Bg.app (h : Bg i C) (Y : Store) : Bg i (C ++ Y) := by
  have hi := h.lt
  obtain ⟨cs, hcs, a, b, c, e, q⟩ := h
  exact ⟨cs, hcs, a, b, c, by rw [List.getElem?_append_left hi]; exact e, q⟩
theorem Bg.cut (hi : i < C.length) (h : Bg i (C ++ Y)) : Bg i C := by
  obtain ⟨cs, hcs, a, b, c, e, q⟩ := h
  exact ⟨cs, hcs, a, b, c, by rw [List.getElem?_append_left hi] at e; exact e, q⟩
theorem To.bg (h : To i C C') : Bg i C' := by
  obtain ⟨x, _, b⟩ := h
  exact b
theorem To.len (h : To i C C') : C'.length = C.length := by
  obtain ⟨x, rfl, _⟩ := h
  simp
theorem To.trans (h : To i C C') (g : To i C' C'') : To i C C'' := by
  obtain ⟨x, rfl, _⟩ := h
  obtain ⟨y, rfl, b⟩ := g
  exact ⟨y, by simp, b⟩
theorem To.refl (h : Bg i C) : To i C C := by
  obtain ⟨cs, hcs, a, b, c, e, q⟩ := h
  refine ⟨bagC a b c cs, ?_, cs, hcs, a, b, c, e, q⟩
  obtain ⟨h1, h2⟩ := List.getElem?_eq_some_iff.mp e
  have z := List.set_getElem_self (as := C) (i := i) h1
  rw [h2] at z
  exact z.symm
theorem To.cut (hi : i < C.length) (h : To i (C ++ Y) Z) : ∃ C', Z = C' ++ Y ∧ To i C C' := by
  obtain ⟨x, rfl, b⟩ := h
  rw [List.set_append_left _ _ hi] at b ⊢
  exact ⟨_, rfl, x, rfl, b.cut (by simpa using hi)⟩
theorem take_to (hB : Bg i C) (hn : 0 < n) (hn2 : n < 4611686018427387904) (Y : Store) : ∃ r C', m_law_take [.cell i, .int n] (C ++ Y) = .ok (.int r) (C' ++ Y) ∧ 0 ≤ r ∧ r < n ∧ To i C C' := by
  have hi := hB.lt
  obtain ⟨cs, hcs, hB'⟩ := hB.app Y
  obtain ⟨r, x, e, h1, h2, h3⟩ := take_ok hB' hcs hn hn2
  obtain ⟨C', e2, t⟩ := To.cut hi (⟨x, rfl, cs, hcs, h3⟩ : To i (C ++ Y) ((C ++ Y).set i (some x)))
  exact ⟨r, C', by rw [e, e2], h1, h2, t⟩
end
theorem ix_ints {l : List Int} {m : Int} (C : Store) (h0 : 0 ≤ m) (h1 : m < l.length) : ∃ n, n ∈ l ∧ oIx (.lst (l.map .int)) (.int m) C = some (.int n, C) := by
  have h : m.toNat < l.length := by omega
  refine ⟨l[m.toNat], List.getElem_mem h, ?_⟩
  have e : ixN l.length m = some m.toNat := by
    simp [ixN, h0, h1]
  simp [oIx, vS, atI, e, h]
theorem To.get {i j : Nat} {C C' : Store} (h : To i C C') (hj : j ≠ i) : C'[j]? = C[j]? := by
  obtain ⟨x, rfl, _⟩ := h
  rw [List.getElem?_set_ne (Ne.symm hj)]
theorem To.tk {i : Nat} {C C' : Store} (h : To i C C') : C'.take C.length = C' := by
  rw [← h.len, List.take_length]
theorem take_w {i : Nat} {C : Store} {n : Int} {Q : D → Store → Prop} {E : Exc → Store → Prop} (hB : Bg i C) (hn : 0 < n) (hn2 : n < 4611686018427387904) (h : ∀ r C', 0 ≤ r → r < n → To i C C' → Q (.int r) C') : wR (m_law_take [.cell i, .int n] C) Q E := by
  obtain ⟨r, C', e, r0, r1, t⟩ := take_to hB hn hn2 []
  rw [List.append_nil, List.append_nil] at e
  exact w_of e (h r C' r0 r1 t)
theorem cb_of {n : Nat} : ∀ {l : List D} {d : D}, cbL n l = true → d ∈ l → cb n d = true
  | x :: l, d, h, hm => by
    simp only [cbL, Bool.and_eq_true] at h
    rcases List.mem_cons.mp hm with rfl | hm
    · exact h.1
    · exact cb_of h.2 hm
end CL
set_option maxHeartbeats 4000000
namespace CL
open PySem L2 CT
/-! TK3: data that can be shown and compared. -/
mutual
def sm : PyData → Bool
  | .none => true
  | .bool _ => true
  | .int i => decide (i.natAbs < 1000000000000)
  | .list xs => smA xs
  | .tuple xs => smA xs
  | .str _ => false
  | .dict _ => false
def smA : List PyData → Bool
  | [] => true
  | x :: xs => sm x && smA xs
end
mutual
theorem sm_ok : ∀ p : PyData, sm p = true → p.showable = true ∧ p.hasDict = false ∧ p.leavesShort 13 = true
  | .none, _ => ⟨rfl, rfl, rfl⟩
  | .bool _, _ => ⟨rfl, rfl, rfl⟩
  | .int i, h => by
    have h' : i.natAbs < 10 ^ 12 := by simpa [sm] using h
    refine ⟨?_, rfl, ?_⟩
    · show decide (i.natAbs.log2 < 1920) = true
      refine decide_eq_true ?_
      by_cases z : i.natAbs = 0
      · rw [z]
        decide
      · exact (Nat.log2_lt z).mpr (Nat.lt_trans h' (by decide))
    · show decide ((PyData.shown (.int i)).length ≤ 13) = true
      exact decide_eq_true (PyData.shown_int_le h')
  | .list xs, h => by
    have := smA_ok xs (by simpa [sm] using h)
    refine ⟨?_, ?_, ?_⟩
    · simpa [PyData.showable] using this.1
    · simpa [PyData.hasDict] using this.2.1
    · simpa [PyData.leavesShort] using this.2.2
  | .tuple xs, h => by
    have := smA_ok xs (by simpa [sm] using h)
    refine ⟨?_, ?_, ?_⟩
    · simpa [PyData.showable] using this.1
    · simpa [PyData.hasDict] using this.2.1
    · simpa [PyData.leavesShort] using this.2.2
  | .str _, h => by simp [sm] at h
  | .dict _, h => by simp [sm] at h
theorem smA_ok : ∀ xs : List PyData, smA xs = true → PyData.showableAll xs = true ∧ PyData.hasDictAll xs = false ∧ PyData.leavesShortAll 13 xs = true
  | [], _ => ⟨rfl, rfl, rfl⟩
  | x :: xs, h => by
    simp only [smA, Bool.and_eq_true] at h
    obtain ⟨a1, a2, a3⟩ := sm_ok x h.1
    obtain ⟨b1, b2, b3⟩ := smA_ok xs h.2
    simp [PyData.showableAll, PyData.hasDictAll, PyData.leavesShortAll, a1, a2, a3, b1, b2, b3]
end
theorem repr_of {x : D} {C : Store} {p : PyData} (e : toP C x = some p) (h : repOk p = true) : oRepr [x] C = some (.str p.shown, C) := by
  simp [oRepr, e, h]
theorem wt_int {i : Int} (h : i.natAbs < 1000000000000) : (PyData.int i).weight ≤ 40 := by
  simp only [PyData.weight]
  split
  · omega
  · rename_i z
    have z' : i.natAbs ≠ 0 := by
      intro e
      apply z
      have : i = 0 := by omega
      rw [this]
      rfl
    have : i.natAbs.log2 < 40 := (Nat.log2_lt z').mpr (Nat.lt_trans h (by decide))
    omega
structure Gd (w dp : Nat) (x : D) (p : PyData) : Prop where
  tp : ∀ C, toP C x = some p
  cl : p.canLay0 = true
  sh : p.showable = true
  nd : p.hasDict = false
  ls : p.leavesShort 40 = true
  dp : p.depth ≤ dp
  wt : p.weight ≤ w
structure GdL (w dp : Nat) (xs : List D) (ps : List PyData) : Prop where
  tp : ∀ C, toPs C xs = some ps
  cl : PyData.canLayAll0 ps = true
  sh : PyData.showableAll ps = true
  nd : PyData.hasDictAll ps = false
  ls : PyData.leavesShortAll 40 ps = true
  dp : PyData.depthAll ps ≤ dp
  wt : PyData.weightAll ps ≤ xs.length * (w + 1)
  len : ps.length = xs.length
theorem gdl_nil {w dp : Nat} : GdL w dp [] [] := ⟨fun _ => rfl, rfl, rfl, rfl, rfl, by simp [PyData.depthAll], by simp [PyData.weightAll], rfl⟩
theorem gdl_cons {w dp : Nat} {x : D} {p : PyData} {xs : List D} {ps : List PyData} (h : Gd w dp x p) (t : GdL w dp xs ps) : GdL w dp (x :: xs) (p :: ps) := by
  refine ⟨fun C => ?_, ?_, ?_, ?_, ?_, ?_, ?_, ?_⟩
  · simp only [toPs, h.tp, t.tp]
  · simp [PyData.canLayAll0, h.cl, t.cl]
  · simp [PyData.showableAll, h.sh, t.sh]
  · simp [PyData.hasDictAll, h.nd, t.nd]
  · simp [PyData.leavesShortAll, h.ls, t.ls]
  · have h1 := h.dp
    have h2 := t.dp
    simp only [PyData.depthAll]
    omega
  · have h1 := h.wt
    have h2 := t.wt
    simp only [PyData.weightAll, List.length_cons, Nat.succ_mul]
    omega
  · simp [t.len]
theorem gdl_all {w dp : Nat} : ∀ {xs : List D}, (∀ x ∈ xs, ∃ p, Gd w dp x p) → ∃ ps, GdL w dp xs ps
  | [], _ => ⟨[], gdl_nil⟩
  | x :: xs, h => by
    obtain ⟨p, hp⟩ := h x (List.mem_cons_self ..)
    obtain ⟨ps, ht⟩ := gdl_all fun y hy => h y (List.mem_cons_of_mem _ hy)
    exact ⟨p :: ps, gdl_cons hp ht⟩
theorem gd_tup {w dp n : Nat} {xs : List D} {ps : List PyData} (h : GdL w dp xs ps) (hn : xs.length ≤ n) : Gd (n * (w + 1)) (dp + 1) (.tup xs) (.tuple ps) := by
  refine ⟨fun C => ?_, ?_, ?_, ?_, ?_, ?_, ?_⟩
  · simp only [toP, h.tp, Option.map_some]
  · simpa [PyData.canLay0] using h.cl
  · simpa [PyData.showable] using h.sh
  · simpa [PyData.hasDict] using h.nd
  · simpa [PyData.leavesShort] using h.ls
  · have := h.dp
    simp only [PyData.depth]
    omega
  · have := h.wt
    have z : xs.length * (w + 1) ≤ n * (w + 1) := Nat.mul_le_mul_right _ hn
    simp only [PyData.weight]
    omega
theorem gd_lst {w dp n : Nat} {xs : List D} {ps : List PyData} (h : GdL w dp xs ps) (hn : xs.length ≤ n) : Gd (n * (w + 1)) (dp + 1) (.lst xs) (.list ps) := by
  refine ⟨fun C => ?_, ?_, ?_, ?_, ?_, ?_, ?_⟩
  · simp only [toP, h.tp, Option.map_some]
  · simpa [PyData.canLay0] using h.cl
  · simpa [PyData.showable] using h.sh
  · simpa [PyData.hasDict] using h.nd
  · simpa [PyData.leavesShort] using h.ls
  · have := h.dp
    simp only [PyData.depth]
    omega
  · have := h.wt
    have z : xs.length * (w + 1) ≤ n * (w + 1) := Nat.mul_le_mul_right _ hn
    simp only [PyData.weight]
    omega
theorem Gd.mono {w w' dp dp' : Nat} {x : D} {p : PyData} (h : Gd w dp x p) (hw : w ≤ w') (hd : dp ≤ dp') : Gd w' dp' x p := ⟨h.tp, h.cl, h.sh, h.nd, h.ls, Nat.le_trans h.dp hd, Nat.le_trans h.wt hw⟩
theorem Gd.ok {w dp : Nat} {x : D} {p : PyData} (h : Gd w dp x p) (hw : w ≤ 300000) (hd : dp ≤ 60) : repOk p = true := by
  have h4 := PyData.shown_le 40 (by decide) p h.ls
  have h5 := h.wt
  have h6 := h.dp
  have hz : p.shown.length ≤ 16777216 := by omega
  have hd' : p.depth ≤ 60 := by omega
  simp [repOk, h.sh, h.nd, hd', szN, hz]
theorem Gd.repr {w dp : Nat} {x : D} {p : PyData} (h : Gd w dp x p) (hw : w ≤ 300000) (hd : dp ≤ 60) (C : Store) : oRepr [x] C = some (.str p.shown, C) := repr_of (h.tp C) (h.ok hw hd)
theorem gd_non : Gd 0 0 .non .none := ⟨fun _ => rfl, rfl, rfl, rfl, rfl, by simp [PyData.depth], by simp [PyData.weight]⟩
theorem gd_bl (b : Bool) : Gd 0 0 (.bl b) (.bool b) := ⟨fun _ => rfl, rfl, rfl, rfl, rfl, by simp [PyData.depth], by simp [PyData.weight]⟩
theorem gd_int {i : Int} (h : i.natAbs < 1000000000000) : Gd 40 0 (.int i) (.int i) := by
  have h1 := sm_ok (.int i) (by simpa [sm] using h)
  have h' : i.natAbs < 10 ^ 12 := h
  refine ⟨fun _ => rfl, rfl, h1.1, rfl, ?_, by simp [PyData.depth], wt_int h⟩
  have := PyData.shown_int_le h'
  simp only [PyData.leavesShort, decide_eq_true_eq]
  omega
end CL
set_option maxHeartbeats 4000000
namespace CL
open PySem L2 CT
local macro_rules | `(tactic| walk_at "w") => `(tactic| first | ((with_reducible apply gR); first | with_reducible refine w_var rfl ?_ | with_reducible apply w_cons | with_reducible apply w_c | with_reducible apply w_nil | with_reducible apply w_op | with_reducible apply w_ap | with_reducible apply w_call | with_reducible apply w_tst | with_reducible apply w_un | with_reducible apply w_tand | with_reducible apply w_tor | with_reducible apply w_tnot | with_reducible apply w_yes | with_reducible apply w_and | with_reducible apply w_or | with_reducible apply w_not | with_reducible apply w_if | with_reducible apply w_chain | with_reducible apply w_isi | with_reducible apply w_isi2 | with_reducible apply w_prop | with_reducible apply w_meth | with_reducible apply w_dget | with_reducible apply w_dnewF | with_reducible apply w_dnewT | with_reducible apply w_part | with_reducible apply w_noPart | with_reducible apply w_slLF | with_reducible apply w_slA | with_reducible apply w_ok | with_reducible apply w_ofO | with_reducible apply w_lcI | with_reducible apply w_seqI | with_reducible apply w_rng1 | with_reducible apply w_rng2 | with_reducible apply w_enum) | ((with_reducible apply gO); first | with_reducible apply wo_add | with_reducible apply wo_sub | with_reducible apply wo_lt | with_reducible apply wo_gt | with_reducible apply wo_eq | with_reducible apply wo_ne | with_reducible apply wo_le | with_reducible apply wo_ge | with_reducible apply wo_neg | with_reducible apply wo_eqS | with_reducible apply wo_neS | with_reducible apply wo_min | with_reducible apply wo_max | with_reducible apply wo_int | with_reducible apply wo_abs | with_reducible apply wo_tupL | with_reducible apply wo_tupT | with_reducible refine wo_tup (by with_unfolding_all rfl) ?_ | with_reducible refine wo_lstF (by with_unfolding_all rfl) ?_ | with_reducible refine wo_lstT (by with_unfolding_all rfl) ?_ | with_reducible apply wo_fld0 | with_reducible apply wo_fld1 | with_reducible apply wo_fld2) | ((with_reducible apply gS); first | with_reducible apply w_seq | with_reducible apply w_asg | with_reducible apply w_sif | with_reducible apply w_next | with_reducible apply w_ret | with_reducible apply w_par | with_reducible apply w_drop | with_reducible apply w_asgT | with_reducible apply w_retN | with_reducible apply w_brk | with_reducible apply w_cnt | with_reducible apply w_raise | with_reducible apply w_forI) | ((with_reducible apply gI); first | with_reducible apply wI_t | with_reducible apply wI_f | with_reducible apply wI_not) | with_reducible apply w_bl | with_reducible apply thn_nx | with_reducible apply w_int | with_reducible apply w_obj | with_reducible apply thn_rt | with_reducible apply lp_nx | with_reducible apply fnl_int | with_reducible apply fnl_bl | with_reducible apply fnl_non | with_reducible apply fnl_str | with_reducible apply fnl_nx | with_reducible apply thn_bk | with_reducible apply thn_ct | with_reducible apply thn_xc | with_reducible apply lp_rt | with_reducible apply lp_bk | with_reducible apply lp_xc | with_reducible apply w_itL | with_reducible apply w_itT | with_reducible apply w_itK)
local macro_rules | `(tactic| walk_at "p") => `(tactic| repeat walk_at "w")
/-! S2: runs as data; merged. -/
def le2 (p q : Int × Int) : Bool := decide (p.1 < q.1 ∨ (p.1 = q.1 ∧ p.2 ≤ q.2))
theorem le2_trans (a b c : Int × Int) (h1 : le2 a b = true) (h2 : le2 b c = true) : le2 a c = true := by
  simp only [le2, decide_eq_true_eq] at *
  omega
theorem le2_total (a b : Int × Int) : (le2 a b || le2 b a) = true := by
  simp only [le2, Bool.or_eq_true, decide_eq_true_eq]
  omega
def rD (r : Rn) : D := .tup [.int r.1, .int r.2]
def rsD (l : List Rn) : List D := l.map rD
def rP (r : Rn) : PyData := .tuple [.int r.1, .int r.2]
def rsP (l : List Rn) : List PyData := l.map rP
@[simp] theorem rsD_len (l : List Rn) : (rsD l).length = l.length := by simp [rsD]
theorem toPs_rs (C : Store) : ∀ l, toPs C (rsD l) = some (rsP l)
  | [] => rfl
  | r :: l => by
    have e := toPs_rs C l
    show (match toP C (rD r), toPs C (rsD l) with | some p, some ps => some (p :: ps) | _, _ => none) = _
    rw [e]
    rfl
theorem toP0s_rs : ∀ l, toP0s (rsD l) = some (rsP l)
  | [] => rfl
  | r :: l => by
    have e := toP0s_rs l
    show (match toP0 (rD r), toP0s (rsD l) with | some p, some ps => some (p :: ps) | _, _ => none) = _
    rw [e]
    rfl
theorem toP_tup (C : Store) (l : List Rn) : toP C (.tup (rsD l)) = some (.tuple (rsP l)) := by simp [toP, toPs_rs]
theorem toP_lst (C : Store) (l : List Rn) : toP C (.lst (rsD l)) = some (.list (rsP l)) := by simp [toP, toPs_rs]
theorem toP_cell {C : Store} {i : Nat} {l : List Rn} (h : C[i]? = some (some (.lst (rsD l)))) : toP C (.cell i) = some (.list (rsP l)) := by simp [toP, h, toP0s_rs]
theorem eqv_rs : ∀ a b : List Rn, PyData.eqvAll (rsP a) (rsP b) = decide (a = b)
  | [], [] => rfl
  | [], _ :: _ => rfl
  | _ :: _, [] => rfl
  | x :: a, y :: b => by
    have e := eqv_rs a b
    show (PyData.eqv (rP x) (rP y) && PyData.eqvAll (rsP a) (rsP b)) = _
    rw [e, Bool.eq_iff_iff]
    obtain ⟨x1, x2⟩ := x
    obtain ⟨y1, y2⟩ := y
    simp [PyData.eqv, PyData.eqvAll, rP]
theorem lay_rs : ∀ l : List Rn, PyData.canLayAll0 (rsP l) = true
  | [] => rfl
  | r :: l => by
    have e := lay_rs l
    show (PyData.canLay0 (rP r) && PyData.canLayAll0 (rsP l)) = true
    rw [e]
    rfl
theorem dep_rs : ∀ l : List Rn, PyData.depthAll (rsP l) ≤ 1
  | [] => by simp [rsP, PyData.depthAll]
  | r :: l => by
    have e := dep_rs l
    have e1 : (rP r).depth = 1 := rfl
    show max (rP r).depth (PyData.depthAll (rsP l)) ≤ 1
    omega
theorem shp_t (l : List Rn) : SeqAt.shaped (.tuple (rsP l)) = true := by
  have := dep_rs l
  have h : PyData.depthAll (rsP l) + 1 ≤ 64 := by omega
  simp [SeqAt.shaped, PyData.canLay0, lay_rs, PyData.depth, h]
theorem shp_l (l : List Rn) : SeqAt.shaped (.list (rsP l)) = true := by
  have := dep_rs l
  have h : PyData.depthAll (rsP l) + 1 ≤ 64 := by omega
  simp [SeqAt.shaped, PyData.canLay0, lay_rs, PyData.depth, h]
theorem ne_cell {C : Store} {i : Nat} {l : List Rn} (h : C[i]? = some (some (.lst (rsD l)))) : oEqA true (.cell i) (.lst []) C = some (.bl (!decide (l = [])), C) := by
  show oEqD true (.cell i) (.lst (rsD [])) C = _
  simp only [oEqD, toP_cell h, toP_lst, shp_l, PyData.eqv, eqv_rs, Bool.and_self, if_true]
def hvP (E O : List Rn) : PyData := .tuple [.tuple (rsP E), .tuple (rsP O)]
def hvD (E O : List Rn) : D := .tup [.tup (rsD E), .tup (rsD O)]
theorem toP_hv (C : Store) (E O : List Rn) : toP C (hvD E O) = some (hvP E O) := by
  have e1 := toP_tup C E
  have e2 := toP_tup C O
  simp [hvD, hvP, toP, toPs] at e1 e2 ⊢
  rw [toPs_rs, toPs_rs]
  rfl
theorem shp_hv (E O : List Rn) : SeqAt.shaped (hvP E O) = true := by
  have h1 := dep_rs E
  have h2 := dep_rs O
  have h : max (PyData.depthAll (rsP E) + 1) (PyData.depthAll (rsP O) + 1) + 1 ≤ 64 := by omega
  simp [hvP, SeqAt.shaped, PyData.canLay0, PyData.canLayAll0, lay_rs, PyData.depth, PyData.depthAll]
  omega
theorem eq_hv (E O E' O' : List Rn) (C : Store) : oEqA false (hvD E O) (hvD E' O') C = some (.bl (decide (E = E' ∧ O = O')), C) := by
  show oEqD false (hvD E O) (hvD E' O') C = _
  simp only [oEqD, toP_hv, shp_hv, Bool.and_self, if_true]
  have e : PyData.eqv (hvP E O) (hvP E' O') = decide (E = E' ∧ O = O') := by
    simp [hvP, PyData.eqv, PyData.eqvAll, eqv_rs]
  rw [e]
  rfl
def srt (l : List Rn) : List Rn := l.mergeSort le2
theorem le2_enc (C : Store) (p q : Rn) : PySem.W.dataLe false (encD C) (rD p) (rD q) = le2 p q := by
  have e := congrFun (congrFun (PySem.W.dataLe_ii (fun b : Int × Int => b.1) (fun b => b.2)) p) q
  exact e
theorem srtb_rs (l : List Rn) (C : Store) : srtb ((rsD l).map (encD C)) = true := by
  have e : ∀ p ∈ (rsD l).map (encD C), ∃ a b : Int, p = .tuple [.int a, .int b] := fun p hp => by
    obtain ⟨k, hk, rfl⟩ := List.mem_map.mp hp
    obtain ⟨q, _, rfl⟩ := List.mem_map.mp hk
    exact ⟨q.1, q.2, rfl⟩
  simp only [srtb, Bool.and_eq_true, Bool.or_eq_true, List.all_eq_true]
  refine ⟨fun x hx y hy => ?_, .inl fun x hx => ?_⟩
  · obtain ⟨a, b, rfl⟩ := e x hx
    obtain ⟨a', b', rfl⟩ := e y hy
    simp [PySem.W.alike, PySem.W.alikeAll]
  · obtain ⟨a, b, rfl⟩ := e x hx
    rfl
theorem all_rs (l : List Rn) (C : Store) : ((rsD l).all fun d => (toP C d).isSome && decide ((encD C d).depth ≤ 60)) = true := by
  simp only [List.all_eq_true]
  intro d hd
  obtain ⟨q, _, rfl⟩ := List.mem_map.mp hd
  have e1 : toP C (rD q) = some (rP q) := rfl
  have e2 : encD C (rD q) = rP q := rfl
  have e3 : (rP q).depth = 1 := rfl
  rw [e1, e2, e3]
  rfl
theorem sort_map (l : List Rn) (C : Store) : (rsD l).mergeSort (PySem.W.dataLe false (encD C)) = rsD (srt l) :=
  (List.map_mergeSort (r := le2) (s := PySem.W.dataLe false (encD C)) (f := rD) (l := l) (fun a _ b _ => (le2_enc C a b).symm)).symm
theorem sortQ_t (l : List Rn) (C : Store) : oSortQ false [.tup (rsD l)] C = some (.lst (rsD (srt l)), C) := by
  show (if (((rsD l).all fun d => (toP C d).isSome && decide ((encD C d).depth ≤ 60)) && srtb ((rsD l).map (encD C))) = true then some (mkL false ((rsD l).mergeSort (PySem.W.dataLe false (encD C))) C) else none) = _
  rw [all_rs, srtb_rs, sort_map]
  rfl
theorem sortQ_l (l : List Rn) (C : Store) : oSortQ false [.lst (rsD l)] C = some (.lst (rsD (srt l)), C) := by
  show (if (((rsD l).all fun d => (toP C d).isSome && decide ((encD C d).depth ≤ 60)) && srtb ((rsD l).map (encD C))) = true then some (mkL false ((rsD l).mergeSort (PySem.W.dataLe false (encD C))) C) else none) = _
  rw [all_rs, srtb_rs, sort_map]
  rfl
theorem srt_mem {l : List Rn} {r : Rn} : r ∈ srt l ↔ r ∈ l := List.mem_mergeSort
theorem srt_up (l : List Rn) : (srt l).Pairwise (fun r s => r.1 ≤ s.1) := (List.pairwise_mergeSort le2_trans le2_total l).imp fun {a b} h => by simp only [le2, decide_eq_true_eq] at h; omega
theorem srt_len (l : List Rn) : (srt l).length = l.length := List.length_mergeSort l
/-- merged -/
def mgd (l : List Rn) : List Rn := (srt l).foldl mstep []
theorem mgd_ok {p : Int} {l : List Rn} (h : ∀ r ∈ l, RunOk p r) : Canon p (mgd l) ∧ ∀ x, x % 2 = p → (mR (mgd l) x ↔ mR l x) := by
  obtain ⟨h1, h2⟩ := fold_ok (l := srt l) (canon_nil p) (fun r hr => h r (srt_mem.mp hr)) (srt_up l) (by simp)
  refine ⟨h1, fun x hx => ?_⟩
  rw [mgd, h2 x hx]
  constructor
  · rintro (z | ⟨r, hr, z⟩)
    · exact absurd z (mR_nil _)
    · exact ⟨r, srt_mem.mp hr, z⟩
  · rintro ⟨r, hr, z⟩
    exact .inr ⟨r, srt_mem.mpr hr, z⟩
theorem fold_take {α β : Type} {f : β → α → β} {l : List α} {b : β} {j : Nat} {x : α} (h : l[j]? = some x) : (l.take (j + 1)).foldl f b = f ((l.take j).foldl f b) x := by
  obtain ⟨hj, e⟩ := List.getElem?_eq_some_iff.mp h
  rw [← List.take_append_getElem hj, e, List.foldl_append]
  rfl
theorem rs_get {l : List Rn} {j : Nat} {y : D} (h : (rsD l)[j]? = some y) : ∃ r, l[j]? = some r ∧ y = rD r := by
  rw [rsD, List.getElem?_map] at h
  obtain ⟨r, h1, h2⟩ := Option.map_eq_some_iff.mp h
  exact ⟨r, h1, h2.symm⟩
theorem wo_last {C : Store} {i : Nat} {l : List Rn} {q : Rn} {Q : D → Store → Prop} (hC : C[i]? = some (some (.lst (rsD l)))) (hl : l.getLast? = some q) (h : Q (rD q) C) : wO (oIx (.cell i) (.int (-1)) C) Q := by
  have hs := last_split hl
  refine wo_of (C' := C) (d := rD q) ?_ h
  have e : ixN (rsD l).length (-1) = some (l.length - 1) := by
    have : 0 < l.length := by rw [hs]; simp
    rw [rsD_len]
    unfold ixN
    rw [if_neg (by omega), if_pos (by omega)]
    congr 1
    omega
  have e2 : (rsD l)[l.length - 1]? = some (rD q) := by
    rw [rsD, List.getElem?_map, ← List.getLast?_eq_getElem?, hl]
    rfl
  simp only [oIx, vS, hC, Option.bind_some, atI, e, e2, Option.map_some]
end CL
set_option maxHeartbeats 4000000
namespace CL
open PySem L2 CT
local macro_rules | `(tactic| walk_at "w") => `(tactic| first | ((with_reducible apply gR); first | with_reducible refine w_var rfl ?_ | with_reducible apply w_cons | with_reducible apply w_c | with_reducible apply w_nil | with_reducible apply w_op | with_reducible apply w_ap | with_reducible apply w_call | with_reducible apply w_tst | with_reducible apply w_un | with_reducible apply w_tand | with_reducible apply w_tor | with_reducible apply w_tnot | with_reducible apply w_yes | with_reducible apply w_and | with_reducible apply w_or | with_reducible apply w_not | with_reducible apply w_if | with_reducible apply w_chain | with_reducible apply w_isi | with_reducible apply w_isi2 | with_reducible apply w_prop | with_reducible apply w_meth | with_reducible apply w_dget | with_reducible apply w_dnewF | with_reducible apply w_dnewT | with_reducible apply w_part | with_reducible apply w_noPart | with_reducible apply w_slLF | with_reducible apply w_slA | with_reducible apply w_ok | with_reducible apply w_ofO | with_reducible apply w_lcI | with_reducible apply w_seqI | with_reducible apply w_rng1 | with_reducible apply w_rng2 | with_reducible apply w_enum) | ((with_reducible apply gO); first | with_reducible apply wo_add | with_reducible apply wo_sub | with_reducible apply wo_lt | with_reducible apply wo_gt | with_reducible apply wo_eq | with_reducible apply wo_ne | with_reducible apply wo_le | with_reducible apply wo_ge | with_reducible apply wo_neg | with_reducible apply wo_eqS | with_reducible apply wo_neS | with_reducible apply wo_min | with_reducible apply wo_max | with_reducible apply wo_int | with_reducible apply wo_abs | with_reducible apply wo_tupL | with_reducible apply wo_tupT | with_reducible refine wo_tup (by with_unfolding_all rfl) ?_ | with_reducible refine wo_lstF (by with_unfolding_all rfl) ?_ | with_reducible refine wo_lstT (by with_unfolding_all rfl) ?_ | with_reducible apply wo_fld0 | with_reducible apply wo_fld1 | with_reducible apply wo_fld2) | ((with_reducible apply gS); first | with_reducible apply w_seq | with_reducible apply w_asg | with_reducible apply w_sif | with_reducible apply w_next | with_reducible apply w_ret | with_reducible apply w_par | with_reducible apply w_drop | with_reducible apply w_asgT | with_reducible apply w_retN | with_reducible apply w_brk | with_reducible apply w_cnt | with_reducible apply w_raise | with_reducible apply w_forI) | ((with_reducible apply gI); first | with_reducible apply wI_t | with_reducible apply wI_f | with_reducible apply wI_not) | with_reducible apply w_bl | with_reducible apply thn_nx | with_reducible apply w_int | with_reducible apply w_obj | with_reducible apply thn_rt | with_reducible apply lp_nx | with_reducible apply fnl_int | with_reducible apply fnl_bl | with_reducible apply fnl_non | with_reducible apply fnl_str | with_reducible apply fnl_nx | with_reducible apply thn_bk | with_reducible apply thn_ct | with_reducible apply thn_xc | with_reducible apply lp_rt | with_reducible apply lp_bk | with_reducible apply lp_xc | with_reducible apply w_itL | with_reducible apply w_itT | with_reducible apply w_itK)
local macro_rules | `(tactic| walk_at "p") => `(tactic| repeat walk_at "w")
local macro_rules | `(tactic| walk_at "w") => `(tactic| first | ((with_reducible apply gR); first | with_reducible refine w_var rfl ?_ | with_reducible apply w_cons | with_reducible apply w_c | with_reducible apply w_nil | with_reducible apply w_op | with_reducible apply w_ap | with_reducible apply w_call | with_reducible apply w_tst | with_reducible apply w_un | with_reducible apply w_tand | with_reducible apply w_tor | with_reducible apply w_tnot | with_reducible apply w_yes | with_reducible apply w_and | with_reducible apply w_or | with_reducible apply w_not | with_reducible apply w_if | with_reducible apply w_chain | with_reducible apply w_isi | with_reducible apply w_isi2 | with_reducible apply w_prop | with_reducible apply w_meth | with_reducible apply w_dget | with_reducible apply w_dnewF | with_reducible apply w_dnewT | with_reducible apply w_part | with_reducible apply w_noPart | with_reducible apply w_slLF | with_reducible apply w_slA | with_reducible apply w_ok | with_reducible apply w_ofO | with_reducible apply w_lcI | with_reducible apply w_seqI | with_reducible apply w_rng1 | with_reducible apply w_rng2 | with_reducible apply w_enum) | ((with_reducible apply gO); first | with_reducible apply wo_add | with_reducible apply wo_sub | with_reducible apply wo_lt | with_reducible apply wo_gt | with_reducible apply wo_eq | with_reducible apply wo_ne | with_reducible apply wo_le | with_reducible apply wo_ge | with_reducible apply wo_neg | with_reducible apply wo_eqS | with_reducible apply wo_neS | with_reducible apply wo_min | with_reducible apply wo_max | with_reducible apply wo_int | with_reducible apply wo_abs | with_reducible apply wo_tupL | with_reducible apply wo_tupT | with_reducible refine wo_tup (by with_unfolding_all rfl) ?_ | with_reducible refine wo_lstF (by with_unfolding_all rfl) ?_ | with_reducible refine wo_lstT (by with_unfolding_all rfl) ?_ | with_reducible apply wo_fld0 | with_reducible apply wo_fld1 | with_reducible apply wo_fld2) | ((with_reducible apply gS); first | with_reducible apply w_seq | with_reducible apply w_asg | with_reducible apply w_sif | with_reducible apply w_next | with_reducible apply w_ret | with_reducible apply w_par | with_reducible apply w_drop | with_reducible apply w_asgT | with_reducible apply w_retN | with_reducible apply w_brk | with_reducible apply w_cnt | with_reducible apply w_raise | with_reducible apply w_forI) | ((with_reducible apply gI); first | with_reducible apply wI_t | with_reducible apply wI_f | with_reducible apply wI_not) | with_reducible apply w_bl | with_reducible apply thn_nx | with_reducible apply w_int | with_reducible apply w_obj | with_reducible apply thn_rt | with_reducible apply lp_nx | with_reducible apply fnl_int | with_reducible apply fnl_bl | with_reducible apply fnl_non | with_reducible apply fnl_str | with_reducible apply fnl_nx | with_reducible apply thn_bk | with_reducible apply thn_ct | with_reducible apply thn_xc | with_reducible apply lp_rt | with_reducible apply lp_bk | with_reducible apply lp_xc | with_reducible apply w_itL | with_reducible apply w_itT | with_reducible apply w_itK)
local macro_rules | `(tactic| walk_at "p") => `(tactic| repeat walk_at "w")
/-! S3: merged, common, rest, walked. -/
section
variable {C : Store} {l : List Rn} {x : D}
theorem last_nil {l : List Rn} (h : l ≠ []) : ∃ q, l.getLast? = some q := ⟨l.getLast h, List.getLast?_eq_some_getLast h⟩
theorem set_last {l : List Rn} {q r : Rn} (h : l.getLast? = some q) : (rsD l).set (l.length - 1) (rD r) = rsD (l.dropLast ++ [r]) := by
  have hs := last_split h
  generalize l.dropLast = l0 at hs
  subst hs
  simp [rsD]
theorem merged_w (hx : ∀ S : Store, oSortQ false [x] S = some (.lst (rsD (srt l)), S)) (hl : l.length ≤ 10000) {Q : D → Store → Prop} {E : Exc → Store → Prop} (h : Q (.tup (rsD (mgd l))) C) : wR (m_merged [x] C) Q E := by
  rw [e_merged]
  apply w_fin
  unfold b_merged b_merged_0 b_merged_1
  walk_at "p"
  refine wo_of (hx _) ?_
  walk_at "p"
  refine loop_p (pure_C _) (fun j sl S => S = C ++ [some (.lst (rsD (((srt l).take j).foldl mstep [])))] ∧ ∃ s2 s3, sl = [some x, some (.cell C.length), s2, s3]) ⟨rfl, _, _, rfl⟩ ?_ ?_
  · rintro j y sl S hy ⟨rfl, s2, s3, rfl⟩
    obtain ⟨r, hr, rfl⟩ := rs_get hy
    have hf := fold_take (f := mstep) (b := []) hr
    have hjl : j < (srt l).length := (List.getElem?_eq_some_iff.mp hr).1
    rw [srt_len] at hjl
    have hln := fold_len ((srt l).take j) []
    rw [List.length_take, srt_len] at hln
    simp only [List.length_nil] at hln
    generalize ((srt l).take j).foldl mstep [] = f at hln hf ⊢
    have at_n : (C ++ [some (Cell.lst (rsD f))])[C.length]? = some (some (.lst (rsD f))) := by simp
    refine ⟨[some x, some (.cell C.length), some (.int r.1), some (.int r.2)], rfl, ?_⟩
    have app : (mstep f r = f ++ [r]) → wS (sDrop (mAppend (mVar 1) (mAp oTup (mCons (mVar 2) (mCons (mVar 3) mNil)))) ⟨C.length, [some x, some (.cell C.length), some (.int r.1), some (.int r.2)]⟩ (C ++ [some (.lst (rsD f))])) (lpP (fun j sl S => S = C ++ [some (.lst (rsD (((srt l).take j).foldl mstep [])))] ∧ ∃ s2 s3, sl = [some x, some (.cell C.length), s2, s3]) (j + 1) (thn b_merged_2 C.length (fnl C.length Q E))) := fun he => by
      walk_at "p"
      refine w_append ?_
      walk_at "p"
      refine ⟨by simp [vL, at_n], ?_⟩
      walk_at "p"
      refine ⟨C.length, rsD f, by simp only [cL, at_n], Nat.le_refl _, by rw [rsD_len]; omega, ?_⟩
      walk_at "p"
      refine ⟨?_, _, _, rfl⟩
      rw [hf, he]
      simp [rsD, rD]
    unfold b_merged_1b_0
    walk_at "p"
    refine wo_of (ne_cell at_n) ?_
    walk_at "p"
    refine wI_d (fun he => ?_) fun he => ?_
    · exact wI_f (app (by rw [he]; rfl))
    · obtain ⟨q, hq⟩ := last_nil he
      walk_at "p"
      refine wo_last at_n hq ?_
      walk_at "p"
      refine wo_ix rfl (k := 1) rfl rfl ?_
      walk_at "p"
      refine wI_d (fun hc => ?_) fun hc => ?_
      · refine w_setL ?_
        walk_at "p"
        refine wo_last at_n hq ?_
        walk_at "p"
        refine wo_ix rfl (k := 0) rfl rfl ?_
        walk_at "p"
        refine wo_last at_n hq ?_
        walk_at "p"
        refine wo_ix rfl (k := 1) rfl rfl ?_
        walk_at "p"
        refine ⟨-1, C.length, rsD f, f.length - 1, _, rfl, by simp only [cL, at_n], ?_, wr_hi (Nat.le_refl _), ?_⟩
        · have hp : 0 < f.length := List.length_pos_iff.mpr he
          rw [rsD_len]
          unfold ixN
          rw [if_neg (by omega), if_pos (by omega)]
          congr 1
          omega
        · walk_at "p"
          refine ⟨?_, _, _, rfl⟩
          rw [hf]
          have e1 : mstep f r = f.dropLast ++ [(q.1, max q.2 r.2)] := by
            unfold mstep
            rw [hq]
            simp only
            rw [if_pos hc]
          rw [e1, ← set_last (r := (q.1, max q.2 r.2)) hq]
          simp [rD]
      · exact app (by unfold mstep; rw [hq]; simp only; rw [if_neg hc])
  · rintro sl S ⟨rfl, s2, s3, rfl⟩
    walk_at "p"
    unfold b_merged_2
    walk_at "p"
    refine wo_tupC (xs := rsD (mgd l)) ?_ ?_
    · rw [rsD_len, List.take_length]
      simp [mgd]
    · walk_at "p"
      refine fnl_p ?_ (by simpa using h)
      exact cbL_all fun d hd => by obtain ⟨r, _, rfl⟩ := List.mem_map.mp hd; rfl
end
end CL
set_option maxHeartbeats 4000000
namespace CL
open PySem L2 CT
local macro_rules | `(tactic| walk_at "w") => `(tactic| first | ((with_reducible apply gR); first | with_reducible refine w_var rfl ?_ | with_reducible apply w_cons | with_reducible apply w_c | with_reducible apply w_nil | with_reducible apply w_op | with_reducible apply w_ap | with_reducible apply w_call | with_reducible apply w_tst | with_reducible apply w_un | with_reducible apply w_tand | with_reducible apply w_tor | with_reducible apply w_tnot | with_reducible apply w_yes | with_reducible apply w_and | with_reducible apply w_or | with_reducible apply w_not | with_reducible apply w_if | with_reducible apply w_chain | with_reducible apply w_isi | with_reducible apply w_isi2 | with_reducible apply w_prop | with_reducible apply w_meth | with_reducible apply w_dget | with_reducible apply w_dnewF | with_reducible apply w_dnewT | with_reducible apply w_part | with_reducible apply w_noPart | with_reducible apply w_slLF | with_reducible apply w_slA | with_reducible apply w_ok | with_reducible apply w_ofO | with_reducible apply w_lcI | with_reducible apply w_seqI | with_reducible apply w_rng1 | with_reducible apply w_rng2 | with_reducible apply w_enum) | ((with_reducible apply gO); first | with_reducible apply wo_add | with_reducible apply wo_sub | with_reducible apply wo_lt | with_reducible apply wo_gt | with_reducible apply wo_eq | with_reducible apply wo_ne | with_reducible apply wo_le | with_reducible apply wo_ge | with_reducible apply wo_neg | with_reducible apply wo_eqS | with_reducible apply wo_neS | with_reducible apply wo_min | with_reducible apply wo_max | with_reducible apply wo_int | with_reducible apply wo_abs | with_reducible apply wo_tupL | with_reducible apply wo_tupT | with_reducible refine wo_tup (by with_unfolding_all rfl) ?_ | with_reducible refine wo_lstF (by with_unfolding_all rfl) ?_ | with_reducible refine wo_lstT (by with_unfolding_all rfl) ?_ | with_reducible apply wo_fld0 | with_reducible apply wo_fld1 | with_reducible apply wo_fld2) | ((with_reducible apply gS); first | with_reducible apply w_seq | with_reducible apply w_asg | with_reducible apply w_sif | with_reducible apply w_next | with_reducible apply w_ret | with_reducible apply w_par | with_reducible apply w_drop | with_reducible apply w_asgT | with_reducible apply w_retN | with_reducible apply w_brk | with_reducible apply w_cnt | with_reducible apply w_raise | with_reducible apply w_forI) | ((with_reducible apply gI); first | with_reducible apply wI_t | with_reducible apply wI_f | with_reducible apply wI_not) | with_reducible apply w_bl | with_reducible apply thn_nx | with_reducible apply w_int | with_reducible apply w_obj | with_reducible apply thn_rt | with_reducible apply lp_nx | with_reducible apply fnl_int | with_reducible apply fnl_bl | with_reducible apply fnl_non | with_reducible apply fnl_str | with_reducible apply fnl_nx | with_reducible apply thn_bk | with_reducible apply thn_ct | with_reducible apply thn_xc | with_reducible apply lp_rt | with_reducible apply lp_bk | with_reducible apply lp_xc | with_reducible apply w_itL | with_reducible apply w_itT | with_reducible apply w_itK)
local macro_rules | `(tactic| walk_at "p") => `(tactic| repeat walk_at "w")
/-! S3b: runs appended. -/
theorem cb_rs (n : Nat) (l : List Rn) : cbL n (rsD l) = true := cbL_all fun d hd => by obtain ⟨r, _, rfl⟩ := List.mem_map.mp hd; rfl
theorem cb_tup (n : Nat) (l : List Rn) : cb n (.tup (rsD l)) = true := cb_rs n l
theorem appL {S : Store} {fl : Nat} {sl : List (Option D)} {io : Nat} {me : ME} {g : List Rn} {r : Rn} {P : RS → Prop} (h1 : sl[io]? = some (some (.cell S.length))) (hf : fl ≤ S.length) (hg : g.length < 16777216) (hv : wR (me ⟨fl, sl⟩ (S ++ [some (.lst (rsD g))])) (fun d C' => d = rD r ∧ C' = S ++ [some (.lst (rsD g))]) noX) (q : P (.nx sl (S ++ [some (.lst (rsD (g ++ [r])))]))) : wS (sDrop (mAppend (mVar io) me) ⟨fl, sl⟩ (S ++ [some (.lst (rsD g))])) P := by
  have at_n : (S ++ [some (Cell.lst (rsD g))])[S.length]? = some (some (.lst (rsD g))) := by simp
  refine w_drop (w_append (w_var h1 ⟨by simp [vL, at_n], w_conv hv ?_⟩))
  rintro d C' ⟨rfl, rfl⟩
  refine ⟨S.length, rsD g, by simp only [cL, at_n], hf, by rw [rsD_len]; exact hg, ?_⟩
  have e : (S ++ [some (Cell.lst (rsD g))]).set S.length (some (.lst (rsD g ++ [rD r]))) = S ++ [some (.lst (rsD (g ++ [r])))] := by simp [rsD]
  rw [e]
  exact q
end CL
set_option maxHeartbeats 4000000
namespace CL
open PySem L2 CT
theorem is_integer_int (x : Int) (C : Store) : m_is_integer [.int x] C = .ok (.bl true) C := by
  simp [m_is_integer, b_is_integer, ev_def, isi, tyD, isaT]
end CL
set_option maxHeartbeats 4000000
namespace CL
open PySem L2 CT
local macro_rules | `(tactic| walk_at "w") => `(tactic| first | ((with_reducible apply gR); first | with_reducible refine w_var rfl ?_ | with_reducible apply w_cons | with_reducible apply w_c | with_reducible apply w_nil | with_reducible apply w_op | with_reducible apply w_ap | with_reducible apply w_call | with_reducible apply w_tst | with_reducible apply w_un | with_reducible apply w_tand | with_reducible apply w_tor | with_reducible apply w_tnot | with_reducible apply w_yes | with_reducible apply w_and | with_reducible apply w_or | with_reducible apply w_not | with_reducible apply w_if | with_reducible apply w_chain | with_reducible apply w_isi | with_reducible apply w_isi2 | with_reducible apply w_prop | with_reducible apply w_meth | with_reducible apply w_dget | with_reducible apply w_dnewF | with_reducible apply w_dnewT | with_reducible apply w_part | with_reducible apply w_noPart | with_reducible apply w_slLF | with_reducible apply w_slA | with_reducible apply w_ok | with_reducible apply w_ofO | with_reducible apply w_lcI | with_reducible apply w_seqI | with_reducible apply w_rng1 | with_reducible apply w_rng2 | with_reducible apply w_enum) | ((with_reducible apply gO); first | with_reducible apply wo_add | with_reducible apply wo_sub | with_reducible apply wo_lt | with_reducible apply wo_gt | with_reducible apply wo_eq | with_reducible apply wo_ne | with_reducible apply wo_le | with_reducible apply wo_ge | with_reducible apply wo_neg | with_reducible apply wo_eqS | with_reducible apply wo_neS | with_reducible apply wo_min | with_reducible apply wo_max | with_reducible apply wo_int | with_reducible apply wo_abs | with_reducible apply wo_tupL | with_reducible apply wo_tupT | with_reducible refine wo_tup (by with_unfolding_all rfl) ?_ | with_reducible refine wo_lstF (by with_unfolding_all rfl) ?_ | with_reducible refine wo_lstT (by with_unfolding_all rfl) ?_ | with_reducible apply wo_fld0 | with_reducible apply wo_fld1 | with_reducible apply wo_fld2) | ((with_reducible apply gS); first | with_reducible apply w_seq | with_reducible apply w_asg | with_reducible apply w_sif | with_reducible apply w_next | with_reducible apply w_ret | with_reducible apply w_par | with_reducible apply w_drop | with_reducible apply w_asgT | with_reducible apply w_retN | with_reducible apply w_brk | with_reducible apply w_cnt | with_reducible apply w_raise | with_reducible apply w_forI) | ((with_reducible apply gI); first | with_reducible apply wI_t | with_reducible apply wI_f | with_reducible apply wI_not) | with_reducible apply w_bl | with_reducible apply thn_nx | with_reducible apply w_int | with_reducible apply w_obj | with_reducible apply thn_rt | with_reducible apply lp_nx | with_reducible apply fnl_int | with_reducible apply fnl_bl | with_reducible apply fnl_non | with_reducible apply fnl_str | with_reducible apply fnl_nx | with_reducible apply thn_bk | with_reducible apply thn_ct | with_reducible apply thn_xc | with_reducible apply lp_rt | with_reducible apply lp_bk | with_reducible apply lp_xc | with_reducible apply w_itL | with_reducible apply w_itT | with_reducible apply w_itK)
local macro_rules | `(tactic| walk_at "p") => `(tactic| repeat walk_at "w")
local macro_rules | `(tactic| walk_at "w") => `(tactic| first | ((with_reducible apply gR); first | with_reducible refine w_var rfl ?_ | with_reducible apply w_cons | with_reducible apply w_c | with_reducible apply w_nil | with_reducible apply w_op | with_reducible apply w_ap | with_reducible apply w_call | with_reducible apply w_tst | with_reducible apply w_un | with_reducible apply w_tand | with_reducible apply w_tor | with_reducible apply w_tnot | with_reducible apply w_yes | with_reducible apply w_and | with_reducible apply w_or | with_reducible apply w_not | with_reducible apply w_if | with_reducible apply w_chain | with_reducible apply w_isi | with_reducible apply w_isi2 | with_reducible apply w_prop | with_reducible apply w_meth | with_reducible apply w_dget | with_reducible apply w_dnewF | with_reducible apply w_dnewT | with_reducible apply w_part | with_reducible apply w_noPart | with_reducible apply w_slLF | with_reducible apply w_slA | with_reducible apply w_ok | with_reducible apply w_ofO | with_reducible apply w_lcI | with_reducible apply w_seqI | with_reducible apply w_rng1 | with_reducible apply w_rng2 | with_reducible apply w_enum) | ((with_reducible apply gO); first | with_reducible apply wo_add | with_reducible apply wo_sub | with_reducible apply wo_lt | with_reducible apply wo_gt | with_reducible apply wo_eq | with_reducible apply wo_ne | with_reducible apply wo_le | with_reducible apply wo_ge | with_reducible apply wo_neg | with_reducible apply wo_eqS | with_reducible apply wo_neS | with_reducible apply wo_min | with_reducible apply wo_max | with_reducible apply wo_int | with_reducible apply wo_abs | with_reducible apply wo_tupL | with_reducible apply wo_tupT | with_reducible refine wo_tup (by with_unfolding_all rfl) ?_ | with_reducible refine wo_lstF (by with_unfolding_all rfl) ?_ | with_reducible refine wo_lstT (by with_unfolding_all rfl) ?_ | with_reducible apply wo_fld0 | with_reducible apply wo_fld1 | with_reducible apply wo_fld2) | ((with_reducible apply gS); first | with_reducible apply w_seq | with_reducible apply w_asg | with_reducible apply w_sif | with_reducible apply w_next | with_reducible apply w_ret | with_reducible apply w_par | with_reducible apply w_drop | with_reducible apply w_asgT | with_reducible apply w_retN | with_reducible apply w_brk | with_reducible apply w_cnt | with_reducible apply w_raise | with_reducible apply w_forI) | ((with_reducible apply gI); first | with_reducible apply wI_t | with_reducible apply wI_f | with_reducible apply wI_not) | with_reducible apply w_bl | with_reducible apply thn_nx | with_reducible apply w_int | with_reducible apply w_obj | with_reducible apply thn_rt | with_reducible apply lp_nx | with_reducible apply fnl_int | with_reducible apply fnl_bl | with_reducible apply fnl_non | with_reducible apply fnl_str | with_reducible apply fnl_nx | with_reducible apply thn_bk | with_reducible apply thn_ct | with_reducible apply thn_xc | with_reducible apply lp_rt | with_reducible apply lp_bk | with_reducible apply lp_xc | with_reducible apply w_itL | with_reducible apply w_itT | with_reducible apply w_itK)
local macro_rules | `(tactic| walk_at "p") => `(tactic| repeat walk_at "w")
/-! S5: a Want made; without, within, |, &, ^, ==. -/
def wantD (E O : List Rn) : D := .obj 0 [hvD E O]
def sideL (p : Int) (xs : List Int) : List Rn := (xs.filter fun x => decide (x % 2 = p)).map fun x => (x, x)
def hvF (xs : List Int) : D → D
  | .int p => .tup (rsD (mgd (sideL p xs)))
  | _ => .non
def parD (p : Int) : D → Bool
  | .int x => decide (x % 2 = p)
  | _ => false
def ptD : D → D
  | .int x => .tup [.int x, .int x]
  | _ => .non
theorem side_map (p : Int) (xs : List Int) : ((xs.map D.int).filter (parD p)).map ptD = rsD (sideL p xs) := by
  rw [List.filter_map, List.map_map, rsD, sideL, List.map_map]
  rfl
theorem side_len (p : Int) (xs : List Int) : (sideL p xs).length ≤ xs.length := by
  rw [sideL, List.length_map]
  exact List.length_filter_le _ _
theorem cb_hv (n : Nat) (E O : List Rn) : cb n (hvD E O) = true := by
  show (cb n (.tup (rsD E)) && (cb n (.tup (rsD O)) && true)) = true
  rw [cb_tup, cb_tup]
  rfl
theorem cb_want (n : Nat) (E O : List Rn) : cb n (wantD E O) = true := by
  show (cb n (hvD E O) && true) = true
  rw [cb_hv]
  rfl
section
variable {C : Store} {Q : D → Store → Prop} {E : Exc → Store → Prop} {xs : List Int} {Ev Od Ew Ow : List Rn}
theorem wo_fld0 (h : Q (hvD Ev Od) C) : wO (oFld 0 0 (wantD Ev Od) C) Q := wo_fld rfl h
theorem is_number_w {x : Int} (h1 : -1000000000 ≤ x) (h2 : x ≤ 1000000000) (h : Q (.bl true) C) : wR (m_is_number [.int x] C) Q E := by
  rw [e_is_number]
  apply w_fin
  unfold b_is_number
  walk_at "p"
  refine w_of (is_integer_int x C) ?_
  walk_at "p"
  refine wI_dt h1 ?_
  walk_at "p"
  rw [decide_eq_true h2]
  simpa using h
theorem check_w (hb : ∀ x ∈ xs, -1000000000 ≤ x ∧ x ≤ 1000000000) (h : Q .non C) : wR (m_check_numbers [.tup (xs.map .int)] C) Q E := by
  rw [e_check_numbers]
  apply w_fin
  unfold b_check_numbers
  walk_at "p"
  refine loop_p (pure_P (pure_C _)) (fun j sl S => S = C ∧ ∃ s1 s2, sl = [some (.tup (xs.map .int)), s1, s2]) ⟨rfl, _, _, rfl⟩ ?_ ?_
  · rintro j y sl S hy ⟨rfl, s1, s2, rfl⟩
    obtain ⟨z, hz, rfl⟩ := List.mem_map.mp (List.mem_of_getElem? hy)
    obtain ⟨n, d⟩ := z
    obtain ⟨x, hx, rfl⟩ := List.mem_map.mp (List.of_mem_zip hz).2
    refine ⟨[some (.tup (xs.map .int)), some (.int n), some (.int x)], rfl, ?_⟩
    unfold b_check_numbersb_0
    walk_at "p"
    refine is_number_w (hb x hx).1 (hb x hx).2 ?_
    walk_at "p"
    exact ⟨rfl, _, _, rfl⟩
  · rintro sl S ⟨rfl, s1, s2, rfl⟩
    walk_at "p"
    simpa using h
theorem halves_of_w (hl : xs.length ≤ 10000) (h : Q (hvD (mgd (sideL 0 xs)) (mgd (sideL 1 xs))) C) : wR (m_halves_of [.tup (xs.map .int)] C) Q E := by
  rw [e_halves_of]
  apply w_fin
  unfold b_halves_of
  walk_at "p"
  refine lc_p (pure_C _) (fun _ => true) (hvF xs) (by simp) (fun x hx => ?_) (fun x hx _ => ?_) ?_
  · have hp : ∃ p : Int, x = .int p := by
      simp only [List.mem_cons, List.not_mem_nil, or_false] at hx
      rcases hx with rfl | rfl <;> exact ⟨_, rfl⟩
    obtain ⟨p, rfl⟩ := hp
    refine ⟨_, rfl, fun acc => ⟨?_, fun _ => ?_⟩⟩
    · walk_at "p"
      exact ⟨rfl, rfl⟩
    · walk_at "p"
      refine lc_p (pure_C _) (parD p) ptD (by simp; omega) (fun y hy => ?_) (fun y hy _ => ?_) ?_
      · obtain ⟨z, _, rfl⟩ := List.mem_map.mp hy
        refine ⟨_, rfl, fun acc => ⟨?_, fun _ => ?_⟩⟩
        · walk_at "p"
          refine wo_mod (by decide) ?_
          walk_at "p"
          exact ⟨rfl, rfl⟩
        · walk_at "p"
          exact ⟨rfl, rfl⟩
      · obtain ⟨z, _, rfl⟩ := List.mem_map.mp hy
        rfl
      · rw [side_map]
        walk_at "p"
        refine merged_w (fun S => sortQ_l _ S) (by have := side_len p xs; omega) ?_
        exact ⟨rfl, rfl⟩
  · simp only [List.mem_cons, List.not_mem_nil, or_false] at hx
    rcases hx with rfl | rfl <;> exact cb_tup _ _
  · walk_at "p"
    refine fnl_p (cb_hv _ _ _) ?_
    simpa [hvF, hvD] using h
theorem srtI_len1 : ∀ l : List Int, (srtI l).length ≤ l.length
  | [] => by simp [srtI]
  | y :: r => by
    have h1 := srtI_len1 r
    have h2 : ∀ l : List Int, (insI y l).length ≤ l.length + 1 := by
      intro l
      induction l with
      | nil => simp [insI]
      | cons z l ih =>
        unfold insI
        split
        · simp
        · split
          · simp
          · simp only [List.length_cons]; omega
    have h3 := h2 (srtI r)
    show (insI y (srtI r)).length ≤ _
    simp only [List.length_cons]
    omega
theorem lenSI_ok (h : xs.length < 64) : oLenSI [.tup (xs.map .int)] C = some (.int (srtI xs).length, C) := by
  simp only [oLenSI, vT, Option.bind_some, dInts_map, h, if_true]
theorem init_end {c : Cell} {h : D} {P : RS → Prop} {sl : List (Option D)} {me : ME} (h0 : sl[0]? = some (some (.cell C.length))) (hc : cb 0 h = true) (hv : wR (me ⟨C.length + 1, sl⟩ (C ++ [some (.ins 0 [])])) (fun d S => d = h ∧ S = C ++ [some (.ins 0 [])]) noX) (q : P (.nx sl (C ++ [some (.ins 0 [h])]))) : wS (sFldS 0 0 me (mVar 0) ⟨C.length + 1, sl⟩ (C ++ [some (.ins 0 [])])) P := by
  have e1 := w_eqv hv
  have e2 : mVar 0 ⟨C.length + 1, sl⟩ (C ++ [some (.ins 0 [])]) = .ok (.cell C.length) (C ++ [some (.ins 0 [])]) := by
    unfold mVar
    simp only [h0]
  have w : wr (C.length + 1) C.length (.ins 0 [h]) (C ++ [some (.ins 0 [])]) = some (C ++ [some (.ins 0 [h])]) := by
    unfold wr
    rw [if_neg (fun z => by have : cbC 0 (.ins 0 [h]) = (cb 0 h && true) := rfl; rw [this, hc] at z; cases z.2)]
    simp
  refine w_eq (r' := .nx sl (C ++ [some (.ins 0 [h])])) ?_ q
  unfold sFldS
  rw [e1]
  simp only [bndS_ok]
  rw [e2]
  have gt : (C ++ [some (Cell.ins 0 [])])[C.length]? = some (some (.ins 0 [])) := by simp
  simp only [bndS_ok, gt]
  rw [if_pos ⟨trivial, Nat.zero_le _⟩, if_neg (by simp)]
  simp only [List.nil_append]
  rw [w]
theorem init_kw : m_Want__init [.cell C.length, hvD Ev Od, .tup []] (C ++ [some (.ins 0 [])]) = .ok .non (C ++ [some (.ins 0 [hvD Ev Od])]) := by
  refine w_eqv ?_
  rw [e_Want__init]
  apply w_fin
  unfold b_Want__init b_Want__init_0 b_Want__init_1
  walk_at "p"
  refine check_w (xs := []) (by simp) ?_
  walk_at "p"
  refine wo_of (lenSI_ok (xs := []) (by simp)) ?_
  walk_at "p"
  refine wI_df (by decide) ?_
  walk_at "p"
  unfold b_Want__init_2
  have e : (C ++ [some (Cell.ins 0 [])]).length = C.length + 1 := by simp
  rw [e]
  refine init_end (c := .ins 0 []) (h := hvD Ev Od) rfl (cb_hv _ _ _) ?_ ?_
  · walk_at "p"
    refine wo_of (d := .bl false) (C' := _) rfl ?_
    walk_at "p"
    exact ⟨rfl, rfl⟩
  · walk_at "p"
    exact ⟨rfl, List.take_of_length_le (by simp)⟩
theorem init_pos (hb : ∀ x ∈ xs, -1000000000 ≤ x ∧ x ≤ 1000000000) (hl : xs.length ≤ 40) : m_Want__init [.cell C.length, .non, .tup (xs.map .int)] (C ++ [some (.ins 0 [])]) = .ok .non (C ++ [some (.ins 0 [hvD (mgd (sideL 0 xs)) (mgd (sideL 1 xs))])]) := by
  refine w_eqv ?_
  rw [e_Want__init]
  apply w_fin
  unfold b_Want__init b_Want__init_0 b_Want__init_1
  walk_at "p"
  refine check_w hb ?_
  walk_at "p"
  refine wo_of (lenSI_ok (by omega)) ?_
  walk_at "p"
  have := srtI_len1 xs
  refine wI_df (by omega) ?_
  walk_at "p"
  unfold b_Want__init_2
  have e : (C ++ [some (Cell.ins 0 [])]).length = C.length + 1 := by simp
  rw [e]
  refine init_end (c := .ins 0 []) (h := hvD (mgd (sideL 0 xs)) (mgd (sideL 1 xs))) rfl (cb_hv _ _ _) ?_ ?_
  · walk_at "p"
    refine wo_of (d := .bl true) (C' := _) rfl ?_
    walk_at "p"
    refine halves_of_w (by omega) ?_
    exact ⟨rfl, rfl⟩
  · walk_at "p"
    exact ⟨rfl, List.take_of_length_le (by simp)⟩
theorem mk_tail {F : Fr} {g : Vg} {n : Nat} {m : MF} {ma : MA} {ds : List D} {S : Store} (ha : ma F C = .ok ds S) (hi : vaM g n m (.cell S.length :: ds) (S ++ [some (.ins 0 [])]) = .ok .non (S ++ [some (.ins 0 [hvD Ev Od])])) : mMake false 0 1 (vaM g n m) [] ma F C = .ok (wantD Ev Od) S := by
  unfold mMake
  rw [ha]
  simp only [bnd_ok]
  rw [List.append_nil, hi]
  have gt : ∀ x : Option Cell, (S ++ [x])[S.length]? = some x := fun x => by simp
  simp only [gt]
  have c : cbL S.length [hvD Ev Od] = true := by
    show (cb S.length (hvD Ev Od) && true) = true
    rw [cb_hv]
    rfl
  simp [c, wantD]
theorem mk_kw {F : Fr} {me : ME} (h : wR (me F C) (fun d C1 => ∃ Ev Od, d = hvD Ev Od ∧ Q (wantD Ev Od) C1) noX) : wR (mMake false 0 1 (vaM .kw 1 m_Want__init) [] (mCons me mNil) F C) Q E := by
  obtain ⟨d, S, e, Ev, Od, rfl, q⟩ := w_out h
  refine w_of (mk_tail (Ev := Ev) (Od := Od) (S := S) (ds := [hvD Ev Od]) ?_ ?_) q
  · refine w_eqv ?_
    refine w_cons (w_of e (w_nil ⟨rfl, rfl⟩))
  · show m_Want__init [.cell S.length, hvD Ev Od, .tup []] _ = _
    exact init_kw
theorem mk_pos {F : Fr} {ma : MA} (hb : ∀ x ∈ xs, -1000000000 ≤ x ∧ x ≤ 1000000000) (hl : xs.length ≤ 40) {n : Nat} (hn : xs.length = n) (ha : ma F C = .ok (xs.map .int) C) : mMake false 0 1 (vaM .pos n m_Want__init) [] ma F C = .ok (wantD (mgd (sideL 0 xs)) (mgd (sideL 1 xs))) C := by
  refine mk_tail ha ?_
  unfold vaM
  rw [if_pos (by simp [hn])]
  exact init_pos hb hl
end
end CL
set_option maxHeartbeats 4000000
namespace CL
open PySem L2 CT
local macro_rules | `(tactic| walk_at "w") => `(tactic| first | ((with_reducible apply gR); first | with_reducible refine w_var rfl ?_ | with_reducible apply w_cons | with_reducible apply w_c | with_reducible apply w_nil | with_reducible apply w_op | with_reducible apply w_ap | with_reducible apply w_call | with_reducible apply w_tst | with_reducible apply w_un | with_reducible apply w_tand | with_reducible apply w_tor | with_reducible apply w_tnot | with_reducible apply w_yes | with_reducible apply w_and | with_reducible apply w_or | with_reducible apply w_not | with_reducible apply w_if | with_reducible apply w_chain | with_reducible apply w_isi | with_reducible apply w_isi2 | with_reducible apply w_prop | with_reducible apply w_meth | with_reducible apply w_dget | with_reducible apply w_dnewF | with_reducible apply w_dnewT | with_reducible apply w_part | with_reducible apply w_noPart | with_reducible apply w_slLF | with_reducible apply w_slA | with_reducible apply w_ok | with_reducible apply w_ofO | with_reducible apply w_lcI | with_reducible apply w_seqI | with_reducible apply w_rng1 | with_reducible apply w_rng2 | with_reducible apply w_enum) | ((with_reducible apply gO); first | with_reducible apply wo_add | with_reducible apply wo_sub | with_reducible apply wo_lt | with_reducible apply wo_gt | with_reducible apply wo_eq | with_reducible apply wo_ne | with_reducible apply wo_le | with_reducible apply wo_ge | with_reducible apply wo_neg | with_reducible apply wo_eqS | with_reducible apply wo_neS | with_reducible apply wo_min | with_reducible apply wo_max | with_reducible apply wo_int | with_reducible apply wo_abs | with_reducible apply wo_tupL | with_reducible apply wo_tupT | with_reducible refine wo_tup (by with_unfolding_all rfl) ?_ | with_reducible refine wo_lstF (by with_unfolding_all rfl) ?_ | with_reducible refine wo_lstT (by with_unfolding_all rfl) ?_ | with_reducible apply wo_fld0 | with_reducible apply wo_fld1 | with_reducible apply wo_fld2) | ((with_reducible apply gS); first | with_reducible apply w_seq | with_reducible apply w_asg | with_reducible apply w_sif | with_reducible apply w_next | with_reducible apply w_ret | with_reducible apply w_par | with_reducible apply w_drop | with_reducible apply w_asgT | with_reducible apply w_retN | with_reducible apply w_brk | with_reducible apply w_cnt | with_reducible apply w_raise | with_reducible apply w_forI) | ((with_reducible apply gI); first | with_reducible apply wI_t | with_reducible apply wI_f | with_reducible apply wI_not) | with_reducible apply w_bl | with_reducible apply thn_nx | with_reducible apply w_int | with_reducible apply w_obj | with_reducible apply thn_rt | with_reducible apply lp_nx | with_reducible apply fnl_int | with_reducible apply fnl_bl | with_reducible apply fnl_non | with_reducible apply fnl_str | with_reducible apply fnl_nx | with_reducible apply thn_bk | with_reducible apply thn_ct | with_reducible apply thn_xc | with_reducible apply lp_rt | with_reducible apply lp_bk | with_reducible apply lp_xc | with_reducible apply w_itL | with_reducible apply w_itT | with_reducible apply w_itK)
local macro_rules | `(tactic| walk_at "p") => `(tactic| repeat walk_at "w")
local macro_rules | `(tactic| walk_at "w") => `(tactic| first | ((with_reducible apply gR); first | with_reducible refine w_var rfl ?_ | with_reducible apply w_cons | with_reducible apply w_c | with_reducible apply w_nil | with_reducible apply w_op | with_reducible apply w_ap | with_reducible apply w_call | with_reducible apply w_tst | with_reducible apply w_un | with_reducible apply w_tand | with_reducible apply w_tor | with_reducible apply w_tnot | with_reducible apply w_yes | with_reducible apply w_and | with_reducible apply w_or | with_reducible apply w_not | with_reducible apply w_if | with_reducible apply w_chain | with_reducible apply w_isi | with_reducible apply w_isi2 | with_reducible apply w_prop | with_reducible apply w_meth | with_reducible apply w_dget | with_reducible apply w_dnewF | with_reducible apply w_dnewT | with_reducible apply w_part | with_reducible apply w_noPart | with_reducible apply w_slLF | with_reducible apply w_slA | with_reducible apply w_ok | with_reducible apply w_ofO | with_reducible apply w_lcI | with_reducible apply w_seqI | with_reducible apply w_rng1 | with_reducible apply w_rng2 | with_reducible apply w_enum) | ((with_reducible apply gO); first | with_reducible apply wo_add | with_reducible apply wo_sub | with_reducible apply wo_lt | with_reducible apply wo_gt | with_reducible apply wo_eq | with_reducible apply wo_ne | with_reducible apply wo_le | with_reducible apply wo_ge | with_reducible apply wo_neg | with_reducible apply wo_eqS | with_reducible apply wo_neS | with_reducible apply wo_min | with_reducible apply wo_max | with_reducible apply wo_int | with_reducible apply wo_abs | with_reducible apply wo_tupL | with_reducible apply wo_tupT | with_reducible refine wo_tup (by with_unfolding_all rfl) ?_ | with_reducible refine wo_lstF (by with_unfolding_all rfl) ?_ | with_reducible refine wo_lstT (by with_unfolding_all rfl) ?_ | with_reducible apply wo_fld0 | with_reducible apply wo_fld1 | with_reducible apply wo_fld2) | ((with_reducible apply gS); first | with_reducible apply w_seq | with_reducible apply w_asg | with_reducible apply w_sif | with_reducible apply w_next | with_reducible apply w_ret | with_reducible apply w_par | with_reducible apply w_drop | with_reducible apply w_asgT | with_reducible apply w_retN | with_reducible apply w_brk | with_reducible apply w_cnt | with_reducible apply w_raise | with_reducible apply w_forI) | ((with_reducible apply gI); first | with_reducible apply wI_t | with_reducible apply wI_f | with_reducible apply wI_not) | with_reducible apply w_bl | with_reducible apply thn_nx | with_reducible apply w_int | with_reducible apply w_obj | with_reducible apply thn_rt | with_reducible apply lp_nx | with_reducible apply fnl_int | with_reducible apply fnl_bl | with_reducible apply fnl_non | with_reducible apply fnl_str | with_reducible apply fnl_nx | with_reducible apply thn_bk | with_reducible apply thn_ct | with_reducible apply thn_xc | with_reducible apply lp_rt | with_reducible apply lp_bk | with_reducible apply lp_xc | with_reducible apply w_itL | with_reducible apply w_itT | with_reducible apply w_itK)
local macro_rules | `(tactic| walk_at "p") => `(tactic| repeat walk_at "w")
/-! S6g: own operators walked. -/
section
variable {C : Store} {Q : D → Store → Prop} {X : Exc → Store → Prop} {E O E' O' : List Rn}
theorem cat_t (A B : List Rn) (h : A.length + B.length ≤ 10000) : oCatT (.tup (rsD A)) (.tup (rsD B)) C = some (.tup (rsD (A ++ B)), C) := by
  have hz : szN ((rsD A).length + (rsD B).length) = true := by
    rw [rsD_len, rsD_len]
    simp [szN]
    omega
  simp only [oCatT, vT, hz, if_true]
  cases A with
  | nil => rfl
  | cons a A =>
    cases B with
    | nil => simp [rsD]
    | cons b B => simp [rsD]
end
end CL
set_option maxHeartbeats 4000000
namespace CL
open PySem L2 CT
local macro_rules | `(tactic| walk_at "w") => `(tactic| first | ((with_reducible apply gR); first | with_reducible refine w_var rfl ?_ | with_reducible apply w_cons | with_reducible apply w_c | with_reducible apply w_nil | with_reducible apply w_op | with_reducible apply w_ap | with_reducible apply w_call | with_reducible apply w_tst | with_reducible apply w_un | with_reducible apply w_tand | with_reducible apply w_tor | with_reducible apply w_tnot | with_reducible apply w_yes | with_reducible apply w_and | with_reducible apply w_or | with_reducible apply w_not | with_reducible apply w_if | with_reducible apply w_chain | with_reducible apply w_isi | with_reducible apply w_isi2 | with_reducible apply w_prop | with_reducible apply w_meth | with_reducible apply w_dget | with_reducible apply w_dnewF | with_reducible apply w_dnewT | with_reducible apply w_part | with_reducible apply w_noPart | with_reducible apply w_slLF | with_reducible apply w_slA | with_reducible apply w_ok | with_reducible apply w_ofO | with_reducible apply w_lcI | with_reducible apply w_seqI | with_reducible apply w_rng1 | with_reducible apply w_rng2 | with_reducible apply w_enum) | ((with_reducible apply gO); first | with_reducible apply wo_add | with_reducible apply wo_sub | with_reducible apply wo_lt | with_reducible apply wo_gt | with_reducible apply wo_eq | with_reducible apply wo_ne | with_reducible apply wo_le | with_reducible apply wo_ge | with_reducible apply wo_neg | with_reducible apply wo_eqS | with_reducible apply wo_neS | with_reducible apply wo_min | with_reducible apply wo_max | with_reducible apply wo_int | with_reducible apply wo_abs | with_reducible apply wo_tupL | with_reducible apply wo_tupT | with_reducible refine wo_tup (by with_unfolding_all rfl) ?_ | with_reducible refine wo_lstF (by with_unfolding_all rfl) ?_ | with_reducible refine wo_lstT (by with_unfolding_all rfl) ?_ | with_reducible apply wo_fld0 | with_reducible apply wo_fld1 | with_reducible apply wo_fld2) | ((with_reducible apply gS); first | with_reducible apply w_seq | with_reducible apply w_asg | with_reducible apply w_sif | with_reducible apply w_next | with_reducible apply w_ret | with_reducible apply w_par | with_reducible apply w_drop | with_reducible apply w_asgT | with_reducible apply w_retN | with_reducible apply w_brk | with_reducible apply w_cnt | with_reducible apply w_raise | with_reducible apply w_forI) | ((with_reducible apply gI); first | with_reducible apply wI_t | with_reducible apply wI_f | with_reducible apply wI_not) | with_reducible apply w_bl | with_reducible apply thn_nx | with_reducible apply w_int | with_reducible apply w_obj | with_reducible apply thn_rt | with_reducible apply lp_nx | with_reducible apply fnl_int | with_reducible apply fnl_bl | with_reducible apply fnl_non | with_reducible apply fnl_str | with_reducible apply fnl_nx | with_reducible apply thn_bk | with_reducible apply thn_ct | with_reducible apply thn_xc | with_reducible apply lp_rt | with_reducible apply lp_bk | with_reducible apply lp_xc | with_reducible apply w_itL | with_reducible apply w_itT | with_reducible apply w_itK)
local macro_rules | `(tactic| walk_at "p") => `(tactic| repeat walk_at "w")
local macro_rules | `(tactic| walk_at "w") => `(tactic| first | ((with_reducible apply gR); first | with_reducible refine w_var rfl ?_ | with_reducible apply w_cons | with_reducible apply w_c | with_reducible apply w_nil | with_reducible apply w_op | with_reducible apply w_ap | with_reducible apply w_call | with_reducible apply w_tst | with_reducible apply w_un | with_reducible apply w_tand | with_reducible apply w_tor | with_reducible apply w_tnot | with_reducible apply w_yes | with_reducible apply w_and | with_reducible apply w_or | with_reducible apply w_not | with_reducible apply w_if | with_reducible apply w_chain | with_reducible apply w_isi | with_reducible apply w_isi2 | with_reducible apply w_prop | with_reducible apply w_meth | with_reducible apply w_dget | with_reducible apply w_dnewF | with_reducible apply w_dnewT | with_reducible apply w_part | with_reducible apply w_noPart | with_reducible apply w_slLF | with_reducible apply w_slA | with_reducible apply w_ok | with_reducible apply w_ofO | with_reducible apply w_lcI | with_reducible apply w_seqI | with_reducible apply w_rng1 | with_reducible apply w_rng2 | with_reducible apply w_enum) | ((with_reducible apply gO); first | with_reducible apply wo_add | with_reducible apply wo_sub | with_reducible apply wo_lt | with_reducible apply wo_gt | with_reducible apply wo_eq | with_reducible apply wo_ne | with_reducible apply wo_le | with_reducible apply wo_ge | with_reducible apply wo_neg | with_reducible apply wo_eqS | with_reducible apply wo_neS | with_reducible apply wo_min | with_reducible apply wo_max | with_reducible apply wo_int | with_reducible apply wo_abs | with_reducible apply wo_tupL | with_reducible apply wo_tupT | with_reducible refine wo_tup (by with_unfolding_all rfl) ?_ | with_reducible refine wo_lstF (by with_unfolding_all rfl) ?_ | with_reducible refine wo_lstT (by with_unfolding_all rfl) ?_ | with_reducible apply wo_fld0 | with_reducible apply wo_fld1 | with_reducible apply wo_fld2) | ((with_reducible apply gS); first | with_reducible apply w_seq | with_reducible apply w_asg | with_reducible apply w_sif | with_reducible apply w_next | with_reducible apply w_ret | with_reducible apply w_par | with_reducible apply w_drop | with_reducible apply w_asgT | with_reducible apply w_retN | with_reducible apply w_brk | with_reducible apply w_cnt | with_reducible apply w_raise | with_reducible apply w_forI) | ((with_reducible apply gI); first | with_reducible apply wI_t | with_reducible apply wI_f | with_reducible apply wI_not) | with_reducible apply w_bl | with_reducible apply thn_nx | with_reducible apply w_int | with_reducible apply w_obj | with_reducible apply thn_rt | with_reducible apply lp_nx | with_reducible apply fnl_int | with_reducible apply fnl_bl | with_reducible apply fnl_non | with_reducible apply fnl_str | with_reducible apply fnl_nx | with_reducible apply thn_bk | with_reducible apply thn_ct | with_reducible apply thn_xc | with_reducible apply lp_rt | with_reducible apply lp_bk | with_reducible apply lp_xc | with_reducible apply w_itL | with_reducible apply w_itT | with_reducible apply w_itK)
local macro_rules | `(tactic| walk_at "p") => `(tactic| repeat walk_at "w")
/-! S7: the law's own runs; the text of a Want. -/
def lawR (p : Int) (xs : List Int) : List Rn := (srtI xs).foldl (lstep p) []
def wtD (xs : List Int) : D := wantD (lawR 0 xs) (lawR 1 xs)
theorem lawR_ok (p : Int) (xs : List Int) : Canon p (lawR p xs) ∧ ∀ x, x % 2 = p → (mR (lawR p xs) x ↔ x ∈ xs) := by
  obtain ⟨h1, h2⟩ := lfold_ok (p := p) (l := srtI xs) (canon_nil p) srtI_up (by simp)
  refine ⟨h1, fun x hx => ?_⟩
  rw [lawR, h2 x hx, srtI_mem]
  exact ⟨fun z => z.elim (fun z => absurd z (mR_nil _)) id, .inr⟩
theorem lawR_of {p : Int} {xs : List Int} {rs : List Rn} (h : Canon p rs) (g : ∀ x, x % 2 = p → (mR rs x ↔ x ∈ xs)) : rs = lawR p xs :=
  canon_inj h (lawR_ok p xs).1 fun x hx => by rw [g x hx, (lawR_ok p xs).2 x hx]
theorem lawR_len (p : Int) (xs : List Int) : (lawR p xs).length ≤ xs.length := by
  have h1 := lfold_len p (srtI xs) []
  have h2 := srtI_len1 xs
  simp only [List.length_nil] at h1
  unfold lawR
  omega
theorem lawR_same {p : Int} {xs ys : List Int} (h : ∀ x, x ∈ xs ↔ x ∈ ys) : lawR p xs = lawR p ys := lawR_of (lawR_ok p xs).1 fun x hx => by rw [(lawR_ok p xs).2 x hx, h x]
theorem wtD_same {xs ys : List Int} (h : ∀ x, x ∈ xs ↔ x ∈ ys) : wtD xs = wtD ys := by
  unfold wtD
  rw [lawR_same h, lawR_same h]
theorem lawR_end {p : Int} {xs : List Int} {r : Rn} (h : r ∈ lawR p xs) : r.1 ∈ xs ∧ r.2 ∈ xs := by
  obtain ⟨a, b, c⟩ := (lawR_ok p xs).1.ok r h
  exact ⟨((lawR_ok p xs).2 r.1 b).mp ⟨r, h, Int.le_refl _, a⟩, ((lawR_ok p xs).2 r.2 c).mp ⟨r, h, a, Int.le_refl _⟩⟩
theorem lawR_side (p : Int) (xs : List Int) : mgd (sideL p xs) = lawR p xs := by
  obtain ⟨h1, h2⟩ := mgd_ok (p := p) (l := sideL p xs) fun r hr => by
    obtain ⟨x, hx, rfl⟩ := List.mem_map.mp hr
    have := of_decide_eq_true (List.mem_filter.mp hx).2
    exact ⟨Int.le_refl _, this, this⟩
  refine lawR_of h1 fun x hx => ?_
  rw [h2 x hx]
  constructor
  · rintro ⟨r, hr, z1, z2⟩
    obtain ⟨y, hy, rfl⟩ := List.mem_map.mp hr
    have : x = y := by simp only at z1 z2; omega
    rw [this]
    exact (List.mem_filter.mp hy).1
  · intro h
    exact ⟨(x, x), List.mem_map.mpr ⟨x, List.mem_filter.mpr ⟨h, decide_eq_true hx⟩, rfl⟩, Int.le_refl _, Int.le_refl _⟩
section
variable {C : Store} {Q : D → Store → Prop} {X : Exc → Store → Prop}
theorem txt_len {i : Int} (h : i.natAbs < 1000000000000) : (toString i : Str).length ≤ 13 := PyData.shown_int_le (i := i) h
theorem log_lt {i : Int} (h : i.natAbs < 1000000000000) : i.natAbs.log2 < 1920 := by
  by_cases z : i.natAbs = 0
  · rw [z]
    decide
  · exact (Nat.log2_lt z).mpr (Nat.lt_trans h (by decide))
end
end CL
set_option maxHeartbeats 4000000
/-! S12: runs moved, mirrored, counted, spread out; in plain Lean. -/
namespace CT
/-! ### few runs are left -/
/-! ### moved, mirrored -/
/-! ### spread out -/
def exR1 (r : Rn) : List Int := rgI2 r.1 (r.2 + 1)
def exR (rs : List Rn) : List Int := rs.flatMap exR1
theorem rgI2_mem {a b x : Int} : x ∈ rgI2 a b ↔ a ≤ x ∧ x < b ∧ (x - a) % 2 = 0 := by
  unfold rgI2 rn2
  rw [List.mem_map]
  constructor
  · rintro ⟨i, hi, rfl⟩
    have := List.mem_range.mp hi
    omega
  · rintro ⟨h1, h2, h3⟩
    exact ⟨((x - a) / 2).toNat, List.mem_range.mpr (by omega), by omega⟩
theorem rgI2_up (a b : Int) : (rgI2 a b).Pairwise (· < ·) := by
  unfold rgI2
  rw [List.pairwise_map]
  exact List.pairwise_lt_range.imp fun h => by omega
theorem rgI2_len (a b : Int) : (rgI2 a b).length = rn2 a b := by simp [rgI2]
theorem exR1_mem {p : Int} {r : Rn} (h : RunOk p r) {x : Int} : x ∈ exR1 r ↔ x % 2 = p ∧ r.1 ≤ x ∧ x ≤ r.2 := by
  obtain ⟨a, b, c⟩ := h
  unfold exR1
  rw [rgI2_mem]
  omega
theorem exR_mem {p : Int} {rs : List Rn} (h : Canon p rs) {x : Int} : x ∈ exR rs ↔ x % 2 = p ∧ mR rs x := by
  unfold exR
  rw [List.mem_flatMap]
  constructor
  · rintro ⟨r, hr, hx⟩
    obtain ⟨a, b⟩ := (exR1_mem (h.ok r hr)).mp hx
    exact ⟨a, r, hr, b⟩
  · rintro ⟨a, r, hr, b⟩
    exact ⟨r, hr, (exR1_mem (h.ok r hr)).mpr ⟨a, b⟩⟩
theorem exR_up {p : Int} {rs : List Rn} (h : Canon p rs) : (exR rs).Pairwise (· < ·) := by
  unfold exR
  rw [List.pairwise_flatMap]
  refine ⟨fun r _ => rgI2_up _ _, h.sep.imp_of_mem fun {r s} hr hs e x hx y hy => ?_⟩
  have h1 := (exR1_mem (h.ok r hr)).mp hx
  have h2 := (exR1_mem (h.ok s hs)).mp hy
  unfold Sep at e
  omega
def cntR (rs : List Rn) : Int := (rs.map fun r => (r.2 - r.1) / 2 + 1).sum
theorem exR_len {p : Int} : ∀ {rs : List Rn}, Canon p rs → ((exR rs).length : Int) = cntR rs
  | [], _ => rfl
  | r :: rs, h => by
    have ih := exR_len h.tail
    obtain ⟨a, b, c⟩ := h.ok r (List.mem_cons_self ..)
    have e : exR (r :: rs) = exR1 r ++ exR rs := rfl
    have e2 : cntR (r :: rs) = (r.2 - r.1) / 2 + 1 + cntR rs := by simp [cntR]
    rw [e, e2, List.length_append, ← ih]
    unfold exR1
    rw [rgI2_len]
    unfold rn2
    omega
theorem exR_app (a b : List Rn) : exR (a ++ b) = exR a ++ exR b := by simp [exR]
/-! ### ascending lists parted by parity -/
def par (p : Int) (x : Int) : Bool := decide (x % 2 = p)
theorem filt_up {l : List Int} (h : l.Pairwise (· < ·)) (f : Int → Bool) : (l.filter f).Pairwise (· < ·) := h.sublist List.filter_sublist
theorem ex_filt {p : Int} {rs : List Rn} {l : List Int} (h : Canon p rs) (hl : l.Pairwise (· < ·)) (hm : ∀ x, x % 2 = p → (mR rs x ↔ x ∈ l)) : exR rs = l.filter (par p) := by
  refine up_one (exR_up h) (filt_up hl _) fun x => ?_
  rw [exR_mem h, List.mem_filter]
  unfold par
  rw [decide_eq_true_eq]
  constructor
  · rintro ⟨a, b⟩
    exact ⟨(hm x a).mp b, a⟩
  · rintro ⟨a, b⟩
    exact ⟨b, (hm x b).mpr a⟩
theorem part_len (l : List Int) : (l.filter (par 0)).length + (l.filter (par 1)).length = l.length := by
  induction l with
  | nil => rfl
  | cons x l ih =>
    rcases Int.emod_two_eq x with h | h
    · have e0 : par 0 x = true := decide_eq_true h
      have e1 : par 1 x = false := decide_eq_false (by omega)
      rw [List.filter_cons_of_pos e0, List.filter_cons_of_neg (by rw [e1]; simp), List.length_cons, List.length_cons]
      omega
    · have e0 : par 0 x = false := decide_eq_false (by omega)
      have e1 : par 1 x = true := decide_eq_true h
      rw [List.filter_cons_of_neg (by rw [e0]; simp), List.filter_cons_of_pos e1, List.length_cons, List.length_cons]
      omega
theorem take_filt {f : Int → Bool} {x : Int} (hx : f x = true) : ∀ {l : List Int} {c : Nat}, x ∈ l.take c → x ∈ (l.filter f).take c
  | [], c, h => by simp at h
  | a :: l, 0, h => by simp at h
  | a :: l, c + 1, h => by
    rw [List.take_succ_cons, List.mem_cons] at h
    by_cases ha : f a = true
    · rw [List.filter_cons_of_pos ha, List.take_succ_cons, List.mem_cons]
      exact h.imp id fun z => take_filt hx z
    · rw [List.filter_cons_of_neg ha]
      rcases h with rfl | h
      · exact absurd hx ha
      · exact (List.take_subset_take_left _ (Nat.le_succ c)) (take_filt hx h)
theorem take_one : ∀ {c : Nat} {s l : List Int}, s.Pairwise (· < ·) → l.Pairwise (· < ·) → (∀ x ∈ s, x ∈ l) → (∀ x ∈ l.take c, x ∈ s) → s.take c = l.take c
  | 0, _, _, _, _, _, _ => by simp
  | c + 1, s, [], _, _, h, _ => by
    cases s with
    | nil => rfl
    | cons a s => exact absurd (h a (List.mem_cons_self ..)) (by simp)
  | c + 1, s, a :: l, hs, hl, h, g => by
    have ha := g a (by rw [List.take_succ_cons]; exact List.mem_cons_self ..)
    cases s with
    | nil => cases ha
    | cons b s =>
      have ⟨s1, s2⟩ := List.pairwise_cons.mp hs
      have ⟨l1, l2⟩ := List.pairwise_cons.mp hl
      have e : b = a := by
        rcases List.mem_cons.mp (h b (List.mem_cons_self ..)) with e | e
        · exact e
        · rcases List.mem_cons.mp ha with e' | e'
          · exact e'.symm
          · have := l1 b e
            have := s1 a e'
            omega
      subst e
      rw [List.take_succ_cons, List.take_succ_cons, take_one s2 l2 (fun x hx => ?_) (fun x hx => ?_)]
      · rcases List.mem_cons.mp (h x (List.mem_cons_of_mem _ hx)) with e | e
        · have := s1 x hx
          omega
        · exact e
      · rcases List.mem_cons.mp (g x (by rw [List.take_succ_cons]; exact List.mem_cons_of_mem _ hx)) with e | e
        · have := l1 x (List.mem_of_mem_take hx)
          omega
        · exact e
/-- the least c of both halves together -/
theorem first_one {s l : List Int} {c : Nat} (hl : l.Pairwise (· < ·)) (hs : s.Pairwise (· < ·)) (hm : ∀ x, x ∈ s ↔ x ∈ (l.filter (par 0)).take c ∨ x ∈ (l.filter (par 1)).take c) : s.take c = l.take c := by
  refine take_one hs hl (fun x hx => ?_) fun x hx => ?_
  · rcases (hm x).mp hx with h | h <;> exact (List.mem_filter.mp (List.mem_of_mem_take h)).1
  · rcases Int.emod_two_eq x with h | h
    · exact (hm x).mpr (.inl (take_filt (decide_eq_true h) hx))
    · exact (hm x).mpr (.inr (take_filt (decide_eq_true h) hx))
/-- the least of both halves -/
def loO : Option Int → Option Int → Option Int
  | none, b => b
  | a, none => a
  | some a, some b => some (min a b)
def hiO : Option Int → Option Int → Option Int
  | none, b => b
  | a, none => a
  | some a, some b => some (max a b)
theorem head_parts : ∀ {l : List Int}, l.Pairwise (· < ·) → loO (l.filter (par 0)).head? (l.filter (par 1)).head? = l.head?
  | [], _ => rfl
  | a :: l, h => by
    have ⟨h1, h2⟩ := List.pairwise_cons.mp h
    have up : ∀ (f : Int → Bool) b, (l.filter f).head? = some b → a < b := fun f b hb => h1 b (List.mem_filter.mp (List.mem_of_mem_head? hb)).1
    rcases Int.emod_two_eq a with ha | ha
    · have e0 : par 0 a = true := decide_eq_true ha
      have e1 : ¬ par 1 a = true := by simp [par]; omega
      rw [List.filter_cons_of_pos e0, List.filter_cons_of_neg e1]
      cases hb : (l.filter (par 1)).head? with
      | none => rfl
      | some b =>
        have := up _ b hb
        show some (min a b) = some a
        congr 1
        omega
    · have e0 : ¬ par 0 a = true := by simp [par]; omega
      have e1 : par 1 a = true := decide_eq_true ha
      rw [List.filter_cons_of_neg e0, List.filter_cons_of_pos e1]
      cases hb : (l.filter (par 0)).head? with
      | none => rfl
      | some b =>
        have := up _ b hb
        show some (min b a) = some a
        congr 1
        omega
theorem last_parts {l : List Int} (h : l.Pairwise (· < ·)) : hiO (l.filter (par 0)).getLast? (l.filter (par 1)).getLast? = l.getLast? := by
  rcases List.eq_nil_or_concat l with rfl | ⟨l, a, rfl⟩
  · rfl
  · rw [List.concat_eq_append] at h ⊢
    obtain ⟨_, _, h1⟩ := List.pairwise_append.mp h
    have up : ∀ (f : Int → Bool) b, (l.filter f).getLast? = some b → b < a := fun f b hb => h1 b (List.mem_filter.mp (List.mem_of_getLast? hb)).1 a (by simp)
    rw [List.filter_append, List.filter_append]
    rcases Int.emod_two_eq a with ha | ha
    · have e0 : par 0 a = true := decide_eq_true ha
      have e1 : par 1 a = false := by simp [par]; omega
      simp only [List.filter_cons, List.filter_nil, e0, e1, if_true, if_false, Bool.false_eq_true, List.append_nil, List.getLast?_concat]
      cases hb : (l.filter (par 1)).getLast? with
      | none => rfl
      | some b =>
        have := up _ b hb
        show some (max a b) = some a
        congr 1
        omega
    · have e0 : par 0 a = false := by simp [par]; omega
      have e1 : par 1 a = true := decide_eq_true ha
      simp only [List.filter_cons, List.filter_nil, e0, e1, if_true, if_false, Bool.false_eq_true, List.append_nil, List.getLast?_concat]
      cases hb : (l.filter (par 0)).getLast? with
      | none => rfl
      | some b =>
        have := up _ b hb
        show some (max b a) = some a
        congr 1
        omega
theorem ex_head {p : Int} {rs : List Rn} (h : Canon p rs) : (exR rs).head? = rs.head?.map (·.1) := by
  cases rs with
  | nil => rfl
  | cons r rs =>
    obtain ⟨a, b, c⟩ := h.ok r (List.mem_cons_self ..)
    have e : exR (r :: rs) = exR1 r ++ exR rs := rfl
    have e2 : ∃ t, exR1 r = r.1 :: t := by
      unfold exR1 rgI2
      have : rn2 r.1 (r.2 + 1) = (rn2 r.1 (r.2 + 1) - 1) + 1 := by unfold rn2; omega
      rw [this, List.range_succ_eq_map, List.map_cons]
      exact ⟨_, by simp; rfl⟩
    obtain ⟨t, e2⟩ := e2
    rw [e, e2]
    rfl
theorem ex_last {p : Int} {rs : List Rn} (h : Canon p rs) : (exR rs).getLast? = rs.getLast?.map (·.2) := by
  rcases List.eq_nil_or_concat rs with rfl | ⟨l, r, rfl⟩
  · rfl
  · rw [List.concat_eq_append] at h ⊢
    obtain ⟨a, b, c⟩ := h.ok r (by simp)
    have e2 : ∃ t, exR1 r = t ++ [r.2] := by
      unfold exR1 rgI2
      have : rn2 r.1 (r.2 + 1) = (rn2 r.1 (r.2 + 1) - 1) + 1 := by unfold rn2; omega
      rw [this, List.range_succ, List.map_append]
      refine ⟨_, congrArg _ ?_⟩
      simp only [List.map_cons, List.map_nil, List.cons.injEq, and_true]
      unfold rn2
      omega
    obtain ⟨t, e2⟩ := e2
    have e3 : exR [r] = exR1 r := by simp [exR]
    rw [exR_app, e3, e2, ← List.append_assoc, List.getLast?_concat, List.getLast?_concat]
    rfl
end CT
set_option maxHeartbeats 4000000
/-! S13: stretches and blocks, in plain Lean. -/
namespace CT
def bt2 (p lo hi : Int) : List Rn := if lo + (lo + p) % 2 ≤ hi - (hi + p) % 2 then [(lo + (lo + p) % 2, hi - (hi + p) % 2)] else []
theorem bt2_ok {p lo hi : Int} (hp : p = 0 ∨ p = 1) : Canon p (bt2 p lo hi) ∧ ∀ x, x % 2 = p → (mR (bt2 p lo hi) x ↔ lo ≤ x ∧ x ≤ hi) := by
  unfold bt2
  split
  · refine ⟨⟨fun r hr => ?_, by simp⟩, fun x hx => ?_⟩
    · rw [List.mem_singleton.mp hr]
      refine ⟨?_, ?_, ?_⟩ <;> simp only <;> omega
    · rw [mR_cons]
      constructor
      · rintro (⟨h1, h2⟩ | h)
        · simp only at h1 h2
          omega
        · exact absurd h (mR_nil _)
      · intro h
        refine .inl ⟨?_, ?_⟩ <;> simp only <;> omega
  · refine ⟨canon_nil p, fun x hx => ⟨fun h => absurd h (mR_nil _), fun h => ?_⟩⟩
    omega
/-- is in the set of two sides -/
def inW (E O : List Rn) (x : Int) : Prop := (x % 2 = 0 ∧ mR E x) ∨ (x % 2 = 1 ∧ mR O x)
end CT
set_option maxHeartbeats 4000000
namespace CL
open PySem L2 CT
local macro_rules | `(tactic| walk_at "w") => `(tactic| first | ((with_reducible apply gR); first | with_reducible refine w_var rfl ?_ | with_reducible apply w_cons | with_reducible apply w_c | with_reducible apply w_nil | with_reducible apply w_op | with_reducible apply w_ap | with_reducible apply w_call | with_reducible apply w_tst | with_reducible apply w_un | with_reducible apply w_tand | with_reducible apply w_tor | with_reducible apply w_tnot | with_reducible apply w_yes | with_reducible apply w_and | with_reducible apply w_or | with_reducible apply w_not | with_reducible apply w_if | with_reducible apply w_chain | with_reducible apply w_isi | with_reducible apply w_isi2 | with_reducible apply w_prop | with_reducible apply w_meth | with_reducible apply w_dget | with_reducible apply w_dnewF | with_reducible apply w_dnewT | with_reducible apply w_part | with_reducible apply w_noPart | with_reducible apply w_slLF | with_reducible apply w_slA | with_reducible apply w_ok | with_reducible apply w_ofO | with_reducible apply w_lcI | with_reducible apply w_seqI | with_reducible apply w_rng1 | with_reducible apply w_rng2 | with_reducible apply w_enum) | ((with_reducible apply gO); first | with_reducible apply wo_add | with_reducible apply wo_sub | with_reducible apply wo_lt | with_reducible apply wo_gt | with_reducible apply wo_eq | with_reducible apply wo_ne | with_reducible apply wo_le | with_reducible apply wo_ge | with_reducible apply wo_neg | with_reducible apply wo_eqS | with_reducible apply wo_neS | with_reducible apply wo_min | with_reducible apply wo_max | with_reducible apply wo_int | with_reducible apply wo_abs | with_reducible apply wo_tupL | with_reducible apply wo_tupT | with_reducible refine wo_tup (by with_unfolding_all rfl) ?_ | with_reducible refine wo_lstF (by with_unfolding_all rfl) ?_ | with_reducible refine wo_lstT (by with_unfolding_all rfl) ?_ | with_reducible apply wo_fld0 | with_reducible apply wo_fld1 | with_reducible apply wo_fld2) | ((with_reducible apply gS); first | with_reducible apply w_seq | with_reducible apply w_asg | with_reducible apply w_sif | with_reducible apply w_next | with_reducible apply w_ret | with_reducible apply w_par | with_reducible apply w_drop | with_reducible apply w_asgT | with_reducible apply w_retN | with_reducible apply w_brk | with_reducible apply w_cnt | with_reducible apply w_raise | with_reducible apply w_forI) | ((with_reducible apply gI); first | with_reducible apply wI_t | with_reducible apply wI_f | with_reducible apply wI_not) | with_reducible apply w_bl | with_reducible apply thn_nx | with_reducible apply w_int | with_reducible apply w_obj | with_reducible apply thn_rt | with_reducible apply lp_nx | with_reducible apply fnl_int | with_reducible apply fnl_bl | with_reducible apply fnl_non | with_reducible apply fnl_str | with_reducible apply fnl_nx | with_reducible apply thn_bk | with_reducible apply thn_ct | with_reducible apply thn_xc | with_reducible apply lp_rt | with_reducible apply lp_bk | with_reducible apply lp_xc | with_reducible apply w_itL | with_reducible apply w_itT | with_reducible apply w_itK)
local macro_rules | `(tactic| walk_at "p") => `(tactic| repeat walk_at "w")
/-! S14: Wants as sets: the operators, blocks; no program in sight. -/
structure CW (E O : List Rn) : Prop where
  e : Canon 0 E
  o : Canon 1 O
theorem cw_nil : CW [] [] := ⟨canon_nil 0, canon_nil 1⟩
theorem inW_nil (x : Int) : ¬ inW [] [] x := fun h => h.elim (fun h => mR_nil _ h.2) fun h => mR_nil _ h.2
theorem inW_e {E O : List Rn} {x : Int} (hx : x % 2 = 0) : inW E O x ↔ mR E x := ⟨fun h => h.elim (·.2) fun h => by omega, fun h => .inl ⟨hx, h⟩⟩
theorem inW_o {E O : List Rn} {x : Int} (hx : x % 2 = 1) : inW E O x ↔ mR O x := ⟨fun h => h.elim (fun h => by omega) (·.2), fun h => .inr ⟨hx, h⟩⟩
theorem cw_ext {E O E' O' : List Rn} (h : CW E O) (h' : CW E' O') (g : ∀ x, inW E O x ↔ inW E' O' x) : E = E' ∧ O = O' :=
  ⟨canon_inj h.e h'.e fun x hx => by rw [← inW_e (O := O) hx, ← inW_e (O := O') hx]; exact g x, canon_inj h.o h'.o fun x hx => by rw [← inW_o (E := E) hx, ← inW_o (E := E') hx]; exact g x⟩
theorem law_cw (xs : List Int) : CW (lawR 0 xs) (lawR 1 xs) := ⟨(lawR_ok 0 xs).1, (lawR_ok 1 xs).1⟩
theorem law_in (xs : List Int) (x : Int) : inW (lawR 0 xs) (lawR 1 xs) x ↔ x ∈ xs := by
  rcases Int.emod_two_eq x with h | h
  · rw [inW_e h, (lawR_ok 0 xs).2 x h]
  · rw [inW_o h, (lawR_ok 1 xs).2 x h]
theorem law_of {E O : List Rn} {xs : List Int} (h : CW E O) (g : ∀ x, inW E O x ↔ x ∈ xs) : wantD E O = wtD xs := by
  obtain ⟨a, b⟩ := cw_ext h (law_cw xs) fun x => (g x).trans (law_in xs x).symm
  unfold wtD
  rw [a, b]
theorem one_can {p : Int} {r : Rn} (h : RunOk p r) : Canon p [r] := ⟨fun s hs => by rw [List.mem_singleton.mp hs]; exact h, by simp⟩
section
variable {E O : List Rn} (h : CW E O)
include h
omit h in
theorem bt2_in (lo hi x : Int) : inW (bt2 0 lo hi) (bt2 1 lo hi) x ↔ lo ≤ x ∧ x ≤ hi := by
  rcases Int.emod_two_eq x with hx | hx
  · rw [inW_e hx, (bt2_ok (.inl rfl)).2 x hx]
  · rw [inW_o hx, (bt2_ok (.inr rfl)).2 x hx]
end
end CL
set_option maxHeartbeats 4000000
/-! E7: own operators with an int, list(range), extend, two writes, told backwards. -/
namespace CT
open PySem L2
section
variable {Q : D → Store → Prop} {E : Exc → Store → Prop} {F : Fr} {C : Store}
theorem w_revLF {m : ME} (h : wR (m F C) (fun d C1 => ∃ xs, vL d C1 = some xs ∧ Q (.lst xs.reverse) C1) E) : wR (mRevL false m F C) Q E :=
  w_bnd (w_mono h (fun x C1 g => by
    obtain ⟨xs, e, q⟩ := g
    simp only [e]
    exact w_ok q) fun _ _ z => z)
theorem w_rng3F {m m2 m3 : ME} (h : wR (m F C) (fun x C1 => wR (m2 F C1) (fun y C2 => wR (m3 F C2) (fun z C3 => ∃ a b : Int, x = .int a ∧ y = .int b ∧ z = .int 2 ∧ rgOk2 a b = true ∧ Q (.lst ((rgI2 a b).map .int)) C3) E) E) E) : wR (mLRng3 false m m2 m3 F C) Q E :=
  w_bnd (w_mono h (fun x C1 g => w_bnd (w_mono g (fun y C2 g => w_bnd (w_mono g (fun z C3 g => by
    obtain ⟨a, b, rfl, rfl, rfl, e, q⟩ := g
    simp only [e, if_true]
    exact w_ok q) fun _ _ z => z)) fun _ _ z => z)) fun _ _ z => z)
theorem w_extend {mo me : ME} (h : wR (mo F C) (fun o C1 => (vL o C1).isSome = true ∧ wR (me F C1) (fun v C2 => ∃ i ds es, cL o C2 = some (i, ds) ∧ vL v C2 = some es ∧ F.fl ≤ i ∧ ds.length + es.length ≤ 16777216 ∧ Q .non (C2.set i (some (.lst (ds ++ es))))) E) E) : wR (mExtend mo me F C) Q E := by
  unfold mExtend
  refine w_bnd (w_mono h (fun o C1 g => ?_) fun _ _ z => z)
  rw [if_pos g.1]
  refine w_bnd (w_mono g.2 (fun v C2 g => ?_) fun _ _ z => z)
  obtain ⟨i, ds, es, e, e2, hi, hz, q⟩ := g
  have hs : szN (ds.length + es.length) = true := by simp only [szN, decide_eq_true_eq]; omega
  simp only [e, e2, hs, if_true, wr_hi hi]
  exact w_ok q
theorem w_slLT {a : ME} {l u : Fr → Store → R (Option Int)} (h : wR (a F C) (fun x C1 => wR (l F C1) (fun lo C2 => wR (u F C2) (fun hi C3 => ∃ xs, vLs x C3 = some xs ∧ Q (.cell C3.length) (C3 ++ [some (.lst (cutD xs lo hi))])) E) E) E) : wR (mSlL true a l u F C) Q E := w_slL h
end
section
variable {Q : D → Store → Prop} {E : Exc → Store → Prop} {F : Fr} {C : Store}
theorem w_bO {c : Nat} {m : MF} {me : ME} (h : wR (me F C) (fun x C1 => ∃ fs, vO x C1 = some (c, fs) ∧ wR (m [x] C1) (fun d C2 => ∃ s, d = .bl s ∧ Q (.bl s) C2) noX) E) : wR (mBoolO c m me F C) Q E := by
  unfold mBoolO
  refine w_bnd (w_mono h (fun x C1 g => ?_) fun _ _ z => z)
  obtain ⟨fs, e, q⟩ := g
  simp only [e, if_true]
  obtain ⟨d, C2, e2, s, rfl, q⟩ := w_out q
  simp only [e2]
  exact w_ok q
theorem w_nO {neg : Bool} {c : Nat} {m : MF} {mo me : ME} (h : wR (me F C) (fun x C1 => wR (mo F C1) (fun y C2 => isC c y C2 = true ∧ wR (m [y, x] C2) (fun z C3 => ∃ t, z = .bl t ∧ Q (.bl (if neg = true then !t else t)) C3) E) E) E) : wR (mInO neg c m me mo F C) Q E := by
  unfold mInO
  refine w_bnd (w_mono h (fun x C1 g => w_bnd (w_mono g (fun y C2 g => ?_) fun _ _ z => z)) fun _ _ z => z)
  rw [if_pos g.1]
  unfold negB
  refine w_bnd (w_mono g.2 (fun z C3 g => ?_) fun _ _ z => z)
  obtain ⟨t, rfl, q⟩ := g
  exact w_ok q
end
/-! ### a comprehension whose list is an own one -/
/-! ### a def that hands back an own list -/
section
variable {Q : D → Store → Prop} {E : Exc → Store → Prop} {C : Store} {n : Nat}
def fnlO (n : Nat) (Q : D → Store → Prop) (E : Exc → Store → Prop) : RS → Prop := fun r => wR (finOS n r) Q E
theorem w_finO {r : RS} (h : wS r (fnlO n Q E)) : wR (finOS n r) Q E := h.h
theorem fnlO_own {i : Nat} {xs : List D} (hi : n ≤ i) (hC : C[i]? = some (some (.lst xs))) (hc : cbL n xs = true) (h : Q (.cell n) (C.take n ++ [some (.lst xs)])) : fnlO n Q E (.rt (.cell i) C) := by
  show wR (finO n (.cell i) C) Q E
  unfold finO
  simp only [hi, hC, hc, if_true]
  exact w_ok h
end
end CT
set_option maxHeartbeats 4000000
namespace CL
open PySem L2 CT
local macro_rules | `(tactic| walk_at "w") => `(tactic| first | ((with_reducible apply gR); first | with_reducible refine w_var rfl ?_ | with_reducible apply w_cons | with_reducible apply w_c | with_reducible apply w_nil | with_reducible apply w_op | with_reducible apply w_ap | with_reducible apply w_call | with_reducible apply w_tst | with_reducible apply w_un | with_reducible apply w_tand | with_reducible apply w_tor | with_reducible apply w_tnot | with_reducible apply w_yes | with_reducible apply w_and | with_reducible apply w_or | with_reducible apply w_not | with_reducible apply w_if | with_reducible apply w_chain | with_reducible apply w_isi | with_reducible apply w_isi2 | with_reducible apply w_prop | with_reducible apply w_meth | with_reducible apply w_dget | with_reducible apply w_dnewF | with_reducible apply w_dnewT | with_reducible apply w_part | with_reducible apply w_noPart | with_reducible apply w_slLF | with_reducible apply w_slA | with_reducible apply w_ok | with_reducible apply w_ofO | with_reducible apply w_lcI | with_reducible apply w_seqI | with_reducible apply w_rng1 | with_reducible apply w_rng2 | with_reducible apply w_enum) | ((with_reducible apply gO); first | with_reducible apply wo_add | with_reducible apply wo_sub | with_reducible apply wo_lt | with_reducible apply wo_gt | with_reducible apply wo_eq | with_reducible apply wo_ne | with_reducible apply wo_le | with_reducible apply wo_ge | with_reducible apply wo_neg | with_reducible apply wo_eqS | with_reducible apply wo_neS | with_reducible apply wo_min | with_reducible apply wo_max | with_reducible apply wo_int | with_reducible apply wo_abs | with_reducible apply wo_tupL | with_reducible apply wo_tupT | with_reducible refine wo_tup (by with_unfolding_all rfl) ?_ | with_reducible refine wo_lstF (by with_unfolding_all rfl) ?_ | with_reducible refine wo_lstT (by with_unfolding_all rfl) ?_ | with_reducible apply wo_fld0 | with_reducible apply wo_fld1 | with_reducible apply wo_fld2) | ((with_reducible apply gS); first | with_reducible apply w_seq | with_reducible apply w_asg | with_reducible apply w_sif | with_reducible apply w_next | with_reducible apply w_ret | with_reducible apply w_par | with_reducible apply w_drop | with_reducible apply w_asgT | with_reducible apply w_retN | with_reducible apply w_brk | with_reducible apply w_cnt | with_reducible apply w_raise | with_reducible apply w_forI) | ((with_reducible apply gI); first | with_reducible apply wI_t | with_reducible apply wI_f | with_reducible apply wI_not) | with_reducible apply w_bl | with_reducible apply thn_nx | with_reducible apply w_int | with_reducible apply w_obj | with_reducible apply thn_rt | with_reducible apply lp_nx | with_reducible apply fnl_int | with_reducible apply fnl_bl | with_reducible apply fnl_non | with_reducible apply fnl_str | with_reducible apply fnl_nx | with_reducible apply thn_bk | with_reducible apply thn_ct | with_reducible apply thn_xc | with_reducible apply lp_rt | with_reducible apply lp_bk | with_reducible apply lp_xc | with_reducible apply w_itL | with_reducible apply w_itT | with_reducible apply w_itK)
local macro_rules | `(tactic| walk_at "p") => `(tactic| repeat walk_at "w")
local macro_rules | `(tactic| walk_at "w") => `(tactic| first | ((with_reducible apply gR); first | with_reducible refine w_var rfl ?_ | with_reducible apply w_cons | with_reducible apply w_c | with_reducible apply w_nil | with_reducible apply w_op | with_reducible apply w_ap | with_reducible apply w_call | with_reducible apply w_tst | with_reducible apply w_un | with_reducible apply w_tand | with_reducible apply w_tor | with_reducible apply w_tnot | with_reducible apply w_yes | with_reducible apply w_and | with_reducible apply w_or | with_reducible apply w_not | with_reducible apply w_if | with_reducible apply w_chain | with_reducible apply w_isi | with_reducible apply w_isi2 | with_reducible apply w_prop | with_reducible apply w_meth | with_reducible apply w_dget | with_reducible apply w_dnewF | with_reducible apply w_dnewT | with_reducible apply w_part | with_reducible apply w_noPart | with_reducible apply w_slLF | with_reducible apply w_slA | with_reducible apply w_ok | with_reducible apply w_ofO | with_reducible apply w_lcI | with_reducible apply w_seqI | with_reducible apply w_rng1 | with_reducible apply w_rng2 | with_reducible apply w_enum) | ((with_reducible apply gO); first | with_reducible apply wo_add | with_reducible apply wo_sub | with_reducible apply wo_lt | with_reducible apply wo_gt | with_reducible apply wo_eq | with_reducible apply wo_ne | with_reducible apply wo_le | with_reducible apply wo_ge | with_reducible apply wo_neg | with_reducible apply wo_eqS | with_reducible apply wo_neS | with_reducible apply wo_min | with_reducible apply wo_max | with_reducible apply wo_int | with_reducible apply wo_abs | with_reducible apply wo_tupL | with_reducible apply wo_tupT | with_reducible refine wo_tup (by with_unfolding_all rfl) ?_ | with_reducible refine wo_lstF (by with_unfolding_all rfl) ?_ | with_reducible refine wo_lstT (by with_unfolding_all rfl) ?_ | with_reducible apply wo_fld0 | with_reducible apply wo_fld1 | with_reducible apply wo_fld2) | ((with_reducible apply gS); first | with_reducible apply w_seq | with_reducible apply w_asg | with_reducible apply w_sif | with_reducible apply w_next | with_reducible apply w_ret | with_reducible apply w_par | with_reducible apply w_drop | with_reducible apply w_asgT | with_reducible apply w_retN | with_reducible apply w_brk | with_reducible apply w_cnt | with_reducible apply w_raise | with_reducible apply w_forI) | ((with_reducible apply gI); first | with_reducible apply wI_t | with_reducible apply wI_f | with_reducible apply wI_not) | with_reducible apply w_bl | with_reducible apply thn_nx | with_reducible apply w_int | with_reducible apply w_obj | with_reducible apply thn_rt | with_reducible apply lp_nx | with_reducible apply fnl_int | with_reducible apply fnl_bl | with_reducible apply fnl_non | with_reducible apply fnl_str | with_reducible apply fnl_nx | with_reducible apply thn_bk | with_reducible apply thn_ct | with_reducible apply thn_xc | with_reducible apply lp_rt | with_reducible apply lp_bk | with_reducible apply lp_xc | with_reducible apply w_itL | with_reducible apply w_itT | with_reducible apply w_itK)
local macro_rules | `(tactic| walk_at "p") => `(tactic| repeat walk_at "w")
/-! S15n: halves told apart. -/
theorem ne_tup (a b : List Rn) (C : Store) : oEqA true (.tup (rsD a)) (.tup (rsD b)) C = some (.bl (!decide (a = b)), C) := by
  show oEqD true (.tup (rsD a)) (.tup (rsD b)) C = _
  simp [oEqD, toP_tup, shp_t, PyData.eqv, eqv_rs]
end CL
set_option maxHeartbeats 4000000
namespace CL
open PySem L2 CT
local macro_rules | `(tactic| walk_at "w") => `(tactic| first | ((with_reducible apply gR); first | with_reducible refine w_var rfl ?_ | with_reducible apply w_cons | with_reducible apply w_c | with_reducible apply w_nil | with_reducible apply w_op | with_reducible apply w_ap | with_reducible apply w_call | with_reducible apply w_tst | with_reducible apply w_un | with_reducible apply w_tand | with_reducible apply w_tor | with_reducible apply w_tnot | with_reducible apply w_yes | with_reducible apply w_and | with_reducible apply w_or | with_reducible apply w_not | with_reducible apply w_if | with_reducible apply w_chain | with_reducible apply w_isi | with_reducible apply w_isi2 | with_reducible apply w_prop | with_reducible apply w_meth | with_reducible apply w_dget | with_reducible apply w_dnewF | with_reducible apply w_dnewT | with_reducible apply w_part | with_reducible apply w_noPart | with_reducible apply w_slLF | with_reducible apply w_slA | with_reducible apply w_ok | with_reducible apply w_ofO | with_reducible apply w_lcI | with_reducible apply w_seqI | with_reducible apply w_rng1 | with_reducible apply w_rng2 | with_reducible apply w_enum) | ((with_reducible apply gO); first | with_reducible apply wo_add | with_reducible apply wo_sub | with_reducible apply wo_lt | with_reducible apply wo_gt | with_reducible apply wo_eq | with_reducible apply wo_ne | with_reducible apply wo_le | with_reducible apply wo_ge | with_reducible apply wo_neg | with_reducible apply wo_eqS | with_reducible apply wo_neS | with_reducible apply wo_min | with_reducible apply wo_max | with_reducible apply wo_int | with_reducible apply wo_abs | with_reducible apply wo_tupL | with_reducible apply wo_tupT | with_reducible refine wo_tup (by with_unfolding_all rfl) ?_ | with_reducible refine wo_lstF (by with_unfolding_all rfl) ?_ | with_reducible refine wo_lstT (by with_unfolding_all rfl) ?_ | with_reducible apply wo_fld0 | with_reducible apply wo_fld1 | with_reducible apply wo_fld2) | ((with_reducible apply gS); first | with_reducible apply w_seq | with_reducible apply w_asg | with_reducible apply w_sif | with_reducible apply w_next | with_reducible apply w_ret | with_reducible apply w_par | with_reducible apply w_drop | with_reducible apply w_asgT | with_reducible apply w_retN | with_reducible apply w_brk | with_reducible apply w_cnt | with_reducible apply w_raise | with_reducible apply w_forI) | ((with_reducible apply gI); first | with_reducible apply wI_t | with_reducible apply wI_f | with_reducible apply wI_not) | with_reducible apply w_bl | with_reducible apply thn_nx | with_reducible apply w_int | with_reducible apply w_obj | with_reducible apply thn_rt | with_reducible apply lp_nx | with_reducible apply fnl_int | with_reducible apply fnl_bl | with_reducible apply fnl_non | with_reducible apply fnl_str | with_reducible apply fnl_nx | with_reducible apply thn_bk | with_reducible apply thn_ct | with_reducible apply thn_xc | with_reducible apply lp_rt | with_reducible apply lp_bk | with_reducible apply lp_xc | with_reducible apply w_itL | with_reducible apply w_itT | with_reducible apply w_itK)
local macro_rules | `(tactic| walk_at "p") => `(tactic| repeat walk_at "w")
local macro_rules | `(tactic| walk_at "w") => `(tactic| first | ((with_reducible apply gR); first | with_reducible refine w_var rfl ?_ | with_reducible apply w_cons | with_reducible apply w_c | with_reducible apply w_nil | with_reducible apply w_op | with_reducible apply w_ap | with_reducible apply w_call | with_reducible apply w_tst | with_reducible apply w_un | with_reducible apply w_tand | with_reducible apply w_tor | with_reducible apply w_tnot | with_reducible apply w_yes | with_reducible apply w_and | with_reducible apply w_or | with_reducible apply w_not | with_reducible apply w_if | with_reducible apply w_chain | with_reducible apply w_isi | with_reducible apply w_isi2 | with_reducible apply w_prop | with_reducible apply w_meth | with_reducible apply w_dget | with_reducible apply w_dnewF | with_reducible apply w_dnewT | with_reducible apply w_part | with_reducible apply w_noPart | with_reducible apply w_slLF | with_reducible apply w_slA | with_reducible apply w_ok | with_reducible apply w_ofO | with_reducible apply w_lcI | with_reducible apply w_seqI | with_reducible apply w_rng1 | with_reducible apply w_rng2 | with_reducible apply w_enum) | ((with_reducible apply gO); first | with_reducible apply wo_add | with_reducible apply wo_sub | with_reducible apply wo_lt | with_reducible apply wo_gt | with_reducible apply wo_eq | with_reducible apply wo_ne | with_reducible apply wo_le | with_reducible apply wo_ge | with_reducible apply wo_neg | with_reducible apply wo_eqS | with_reducible apply wo_neS | with_reducible apply wo_min | with_reducible apply wo_max | with_reducible apply wo_int | with_reducible apply wo_abs | with_reducible apply wo_tupL | with_reducible apply wo_tupT | with_reducible refine wo_tup (by with_unfolding_all rfl) ?_ | with_reducible refine wo_lstF (by with_unfolding_all rfl) ?_ | with_reducible refine wo_lstT (by with_unfolding_all rfl) ?_ | with_reducible apply wo_fld0 | with_reducible apply wo_fld1 | with_reducible apply wo_fld2) | ((with_reducible apply gS); first | with_reducible apply w_seq | with_reducible apply w_asg | with_reducible apply w_sif | with_reducible apply w_next | with_reducible apply w_ret | with_reducible apply w_par | with_reducible apply w_drop | with_reducible apply w_asgT | with_reducible apply w_retN | with_reducible apply w_brk | with_reducible apply w_cnt | with_reducible apply w_raise | with_reducible apply w_forI) | ((with_reducible apply gI); first | with_reducible apply wI_t | with_reducible apply wI_f | with_reducible apply wI_not) | with_reducible apply w_bl | with_reducible apply thn_nx | with_reducible apply w_int | with_reducible apply w_obj | with_reducible apply thn_rt | with_reducible apply lp_nx | with_reducible apply fnl_int | with_reducible apply fnl_bl | with_reducible apply fnl_non | with_reducible apply fnl_str | with_reducible apply fnl_nx | with_reducible apply thn_bk | with_reducible apply thn_ct | with_reducible apply thn_xc | with_reducible apply lp_rt | with_reducible apply lp_bk | with_reducible apply lp_xc | with_reducible apply w_itL | with_reducible apply w_itT | with_reducible apply w_itK)
local macro_rules | `(tactic| walk_at "p") => `(tactic| repeat walk_at "w")
/-! S16: low, high, many, first of a Want; walked. -/
def neD2 : D → Bool
  | .tup (_ :: _) => true
  | _ => false
def hdD : D → D
  | .tup (.tup (d :: _) :: _) => d
  | _ => .non
def ltD : D → D
  | .tup xs => (match xs.getLast? with
    | some (.tup [_, d]) => d
    | _ => .non)
  | _ => .non
def oD : Option Int → D
  | some i => .int i
  | none => .non
theorem rs_last {l : List Rn} {r : Rn} (h : l.getLast? = some r) : (rsD l).getLast? = some (rD r) := by
  rw [rsD, List.getLast?_map, h]
  rfl
section
variable {C : Store} {Q : D → Store → Prop} {X : Exc → Store → Prop} {E O : List Rn}
theorem wo_lastT {l : List Rn} {r : Rn} (hl : l.getLast? = some r) (h : Q (rD r) C) : wO (oIx (.tup (rsD l)) (.int (-1)) C) Q := by
  have hp : 0 < l.length := by
    cases l with
    | nil => cases hl
    | cons _ _ => simp
  have e : atI (rsD l) (-1) = some (rD r) := by
    unfold atI ixN
    rw [if_neg (by decide), if_pos (by rw [rsD_len]; omega), rsD_len]
    have e1 : ((-1 : Int) + l.length).toNat = l.length - 1 := by omega
    show (rsD l)[((-1 : Int) + l.length).toNat]? = _
    rw [e1, ← rs_last hl, List.getLast?_eq_getElem?, rsD_len]
  refine wo_of (d := rD r) (C' := C) ?_ h
  show ((some (rsD l)).bind fun xs => (atI xs (-1)).map fun d => (d, C)) = _
  rw [Option.bind_some, e]
  rfl
theorem w_mnd {f : Int → Int → Int} {a b : ME} {F : Fr} (h : wR (a F C) (fun x C1 => wR (b F C1) (fun z C2 => ∃ ns, (vL x C2).bind dInts = some ns ∧ (match ns with | [] => Q z C2 | y :: ys => Q (.int (ys.foldl f y)) C2)) X) X) : wR (mMnD f a b F C) Q X := by
  unfold mMnD
  refine w_bnd (w_mono h (fun x C1 g => w_bnd (w_mono g (fun z C2 g => ?_) fun _ _ z => z)) fun _ _ z => z)
  obtain ⟨ns, e, g⟩ := g
  rw [e]
  cases ns with
  | nil => exact w_ok g
  | cons y ys => exact w_ok g
theorem two_t {y : D} (hy : y ∈ [D.tup (rsD E), D.tup (rsD O)]) : ∃ l : List Rn, y = .tup (rsD l) := by
  simp only [List.mem_cons, List.not_mem_nil, or_false] at hy
  rcases hy with rfl | rfl <;> exact ⟨_, rfl⟩
theorem lowA_w (h : Q (oD (loO (E.head?.map (·.1)) (O.head?.map (·.1)))) C) : wR (m_Want_low [wantD E O] C) Q X := by
  rw [e_Want_low]
  apply w_fin
  unfold b_Want_low
  walk_at "p"
  refine w_mnd ?_
  walk_at "p"
  refine ⟨_, rfl, ?_⟩
  refine lc_p (pure_C _) neD2 hdD (by simp) (fun y hy => ?_) (fun y hy hn => ?_) ?_
  · obtain ⟨l, rfl⟩ := two_t hy
    refine ⟨_, rfl, fun acc => ⟨?_, fun hn => ?_⟩⟩
    · walk_at "p"
      refine wo_of (ne_tup l [] _) ?_
      walk_at "p"
      cases l with
      | nil => exact ⟨rfl, rfl⟩
      | cons r l => exact ⟨rfl, rfl⟩
    · cases l with
      | nil => cases hn
      | cons r l =>
        walk_at "p"
        refine wo_ix rfl (k := 0) rfl rfl ?_
        walk_at "p"
        refine wo_ix rfl (k := 0) rfl rfl ?_
        exact ⟨rfl, rfl⟩
  · obtain ⟨l, rfl⟩ := two_t hy
    cases l with
    | nil => cases hn
    | cons r l => rfl
  · walk_at "p"
    cases E with
    | nil =>
      cases O with
      | nil =>
        refine ⟨[], rfl, ?_⟩
        exact fnl_p rfl (by rw [List.take_length]; exact h)
      | cons r O =>
        refine ⟨[r.1], rfl, ?_⟩
        exact fnl_p rfl (by rw [List.take_length]; exact h)
    | cons r E =>
      cases O with
      | nil =>
        refine ⟨[r.1], rfl, ?_⟩
        exact fnl_p rfl (by rw [List.take_length]; exact h)
      | cons r2 O =>
        refine ⟨[r.1, r2.1], rfl, ?_⟩
        exact fnl_p rfl (by rw [List.take_length]; exact h)
theorem highA_w (h : Q (oD (hiO (E.getLast?.map (·.2)) (O.getLast?.map (·.2)))) C) : wR (m_Want_high [wantD E O] C) Q X := by
  have lt : ∀ {l : List Rn} {r : Rn}, l.getLast? = some r → ltD (.tup (rsD l)) = .int r.2 := fun {l r} e => by
    unfold ltD
    simp only [rs_last e]
    rfl
  rw [e_Want_high]
  apply w_fin
  unfold b_Want_high
  walk_at "p"
  refine w_mnd ?_
  walk_at "p"
  refine ⟨_, rfl, ?_⟩
  refine lc_p (pure_C _) neD2 ltD (by simp) (fun y hy => ?_) (fun y hy hn => ?_) ?_
  · obtain ⟨l, rfl⟩ := two_t hy
    refine ⟨_, rfl, fun acc => ⟨?_, fun hn => ?_⟩⟩
    · walk_at "p"
      refine wo_of (ne_tup l [] _) ?_
      walk_at "p"
      cases l with
      | nil => exact ⟨rfl, rfl⟩
      | cons r l => exact ⟨rfl, rfl⟩
    · have hne : l ≠ [] := fun e => by subst e; cases hn
      obtain ⟨r, hr⟩ := last_nil hne
      walk_at "p"
      refine wo_lastT hr ?_
      walk_at "p"
      refine wo_ix rfl (k := 1) rfl rfl ?_
      exact ⟨(lt hr).symm, rfl⟩
  · obtain ⟨l, rfl⟩ := two_t hy
    have hne : l ≠ [] := fun e => by subst e; cases hn
    obtain ⟨r, hr⟩ := last_nil hne
    rw [lt hr]
    rfl
  · walk_at "p"
    by_cases hE : E = []
    · subst hE
      by_cases hO : O = []
      · subst hO
        refine ⟨[], rfl, ?_⟩
        exact fnl_p rfl (by rw [List.take_length]; exact h)
      · obtain ⟨r, hr⟩ := last_nil hO
        have f : neD2 (.tup (rsD O)) = true := by cases O with | nil => exact absurd rfl hO | cons _ _ => rfl
        refine ⟨[r.2], ?_, ?_⟩
        · simp only [List.filter_cons, f, show neD2 (.tup (rsD [])) = false from rfl, if_true, if_false, Bool.false_eq_true, List.filter_nil, List.map_cons, List.map_nil, lt hr]
          rfl
        · rw [hr] at h
          exact fnl_p rfl (by rw [List.take_length]; exact h)
    · obtain ⟨r, hr⟩ := last_nil hE
      have f : neD2 (.tup (rsD E)) = true := by cases E with | nil => exact absurd rfl hE | cons _ _ => rfl
      by_cases hO : O = []
      · subst hO
        refine ⟨[r.2], ?_, ?_⟩
        · simp only [List.filter_cons, f, show neD2 (.tup (rsD [])) = false from rfl, if_true, if_false, Bool.false_eq_true, List.filter_nil, List.map_cons, List.map_nil, lt hr]
          rfl
        · rw [hr] at h
          exact fnl_p rfl (by rw [List.take_length]; exact h)
      · obtain ⟨r2, hr2⟩ := last_nil hO
        have f2 : neD2 (.tup (rsD O)) = true := by cases O with | nil => exact absurd rfl hO | cons _ _ => rfl
        refine ⟨[r.2, r2.2], ?_, ?_⟩
        · simp only [List.filter_cons, f, f2, if_true, List.filter_nil, List.map_cons, List.map_nil, lt hr, lt hr2]
          rfl
        · rw [hr, hr2] at h
          exact fnl_p rfl (by rw [List.take_length]; exact h)
def cnD : D → D → D
  | _, .tup [.int a, .int b] => .int ((b - a) / 2 + 1)
  | _, _ => .non
def itD2 : D → List D
  | .tup xs => xs
  | _ => []
theorem flat_cn (E O : List Rn) : flat2 [.tup (rsD E), .tup (rsD O)] itD2 (fun _ _ => true) cnD = ((E ++ O).map fun r => (r.2 - r.1) / 2 + 1).map D.int := by
  have e : ∀ l : List Rn, ((rsD l).map (cnD (.tup (rsD l)))) = (l.map fun r => (r.2 - r.1) / 2 + 1).map D.int := fun l => by
    rw [rsD, List.map_map, List.map_map]
    rfl
  simp only [flat2, itD2, List.flatMap_cons, List.flatMap_nil, filter_yes, List.append_nil, List.map_append, e]
theorem many_w (hE : E.length ≤ 100000) (hO : O.length ≤ 100000) (h : Q (.int (cntR E + cntR O)) C) : wR (m_Want_many [wantD E O] C) Q X := by
  rw [e_Want_many]
  apply w_fin
  unfold b_Want_many
  walk_at "p"
  refine w_of (ev_lc2 (C := C) (pure_C [.tup (rsD E), .tup (rsD O)]) itD2 (fun _ _ => true) cnD 100000 (ev_seqI (d := hvD E O) rfl rfl) ?_ (by simp) (by omega) ?_ ?_) ?_
  · intro x hx
    simp only [List.mem_cons, List.not_mem_nil, or_false] at hx
    rcases hx with rfl | rfl <;> simpa [itD2]
  · intro x hx
    obtain ⟨l, rfl⟩ := two_t hx
    refine ⟨_, rfl, fun acc => ⟨⟨itC (rsD l), pure_C _, rfl⟩, fun y hy => ?_⟩⟩
    obtain ⟨r, _, rfl⟩ := List.mem_map.mp hy
    refine ⟨_, rfl, fun acc => ⟨rfl, fun _ => ?_⟩⟩
    refine w_eqv ?_
    walk_at "p"
    refine wo_div (by decide) (by decide) ?_
    walk_at "p"
    exact ⟨rfl, rfl⟩
  · intro x hx y hy _
    obtain ⟨l, rfl⟩ := two_t hx
    obtain ⟨r, _, rfl⟩ := List.mem_map.mp hy
    rfl
  · rw [flat_cn]
    walk_at "p"
    refine wo_of (d := .int ((E ++ O).map fun r => (r.2 - r.1) / 2 + 1).sum) (C' := C) (by simp only [oSum, vL, Option.bind_some, dInts_map, Option.map_some]) ?_
    have e : ((E ++ O).map fun r => (r.2 - r.1) / 2 + 1).sum = cntR E + cntR O := by simp [cntR]
    rw [e]
    exact fnl_p rfl (by simpa using h)
end
end CL
set_option maxHeartbeats 4000000
namespace CL
open PySem L2 CT
local macro_rules | `(tactic| walk_at "w") => `(tactic| first | ((with_reducible apply gR); first | with_reducible refine w_var rfl ?_ | with_reducible apply w_cons | with_reducible apply w_c | with_reducible apply w_nil | with_reducible apply w_op | with_reducible apply w_ap | with_reducible apply w_call | with_reducible apply w_tst | with_reducible apply w_un | with_reducible apply w_tand | with_reducible apply w_tor | with_reducible apply w_tnot | with_reducible apply w_yes | with_reducible apply w_and | with_reducible apply w_or | with_reducible apply w_not | with_reducible apply w_if | with_reducible apply w_chain | with_reducible apply w_isi | with_reducible apply w_isi2 | with_reducible apply w_prop | with_reducible apply w_meth | with_reducible apply w_dget | with_reducible apply w_dnewF | with_reducible apply w_dnewT | with_reducible apply w_part | with_reducible apply w_noPart | with_reducible apply w_slLF | with_reducible apply w_slA | with_reducible apply w_ok | with_reducible apply w_ofO | with_reducible apply w_lcI | with_reducible apply w_seqI | with_reducible apply w_rng1 | with_reducible apply w_rng2 | with_reducible apply w_enum) | ((with_reducible apply gO); first | with_reducible apply wo_add | with_reducible apply wo_sub | with_reducible apply wo_lt | with_reducible apply wo_gt | with_reducible apply wo_eq | with_reducible apply wo_ne | with_reducible apply wo_le | with_reducible apply wo_ge | with_reducible apply wo_neg | with_reducible apply wo_eqS | with_reducible apply wo_neS | with_reducible apply wo_min | with_reducible apply wo_max | with_reducible apply wo_int | with_reducible apply wo_abs | with_reducible apply wo_tupL | with_reducible apply wo_tupT | with_reducible refine wo_tup (by with_unfolding_all rfl) ?_ | with_reducible refine wo_lstF (by with_unfolding_all rfl) ?_ | with_reducible refine wo_lstT (by with_unfolding_all rfl) ?_ | with_reducible apply wo_fld0 | with_reducible apply wo_fld1 | with_reducible apply wo_fld2) | ((with_reducible apply gS); first | with_reducible apply w_seq | with_reducible apply w_asg | with_reducible apply w_sif | with_reducible apply w_next | with_reducible apply w_ret | with_reducible apply w_par | with_reducible apply w_drop | with_reducible apply w_asgT | with_reducible apply w_retN | with_reducible apply w_brk | with_reducible apply w_cnt | with_reducible apply w_raise | with_reducible apply w_forI) | ((with_reducible apply gI); first | with_reducible apply wI_t | with_reducible apply wI_f | with_reducible apply wI_not) | with_reducible apply w_bl | with_reducible apply thn_nx | with_reducible apply w_int | with_reducible apply w_obj | with_reducible apply thn_rt | with_reducible apply lp_nx | with_reducible apply fnl_int | with_reducible apply fnl_bl | with_reducible apply fnl_non | with_reducible apply fnl_str | with_reducible apply fnl_nx | with_reducible apply thn_bk | with_reducible apply thn_ct | with_reducible apply thn_xc | with_reducible apply lp_rt | with_reducible apply lp_bk | with_reducible apply lp_xc | with_reducible apply w_itL | with_reducible apply w_itT | with_reducible apply w_itK)
local macro_rules | `(tactic| walk_at "p") => `(tactic| repeat walk_at "w")
local macro_rules | `(tactic| walk_at "w") => `(tactic| first | ((with_reducible apply gR); first | with_reducible refine w_var rfl ?_ | with_reducible apply w_cons | with_reducible apply w_c | with_reducible apply w_nil | with_reducible apply w_op | with_reducible apply w_ap | with_reducible apply w_call | with_reducible apply w_tst | with_reducible apply w_un | with_reducible apply w_tand | with_reducible apply w_tor | with_reducible apply w_tnot | with_reducible apply w_yes | with_reducible apply w_and | with_reducible apply w_or | with_reducible apply w_not | with_reducible apply w_if | with_reducible apply w_chain | with_reducible apply w_isi | with_reducible apply w_isi2 | with_reducible apply w_prop | with_reducible apply w_meth | with_reducible apply w_dget | with_reducible apply w_dnewF | with_reducible apply w_dnewT | with_reducible apply w_part | with_reducible apply w_noPart | with_reducible apply w_slLF | with_reducible apply w_slA | with_reducible apply w_ok | with_reducible apply w_ofO | with_reducible apply w_lcI | with_reducible apply w_seqI | with_reducible apply w_rng1 | with_reducible apply w_rng2 | with_reducible apply w_enum) | ((with_reducible apply gO); first | with_reducible apply wo_add | with_reducible apply wo_sub | with_reducible apply wo_lt | with_reducible apply wo_gt | with_reducible apply wo_eq | with_reducible apply wo_ne | with_reducible apply wo_le | with_reducible apply wo_ge | with_reducible apply wo_neg | with_reducible apply wo_eqS | with_reducible apply wo_neS | with_reducible apply wo_min | with_reducible apply wo_max | with_reducible apply wo_int | with_reducible apply wo_abs | with_reducible apply wo_tupL | with_reducible apply wo_tupT | with_reducible refine wo_tup (by with_unfolding_all rfl) ?_ | with_reducible refine wo_lstF (by with_unfolding_all rfl) ?_ | with_reducible refine wo_lstT (by with_unfolding_all rfl) ?_ | with_reducible apply wo_fld0 | with_reducible apply wo_fld1 | with_reducible apply wo_fld2) | ((with_reducible apply gS); first | with_reducible apply w_seq | with_reducible apply w_asg | with_reducible apply w_sif | with_reducible apply w_next | with_reducible apply w_ret | with_reducible apply w_par | with_reducible apply w_drop | with_reducible apply w_asgT | with_reducible apply w_retN | with_reducible apply w_brk | with_reducible apply w_cnt | with_reducible apply w_raise | with_reducible apply w_forI) | ((with_reducible apply gI); first | with_reducible apply wI_t | with_reducible apply wI_f | with_reducible apply wI_not) | with_reducible apply w_bl | with_reducible apply thn_nx | with_reducible apply w_int | with_reducible apply w_obj | with_reducible apply thn_rt | with_reducible apply lp_nx | with_reducible apply fnl_int | with_reducible apply fnl_bl | with_reducible apply fnl_non | with_reducible apply fnl_str | with_reducible apply fnl_nx | with_reducible apply thn_bk | with_reducible apply thn_ct | with_reducible apply thn_xc | with_reducible apply lp_rt | with_reducible apply lp_bk | with_reducible apply lp_xc | with_reducible apply w_itL | with_reducible apply w_itT | with_reducible apply w_itK)
local macro_rules | `(tactic| walk_at "p") => `(tactic| repeat walk_at "w")
/-! TX: texts put together. -/
@[simp] theorem dStrs_map : ∀ ys : List Str, dStrs (ys.map D.str) = some ys
  | [] => rfl
  | y :: ys => by
    have e := dStrs_map ys
    show (dStrs (ys.map D.str)).map (y :: ·) = _
    rw [e]
    rfl
theorem sum_le {B : Nat} : ∀ {ys : List Str}, (∀ y ∈ ys, y.length ≤ B) → (ys.map (·.length)).sum ≤ B * ys.length
  | [], _ => by simp
  | y :: ys, h => by
    have h1 := h y (List.mem_cons_self ..)
    have h2 := sum_le (ys := ys) fun z hz => h z (List.mem_cons_of_mem _ hz)
    simp only [List.map_cons, List.sum_cons, List.length_cons, Nat.mul_succ]
    omega
section
variable {C : Store} {Q : D → Store → Prop} {X : Exc → Store → Prop}
theorem w_join {mo me : ME} {F : Fr} (h : wR (mo F C) (fun o C1 => ∃ a, o = .str a ∧ wR (me F C1) (fun x C2 => ∃ ys, (vL x C2).bind dStrs = some ys ∧ (ys.map (·.length)).sum + ys.length * a.length ≤ 16777216 ∧ Q (.str (Txt.join a ys)) C2) X) X) : wR (mJoin mo me F C) Q X := by
  unfold mJoin
  refine w_bnd (w_mono h (fun o C1 g => ?_) fun _ _ z => z)
  obtain ⟨a, rfl, g⟩ := g
  refine w_bnd (w_mono g (fun x C2 g => ?_) fun _ _ z => z)
  obtain ⟨ys, e, hz, q⟩ := g
  simp only [e]
  rw [if_pos hz]
  exact w_ok q
theorem wo_strI {i : Int} (hi : i.natAbs < 1000000000000) (h : Q (.str (toString i)) C) : wO (oStrI [.int i] C) Q := wo_of (by simp only [oStrI, log_lt hi, if_true]) h
theorem wo_catS {a b : Str} (hz : a.length + b.length ≤ 16777216) (h : Q (.str (a ++ b)) C) : wO (oCatS (.str a) (.str b) C) Q := wo_of (by simp only [oCatS, hz, if_true]) h
theorem c_dots : ("..": Str).length = 2 := by decide +kernel
theorem c_two : ("/2": Str).length = 2 := by decide +kernel
theorem c_com : (", ": Str).length = 2 := by decide +kernel
end
end CL
set_option maxHeartbeats 4000000
namespace CL
open PySem L2 CT
local macro_rules | `(tactic| walk_at "w") => `(tactic| first | ((with_reducible apply gR); first | with_reducible refine w_var rfl ?_ | with_reducible apply w_cons | with_reducible apply w_c | with_reducible apply w_nil | with_reducible apply w_op | with_reducible apply w_ap | with_reducible apply w_call | with_reducible apply w_tst | with_reducible apply w_un | with_reducible apply w_tand | with_reducible apply w_tor | with_reducible apply w_tnot | with_reducible apply w_yes | with_reducible apply w_and | with_reducible apply w_or | with_reducible apply w_not | with_reducible apply w_if | with_reducible apply w_chain | with_reducible apply w_isi | with_reducible apply w_isi2 | with_reducible apply w_prop | with_reducible apply w_meth | with_reducible apply w_dget | with_reducible apply w_dnewF | with_reducible apply w_dnewT | with_reducible apply w_part | with_reducible apply w_noPart | with_reducible apply w_slLF | with_reducible apply w_slA | with_reducible apply w_ok | with_reducible apply w_ofO | with_reducible apply w_lcI | with_reducible apply w_seqI | with_reducible apply w_rng1 | with_reducible apply w_rng2 | with_reducible apply w_enum) | ((with_reducible apply gO); first | with_reducible apply wo_add | with_reducible apply wo_sub | with_reducible apply wo_lt | with_reducible apply wo_gt | with_reducible apply wo_eq | with_reducible apply wo_ne | with_reducible apply wo_le | with_reducible apply wo_ge | with_reducible apply wo_neg | with_reducible apply wo_eqS | with_reducible apply wo_neS | with_reducible apply wo_min | with_reducible apply wo_max | with_reducible apply wo_int | with_reducible apply wo_abs | with_reducible apply wo_tupL | with_reducible apply wo_tupT | with_reducible refine wo_tup (by with_unfolding_all rfl) ?_ | with_reducible refine wo_lstF (by with_unfolding_all rfl) ?_ | with_reducible refine wo_lstT (by with_unfolding_all rfl) ?_ | with_reducible apply wo_fld0 | with_reducible apply wo_fld1 | with_reducible apply wo_fld2) | ((with_reducible apply gS); first | with_reducible apply w_seq | with_reducible apply w_asg | with_reducible apply w_sif | with_reducible apply w_next | with_reducible apply w_ret | with_reducible apply w_par | with_reducible apply w_drop | with_reducible apply w_asgT | with_reducible apply w_retN | with_reducible apply w_brk | with_reducible apply w_cnt | with_reducible apply w_raise | with_reducible apply w_forI) | ((with_reducible apply gI); first | with_reducible apply wI_t | with_reducible apply wI_f | with_reducible apply wI_not) | with_reducible apply w_bl | with_reducible apply thn_nx | with_reducible apply w_int | with_reducible apply w_obj | with_reducible apply thn_rt | with_reducible apply lp_nx | with_reducible apply fnl_int | with_reducible apply fnl_bl | with_reducible apply fnl_non | with_reducible apply fnl_str | with_reducible apply fnl_nx | with_reducible apply thn_bk | with_reducible apply thn_ct | with_reducible apply thn_xc | with_reducible apply lp_rt | with_reducible apply lp_bk | with_reducible apply lp_xc | with_reducible apply w_itL | with_reducible apply w_itT | with_reducible apply w_itK)
local macro_rules | `(tactic| walk_at "p") => `(tactic| repeat walk_at "w")
local macro_rules | `(tactic| walk_at "w") => `(tactic| first | ((with_reducible apply gR); first | with_reducible refine w_var rfl ?_ | with_reducible apply w_cons | with_reducible apply w_c | with_reducible apply w_nil | with_reducible apply w_op | with_reducible apply w_ap | with_reducible apply w_call | with_reducible apply w_tst | with_reducible apply w_un | with_reducible apply w_tand | with_reducible apply w_tor | with_reducible apply w_tnot | with_reducible apply w_yes | with_reducible apply w_and | with_reducible apply w_or | with_reducible apply w_not | with_reducible apply w_if | with_reducible apply w_chain | with_reducible apply w_isi | with_reducible apply w_isi2 | with_reducible apply w_prop | with_reducible apply w_meth | with_reducible apply w_dget | with_reducible apply w_dnewF | with_reducible apply w_dnewT | with_reducible apply w_part | with_reducible apply w_noPart | with_reducible apply w_slLF | with_reducible apply w_slA | with_reducible apply w_ok | with_reducible apply w_ofO | with_reducible apply w_lcI | with_reducible apply w_seqI | with_reducible apply w_rng1 | with_reducible apply w_rng2 | with_reducible apply w_enum) | ((with_reducible apply gO); first | with_reducible apply wo_add | with_reducible apply wo_sub | with_reducible apply wo_lt | with_reducible apply wo_gt | with_reducible apply wo_eq | with_reducible apply wo_ne | with_reducible apply wo_le | with_reducible apply wo_ge | with_reducible apply wo_neg | with_reducible apply wo_eqS | with_reducible apply wo_neS | with_reducible apply wo_min | with_reducible apply wo_max | with_reducible apply wo_int | with_reducible apply wo_abs | with_reducible apply wo_tupL | with_reducible apply wo_tupT | with_reducible refine wo_tup (by with_unfolding_all rfl) ?_ | with_reducible refine wo_lstF (by with_unfolding_all rfl) ?_ | with_reducible refine wo_lstT (by with_unfolding_all rfl) ?_ | with_reducible apply wo_fld0 | with_reducible apply wo_fld1 | with_reducible apply wo_fld2) | ((with_reducible apply gS); first | with_reducible apply w_seq | with_reducible apply w_asg | with_reducible apply w_sif | with_reducible apply w_next | with_reducible apply w_ret | with_reducible apply w_par | with_reducible apply w_drop | with_reducible apply w_asgT | with_reducible apply w_retN | with_reducible apply w_brk | with_reducible apply w_cnt | with_reducible apply w_raise | with_reducible apply w_forI) | ((with_reducible apply gI); first | with_reducible apply wI_t | with_reducible apply wI_f | with_reducible apply wI_not) | with_reducible apply w_bl | with_reducible apply thn_nx | with_reducible apply w_int | with_reducible apply w_obj | with_reducible apply thn_rt | with_reducible apply lp_nx | with_reducible apply fnl_int | with_reducible apply fnl_bl | with_reducible apply fnl_non | with_reducible apply fnl_str | with_reducible apply fnl_nx | with_reducible apply thn_bk | with_reducible apply thn_ct | with_reducible apply thn_xc | with_reducible apply lp_rt | with_reducible apply lp_bk | with_reducible apply lp_xc | with_reducible apply w_itL | with_reducible apply w_itT | with_reducible apply w_itK)
local macro_rules | `(tactic| walk_at "p") => `(tactic| repeat walk_at "w")
/-! Y1: the text of a Want. -/
def runT (r : Rn) : Str := if r.1 = r.2 then (toString r.1 : Str) else (toString r.1 : Str) ++ ("..": Str) ++ (toString r.2 : Str) ++ ("/2" : Str)
def wantT (l : List Rn) : Str := Txt.join (", " : Str) ((srt l).map runT)
def Tame (l : List Rn) : Prop := l.length ≤ 126 ∧ ∀ r ∈ l, r.1.natAbs < 1000000000000 ∧ r.2.natAbs < 1000000000000
theorem runT_len {r : Rn} (h : r.1.natAbs < 1000000000000 ∧ r.2.natAbs < 1000000000000) : (runT r).length ≤ 30 := by
  have l1 := txt_len h.1
  have l2 := txt_len h.2
  have := c_dots
  have := c_two
  unfold runT
  split
  · omega
  · simp only [Str.length_append]
    omega
theorem want_words {l : List Rn} (h : Tame l) : (((srt l).map runT).map (·.length)).sum + ((srt l).map runT).length * (", " : Str).length ≤ 5000 := by
  have l2 := sum_le (B := 30) (ys := (srt l).map runT) fun y hy => by
    obtain ⟨t, ht, rfl⟩ := List.mem_map.mp hy
    exact runT_len (h.2 t (srt_mem.mp ht))
  have h1 := h.1
  simp only [List.length_map, srt_len] at l2 ⊢
  rw [c_com]
  omega
def runTD : D → D
  | .tup [.int a, .int b] => .str (runT (a, b))
  | _ => .non
section
variable {C : Store} {Q : D → Store → Prop} {X : Exc → Store → Prop}
theorem eq_nilL (l : List Rn) (C : Store) : oEqA false (.lst (rsD l)) (.lst []) C = some (.bl (decide (l = [])), C) := by
  have e : toP C (.lst (rsD l)) = some (.list (rsP l)) := by
    show (toPs C (rsD l)).map PyData.list = _
    rw [toPs_rs]
    rfl
  have e2 : toP C (.lst []) = some (.list []) := rfl
  show oEqD false _ _ C = _
  have e3 := shp_l ([] : List Rn)
  have e4 : PyData.eqvAll (rsP l) [] = decide (l = []) := eqv_rs l []
  have e5 : SeqAt.shaped (.list []) = true := e3
  simp only [oEqD, e, e2, shp_l, e5, Bool.and_self, if_true, PyData.eqv, e4]
  rfl
def itsD : D → List D
  | .tup xs => xs
  | _ => []
theorem flat_hv (E O : List Rn) : flat2 [.tup (rsD E), .tup (rsD O)] itsD (fun _ _ => true) (fun _ y => y) = rsD (E ++ O) := by
  simp [flat2, itsD, rsD, filter_yes]
theorem run_text_x {r : Rn} (h1 : r.1.natAbs < 1000000000000) (h2 : r.2.natAbs < 1000000000000) (h : Q (.str (runT r)) C) : wR (m_run_text [rD r] C) Q X := by
  have l1 := txt_len h1
  have l2 := txt_len h2
  have g1 := log_lt h1
  have g2 := log_lt h2
  have c1 := c_dots
  have c2 := c_two
  rw [e_run_text]
  apply w_fin
  unfold b_run_text
  walk_at "p"
  refine wo_ix rfl (k := 0) rfl rfl ?_
  walk_at "p"
  refine wo_ix rfl (k := 1) rfl rfl ?_
  walk_at "p"
  refine wI_d (fun he => ?_) fun he => ?_
  · walk_at "p"
    refine wo_ix rfl (k := 0) rfl rfl ?_
    walk_at "p"
    refine wo_strI h1 ?_
    walk_at "p"
    rw [List.take_length]
    unfold runT at h
    rw [if_pos he] at h
    exact h
  · have e1 : mOp oIx (mVar 0) (mC (.int 0)) ⟨C.length, [some (rD r)]⟩ C = .ok (.int r.1) C := rfl
    have e2 : mOp oIx (mVar 0) (mC (.int 1)) ⟨C.length, [some (rD r)]⟩ C = .ok (.int r.2) C := rfl
    refine w_of (a := .str (runT r)) (C' := C) ?_ ?_
    · simp only [mFs, fsN, e1, e2, bnd_ok, fmtD, g1, g2, if_true, Str.empty_append]
      rw [if_pos (by omega), if_pos (by simp only [Str.length_append]; omega), if_pos (by simp only [Str.length_append]; omega), if_pos (by simp only [Str.length_append]; omega)]
      unfold runT
      rw [if_neg he]
    · walk_at "p"
      rw [List.take_length]
      exact h
def strT (l : List Rn) : Str := if l = [] then ("none" : Str) else Txt.join (", " : Str) (l.map runT)
theorem strT_ne {l : List Rn} (h : l ≠ []) : strT (srt l) = wantT l := by
  have e : srt l ≠ [] := fun e => h (List.length_eq_zero_iff.mp (by rw [← srt_len, e]; rfl))
  unfold strT wantT
  rw [if_neg e]
theorem str_x {E O : List Rn} (ht : Tame (E ++ O)) (h : Q (.str (strT (srt (E ++ O)))) C) : wR (m_Want__str [wantD E O] C) Q X := by
  have hw := want_words ht
  have h1 := ht.1
  rw [List.length_append] at h1
  rw [e_Want__str]
  apply w_fin
  unfold b_Want__str b_Want__str_0
  walk_at "p"
  refine wo_of (eq_hv _ _ [] [] _) ?_
  walk_at "p"
  refine wI_d (fun z => ?_) fun z => ?_
  · walk_at "p"
    rw [List.take_length]
    obtain ⟨rfl, rfl⟩ := z
    have e : strT (srt (([] : List Rn) ++ [])) = ("none" : Str) := by
      have e0 : srt (([] : List Rn) ++ []) = [] := List.length_eq_zero_iff.mp (by rw [srt_len]; rfl)
      rw [e0]
      exact if_pos rfl
    rw [e] at h
    exact h
  have hn : E ++ O ≠ [] := fun e => z (List.append_eq_nil_iff.mp e)
  rw [strT_ne hn] at h
  walk_at "p"
  unfold b_Want__str_1
  walk_at "p"
  refine w_join ?_
  walk_at "p"
  refine ⟨_, rfl, ?_⟩
  walk_at "p"
  refine w_of (ev_lc2 (C := C) (pure_C [.tup (rsD E), .tup (rsD O)]) itsD (fun _ _ => true) (fun _ y => y) 1000 (ev_seqI (d := hvD E O) rfl rfl) ?_ (by simp) (by omega) ?_ ?_) ?_
  · intro x hx
    simp only [List.mem_cons, List.not_mem_nil, or_false] at hx
    rcases hx with rfl | rfl <;> simp [itsD] <;> omega
  · intro x hx
    have hx' : ∃ l : List Rn, x = .tup (rsD l) := by
      simp only [List.mem_cons, List.not_mem_nil, or_false] at hx
      rcases hx with rfl | rfl <;> exact ⟨_, rfl⟩
    obtain ⟨l, rfl⟩ := hx'
    exact ⟨_, rfl, fun acc => ⟨⟨itC (rsD l), pure_C _, rfl⟩, fun y hy => ⟨_, rfl, fun acc => ⟨rfl, fun _ => rfl⟩⟩⟩⟩
  · intro x hx y hy _
    have hx' : ∃ l : List Rn, x = .tup (rsD l) := by
      simp only [List.mem_cons, List.not_mem_nil, or_false] at hx
      rcases hx with rfl | rfl <;> exact ⟨_, rfl⟩
    obtain ⟨l, rfl⟩ := hx'
    exact cb_of (cb_rs _ l) hy
  · rw [flat_hv]
    walk_at "p"
    refine wo_of (sortQ_l _ _) ?_
    walk_at "p"
    refine lc_p (pure_C _) (fun _ => true) runTD (by rw [rsD_len, srt_len, List.length_append]; omega) (fun x hx => ?_) (fun x hx _ => ?_) ?_
    · obtain ⟨r, hr, rfl⟩ := List.mem_map.mp hx
      obtain ⟨b1, b2⟩ := ht.2 r (srt_mem.mp hr)
      refine ⟨_, rfl, fun acc => ⟨w_yes ⟨rfl, rfl⟩, fun _ => ?_⟩⟩
      walk_at "p"
      exact run_text_x b1 b2 ⟨rfl, rfl⟩
    · obtain ⟨r, hr, rfl⟩ := List.mem_map.mp hx
      rfl
    · have e : (((rsD (srt (E ++ O))).filter fun _ => true).map runTD) = ((srt (E ++ O)).map runT).map .str := by
        rw [filter_yes, rsD, List.map_map, List.map_map]
        rfl
      rw [e]
      refine ⟨(srt (E ++ O)).map runT, ?_, by omega, ?_⟩
      · show dStrs (((srt (E ++ O)).map runT).map D.str) = _
        rw [dStrs_map]
      · walk_at "p"
        rw [List.take_length]
        exact h
theorem law_text_w {l : List Rn} (ht : Tame l) (h : Q (.str (strT l)) C) : wR (m_law_text [.lst (rsD l)] C) Q X := by
  have h1 := ht.1
  have hw : ((l.map runT).map (·.length)).sum + (l.map runT).length * (", " : Str).length ≤ 5000 := by
    have l2 := sum_le (B := 30) (ys := l.map runT) fun y hy => by
      obtain ⟨t, ht', rfl⟩ := List.mem_map.mp hy
      exact runT_len (ht.2 t ht')
    simp only [List.length_map] at l2 ⊢
    rw [c_com]
    omega
  rw [e_law_text]
  apply w_fin
  unfold b_law_text b_law_text_0
  walk_at "p"
  refine wo_of (eq_nilL l C) ?_
  walk_at "p"
  refine wI_d (fun e => ?_) fun e => ?_
  · walk_at "p"
    rw [List.take_length]
    unfold strT at h
    rw [if_pos e] at h
    exact h
  unfold strT at h
  rw [if_neg e] at h
  walk_at "p"
  unfold b_law_text_1
  walk_at "p"
  refine loop_p (pure_C _) (fun j sl S => S = C ++ [some (.lst (((l.take j).map runT).map D.str))] ∧ ∃ s2 s3, sl = [some (.lst (rsD l)), some (.cell C.length), s2, s3]) ⟨rfl, _, _, rfl⟩ ?_ ?_
  · rintro j y sl S hy ⟨rfl, s2, s3, rfl⟩
    obtain ⟨r, hr, rfl⟩ := rs_get hy
    obtain ⟨b1, b2⟩ := ht.2 r (List.mem_of_getElem? hr)
    have hjl : j < l.length := (List.getElem?_eq_some_iff.mp hr).1
    have tkj : l.take (j + 1) = l.take j ++ [r] := by
      rw [← (List.getElem?_eq_some_iff.mp hr).2]
      exact (List.take_append_getElem hjl).symm
    have l1 := txt_len b1
    have l2 := txt_len b2
    have c1 := c_dots
    have c2 := c_two
    refine ⟨[some (.lst (rsD l)), some (.cell C.length), some (.int r.1), some (.int r.2)], rfl, ?_⟩
    generalize hg : ((l.take j).map runT) = g
    have hgl : g.length ≤ 126 := by rw [← hg]; simp only [List.length_map, List.length_take]; omega
    have at_n : (C ++ [some (Cell.lst (g.map D.str))])[C.length]? = some (some (.lst (g.map D.str))) := by simp
    unfold b_law_text_2b_0
    walk_at "p"
    refine w_append ?_
    walk_at "p"
    refine ⟨by simp [vL, at_n], ?_⟩
    walk_at "p"
    have fin : ∀ s : Str, s = runT r → ∃ i ds, cL (.cell C.length) (C ++ [some (Cell.lst (g.map D.str))]) = some (i, ds) ∧ C.length ≤ i ∧ ds.length < 16777216 ∧ lpP (fun j sl S => S = C ++ [some (.lst (((l.take j).map runT).map D.str))] ∧ ∃ s2 s3, sl = [some (.lst (rsD l)), some (.cell C.length), s2, s3]) (j + 1) (thn b_law_text_3 C.length (fnl C.length Q X)) (.nx [some (.lst (rsD l)), some (.cell C.length), some (.int r.1), some (.int r.2)] ((C ++ [some (Cell.lst (g.map D.str))]).set i (some (.lst (ds ++ [.str s]))))) := by
      rintro s rfl
      refine ⟨C.length, g.map D.str, by simp only [cL, at_n], Nat.le_refl _, by simp; omega, lp_nx ⟨?_, _, _, rfl⟩⟩
      rw [tkj, ← hg]
      simp
    refine wI_d (fun he => ?_) fun he => ?_
    · walk_at "p"
      refine wo_strI b1 ?_
      exact fin _ (by unfold runT; rw [if_pos he])
    · walk_at "p"
      refine wo_strI b1 ?_
      walk_at "p"
      refine wo_catS (by omega) ?_
      walk_at "p"
      refine wo_strI b2 ?_
      refine wo_catS (by simp only [Str.length_append]; omega) ?_
      walk_at "p"
      refine wo_catS (by simp only [Str.length_append]; omega) ?_
      exact fin _ (by unfold runT; rw [if_neg he])
  · rintro sl S ⟨rfl, s2, s3, rfl⟩
    rw [rsD_len, List.take_length]
    walk_at "p"
    unfold b_law_text_3
    walk_at "p"
    refine w_join ?_
    walk_at "p"
    refine ⟨_, rfl, ?_⟩
    walk_at "p"
    refine ⟨l.map runT, ?_, by omega, ?_⟩
    · have at_n : (C ++ [some (Cell.lst ((l.map runT).map D.str))])[C.length]? = some (some (.lst ((l.map runT).map D.str))) := by simp
      simp only [vL, at_n, Option.bind_some, dStrs_map]
    · walk_at "p"
      rw [take_app rfl]
      exact h
end
end CL
set_option maxHeartbeats 4000000
namespace CL
open PySem L2 CT
local macro_rules | `(tactic| walk_at "w") => `(tactic| first | ((with_reducible apply gR); first | with_reducible refine w_var rfl ?_ | with_reducible apply w_cons | with_reducible apply w_c | with_reducible apply w_nil | with_reducible apply w_op | with_reducible apply w_ap | with_reducible apply w_call | with_reducible apply w_tst | with_reducible apply w_un | with_reducible apply w_tand | with_reducible apply w_tor | with_reducible apply w_tnot | with_reducible apply w_yes | with_reducible apply w_and | with_reducible apply w_or | with_reducible apply w_not | with_reducible apply w_if | with_reducible apply w_chain | with_reducible apply w_isi | with_reducible apply w_isi2 | with_reducible apply w_prop | with_reducible apply w_meth | with_reducible apply w_dget | with_reducible apply w_dnewF | with_reducible apply w_dnewT | with_reducible apply w_part | with_reducible apply w_noPart | with_reducible apply w_slLF | with_reducible apply w_slA | with_reducible apply w_ok | with_reducible apply w_ofO | with_reducible apply w_lcI | with_reducible apply w_seqI | with_reducible apply w_rng1 | with_reducible apply w_rng2 | with_reducible apply w_enum) | ((with_reducible apply gO); first | with_reducible apply wo_add | with_reducible apply wo_sub | with_reducible apply wo_lt | with_reducible apply wo_gt | with_reducible apply wo_eq | with_reducible apply wo_ne | with_reducible apply wo_le | with_reducible apply wo_ge | with_reducible apply wo_neg | with_reducible apply wo_eqS | with_reducible apply wo_neS | with_reducible apply wo_min | with_reducible apply wo_max | with_reducible apply wo_int | with_reducible apply wo_abs | with_reducible apply wo_tupL | with_reducible apply wo_tupT | with_reducible refine wo_tup (by with_unfolding_all rfl) ?_ | with_reducible refine wo_lstF (by with_unfolding_all rfl) ?_ | with_reducible refine wo_lstT (by with_unfolding_all rfl) ?_ | with_reducible apply wo_fld0 | with_reducible apply wo_fld1 | with_reducible apply wo_fld2) | ((with_reducible apply gS); first | with_reducible apply w_seq | with_reducible apply w_asg | with_reducible apply w_sif | with_reducible apply w_next | with_reducible apply w_ret | with_reducible apply w_par | with_reducible apply w_drop | with_reducible apply w_asgT | with_reducible apply w_retN | with_reducible apply w_brk | with_reducible apply w_cnt | with_reducible apply w_raise | with_reducible apply w_forI) | ((with_reducible apply gI); first | with_reducible apply wI_t | with_reducible apply wI_f | with_reducible apply wI_not) | with_reducible apply w_bl | with_reducible apply thn_nx | with_reducible apply w_int | with_reducible apply w_obj | with_reducible apply thn_rt | with_reducible apply lp_nx | with_reducible apply fnl_int | with_reducible apply fnl_bl | with_reducible apply fnl_non | with_reducible apply fnl_str | with_reducible apply fnl_nx | with_reducible apply thn_bk | with_reducible apply thn_ct | with_reducible apply thn_xc | with_reducible apply lp_rt | with_reducible apply lp_bk | with_reducible apply lp_xc | with_reducible apply w_itL | with_reducible apply w_itT | with_reducible apply w_itK)
local macro_rules | `(tactic| walk_at "p") => `(tactic| repeat walk_at "w")
local macro_rules | `(tactic| walk_at "w") => `(tactic| first | ((with_reducible apply gR); first | with_reducible refine w_var rfl ?_ | with_reducible apply w_cons | with_reducible apply w_c | with_reducible apply w_nil | with_reducible apply w_op | with_reducible apply w_ap | with_reducible apply w_call | with_reducible apply w_tst | with_reducible apply w_un | with_reducible apply w_tand | with_reducible apply w_tor | with_reducible apply w_tnot | with_reducible apply w_yes | with_reducible apply w_and | with_reducible apply w_or | with_reducible apply w_not | with_reducible apply w_if | with_reducible apply w_chain | with_reducible apply w_isi | with_reducible apply w_isi2 | with_reducible apply w_prop | with_reducible apply w_meth | with_reducible apply w_dget | with_reducible apply w_dnewF | with_reducible apply w_dnewT | with_reducible apply w_part | with_reducible apply w_noPart | with_reducible apply w_slLF | with_reducible apply w_slA | with_reducible apply w_ok | with_reducible apply w_ofO | with_reducible apply w_lcI | with_reducible apply w_seqI | with_reducible apply w_rng1 | with_reducible apply w_rng2 | with_reducible apply w_enum) | ((with_reducible apply gO); first | with_reducible apply wo_add | with_reducible apply wo_sub | with_reducible apply wo_lt | with_reducible apply wo_gt | with_reducible apply wo_eq | with_reducible apply wo_ne | with_reducible apply wo_le | with_reducible apply wo_ge | with_reducible apply wo_neg | with_reducible apply wo_eqS | with_reducible apply wo_neS | with_reducible apply wo_min | with_reducible apply wo_max | with_reducible apply wo_int | with_reducible apply wo_abs | with_reducible apply wo_tupL | with_reducible apply wo_tupT | with_reducible refine wo_tup (by with_unfolding_all rfl) ?_ | with_reducible refine wo_lstF (by with_unfolding_all rfl) ?_ | with_reducible refine wo_lstT (by with_unfolding_all rfl) ?_ | with_reducible apply wo_fld0 | with_reducible apply wo_fld1 | with_reducible apply wo_fld2) | ((with_reducible apply gS); first | with_reducible apply w_seq | with_reducible apply w_asg | with_reducible apply w_sif | with_reducible apply w_next | with_reducible apply w_ret | with_reducible apply w_par | with_reducible apply w_drop | with_reducible apply w_asgT | with_reducible apply w_retN | with_reducible apply w_brk | with_reducible apply w_cnt | with_reducible apply w_raise | with_reducible apply w_forI) | ((with_reducible apply gI); first | with_reducible apply wI_t | with_reducible apply wI_f | with_reducible apply wI_not) | with_reducible apply w_bl | with_reducible apply thn_nx | with_reducible apply w_int | with_reducible apply w_obj | with_reducible apply thn_rt | with_reducible apply lp_nx | with_reducible apply fnl_int | with_reducible apply fnl_bl | with_reducible apply fnl_non | with_reducible apply fnl_str | with_reducible apply fnl_nx | with_reducible apply thn_bk | with_reducible apply thn_ct | with_reducible apply thn_xc | with_reducible apply lp_rt | with_reducible apply lp_bk | with_reducible apply lp_xc | with_reducible apply w_itL | with_reducible apply w_itT | with_reducible apply w_itK)
local macro_rules | `(tactic| walk_at "p") => `(tactic| repeat walk_at "w")
/-! Y2: corners, least, greatest of a Want; the law's ends. -/
section
variable {C : Store} {Q : D → Store → Prop} {X : Exc → Store → Prop} {F : Fr} {it : ItD} {g g1 : MG} {tt tt1 : MT} {mi mi1 : MI} {te : ME} {vs vs1 : List Nat}
theorem w_sortSc2 (h : wR (mi F C) (fun it C1 => wR (sc2N it g tt mi1 g1 tt1 te C1.length (wipeD F.sl vs) vs1 it.n 0 [] C1) (fun a C2 => Q (.lst ((srtI a).map .int)) C2) noX) X) : wR (mSortSc2 false mi g tt mi1 g1 tt1 te vs vs1 F C) Q X := by
  unfold mSortSc2
  exact w_bnd (w_mono h (fun it C1 h1 => w_bn0 (w_mono h1 (fun a C2 h2 => w_ok h2) fun _ _ z => z)) fun _ _ z => z)
variable {n r j : Nat} {sl sl1 : List (Option D)} {a : List Int} {d : D} {Q2 : List Int → Store → Prop}
theorem sc2_end (hf : it.fin C = true) (h : Q2 a C) : wR (sc2N it g tt mi1 g1 tt1 te n sl vs1 0 j a C) Q2 noX := by
  unfold sc2N
  rw [if_pos hf]
  exact ⟨h⟩
theorem sc2_go (hi : it.item j C = some d) (hg : g d sl = some sl1) (h : wR (tt ⟨n, sl1⟩ C) (fun b C1 => wI b (wR (mi1 ⟨n, sl1⟩ C1) (fun it1 C2 => wR (scN it1 g1 tt1 te n (wipeD sl1 vs1) it1.n 0 a C2) (fun a' C3 => wR (sc2N it g tt mi1 g1 tt1 te n sl vs1 r (j + 1) a' C3) Q2 noX) noX) noX) (wR (sc2N it g tt mi1 g1 tt1 te n sl vs1 r (j + 1) a C1) Q2 noX)) noX) : wR (sc2N it g tt mi1 g1 tt1 te n sl vs1 (r + 1) j a C) Q2 noX := by
  unfold sc2N
  rw [hi]
  simp only [hg]
  refine w_bn0 (w_mono h (fun b C1 q => ?_) fun _ _ z => z)
  cases b with
  | true =>
    rw [if_pos rfl]
    exact w_bn0 (w_mono (show wR _ _ _ from q.h) (fun it1 C2 q => w_bn0 q) fun _ _ z => z)
  | false =>
    rw [if_neg (by decide)]
    exact q.h
theorem sc_end (hf : it.fin C = true) (h : Q2 a C) : wR (scN it g tt te n sl 0 j a C) Q2 noX := by
  unfold scN
  rw [if_pos hf]
  exact ⟨h⟩
theorem sc_go (hi : it.item j C = some d) (hg : g d sl = some sl1) (hl : a.length < 4000) (h : wR (tt ⟨n, sl1⟩ C) (fun b C1 => wI b (wR (te ⟨n, sl1⟩ C1) (fun y C2 => ∃ x, y = .int x ∧ wR (scN it g tt te n sl r (j + 1) (a ++ [x]) C2) Q2 noX) noX) (wR (scN it g tt te n sl r (j + 1) a C1) Q2 noX)) noX) : wR (scN it g tt te n sl (r + 1) j a C) Q2 noX := by
  unfold scN
  rw [hi]
  simp only [hg]
  refine w_bn0 (w_mono h (fun b C1 q => ?_) fun _ _ z => z)
  cases b with
  | true =>
    rw [if_pos rfl]
    refine w_bn0 (w_mono (show wR _ _ _ from q.h) (fun y C2 q => ?_) fun _ _ z => z)
    obtain ⟨x, rfl, q⟩ := q
    simp only [hl, if_true]
    exact q
  | false =>
    rw [if_neg (by decide)]
    exact q.h
end
def endR (l : List Rn) : List Int := match l.head?, l.getLast? with
  | some a, some b => [a.1, b.2]
  | _, _ => []
theorem endR_len (l : List Rn) : (endR l).length ≤ 2 := by
  unfold endR
  split <;> simp
theorem last_of {l : List Rn} (h : l ≠ []) : ∃ a b, l.head? = some a ∧ l.getLast? = some b := by
  cases l with
  | nil => exact absurd rfl h
  | cons r l => exact ⟨r, _, rfl, List.getLast?_eq_some_getLast (by simp)⟩
section
variable {C : Store} {Q : D → Store → Prop} {X : Exc → Store → Prop} {E O l : List Rn}
theorem wo_headT {r : Rn} (hl : l.head? = some r) (h : Q (rD r) C) : wO (oIx (.tup (rsD l)) (.int 0) C) Q := by
  cases l with
  | nil => cases hl
  | cons q l =>
    obtain rfl := Option.some.inj hl
    exact wo_ix rfl (k := 0) rfl rfl h
theorem corners_w (hE : E.length ≤ 1000) (hO : O.length ≤ 1000) (h : Q (.tup ((srtI (endR E ++ endR O)).map .int)) C) : wR (m_Want_corners [wantD E O] C) Q X := by
  have turn : ∀ (l : List Rn) (r j : Nat) (a : List Int) (Q2 : List Int → Store → Prop), [D.tup (rsD E), D.tup (rsD O)][j]? = some (.tup (rsD l)) → a.length < 100 →
      wR (sc2N (itC [.tup (rsD E), .tup (rsD O)]) (Tgt.nm 1).M (mTst (mOp (oEqA true) (mVar 1) (mAp oTup mNil))) (mSeq (mAp oTup (mCons (mOp oIx (mOp oIx (mVar 1) (mC (.int 0))) (mC (.int 0))) (mCons (mOp oIx (mOp oIx (mVar 1) (mUn oNeg (mC (.int 1)))) (mC (.int 1))) mNil)))) (Tgt.nm 2).M tYesM (mVar 2) C.length (wipeD [some (wantD E O), none, none] [1, 2]) [2] r (j + 1) (a ++ endR l) C) Q2 noX →
      wR (sc2N (itC [.tup (rsD E), .tup (rsD O)]) (Tgt.nm 1).M (mTst (mOp (oEqA true) (mVar 1) (mAp oTup mNil))) (mSeq (mAp oTup (mCons (mOp oIx (mOp oIx (mVar 1) (mC (.int 0))) (mC (.int 0))) (mCons (mOp oIx (mOp oIx (mVar 1) (mUn oNeg (mC (.int 1)))) (mC (.int 1))) mNil)))) (Tgt.nm 2).M tYesM (mVar 2) C.length (wipeD [some (wantD E O), none, none] [1, 2]) [2] (r + 1) j a C) Q2 noX := by
    intro l r j a Q2 hj ha q
    refine sc2_go (d := .tup (rsD l)) (sl1 := [some (wantD E O), some (.tup (rsD l)), none]) ?_ rfl ?_
    · show [D.tup (rsD E), D.tup (rsD O)][j]? = _
      exact hj
    walk_at "p"
    refine wo_of (ne_tup l [] _) ?_
    walk_at "p"
    refine wI_d (fun e => ?_) fun e => ?_
    · have ee : endR l = [] := by rw [e]; rfl
      rw [ee, List.append_nil] at q
      exact q
    · obtain ⟨x, y, hx, hy⟩ := last_of e
      have ee : endR l = [x.1, y.2] := by unfold endR; rw [hx, hy]
      rw [ee] at q
      walk_at "p"
      refine wo_headT hx ?_
      walk_at "p"
      refine wo_ix rfl (k := 0) rfl rfl ?_
      walk_at "p"
      refine wo_lastT hy ?_
      walk_at "p"
      refine wo_ix rfl (k := 1) rfl rfl ?_
      walk_at "p"
      refine sc_go (d := .int x.1) (sl1 := [some (wantD E O), some (.tup (rsD l)), some (.int x.1)]) rfl rfl (by omega) ?_
      walk_at "p"
      refine sc_go (d := .int y.2) (sl1 := [some (wantD E O), some (.tup (rsD l)), some (.int y.2)]) rfl rfl (by simp; omega) ?_
      walk_at "p"
      refine sc_end rfl ?_
      rw [List.append_assoc]
      exact q
  rw [e_Want_corners]
  apply w_fin
  unfold b_Want_corners
  walk_at "p"
  refine w_sortSc2 ?_
  walk_at "p"
  refine ⟨_, rfl, ?_⟩
  have le := endR_len E
  have lo := endR_len O
  refine turn E 1 0 [] _ rfl (by decide) ?_
  refine turn O 0 1 _ _ rfl (by simp; omega) ?_
  refine sc2_end rfl ?_
  walk_at "p"
  exact fnl_p (show cb 0 (.tup _) = true from cbL_ints 0 _) (by rw [List.take_length]; exact h)
theorem least_w {p : Nat} (hp : [D.tup (rsD E), D.tup (rsD O)][p]? = some (.tup (rsD l))) (h : Q (oD (l.head?.map (·.1))) C) : wR (m_Want_least [wantD E O, .int p] C) Q X := by
  rw [e_Want_least]
  apply w_fin
  unfold b_Want_least b_Want_least_0
  walk_at "p"
  refine wo_ix rfl rfl hp ?_
  walk_at "p"
  unfold b_Want_least_1
  walk_at "p"
  refine wo_of (ne_tup l [] _) ?_
  walk_at "p"
  refine wI_d (fun e => ?_) fun e => ?_
  · subst e
    walk_at "p"
    rw [List.take_length]
    exact h
  · obtain ⟨x, y, hx, hy⟩ := last_of e
    walk_at "p"
    refine wo_headT hx ?_
    walk_at "p"
    refine wo_ix rfl (k := 0) rfl rfl ?_
    walk_at "p"
    rw [hx] at h
    rw [List.take_length]
    exact h
theorem greatest_w {p : Nat} (hp : [D.tup (rsD E), D.tup (rsD O)][p]? = some (.tup (rsD l))) (h : Q (oD (l.getLast?.map (·.2))) C) : wR (m_Want_greatest [wantD E O, .int p] C) Q X := by
  rw [e_Want_greatest]
  apply w_fin
  unfold b_Want_greatest b_Want_greatest_0
  walk_at "p"
  refine wo_ix rfl rfl hp ?_
  walk_at "p"
  unfold b_Want_greatest_1
  walk_at "p"
  refine wo_of (ne_tup l [] _) ?_
  walk_at "p"
  refine wI_d (fun e => ?_) fun e => ?_
  · subst e
    walk_at "p"
    rw [List.take_length]
    exact h
  · obtain ⟨x, y, hx, hy⟩ := last_of e
    walk_at "p"
    refine wo_lastT hy ?_
    walk_at "p"
    refine wo_ix rfl (k := 1) rfl rfl ?_
    walk_at "p"
    rw [hy] at h
    rw [List.take_length]
    exact h
theorem ends_w (h : Q (.lst ((endR l).map .int)) C) : wR (m_law_ends [.tup (rsD l)] C) Q X := by
  rw [e_law_ends]
  apply w_fin
  unfold b_law_ends
  walk_at "p"
  refine wo_of (ne_tup l [] _) ?_
  walk_at "p"
  refine wI_d (fun e => ?_) fun e => ?_
  · subst e
    walk_at "p"
    exact fnl_p rfl (by rw [List.take_length]; exact h)
  · obtain ⟨x, y, hx, hy⟩ := last_of e
    have ee : endR l = [x.1, y.2] := by unfold endR; rw [hx, hy]
    rw [ee] at h
    walk_at "p"
    refine wo_headT hx ?_
    walk_at "p"
    refine wo_ix rfl (k := 0) rfl rfl ?_
    walk_at "p"
    refine wo_lastT hy ?_
    walk_at "p"
    refine wo_ix rfl (k := 1) rfl rfl ?_
    walk_at "p"
    exact fnl_p rfl (by rw [List.take_length]; exact h)
end
end CL
set_option maxHeartbeats 4000000
namespace CL
open PySem L2 CT
local macro_rules | `(tactic| walk_at "w") => `(tactic| first | ((with_reducible apply gR); first | with_reducible refine w_var rfl ?_ | with_reducible apply w_cons | with_reducible apply w_c | with_reducible apply w_nil | with_reducible apply w_op | with_reducible apply w_ap | with_reducible apply w_call | with_reducible apply w_tst | with_reducible apply w_un | with_reducible apply w_tand | with_reducible apply w_tor | with_reducible apply w_tnot | with_reducible apply w_yes | with_reducible apply w_and | with_reducible apply w_or | with_reducible apply w_not | with_reducible apply w_if | with_reducible apply w_chain | with_reducible apply w_isi | with_reducible apply w_isi2 | with_reducible apply w_prop | with_reducible apply w_meth | with_reducible apply w_dget | with_reducible apply w_dnewF | with_reducible apply w_dnewT | with_reducible apply w_part | with_reducible apply w_noPart | with_reducible apply w_slLF | with_reducible apply w_slA | with_reducible apply w_ok | with_reducible apply w_ofO | with_reducible apply w_lcI | with_reducible apply w_seqI | with_reducible apply w_rng1 | with_reducible apply w_rng2 | with_reducible apply w_enum) | ((with_reducible apply gO); first | with_reducible apply wo_add | with_reducible apply wo_sub | with_reducible apply wo_lt | with_reducible apply wo_gt | with_reducible apply wo_eq | with_reducible apply wo_ne | with_reducible apply wo_le | with_reducible apply wo_ge | with_reducible apply wo_neg | with_reducible apply wo_eqS | with_reducible apply wo_neS | with_reducible apply wo_min | with_reducible apply wo_max | with_reducible apply wo_int | with_reducible apply wo_abs | with_reducible apply wo_tupL | with_reducible apply wo_tupT | with_reducible refine wo_tup (by with_unfolding_all rfl) ?_ | with_reducible refine wo_lstF (by with_unfolding_all rfl) ?_ | with_reducible refine wo_lstT (by with_unfolding_all rfl) ?_ | with_reducible apply wo_fld0 | with_reducible apply wo_fld1 | with_reducible apply wo_fld2) | ((with_reducible apply gS); first | with_reducible apply w_seq | with_reducible apply w_asg | with_reducible apply w_sif | with_reducible apply w_next | with_reducible apply w_ret | with_reducible apply w_par | with_reducible apply w_drop | with_reducible apply w_asgT | with_reducible apply w_retN | with_reducible apply w_brk | with_reducible apply w_cnt | with_reducible apply w_raise | with_reducible apply w_forI) | ((with_reducible apply gI); first | with_reducible apply wI_t | with_reducible apply wI_f | with_reducible apply wI_not) | with_reducible apply w_bl | with_reducible apply thn_nx | with_reducible apply w_int | with_reducible apply w_obj | with_reducible apply thn_rt | with_reducible apply lp_nx | with_reducible apply fnl_int | with_reducible apply fnl_bl | with_reducible apply fnl_non | with_reducible apply fnl_str | with_reducible apply fnl_nx | with_reducible apply thn_bk | with_reducible apply thn_ct | with_reducible apply thn_xc | with_reducible apply lp_rt | with_reducible apply lp_bk | with_reducible apply lp_xc | with_reducible apply w_itL | with_reducible apply w_itT | with_reducible apply w_itK)
local macro_rules | `(tactic| walk_at "p") => `(tactic| repeat walk_at "w")
local macro_rules | `(tactic| walk_at "w") => `(tactic| first | ((with_reducible apply gR); first | with_reducible refine w_var rfl ?_ | with_reducible apply w_cons | with_reducible apply w_c | with_reducible apply w_nil | with_reducible apply w_op | with_reducible apply w_ap | with_reducible apply w_call | with_reducible apply w_tst | with_reducible apply w_un | with_reducible apply w_tand | with_reducible apply w_tor | with_reducible apply w_tnot | with_reducible apply w_yes | with_reducible apply w_and | with_reducible apply w_or | with_reducible apply w_not | with_reducible apply w_if | with_reducible apply w_chain | with_reducible apply w_isi | with_reducible apply w_isi2 | with_reducible apply w_prop | with_reducible apply w_meth | with_reducible apply w_dget | with_reducible apply w_dnewF | with_reducible apply w_dnewT | with_reducible apply w_part | with_reducible apply w_noPart | with_reducible apply w_slLF | with_reducible apply w_slA | with_reducible apply w_ok | with_reducible apply w_ofO | with_reducible apply w_lcI | with_reducible apply w_seqI | with_reducible apply w_rng1 | with_reducible apply w_rng2 | with_reducible apply w_enum) | ((with_reducible apply gO); first | with_reducible apply wo_add | with_reducible apply wo_sub | with_reducible apply wo_lt | with_reducible apply wo_gt | with_reducible apply wo_eq | with_reducible apply wo_ne | with_reducible apply wo_le | with_reducible apply wo_ge | with_reducible apply wo_neg | with_reducible apply wo_eqS | with_reducible apply wo_neS | with_reducible apply wo_min | with_reducible apply wo_max | with_reducible apply wo_int | with_reducible apply wo_abs | with_reducible apply wo_tupL | with_reducible apply wo_tupT | with_reducible refine wo_tup (by with_unfolding_all rfl) ?_ | with_reducible refine wo_lstF (by with_unfolding_all rfl) ?_ | with_reducible refine wo_lstT (by with_unfolding_all rfl) ?_ | with_reducible apply wo_fld0 | with_reducible apply wo_fld1 | with_reducible apply wo_fld2) | ((with_reducible apply gS); first | with_reducible apply w_seq | with_reducible apply w_asg | with_reducible apply w_sif | with_reducible apply w_next | with_reducible apply w_ret | with_reducible apply w_par | with_reducible apply w_drop | with_reducible apply w_asgT | with_reducible apply w_retN | with_reducible apply w_brk | with_reducible apply w_cnt | with_reducible apply w_raise | with_reducible apply w_forI) | ((with_reducible apply gI); first | with_reducible apply wI_t | with_reducible apply wI_f | with_reducible apply wI_not) | with_reducible apply w_bl | with_reducible apply thn_nx | with_reducible apply w_int | with_reducible apply w_obj | with_reducible apply thn_rt | with_reducible apply lp_nx | with_reducible apply fnl_int | with_reducible apply fnl_bl | with_reducible apply fnl_non | with_reducible apply fnl_str | with_reducible apply fnl_nx | with_reducible apply thn_bk | with_reducible apply thn_ct | with_reducible apply thn_xc | with_reducible apply lp_rt | with_reducible apply lp_bk | with_reducible apply lp_xc | with_reducible apply w_itL | with_reducible apply w_itT | with_reducible apply w_itK)
local macro_rules | `(tactic| walk_at "p") => `(tactic| repeat walk_at "w")
/-! S8r: the law's _runs. -/
section
variable {C : Store} {Q : D → Store → Prop} {X : Exc → Store → Prop} {xs ys : List Int} {p : Int}
theorem sortS_ok (h : xs.length < 64) : oSortS false [.lst (xs.map .int)] C = some (.lst ((srtI xs).map .int), C) := by
  simp only [oSortS, vL, Option.bind_some, dInts_map, h, if_true]
  rfl
theorem runs_w (hl : xs.length < 64) (h : Q (.tup (rsD (lawR p xs))) C) : wR (m_law_runs [.lst (xs.map .int), .int p] C) Q X := by
  have hln := srtI_len1 xs
  rw [e_law_runs]
  apply w_fin
  unfold b_law_runs b_law_runs_0 b_law_runs_1
  walk_at "p"
  refine wo_of (sortS_ok hl) ?_
  walk_at "p"
  refine loop_p (pure_C _) (fun j sl S => S = C ++ [some (.lst (rsD (((srtI xs).take j).foldl (lstep p) [])))] ∧ ∃ s3, sl = [some (.lst (xs.map .int)), some (.int p), some (.cell C.length), s3]) ⟨rfl, _, rfl⟩ ?_ ?_
  · rintro j y sl S hy ⟨rfl, s3, rfl⟩
    rw [List.getElem?_map] at hy
    obtain ⟨x, hx, rfl⟩ := Option.map_eq_some_iff.mp hy
    have hf := fold_take (f := lstep p) (b := []) hx
    have hjl : j < (srtI xs).length := (List.getElem?_eq_some_iff.mp hx).1
    have hlj := lfold_len p ((srtI xs).take j) []
    rw [List.length_take] at hlj
    simp only [List.length_nil] at hlj
    generalize ((srtI xs).take j).foldl (lstep p) [] = f at hlj hf ⊢
    have at_n : (C ++ [some (Cell.lst (rsD f))])[C.length]? = some (some (.lst (rsD f))) := by simp
    refine ⟨[some (.lst (xs.map .int)), some (.int p), some (.cell C.length), some (.int x)], rfl, ?_⟩
    unfold b_law_runs_1b_0
    walk_at "p"
    refine wo_mod (by decide) ?_
    walk_at "p"
    refine wI_d (fun hp => ?_) fun hp => ?_
    · walk_at "p"
      refine wo_of (ne_cell at_n) ?_
      walk_at "p"
      have app : lstep p f x = f ++ [(x, x)] → wS (sDrop (mAppend (mVar 2) (mAp oTup (mCons (mVar 3) (mCons (mVar 3) mNil)))) ⟨C.length, [some (.lst (xs.map .int)), some (.int p), some (.cell C.length), some (.int x)]⟩ (C ++ [some (.lst (rsD f))])) (lpP (fun j sl S => S = C ++ [some (.lst (rsD (((srtI xs).take j).foldl (lstep p) [])))] ∧ ∃ s3, sl = [some (.lst (xs.map .int)), some (.int p), some (.cell C.length), s3]) (j + 1) (thn b_law_runs_2 C.length (fnl C.length Q X))) := fun he => by
        refine appL (r := (x, x)) rfl (Nat.le_refl _) (by omega) ?_ ?_
        · walk_at "p"
          exact ⟨rfl, rfl⟩
        · walk_at "p"
          exact ⟨by rw [hf, he], _, rfl⟩
      refine wI_d (fun he => ?_) fun he => ?_
      · exact wI_f (app (by unfold lstep; rw [if_pos hp, he]; rfl))
      · obtain ⟨q, hq⟩ := last_nil he
        walk_at "p"
        refine wo_last at_n hq ?_
        walk_at "p"
        refine wo_ix rfl (k := 1) rfl rfl ?_
        walk_at "p"
        refine wI_d (fun hc => ?_) fun hc => ?_
        · refine w_setL ?_
          walk_at "p"
          refine wo_last at_n hq ?_
          walk_at "p"
          refine wo_ix rfl (k := 0) rfl rfl ?_
          walk_at "p"
          refine ⟨-1, C.length, rsD f, f.length - 1, _, rfl, by simp only [cL, at_n], ?_, wr_hi (Nat.le_refl _), ?_⟩
          · have hp : 0 < f.length := List.length_pos_iff.mpr he
            rw [rsD_len]
            unfold ixN
            rw [if_neg (by omega), if_pos (by omega)]
            congr 1
            omega
          · walk_at "p"
            refine ⟨?_, _, rfl⟩
            have e1 : lstep p f x = f.dropLast ++ [(q.1, x)] := by
              unfold lstep
              rw [if_pos hp, hq]
              simp only
              rw [if_pos hc]
            rw [hf, e1, ← set_last (r := (q.1, x)) hq]
            simp [rD]
        · exact app (by unfold lstep; rw [if_pos hp, hq]; simp only; rw [if_neg hc])
    · walk_at "p"
      refine ⟨?_, _, rfl⟩
      rw [hf]
      unfold lstep
      rw [if_neg hp]
  · rintro sl S ⟨rfl, s3, rfl⟩
    walk_at "p"
    unfold b_law_runs_2
    walk_at "p"
    refine wo_tupC (xs := rsD (lawR p xs)) ?_ ?_
    · rw [List.length_map, List.take_length]
      simp [lawR]
    · walk_at "p"
      exact fnl_p (cb_tup _ _) (by simpa using h)
theorem gd_runs {l : List Rn} (hl : l.length ≤ 63) (hb : ∀ r ∈ l, r.1.natAbs < 1000000000000 ∧ r.2.natAbs < 1000000000000) : ∃ p, Gd (63 * 83) 2 (.tup (rsD l)) p := by
  obtain ⟨ps, g⟩ := gdl_all (w := 82) (dp := 1) (xs := rsD l) fun x hx => by
    obtain ⟨r, hr, rfl⟩ := List.mem_map.mp hx
    obtain ⟨b1, b2⟩ := hb r hr
    exact ⟨_, (gd_tup (n := 2) (gdl_cons (gd_int b1) (gdl_cons (gd_int b2) gdl_nil)) (by simp)).mono (by decide) (by decide)⟩
  exact ⟨_, gd_tup g (by simpa using hl)⟩
def Small (xs : List Int) : Prop := xs.length < 64 ∧ ∀ x ∈ xs, -1000000000 ≤ x ∧ x ≤ 1000000000
end
end CL
set_option maxHeartbeats 4000000
namespace CL
open PySem L2 CT
local macro_rules | `(tactic| walk_at "w") => `(tactic| first | ((with_reducible apply gR); first | with_reducible refine w_var rfl ?_ | with_reducible apply w_cons | with_reducible apply w_c | with_reducible apply w_nil | with_reducible apply w_op | with_reducible apply w_ap | with_reducible apply w_call | with_reducible apply w_tst | with_reducible apply w_un | with_reducible apply w_tand | with_reducible apply w_tor | with_reducible apply w_tnot | with_reducible apply w_yes | with_reducible apply w_and | with_reducible apply w_or | with_reducible apply w_not | with_reducible apply w_if | with_reducible apply w_chain | with_reducible apply w_isi | with_reducible apply w_isi2 | with_reducible apply w_prop | with_reducible apply w_meth | with_reducible apply w_dget | with_reducible apply w_dnewF | with_reducible apply w_dnewT | with_reducible apply w_part | with_reducible apply w_noPart | with_reducible apply w_slLF | with_reducible apply w_slA | with_reducible apply w_ok | with_reducible apply w_ofO | with_reducible apply w_lcI | with_reducible apply w_seqI | with_reducible apply w_rng1 | with_reducible apply w_rng2 | with_reducible apply w_enum) | ((with_reducible apply gO); first | with_reducible apply wo_add | with_reducible apply wo_sub | with_reducible apply wo_lt | with_reducible apply wo_gt | with_reducible apply wo_eq | with_reducible apply wo_ne | with_reducible apply wo_le | with_reducible apply wo_ge | with_reducible apply wo_neg | with_reducible apply wo_eqS | with_reducible apply wo_neS | with_reducible apply wo_min | with_reducible apply wo_max | with_reducible apply wo_int | with_reducible apply wo_abs | with_reducible apply wo_tupL | with_reducible apply wo_tupT | with_reducible refine wo_tup (by with_unfolding_all rfl) ?_ | with_reducible refine wo_lstF (by with_unfolding_all rfl) ?_ | with_reducible refine wo_lstT (by with_unfolding_all rfl) ?_ | with_reducible apply wo_fld0 | with_reducible apply wo_fld1 | with_reducible apply wo_fld2) | ((with_reducible apply gS); first | with_reducible apply w_seq | with_reducible apply w_asg | with_reducible apply w_sif | with_reducible apply w_next | with_reducible apply w_ret | with_reducible apply w_par | with_reducible apply w_drop | with_reducible apply w_asgT | with_reducible apply w_retN | with_reducible apply w_brk | with_reducible apply w_cnt | with_reducible apply w_raise | with_reducible apply w_forI) | ((with_reducible apply gI); first | with_reducible apply wI_t | with_reducible apply wI_f | with_reducible apply wI_not) | with_reducible apply w_bl | with_reducible apply thn_nx | with_reducible apply w_int | with_reducible apply w_obj | with_reducible apply thn_rt | with_reducible apply lp_nx | with_reducible apply fnl_int | with_reducible apply fnl_bl | with_reducible apply fnl_non | with_reducible apply fnl_str | with_reducible apply fnl_nx | with_reducible apply thn_bk | with_reducible apply thn_ct | with_reducible apply thn_xc | with_reducible apply lp_rt | with_reducible apply lp_bk | with_reducible apply lp_xc | with_reducible apply w_itL | with_reducible apply w_itT | with_reducible apply w_itK)
local macro_rules | `(tactic| walk_at "p") => `(tactic| repeat walk_at "w")
local macro_rules | `(tactic| walk_at "w") => `(tactic| first | ((with_reducible apply gR); first | with_reducible refine w_var rfl ?_ | with_reducible apply w_cons | with_reducible apply w_c | with_reducible apply w_nil | with_reducible apply w_op | with_reducible apply w_ap | with_reducible apply w_call | with_reducible apply w_tst | with_reducible apply w_un | with_reducible apply w_tand | with_reducible apply w_tor | with_reducible apply w_tnot | with_reducible apply w_yes | with_reducible apply w_and | with_reducible apply w_or | with_reducible apply w_not | with_reducible apply w_if | with_reducible apply w_chain | with_reducible apply w_isi | with_reducible apply w_isi2 | with_reducible apply w_prop | with_reducible apply w_meth | with_reducible apply w_dget | with_reducible apply w_dnewF | with_reducible apply w_dnewT | with_reducible apply w_part | with_reducible apply w_noPart | with_reducible apply w_slLF | with_reducible apply w_slA | with_reducible apply w_ok | with_reducible apply w_ofO | with_reducible apply w_lcI | with_reducible apply w_seqI | with_reducible apply w_rng1 | with_reducible apply w_rng2 | with_reducible apply w_enum) | ((with_reducible apply gO); first | with_reducible apply wo_add | with_reducible apply wo_sub | with_reducible apply wo_lt | with_reducible apply wo_gt | with_reducible apply wo_eq | with_reducible apply wo_ne | with_reducible apply wo_le | with_reducible apply wo_ge | with_reducible apply wo_neg | with_reducible apply wo_eqS | with_reducible apply wo_neS | with_reducible apply wo_min | with_reducible apply wo_max | with_reducible apply wo_int | with_reducible apply wo_abs | with_reducible apply wo_tupL | with_reducible apply wo_tupT | with_reducible refine wo_tup (by with_unfolding_all rfl) ?_ | with_reducible refine wo_lstF (by with_unfolding_all rfl) ?_ | with_reducible refine wo_lstT (by with_unfolding_all rfl) ?_ | with_reducible apply wo_fld0 | with_reducible apply wo_fld1 | with_reducible apply wo_fld2) | ((with_reducible apply gS); first | with_reducible apply w_seq | with_reducible apply w_asg | with_reducible apply w_sif | with_reducible apply w_next | with_reducible apply w_ret | with_reducible apply w_par | with_reducible apply w_drop | with_reducible apply w_asgT | with_reducible apply w_retN | with_reducible apply w_brk | with_reducible apply w_cnt | with_reducible apply w_raise | with_reducible apply w_forI) | ((with_reducible apply gI); first | with_reducible apply wI_t | with_reducible apply wI_f | with_reducible apply wI_not) | with_reducible apply w_bl | with_reducible apply thn_nx | with_reducible apply w_int | with_reducible apply w_obj | with_reducible apply thn_rt | with_reducible apply lp_nx | with_reducible apply fnl_int | with_reducible apply fnl_bl | with_reducible apply fnl_non | with_reducible apply fnl_str | with_reducible apply fnl_nx | with_reducible apply thn_bk | with_reducible apply thn_ct | with_reducible apply thn_xc | with_reducible apply lp_rt | with_reducible apply lp_bk | with_reducible apply lp_xc | with_reducible apply w_itL | with_reducible apply w_itT | with_reducible apply w_itK)
local macro_rules | `(tactic| walk_at "p") => `(tactic| repeat walk_at "w")
/-! LK: lists of ints, ascending. -/
theorem cb_is (n : Nat) (l : List Int) : cb n (.lst (l.map .int)) = true := cbL_all fun d hd => by obtain ⟨x, _, rfl⟩ := List.mem_map.mp hd; rfl
/-- a list of up to 60 ints, ascending -/
structure Lk (B : Int) (xs : List Int) : Prop where
  len : xs.length ≤ 60
  up : xs.Pairwise (· < ·)
  bd : ∀ x ∈ xs, -B ≤ x ∧ x ≤ B
theorem Lk.mono {B B' : Int} {xs : List Int} (h : Lk B xs) (g : B ≤ B') : Lk B' xs := ⟨h.len, h.up, fun x hx => by have := h.bd x hx; omega⟩
theorem Lk.small {B : Int} {xs : List Int} (h : Lk B xs) (g : B ≤ 1000000000) : Small xs := ⟨by have := h.len; omega, fun x hx => by have := h.bd x hx; omega⟩
theorem Lk.srt {B : Int} {xs : List Int} (h : Lk B xs) : srtI xs = xs := up_one srtI_up h.up fun x => srtI_mem
theorem law_len2 (xs : List Int) : (lawR 0 xs).length ≤ xs.length ∧ (lawR 1 xs).length ≤ xs.length := ⟨lawR_len 0 xs, lawR_len 1 xs⟩
end CL
set_option maxHeartbeats 4000000
namespace CL
open PySem L2 CT
local macro_rules | `(tactic| walk_at "w") => `(tactic| first | ((with_reducible apply gR); first | with_reducible refine w_var rfl ?_ | with_reducible apply w_cons | with_reducible apply w_c | with_reducible apply w_nil | with_reducible apply w_op | with_reducible apply w_ap | with_reducible apply w_call | with_reducible apply w_tst | with_reducible apply w_un | with_reducible apply w_tand | with_reducible apply w_tor | with_reducible apply w_tnot | with_reducible apply w_yes | with_reducible apply w_and | with_reducible apply w_or | with_reducible apply w_not | with_reducible apply w_if | with_reducible apply w_chain | with_reducible apply w_isi | with_reducible apply w_isi2 | with_reducible apply w_prop | with_reducible apply w_meth | with_reducible apply w_dget | with_reducible apply w_dnewF | with_reducible apply w_dnewT | with_reducible apply w_part | with_reducible apply w_noPart | with_reducible apply w_slLF | with_reducible apply w_slA | with_reducible apply w_ok | with_reducible apply w_ofO | with_reducible apply w_lcI | with_reducible apply w_seqI | with_reducible apply w_rng1 | with_reducible apply w_rng2 | with_reducible apply w_enum) | ((with_reducible apply gO); first | with_reducible apply wo_add | with_reducible apply wo_sub | with_reducible apply wo_lt | with_reducible apply wo_gt | with_reducible apply wo_eq | with_reducible apply wo_ne | with_reducible apply wo_le | with_reducible apply wo_ge | with_reducible apply wo_neg | with_reducible apply wo_eqS | with_reducible apply wo_neS | with_reducible apply wo_min | with_reducible apply wo_max | with_reducible apply wo_int | with_reducible apply wo_abs | with_reducible apply wo_tupL | with_reducible apply wo_tupT | with_reducible refine wo_tup (by with_unfolding_all rfl) ?_ | with_reducible refine wo_lstF (by with_unfolding_all rfl) ?_ | with_reducible refine wo_lstT (by with_unfolding_all rfl) ?_ | with_reducible apply wo_fld0 | with_reducible apply wo_fld1 | with_reducible apply wo_fld2) | ((with_reducible apply gS); first | with_reducible apply w_seq | with_reducible apply w_asg | with_reducible apply w_sif | with_reducible apply w_next | with_reducible apply w_ret | with_reducible apply w_par | with_reducible apply w_drop | with_reducible apply w_asgT | with_reducible apply w_retN | with_reducible apply w_brk | with_reducible apply w_cnt | with_reducible apply w_raise | with_reducible apply w_forI) | ((with_reducible apply gI); first | with_reducible apply wI_t | with_reducible apply wI_f | with_reducible apply wI_not) | with_reducible apply w_bl | with_reducible apply thn_nx | with_reducible apply w_int | with_reducible apply w_obj | with_reducible apply thn_rt | with_reducible apply lp_nx | with_reducible apply fnl_int | with_reducible apply fnl_bl | with_reducible apply fnl_non | with_reducible apply fnl_str | with_reducible apply fnl_nx | with_reducible apply thn_bk | with_reducible apply thn_ct | with_reducible apply thn_xc | with_reducible apply lp_rt | with_reducible apply lp_bk | with_reducible apply lp_xc | with_reducible apply w_itL | with_reducible apply w_itT | with_reducible apply w_itK)
local macro_rules | `(tactic| walk_at "p") => `(tactic| repeat walk_at "w")
local macro_rules | `(tactic| walk_at "w") => `(tactic| first | ((with_reducible apply gR); first | with_reducible refine w_var rfl ?_ | with_reducible apply w_cons | with_reducible apply w_c | with_reducible apply w_nil | with_reducible apply w_op | with_reducible apply w_ap | with_reducible apply w_call | with_reducible apply w_tst | with_reducible apply w_un | with_reducible apply w_tand | with_reducible apply w_tor | with_reducible apply w_tnot | with_reducible apply w_yes | with_reducible apply w_and | with_reducible apply w_or | with_reducible apply w_not | with_reducible apply w_if | with_reducible apply w_chain | with_reducible apply w_isi | with_reducible apply w_isi2 | with_reducible apply w_prop | with_reducible apply w_meth | with_reducible apply w_dget | with_reducible apply w_dnewF | with_reducible apply w_dnewT | with_reducible apply w_part | with_reducible apply w_noPart | with_reducible apply w_slLF | with_reducible apply w_slA | with_reducible apply w_ok | with_reducible apply w_ofO | with_reducible apply w_lcI | with_reducible apply w_seqI | with_reducible apply w_rng1 | with_reducible apply w_rng2 | with_reducible apply w_enum) | ((with_reducible apply gO); first | with_reducible apply wo_add | with_reducible apply wo_sub | with_reducible apply wo_lt | with_reducible apply wo_gt | with_reducible apply wo_eq | with_reducible apply wo_ne | with_reducible apply wo_le | with_reducible apply wo_ge | with_reducible apply wo_neg | with_reducible apply wo_eqS | with_reducible apply wo_neS | with_reducible apply wo_min | with_reducible apply wo_max | with_reducible apply wo_int | with_reducible apply wo_abs | with_reducible apply wo_tupL | with_reducible apply wo_tupT | with_reducible refine wo_tup (by with_unfolding_all rfl) ?_ | with_reducible refine wo_lstF (by with_unfolding_all rfl) ?_ | with_reducible refine wo_lstT (by with_unfolding_all rfl) ?_ | with_reducible apply wo_fld0 | with_reducible apply wo_fld1 | with_reducible apply wo_fld2) | ((with_reducible apply gS); first | with_reducible apply w_seq | with_reducible apply w_asg | with_reducible apply w_sif | with_reducible apply w_next | with_reducible apply w_ret | with_reducible apply w_par | with_reducible apply w_drop | with_reducible apply w_asgT | with_reducible apply w_retN | with_reducible apply w_brk | with_reducible apply w_cnt | with_reducible apply w_raise | with_reducible apply w_forI) | ((with_reducible apply gI); first | with_reducible apply wI_t | with_reducible apply wI_f | with_reducible apply wI_not) | with_reducible apply w_bl | with_reducible apply thn_nx | with_reducible apply w_int | with_reducible apply w_obj | with_reducible apply thn_rt | with_reducible apply lp_nx | with_reducible apply fnl_int | with_reducible apply fnl_bl | with_reducible apply fnl_non | with_reducible apply fnl_str | with_reducible apply fnl_nx | with_reducible apply thn_bk | with_reducible apply thn_ct | with_reducible apply thn_xc | with_reducible apply lp_rt | with_reducible apply lp_bk | with_reducible apply lp_xc | with_reducible apply w_itL | with_reducible apply w_itT | with_reducible apply w_itK)
local macro_rules | `(tactic| walk_at "p") => `(tactic| repeat walk_at "w")
/-! S6e: evens, odds. -/
section
variable {C : Store} {Q : D → Store → Prop} {X : Exc → Store → Prop} {E O : List Rn}
theorem evens_w (h : Q (.tup (rsD E)) C) : wR (m_Want_evens [wantD E O] C) Q X := by
  rw [e_Want_evens]
  apply w_fin
  unfold b_Want_evens
  walk_at "p"
  refine wo_ix rfl (k := 0) rfl rfl ?_
  walk_at "p"
  exact fnl_p (cb_tup _ _) (by simpa using h)
theorem odds_w (h : Q (.tup (rsD O)) C) : wR (m_Want_odds [wantD E O] C) Q X := by
  rw [e_Want_odds]
  apply w_fin
  unfold b_Want_odds
  walk_at "p"
  refine wo_ix rfl (k := 1) rfl rfl ?_
  walk_at "p"
  exact fnl_p (cb_tup _ _) (by simpa using h)
end
end CL
set_option maxHeartbeats 4000000
namespace CL
open PySem L2 CT
local macro_rules | `(tactic| walk_at "w") => `(tactic| first | ((with_reducible apply gR); first | with_reducible refine w_var rfl ?_ | with_reducible apply w_cons | with_reducible apply w_c | with_reducible apply w_nil | with_reducible apply w_op | with_reducible apply w_ap | with_reducible apply w_call | with_reducible apply w_tst | with_reducible apply w_un | with_reducible apply w_tand | with_reducible apply w_tor | with_reducible apply w_tnot | with_reducible apply w_yes | with_reducible apply w_and | with_reducible apply w_or | with_reducible apply w_not | with_reducible apply w_if | with_reducible apply w_chain | with_reducible apply w_isi | with_reducible apply w_isi2 | with_reducible apply w_prop | with_reducible apply w_meth | with_reducible apply w_dget | with_reducible apply w_dnewF | with_reducible apply w_dnewT | with_reducible apply w_part | with_reducible apply w_noPart | with_reducible apply w_slLF | with_reducible apply w_slA | with_reducible apply w_ok | with_reducible apply w_ofO | with_reducible apply w_lcI | with_reducible apply w_seqI | with_reducible apply w_rng1 | with_reducible apply w_rng2 | with_reducible apply w_enum) | ((with_reducible apply gO); first | with_reducible apply wo_add | with_reducible apply wo_sub | with_reducible apply wo_lt | with_reducible apply wo_gt | with_reducible apply wo_eq | with_reducible apply wo_ne | with_reducible apply wo_le | with_reducible apply wo_ge | with_reducible apply wo_neg | with_reducible apply wo_eqS | with_reducible apply wo_neS | with_reducible apply wo_min | with_reducible apply wo_max | with_reducible apply wo_int | with_reducible apply wo_abs | with_reducible apply wo_tupL | with_reducible apply wo_tupT | with_reducible refine wo_tup (by with_unfolding_all rfl) ?_ | with_reducible refine wo_lstF (by with_unfolding_all rfl) ?_ | with_reducible refine wo_lstT (by with_unfolding_all rfl) ?_ | with_reducible apply wo_fld0 | with_reducible apply wo_fld1 | with_reducible apply wo_fld2) | ((with_reducible apply gS); first | with_reducible apply w_seq | with_reducible apply w_asg | with_reducible apply w_sif | with_reducible apply w_next | with_reducible apply w_ret | with_reducible apply w_par | with_reducible apply w_drop | with_reducible apply w_asgT | with_reducible apply w_retN | with_reducible apply w_brk | with_reducible apply w_cnt | with_reducible apply w_raise | with_reducible apply w_forI) | ((with_reducible apply gI); first | with_reducible apply wI_t | with_reducible apply wI_f | with_reducible apply wI_not) | with_reducible apply w_bl | with_reducible apply thn_nx | with_reducible apply w_int | with_reducible apply w_obj | with_reducible apply thn_rt | with_reducible apply lp_nx | with_reducible apply fnl_int | with_reducible apply fnl_bl | with_reducible apply fnl_non | with_reducible apply fnl_str | with_reducible apply fnl_nx | with_reducible apply thn_bk | with_reducible apply thn_ct | with_reducible apply thn_xc | with_reducible apply lp_rt | with_reducible apply lp_bk | with_reducible apply lp_xc | with_reducible apply w_itL | with_reducible apply w_itT | with_reducible apply w_itK)
local macro_rules | `(tactic| walk_at "p") => `(tactic| repeat walk_at "w")
local macro_rules | `(tactic| walk_at "w") => `(tactic| first | ((with_reducible apply gR); first | with_reducible refine w_var rfl ?_ | with_reducible apply w_cons | with_reducible apply w_c | with_reducible apply w_nil | with_reducible apply w_op | with_reducible apply w_ap | with_reducible apply w_call | with_reducible apply w_tst | with_reducible apply w_un | with_reducible apply w_tand | with_reducible apply w_tor | with_reducible apply w_tnot | with_reducible apply w_yes | with_reducible apply w_and | with_reducible apply w_or | with_reducible apply w_not | with_reducible apply w_if | with_reducible apply w_chain | with_reducible apply w_isi | with_reducible apply w_isi2 | with_reducible apply w_prop | with_reducible apply w_meth | with_reducible apply w_dget | with_reducible apply w_dnewF | with_reducible apply w_dnewT | with_reducible apply w_part | with_reducible apply w_noPart | with_reducible apply w_slLF | with_reducible apply w_slA | with_reducible apply w_ok | with_reducible apply w_ofO | with_reducible apply w_lcI | with_reducible apply w_seqI | with_reducible apply w_rng1 | with_reducible apply w_rng2 | with_reducible apply w_enum) | ((with_reducible apply gO); first | with_reducible apply wo_add | with_reducible apply wo_sub | with_reducible apply wo_lt | with_reducible apply wo_gt | with_reducible apply wo_eq | with_reducible apply wo_ne | with_reducible apply wo_le | with_reducible apply wo_ge | with_reducible apply wo_neg | with_reducible apply wo_eqS | with_reducible apply wo_neS | with_reducible apply wo_min | with_reducible apply wo_max | with_reducible apply wo_int | with_reducible apply wo_abs | with_reducible apply wo_tupL | with_reducible apply wo_tupT | with_reducible refine wo_tup (by with_unfolding_all rfl) ?_ | with_reducible refine wo_lstF (by with_unfolding_all rfl) ?_ | with_reducible refine wo_lstT (by with_unfolding_all rfl) ?_ | with_reducible apply wo_fld0 | with_reducible apply wo_fld1 | with_reducible apply wo_fld2) | ((with_reducible apply gS); first | with_reducible apply w_seq | with_reducible apply w_asg | with_reducible apply w_sif | with_reducible apply w_next | with_reducible apply w_ret | with_reducible apply w_par | with_reducible apply w_drop | with_reducible apply w_asgT | with_reducible apply w_retN | with_reducible apply w_brk | with_reducible apply w_cnt | with_reducible apply w_raise | with_reducible apply w_forI) | ((with_reducible apply gI); first | with_reducible apply wI_t | with_reducible apply wI_f | with_reducible apply wI_not) | with_reducible apply w_bl | with_reducible apply thn_nx | with_reducible apply w_int | with_reducible apply w_obj | with_reducible apply thn_rt | with_reducible apply lp_nx | with_reducible apply fnl_int | with_reducible apply fnl_bl | with_reducible apply fnl_non | with_reducible apply fnl_str | with_reducible apply fnl_nx | with_reducible apply thn_bk | with_reducible apply thn_ct | with_reducible apply thn_xc | with_reducible apply lp_rt | with_reducible apply lp_bk | with_reducible apply lp_xc | with_reducible apply w_itL | with_reducible apply w_itT | with_reducible apply w_itK)
local macro_rules | `(tactic| walk_at "p") => `(tactic| repeat walk_at "w")
/-! B1: Want.between. -/
section
variable {C : Store} {Q : D → Store → Prop} {X : Exc → Store → Prop}
def btw (p lo hi : Int) : List Rn := if lo + (lo + p) % 2 ≤ hi - (hi + p) % 2 then [(lo + (lo + p) % 2, hi - (hi + p) % 2)] else []
theorem halves_between_w {lo hi : Int} (h : Q (hvD (btw 0 lo hi) (btw 1 lo hi)) C) : wR (m_halves_between [.int lo, .int hi] C) Q X := by
  rw [e_halves_between]
  apply w_fin
  unfold b_halves_between b_halves_between_0 b_halves_between_1
  walk_at "p"
  refine loop_p (pure_C _) (fun j sl S => S = C ++ [some (.lst ((([0, 1] : List Int).take j).map fun p => .tup (rsD (btw p lo hi))))] ∧ ∃ s3 s4 s5, sl = [some (.int lo), some (.int hi), some (.cell C.length), s3, s4, s5]) ⟨rfl, _, _, _, rfl⟩ ?_ ?_
  · rintro j y sl S hy ⟨rfl, s3, s4, s5, rfl⟩
    have hj : j < 2 := (List.getElem?_eq_some_iff.mp hy).1
    obtain ⟨p, rfl, tkj⟩ : ∃ p : Int, y = .int p ∧ ([0, 1] : List Int).take (j + 1) = ([0, 1] : List Int).take j ++ [p] := by
      match j, hj with
      | 0, _ => exact ⟨0, by simpa using hy.symm, rfl⟩
      | 1, _ => exact ⟨1, by simpa using hy.symm, rfl⟩
    refine ⟨[some (.int lo), some (.int hi), some (.cell C.length), some (.int p), s4, s5], rfl, ?_⟩
    generalize hg : ((([0, 1] : List Int).take j).map fun p => D.tup (rsD (btw p lo hi))) = g
    have hgl : g.length ≤ 2 := by rw [← hg]; simp; omega
    have at_n : (C ++ [some (Cell.lst g)])[C.length]? = some (some (.lst g)) := by simp
    walk_at "p"
    unfold b_halves_between_1b_0
    walk_at "p"
    refine wo_mod (by decide) ?_
    walk_at "p"
    refine wo_mod (by decide) ?_
    walk_at "p"
    refine ⟨_, rfl, ?_⟩
    walk_at "p"
    unfold b_halves_between_1b_1
    walk_at "p"
    refine w_append ?_
    walk_at "p"
    refine ⟨by simp [vL, at_n], ?_⟩
    walk_at "p"
    have fin : ∀ d : D, d = .tup (rsD (btw p lo hi)) → ∃ i ds, cL (.cell C.length) (C ++ [some (Cell.lst g)]) = some (i, ds) ∧ C.length ≤ i ∧ ds.length < 16777216 ∧ lpP (fun j sl S => S = C ++ [some (.lst ((([0, 1] : List Int).take j).map fun p => .tup (rsD (btw p lo hi))))] ∧ ∃ s3 s4 s5, sl = [some (.int lo), some (.int hi), some (.cell C.length), s3, s4, s5]) (j + 1) (thn b_halves_between_2 C.length (fnl C.length Q X)) (.nx [some (.int lo), some (.int hi), some (.cell C.length), some (.int p), some (.int (lo + (lo + p) % 2)), some (.int (hi - (hi + p) % 2))] ((C ++ [some (Cell.lst g)]).set i (some (.lst (ds ++ [d]))))) := by
      rintro d rfl
      refine ⟨C.length, g, by simp only [cL, at_n], Nat.le_refl _, by omega, lp_nx ⟨?_, _, _, _, rfl⟩⟩
      rw [tkj, ← hg]
      simp
    refine wI_d (fun he => ?_) fun he => ?_
    · walk_at "p"
      exact fin _ (by unfold btw; rw [if_pos he]; rfl)
    · walk_at "p"
      exact fin _ (by unfold btw; rw [if_neg he]; rfl)
  · rintro sl S ⟨rfl, s3, s4, s5, rfl⟩
    walk_at "p"
    unfold b_halves_between_2
    walk_at "p"
    refine wo_ix (x := .cell C.length) (xs := [.tup (rsD (btw 0 lo hi)), .tup (rsD (btw 1 lo hi))]) (k := 0) (by simp [vS]) rfl rfl ?_
    walk_at "p"
    refine wo_ix (x := .cell C.length) (xs := [.tup (rsD (btw 0 lo hi)), .tup (rsD (btw 1 lo hi))]) (k := 1) (by simp [vS]) rfl rfl ?_
    walk_at "p"
    exact fnl_p (cb_hv _ _ _) (by rw [take_app rfl]; exact h)
theorem w_mkC {F : Fr} {i c nf : Nat} {m : MF} {me : ME} (e : F.sl[i]? = some (some (.cls c))) (h : wR (mMake false c nf (vaM .kw 1 m) [] (mCons me mNil) F C) Q X) : wR (mMkC i c nf m me F C) Q X := by
  unfold mMkC
  rw [e]
  simp only [if_true]
  exact h
theorem between_w {lo hi : Int} (h1 : -1000000000 ≤ lo ∧ lo ≤ 1000000000) (h2 : -1000000000 ≤ hi ∧ hi ≤ 1000000000) (h : Q (wantD (btw 0 lo hi) (btw 1 lo hi)) C) : wR (clM 0 m_Want_between [.int lo, .int hi] C) Q X := by
  show wR (m_Want_between [.cls 0, .int lo, .int hi] C) Q X
  rw [e_Want_between]
  apply w_fin
  unfold b_Want_between b_Want_between_0
  walk_at "p"
  refine check_w (xs := [lo, hi]) (by simpa using ⟨h1, h2⟩) ?_
  walk_at "p"
  unfold b_Want_between_1
  walk_at "p"
  refine w_mkC rfl (mk_kw ?_)
  walk_at "p"
  exact halves_between_w ⟨_, _, rfl, fnl_p (cb_want _ _ _) (by rw [List.take_length]; exact h)⟩
end
end CL
set_option maxHeartbeats 4000000
namespace CL
open PySem L2 CT
local macro_rules | `(tactic| walk_at "w") => `(tactic| first | ((with_reducible apply gR); first | with_reducible refine w_var rfl ?_ | with_reducible apply w_cons | with_reducible apply w_c | with_reducible apply w_nil | with_reducible apply w_op | with_reducible apply w_ap | with_reducible apply w_call | with_reducible apply w_tst | with_reducible apply w_un | with_reducible apply w_tand | with_reducible apply w_tor | with_reducible apply w_tnot | with_reducible apply w_yes | with_reducible apply w_and | with_reducible apply w_or | with_reducible apply w_not | with_reducible apply w_if | with_reducible apply w_chain | with_reducible apply w_isi | with_reducible apply w_isi2 | with_reducible apply w_prop | with_reducible apply w_meth | with_reducible apply w_dget | with_reducible apply w_dnewF | with_reducible apply w_dnewT | with_reducible apply w_part | with_reducible apply w_noPart | with_reducible apply w_slLF | with_reducible apply w_slA | with_reducible apply w_ok | with_reducible apply w_ofO | with_reducible apply w_lcI | with_reducible apply w_seqI | with_reducible apply w_rng1 | with_reducible apply w_rng2 | with_reducible apply w_enum) | ((with_reducible apply gO); first | with_reducible apply wo_add | with_reducible apply wo_sub | with_reducible apply wo_lt | with_reducible apply wo_gt | with_reducible apply wo_eq | with_reducible apply wo_ne | with_reducible apply wo_le | with_reducible apply wo_ge | with_reducible apply wo_neg | with_reducible apply wo_eqS | with_reducible apply wo_neS | with_reducible apply wo_min | with_reducible apply wo_max | with_reducible apply wo_int | with_reducible apply wo_abs | with_reducible apply wo_tupL | with_reducible apply wo_tupT | with_reducible refine wo_tup (by with_unfolding_all rfl) ?_ | with_reducible refine wo_lstF (by with_unfolding_all rfl) ?_ | with_reducible refine wo_lstT (by with_unfolding_all rfl) ?_ | with_reducible apply wo_fld0 | with_reducible apply wo_fld1 | with_reducible apply wo_fld2) | ((with_reducible apply gS); first | with_reducible apply w_seq | with_reducible apply w_asg | with_reducible apply w_sif | with_reducible apply w_next | with_reducible apply w_ret | with_reducible apply w_par | with_reducible apply w_drop | with_reducible apply w_asgT | with_reducible apply w_retN | with_reducible apply w_brk | with_reducible apply w_cnt | with_reducible apply w_raise | with_reducible apply w_forI) | ((with_reducible apply gI); first | with_reducible apply wI_t | with_reducible apply wI_f | with_reducible apply wI_not) | with_reducible apply w_bl | with_reducible apply thn_nx | with_reducible apply w_int | with_reducible apply w_obj | with_reducible apply thn_rt | with_reducible apply lp_nx | with_reducible apply fnl_int | with_reducible apply fnl_bl | with_reducible apply fnl_non | with_reducible apply fnl_str | with_reducible apply fnl_nx | with_reducible apply thn_bk | with_reducible apply thn_ct | with_reducible apply thn_xc | with_reducible apply lp_rt | with_reducible apply lp_bk | with_reducible apply lp_xc | with_reducible apply w_itL | with_reducible apply w_itT | with_reducible apply w_itK)
local macro_rules | `(tactic| walk_at "p") => `(tactic| repeat walk_at "w")
local macro_rules | `(tactic| walk_at "w") => `(tactic| first | ((with_reducible apply gR); first | with_reducible refine w_var rfl ?_ | with_reducible apply w_cons | with_reducible apply w_c | with_reducible apply w_nil | with_reducible apply w_op | with_reducible apply w_ap | with_reducible apply w_call | with_reducible apply w_tst | with_reducible apply w_un | with_reducible apply w_tand | with_reducible apply w_tor | with_reducible apply w_tnot | with_reducible apply w_yes | with_reducible apply w_and | with_reducible apply w_or | with_reducible apply w_not | with_reducible apply w_if | with_reducible apply w_chain | with_reducible apply w_isi | with_reducible apply w_isi2 | with_reducible apply w_prop | with_reducible apply w_meth | with_reducible apply w_dget | with_reducible apply w_dnewF | with_reducible apply w_dnewT | with_reducible apply w_part | with_reducible apply w_noPart | with_reducible apply w_slLF | with_reducible apply w_slA | with_reducible apply w_ok | with_reducible apply w_ofO | with_reducible apply w_lcI | with_reducible apply w_seqI | with_reducible apply w_rng1 | with_reducible apply w_rng2 | with_reducible apply w_enum) | ((with_reducible apply gO); first | with_reducible apply wo_add | with_reducible apply wo_sub | with_reducible apply wo_lt | with_reducible apply wo_gt | with_reducible apply wo_eq | with_reducible apply wo_ne | with_reducible apply wo_le | with_reducible apply wo_ge | with_reducible apply wo_neg | with_reducible apply wo_eqS | with_reducible apply wo_neS | with_reducible apply wo_min | with_reducible apply wo_max | with_reducible apply wo_int | with_reducible apply wo_abs | with_reducible apply wo_tupL | with_reducible apply wo_tupT | with_reducible refine wo_tup (by with_unfolding_all rfl) ?_ | with_reducible refine wo_lstF (by with_unfolding_all rfl) ?_ | with_reducible refine wo_lstT (by with_unfolding_all rfl) ?_ | with_reducible apply wo_fld0 | with_reducible apply wo_fld1 | with_reducible apply wo_fld2) | ((with_reducible apply gS); first | with_reducible apply w_seq | with_reducible apply w_asg | with_reducible apply w_sif | with_reducible apply w_next | with_reducible apply w_ret | with_reducible apply w_par | with_reducible apply w_drop | with_reducible apply w_asgT | with_reducible apply w_retN | with_reducible apply w_brk | with_reducible apply w_cnt | with_reducible apply w_raise | with_reducible apply w_forI) | ((with_reducible apply gI); first | with_reducible apply wI_t | with_reducible apply wI_f | with_reducible apply wI_not) | with_reducible apply w_bl | with_reducible apply thn_nx | with_reducible apply w_int | with_reducible apply w_obj | with_reducible apply thn_rt | with_reducible apply lp_nx | with_reducible apply fnl_int | with_reducible apply fnl_bl | with_reducible apply fnl_non | with_reducible apply fnl_str | with_reducible apply fnl_nx | with_reducible apply thn_bk | with_reducible apply thn_ct | with_reducible apply thn_xc | with_reducible apply lp_rt | with_reducible apply lp_bk | with_reducible apply lp_xc | with_reducible apply w_itL | with_reducible apply w_itT | with_reducible apply w_itK)
local macro_rules | `(tactic| walk_at "p") => `(tactic| repeat walk_at "w")
/-! K1: in, bool, low, stepped of a Want. -/
def inR1 (x : Int) (r : Rn) : Bool := decide (r.1 ≤ x) && decide (x ≤ r.2)
def hasW (E O : List Rn) (x : Int) : Bool := (if x % 2 = 0 then E else O).any (inR1 x)
def inRD (x : Int) : D → D
  | .tup [.int a, .int b] => .bl (inR1 x (a, b))
  | _ => .non
theorem any_bls (l : List Bool) (C : Store) : oAny [.lst (l.map .bl)] C = some (.bl (l.any id), C) := by
  simp [oAny, vL]
section
variable {C : Store} {Q : D → Store → Prop} {X : Exc → Store → Prop} {E O : List Rn} {xs : List Int} {x : Int}
theorem hasW_law : hasW (lawR 0 xs) (lawR 1 xs) x = decide (x ∈ xs) := by
  unfold hasW
  rw [Bool.eq_iff_iff, decide_eq_true_eq, List.any_eq_true]
  have key : ∀ p, x % 2 = p → ((∃ r ∈ lawR p xs, inR1 x r = true) ↔ x ∈ xs) := fun p hp => by
    rw [← (lawR_ok p xs).2 x hp]
    unfold mR inR1
    simp only [Bool.and_eq_true, decide_eq_true_eq]
  rcases Int.emod_two_eq x with h | h
  · rw [if_pos h]
    exact key 0 h
  · rw [if_neg (by omega)]
    exact key 1 h
theorem contains_w (hE : E.length ≤ 1000) (hO : O.length ≤ 1000) (h : Q (.bl (hasW E O x)) C) : wR (m_Want__contains [wantD E O, .int x] C) Q X := by
  rw [e_Want__contains]
  apply w_fin
  unfold b_Want__contains b_Want__contains_0
  walk_at "p"
  refine w_of (is_integer_int x C) ?_
  walk_at "p"
  unfold b_Want__contains_1
  walk_at "p"
  refine wo_mod (by decide) ?_
  have go : ∀ l : List Rn, l.length ≤ 1000 → l = (if x % 2 = 0 then E else O) → wR (lcR (itC (rsD l)) (Tgt.tp [2, 3]).M tYesM (mChain oLe oLe (mVar 2) (mVar 1) (mVar 3)) [2, 3] ⟨C.length, [some (wantD E O), some (.int x), none, none]⟩ C) (fun d C1 => wR (mNil ⟨C.length, [some (wantD E O), some (.int x), none, none]⟩ C1) (fun ds C2 => wO (oAny (d :: ds) C2) fun d C3 => fnl C.length Q X (.rt d C3)) (fun e C1 => fnl C.length Q X (.xc e [some (wantD E O), some (.int x), none, none] C1))) (fun e C1 => fnl C.length Q X (.xc e [some (wantD E O), some (.int x), none, none] C1)) := by
    intro l hl el
    refine lc_p (pure_C _) (fun _ => true) (inRD x) (by rw [rsD_len]; omega) (fun y hy => ?_) (fun y hy _ => ?_) ?_
    · obtain ⟨r, _, rfl⟩ := List.mem_map.mp hy
      refine ⟨_, rfl, fun acc => ⟨w_yes ⟨rfl, rfl⟩, fun _ => ?_⟩⟩
      walk_at "p"
      refine wI_d (fun h1 => ?_) fun h1 => ?_
      · walk_at "p"
        exact ⟨by simp [inRD, rD, inR1, h1], rfl⟩
      · exact ⟨by simp [inRD, rD, inR1, h1], rfl⟩
    · obtain ⟨r, _, rfl⟩ := List.mem_map.mp hy
      rfl
    · have e : (((rsD l).filter fun _ => true).map (inRD x)) = (l.map (inR1 x)).map .bl := by
        rw [filter_yes, rsD, List.map_map, List.map_map]
        rfl
      rw [e]
      walk_at "p"
      refine wo_of (any_bls _ _) ?_
      walk_at "p"
      have e2 : (l.map (inR1 x)).any id = hasW E O x := by
        unfold hasW
        rw [← el]
        simp
      rw [e2, List.take_length]
      exact h
  rcases Int.emod_two_eq x with hx | hx
  · rw [hx]
    refine wo_ix rfl (k := 0) rfl rfl ?_
    walk_at "p"
    exact go E hE (by rw [if_pos hx])
  · rw [hx]
    refine wo_ix rfl (k := 1) rfl rfl ?_
    walk_at "p"
    exact go O hO (by rw [if_neg (by omega)])
theorem w_orT {a b : ME} {F : Fr} (h : wR (a F C) (fun d C1 => ∃ l : List Rn, d = .tup (rsD l) ∧ ((l = [] → wR (b F C1) Q X) ∧ (l ≠ [] → Q d C1))) X) : wR (mOrT a b F C) Q X := by
  unfold mOrT
  refine w_bnd (w_mono h (fun d C1 g => ?_) fun _ _ z => z)
  obtain ⟨l, rfl, g1, g2⟩ := g
  simp only [vT]
  cases l with
  | nil => exact g1 rfl
  | cons r l => exact w_ok (g2 (by simp))
theorem boolT_rs (l : List Rn) : oBoolT [.tup (rsD l)] C = some (.bl (!l.isEmpty), C) := by
  cases l <;> rfl
def someW (E O : List Rn) : Bool := !(E.isEmpty && O.isEmpty)
theorem bool_w (h : Q (.bl (someW E O)) C) : wR (m_Want__bool [wantD E O] C) Q X := by
  rw [e_Want__bool]
  apply w_fin
  unfold b_Want__bool
  walk_at "p"
  refine w_orT ?_
  walk_at "p"
  refine wo_ix rfl (k := 0) rfl rfl ⟨E, rfl, fun e => ?_, fun e => ?_⟩
  · walk_at "p"
    refine wo_ix rfl (k := 1) rfl rfl ?_
    walk_at "p"
    refine wo_of (boolT_rs _) ?_
    walk_at "p"
    rw [List.take_length]
    subst e
    exact h
  · walk_at "p"
    refine wo_of (boolT_rs _) ?_
    walk_at "p"
    rw [List.take_length]
    have e2 : (!E.isEmpty) = someW E O := by
      cases E with
      | nil => exact absurd rfl e
      | cons r E => rfl
    rw [e2]
    exact h
end
end CL
set_option maxHeartbeats 4000000
namespace CL
open PySem L2 CT
local macro_rules | `(tactic| walk_at "w") => `(tactic| first | ((with_reducible apply gR); first | with_reducible refine w_var rfl ?_ | with_reducible apply w_cons | with_reducible apply w_c | with_reducible apply w_nil | with_reducible apply w_op | with_reducible apply w_ap | with_reducible apply w_call | with_reducible apply w_tst | with_reducible apply w_un | with_reducible apply w_tand | with_reducible apply w_tor | with_reducible apply w_tnot | with_reducible apply w_yes | with_reducible apply w_and | with_reducible apply w_or | with_reducible apply w_not | with_reducible apply w_if | with_reducible apply w_chain | with_reducible apply w_isi | with_reducible apply w_isi2 | with_reducible apply w_prop | with_reducible apply w_meth | with_reducible apply w_dget | with_reducible apply w_dnewF | with_reducible apply w_dnewT | with_reducible apply w_part | with_reducible apply w_noPart | with_reducible apply w_slLF | with_reducible apply w_slA | with_reducible apply w_ok | with_reducible apply w_ofO | with_reducible apply w_lcI | with_reducible apply w_seqI | with_reducible apply w_rng1 | with_reducible apply w_rng2 | with_reducible apply w_enum) | ((with_reducible apply gO); first | with_reducible apply wo_add | with_reducible apply wo_sub | with_reducible apply wo_lt | with_reducible apply wo_gt | with_reducible apply wo_eq | with_reducible apply wo_ne | with_reducible apply wo_le | with_reducible apply wo_ge | with_reducible apply wo_neg | with_reducible apply wo_eqS | with_reducible apply wo_neS | with_reducible apply wo_min | with_reducible apply wo_max | with_reducible apply wo_int | with_reducible apply wo_abs | with_reducible apply wo_tupL | with_reducible apply wo_tupT | with_reducible refine wo_tup (by with_unfolding_all rfl) ?_ | with_reducible refine wo_lstF (by with_unfolding_all rfl) ?_ | with_reducible refine wo_lstT (by with_unfolding_all rfl) ?_ | with_reducible apply wo_fld0 | with_reducible apply wo_fld1 | with_reducible apply wo_fld2) | ((with_reducible apply gS); first | with_reducible apply w_seq | with_reducible apply w_asg | with_reducible apply w_sif | with_reducible apply w_next | with_reducible apply w_ret | with_reducible apply w_par | with_reducible apply w_drop | with_reducible apply w_asgT | with_reducible apply w_retN | with_reducible apply w_brk | with_reducible apply w_cnt | with_reducible apply w_raise | with_reducible apply w_forI) | ((with_reducible apply gI); first | with_reducible apply wI_t | with_reducible apply wI_f | with_reducible apply wI_not) | with_reducible apply w_bl | with_reducible apply thn_nx | with_reducible apply w_int | with_reducible apply w_obj | with_reducible apply thn_rt | with_reducible apply lp_nx | with_reducible apply fnl_int | with_reducible apply fnl_bl | with_reducible apply fnl_non | with_reducible apply fnl_str | with_reducible apply fnl_nx | with_reducible apply thn_bk | with_reducible apply thn_ct | with_reducible apply thn_xc | with_reducible apply lp_rt | with_reducible apply lp_bk | with_reducible apply lp_xc | with_reducible apply w_itL | with_reducible apply w_itT | with_reducible apply w_itK)
local macro_rules | `(tactic| walk_at "p") => `(tactic| repeat walk_at "w")
local macro_rules | `(tactic| walk_at "w") => `(tactic| first | ((with_reducible apply gR); first | with_reducible refine w_var rfl ?_ | with_reducible apply w_cons | with_reducible apply w_c | with_reducible apply w_nil | with_reducible apply w_op | with_reducible apply w_ap | with_reducible apply w_call | with_reducible apply w_tst | with_reducible apply w_un | with_reducible apply w_tand | with_reducible apply w_tor | with_reducible apply w_tnot | with_reducible apply w_yes | with_reducible apply w_and | with_reducible apply w_or | with_reducible apply w_not | with_reducible apply w_if | with_reducible apply w_chain | with_reducible apply w_isi | with_reducible apply w_isi2 | with_reducible apply w_prop | with_reducible apply w_meth | with_reducible apply w_dget | with_reducible apply w_dnewF | with_reducible apply w_dnewT | with_reducible apply w_part | with_reducible apply w_noPart | with_reducible apply w_slLF | with_reducible apply w_slA | with_reducible apply w_ok | with_reducible apply w_ofO | with_reducible apply w_lcI | with_reducible apply w_seqI | with_reducible apply w_rng1 | with_reducible apply w_rng2 | with_reducible apply w_enum) | ((with_reducible apply gO); first | with_reducible apply wo_add | with_reducible apply wo_sub | with_reducible apply wo_lt | with_reducible apply wo_gt | with_reducible apply wo_eq | with_reducible apply wo_ne | with_reducible apply wo_le | with_reducible apply wo_ge | with_reducible apply wo_neg | with_reducible apply wo_eqS | with_reducible apply wo_neS | with_reducible apply wo_min | with_reducible apply wo_max | with_reducible apply wo_int | with_reducible apply wo_abs | with_reducible apply wo_tupL | with_reducible apply wo_tupT | with_reducible refine wo_tup (by with_unfolding_all rfl) ?_ | with_reducible refine wo_lstF (by with_unfolding_all rfl) ?_ | with_reducible refine wo_lstT (by with_unfolding_all rfl) ?_ | with_reducible apply wo_fld0 | with_reducible apply wo_fld1 | with_reducible apply wo_fld2) | ((with_reducible apply gS); first | with_reducible apply w_seq | with_reducible apply w_asg | with_reducible apply w_sif | with_reducible apply w_next | with_reducible apply w_ret | with_reducible apply w_par | with_reducible apply w_drop | with_reducible apply w_asgT | with_reducible apply w_retN | with_reducible apply w_brk | with_reducible apply w_cnt | with_reducible apply w_raise | with_reducible apply w_forI) | ((with_reducible apply gI); first | with_reducible apply wI_t | with_reducible apply wI_f | with_reducible apply wI_not) | with_reducible apply w_bl | with_reducible apply thn_nx | with_reducible apply w_int | with_reducible apply w_obj | with_reducible apply thn_rt | with_reducible apply lp_nx | with_reducible apply fnl_int | with_reducible apply fnl_bl | with_reducible apply fnl_non | with_reducible apply fnl_str | with_reducible apply fnl_nx | with_reducible apply thn_bk | with_reducible apply thn_ct | with_reducible apply thn_xc | with_reducible apply lp_rt | with_reducible apply lp_bk | with_reducible apply lp_xc | with_reducible apply w_itL | with_reducible apply w_itT | with_reducible apply w_itK)
local macro_rules | `(tactic| walk_at "p") => `(tactic| repeat walk_at "w")
/-! S22p: ends, counts of the runs of a list. -/
section
variable {xs : List Int} {B : Int}
theorem ex_law (h : Lk B xs) : exR (lawR 0 xs) = xs.filter (par 0) ∧ exR (lawR 1 xs) = xs.filter (par 1) :=
  ⟨ex_filt (law_cw xs).e h.up fun x hp => (lawR_ok 0 xs).2 x hp, ex_filt (law_cw xs).o h.up fun x hp => (lawR_ok 1 xs).2 x hp⟩
theorem low_law (h : Lk B xs) : loO ((lawR 0 xs).head?.map (·.1)) ((lawR 1 xs).head?.map (·.1)) = xs.head? := by
  rw [← ex_head (law_cw xs).e, ← ex_head (law_cw xs).o, (ex_law h).1, (ex_law h).2]
  exact head_parts h.up
theorem high_law (h : Lk B xs) : hiO ((lawR 0 xs).getLast?.map (·.2)) ((lawR 1 xs).getLast?.map (·.2)) = xs.getLast? := by
  rw [← ex_last (law_cw xs).e, ← ex_last (law_cw xs).o, (ex_law h).1, (ex_law h).2]
  exact last_parts h.up
theorem cnt_law (h : Lk B xs) : cntR (lawR 0 xs) + cntR (lawR 1 xs) = xs.length := by
  rw [← exR_len (law_cw xs).e, ← exR_len (law_cw xs).o, (ex_law h).1, (ex_law h).2]
  have := part_len xs
  omega
theorem some_law : someW (lawR 0 xs) (lawR 1 xs) = !decide (xs = []) := by
  rw [Bool.eq_iff_iff]
  unfold someW
  simp only [Bool.not_eq_true', Bool.and_eq_false_iff, decide_eq_false_iff_not, List.isEmpty_eq_false_iff]
  constructor
  · rintro (h | h) e
    · subst e; exact h rfl
    · subst e; exact h rfl
  · intro h
    obtain ⟨x, ys, rfl⟩ : ∃ x ys, xs = x :: ys := by
      cases xs with
      | nil => exact absurd rfl h
      | cons x ys => exact ⟨x, ys, rfl⟩
    rcases Int.emod_two_eq x with hx | hx
    · refine .inl fun e => ?_
      have := ((lawR_ok 0 (x :: ys)).2 x hx).mpr (List.mem_cons_self ..)
      rw [e] at this
      exact mR_nil _ this
    · refine .inr fun e => ?_
      have := ((lawR_ok 1 (x :: ys)).2 x hx).mpr (List.mem_cons_self ..)
      rw [e] at this
      exact mR_nil _ this
end
end CL
set_option maxHeartbeats 4000000
namespace CL
open PySem L2 CT
local macro_rules | `(tactic| walk_at "w") => `(tactic| first | ((with_reducible apply gR); first | with_reducible refine w_var rfl ?_ | with_reducible apply w_cons | with_reducible apply w_c | with_reducible apply w_nil | with_reducible apply w_op | with_reducible apply w_ap | with_reducible apply w_call | with_reducible apply w_tst | with_reducible apply w_un | with_reducible apply w_tand | with_reducible apply w_tor | with_reducible apply w_tnot | with_reducible apply w_yes | with_reducible apply w_and | with_reducible apply w_or | with_reducible apply w_not | with_reducible apply w_if | with_reducible apply w_chain | with_reducible apply w_isi | with_reducible apply w_isi2 | with_reducible apply w_prop | with_reducible apply w_meth | with_reducible apply w_dget | with_reducible apply w_dnewF | with_reducible apply w_dnewT | with_reducible apply w_part | with_reducible apply w_noPart | with_reducible apply w_slLF | with_reducible apply w_slA | with_reducible apply w_ok | with_reducible apply w_ofO | with_reducible apply w_lcI | with_reducible apply w_seqI | with_reducible apply w_rng1 | with_reducible apply w_rng2 | with_reducible apply w_enum) | ((with_reducible apply gO); first | with_reducible apply wo_add | with_reducible apply wo_sub | with_reducible apply wo_lt | with_reducible apply wo_gt | with_reducible apply wo_eq | with_reducible apply wo_ne | with_reducible apply wo_le | with_reducible apply wo_ge | with_reducible apply wo_neg | with_reducible apply wo_eqS | with_reducible apply wo_neS | with_reducible apply wo_min | with_reducible apply wo_max | with_reducible apply wo_int | with_reducible apply wo_abs | with_reducible apply wo_tupL | with_reducible apply wo_tupT | with_reducible refine wo_tup (by with_unfolding_all rfl) ?_ | with_reducible refine wo_lstF (by with_unfolding_all rfl) ?_ | with_reducible refine wo_lstT (by with_unfolding_all rfl) ?_ | with_reducible apply wo_fld0 | with_reducible apply wo_fld1 | with_reducible apply wo_fld2) | ((with_reducible apply gS); first | with_reducible apply w_seq | with_reducible apply w_asg | with_reducible apply w_sif | with_reducible apply w_next | with_reducible apply w_ret | with_reducible apply w_par | with_reducible apply w_drop | with_reducible apply w_asgT | with_reducible apply w_retN | with_reducible apply w_brk | with_reducible apply w_cnt | with_reducible apply w_raise | with_reducible apply w_forI) | ((with_reducible apply gI); first | with_reducible apply wI_t | with_reducible apply wI_f | with_reducible apply wI_not) | with_reducible apply w_bl | with_reducible apply thn_nx | with_reducible apply w_int | with_reducible apply w_obj | with_reducible apply thn_rt | with_reducible apply lp_nx | with_reducible apply fnl_int | with_reducible apply fnl_bl | with_reducible apply fnl_non | with_reducible apply fnl_str | with_reducible apply fnl_nx | with_reducible apply thn_bk | with_reducible apply thn_ct | with_reducible apply thn_xc | with_reducible apply lp_rt | with_reducible apply lp_bk | with_reducible apply lp_xc | with_reducible apply w_itL | with_reducible apply w_itT | with_reducible apply w_itK)
local macro_rules | `(tactic| walk_at "p") => `(tactic| repeat walk_at "w")
local macro_rules | `(tactic| walk_at "w") => `(tactic| first | ((with_reducible apply gR); first | with_reducible refine w_var rfl ?_ | with_reducible apply w_cons | with_reducible apply w_c | with_reducible apply w_nil | with_reducible apply w_op | with_reducible apply w_ap | with_reducible apply w_call | with_reducible apply w_tst | with_reducible apply w_un | with_reducible apply w_tand | with_reducible apply w_tor | with_reducible apply w_tnot | with_reducible apply w_yes | with_reducible apply w_and | with_reducible apply w_or | with_reducible apply w_not | with_reducible apply w_if | with_reducible apply w_chain | with_reducible apply w_isi | with_reducible apply w_isi2 | with_reducible apply w_prop | with_reducible apply w_meth | with_reducible apply w_dget | with_reducible apply w_dnewF | with_reducible apply w_dnewT | with_reducible apply w_part | with_reducible apply w_noPart | with_reducible apply w_slLF | with_reducible apply w_slA | with_reducible apply w_ok | with_reducible apply w_ofO | with_reducible apply w_lcI | with_reducible apply w_seqI | with_reducible apply w_rng1 | with_reducible apply w_rng2 | with_reducible apply w_enum) | ((with_reducible apply gO); first | with_reducible apply wo_add | with_reducible apply wo_sub | with_reducible apply wo_lt | with_reducible apply wo_gt | with_reducible apply wo_eq | with_reducible apply wo_ne | with_reducible apply wo_le | with_reducible apply wo_ge | with_reducible apply wo_neg | with_reducible apply wo_eqS | with_reducible apply wo_neS | with_reducible apply wo_min | with_reducible apply wo_max | with_reducible apply wo_int | with_reducible apply wo_abs | with_reducible apply wo_tupL | with_reducible apply wo_tupT | with_reducible refine wo_tup (by with_unfolding_all rfl) ?_ | with_reducible refine wo_lstF (by with_unfolding_all rfl) ?_ | with_reducible refine wo_lstT (by with_unfolding_all rfl) ?_ | with_reducible apply wo_fld0 | with_reducible apply wo_fld1 | with_reducible apply wo_fld2) | ((with_reducible apply gS); first | with_reducible apply w_seq | with_reducible apply w_asg | with_reducible apply w_sif | with_reducible apply w_next | with_reducible apply w_ret | with_reducible apply w_par | with_reducible apply w_drop | with_reducible apply w_asgT | with_reducible apply w_retN | with_reducible apply w_brk | with_reducible apply w_cnt | with_reducible apply w_raise | with_reducible apply w_forI) | ((with_reducible apply gI); first | with_reducible apply wI_t | with_reducible apply wI_f | with_reducible apply wI_not) | with_reducible apply w_bl | with_reducible apply thn_nx | with_reducible apply w_int | with_reducible apply w_obj | with_reducible apply thn_rt | with_reducible apply lp_nx | with_reducible apply fnl_int | with_reducible apply fnl_bl | with_reducible apply fnl_non | with_reducible apply fnl_str | with_reducible apply fnl_nx | with_reducible apply thn_bk | with_reducible apply thn_ct | with_reducible apply thn_xc | with_reducible apply lp_rt | with_reducible apply lp_bk | with_reducible apply lp_xc | with_reducible apply w_itL | with_reducible apply w_itT | with_reducible apply w_itK)
local macro_rules | `(tactic| walk_at "p") => `(tactic| repeat walk_at "w")
/-! S17: lists of ints sorted; first of a Want. -/
def sI (ns : List Int) : List Int := ns.mergeSort fun a b => decide (a ≤ b)
theorem sI_mem {ns : List Int} {x : Int} : x ∈ sI ns ↔ x ∈ ns := List.mem_mergeSort
theorem sI_le (ns : List Int) : (sI ns).Pairwise (· ≤ ·) := (List.pairwise_mergeSort (le := fun a b : Int => decide (a ≤ b)) (fun a b c h1 h2 => by simp only [decide_eq_true_eq] at *; omega) (fun a b => by simp only [Bool.or_eq_true, decide_eq_true_eq]; omega) ns).imp fun h => of_decide_eq_true h
theorem lt_of_le_nd : ∀ {l : List Int}, l.Pairwise (· ≤ ·) → l.Nodup → l.Pairwise (· < ·)
  | [], _, _ => .nil
  | x :: l, h, d => by
    obtain ⟨h1, h2⟩ := List.pairwise_cons.mp h
    obtain ⟨d1, d2⟩ := List.nodup_cons.mp d
    refine List.pairwise_cons.mpr ⟨fun y hy => ?_, lt_of_le_nd h2 d2⟩
    have a := h1 y hy
    have b : x ≠ y := fun z => d1 (z ▸ hy)
    omega
theorem sI_up {ns : List Int} (h : ns.Nodup) : (sI ns).Pairwise (· < ·) := lt_of_le_nd (sI_le ns) ((List.mergeSort_perm ns _).nodup_iff.mpr h)
theorem up_nd {l : List Int} (h : l.Pairwise (· < ·)) : l.Nodup := h.imp fun e => by omega
theorem le_enc (C : Store) (p q : Int) : PySem.W.dataLe false (encD C) (.int p) (.int q) = decide (p ≤ q) := congrFun (congrFun (PySem.W.dataLe_int fun b : Int => b) p) q
theorem sort_ints (l : List Int) (C : Store) : (l.map D.int).mergeSort (PySem.W.dataLe false (encD C)) = (sI l).map D.int :=
  (List.map_mergeSort (r := fun a b => decide (a ≤ b)) (s := PySem.W.dataLe false (encD C)) (f := D.int) (l := l) (fun a _ b _ => (le_enc C a b).symm)).symm
theorem ok_ints (l : List Int) (C : Store) : (((l.map D.int).all fun d => (toP C d).isSome && decide ((encD C d).depth ≤ 60)) && srtb ((l.map D.int).map (encD C))) = true := by
  have e : ∀ p ∈ (l.map D.int).map (encD C), ∃ a : Int, p = .int a := fun p hp => by
    obtain ⟨k, hk, rfl⟩ := List.mem_map.mp hp
    obtain ⟨q, _, rfl⟩ := List.mem_map.mp hk
    exact ⟨q, rfl⟩
  simp only [Bool.and_eq_true, srtb, Bool.or_eq_true, List.all_eq_true]
  refine ⟨fun d hd => ?_, fun x hx y hy => ?_, .inr fun x hx => ?_⟩
  · obtain ⟨q, _, rfl⟩ := List.mem_map.mp hd
    exact ⟨rfl, decide_eq_true (show (0 : Nat) ≤ 60 by decide)⟩
  · obtain ⟨a, rfl⟩ := e x hx
    obtain ⟨b, rfl⟩ := e y hy
    rfl
  · obtain ⟨a, rfl⟩ := e x hx
    rfl
theorem sortQ_i {own : Bool} {d : D} {ns : List Int} {C : Store} (h : vL d C = some (ns.map .int)) : oSortQ own [d] C = some (mkL own ((sI ns).map .int) C) := by
  have e := ok_ints ns C
  simp only [oSortQ, oSortL, h, e, if_true, sort_ints]
theorem rn2_cut (a h : Int) (n : Nat) (ha : a ≤ h) : rn2 a (min h (a + 2 * n - 2) + 1) = min n (rn2 a (h + 1)) := by
  unfold rn2
  omega
theorem rgI2_cut (r : Rn) (n : Nat) (h : r.1 ≤ r.2) : rgI2 r.1 (min r.2 (r.1 + 2 * n - 2) + 1) = (exR1 r).take n := by
  unfold exR1 rgI2
  rw [rn2_cut _ _ _ h, ← List.map_take, List.take_range]
theorem ex_step (l : List Rn) (r : Rn) (c : Nat) : (exR (l ++ [r])).take c = (exR l).take c ++ (exR1 r).take (c - (exR l).length) := by
  have e3 : exR [r] = exR1 r := by simp [exR]
  rw [exR_app, e3, List.take_append]
section
variable {C : Store} {Q : D → Store → Prop} {X : Exc → Store → Prop} {E O : List Rn}
theorem first_in {l : List Rn} {b : List Int} {c : Nat} {s0 s1 s5 s6 s7 : Option D} {fl : Nat} {P : RS → Prop} (hr : ∀ r ∈ l, r.1 ≤ r.2 ∧ -1000000000000 ≤ r.1 ∧ r.2 ≤ 1000000000000) (hc : c ≤ 2000) (hb : b.length ≤ 10000) (hf : fl ≤ C.length)
    (fin : ∀ s4 s5 s6 s7, P (.nx [s0, s1, some (.cell C.length), some (.tup (rsD l)), s4, s5, s6, s7] (C ++ [some (.lst ((b ++ (exR l).take c).map .int))]))) :
    wS (b_Want_first_1b_1 ⟨fl, [s0, s1, some (.cell C.length), some (.tup (rsD l)), some (.int c), s5, s6, s7]⟩ (C ++ [some (.lst (b.map .int))])) P := by
  unfold b_Want_first_1b_1
  walk_at "p"
  refine loop_p (pure_C _) (fun j sl S => S = C ++ [some (.lst ((b ++ (exR (l.take j)).take c).map .int))] ∧ ∃ s5 s6 s7, sl = [s0, s1, some (.cell C.length), some (.tup (rsD l)), some (.int ((c - (exR (l.take j)).length : Nat))), s5, s6, s7]) ⟨by simp [exR], s5, s6, s7, by simp [exR]⟩ ?_ ?_
  · rintro j y sl S hy ⟨rfl, t5, t6, t7, rfl⟩
    obtain ⟨r, hr', rfl⟩ := rs_get hy
    obtain ⟨r1, r2, r3⟩ := hr r (List.mem_of_getElem? hr')
    have hjl : j < l.length := (List.getElem?_eq_some_iff.mp hr').1
    have tkj : l.take (j + 1) = l.take j ++ [r] := by
      rw [← (List.getElem?_eq_some_iff.mp hr').2]
      exact (List.take_append_getElem hjl).symm
    have st := ex_step (l.take j) r c
    have ln : (exR (l.take (j + 1))).length = (exR (l.take j)).length + (exR1 r).length := by
      have e3 : exR [r] = exR1 r := by simp [exR]
      rw [tkj, exR_app, e3, List.length_append]
    have lz : ((exR (l.take j)).take c).length ≤ c := by rw [List.length_take]; omega
    rw [← tkj] at st
    have cutE := rgI2_cut r (c - (exR (l.take j)).length) r1
    have hz : (rgI2 r.1 (min r.2 (r.1 + 2 * ((c - (exR (l.take j)).length : Nat)) - 2) + 1)).length ≤ 2000 := by
      rw [cutE, List.length_take]
      omega
    refine ⟨[s0, s1, some (.cell C.length), some (.tup (rsD l)), some (.int ((c - (exR (l.take j)).length : Nat))), some (.int r.1), some (.int r.2), t7], rfl, ?_⟩
    generalize (exR (l.take j)).take c = g at st lz
    generalize hn : c - (exR (l.take j)).length = n at cutE st hz
    walk_at "p"
    unfold b_Want_first_1b_1b_0
    walk_at "p"
    refine w_rng3F ?_
    walk_at "p"
    refine wo_mul (by simp [cMul]) ?_
    walk_at "p"
    refine ⟨_, _, rfl, rfl, rfl, ?_, ?_⟩
    · rw [rgI2_len] at hz
      simp only [rgOk2, Bool.and_eq_true, decide_eq_true_eq]
      omega
    · rw [cutE]
      rw [cutE] at hz
      walk_at "p"
      unfold b_Want_first_1b_1b_1
      have at_n : (C ++ [some (Cell.lst ((b ++ g).map .int))])[C.length]? = some (some (.lst ((b ++ g).map .int))) := by simp
      walk_at "p"
      refine w_extend ?_
      walk_at "p"
      refine ⟨by simp [vL, at_n], ?_⟩
      walk_at "p"
      refine ⟨C.length, (b ++ g).map .int, ((exR1 r).take n).map .int, by simp only [cL, at_n], rfl, hf, by simp only [List.length_map, List.length_append]; omega, ?_⟩
      walk_at "p"
      unfold b_Want_first_1b_1b_2
      refine w_aug rfl ?_
      walk_at "p"
      refine wo_len (xs := ((exR1 r).take n).map .int) rfl ?_
      refine ⟨_, rfl, ?_⟩
      have ev : ((c - (exR (l.take (j + 1))).length : Nat) : Int) = (n : Int) - ((((exR1 r).take n).map D.int).length : Nat) := by
        rw [ln, List.length_map, List.length_take]
        omega
      refine ⟨by rw [st]; simp, some (.int r.1), some (.int r.2), some (.lst (((exR1 r).take n).map .int)), ?_⟩
      rw [ev]
      rfl
  · rintro sl S ⟨rfl, t5, t6, t7, rfl⟩
    rw [rsD_len, List.take_length]
    exact fin _ _ _ _
theorem first_w {c : Nat} {xs : List Int} (h : CW E O) (hx : ∀ x, inW E O x ↔ x ∈ xs) (hr : ∀ r ∈ E ++ O, -1000000000000 ≤ r.1 ∧ r.2 ≤ 1000000000000) (hc : c ≤ 1000) (q : Q (.cell C.length) (C ++ [some (.lst (((srtI xs).take c).map .int))])) : wR (m_Want_first [wantD E O, .int c] C) Q X := by
  have re : ∀ r ∈ E, r.1 ≤ r.2 ∧ -1000000000000 ≤ r.1 ∧ r.2 ≤ 1000000000000 := fun r m => ⟨(h.e.ok r m).1, hr r (List.mem_append_left _ m)⟩
  have ro : ∀ r ∈ O, r.1 ≤ r.2 ∧ -1000000000000 ≤ r.1 ∧ r.2 ≤ 1000000000000 := fun r m => ⟨(h.o.ok r m).1, hr r (List.mem_append_right _ m)⟩
  have eE : exR E = (srtI xs).filter (par 0) := ex_filt h.e srtI_up fun x hp => by rw [srtI_mem, ← hx x, inW_e hp]
  have eO : exR O = (srtI xs).filter (par 1) := ex_filt h.o srtI_up fun x hp => by rw [srtI_mem, ← hx x, inW_o hp]
  rw [e_Want_first]
  apply w_finO
  unfold b_Want_first b_Want_first_0 b_Want_first_1
  walk_at "p"
  refine ⟨_, rfl, ?_⟩
  refine loop_p (pure_C _) (fun j sl S => S = C ++ [some (.lst ((match j with | 0 => [] | 1 => (exR E).take c | _ => (exR E).take c ++ (exR O).take c : List Int).map .int))] ∧ ∃ s3 s4 s5 s6 s7, sl = [some (wantD E O), some (.int c), some (.cell C.length), s3, s4, s5, s6, s7]) ⟨rfl, _, _, _, _, _, rfl⟩ ?_ ?_
  · rintro j y sl S hy ⟨rfl, s3, s4, s5, s6, s7, rfl⟩
    match j, hy with
    | 0, hy =>
      cases hy
      refine ⟨_, rfl, ?_⟩
      walk_at "p"
      unfold b_Want_first_1b_0
      walk_at "p"
      refine first_in (b := []) re (by omega) (by simp) (Nat.le_refl _) fun s4 s5 s6 s7 => ?_
      exact ⟨by simp, _, _, _, _, _, rfl⟩
    | 1, hy =>
      cases hy
      refine ⟨_, rfl, ?_⟩
      walk_at "p"
      unfold b_Want_first_1b_0
      walk_at "p"
      refine first_in (b := (exR E).take c) ro (by omega) (by rw [List.length_take]; omega) (Nat.le_refl _) fun s4 s5 s6 s7 => ?_
      exact ⟨by simp, _, _, _, _, _, rfl⟩
    | j + 2, hy => exact absurd hy (by simp)
  · rintro sl S ⟨rfl, s3, s4, s5, s6, s7, rfl⟩
    walk_at "p"
    unfold b_Want_first_2
    walk_at "p"
    refine w_slLT ?_
    walk_at "p"
    have at_n : ∀ l : List D, (C ++ [some (Cell.lst l)])[C.length]? = some (some (.lst l)) := fun l => by simp
    refine wo_of (sortQ_i (own := false) (ns := (exR E).take c ++ (exR O).take c) (by simp [vL])) ?_
    walk_at "p"
    refine ⟨_, rfl, ?_⟩
    have nd : ((exR E).take c ++ (exR O).take c).Nodup := by
      refine List.nodup_append.mpr ⟨(up_nd (exR_up h.e)).sublist (List.take_sublist ..), (up_nd (exR_up h.o)).sublist (List.take_sublist ..), fun a ha b hb e => ?_⟩
      subst e
      have h1 := ((exR_mem h.e).mp (List.mem_of_mem_take ha)).1
      have h2 := ((exR_mem h.o).mp (List.mem_of_mem_take hb)).1
      omega
    have key : (sI ((exR E).take c ++ (exR O).take c)).take c = (srtI xs).take c := by
      refine first_one srtI_up (sI_up nd) fun x => ?_
      rw [sI_mem, List.mem_append, eE, eO]
    have ct : cutD ((sI ((exR E).take c ++ (exR O).take c)).map D.int) none (some (c : Int)) = ((srtI xs).take c).map .int := by
      rw [← key]
      have e : ¬ ((c : Int) < 0) := by omega
      simp [cutD, HT.sIx, e, List.take_eq_take_iff]
    rw [ct]
    refine fnlO_own (xs := ((srtI xs).take c).map .int) (by simp) (by simp) (cbL_all fun d hd => by obtain ⟨z, _, rfl⟩ := List.mem_map.mp hd; rfl) ?_
    simpa using q
end
end CL
set_option maxHeartbeats 4000000
namespace CL
open PySem L2 CT
local macro_rules | `(tactic| walk_at "w") => `(tactic| first | ((with_reducible apply gR); first | with_reducible refine w_var rfl ?_ | with_reducible apply w_cons | with_reducible apply w_c | with_reducible apply w_nil | with_reducible apply w_op | with_reducible apply w_ap | with_reducible apply w_call | with_reducible apply w_tst | with_reducible apply w_un | with_reducible apply w_tand | with_reducible apply w_tor | with_reducible apply w_tnot | with_reducible apply w_yes | with_reducible apply w_and | with_reducible apply w_or | with_reducible apply w_not | with_reducible apply w_if | with_reducible apply w_chain | with_reducible apply w_isi | with_reducible apply w_isi2 | with_reducible apply w_prop | with_reducible apply w_meth | with_reducible apply w_dget | with_reducible apply w_dnewF | with_reducible apply w_dnewT | with_reducible apply w_part | with_reducible apply w_noPart | with_reducible apply w_slLF | with_reducible apply w_slA | with_reducible apply w_ok | with_reducible apply w_ofO | with_reducible apply w_lcI | with_reducible apply w_seqI | with_reducible apply w_rng1 | with_reducible apply w_rng2 | with_reducible apply w_enum) | ((with_reducible apply gO); first | with_reducible apply wo_add | with_reducible apply wo_sub | with_reducible apply wo_lt | with_reducible apply wo_gt | with_reducible apply wo_eq | with_reducible apply wo_ne | with_reducible apply wo_le | with_reducible apply wo_ge | with_reducible apply wo_neg | with_reducible apply wo_eqS | with_reducible apply wo_neS | with_reducible apply wo_min | with_reducible apply wo_max | with_reducible apply wo_int | with_reducible apply wo_abs | with_reducible apply wo_tupL | with_reducible apply wo_tupT | with_reducible refine wo_tup (by with_unfolding_all rfl) ?_ | with_reducible refine wo_lstF (by with_unfolding_all rfl) ?_ | with_reducible refine wo_lstT (by with_unfolding_all rfl) ?_ | with_reducible apply wo_fld0 | with_reducible apply wo_fld1 | with_reducible apply wo_fld2) | ((with_reducible apply gS); first | with_reducible apply w_seq | with_reducible apply w_asg | with_reducible apply w_sif | with_reducible apply w_next | with_reducible apply w_ret | with_reducible apply w_par | with_reducible apply w_drop | with_reducible apply w_asgT | with_reducible apply w_retN | with_reducible apply w_brk | with_reducible apply w_cnt | with_reducible apply w_raise | with_reducible apply w_forI) | ((with_reducible apply gI); first | with_reducible apply wI_t | with_reducible apply wI_f | with_reducible apply wI_not) | with_reducible apply w_bl | with_reducible apply thn_nx | with_reducible apply w_int | with_reducible apply w_obj | with_reducible apply thn_rt | with_reducible apply lp_nx | with_reducible apply fnl_int | with_reducible apply fnl_bl | with_reducible apply fnl_non | with_reducible apply fnl_str | with_reducible apply fnl_nx | with_reducible apply thn_bk | with_reducible apply thn_ct | with_reducible apply thn_xc | with_reducible apply lp_rt | with_reducible apply lp_bk | with_reducible apply lp_xc | with_reducible apply w_itL | with_reducible apply w_itT | with_reducible apply w_itK)
local macro_rules | `(tactic| walk_at "p") => `(tactic| repeat walk_at "w")
/-! L1: lists of ints as data: ==, in. -/
theorem toPs_is (C : Store) : ∀ l : List Int, toPs C (l.map D.int) = some (l.map .int)
  | [] => rfl
  | x :: l => by
    have e := toPs_is C l
    show (match toP C (.int x), toPs C (l.map D.int) with | some p, some ps => some (p :: ps) | _, _ => none) = _
    rw [e]
    rfl
theorem eqv_is : ∀ as bs : List Int, PyData.eqvAll (as.map .int) (bs.map .int) = decide (as = bs)
  | [], [] => rfl
  | [], b :: bs => rfl
  | a :: as, [] => rfl
  | a :: as, b :: bs => by
    show (PyData.eqv (.int a) (.int b) && PyData.eqvAll (as.map .int) (bs.map .int)) = _
    rw [eqv_is as bs, Bool.eq_iff_iff]
    simp [PyData.eqv]
theorem lay_is : ∀ l : List Int, PyData.canLayAll0 (l.map .int) = true
  | [] => rfl
  | a :: l => by simp [PyData.canLayAll0, PyData.canLay0, lay_is l]
theorem dep_is : ∀ l : List Int, PyData.depthAll (l.map .int) ≤ 0
  | [] => by simp [PyData.depthAll]
  | a :: l => by
    have := dep_is l
    simp only [List.map_cons, PyData.depthAll, PyData.depth]
    omega
theorem shp_li (l : List Int) : SeqAt.shaped (.list (l.map .int)) = true := by
  have h3 := dep_is l
  have h4 : (PyData.list (l.map .int)).depth ≤ 64 := by simp only [PyData.depth]; omega
  simp [SeqAt.shaped, PyData.canLay0, lay_is, h4]
theorem toP_li (C : Store) (l : List Int) : toP C (.lst (l.map .int)) = some (.list (l.map .int)) := by
  show (toPs C (l.map D.int)).map PyData.list = _
  rw [toPs_is]
  rfl
theorem any_is (x : Int) : ∀ l : List Int, ((l.map PyData.int).any fun z => PyData.eqv z (.int x)) = decide (x ∈ l)
  | [] => by simp
  | y :: l => by
    have e := any_is x l
    rw [List.map_cons, List.any_cons, e, Bool.eq_iff_iff]
    simp only [PyData.eqv, Bool.or_eq_true, beq_iff_eq, decide_eq_true_eq, List.mem_cons]
    constructor
    · rintro (h | h)
      · exact .inl h.symm
      · exact .inr h
    · rintro (h | h)
      · exact .inl h.symm
      · exact .inr h
theorem in_li (neg : Bool) (x : Int) (l : List Int) (C : Store) : oInD neg (.int x) (.lst (l.map .int)) C = some (.bl (if neg = true then !decide (x ∈ l) else decide (x ∈ l)), C) := by
  have h : SeqAt.shaped (.int x) = true := rfl
  have e : toP C (.int x) = some (.int x) := rfl
  simp only [oInD, toP_li, e, itemsP, h, shp_li, Bool.and_self, if_true, any_is]
end CL
set_option maxHeartbeats 4000000
namespace CL
open PySem L2 CT
local macro_rules | `(tactic| walk_at "w") => `(tactic| first | ((with_reducible apply gR); first | with_reducible refine w_var rfl ?_ | with_reducible apply w_cons | with_reducible apply w_c | with_reducible apply w_nil | with_reducible apply w_op | with_reducible apply w_ap | with_reducible apply w_call | with_reducible apply w_tst | with_reducible apply w_un | with_reducible apply w_tand | with_reducible apply w_tor | with_reducible apply w_tnot | with_reducible apply w_yes | with_reducible apply w_and | with_reducible apply w_or | with_reducible apply w_not | with_reducible apply w_if | with_reducible apply w_chain | with_reducible apply w_isi | with_reducible apply w_isi2 | with_reducible apply w_prop | with_reducible apply w_meth | with_reducible apply w_dget | with_reducible apply w_dnewF | with_reducible apply w_dnewT | with_reducible apply w_part | with_reducible apply w_noPart | with_reducible apply w_slLF | with_reducible apply w_slA | with_reducible apply w_ok | with_reducible apply w_ofO | with_reducible apply w_lcI | with_reducible apply w_seqI | with_reducible apply w_rng1 | with_reducible apply w_rng2 | with_reducible apply w_enum) | ((with_reducible apply gO); first | with_reducible apply wo_add | with_reducible apply wo_sub | with_reducible apply wo_lt | with_reducible apply wo_gt | with_reducible apply wo_eq | with_reducible apply wo_ne | with_reducible apply wo_le | with_reducible apply wo_ge | with_reducible apply wo_neg | with_reducible apply wo_eqS | with_reducible apply wo_neS | with_reducible apply wo_min | with_reducible apply wo_max | with_reducible apply wo_int | with_reducible apply wo_abs | with_reducible apply wo_tupL | with_reducible apply wo_tupT | with_reducible refine wo_tup (by with_unfolding_all rfl) ?_ | with_reducible refine wo_lstF (by with_unfolding_all rfl) ?_ | with_reducible refine wo_lstT (by with_unfolding_all rfl) ?_ | with_reducible apply wo_fld0 | with_reducible apply wo_fld1 | with_reducible apply wo_fld2) | ((with_reducible apply gS); first | with_reducible apply w_seq | with_reducible apply w_asg | with_reducible apply w_sif | with_reducible apply w_next | with_reducible apply w_ret | with_reducible apply w_par | with_reducible apply w_drop | with_reducible apply w_asgT | with_reducible apply w_retN | with_reducible apply w_brk | with_reducible apply w_cnt | with_reducible apply w_raise | with_reducible apply w_forI) | ((with_reducible apply gI); first | with_reducible apply wI_t | with_reducible apply wI_f | with_reducible apply wI_not) | with_reducible apply w_bl | with_reducible apply thn_nx | with_reducible apply w_int | with_reducible apply w_obj | with_reducible apply thn_rt | with_reducible apply lp_nx | with_reducible apply fnl_int | with_reducible apply fnl_bl | with_reducible apply fnl_non | with_reducible apply fnl_str | with_reducible apply fnl_nx | with_reducible apply thn_bk | with_reducible apply thn_ct | with_reducible apply thn_xc | with_reducible apply lp_rt | with_reducible apply lp_bk | with_reducible apply lp_xc | with_reducible apply w_itL | with_reducible apply w_itT | with_reducible apply w_itK)
local macro_rules | `(tactic| walk_at "p") => `(tactic| repeat walk_at "w")
local macro_rules | `(tactic| walk_at "w") => `(tactic| first | ((with_reducible apply gR); first | with_reducible refine w_var rfl ?_ | with_reducible apply w_cons | with_reducible apply w_c | with_reducible apply w_nil | with_reducible apply w_op | with_reducible apply w_ap | with_reducible apply w_call | with_reducible apply w_tst | with_reducible apply w_un | with_reducible apply w_tand | with_reducible apply w_tor | with_reducible apply w_tnot | with_reducible apply w_yes | with_reducible apply w_and | with_reducible apply w_or | with_reducible apply w_not | with_reducible apply w_if | with_reducible apply w_chain | with_reducible apply w_isi | with_reducible apply w_isi2 | with_reducible apply w_prop | with_reducible apply w_meth | with_reducible apply w_dget | with_reducible apply w_dnewF | with_reducible apply w_dnewT | with_reducible apply w_part | with_reducible apply w_noPart | with_reducible apply w_slLF | with_reducible apply w_slA | with_reducible apply w_ok | with_reducible apply w_ofO | with_reducible apply w_lcI | with_reducible apply w_seqI | with_reducible apply w_rng1 | with_reducible apply w_rng2 | with_reducible apply w_enum) | ((with_reducible apply gO); first | with_reducible apply wo_add | with_reducible apply wo_sub | with_reducible apply wo_lt | with_reducible apply wo_gt | with_reducible apply wo_eq | with_reducible apply wo_ne | with_reducible apply wo_le | with_reducible apply wo_ge | with_reducible apply wo_neg | with_reducible apply wo_eqS | with_reducible apply wo_neS | with_reducible apply wo_min | with_reducible apply wo_max | with_reducible apply wo_int | with_reducible apply wo_abs | with_reducible apply wo_tupL | with_reducible apply wo_tupT | with_reducible refine wo_tup (by with_unfolding_all rfl) ?_ | with_reducible refine wo_lstF (by with_unfolding_all rfl) ?_ | with_reducible refine wo_lstT (by with_unfolding_all rfl) ?_ | with_reducible apply wo_fld0 | with_reducible apply wo_fld1 | with_reducible apply wo_fld2) | ((with_reducible apply gS); first | with_reducible apply w_seq | with_reducible apply w_asg | with_reducible apply w_sif | with_reducible apply w_next | with_reducible apply w_ret | with_reducible apply w_par | with_reducible apply w_drop | with_reducible apply w_asgT | with_reducible apply w_retN | with_reducible apply w_brk | with_reducible apply w_cnt | with_reducible apply w_raise | with_reducible apply w_forI) | ((with_reducible apply gI); first | with_reducible apply wI_t | with_reducible apply wI_f | with_reducible apply wI_not) | with_reducible apply w_bl | with_reducible apply thn_nx | with_reducible apply w_int | with_reducible apply w_obj | with_reducible apply thn_rt | with_reducible apply lp_nx | with_reducible apply fnl_int | with_reducible apply fnl_bl | with_reducible apply fnl_non | with_reducible apply fnl_str | with_reducible apply fnl_nx | with_reducible apply thn_bk | with_reducible apply thn_ct | with_reducible apply thn_xc | with_reducible apply lp_rt | with_reducible apply lp_bk | with_reducible apply lp_xc | with_reducible apply w_itL | with_reducible apply w_itT | with_reducible apply w_itK)
local macro_rules | `(tactic| walk_at "p") => `(tactic| repeat walk_at "w")
/-! S21p: first, repr of lists of ints. -/
theorem toP_ci {C : Store} {i : Nat} {l : List Int} (h : C[i]? = some (some (.lst (l.map .int)))) : toP C (.cell i) = some (.list (l.map .int)) := by
  have e : ∀ l : List Int, toP0s (l.map D.int) = some (l.map .int) := fun l => by
    induction l with
    | nil => rfl
    | cons x l ih =>
      show (match toP0 (.int x), toP0s (l.map D.int) with | some p, some ps => some (p :: ps) | _, _ => none) = _
      rw [ih]
      rfl
  show (match C[i]? with | some (some (.lst xs)) => (toP0s xs).map PyData.list | _ => none) = _
  rw [h]
  simp only [e, Option.map_some]
theorem repr_is {C : Store} {d : D} {l : List Int} (e : toP C d = some (.list (l.map .int))) (hl : l.length ≤ 1000) (hb : ∀ x ∈ l, x.natAbs < 1000000000000) : oRepr [d] C = some (.str (PyData.list (l.map .int)).shown, C) := by
  obtain ⟨ps, g⟩ := gdl_all (w := 40) (dp := 0) (xs := l.map D.int) fun x hx => by
    obtain ⟨z, hz, rfl⟩ := List.mem_map.mp hx
    exact ⟨_, gd_int (hb z hz)⟩
  have g2 := gd_lst (n := 1000) g (by rw [List.length_map]; exact hl)
  have e2 := g2.tp C
  rw [toP_li] at e2
  have e3 := Option.some.inj e2
  rw [← e3] at g2
  exact repr_of e (g2.ok (by decide) (by decide))
theorem ne_li (as bs : List Int) (C : Store) : oEqA true (.lst (as.map .int)) (.lst (bs.map .int)) C = some (.bl (!decide (as = bs)), C) := by
  show oEqD true _ _ C = _
  simp only [oEqD, toP_li, shp_li, Bool.and_self, if_true, PyData.eqv, eqv_is]
theorem cut_n {xs : List Int} (n : Nat) : cutD (xs.map D.int) none (some (n : Int)) = (xs.take n).map .int := by
  have e : ¬ ((n : Int) < 0) := by omega
  simp [cutD, HT.sIx, e, List.take_eq_take_iff]
section
variable {C : Store} {Q : D → Store → Prop} {X : Exc → Store → Prop} {xs : List Int} {B : Int}
theorem Lk.ends (h : Lk B xs) (hB : B ≤ 1000000000000) : ∀ r ∈ lawR 0 xs ++ lawR 1 xs, -1000000000000 ≤ r.1 ∧ r.2 ≤ 1000000000000 := by
  intro r hr
  rcases List.mem_append.mp hr with hr | hr
  · obtain ⟨a, b⟩ := lawR_end hr
    have := h.bd _ a
    have := h.bd _ b
    omega
  · obtain ⟨a, b⟩ := lawR_end hr
    have := h.bd _ a
    have := h.bd _ b
    omega
theorem bl_first {c : Nat} (h : Lk B xs) (hB : B ≤ 1000000000000) (hc : c ≤ 1000) (q : Q (.cell C.length) (C ++ [some (.lst ((xs.take c).map .int))])) : wR (m_Want_first [wtD xs, .int c] C) Q X := by
  refine first_w (law_cw xs) (law_in xs) (h.ends hB) hc ?_
  rw [h.srt]
  exact q
end
end CL
set_option maxHeartbeats 4000000
namespace CL
open PySem L2 CT
local macro_rules | `(tactic| walk_at "w") => `(tactic| first | ((with_reducible apply gR); first | with_reducible refine w_var rfl ?_ | with_reducible apply w_cons | with_reducible apply w_c | with_reducible apply w_nil | with_reducible apply w_op | with_reducible apply w_ap | with_reducible apply w_call | with_reducible apply w_tst | with_reducible apply w_un | with_reducible apply w_tand | with_reducible apply w_tor | with_reducible apply w_tnot | with_reducible apply w_yes | with_reducible apply w_and | with_reducible apply w_or | with_reducible apply w_not | with_reducible apply w_if | with_reducible apply w_chain | with_reducible apply w_isi | with_reducible apply w_isi2 | with_reducible apply w_prop | with_reducible apply w_meth | with_reducible apply w_dget | with_reducible apply w_dnewF | with_reducible apply w_dnewT | with_reducible apply w_part | with_reducible apply w_noPart | with_reducible apply w_slLF | with_reducible apply w_slA | with_reducible apply w_ok | with_reducible apply w_ofO | with_reducible apply w_lcI | with_reducible apply w_seqI | with_reducible apply w_rng1 | with_reducible apply w_rng2 | with_reducible apply w_enum) | ((with_reducible apply gO); first | with_reducible apply wo_add | with_reducible apply wo_sub | with_reducible apply wo_lt | with_reducible apply wo_gt | with_reducible apply wo_eq | with_reducible apply wo_ne | with_reducible apply wo_le | with_reducible apply wo_ge | with_reducible apply wo_neg | with_reducible apply wo_eqS | with_reducible apply wo_neS | with_reducible apply wo_min | with_reducible apply wo_max | with_reducible apply wo_int | with_reducible apply wo_abs | with_reducible apply wo_tupL | with_reducible apply wo_tupT | with_reducible refine wo_tup (by with_unfolding_all rfl) ?_ | with_reducible refine wo_lstF (by with_unfolding_all rfl) ?_ | with_reducible refine wo_lstT (by with_unfolding_all rfl) ?_ | with_reducible apply wo_fld0 | with_reducible apply wo_fld1 | with_reducible apply wo_fld2) | ((with_reducible apply gS); first | with_reducible apply w_seq | with_reducible apply w_asg | with_reducible apply w_sif | with_reducible apply w_next | with_reducible apply w_ret | with_reducible apply w_par | with_reducible apply w_drop | with_reducible apply w_asgT | with_reducible apply w_retN | with_reducible apply w_brk | with_reducible apply w_cnt | with_reducible apply w_raise | with_reducible apply w_forI) | ((with_reducible apply gI); first | with_reducible apply wI_t | with_reducible apply wI_f | with_reducible apply wI_not) | with_reducible apply w_bl | with_reducible apply thn_nx | with_reducible apply w_int | with_reducible apply w_obj | with_reducible apply thn_rt | with_reducible apply lp_nx | with_reducible apply fnl_int | with_reducible apply fnl_bl | with_reducible apply fnl_non | with_reducible apply fnl_str | with_reducible apply fnl_nx | with_reducible apply thn_bk | with_reducible apply thn_ct | with_reducible apply thn_xc | with_reducible apply lp_rt | with_reducible apply lp_bk | with_reducible apply lp_xc | with_reducible apply w_itL | with_reducible apply w_itT | with_reducible apply w_itK)
local macro_rules | `(tactic| walk_at "p") => `(tactic| repeat walk_at "w")
local macro_rules | `(tactic| walk_at "w") => `(tactic| first | ((with_reducible apply gR); first | with_reducible refine w_var rfl ?_ | with_reducible apply w_cons | with_reducible apply w_c | with_reducible apply w_nil | with_reducible apply w_op | with_reducible apply w_ap | with_reducible apply w_call | with_reducible apply w_tst | with_reducible apply w_un | with_reducible apply w_tand | with_reducible apply w_tor | with_reducible apply w_tnot | with_reducible apply w_yes | with_reducible apply w_and | with_reducible apply w_or | with_reducible apply w_not | with_reducible apply w_if | with_reducible apply w_chain | with_reducible apply w_isi | with_reducible apply w_isi2 | with_reducible apply w_prop | with_reducible apply w_meth | with_reducible apply w_dget | with_reducible apply w_dnewF | with_reducible apply w_dnewT | with_reducible apply w_part | with_reducible apply w_noPart | with_reducible apply w_slLF | with_reducible apply w_slA | with_reducible apply w_ok | with_reducible apply w_ofO | with_reducible apply w_lcI | with_reducible apply w_seqI | with_reducible apply w_rng1 | with_reducible apply w_rng2 | with_reducible apply w_enum) | ((with_reducible apply gO); first | with_reducible apply wo_add | with_reducible apply wo_sub | with_reducible apply wo_lt | with_reducible apply wo_gt | with_reducible apply wo_eq | with_reducible apply wo_ne | with_reducible apply wo_le | with_reducible apply wo_ge | with_reducible apply wo_neg | with_reducible apply wo_eqS | with_reducible apply wo_neS | with_reducible apply wo_min | with_reducible apply wo_max | with_reducible apply wo_int | with_reducible apply wo_abs | with_reducible apply wo_tupL | with_reducible apply wo_tupT | with_reducible refine wo_tup (by with_unfolding_all rfl) ?_ | with_reducible refine wo_lstF (by with_unfolding_all rfl) ?_ | with_reducible refine wo_lstT (by with_unfolding_all rfl) ?_ | with_reducible apply wo_fld0 | with_reducible apply wo_fld1 | with_reducible apply wo_fld2) | ((with_reducible apply gS); first | with_reducible apply w_seq | with_reducible apply w_asg | with_reducible apply w_sif | with_reducible apply w_next | with_reducible apply w_ret | with_reducible apply w_par | with_reducible apply w_drop | with_reducible apply w_asgT | with_reducible apply w_retN | with_reducible apply w_brk | with_reducible apply w_cnt | with_reducible apply w_raise | with_reducible apply w_forI) | ((with_reducible apply gI); first | with_reducible apply wI_t | with_reducible apply wI_f | with_reducible apply wI_not) | with_reducible apply w_bl | with_reducible apply thn_nx | with_reducible apply w_int | with_reducible apply w_obj | with_reducible apply thn_rt | with_reducible apply lp_nx | with_reducible apply fnl_int | with_reducible apply fnl_bl | with_reducible apply fnl_non | with_reducible apply fnl_str | with_reducible apply fnl_nx | with_reducible apply thn_bk | with_reducible apply thn_ct | with_reducible apply thn_xc | with_reducible apply lp_rt | with_reducible apply lp_bk | with_reducible apply lp_xc | with_reducible apply w_itL | with_reducible apply w_itT | with_reducible apply w_itK)
local macro_rules | `(tactic| walk_at "p") => `(tactic| repeat walk_at "w")
/-! Y3: the law's questions: ends, first, in. -/
section
variable {C : Store} {Q : D → Store → Prop} {X : Exc → Store → Prop} {E O l : List Rn} {d : D}
theorem no_non : m_is_integer [.non] C = .ok (.bl false) C := by simp [m_is_integer, b_is_integer, ev_def, isi, tyD, isaT]
theorem no_bl (b : Bool) : m_is_integer [.bl b] C = .ok (.bl false) C := by simp [m_is_integer, b_is_integer, ev_def, isi, tyD, isaT]
theorem no_str (s : Str) : m_is_integer [.str s] C = .ok (.bl false) C := by simp [m_is_integer, b_is_integer, ev_def, isi, tyD, isaT]
theorem no_tup (xs : List D) : m_is_integer [.tup xs] C = .ok (.bl false) C := by simp [m_is_integer, b_is_integer, ev_def, isi, tyD, isaT]
theorem no_lst (xs : List D) : m_is_integer [.lst xs] C = .ok (.bl false) C := by simp [m_is_integer, b_is_integer, ev_def, isi, tyD, isaT]
theorem no_dT : m_is_integer [.dT [] []] C = .ok (.bl false) C := by simp [m_is_integer, b_is_integer, ev_def, isi, tyD, isaT]
theorem no_obj : m_is_integer [wantD E O] C = .ok (.bl false) C := by simp [m_is_integer, b_is_integer, ev_def, isi, tyD, isaT, wantD]
theorem contains_no (e : ∀ C, m_is_integer [d] C = .ok (.bl false) C) (h : Q (.bl false) C) : wR (m_Want__contains [wantD E O, d] C) Q X := by
  rw [e_Want__contains]
  apply w_fin
  unfold b_Want__contains b_Want__contains_0
  walk_at "p"
  refine w_of (e _) ?_
  walk_at "p"
  rw [List.take_length]
  exact h
theorem gd_oD {o : Option Int} (h : ∀ x, o = some x → x.natAbs < 1000000000000) : ∃ p, Gd 40 0 (oD o) p := by
  cases o with
  | none => exact ⟨_, gd_non.mono (by decide) (by decide)⟩
  | some x => exact ⟨_, gd_int (h x rfl)⟩
end
/-- all runs of l are small -/
def Tny (l : List Rn) : Prop := l.length ≤ 60 ∧ ∀ r ∈ l, r.1.natAbs < 1000000000000 ∧ r.2.natAbs < 1000000000000
theorem Tny.ends {l : List Rn} (h : Tny l) : (∀ x, l.head?.map (·.1) = some x → x.natAbs < 1000000000000) ∧ ∀ x, l.getLast?.map (·.2) = some x → x.natAbs < 1000000000000 := by
  constructor
  · intro x e
    obtain ⟨r, hr, rfl⟩ := Option.map_eq_some_iff.mp e
    exact (h.2 r (List.mem_of_mem_head? hr)).1
  · intro x e
    obtain ⟨r, hr, rfl⟩ := Option.map_eq_some_iff.mp e
    exact (h.2 r (List.mem_of_mem_getLast? hr)).2
theorem ends_cut (l : List Rn) : cutD ((endR l).map D.int ++ [.non, .non]) none (some 2) = [oD (l.head?.map (·.1)), oD (l.getLast?.map (·.2))] := by
  by_cases e : l = []
  · subst e
    rfl
  · obtain ⟨x, y, hx, hy⟩ := last_of e
    have ee : endR l = [x.1, y.2] := by unfold endR; rw [hx, hy]
    rw [ee, hx, hy]
    rfl
section
variable {C : Store} {Q : D → Store → Prop} {X : Exc → Store → Prop} {E O l : List Rn} {xs : List Int} {B : Int} {fl : Nat} {P : RS → Prop}
  {s0 s2 s3 s4 s5 s6 s7 s8 s9 s10 s11 s12 s13 s14 : Option D}
theorem ends_turn {p : Nat} (ht : Tny l) (hp : [D.tup (rsD E), D.tup (rsD O)][p]? = some (.tup (rsD l)))
    (q : ∀ s10, P (.nx [s0, some (wantD E O), s2, s3, s4, s5, s6, s7, some (.int p), some (.tup (rsD l)), s10, s11, s12, s13, s14] C)) :
    wS (sSeq b_law_right_6b_0 b_law_right_6b_1 ⟨fl, [s0, some (wantD E O), s2, s3, s4, s5, s6, s7, some (.int p), some (.tup (rsD l)), s10, s11, s12, s13, s14]⟩ C) P := by
  obtain ⟨t1, t2⟩ := ht.ends
  obtain ⟨p1, g1⟩ := gd_oD t1
  obtain ⟨p2, g2⟩ := gd_oD t2
  have g := gd_lst (n := 2) (gdl_cons g1 (gdl_cons g2 gdl_nil)) (by simp)
  walk_at "p"
  unfold b_law_right_6b_0
  walk_at "p"
  refine ends_w ?_
  walk_at "p"
  refine wo_catF (by have := endR_len l; simp; omega) ?_
  walk_at "p"
  refine ⟨_, rfl, ?_⟩
  rw [ends_cut]
  walk_at "p"
  unfold b_law_right_6b_1
  walk_at "p"
  refine ⟨_, rfl, ?_⟩
  walk_at "p"
  refine least_w hp ?_
  walk_at "p"
  refine ⟨_, rfl, ?_⟩
  walk_at "p"
  refine greatest_w hp ?_
  walk_at "p"
  refine wo_of (g.repr (by decide) (by decide) C) ?_
  walk_at "p"
  refine wo_of (g.repr (by decide) (by decide) C) ?_
  walk_at "p"
  refine wI_dt rfl ?_
  walk_at "p"
  exact q _
theorem ends_loop (hE : Tny E) (hO : Tny O)
    (q : ∀ s8 s9 s10, P (.nx [s0, some (wantD E O), s2, s3, some (.tup (rsD E)), some (.tup (rsD O)), s6, s7, s8, s9, s10, s11, s12, s13, s14] C)) :
    wS (b_law_right_6 ⟨fl, [s0, some (wantD E O), s2, s3, some (.tup (rsD E)), some (.tup (rsD O)), s6, s7, s8, s9, s10, s11, s12, s13, s14]⟩ C) P := by
  unfold b_law_right_6
  walk_at "p"
  refine loop_p (pure_P (pure_C [.tup (rsD E), .tup (rsD O)])) (fun j sl S => S = C ∧ ∃ s8 s9 s10, sl = [s0, some (wantD E O), s2, s3, some (.tup (rsD E)), some (.tup (rsD O)), s6, s7, s8, s9, s10, s11, s12, s13, s14]) ⟨rfl, _, _, _, rfl⟩ ?_ ?_
  · rintro j y sl S hy ⟨rfl, t8, t9, t10, rfl⟩
    match j, hy with
    | 0, hy =>
      obtain rfl := Option.some.inj hy
      refine ⟨_, rfl, ?_⟩
      exact ends_turn (p := 0) hE rfl fun _ => lp_nx ⟨rfl, _, _, _, rfl⟩
    | 1, hy =>
      obtain rfl := Option.some.inj hy
      refine ⟨_, rfl, ?_⟩
      exact ends_turn (p := 1) hO rfl fun _ => lp_nx ⟨rfl, _, _, _, rfl⟩
    | j + 2, hy => cases hy
  · rintro sl S ⟨rfl, t8, t9, t10, rfl⟩
    exact q _ _ _
theorem first_turn {c : Nat} (h : Lk B xs) (hB : B ≤ 1000000000) (hc : c ≤ 1000)
    (q : ∀ Y, P (.nx [s0, some (wtD xs), s2, some (.lst (xs.map .int)), s4, s5, s6, s7, s8, s9, s10, some (.int c), s12, s13, s14] (C ++ Y))) :
    wS (b_law_right_7b_0 ⟨fl, [s0, some (wtD xs), s2, some (.lst (xs.map .int)), s4, s5, s6, s7, s8, s9, s10, some (.int c), s12, s13, s14]⟩ C) P := by
  have bd : ∀ x ∈ xs, x.natAbs < 1000000000000 := fun x hx => by have := h.bd x hx; omega
  have hl := h.len
  unfold b_law_right_7b_0
  walk_at "p"
  refine ⟨_, rfl, ?_⟩
  walk_at "p"
  refine bl_first (c := c) h (by omega) hc ?_
  walk_at "p"
  refine wo_of (repr_is (l := xs.take c) (toP_ci (by simp)) (by rw [List.length_take]; omega) fun x hx => bd x (List.mem_of_mem_take hx)) ?_
  walk_at "p"
  refine ⟨_, rfl, ?_⟩
  rw [cut_n]
  walk_at "p"
  refine wo_of (repr_is (l := xs.take c) (toP_li _ _) (by rw [List.length_take]; omega) fun x hx => bd x (List.mem_of_mem_take hx)) ?_
  walk_at "p"
  refine wI_dt rfl ?_
  walk_at "p"
  exact q _
theorem near_turn {x : Int} (h : xs.length ≤ 1000)
    (q : P (.nx [s0, some (wtD xs), s2, some (.lst (xs.map .int)), s4, s5, s6, s7, s8, s9, s10, s11, s12, some (.int x), s14] C)) :
    wS (b_law_right_8bb_0 ⟨fl, [s0, some (wtD xs), s2, some (.lst (xs.map .int)), s4, s5, s6, s7, s8, s9, s10, s11, s12, some (.int x), s14]⟩ C) P := by
  have ll := law_len2 xs
  unfold b_law_right_8bb_0
  walk_at "p"
  refine w_nO ?_
  walk_at "p"
  refine ⟨rfl, ?_⟩
  refine contains_w (by omega) (by omega) ?_
  rw [hasW_law]
  refine ⟨_, rfl, ?_⟩
  walk_at "p"
  refine wo_of ((gd_bl _).repr (by decide) (by decide) C) ?_
  walk_at "p"
  refine wo_of (in_li false x xs C) ?_
  walk_at "p"
  refine wo_of ((gd_bl _).repr (by decide) (by decide) C) ?_
  walk_at "p"
  refine wI_dt rfl ?_
  walk_at "p"
  exact q
theorem near_loop {x : Int} (h : xs.length ≤ 1000)
    (q : ∀ s13, P (.nx [s0, some (wtD xs), s2, some (.lst (xs.map .int)), s4, s5, s6, s7, s8, s9, s10, s11, some (.int x), s13, s14] C)) :
    wS (b_law_right_8b_0 ⟨fl, [s0, some (wtD xs), s2, some (.lst (xs.map .int)), s4, s5, s6, s7, s8, s9, s10, s11, some (.int x), s13, s14]⟩ C) P := by
  unfold b_law_right_8b_0
  walk_at "p"
  refine loop_p (pure_C ([x - 2, x - 1, x, x + 1, x + 2].map D.int)) (fun j sl S => S = C ∧ ∃ s13, sl = [s0, some (wtD xs), s2, some (.lst (xs.map .int)), s4, s5, s6, s7, s8, s9, s10, s11, some (.int x), s13, s14]) ⟨rfl, _, rfl⟩ ?_ ?_
  · rintro j y sl S hy ⟨rfl, t13, rfl⟩
    rw [List.getElem?_map] at hy
    obtain ⟨z, _, rfl⟩ := Option.map_eq_some_iff.mp hy
    refine ⟨_, rfl, ?_⟩
    exact near_turn h (lp_nx ⟨rfl, _, rfl⟩)
  · rintro sl S ⟨rfl, t13, rfl⟩
    exact q _
theorem in_loop (h : xs.length ≤ 1000)
    (q : ∀ s12 s13, P (.nx [s0, some (wtD xs), s2, some (.lst (xs.map .int)), s4, s5, s6, s7, s8, s9, s10, s11, s12, s13, s14] C)) :
    wS (b_law_right_8 ⟨fl, [s0, some (wtD xs), s2, some (.lst (xs.map .int)), s4, s5, s6, s7, s8, s9, s10, s11, s12, s13, s14]⟩ C) P := by
  unfold b_law_right_8
  walk_at "p"
  have ep : oPow (.int 10) (.int 40) C = some (.int (10 ^ 40), C) := rfl
  refine wo_of ep ?_
  walk_at "p"
  refine wo_catF (by simp; omega) ?_
  walk_at "p"
  have e : xs.map D.int ++ [.int 0, .int 1, .int (10 ^ 40)] = (xs ++ [0, 1, 10 ^ 40]).map D.int := by simp
  rw [e]
  refine loop_p (pure_C _) (fun j sl S => S = C ∧ ∃ s12 s13, sl = [s0, some (wtD xs), s2, some (.lst (xs.map .int)), s4, s5, s6, s7, s8, s9, s10, s11, s12, s13, s14]) ⟨rfl, _, _, rfl⟩ ?_ ?_
  · rintro j y sl S hy ⟨rfl, t12, t13, rfl⟩
    rw [List.getElem?_map] at hy
    obtain ⟨z, _, rfl⟩ := Option.map_eq_some_iff.mp hy
    refine ⟨_, rfl, ?_⟩
    exact near_loop h fun _ => lp_nx ⟨rfl, _, _, rfl⟩
  · rintro sl S ⟨rfl, t12, t13, rfl⟩
    exact q _ _
theorem thing_turn {d : D} (e : ∀ C, m_is_integer [d] C = .ok (.bl false) C)
    (q : P (.nx [s0, some (wantD E O), s2, s3, s4, s5, s6, s7, s8, s9, s10, s11, s12, s13, some d] C)) :
    wS (b_law_right_9b_0 ⟨fl, [s0, some (wantD E O), s2, s3, s4, s5, s6, s7, s8, s9, s10, s11, s12, s13, some d]⟩ C) P := by
  unfold b_law_right_9b_0
  walk_at "p"
  refine w_nO ?_
  walk_at "p"
  refine ⟨rfl, ?_⟩
  refine contains_no e ?_
  refine ⟨_, rfl, ?_⟩
  walk_at "p"
  refine wo_of ((gd_bl _).repr (by decide) (by decide) C) ?_
  walk_at "p"
  refine wI_dt (by decide +kernel) ?_
  walk_at "p"
  exact q
theorem thing_loop
    (q : ∀ s14, P (.nx [s0, some (wantD E O), s2, some (.lst (xs.map .int)), s4, s5, s6, s7, s8, s9, s10, s11, s12, s13, s14] C)) :
    wS (b_law_right_9 ⟨fl, [s0, some (wantD E O), s2, some (.lst (xs.map .int)), s4, s5, s6, s7, s8, s9, s10, s11, s12, s13, s14]⟩ C) P := by
  unfold b_law_right_9
  walk_at "p"
  refine loop_p (pure_C _) (fun j sl S => S = C ∧ ∃ s14, sl = [s0, some (wantD E O), s2, some (.lst (xs.map .int)), s4, s5, s6, s7, s8, s9, s10, s11, s12, s13, s14]) ⟨rfl, _, rfl⟩ ?_ ?_
  · rintro j y sl S hy ⟨rfl, t14, rfl⟩
    have hm := List.mem_of_getElem? hy
    have hno : ∀ C, m_is_integer [y] C = .ok (.bl false) C := fun C => by
      simp only [List.mem_cons, List.not_mem_nil, or_false] at hm
      rcases hm with rfl | rfl | rfl | rfl | rfl | rfl | rfl | rfl | rfl | rfl | rfl
      · exact no_non
      · exact no_bl _
      · exact no_bl _
      · exact no_str _
      · exact no_str _
      · exact no_tup _
      · exact no_lst _
      · exact no_dT
      · exact no_tup _
      · exact no_lst _
      · exact no_obj
    refine ⟨_, rfl, ?_⟩
    exact thing_turn hno (lp_nx ⟨rfl, _, rfl⟩)
  · rintro sl S ⟨rfl, t14, rfl⟩
    exact q _
end
end CL
set_option maxHeartbeats 4000000
namespace CL
open PySem L2 CT
local macro_rules | `(tactic| walk_at "w") => `(tactic| first | ((with_reducible apply gR); first | with_reducible refine w_var rfl ?_ | with_reducible apply w_cons | with_reducible apply w_c | with_reducible apply w_nil | with_reducible apply w_op | with_reducible apply w_ap | with_reducible apply w_call | with_reducible apply w_tst | with_reducible apply w_un | with_reducible apply w_tand | with_reducible apply w_tor | with_reducible apply w_tnot | with_reducible apply w_yes | with_reducible apply w_and | with_reducible apply w_or | with_reducible apply w_not | with_reducible apply w_if | with_reducible apply w_chain | with_reducible apply w_isi | with_reducible apply w_isi2 | with_reducible apply w_prop | with_reducible apply w_meth | with_reducible apply w_dget | with_reducible apply w_dnewF | with_reducible apply w_dnewT | with_reducible apply w_part | with_reducible apply w_noPart | with_reducible apply w_slLF | with_reducible apply w_slA | with_reducible apply w_ok | with_reducible apply w_ofO | with_reducible apply w_lcI | with_reducible apply w_seqI | with_reducible apply w_rng1 | with_reducible apply w_rng2 | with_reducible apply w_enum) | ((with_reducible apply gO); first | with_reducible apply wo_add | with_reducible apply wo_sub | with_reducible apply wo_lt | with_reducible apply wo_gt | with_reducible apply wo_eq | with_reducible apply wo_ne | with_reducible apply wo_le | with_reducible apply wo_ge | with_reducible apply wo_neg | with_reducible apply wo_eqS | with_reducible apply wo_neS | with_reducible apply wo_min | with_reducible apply wo_max | with_reducible apply wo_int | with_reducible apply wo_abs | with_reducible apply wo_tupL | with_reducible apply wo_tupT | with_reducible refine wo_tup (by with_unfolding_all rfl) ?_ | with_reducible refine wo_lstF (by with_unfolding_all rfl) ?_ | with_reducible refine wo_lstT (by with_unfolding_all rfl) ?_ | with_reducible apply wo_fld0 | with_reducible apply wo_fld1 | with_reducible apply wo_fld2) | ((with_reducible apply gS); first | with_reducible apply w_seq | with_reducible apply w_asg | with_reducible apply w_sif | with_reducible apply w_next | with_reducible apply w_ret | with_reducible apply w_par | with_reducible apply w_drop | with_reducible apply w_asgT | with_reducible apply w_retN | with_reducible apply w_brk | with_reducible apply w_cnt | with_reducible apply w_raise | with_reducible apply w_forI) | ((with_reducible apply gI); first | with_reducible apply wI_t | with_reducible apply wI_f | with_reducible apply wI_not) | with_reducible apply w_bl | with_reducible apply thn_nx | with_reducible apply w_int | with_reducible apply w_obj | with_reducible apply thn_rt | with_reducible apply lp_nx | with_reducible apply fnl_int | with_reducible apply fnl_bl | with_reducible apply fnl_non | with_reducible apply fnl_str | with_reducible apply fnl_nx | with_reducible apply thn_bk | with_reducible apply thn_ct | with_reducible apply thn_xc | with_reducible apply lp_rt | with_reducible apply lp_bk | with_reducible apply lp_xc | with_reducible apply w_itL | with_reducible apply w_itT | with_reducible apply w_itK)
local macro_rules | `(tactic| walk_at "p") => `(tactic| repeat walk_at "w")
local macro_rules | `(tactic| walk_at "w") => `(tactic| first | ((with_reducible apply gR); first | with_reducible refine w_var rfl ?_ | with_reducible apply w_cons | with_reducible apply w_c | with_reducible apply w_nil | with_reducible apply w_op | with_reducible apply w_ap | with_reducible apply w_call | with_reducible apply w_tst | with_reducible apply w_un | with_reducible apply w_tand | with_reducible apply w_tor | with_reducible apply w_tnot | with_reducible apply w_yes | with_reducible apply w_and | with_reducible apply w_or | with_reducible apply w_not | with_reducible apply w_if | with_reducible apply w_chain | with_reducible apply w_isi | with_reducible apply w_isi2 | with_reducible apply w_prop | with_reducible apply w_meth | with_reducible apply w_dget | with_reducible apply w_dnewF | with_reducible apply w_dnewT | with_reducible apply w_part | with_reducible apply w_noPart | with_reducible apply w_slLF | with_reducible apply w_slA | with_reducible apply w_ok | with_reducible apply w_ofO | with_reducible apply w_lcI | with_reducible apply w_seqI | with_reducible apply w_rng1 | with_reducible apply w_rng2 | with_reducible apply w_enum) | ((with_reducible apply gO); first | with_reducible apply wo_add | with_reducible apply wo_sub | with_reducible apply wo_lt | with_reducible apply wo_gt | with_reducible apply wo_eq | with_reducible apply wo_ne | with_reducible apply wo_le | with_reducible apply wo_ge | with_reducible apply wo_neg | with_reducible apply wo_eqS | with_reducible apply wo_neS | with_reducible apply wo_min | with_reducible apply wo_max | with_reducible apply wo_int | with_reducible apply wo_abs | with_reducible apply wo_tupL | with_reducible apply wo_tupT | with_reducible refine wo_tup (by with_unfolding_all rfl) ?_ | with_reducible refine wo_lstF (by with_unfolding_all rfl) ?_ | with_reducible refine wo_lstT (by with_unfolding_all rfl) ?_ | with_reducible apply wo_fld0 | with_reducible apply wo_fld1 | with_reducible apply wo_fld2) | ((with_reducible apply gS); first | with_reducible apply w_seq | with_reducible apply w_asg | with_reducible apply w_sif | with_reducible apply w_next | with_reducible apply w_ret | with_reducible apply w_par | with_reducible apply w_drop | with_reducible apply w_asgT | with_reducible apply w_retN | with_reducible apply w_brk | with_reducible apply w_cnt | with_reducible apply w_raise | with_reducible apply w_forI) | ((with_reducible apply gI); first | with_reducible apply wI_t | with_reducible apply wI_f | with_reducible apply wI_not) | with_reducible apply w_bl | with_reducible apply thn_nx | with_reducible apply w_int | with_reducible apply w_obj | with_reducible apply thn_rt | with_reducible apply lp_nx | with_reducible apply fnl_int | with_reducible apply fnl_bl | with_reducible apply fnl_non | with_reducible apply fnl_str | with_reducible apply fnl_nx | with_reducible apply thn_bk | with_reducible apply thn_ct | with_reducible apply thn_xc | with_reducible apply lp_rt | with_reducible apply lp_bk | with_reducible apply lp_xc | with_reducible apply w_itL | with_reducible apply w_itT | with_reducible apply w_itK)
local macro_rules | `(tactic| walk_at "p") => `(tactic| repeat walk_at "w")
/-! Y4: _law_right. -/
section
variable {C : Store} {Q : D → Store → Prop} {X : Exc → Store → Prop} {E O l : List Rn} {xs : List Int} {B : Int} {fl : Nat} {P : RS → Prop}
  {s0 s1 s2 s3 s4 s5 s6 s7 s8 s9 s10 s11 s12 s13 s14 : Option D}
theorem w_strO {c : Nat} {m : MF} {me : ME} {F : Fr} (h : wR (me F C) (fun x C1 => ∃ fs, vO x C1 = some (c, fs) ∧ wR (m [x] C1) (fun d C2 => ∃ s, d = .str s ∧ Q (.str s) C2) noX) X) : wR (mStrO c m me F C) Q X := by
  unfold mStrO
  refine w_bnd (w_mono h (fun x C1 g => ?_) fun _ _ z => z)
  obtain ⟨fs, e, q⟩ := g
  simp only [e, if_true]
  obtain ⟨d, C2, e2, s, rfl, q⟩ := w_out q
  simp only [e2]
  exact w_ok q
theorem wish_w (q : P (.nx [s0, s1, s2, some (.lst (xs.map .int)), some (.tup (rsD E)), some (.tup (rsD O)), some (.lst [.tup (rsD E), .tup (rsD O), oD xs.head?, oD xs.getLast?, .int xs.length]), s7, s8, s9, s10, s11, s12, s13, s14] C)) :
    wS (b_law_right_2 ⟨fl, [s0, s1, s2, some (.lst (xs.map .int)), some (.tup (rsD E)), some (.tup (rsD O)), s6, s7, s8, s9, s10, s11, s12, s13, s14]⟩ C) P := by
  have el : ∀ (xs : List Int), wO (oLen [.lst (xs.map .int)] C) (fun d C1 => d = .int xs.length ∧ C1 = C) := fun xs => by
    refine wo_len (xs := xs.map D.int) rfl ?_
    exact ⟨by rw [List.length_map], rfl⟩
  unfold b_law_right_2
  walk_at "p"
  refine wo_of (ne_li xs [] _) ?_
  walk_at "p"
  refine wI_d (fun e => ?_) fun e => ?_
  · subst e
    walk_at "p"
    refine wo_of (ne_li [] [] _) ?_
    walk_at "p"
    refine wI_dt rfl ?_
    walk_at "p"
    refine wo_len (xs := []) rfl ?_
    walk_at "p"
    exact q
  · obtain ⟨a, ys, rfl⟩ : ∃ x ys, xs = x :: ys := by
      cases xs with
      | nil => exact absurd rfl e
      | cons x ys => exact ⟨x, ys, rfl⟩
    obtain ⟨b, hb⟩ : ∃ b, (a :: ys).getLast? = some b := ⟨_, List.getLast?_eq_some_getLast (by simp)⟩
    rw [hb] at q
    have hix : atI ((a :: ys).map D.int) (-1) = some (.int b) := by
      unfold atI ixN
      rw [if_neg (by decide), if_pos (by simp; omega)]
      have e1 : ((-1 : Int) + ((a :: ys).map D.int).length).toNat = ((a :: ys).map D.int).length - 1 := by simp; omega
      show ((a :: ys).map D.int)[((-1 : Int) + ((a :: ys).map D.int).length).toNat]? = _
      rw [e1, ← List.getLast?_eq_getElem?, List.getLast?_map, hb]
      rfl
    walk_at "p"
    refine wo_ix rfl (k := 0) rfl rfl ?_
    walk_at "p"
    refine wo_of (ne_li (a :: ys) [] _) ?_
    walk_at "p"
    refine wI_df e ?_
    walk_at "p"
    refine wo_of (d := .int b) (C' := C) ?_ ?_
    · show ((some ((a :: ys).map D.int)).bind fun xs => (atI xs (-1)).map fun d => (d, C)) = _
      rw [Option.bind_some, hix]
      rfl
    walk_at "p"
    refine wo_len (xs := (a :: ys).map D.int) rfl ?_
    rw [List.length_map]
    walk_at "p"
    exact q
theorem law_tny (h : Lk 1000000000 xs) (p : Int) : Tny (lawR p xs) := by
  have := lawR_len p xs
  have := h.len
  refine ⟨by omega, fun r hr => ?_⟩
  obtain ⟨a, b⟩ := lawR_end hr
  have := h.bd _ a
  have := h.bd _ b
  omega
theorem gd_rs {l : List Rn} (h : Tny l) : ∃ p, Gd (63 * 83) 2 (.tup (rsD l)) p := gd_runs (by have := h.1; omega) h.2
theorem gd_is {l : List Int} (hl : l.length ≤ 60) (hb : ∀ x ∈ l, x.natAbs < 1000000000000) : ∃ p, Gd (63 * 83) 2 (.tup (l.map .int)) p := by
  obtain ⟨ps, g⟩ := gdl_all (w := 40) (dp := 0) (xs := l.map D.int) fun x hx => by
    obtain ⟨z, hz, rfl⟩ := List.mem_map.mp hx
    exact ⟨_, gd_int (hb z hz)⟩
  exact ⟨_, (gd_tup (n := 60) g (by rw [List.length_map]; exact hl)).mono (by decide) (by decide)⟩
theorem endR_in {x : Int} (h : x ∈ endR l) : ∃ r ∈ l, x = r.1 ∨ x = r.2 := by
  by_cases e : l = []
  · subst e
    cases h
  · obtain ⟨a, b, ha, hb⟩ := last_of e
    have ee : endR l = [a.1, b.2] := by unfold endR; rw [ha, hb]
    rw [ee] at h
    simp only [List.mem_cons, List.not_mem_nil, or_false] at h
    rcases h with rfl | rfl
    · exact ⟨a, List.mem_of_mem_head? ha, .inl rfl⟩
    · exact ⟨b, List.mem_of_mem_getLast? hb, .inr rfl⟩
/-- the count loop -/
theorem count_loop (h : Lk 1000000000 xs) (hB : Bg 0 C) {hC : fl ≤ C.length}
    (q : ∀ s11 C1 Y, To 0 C C1 → P (.nx [some (.cell 0), some (wtD xs), s2, some (.lst (xs.map .int)), s4, s5, s6, s7, s8, s9, s10, s11, s12, s13, s14] (C1 ++ Y))) :
    wS (b_law_right_7 ⟨fl, [some (.cell 0), some (wtD xs), s2, some (.lst (xs.map .int)), s4, s5, s6, s7, s8, s9, s10, s11, s12, s13, s14]⟩ C) P := by
  have hl := h.len
  unfold b_law_right_7
  walk_at "p"
  refine take_w hB (by decide) (by decide) fun m C1 m0 m1 t1 => ?_
  walk_at "p"
  refine wo_len (xs := xs.map D.int) rfl ?_
  rw [List.length_map]
  walk_at "p"
  refine wo_len (xs := xs.map D.int) rfl ?_
  rw [List.length_map]
  walk_at "p"
  refine loop_p (pure_C _) (fun j sl S => (∃ Y, S = C1 ++ Y) ∧ ∃ s11, sl = [some (.cell 0), some (wtD xs), s2, some (.lst (xs.map .int)), s4, s5, s6, s7, s8, s9, s10, s11, s12, s13, s14]) ⟨⟨[], by simp⟩, _, rfl⟩ ?_ ?_
  · rintro j y sl S hy ⟨⟨Y, rfl⟩, t11, rfl⟩
    have hm := List.mem_of_getElem? hy
    obtain ⟨c, rfl, hc⟩ : ∃ c : Nat, y = .int c ∧ c ≤ 1000 := by
      simp only [List.mem_cons, List.not_mem_nil, or_false] at hm
      rcases hm with rfl | rfl | rfl | rfl | rfl | rfl
      · exact ⟨0, rfl, by decide⟩
      · exact ⟨1, rfl, by decide⟩
      · exact ⟨m.toNat, by congr 1; omega, by omega⟩
      · exact ⟨xs.length, rfl, by omega⟩
      · exact ⟨xs.length + 3, rfl, by omega⟩
      · exact ⟨1000, rfl, by decide⟩
    refine ⟨_, rfl, ?_⟩
    refine first_turn h (by decide) hc fun Y2 => ?_
    rw [List.append_assoc]
    exact lp_nx ⟨⟨_, rfl⟩, _, rfl⟩
  · rintro sl S ⟨⟨Y, rfl⟩, t11, rfl⟩
    exact q _ _ _ t1
theorem told_w {rest : MS} (h : Lk 1000000000 xs)
    (q : ∀ s6 s7, wS (rest ⟨fl, [s0, some (wtD xs), s2, some (.lst (xs.map .int)), some (.tup (rsD (lawR 0 xs))), some (.tup (rsD (lawR 1 xs))), s6, s7, s8, s9, s10, s11, s12, s13, s14]⟩ C) P) :
    wS (sSeq b_law_right_3 (sSeq b_law_right_4 (sSeq b_law_right_5 rest)) ⟨fl, [s0, some (wtD xs), s2, some (.lst (xs.map .int)), some (.tup (rsD (lawR 0 xs))), some (.tup (rsD (lawR 1 xs))), some (.lst [.tup (rsD (lawR 0 xs)), .tup (rsD (lawR 1 xs)), oD xs.head?, oD xs.getLast?, .int xs.length]), s7, s8, s9, s10, s11, s12, s13, s14]⟩ C) P := by
  have hl := h.len
  have ll := law_len2 xs
  have l0 := endR_len (lawR 0 xs)
  have l1 := endR_len (lawR 1 xs)
  have bd : ∀ x ∈ xs, x.natAbs < 1000000000000 := fun x hx => by have := h.bd x hx; omega
  have bh : ∀ x, xs.head? = some x → x.natAbs < 1000000000000 := fun x e => bd x (List.mem_of_mem_head? e)
  have bl : ∀ x, xs.getLast? = some x → x.natAbs < 1000000000000 := fun x e => bd x (List.mem_of_mem_getLast? e)
  have be : ∀ x ∈ srtI (endR (lawR 0 xs) ++ endR (lawR 1 xs)), x.natAbs < 1000000000000 := fun x hx => by
    rw [srtI_mem, List.mem_append] at hx
    rcases hx with hx | hx
    · obtain ⟨r, hr, e⟩ := endR_in hx
      have := (law_tny h 0).2 r hr
      rcases e with rfl | rfl <;> omega
    · obtain ⟨r, hr, e⟩ := endR_in hx
      have := (law_tny h 1).2 r hr
      rcases e with rfl | rfl <;> omega
  have sl := srtI_len1 (endR (lawR 0 xs) ++ endR (lawR 1 xs))
  rw [List.length_append] at sl
  obtain ⟨p1, g1⟩ := gd_rs (law_tny h 0)
  obtain ⟨p2, g2⟩ := gd_rs (law_tny h 1)
  obtain ⟨p3, g3⟩ := gd_oD bh
  obtain ⟨p4, g4⟩ := gd_oD bl
  have g5 := gd_int (i := (xs.length : Int)) (by omega)
  obtain ⟨p6, g6⟩ := gd_is (l := srtI (endR (lawR 0 xs) ++ endR (lawR 1 xs))) (by omega) be
  have g := gd_lst (n := 6) (gdl_cons g1 (gdl_cons g2 (gdl_cons (g3.mono (by decide) (by decide)) (gdl_cons (g4.mono (by decide) (by decide)) (gdl_cons (g5.mono (by decide) (by decide)) (gdl_cons g6 gdl_nil)))))) (by simp)
  walk_at "p"
  unfold b_law_right_3
  walk_at "p"
  refine ends_w ?_
  walk_at "p"
  refine ends_w ?_
  walk_at "p"
  refine wo_catF (by simp; omega) ?_
  rw [← List.map_append]
  walk_at "p"
  refine wo_of (sortS_ok (by simp; omega)) ?_
  walk_at "p"
  refine wo_catF (by simp) ?_
  walk_at "p"
  unfold b_law_right_4
  walk_at "p"
  refine ⟨_, rfl, ?_⟩
  refine evens_w ?_
  walk_at "p"
  refine ⟨_, rfl, ?_⟩
  refine odds_w ?_
  walk_at "p"
  refine ⟨_, rfl, ?_⟩
  refine lowA_w ?_
  rw [low_law h]
  walk_at "p"
  refine ⟨_, rfl, ?_⟩
  refine highA_w ?_
  rw [high_law h]
  walk_at "p"
  refine ⟨_, rfl, ?_⟩
  refine many_w (by omega) (by omega) ?_
  rw [cnt_law h]
  walk_at "p"
  refine ⟨_, rfl, ?_⟩
  refine corners_w (by omega) (by omega) ?_
  walk_at "p"
  unfold b_law_right_5
  walk_at "p"
  refine wo_of (g.repr (by decide) (by decide) C) ?_
  walk_at "p"
  refine wo_of (g.repr (by decide) (by decide) C) ?_
  walk_at "p"
  refine wI_dt rfl ?_
  walk_at "p"
  refine ⟨true, rfl, ?_⟩
  walk_at "p"
  exact q _ _
theorem right_w (hB : Bg 0 C) (hl : xs.length ≤ 60) (hb : ∀ x ∈ xs, -1000000000 ≤ x ∧ x ≤ 1000000000) (q : ∀ C', To 0 C C' → Q (.bl true) C') : wR (m_law_right [.cell 0, wtD xs, .lst (xs.map .int)] C) Q X := by
  have sl := srtI_len1 xs
  have hk : Lk 1000000000 (srtI xs) := ⟨by omega, srtI_up, fun x hx => hb x (srtI_mem.mp hx)⟩
  have kl := hk.len
  rw [wtD_same (ys := srtI xs) fun x => srtI_mem.symm]
  rw [e_law_right]
  apply w_fin
  unfold b_law_right b_law_right_0
  walk_at "p"
  refine wo_of (sortS_ok (by omega)) ?_
  generalize hs : srtI xs = ds at hk kl
  walk_at "p"
  unfold b_law_right_1
  walk_at "p"
  refine runs_w (by omega) ?_
  walk_at "p"
  refine runs_w (by omega) ?_
  walk_at "p"
  refine ⟨_, rfl, ?_⟩
  walk_at "p"
  refine wish_w ?_
  refine thn_nx ?_
  refine told_w hk fun s6 s7 => ?_
  have tE := law_tny hk 0
  have tO := law_tny hk 1
  have ll := law_len2 ds
  refine w_seq ?_
  refine ends_loop tE tO fun s8 s9 s10 => ?_
  refine thn_nx (w_seq ?_)
  refine count_loop hk hB (hC := Nat.le_refl _) fun s11 C1 Y t1 => ?_
  refine thn_nx (w_seq ?_)
  refine in_loop (by omega) fun s12 s13 => ?_
  refine thn_nx (w_seq ?_)
  refine thing_loop fun s14 => ?_
  refine thn_nx ?_
  unfold b_law_right_10
  have tk : (C1 ++ Y).take C.length = C1 := by rw [← t1.len]; simp
  walk_at "p"
  refine w_bO ?_
  walk_at "p"
  refine ⟨_, rfl, ?_⟩
  refine bool_w ?_
  refine ⟨_, rfl, ?_⟩
  walk_at "p"
  refine wo_of ((gd_bl _).repr (by decide) (by decide) _) ?_
  walk_at "p"
  refine wo_of (ne_li ds [] _) ?_
  walk_at "p"
  refine wo_of ((gd_bl _).repr (by decide) (by decide) _) ?_
  rw [some_law]
  walk_at "p"
  refine wI_dt rfl ?_
  walk_at "p"
  refine w_strO ?_
  walk_at "p"
  refine ⟨_, rfl, ?_⟩
  have tm : Tame (lawR 0 ds ++ lawR 1 ds) := ⟨by rw [List.length_append]; omega, fun r hr => (List.mem_append.mp hr).elim (tE.2 r) (tO.2 r)⟩
  refine str_x tm ?_
  refine ⟨_, rfl, ?_⟩
  walk_at "p"
  refine wo_of (cat_t _ _ (by omega)) ?_
  walk_at "p"
  refine wo_of (sortQ_t _ _) ?_
  walk_at "p"
  have tm2 : Tame (srt (lawR 0 ds ++ lawR 1 ds)) := ⟨by rw [srt_len]; exact tm.1, fun r hr => tm.2 r (srt_mem.mp hr)⟩
  refine law_text_w tm2 ?_
  walk_at "p"
  rw [decide_eq_true rfl, tk]
  exact q C1 t1
end
end CL
set_option maxHeartbeats 4000000
namespace CL
open PySem L2 CT
local macro_rules | `(tactic| walk_at "w") => `(tactic| first | ((with_reducible apply gR); first | with_reducible refine w_var rfl ?_ | with_reducible apply w_cons | with_reducible apply w_c | with_reducible apply w_nil | with_reducible apply w_op | with_reducible apply w_ap | with_reducible apply w_call | with_reducible apply w_tst | with_reducible apply w_un | with_reducible apply w_tand | with_reducible apply w_tor | with_reducible apply w_tnot | with_reducible apply w_yes | with_reducible apply w_and | with_reducible apply w_or | with_reducible apply w_not | with_reducible apply w_if | with_reducible apply w_chain | with_reducible apply w_isi | with_reducible apply w_isi2 | with_reducible apply w_prop | with_reducible apply w_meth | with_reducible apply w_dget | with_reducible apply w_dnewF | with_reducible apply w_dnewT | with_reducible apply w_part | with_reducible apply w_noPart | with_reducible apply w_slLF | with_reducible apply w_slA | with_reducible apply w_ok | with_reducible apply w_ofO | with_reducible apply w_lcI | with_reducible apply w_seqI | with_reducible apply w_rng1 | with_reducible apply w_rng2 | with_reducible apply w_enum) | ((with_reducible apply gO); first | with_reducible apply wo_add | with_reducible apply wo_sub | with_reducible apply wo_lt | with_reducible apply wo_gt | with_reducible apply wo_eq | with_reducible apply wo_ne | with_reducible apply wo_le | with_reducible apply wo_ge | with_reducible apply wo_neg | with_reducible apply wo_eqS | with_reducible apply wo_neS | with_reducible apply wo_min | with_reducible apply wo_max | with_reducible apply wo_int | with_reducible apply wo_abs | with_reducible apply wo_tupL | with_reducible apply wo_tupT | with_reducible refine wo_tup (by with_unfolding_all rfl) ?_ | with_reducible refine wo_lstF (by with_unfolding_all rfl) ?_ | with_reducible refine wo_lstT (by with_unfolding_all rfl) ?_ | with_reducible apply wo_fld0 | with_reducible apply wo_fld1 | with_reducible apply wo_fld2) | ((with_reducible apply gS); first | with_reducible apply w_seq | with_reducible apply w_asg | with_reducible apply w_sif | with_reducible apply w_next | with_reducible apply w_ret | with_reducible apply w_par | with_reducible apply w_drop | with_reducible apply w_asgT | with_reducible apply w_retN | with_reducible apply w_brk | with_reducible apply w_cnt | with_reducible apply w_raise | with_reducible apply w_forI) | ((with_reducible apply gI); first | with_reducible apply wI_t | with_reducible apply wI_f | with_reducible apply wI_not) | with_reducible apply w_bl | with_reducible apply thn_nx | with_reducible apply w_int | with_reducible apply w_obj | with_reducible apply thn_rt | with_reducible apply lp_nx | with_reducible apply fnl_int | with_reducible apply fnl_bl | with_reducible apply fnl_non | with_reducible apply fnl_str | with_reducible apply fnl_nx | with_reducible apply thn_bk | with_reducible apply thn_ct | with_reducible apply thn_xc | with_reducible apply lp_rt | with_reducible apply lp_bk | with_reducible apply lp_xc | with_reducible apply w_itL | with_reducible apply w_itT | with_reducible apply w_itK)
local macro_rules | `(tactic| walk_at "p") => `(tactic| repeat walk_at "w")
local macro_rules | `(tactic| walk_at "w") => `(tactic| first | ((with_reducible apply gR); first | with_reducible refine w_var rfl ?_ | with_reducible apply w_cons | with_reducible apply w_c | with_reducible apply w_nil | with_reducible apply w_op | with_reducible apply w_ap | with_reducible apply w_call | with_reducible apply w_tst | with_reducible apply w_un | with_reducible apply w_tand | with_reducible apply w_tor | with_reducible apply w_tnot | with_reducible apply w_yes | with_reducible apply w_and | with_reducible apply w_or | with_reducible apply w_not | with_reducible apply w_if | with_reducible apply w_chain | with_reducible apply w_isi | with_reducible apply w_isi2 | with_reducible apply w_prop | with_reducible apply w_meth | with_reducible apply w_dget | with_reducible apply w_dnewF | with_reducible apply w_dnewT | with_reducible apply w_part | with_reducible apply w_noPart | with_reducible apply w_slLF | with_reducible apply w_slA | with_reducible apply w_ok | with_reducible apply w_ofO | with_reducible apply w_lcI | with_reducible apply w_seqI | with_reducible apply w_rng1 | with_reducible apply w_rng2 | with_reducible apply w_enum) | ((with_reducible apply gO); first | with_reducible apply wo_add | with_reducible apply wo_sub | with_reducible apply wo_lt | with_reducible apply wo_gt | with_reducible apply wo_eq | with_reducible apply wo_ne | with_reducible apply wo_le | with_reducible apply wo_ge | with_reducible apply wo_neg | with_reducible apply wo_eqS | with_reducible apply wo_neS | with_reducible apply wo_min | with_reducible apply wo_max | with_reducible apply wo_int | with_reducible apply wo_abs | with_reducible apply wo_tupL | with_reducible apply wo_tupT | with_reducible refine wo_tup (by with_unfolding_all rfl) ?_ | with_reducible refine wo_lstF (by with_unfolding_all rfl) ?_ | with_reducible refine wo_lstT (by with_unfolding_all rfl) ?_ | with_reducible apply wo_fld0 | with_reducible apply wo_fld1 | with_reducible apply wo_fld2) | ((with_reducible apply gS); first | with_reducible apply w_seq | with_reducible apply w_asg | with_reducible apply w_sif | with_reducible apply w_next | with_reducible apply w_ret | with_reducible apply w_par | with_reducible apply w_drop | with_reducible apply w_asgT | with_reducible apply w_retN | with_reducible apply w_brk | with_reducible apply w_cnt | with_reducible apply w_raise | with_reducible apply w_forI) | ((with_reducible apply gI); first | with_reducible apply wI_t | with_reducible apply wI_f | with_reducible apply wI_not) | with_reducible apply w_bl | with_reducible apply thn_nx | with_reducible apply w_int | with_reducible apply w_obj | with_reducible apply thn_rt | with_reducible apply lp_nx | with_reducible apply fnl_int | with_reducible apply fnl_bl | with_reducible apply fnl_non | with_reducible apply fnl_str | with_reducible apply fnl_nx | with_reducible apply thn_bk | with_reducible apply thn_ct | with_reducible apply thn_xc | with_reducible apply lp_rt | with_reducible apply lp_bk | with_reducible apply lp_xc | with_reducible apply w_itL | with_reducible apply w_itT | with_reducible apply w_itK)
local macro_rules | `(tactic| walk_at "p") => `(tactic| repeat walk_at "w")
/-! LKb: Wants made of lists, of a range. -/
theorem btw_bt2 (p lo hi : Int) : btw p lo hi = bt2 p lo hi := rfl
section
variable {C : Store} {Q : D → Store → Prop} {X : Exc → Store → Prop} {xs : List Int}
theorem btw_law (lo hi : Int) (n : Nat) (e : (hi - lo + 1).toNat = n) : wantD (btw 0 lo hi) (btw 1 lo hi) = wtD ((List.range n).map fun i => lo + (i : Nat)) := by
  rw [btw_bt2, btw_bt2]
  refine law_of ⟨(bt2_ok (.inl rfl)).1, (bt2_ok (.inr rfl)).1⟩ fun x => ?_
  rw [bt2_in, List.mem_map]
  constructor
  · intro h
    exact ⟨(x - lo).toNat, List.mem_range.mpr (by omega), by omega⟩
  · rintro ⟨i, hi, rfl⟩
    have := List.mem_range.mp hi
    omega
theorem mk_law (hb : ∀ x ∈ xs, -1000000000 ≤ x ∧ x ≤ 1000000000) (hl : xs.length ≤ 40) {F : Fr} {ma : MA} {n : Nat} (hn : xs.length = n) (ha : ma F C = .ok (xs.map .int) C) (q : Q (wtD xs) C) : wR (mMake false 0 1 (vaM .pos n m_Want__init) [] ma F C) Q X := by
  refine w_of (mk_pos hb hl hn ha) ?_
  rw [lawR_side, lawR_side]
  exact q
end
end CL
set_option maxHeartbeats 4000000
namespace CL
open PySem L2 CT
local macro_rules | `(tactic| walk_at "w") => `(tactic| first | ((with_reducible apply gR); first | with_reducible refine w_var rfl ?_ | with_reducible apply w_cons | with_reducible apply w_c | with_reducible apply w_nil | with_reducible apply w_op | with_reducible apply w_ap | with_reducible apply w_call | with_reducible apply w_tst | with_reducible apply w_un | with_reducible apply w_tand | with_reducible apply w_tor | with_reducible apply w_tnot | with_reducible apply w_yes | with_reducible apply w_and | with_reducible apply w_or | with_reducible apply w_not | with_reducible apply w_if | with_reducible apply w_chain | with_reducible apply w_isi | with_reducible apply w_isi2 | with_reducible apply w_prop | with_reducible apply w_meth | with_reducible apply w_dget | with_reducible apply w_dnewF | with_reducible apply w_dnewT | with_reducible apply w_part | with_reducible apply w_noPart | with_reducible apply w_slLF | with_reducible apply w_slA | with_reducible apply w_ok | with_reducible apply w_ofO | with_reducible apply w_lcI | with_reducible apply w_seqI | with_reducible apply w_rng1 | with_reducible apply w_rng2 | with_reducible apply w_enum) | ((with_reducible apply gO); first | with_reducible apply wo_add | with_reducible apply wo_sub | with_reducible apply wo_lt | with_reducible apply wo_gt | with_reducible apply wo_eq | with_reducible apply wo_ne | with_reducible apply wo_le | with_reducible apply wo_ge | with_reducible apply wo_neg | with_reducible apply wo_eqS | with_reducible apply wo_neS | with_reducible apply wo_min | with_reducible apply wo_max | with_reducible apply wo_int | with_reducible apply wo_abs | with_reducible apply wo_tupL | with_reducible apply wo_tupT | with_reducible refine wo_tup (by with_unfolding_all rfl) ?_ | with_reducible refine wo_lstF (by with_unfolding_all rfl) ?_ | with_reducible refine wo_lstT (by with_unfolding_all rfl) ?_ | with_reducible apply wo_fld0 | with_reducible apply wo_fld1 | with_reducible apply wo_fld2) | ((with_reducible apply gS); first | with_reducible apply w_seq | with_reducible apply w_asg | with_reducible apply w_sif | with_reducible apply w_next | with_reducible apply w_ret | with_reducible apply w_par | with_reducible apply w_drop | with_reducible apply w_asgT | with_reducible apply w_retN | with_reducible apply w_brk | with_reducible apply w_cnt | with_reducible apply w_raise | with_reducible apply w_forI) | ((with_reducible apply gI); first | with_reducible apply wI_t | with_reducible apply wI_f | with_reducible apply wI_not) | with_reducible apply w_bl | with_reducible apply thn_nx | with_reducible apply w_int | with_reducible apply w_obj | with_reducible apply thn_rt | with_reducible apply lp_nx | with_reducible apply fnl_int | with_reducible apply fnl_bl | with_reducible apply fnl_non | with_reducible apply fnl_str | with_reducible apply fnl_nx | with_reducible apply thn_bk | with_reducible apply thn_ct | with_reducible apply thn_xc | with_reducible apply lp_rt | with_reducible apply lp_bk | with_reducible apply lp_xc | with_reducible apply w_itL | with_reducible apply w_itT | with_reducible apply w_itK)
local macro_rules | `(tactic| walk_at "p") => `(tactic| repeat walk_at "w")
local macro_rules | `(tactic| walk_at "w") => `(tactic| first | ((with_reducible apply gR); first | with_reducible refine w_var rfl ?_ | with_reducible apply w_cons | with_reducible apply w_c | with_reducible apply w_nil | with_reducible apply w_op | with_reducible apply w_ap | with_reducible apply w_call | with_reducible apply w_tst | with_reducible apply w_un | with_reducible apply w_tand | with_reducible apply w_tor | with_reducible apply w_tnot | with_reducible apply w_yes | with_reducible apply w_and | with_reducible apply w_or | with_reducible apply w_not | with_reducible apply w_if | with_reducible apply w_chain | with_reducible apply w_isi | with_reducible apply w_isi2 | with_reducible apply w_prop | with_reducible apply w_meth | with_reducible apply w_dget | with_reducible apply w_dnewF | with_reducible apply w_dnewT | with_reducible apply w_part | with_reducible apply w_noPart | with_reducible apply w_slLF | with_reducible apply w_slA | with_reducible apply w_ok | with_reducible apply w_ofO | with_reducible apply w_lcI | with_reducible apply w_seqI | with_reducible apply w_rng1 | with_reducible apply w_rng2 | with_reducible apply w_enum) | ((with_reducible apply gO); first | with_reducible apply wo_add | with_reducible apply wo_sub | with_reducible apply wo_lt | with_reducible apply wo_gt | with_reducible apply wo_eq | with_reducible apply wo_ne | with_reducible apply wo_le | with_reducible apply wo_ge | with_reducible apply wo_neg | with_reducible apply wo_eqS | with_reducible apply wo_neS | with_reducible apply wo_min | with_reducible apply wo_max | with_reducible apply wo_int | with_reducible apply wo_abs | with_reducible apply wo_tupL | with_reducible apply wo_tupT | with_reducible refine wo_tup (by with_unfolding_all rfl) ?_ | with_reducible refine wo_lstF (by with_unfolding_all rfl) ?_ | with_reducible refine wo_lstT (by with_unfolding_all rfl) ?_ | with_reducible apply wo_fld0 | with_reducible apply wo_fld1 | with_reducible apply wo_fld2) | ((with_reducible apply gS); first | with_reducible apply w_seq | with_reducible apply w_asg | with_reducible apply w_sif | with_reducible apply w_next | with_reducible apply w_ret | with_reducible apply w_par | with_reducible apply w_drop | with_reducible apply w_asgT | with_reducible apply w_retN | with_reducible apply w_brk | with_reducible apply w_cnt | with_reducible apply w_raise | with_reducible apply w_forI) | ((with_reducible apply gI); first | with_reducible apply wI_t | with_reducible apply wI_f | with_reducible apply wI_not) | with_reducible apply w_bl | with_reducible apply thn_nx | with_reducible apply w_int | with_reducible apply w_obj | with_reducible apply thn_rt | with_reducible apply lp_nx | with_reducible apply fnl_int | with_reducible apply fnl_bl | with_reducible apply fnl_non | with_reducible apply fnl_str | with_reducible apply fnl_nx | with_reducible apply thn_bk | with_reducible apply thn_ct | with_reducible apply thn_xc | with_reducible apply lp_rt | with_reducible apply lp_bk | with_reducible apply lp_xc | with_reducible apply w_itL | with_reducible apply w_itT | with_reducible apply w_itK)
local macro_rules | `(tactic| walk_at "p") => `(tactic| repeat walk_at "w")
/-! Y5: the law k12. -/
def Bd (x : Int) : Prop := -1000000000 ≤ x ∧ x ≤ 1000000000
theorem ints_of {P : Int → Prop} : ∀ {l : List D}, (∀ d ∈ l, ∃ x, d = .int x ∧ P x) → ∃ zs : List Int, l = zs.map .int ∧ ∀ z ∈ zs, P z
  | [], _ => ⟨[], rfl, by simp⟩
  | d :: l, h => by
    obtain ⟨x, rfl, hx⟩ := h d (List.mem_cons_self ..)
    obtain ⟨zs, rfl, hz⟩ := ints_of (l := l) fun y hy => h y (List.mem_cons_of_mem _ hy)
    exact ⟨x :: zs, rfl, fun z hz' => (List.mem_cons.mp hz').elim (fun e => e ▸ hx) (hz z)⟩
section
variable {C : Store} {Q : D → Store → Prop} {X : Exc → Store → Prop} {xs : List Int} {i : Nat}
theorem list_w {m : Int} (hB : Bg i C) (h0 : 0 ≤ m) (h1 : m ≤ 1000) (h : ∀ (xs : List Int) (C' : Store), (xs.length : Int) = m → (∀ x ∈ xs, Bd x) → To i C C' → Q (.lst (xs.map .int)) C') : wR (m_law_list [.cell i, .int m] C) Q X := by
  rw [e_law_list]
  apply w_fin
  unfold b_law_list b_law_list_0
  walk_at "p"
  refine take_w hB (by decide) (by decide) fun r C1 r0 r1 t1 => ?_
  walk_at "p"
  refine take_w t1.bg (by decide) (by decide) fun r2 C2 r20 r21 t2 => ?_
  obtain ⟨b, hb, e⟩ := ix_ints (l := [0, -4, 999999992, -1000000000, r - 1000000000]) (m := r2) C2 r20 (by simpa using r21)
  refine wo_of e ?_
  walk_at "p"
  have hb2 : -1000000000 ≤ b ∧ b ≤ 999999992 := by
    simp only [List.mem_cons, List.not_mem_nil, or_false] at hb
    rcases hb with rfl | rfl | rfl | rfl | rfl <;> omega
  have t12 := t1.trans t2
  unfold b_law_list_1
  walk_at "p"
  refine ⟨inR_of (by omega) (by omega), ?_⟩
  refine lc_d (pure_R 0 _) (fun C' => To i C C') (fun _ d => ∃ x, d = .int x ∧ Bd x) (by simp [rngI]; omega) t12 (fun x d n _ hd => by obtain ⟨x, rfl, _⟩ := hd; rfl) (fun x hx => ?_) fun ds C' hl hr hC hL => ?_
  · refine ⟨_, rfl, fun C' acc hC hL => ?_⟩
    walk_at "p"
    obtain ⟨z, C'', e, z0, z1, tz⟩ := take_to hC.bg (n := 9) (by decide) (by decide) [some (.lst acc)]
    refine w_of e ?_
    walk_at "p"
    exact ⟨C'', rfl, hC.trans tz, by rw [tz.len, hL], b + z, rfl, by unfold Bd; omega⟩
  · obtain ⟨zs, rfl, hz⟩ := ints_of (P := Bd) (l := ds) fun d hd => by
      obtain ⟨k, hk, rfl⟩ := List.getElem_of_mem hd
      have hk2 : k < (rngI 0 m.toNat).length := by omega
      exact hr k _ _ (List.getElem?_eq_getElem hk2) (List.getElem?_eq_getElem hk)
    have : (zs.length : Int) = m := by
      simp [rngI] at hl
      omega
    refine fnl_p (cb_is _ _) ?_
    rw [hC.tk]
    exact h zs C' this hz hC
theorem len_s {n : Nat} {xs : List Int} (h : xs.length = n + 1) : ∃ x t, xs = x :: t ∧ t.length = n := by
  cases xs with
  | nil => cases h
  | cons x t => exact ⟨x, t, rfl, Nat.succ.inj h⟩
theorem made_w (hn : xs.length = 0 ∨ xs.length = 1 ∨ xs.length = 2 ∨ xs.length = 3 ∨ xs.length = 5 ∨ xs.length = 8 ∨ xs.length = 12) (hb : ∀ x ∈ xs, Bd x) (h : Q (wtD xs) C) : wR (m_law_made [.lst (xs.map .int)] C) Q X := by
  have fin : fnl C.length Q X (.rt (wtD xs) C) := fnl_p (cb_want _ _ _) (by rw [List.take_length]; exact h)
  rw [e_law_made]
  apply w_fin
  unfold b_law_made
  have hz : ∀ n : Nat, ((xs.map D.int).length : Int) = (n : Int) ↔ xs.length = n := fun n => by rw [List.length_map]; omega
  walk_at "p"
  unfold b_law_made_0
  walk_at "p"
  refine wo_len (xs := xs.map D.int) rfl ?_
  walk_at "p"
  refine wI_d (fun e => ?_) fun e0 => ?_
  · have e := (hz 0).mp e
    walk_at "p"
    obtain rfl := List.length_eq_zero_iff.mp e
    refine mk_law (xs := []) hb (by simp) rfl rfl ?_
    exact fin
  walk_at "p"
  unfold b_law_made_1
  walk_at "p"
  refine wo_len (xs := xs.map D.int) rfl ?_
  walk_at "p"
  refine wI_d (fun e => ?_) fun e1 => ?_
  · have e := (hz 1).mp e
    walk_at "p"
    obtain ⟨x0, t0, rfl, f0⟩ := len_s e
    obtain rfl := List.length_eq_zero_iff.mp f0
    refine mk_law (xs := [x0]) hb (by simp) rfl rfl ?_
    exact fin
  walk_at "p"
  unfold b_law_made_2
  walk_at "p"
  refine wo_len (xs := xs.map D.int) rfl ?_
  walk_at "p"
  refine wI_d (fun e => ?_) fun e2 => ?_
  · have e := (hz 2).mp e
    walk_at "p"
    obtain ⟨x0, t0, rfl, f0⟩ := len_s e
    obtain ⟨x1, t1, rfl, f1⟩ := len_s f0
    obtain rfl := List.length_eq_zero_iff.mp f1
    refine mk_law (xs := [x0, x1]) hb (by simp) rfl rfl ?_
    exact fin
  walk_at "p"
  unfold b_law_made_3
  walk_at "p"
  refine wo_len (xs := xs.map D.int) rfl ?_
  walk_at "p"
  refine wI_d (fun e => ?_) fun e3 => ?_
  · have e := (hz 3).mp e
    walk_at "p"
    obtain ⟨x0, t0, rfl, f0⟩ := len_s e
    obtain ⟨x1, t1, rfl, f1⟩ := len_s f0
    obtain ⟨x2, t2, rfl, f2⟩ := len_s f1
    obtain rfl := List.length_eq_zero_iff.mp f2
    refine mk_law (xs := [x0, x1, x2]) hb (by simp) rfl rfl ?_
    exact fin
  walk_at "p"
  unfold b_law_made_4
  walk_at "p"
  refine wo_len (xs := xs.map D.int) rfl ?_
  walk_at "p"
  refine wI_d (fun e => ?_) fun e4 => ?_
  · have e := (hz 5).mp e
    walk_at "p"
    obtain ⟨x0, t0, rfl, f0⟩ := len_s e
    obtain ⟨x1, t1, rfl, f1⟩ := len_s f0
    obtain ⟨x2, t2, rfl, f2⟩ := len_s f1
    obtain ⟨x3, t3, rfl, f3⟩ := len_s f2
    obtain ⟨x4, t4, rfl, f4⟩ := len_s f3
    obtain rfl := List.length_eq_zero_iff.mp f4
    refine mk_law (xs := [x0, x1, x2, x3, x4]) hb (by simp) rfl rfl ?_
    exact fin
  walk_at "p"
  unfold b_law_made_5
  walk_at "p"
  refine wo_len (xs := xs.map D.int) rfl ?_
  walk_at "p"
  refine wI_d (fun e => ?_) fun e5 => ?_
  · have e := (hz 8).mp e
    walk_at "p"
    obtain ⟨x0, t0, rfl, f0⟩ := len_s e
    obtain ⟨x1, t1, rfl, f1⟩ := len_s f0
    obtain ⟨x2, t2, rfl, f2⟩ := len_s f1
    obtain ⟨x3, t3, rfl, f3⟩ := len_s f2
    obtain ⟨x4, t4, rfl, f4⟩ := len_s f3
    obtain ⟨x5, t5, rfl, f5⟩ := len_s f4
    obtain ⟨x6, t6, rfl, f6⟩ := len_s f5
    obtain ⟨x7, t7, rfl, f7⟩ := len_s f6
    obtain rfl := List.length_eq_zero_iff.mp f7
    refine mk_law (xs := [x0, x1, x2, x3, x4, x5, x6, x7]) hb (by simp) rfl rfl ?_
    exact fin
  walk_at "p"
  unfold b_law_made_6
  walk_at "p"
  have e0 := mt (hz 0).mpr e0
  have e1 := mt (hz 1).mpr e1
  have e2 := mt (hz 2).mpr e2
  have e3 := mt (hz 3).mpr e3
  have e4 := mt (hz 5).mpr e4
  have e5 := mt (hz 8).mpr e5
  have e : xs.length = 12 := by omega
  obtain ⟨x0, t0, rfl, f0⟩ := len_s e
  obtain ⟨x1, t1, rfl, f1⟩ := len_s f0
  obtain ⟨x2, t2, rfl, f2⟩ := len_s f1
  obtain ⟨x3, t3, rfl, f3⟩ := len_s f2
  obtain ⟨x4, t4, rfl, f4⟩ := len_s f3
  obtain ⟨x5, t5, rfl, f5⟩ := len_s f4
  obtain ⟨x6, t6, rfl, f6⟩ := len_s f5
  obtain ⟨x7, t7, rfl, f7⟩ := len_s f6
  obtain ⟨x8, t8, rfl, f8⟩ := len_s f7
  obtain ⟨x9, t9, rfl, f9⟩ := len_s f8
  obtain ⟨x10, t10, rfl, f10⟩ := len_s f9
  obtain ⟨x11, t11, rfl, f11⟩ := len_s f10
  obtain rfl := List.length_eq_zero_iff.mp f11
  refine mk_law (xs := [x0, x1, x2, x3, x4, x5, x6, x7, x8, x9, x10, x11]) hb (by simp) rfl rfl ?_
  exact fin
theorem w_lrng2 {F : Fr} {m m2 : ME} (h : wR (m F C) (fun x C1 => wR (m2 F C1) (fun y C2 => ∃ a b : Int, x = .int a ∧ y = .int b ∧ inR a = true ∧ inR b = true ∧ (b - a).toNat ≤ 1000 ∧ Q (.lst (((List.range (b - a).toNat).map fun i => a + (i : Nat)).map .int)) C2) X) X) : wR (mLRng2 false m m2 F C) Q X := by
  unfold mLRng2
  refine w_bnd (w_mono h (fun x C1 g => w_bnd (w_mono g (fun y C2 g => ?_) fun _ _ z => z)) fun _ _ z => z)
  obtain ⟨a, b, rfl, rfl, h1, h2, h3, q⟩ := g
  have e : rgOk a b = true := by
    simp [inR] at h1 h2
    simp [rgOk]
    omega
  have e2 : rngD a b = ((List.range (b - a).toNat).map fun i => a + (i : Nat)).map D.int := by
    unfold rngD
    simp
  simp only [e, if_true]
  rw [e2]
  exact w_ok q
theorem stepped_w {lo hi : Int} (h1 : Bd lo) (h2 : Bd hi) (h : Q (wtD (rgI2 lo (hi + 1))) C) : wR (clM 0 m_Want_stepped [.int lo, .int hi] C) Q X := by
  have key : ∀ E O : List Rn, CW E O → (∀ x, inW E O x ↔ x ∈ rgI2 lo (hi + 1)) → Q (wantD E O) C := fun E O c g => by
    rw [law_of c g]
    exact h
  have em : hi < lo → ∀ x, x ∉ rgI2 lo (hi + 1) := fun e x hx => by
    have := rgI2_mem.mp hx
    omega
  show wR (m_Want_stepped [.cls 0, .int lo, .int hi] C) Q X
  rw [e_Want_stepped]
  apply w_fin
  unfold b_Want_stepped b_Want_stepped_0
  walk_at "p"
  refine check_w (xs := [lo, hi]) (by simpa [Bd] using ⟨h1, h2⟩) ?_
  walk_at "p"
  unfold b_Want_stepped_1
  walk_at "p"
  have one : ∀ p, lo % 2 = p → lo ≤ hi → RunOk p (lo, hi - (hi - lo) % 2) := fun p e l => ⟨by simp only; omega, e, by simp only; omega⟩
  have mem1 : ∀ x, mR [(lo, hi - (hi - lo) % 2)] x ↔ lo ≤ x ∧ x ≤ hi - (hi - lo) % 2 := fun x => ⟨fun ⟨r, hr, a, b⟩ => by rw [List.mem_singleton.mp hr] at a b; exact ⟨a, b⟩, fun ⟨a, b⟩ => ⟨_, List.mem_singleton.mpr rfl, a, b⟩⟩
  have fin : ∀ E O, CW E O → (∀ x, inW E O x ↔ x ∈ rgI2 lo (hi + 1)) → fnl C.length Q X (.rt (wantD E O) C) := fun E O c g => fnl_p (cb_want _ _ _) (by rw [List.take_length]; exact key E O c g)
  refine wI_d (fun hl => ?_) fun hl => ?_
  · walk_at "p"
    refine wo_mod (by decide) ?_
    walk_at "p"
    unfold b_Want_stepped_2
    walk_at "p"
    refine w_mkC rfl (mk_kw ?_)
    walk_at "p"
    refine wo_mod (by decide) ?_
    walk_at "p"
    refine wI_d (fun hp => ?_) fun hp => ?_
    · walk_at "p"
      refine ⟨[(lo, hi - (hi - lo) % 2)], [], rfl, fin _ _ ⟨one_can (one 0 hp hl), canon_nil 1⟩ fun x => ?_⟩
      rw [rgI2_mem]
      have := mem1 x
      constructor
      · rintro (⟨a, b⟩ | ⟨a, b⟩)
        · have := this.mp b
          omega
        · exact absurd b (mR_nil _)
      · intro z
        exact .inl ⟨by omega, this.mpr (by omega)⟩
    · walk_at "p"
      refine ⟨[], [(lo, hi - (hi - lo) % 2)], rfl, fin _ _ ⟨canon_nil 0, one_can (one 1 (by omega) hl)⟩ fun x => ?_⟩
      rw [rgI2_mem]
      have := mem1 x
      constructor
      · rintro (⟨a, b⟩ | ⟨a, b⟩)
        · exact absurd b (mR_nil _)
        · have := this.mp b
          omega
      · intro z
        exact .inr ⟨by omega, this.mpr (by omega)⟩
  · walk_at "p"
    unfold b_Want_stepped_2
    walk_at "p"
    refine w_mkC rfl (mk_kw ?_)
    walk_at "p"
    refine wo_mod (by decide) ?_
    walk_at "p"
    refine wI_d (fun hp => ?_) fun hp => ?_
    · walk_at "p"
      refine ⟨[], [], rfl, fin _ _ cw_nil fun x => ⟨fun z => absurd z (inW_nil x), fun z => absurd z (em (by omega) x)⟩⟩
    · walk_at "p"
      refine ⟨[], [], rfl, fin _ _ cw_nil fun x => ⟨fun z => absurd z (inW_nil x), fun z => absurd z (em (by omega) x)⟩⟩
end
theorem law_true (ns : List Int) (hl : ns.length ≤ 63) : ∃ C, m_law [scrD ns] [] = .ok (.bl true) C := by
  obtain ⟨cs, hcs, eb⟩ := bag_ok ns hl
  have hB : Bg 0 [some (bagC 0 1234567891 0 cs)] := ⟨cs, hcs, 0, 1234567891, 0, rfl, by decide, by decide, by decide, by decide⟩
  refine ⟨[], w_eqv ?_⟩
  rw [e_law]
  apply w_fin
  unfold b_law b_law_0
  walk_at "p"
  refine w_of eb ?_
  walk_at "p"
  unfold b_law_1
  walk_at "p"
  refine ⟨by decide, ?_⟩
  refine loop_p (pure_R 0 _) (fun j sl S => Bg 0 S ∧ ∃ s2 s3 s4 s5 s6, sl = [some (scrD ns), some (.cell 0), s2, s3, s4, s5, s6]) ⟨hB, _, _, _, _, _, rfl⟩ ?_ ?_
  · rintro j y sl S hy ⟨hB, s2, s3, s4, s5, s6, rfl⟩
    refine ⟨_, rfl, ?_⟩
    walk_at "p"
    unfold b_law_1b_0
    walk_at "p"
    refine take_w hB (by decide) (by decide) fun r C1 r0 r1 t1 => ?_
    obtain ⟨n, hn, e⟩ := ix_ints (l := [0, 1, 2, 3, 5, 8, 12]) (m := r) C1 r0 (by simpa using r1)
    refine wo_of e ?_
    walk_at "p"
    simp only [List.mem_cons, List.not_mem_nil, or_false] at hn
    refine list_w t1.bg (by omega) (by omega) fun xs C2 xl xb t2 => ?_
    walk_at "p"
    unfold b_law_1b_1
    walk_at "p"
    refine made_w (by omega) xb ?_
    walk_at "p"
    unfold b_law_1b_2
    walk_at "p"
    refine list_w t2.bg (by decide) (by decide) fun ys C3 yl yb t3 => ?_
    obtain ⟨lo, rfl⟩ : ∃ lo, ys = [lo] := by
      match ys, yl with
      | [a], _ => exact ⟨a, rfl⟩
      | [], yl => simp at yl
      | _ :: _ :: _, yl => simp at yl; omega
    have hlo : Bd lo := yb lo (by simp)
    walk_at "p"
    refine wo_ix rfl (k := 0) rfl rfl ?_
    walk_at "p"
    unfold b_law_1b_3
    walk_at "p"
    refine take_w t3.bg (by decide) (by decide) fun r4 C4 r40 r41 t4 => ?_
    walk_at "p"
    generalize hhi : max (-1000000000) (min 1000000000 (lo + r4 - 3)) = hi
    have h1 : Bd hi := by unfold Bd; omega
    have h2 : hi ≤ lo + 10 := by unfold Bd at hlo; omega
    have hlo' := hlo
    have h1' := h1
    unfold Bd at hlo' h1'
    unfold b_law_1b_4
    walk_at "p"
    refine between_w hlo' h1' ?_
    walk_at "p"
    refine w_lrng2 ?_
    walk_at "p"
    refine ⟨lo, hi + 1, rfl, rfl, inR_of (by omega) (by omega), inR_of (by omega) (by omega), by omega, ?_⟩
    rw [btw_law lo hi (hi + 1 - lo).toNat (by congr 1; omega)]
    walk_at "p"
    refine right_w (xs := (List.range (hi + 1 - lo).toNat).map fun i => lo + (i : Nat)) t4.bg (by rw [List.length_map, List.length_range]; omega) (fun x hx => ?_) fun C5 t5 => ?_
    · obtain ⟨k, hk, rfl⟩ := List.mem_map.mp hx
      have := List.mem_range.mp hk
      omega
    walk_at "p"
    unfold b_law_1b_5
    walk_at "p"
    refine stepped_w hlo h1 ?_
    walk_at "p"
    refine w_rng3F ?_
    walk_at "p"
    refine ⟨lo, hi + 1, rfl, rfl, rfl, ?_, ?_⟩
    · simp [rgOk2, rn2]
      omega
    walk_at "p"
    refine right_w (xs := rgI2 lo (hi + 1)) t5.bg (by rw [rgI2_len]; unfold rn2; omega) (fun x hx => ?_) fun C6 t6 => ?_
    · have := rgI2_mem.mp hx
      omega
    walk_at "p"
    unfold b_law_1b_6
    walk_at "p"
    refine right_w (xs := xs) t6.bg (by omega) xb fun C7 t7 => ?_
    walk_at "p"
    refine w_revLF ?_
    walk_at "p"
    refine ⟨_, rfl, ?_⟩
    rw [← List.map_reverse, wtD_same (ys := xs.reverse) fun x => List.mem_reverse.symm]
    walk_at "p"
    refine right_w (xs := xs.reverse) t7.bg (by rw [List.length_reverse]; omega) (fun x hx => xb x (List.mem_reverse.mp hx)) fun C8 t8 => ?_
    walk_at "p"
    exact ⟨t8.bg, _, _, _, _, _, rfl⟩
  · rintro sl S ⟨hB, s2, s3, s4, s5, s6, rfl⟩
    walk_at "p"
    unfold b_law_2
    walk_at "p"
    exact ⟨rfl, rfl⟩
end CL
set_option maxHeartbeats 0
namespace CL
open PySem L2 PySem.Spec PyProof.Rows CT
theorem room0 : RoomG 7 callerA := ⟨⟨rfl, by decide, by decide⟩, rfl⟩
theorem law_sp {K : PySem.W.Frag} {H : Hp} {a : Addr} {ns : List Int} (hl : ns.length ≤ 63) (hO : Only H) (h : SqL K H a (ns.map V.int)) : SpD (cn K) 1 m_law [.ref a] H (fun v _ => v = .bl true) fun _ _ _ => False := by
  obtain ⟨C, e⟩ := law_true ns hl
  refine ⟨rfl, fun _ => 0, [], [scrD ns], ⟨fun i c z => (nomatch z), fun i j c e z => (nomatch z)⟩, .cons (rep_scr hO h) .nil, ?_⟩
  rw [e]
  intro A' H' v _ _ r
  cases r
  rfl
theorem ob_eq (s : PySem.W.SharedT) : ob s = hk.obs s.abs := obGs_eq s
end CL
open PySem PySem.W PySem.Calls PyProof.Rows
theorem PySem.Challenge.cw_contentties_k12_wants_told_holds : PySem.Challenge.rw_contentties_k12_wants_told.Holds := by
  w_on; o_law
  refine HandSHeadRun.head_any (r := OpenLaw.row PySem.Challenge.rw_contentties_k12_wants_told) (q := view (OpenLaw.row PySem.Challenge.rw_contentties_k12_wants_told).prog [33]) (H := CL.hk) (ob := CL.ob) (M := 20000) (loose := CL.loose) (d := HandSHeadRun.topDef (OpenLaw.row PySem.Challenge.rw_contentties_k12_wants_told).prog 33) (kwd := []) CL.ob_eq
    (by kernel_rfl) (fun s => by kernel_rfl) CL.run (by kernel_rfl) (by kernel_rfl) (by kernel_rfl) (by rfl) (by first | assumption | decide +kernel) (by decide +kernel) ⟨rfl, rfl, rfl, rfl, rfl, by decide +kernel⟩ ?hw ?hc
  case hw => w_witness2
  case hc =>
    refine Att.attach_callB (l := PySem.Challenge.rw_contentties_k12_wants_told) (n := 63) rfl (by kernel_rfl) fun w s₀ s₁ mg mb fa o pm cd doc a vs ns G Y ho hd hcd hmg0 hobj hints hlen hbits hg => ?_
    obtain ⟨K, KX, c⟩ := Y
    have hmg : mg ("law" : PySem.Str) = some (.ref fa) := by
      have e : (HandSHeadRun.topDef (OpenLaw.row PySem.Challenge.rw_contentties_k12_wants_told).prog 33).name = ("law" : PySem.Str) := by kernel_rfl
      rw [← e]
      exact hmg0
    have T := CL.txt KX G.T.g c
    have e := hmg.symm.trans T.g_law
    cases e
    exact CT.law_core KX G.T.g G.T.b G.T.builtins G.T.nolimit hg hobj hints (Nat.le_trans hlen (by decide)) (fun base h1 h2 s H e0 q => by
      obtain ⟨fd, F, B, _⟩ := CL.ok_law (P := (PySem.Challenge.rw_contentties_k12_wants_told).prog) (w := w) (base := base) T
      exact F.run callerA [] s H ⟨[.ref a], []⟩ [.ref a] [.ref a] _ _ CL.room0 e0 (B s [.ref a] (fun b o e => (e0.bs b o (h1 b o e)).1) rfl) (.cons rfl .nil) q) (fun H hO hS => CL.law_sp hlen hO hS)
