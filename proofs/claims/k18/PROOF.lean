import PyProof.Rows.All
import Wide.All
import OpenK.AllK
import Wide.FinOn
import HandS.ForMost
import HandS.Exc
import HandS.CallSlots
import HandS.Wide
import HandS.Style
import HandS.More
import HandS.Defaults
import HandS.WordsExc
import HandS.Property
import PyProof.ReprRoads
import HandS.TupAny
import HandS.RaiseMore
import HandS.IsInst
import HandS.Codes
import HandS.Conv
import KE.SortData
import KE.KDictSum
import KE.KDictCopyH
import KE.GoesMore
import HandS.Iter
import HandS.Words
import HandS.Head0
import HandS.Head1
import HandS.Head2
import HandS.HeadEnd
import HandS.HeadHook1
import HandS.HeadHook2
import HandS.EndBits
import OpenK.KMeth
import HandS.SlotsOwn
import KE.KRevSl
import HandS.ExcInit
import HandS.ExcField
import HandS.ExcIs
import HandS.SetFor
import HandS.TupSets
import HandS.Strs
import KE.DataFind
import HandS.MakeKwOnly
import HandS.FStr
import HandS.Text
import KE.KCallOwn
import HandS.ClsMeth
import HandS.CallLocal
import HandS.HeadNt
import HandS.Small
import HandS.Flow
import HandS.TupMul
import HandS.Zip
import KE.DataMinMax
import HandS.SortKw
import KE.KOpsOwn
import PySem.Challenge.RW_contentties_k18_whole_registers_of_wants
set_option Elab.async false
set_option linter.all false
set_option maxRecDepth 100000
set_option maxHeartbeats 4000000
/-! DL1: plain data, a store of changing cells, how they lie in the abstract heap; expressions. -/
namespace CT
open PySem L2
/-! ### the domain -/
inductive D where
  | non | bl (b : Bool) | int (i : Int) | str (s : Str)
  | lst (xs : List D) | tup (xs : List D) | scr (xs : List D) | kt (xs : List D)
  | obj (c : Nat) (fs : List D)
  | dT (ks : List (List Key)) (vs : List D)
  | cell (i : Nat)
  | exn (c : Nat) (fs : List D)
  | cls (c : Nat)
inductive Cell where
  | lst (xs : List D)
  | dT (ks : List (List Key)) (vs : List D)
  | ins (c : Nat) (fs : List D)
abbrev Store := List (Option Cell)
structure Exc where
  c : Nat
  fs : List D
inductive R (α : Type) where
  | ok (a : α) (C : Store)
  | exc (e : Exc) (C : Store)
  | stuck
/-- a def's frame: the cells below fl are its callers'; the slots -/
structure Fr where
  fl : Nat
  sl : List (Option D)
abbrev ME := Fr → Store → R D
def ofO : Option (D × Store) → R D
  | some (d, C) => .ok d C
  | none => .stuck
def bnd {α β : Type} (m : R α) (f : α → Store → R β) : R β := match m with
  | .ok a C => f a C
  | .exc e C => .exc e C
  | .stuck => .stuck
@[simp] theorem bnd_ok {α β : Type} (a : α) (C : Store) (f : α → Store → R β) : bnd (.ok a C) f = f a C := rfl
@[simp] theorem bnd_exc {α β : Type} (e : Exc) (C : Store) (f : α → Store → R β) : bnd (.exc e C) f = .exc e C := rfl
@[simp] theorem bnd_stuck {α β : Type} (f : α → Store → R β) : bnd .stuck f = .stuck := rfl
mutual
def cb (n : Nat) : D → Bool
  | .lst xs => cbL n xs
  | .tup xs => cbL n xs
  | .scr xs => cbL n xs
  | .kt xs => cbL n xs
  | .obj _ fs => cbL n fs
  | .exn _ fs => cbL n fs
  | .cls _ => true
  | .dT _ vs => cbL n vs
  | .cell i => decide (i < n)
  | .non => true | .bl _ => true | .int _ => true | .str _ => true
def cbL (n : Nat) : List D → Bool
  | [] => true
  | d :: ds => cb n d && cbL n ds
end
/-! ### how data lie in the heap -/
structure Cn where
  K : PySem.W.Frag
  cl : Nat → Addr
  fn : Nat → List Str
  /-- the error that is held: its place, its class, its dict -/
  ex : Option (Addr × Nat × Addr) := none
def Live (A : Nat → Addr) (C : Store) (a : Addr) : Prop := ∃ i c, C[i]? = some (some c) ∧ A i = a
/-- the written part's list -/
def KL (K : PySem.W.Frag) (a : Addr) (xs : List V) : Prop := ∃ (o : Obj) (its : Array Value) (n : Nat), List.lookup a K = some o ∧ o.cls = Value.type "list" ∧ o.dict = none ∧ o.data = Data.seq its n ∧ its.size ≤ sizeLine ∧ Vals xs its.toList
/-- the written part's tuple -/
def KT (K : PySem.W.Frag) (a : Addr) (xs : List V) : Prop := ∃ o its n, List.lookup a K = some o ∧ o.cls = Value.type "tuple" ∧ o.data = Data.seq its n ∧ its.size ≤ sizeLine ∧ Vals xs its.toList
mutual
inductive Rep (k : Cn) (A : Nat → Addr) (C : Store) (H : Hp) : V → D → Prop where
  | non : Rep k A C H .non .non
  | bl (b : Bool) : Rep k A C H (.bl b) (.bl b)
  | int (i : Int) : Rep k A C H (.int i) (.int i)
  | str (s : Str) : Rep k A C H (.str s) (.str s)
  | lst {a : Addr} {vs : List V} {ds : List D} : ¬ Live A C a → H a = some (.lst vs) → RepL k A C H vs ds → Rep k A C H (.ref a) (.lst ds)
  | tup {a : Addr} {vs : List V} {ds : List D} : ¬ Live A C a → H a = some (.tup vs) → RepL k A C H vs ds → Rep k A C H (.ref a) (.tup ds)
  | ktup {a : Addr} {vs : List V} {ds : List D} : KT k.K a vs → RepL k A C H vs ds → Rep k A C H (.ref a) (.kt ds)
  | scr {a : Addr} {vs : List V} {ds : List D} {o : Obj} : ¬ Live A C a → H a = some (.frz o (.lst vs)) → RepL k A C H vs ds → Rep k A C H (.ref a) (.scr ds)
  | kscr {a : Addr} {vs : List V} {ds : List D} : KL k.K a vs → RepL k A C H vs ds → Rep k A C H (.ref a) (.scr ds)
  | obj {a dx : Addr} {c : Nat} {vs : List V} {ds : List D} : ¬ Live A C a → H a = some (.ins (k.cl c) dx ((k.fn c).zip vs)) → vs.length = (k.fn c).length → RepL k A C H vs ds → Rep k A C H (.ref a) (.obj c ds)
  | dT {a : Addr} {kvs : List (List Key × V)} {ds : List D} : ¬ Live A C a → H a = some (.dT kvs) → RepL k A C H (kvs.map (·.2)) ds → Rep k A C H (.ref a) (.dT (kvs.map (·.1)) ds)
  | cell {i : Nat} : i < C.length → Rep k A C H (.ref (A i)) (.cell i)
  | cls (c : Nat) : Rep k A C H (.ref (k.cl c)) (.cls c)
  | exn {a dd : Addr} {c : Nat} {vs : List V} {ds : List D} : k.ex = some (a, c, dd) → ¬ Live A C dd → H dd = some (.xd ((k.fn c).zip vs)) → vs.length = (k.fn c).length → RepL k A C H vs ds → Rep k A C H (.ref a) (.exn c ds)
inductive RepL (k : Cn) (A : Nat → Addr) (C : Store) (H : Hp) : List V → List D → Prop where
  | nil : RepL k A C H [] []
  | cons {v : V} {d : D} {vs : List V} {ds : List D} : Rep k A C H v d → RepL k A C H vs ds → RepL k A C H (v :: vs) (d :: ds)
end
section
variable {k : Cn} {A A' : Nat → Addr} {C C' : Store} {H H' : Hp} {v : V} {d : D} {vs : List V} {ds : List D}
theorem RepL.length : ∀ {vs : List V} {ds : List D}, RepL k A C H vs ds → vs.length = ds.length
  | _, _, .nil => rfl
  | _, _, .cons _ t => by simp [RepL.length t]
theorem RepL.get : ∀ {vs : List V} {ds : List D} {i : Nat} {d : D}, RepL k A C H vs ds → ds[i]? = some d → ∃ v, vs[i]? = some v ∧ Rep k A C H v d
  | _, _, _, _, .nil, e => by simp at e
  | _, _, 0, _, .cons r _, e => by simp at e; subst e; exact ⟨_, rfl, r⟩
  | _, _, i + 1, d, .cons _ t, e => by
    obtain ⟨u, h1, h2⟩ := RepL.get (i := i) (d := d) t (by simpa using e)
    exact ⟨u, by simpa using h1, h2⟩
theorem RepL.append : ∀ {vs ws : List V} {ds es : List D}, RepL k A C H vs ds → RepL k A C H ws es → RepL k A C H (vs ++ ws) (ds ++ es)
  | _, _, _, _, .nil, t => t
  | _, _, _, _, .cons r s, t => .cons r (RepL.append s t)
theorem RepL.take : ∀ {vs : List V} {ds : List D} (n : Nat), RepL k A C H vs ds → RepL k A C H (vs.take n) (ds.take n)
  | _, _, 0, _ => by simp; exact .nil
  | _, _, _ + 1, .nil => .nil
  | _, _, n + 1, .cons r t => .cons r (RepL.take n t)
theorem RepL.drop : ∀ {vs : List V} {ds : List D} (n : Nat), RepL k A C H vs ds → RepL k A C H (vs.drop n) (ds.drop n)
  | _, _, 0, r => r
  | _, _, _ + 1, .nil => .nil
  | _, _, n + 1, .cons _ t => RepL.drop n t
theorem RepL.set {v : V} {d : D} (r : Rep k A C H v d) : ∀ {vs : List V} {ds : List D} (i : Nat), RepL k A C H vs ds → RepL k A C H (vs.set i v) (ds.set i d)
  | _, _, _, .nil => .nil
  | _, _, 0, .cons _ t => .cons r t
  | _, _, i + 1, .cons q t => .cons q (RepL.set r i t)
theorem RepL.rep : ∀ {vs : List V} {ds : List D} (n : Nat), RepL k A C H vs ds → RepL k A C H (List.replicate n vs).flatten (List.replicate n ds).flatten
  | _, _, 0, _ => by simp; exact .nil
  | _, _, n + 1, r => by
    rw [List.replicate_succ, List.replicate_succ, List.flatten_cons, List.flatten_cons]
    exact r.append (RepL.rep n r)
theorem RepL.two {v : V} {d : D} (r : Rep k A C H v d) : RepL k A C H [v] [d] := .cons r .nil
theorem RepL.ints : ∀ {ns : List Int}, RepL k A C H (ns.map V.int) (ns.map D.int)
  | [] => .nil
  | n :: ns => .cons (.int n) RepL.ints
theorem RepL.ints_inv : ∀ {ns : List Int} {vs : List V}, RepL k A C H vs (ns.map D.int) → vs = ns.map V.int
  | [], _, .nil => rfl
  | n :: ns, _, .cons r t => by
    cases r
    rw [RepL.ints_inv t]
    rfl
theorem RepL.bls_inv : ∀ {ns : List Bool} {vs : List V}, RepL k A C H vs (ns.map D.bl) → vs = ns.map V.bl
  | [], _, .nil => rfl
  | n :: ns, _, .cons r t => by
    cases r
    rw [RepL.bls_inv t]
    rfl
/-- every reading stays if the not-live objects stay and the live ones are the old ones, or new -/
structure Kp (A : Nat → Addr) (C : Store) (H : Hp) (A' : Nat → Addr) (C' : Store) (H' : Hp) : Prop where
  at_ : ∀ a o, ¬ Live A C a → H a = some o → ¬ Live A' C' a ∧ H' a = some o
  ix : ∀ i, i < C.length → A' i = A i
  len : C.length ≤ C'.length
mutual
theorem Rep.kp (q : Kp A C H A' C' H') : ∀ {v : V} {d : D}, Rep k A C H v d → Rep k A' C' H' v d
  | _, _, .non => .non
  | _, _, .bl b => .bl b
  | _, _, .int i => .int i
  | _, _, .str s => .str s
  | _, _, .lst l h r => .lst (q.at_ _ _ l h).1 (q.at_ _ _ l h).2 (r.kp q)
  | _, _, .tup l h r => .tup (q.at_ _ _ l h).1 (q.at_ _ _ l h).2 (r.kp q)
  | _, _, .ktup h r => .ktup h (r.kp q)
  | _, _, .scr l h r => .scr (q.at_ _ _ l h).1 (q.at_ _ _ l h).2 (r.kp q)
  | _, _, .kscr h r => .kscr h (r.kp q)
  | _, _, .obj l h z r => .obj (q.at_ _ _ l h).1 (q.at_ _ _ l h).2 z (r.kp q)
  | _, _, .dT l h r => .dT (q.at_ _ _ l h).1 (q.at_ _ _ l h).2 (r.kp q)
  | _, _, .cell (i := i) hi => by
    rw [← q.ix i hi]
    exact .cell (Nat.lt_of_lt_of_le hi q.len)
  | _, _, .exn x l h z r => .exn x (q.at_ _ _ l h).1 (q.at_ _ _ l h).2 z (r.kp q)
  | _, _, .cls c => .cls c
theorem RepL.kp (q : Kp A C H A' C' H') : ∀ {vs : List V} {ds : List D}, RepL k A C H vs ds → RepL k A' C' H' vs ds
  | _, _, .nil => .nil
  | _, _, .cons r t => .cons (r.kp q) (t.kp q)
end
mutual
theorem Rep.cb : ∀ {v : V} {d : D}, Rep k A C H v d → cb C.length d = true
  | _, _, .non => rfl
  | _, _, .bl b => rfl
  | _, _, .int i => rfl
  | _, _, .str s => rfl
  | _, _, .lst l h r => by simpa [CT.cb] using r.cb
  | _, _, .tup l h r => by simpa [CT.cb] using r.cb
  | _, _, .ktup h r => by simpa [CT.cb] using r.cb
  | _, _, .scr l h r => by simpa [CT.cb] using r.cb
  | _, _, .kscr h r => by simpa [CT.cb] using r.cb
  | _, _, .obj l h z r => by simpa [CT.cb] using r.cb
  | _, _, .dT l h r => by simpa [CT.cb] using r.cb
  | _, _, .cell (i := i) hi => by simpa [CT.cb] using hi
  | _, _, .exn x l h z r => by simpa [CT.cb] using r.cb
  | _, _, .cls c => rfl
theorem RepL.cb : ∀ {vs : List V} {ds : List D}, RepL k A C H vs ds → cbL C.length ds = true
  | _, _, .nil => rfl
  | _, _, .cons r t => by simp [CT.cbL, r.cb, t.cb]
end
/-- fewer live cells, all that is named still there -/
structure Fw (A : Nat → Addr) (C C' : Store) : Prop where
  lv : ∀ a, Live A C' a → Live A C a
mutual
theorem Rep.fw (q : Fw A C C') : ∀ {v : V} {d : D}, Rep k A C H v d → CT.cb C'.length d = true → Rep k A C' H v d
  | _, _, .non, _ => .non
  | _, _, .bl b, _ => .bl b
  | _, _, .int i, _ => .int i
  | _, _, .str s, _ => .str s
  | _, _, .lst l h r, z => .lst (fun y => l (q.lv _ y)) h (r.fw q (by simpa [CT.cb] using z))
  | _, _, .tup l h r, z => .tup (fun y => l (q.lv _ y)) h (r.fw q (by simpa [CT.cb] using z))
  | _, _, .ktup h r, z => .ktup h (r.fw q (by simpa [CT.cb] using z))
  | _, _, .scr l h r, z => .scr (fun y => l (q.lv _ y)) h (r.fw q (by simpa [CT.cb] using z))
  | _, _, .kscr h r, z => .kscr h (r.fw q (by simpa [CT.cb] using z))
  | _, _, .obj l h e r, z => .obj (fun y => l (q.lv _ y)) h e (r.fw q (by simpa [CT.cb] using z))
  | _, _, .dT l h r, z => .dT (fun y => l (q.lv _ y)) h (r.fw q (by simpa [CT.cb] using z))
  | _, _, .cell (i := i) hi, z => .cell (by simpa [CT.cb] using z)
  | _, _, .exn x l h e r, z => .exn x (fun y => l (q.lv _ y)) h e (r.fw q (by simpa [CT.cb] using z))
  | _, _, .cls c, _ => .cls c
theorem RepL.fw (q : Fw A C C') : ∀ {vs : List V} {ds : List D}, RepL k A C H vs ds → CT.cbL C'.length ds = true → RepL k A C' H vs ds
  | _, _, .nil, _ => .nil
  | _, _, .cons r t, z => by
    simp [CT.cbL] at z
    exact .cons (r.fw q z.1) (t.fw q z.2)
end
end
/-! ### the store -/
def CellAt (k : Cn) (A : Nat → Addr) (C : Store) (H : Hp) (a : Addr) : Cell → Prop
  | .lst ds => ∃ vs, H a = some (.lst vs) ∧ RepL k A C H vs ds
  | .dT ks ds => ∃ kvs : List (List Key × V), H a = some (.dT kvs) ∧ kvs.map (·.1) = ks ∧ RepL k A C H (kvs.map (·.2)) ds
  | .ins c ds => ∃ dx vs, H a = some (.ins (k.cl c) dx (((k.fn c).take ds.length).zip vs)) ∧ ds.length ≤ (k.fn c).length ∧ RepL k A C H vs ds
structure StOk (k : Cn) (A : Nat → Addr) (C : Store) (H : Hp) : Prop where
  at_ : ∀ i c, C[i]? = some (some c) → CellAt k A C H (A i) c
  inj : ∀ i j c e, C[i]? = some (some c) → C[j]? = some (some e) → A i = A j → i = j
def cbC (n : Nat) : Cell → Bool
  | .lst ds => cbL n ds
  | .dT _ ds => cbL n ds
  | .ins _ ds => cbL n ds
def LowC (f : Nat) (C : Store) : Prop := ∀ i c, i < f → C[i]? = some (some c) → cbC f c = true
/-- what held of values holds on; the callers' cells name the callers' cells alone -/
structure Stp (k : Cn) (fl : Nat) (A : Nat → Addr) (C : Store) (H : Hp) (A' : Nat → Addr) (C' : Store) (H' : Hp) : Prop where
  rep : ∀ v d, Rep k A C H v d → Rep k A' C' H' v d
  len : C.length ≤ C'.length
  low : ∀ f, f ≤ fl → f ≤ C.length → LowC f C → LowC f C'
section
variable {k : Cn} {fl : Nat} {A A' A'' : Nat → Addr} {C C' C'' : Store} {H H' H'' : Hp} {v : V} {d : D} {vs : List V} {ds : List D}
theorem Stp.refl : Stp k fl A C H A C H := ⟨fun _ _ h => h, Nat.le_refl _, fun _ _ _ h => h⟩
theorem Stp.trans (a : Stp k fl A C H A' C' H') (b : Stp k fl A' C' H' A'' C'' H'') : Stp k fl A C H A'' C'' H'' :=
  ⟨fun v d h => b.rep v d (a.rep v d h), Nat.le_trans a.len b.len, fun f h1 h2 h => b.low f h1 (Nat.le_trans h2 a.len) (a.low f h1 h2 h)⟩
theorem Stp.reps (a : Stp k fl A C H A' C' H') : ∀ {vs : List V} {ds : List D}, RepL k A C H vs ds → RepL k A' C' H' vs ds
  | _, _, .nil => .nil
  | _, _, .cons r t => .cons (a.rep _ _ r) (a.reps t)
theorem Kp.stp (q : Kp A C H A' C' H') (h : ∀ f, f ≤ fl → f ≤ C.length → LowC f C → LowC f C') : Stp k fl A C H A' C' H' := ⟨fun _ _ r => r.kp q, q.len, h⟩
theorem Kp.stp0 (q : Kp A C H A' C H') : Stp k fl A C H A' C H' := q.stp fun _ _ _ h => h
theorem low_app {c : Option Cell} {f : Nat} (hf : f ≤ C.length) (h : LowC f C) : LowC f (C ++ [c]) := fun i e hi he => by
  rw [List.getElem?_append_left (Nat.lt_of_lt_of_le hi hf)] at he
  exact h i e hi he
mutual
theorem cb_mono {n m : Nat} (h : n ≤ m) : ∀ {d : D}, cb n d = true → cb m d = true
  | .non, _ => rfl
  | .bl _, _ => rfl
  | .int _, _ => rfl
  | .str _, _ => rfl
  | .lst xs, z => by simp only [cb] at z ⊢; exact cbL_mono h z
  | .tup xs, z => by simp only [cb] at z ⊢; exact cbL_mono h z
  | .scr xs, z => by simp only [cb] at z ⊢; exact cbL_mono h z
  | .kt xs, z => by simp only [cb] at z ⊢; exact cbL_mono h z
  | .obj _ xs, z => by simp only [cb] at z ⊢; exact cbL_mono h z
  | .exn _ xs, z => by simp only [cb] at z ⊢; exact cbL_mono h z
  | .cls _, _ => rfl
  | .dT _ xs, z => by simp only [cb] at z ⊢; exact cbL_mono h z
  | .cell i, z => by simp only [cb, decide_eq_true_eq] at z ⊢; omega
theorem cbL_mono {n m : Nat} (h : n ≤ m) : ∀ {ds : List D}, cbL n ds = true → cbL m ds = true
  | [], _ => rfl
  | d :: ds, z => by
    simp only [cbL, Bool.and_eq_true] at z ⊢
    exact ⟨cb_mono h z.1, cbL_mono h z.2⟩
end
theorem cbC_mono {n m : Nat} (h : n ≤ m) {c : Cell} (z : cbC n c = true) : cbC m c = true := by
  cases c <;> exact cbL_mono h z
/-- a write: below the floor no cells are named -/
theorem low_set {i : Nat} {c : Cell} (hc : i < fl → cbC 0 c = true) {f : Nat} (hf : f ≤ fl) (h : LowC f C) : LowC f (C.set i (some c)) := fun j e hj he => by
  by_cases hij : i = j
  · subst hij
    by_cases hl : i < C.length
    · rw [List.getElem?_set_self hl] at he
      rw [← Option.some.inj (Option.some.inj he)]
      exact cbC_mono (Nat.zero_le _) (hc (by omega))
    · rw [List.getElem?_eq_none (by simp; omega)] at he
      cases he
  · rw [List.getElem?_set_ne hij] at he
    exact h j e hj he
theorem low_take {f n : Nat} (h : LowC f C) : LowC f (C.take n) := fun j e hj he => by
  by_cases hn : j < n
  · rw [List.getElem?_take_of_lt hn] at he
    exact h j e hj he
  · rw [List.getElem?_eq_none (by simp; omega)] at he
    cases he
theorem CellAt.kp {c : Cell} {a : Addr} (q : Kp A C H A' C' H') (h : H' a = H a) (x : CellAt k A C H a c) : CellAt k A' C' H' a c := by
  cases c with
  | lst ds => obtain ⟨vs, e, r⟩ := x; exact ⟨vs, by rw [h]; exact e, r.kp q⟩
  | dT ks ds => obtain ⟨kvs, e, z, r⟩ := x; exact ⟨kvs, by rw [h]; exact e, z, r.kp q⟩
  | ins c ds => obtain ⟨dx, vs, e, z, r⟩ := x; exact ⟨dx, vs, by rw [h]; exact e, z, r.kp q⟩
theorem CellAt.there {c : Cell} {a : Addr} (x : CellAt k A C H a c) : ∃ o, H a = some o := by
  cases c with
  | lst ds => obtain ⟨vs, e, r⟩ := x; exact ⟨_, e⟩
  | dT ks ds => obtain ⟨kvs, e, z, r⟩ := x; exact ⟨_, e⟩
  | ins c ds => obtain ⟨dx, vs, e, z, r⟩ := x; exact ⟨_, e⟩
theorem StOk.live (x : StOk k A C H) {a : Addr} (l : Live A C a) : ∃ o, H a = some o := by
  obtain ⟨i, c, e, rfl⟩ := l
  exact (x.at_ i c e).there
theorem StOk.notLive (x : StOk k A C H) {a : Addr} (h : H a = none) : ¬ Live A C a := fun l => by
  obtain ⟨o, e⟩ := x.live l
  rw [h] at e
  cases e
/-- a new object, not live -/
theorem kp_new {p : Addr} {o : HO} (h : H p = none) : Kp A C H A C (upd H p o) :=
  ⟨fun a u l e => ⟨l, by rw [upd_ne (ne_of_none e h)]; exact e⟩, fun _ _ => rfl, Nat.le_refl _⟩
theorem StOk.new {p : Addr} {o : HO} (x : StOk k A C H) (h : H p = none) : StOk k A C (upd H p o) :=
  ⟨fun i c e => by
    have y := x.at_ i c e
    obtain ⟨u, hu⟩ := y.there
    exact y.kp (kp_new h) (upd_ne (ne_of_none hu h)), x.inj⟩
/-- a new object that becomes a cell -/
def ext (A : Nat → Addr) (n : Nat) (p : Addr) : Nat → Addr := fun j => if j = n then p else A j
theorem live_ext {p : Addr} {c : Cell} {a : Addr} (l : Live (ext A C.length p) (C ++ [some c]) a) : Live A C a ∨ a = p := by
  obtain ⟨i, c', e, rfl⟩ := l
  by_cases hi : i < C.length
  · rw [List.getElem?_append_left hi] at e
    refine .inl ⟨i, c', e, ?_⟩
    unfold ext
    rw [if_neg (Nat.ne_of_lt hi)]
  · have hl : i < (C ++ [some c]).length := (List.getElem?_eq_some_iff.mp e).1
    rw [List.length_append] at hl
    have : i = C.length := by simp at hl; omega
    subst this
    refine .inr ?_
    unfold ext
    rw [if_pos rfl]
theorem kp_cell {p : Addr} {o : HO} {c : Cell} (x : StOk k A C H) (h : H p = none) : Kp A C H (ext A C.length p) (C ++ [some c]) (upd H p o) :=
  ⟨fun a u l e => ⟨fun y => (live_ext y).elim l (fun z => by rw [z, h] at e; cases e), by rw [upd_ne (ne_of_none e h)]; exact e⟩, fun i hi => by unfold ext; rw [if_neg (Nat.ne_of_lt hi)], by simp⟩
theorem StOk.cell {p : Addr} {o : HO} {c : Cell} (x : StOk k A C H) (h : H p = none) (y : CellAt k (ext A C.length p) (C ++ [some c]) (upd H p o) p c) : StOk k (ext A C.length p) (C ++ [some c]) (upd H p o) := by
  have old : ∀ i c', (C ++ [some c])[i]? = some (some c') → i < C.length → C[i]? = some (some c') ∧ ext A C.length p i = A i := fun i c' e hi => by
    rw [List.getElem?_append_left hi] at e
    exact ⟨e, by unfold ext; rw [if_neg (Nat.ne_of_lt hi)]⟩
  have new : ∀ i c', (C ++ [some c])[i]? = some (some c') → ¬ i < C.length → i = C.length ∧ c' = c := fun i c' e hi => by
    have hl : i < (C ++ [some c]).length := (List.getElem?_eq_some_iff.mp e).1
    rw [List.length_append] at hl
    have : i = C.length := by simp at hl; omega
    subst this
    simp at e
    exact ⟨rfl, e.symm⟩
  have pos : ext A C.length p C.length = p := by unfold ext; rw [if_pos rfl]
  refine ⟨fun i c' e => ?_, fun i j c1 c2 e1 e2 z => ?_⟩
  · by_cases hi : i < C.length
    · obtain ⟨e', ea⟩ := old i c' e hi
      rw [ea]
      have w := x.at_ i c' e'
      obtain ⟨u, hu⟩ := w.there
      exact w.kp (kp_cell x h) (upd_ne (ne_of_none hu h))
    · obtain ⟨rfl, rfl⟩ := new i c' e hi
      rw [pos]
      exact y
  · have far : ∀ i c', C[i]? = some (some c') → A i ≠ p := fun i c' e z => by
      obtain ⟨u, hu⟩ := (x.at_ i c' e).there
      rw [z, h] at hu
      cases hu
    by_cases hi : i < C.length
    · obtain ⟨f1, a1⟩ := old i c1 e1 hi
      by_cases hj : j < C.length
      · obtain ⟨f2, a2⟩ := old j c2 e2 hj
        rw [a1, a2] at z
        exact x.inj i j _ _ f1 f2 z
      · obtain ⟨rfl, rfl⟩ := new j c2 e2 hj
        rw [a1, pos] at z
        exact absurd z (far i _ f1)
    · obtain ⟨rfl, rfl⟩ := new i c1 e1 hi
      by_cases hj : j < C.length
      · obtain ⟨f2, a2⟩ := old j c2 e2 hj
        rw [pos, a2] at z
        exact absurd z.symm (far j _ f2)
      · obtain ⟨rfl, _⟩ := new j c2 e2 hj
        rfl
/-- a cell changes -/
theorem live_set {i : Nat} {c c0 : Cell} {a : Addr} (hi : C[i]? = some (some c0)) (l : Live A (C.set i (some c)) a) : Live A C a := by
  obtain ⟨j, c', e, rfl⟩ := l
  by_cases hj : i = j
  · subst hj
    exact ⟨i, c0, hi, rfl⟩
  · rw [List.getElem?_set_ne hj] at e
    exact ⟨j, c', e, rfl⟩
theorem kp_write {i : Nat} {c c0 : Cell} {o : HO} (hi : C[i]? = some (some c0)) : Kp A C H A (C.set i (some c)) (upd H (A i) o) :=
  ⟨fun a u l e => ⟨fun y => l (live_set hi y), by rw [upd_ne (fun z => l ⟨i, c0, hi, z.symm⟩)]; exact e⟩, fun _ _ => rfl, by simp⟩
theorem StOk.write {i : Nat} {c c0 : Cell} {o : HO} (x : StOk k A C H) (hi : C[i]? = some (some c0)) (y : CellAt k A (C.set i (some c)) (upd H (A i) o) (A i) c) : StOk k A (C.set i (some c)) (upd H (A i) o) := by
  have get : ∀ j c', (C.set i (some c))[j]? = some (some c') → j ≠ i → C[j]? = some (some c') := fun j c' e hj => by
    rw [List.getElem?_set_ne (Ne.symm hj)] at e
    exact e
  have here : ∀ c', (C.set i (some c))[i]? = some (some c') → c' = c := fun c' e => by
    rw [List.getElem?_set_self (List.getElem?_eq_some_iff.mp hi).1] at e
    exact (Option.some.inj (Option.some.inj e)).symm
  have some_ : ∀ j c', (C.set i (some c))[j]? = some (some c') → ∃ c'', C[j]? = some (some c'') := fun j c' e => by
    by_cases hj : j = i
    · rw [hj]
      exact ⟨c0, hi⟩
    · exact ⟨c', get j c' e hj⟩
  refine ⟨fun j c' e => ?_, fun j l c1 c2 e1 e2 z => ?_⟩
  · by_cases hj : j = i
    · subst hj
      rw [here c' e]
      exact y
    · have e' := get j c' e hj
      exact (x.at_ j c' e').kp (kp_write hi) (upd_ne (fun z => hj (x.inj j i _ _ e' hi z)))
  · obtain ⟨d1, f1⟩ := some_ j c1 e1
    obtain ⟨d2, f2⟩ := some_ l c2 e2
    exact x.inj j l _ _ f1 f2 z
/-- the store's end is forgotten -/
theorem fw_take (n : Nat) : Fw A C (C.take n) := ⟨fun a ⟨i, c, e, z⟩ => by
  by_cases hi : i < n
  · rw [List.getElem?_take_of_lt hi] at e
    exact ⟨i, c, e, z⟩
  · rw [List.getElem?_eq_none (by simp; omega)] at e
    cases e⟩
theorem CellAt.fw {c : Cell} {a : Addr} (q : Fw A C C') (x : CellAt k A C H a c) (z : cbC C'.length c = true) : CellAt k A C' H a c := by
  cases c with
  | lst ds => obtain ⟨vs, e, r⟩ := x; exact ⟨vs, e, r.fw q z⟩
  | dT ks ds => obtain ⟨kvs, e, y, r⟩ := x; exact ⟨kvs, e, y, r.fw q z⟩
  | ins c ds => obtain ⟨dx, vs, e, y, r⟩ := x; exact ⟨dx, vs, e, y, r.fw q z⟩
theorem CellAt.cb {c : Cell} {a : Addr} (x : CellAt k A C H a c) : cbC C.length c = true := by
  cases c with
  | lst ds => obtain ⟨vs, e, r⟩ := x; exact r.cb
  | dT ks ds => obtain ⟨kvs, e, y, r⟩ := x; exact r.cb
  | ins c ds => obtain ⟨dx, vs, e, y, r⟩ := x; exact r.cb
/-- at a call every cell is below the floor -/
theorem StOk.low (x : StOk k A C H) : LowC C.length C := fun i c _ e => (x.at_ i c e).cb
theorem StOk.take {n : Nat} (x : StOk k A C H) (hn : n ≤ C.length) (h : LowC n C) : StOk k A (C.take n) H := by
  have get : ∀ i c, (C.take n)[i]? = some (some c) → i < n ∧ C[i]? = some (some c) := fun i c e => by
    by_cases hi : i < n
    · rw [List.getElem?_take_of_lt hi] at e
      exact ⟨hi, e⟩
    · rw [List.getElem?_eq_none (by simp; omega)] at e
      cases e
  have ln : (C.take n).length = n := by rw [List.length_take]; omega
  refine ⟨fun i c e => ?_, fun i j c e h1 h2 z => x.inj i j c e (get i c h1).2 (get j e h2).2 z⟩
  obtain ⟨hi, e'⟩ := get i c e
  exact (x.at_ i c e').fw (fw_take n) (by rw [ln]; exact h i c hi e')
theorem Rep.cut {n : Nat} (hn : n ≤ C.length) (r : Rep k A C H v d) (h : CT.cb n d = true) : Rep k A (C.take n) H v d :=
  r.fw (fw_take n) (by rw [List.length_take, Nat.min_eq_left hn]; exact h)
theorem RepL.cut {n : Nat} (hn : n ≤ C.length) (r : RepL k A C H vs ds) (h : CT.cbL n ds = true) : RepL k A (C.take n) H vs ds :=
  r.fw (fw_take n) (by rw [List.length_take, Nat.min_eq_left hn]; exact h)
end
/-! ### frames -/
structure SR (k : Cn) (A : Nat → Addr) (F : Fr) (C : Store) (σ : L2.St) (H : Hp) : Prop where
  st : StOk k A C H
  low : LowC F.fl C
  fl : F.fl ≤ C.length
  len : F.sl.length = σ.length
  sl : ∀ (i : Nat) (d : D), F.sl[i]? = some (some d) → ∃ v : V, σ[i]? = some (some v) ∧ Rep k A C H v d
/-- behind a computation m that began at A, C, H -/
def Aft (k : Cn) (fl : Nat) (A : Nat → Addr) (C : Store) (H : Hp) {α β : Type} (rel : (Nat → Addr) → Store → Hp → β → α → Prop) (m : R α) (Q : α → Store → (Nat → Addr) → Hp → β → Prop) (W : XK) : Prop := match m with
  | .ok d C' => ∀ A' H' v, Stp k fl A C H A' C' H' → StOk k A' C' H' → rel A' C' H' v d → Q d C' A' H' v
  | .exc e C' => ∀ A' H' dd vs, Stp k fl A C H A' C' H' → StOk k A' C' H' → H' dd = some (.xd ((k.fn e.c).zip vs)) → vs.length = (k.fn e.c).length → RepL k A' C' H' vs e.fs → W (.ref (k.cl e.c)) (some dd) H'
  | .stuck => False
section
variable {k : Cn} {A A' A1 : Nat → Addr} {F : Fr} {C C' C1 : Store} {H H' H1 : Hp} {σ : L2.St} {fl : Nat}
theorem SR.step (s : SR k A F C σ H) (p : Stp k F.fl A C H A' C' H') (st : StOk k A' C' H') : SR k A' F C' σ H' :=
  ⟨st, p.low _ (Nat.le_refl _) s.fl s.low, Nat.le_trans s.fl p.len, s.len, fun i d e => let ⟨v, h1, h2⟩ := s.sl i d e; ⟨v, h1, p.rep v d h2⟩⟩
theorem SR.set {i : Nat} {v : V} {d : D} (s : SR k A F C σ H) (r : Rep k A C H v d) : SR k A ⟨F.fl, F.sl.set i (some d)⟩ C (σ.set i (some v)) H :=
  ⟨s.st, s.low, s.fl, by simp [s.len], fun j e h => by
    have h' : (F.sl.set i (some d))[j]? = some (some e) := h
    by_cases hij : i = j
    · subst hij
      by_cases hl : i < F.sl.length
      · rw [List.getElem?_set_self hl] at h'
        refine ⟨v, List.getElem?_set_self (by rw [← s.len]; exact hl), ?_⟩
        rw [← Option.some.inj (Option.some.inj h')]
        exact r
      · rw [List.getElem?_eq_none (by simp; omega)] at h'
        cases h'
    · rw [List.getElem?_set_ne hij] at h'
      obtain ⟨u, h1, h2⟩ := s.sl j e h'
      exact ⟨u, by rw [List.getElem?_set_ne hij]; exact h1, h2⟩⟩
theorem SR.unset {i : Nat} (s : SR k A F C σ H) : SR k A ⟨F.fl, F.sl.set i none⟩ C (σ.set i none) H :=
  ⟨s.st, s.low, s.fl, by simp [s.len], fun j e h => by
    have h' : (F.sl.set i none)[j]? = some (some e) := h
    by_cases hij : i = j
    · subst hij
      by_cases hl : i < F.sl.length
      · rw [List.getElem?_set_self hl] at h'
        cases h'
      · rw [List.getElem?_eq_none (by simp; omega)] at h'
        cases h'
    · rw [List.getElem?_set_ne hij] at h'
      obtain ⟨u, h1, h2⟩ := s.sl j e h'
      exact ⟨u, by rw [List.getElem?_set_ne hij]; exact h1, h2⟩⟩
variable {α β γ δ : Type} {rel : (Nat → Addr) → Store → Hp → β → α → Prop} {rel2 : (Nat → Addr) → Store → Hp → δ → γ → Prop} {m : R α} {Q : α → Store → (Nat → Addr) → Hp → β → Prop} {W : XK}
theorem Aft.shift (s : Stp k fl A C H A1 C1 H1) (h : Aft k fl A C H rel m Q W) : Aft k fl A1 C1 H1 rel m Q W := by
  cases m with
  | ok d C' => exact fun A' H' v p st r => h A' H' v (s.trans p) st r
  | exc e C' => exact fun A' H' dd vs p st x l r => h A' H' dd vs (s.trans p) st x l r
  | stuck => exact h
theorem Aft.mono {Q' : α → Store → (Nat → Addr) → Hp → β → Prop} (h : Aft k fl A C H rel m Q W) (hq : ∀ d C' A' H' v, Stp k fl A C H A' C' H' → StOk k A' C' H' → rel A' C' H' v d → Q d C' A' H' v → Q' d C' A' H' v) : Aft k fl A C H rel m Q' W := by
  cases m with
  | ok d C' => exact fun A' H' v p st r => hq _ _ _ _ _ p st r (h A' H' v p st r)
  | exc e C' => exact h
  | stuck => exact h
theorem Aft.bnd {f : α → Store → R γ} {Q : γ → Store → (Nat → Addr) → Hp → δ → Prop} (h : Aft k fl A C H rel2 (bnd m f) Q W) :
    Aft k fl A C H rel m (fun d C1 A1 H1 v => Aft k fl A1 C1 H1 rel2 (f d C1) Q W) W := by
  cases m with
  | ok d C' => exact fun A' H' v p st r => Aft.shift p h
  | exc e C' => exact h
  | stuck => exact h
end
abbrev RepD (k : Cn) : (Nat → Addr) → Store → Hp → V → D → Prop := fun A C H v d => Rep k A C H v d
abbrev RepDs (k : Cn) : (Nat → Addr) → Store → Hp → List V → List D → Prop := fun A C H v d => RepL k A C H v d
/-- an expression's reading by data -/
def LE (k : Cn) (W : WX) (m : ME) : TE := fun σ H Q => ∃ A F C, SR k A F C σ H ∧ Aft k F.fl A C H (RepD k) (m F C) (fun _ _ _ H' v => Q v H') (fun c d H' => W c d σ H')
abbrev MA := Fr → Store → R (List D)
def LA (k : Cn) (W : WX) (m : MA) : TA := fun σ H Q => ∃ A F C, SR k A F C σ H ∧ Aft k F.fl A C H (RepDs k) (m F C) (fun _ _ _ H' v => Q v H') (fun c d H' => W c d σ H')
abbrev MT := Fr → Store → R Bool
def LT (k : Cn) (W : WX) (m : MT) : TT := fun σ H Q => ∃ A F C, SR k A F C σ H ∧ Aft k F.fl A C H (fun _ _ _ (v d : Bool) => v = d) (m F C) (fun _ _ _ H' v => Q v H') (fun c d H' => W c d σ H')
end CT
set_option maxHeartbeats 4000000
/-! DL2: expressions over data: names, constants, operators, displays, subscripts, calls of built-ins. -/
namespace CT
open PySem L2
theorem _root_.L2.PE.cq {X : Cx} {e : Expr} {t t' : TE} (h : PE X e t) (c : ∀ σ H Q, t' σ H Q → t σ H Q) : PE X e t' := ⟨fun pins s σ H Q I q => h.run pins s σ H Q I (c σ H Q q)⟩
theorem _root_.L2.PT.cq {X : Cx} {e : Expr} {t t' : TT} (h : PT X e t) (c : ∀ σ H Q, t' σ H Q → t σ H Q) : PT X e t' := ⟨fun pins s σ H Q I q => h.run pins s σ H Q I (c σ H Q q)⟩
theorem _root_.L2.PW.cq {X : Cx} {e : Expr} {t t' : TT} (h : PW X e t) (c : ∀ σ H Q, t' σ H Q → t σ H Q) : PW X e t' := ⟨fun w pins s σ H Q I q => h.run w pins s σ H Q I (c σ H Q q)⟩
theorem _root_.L2.PA.cq {X : Cx} {e : List Expr} {t t' : TA} (h : PA X e t) (c : ∀ σ H Q, t' σ H Q → t σ H Q) : PA X e t' := ⟨fun p pins s σ H Q I q => h.run p pins s σ H Q I (c σ H Q q)⟩
theorem _root_.L2.PS.cq {X : Cx} {e : Stmt} {t t' : TS} (h : PS X e t) (c : ∀ D σ H, t' D σ H → t D σ H) : PS X e t' := ⟨fun pins s σ H Q I q => h.run pins s σ H Q I (c Q σ H q)⟩
theorem _root_.L2.PSs.cq {X : Cx} {e : List Stmt} {t t' : TS} (h : PSs X e t) (c : ∀ D σ H, t' D σ H → t D σ H) : PSs X e t' := ⟨fun pins s σ H Q I q => h.run pins s σ H Q I (c Q σ H q)⟩
/-! ### names, constants -/
def mVar (i : Nat) : ME := fun F C => match F.sl[i]? with
  | some (some d) => .ok d C
  | _ => .stuck
def mC (d : D) : ME := fun _ C => .ok d C
section
variable {X : Cx} {k : Cn} {W : WX}
theorem le_var {i : Nat} {σ : L2.St} {H : Hp} {Q : VK} (h : LE k W (mVar i) σ H Q) : tVar i σ H Q := by
  obtain ⟨A, F, C, s, h⟩ := h
  unfold mVar at h
  split at h
  · rename_i d e
    obtain ⟨v, h1, h2⟩ := s.sl i d e
    exact ⟨v, h1, h A H v Stp.refl s.st h2⟩
  · exact h.elim
theorem dv (i : Nat) {x : Str} {pos : Pos} (hN : X.N[i]? = some x := by rfl) (hv : Vis X.env.scope x := by first | exact Or.inl rfl | exact Or.inr (Or.inl rfl) | exact Or.inr (Or.inr rfl)) (hd : (x == ("__debug__" : Str)) = false := by decide)
    (hcd : (x == ("__classdict__" : Str)) = false := by decide) : PE X (.Name x pos) (LE k W (mVar i)) := (pe_var hN hv hd hcd).cq fun _ _ _ h => le_var h
/-- a value that every heap reads as d -/
theorem le_c {v : V} {d : D} (hr : ∀ A C H, Rep k A C H v d) {σ : L2.St} {H : Hp} {Q : VK} (h : LE k W (mC d) σ H Q) : tC v σ H Q := by
  obtain ⟨A, F, C, s, h⟩ := h
  exact h A H v Stp.refl s.st (hr _ _ _)
theorem de_int {i j pos} : PE X (.Constant (.int i) j pos) (LE k W (mC (.int i))) := pe_int.cq fun _ _ _ h => le_c (fun _ _ _ => .int i) h
theorem de_bl {i j pos} : PE X (.Constant (.bool i) j pos) (LE k W (mC (.bl i))) := pe_bl.cq fun _ _ _ h => le_c (fun _ _ _ => .bl i) h
theorem de_non {j pos} : PE X (.Constant .none j pos) (LE k W (mC .non)) := pe_non.cq fun _ _ _ h => le_c (fun _ _ _ => .non) h
theorem de_glob {x : Str} {v : V} {d : D} {u : Value} {pos : Pos} (hr : ∀ A C H, Rep k A C H v d) (hg : Gl X x) (hm : X.mg x = some u) (r : RelV v u) (hd : (x == ("__debug__" : Str)) = false := by decide) : PE X (.Name x pos) (LE k W (mC d)) :=
  (pe_glob hg hm r hd).cq fun _ _ _ h => le_c hr h
end
/-! ### operators -/
abbrev O2 := D → D → Store → Option (D × Store)
abbrev O1 := D → Store → Option (D × Store)
abbrev OA := List D → Store → Option (D × Store)
def mOp (o : O2) (a b : ME) : ME := fun F C => bnd (a F C) fun x C1 => bnd (b F C1) fun y C2 => ofO (o x y C2)
def mUn (o : O1) (a : ME) : ME := fun F C => bnd (a F C) fun x C1 => ofO (o x C1)
def mNil : MA := fun _ C => .ok [] C
def mCons (a : ME) (r : MA) : MA := fun F C => bnd (a F C) fun x C1 => bnd (r F C1) fun xs C2 => .ok (x :: xs) C2
def mAp (o : OA) (a : MA) : ME := fun F C => bnd (a F C) fun xs C1 => ofO (o xs C1)
/-- an operation on values that the data's operation o tells -/
def OpD (k : Cn) (r : R2) (o : O2) : Prop := ∀ fl A C H x y dx dy d C' (Q : VK), fl ≤ C.length → LowC fl C → StOk k A C H → Rep k A C H x dx → Rep k A C H y dy → o dx dy C = some (d, C') →
  (∀ A' H' v, Stp k fl A C H A' C' H' → StOk k A' C' H' → Rep k A' C' H' v d → Q v H') → r x y H Q
def UnD (k : Cn) (r : V → Hp → VK → Prop) (o : O1) : Prop := ∀ fl A C H x dx d C' (Q : VK), fl ≤ C.length → LowC fl C → StOk k A C H → Rep k A C H x dx → o dx C = some (d, C') →
  (∀ A' H' v, Stp k fl A C H A' C' H' → StOk k A' C' H' → Rep k A' C' H' v d → Q v H') → r x H Q
def ApD (k : Cn) (r : List V → Hp → VK → Prop) (o : OA) : Prop := ∀ fl A C H x dx d C' (Q : VK), fl ≤ C.length → LowC fl C → StOk k A C H → RepL k A C H x dx → o dx C = some (d, C') →
  (∀ A' H' v, Stp k fl A C H A' C' H' → StOk k A' C' H' → Rep k A' C' H' v d → Q v H') → r x H Q
theorem aft_ofO {k : Cn} {fl : Nat} {A : Nat → Addr} {C : Store} {H : Hp} {W : XK} {o : Option (D × Store)} {Q : D → Store → (Nat → Addr) → Hp → V → Prop} (h : Aft k fl A C H (RepD k) (ofO o) Q W) :
    ∃ d C', o = some (d, C') ∧ ∀ A' H' v, Stp k fl A C H A' C' H' → StOk k A' C' H' → Rep k A' C' H' v d → Q d C' A' H' v := by
  cases o with
  | none => exact h.elim
  | some p => exact ⟨p.1, p.2, rfl, h⟩
section
variable {X : Cx} {k : Cn} {W : WX} {σ : L2.St} {H : Hp} {Q : VK}
theorem le_op {r : R2} {o : O2} {ma mb : ME} (ho : OpD k r o) (h : LE k W (mOp o ma mb) σ H Q) : tOp r (LE k W ma) (LE k W mb) σ H Q := by
  obtain ⟨A, F, C, s, h⟩ := h
  refine ⟨A, F, C, s, (Aft.bnd (rel := RepD k) h).mono fun dx C1 A1 H1 x p1 st1 rx h1 => ?_⟩
  have s1 := s.step p1 st1
  refine ⟨A1, F, C1, s1, (Aft.bnd (rel := RepD k) h1).mono fun dy C2 A2 H2 y p2 st2 ry h2 => ?_⟩
  have s2 := s1.step p2 st2
  obtain ⟨d, C', e, q⟩ := aft_ofO h2
  exact ho F.fl A2 C2 H2 x y dx dy d C' Q s2.fl s2.low st2 (p2.rep _ _ rx) ry e q
theorem le_un {r : V → Hp → VK → Prop} {o : O1} {ma : ME} (ho : UnD k r o) (h : LE k W (mUn o ma) σ H Q) : tUn r (LE k W ma) σ H Q := by
  obtain ⟨A, F, C, s, h⟩ := h
  refine ⟨A, F, C, s, (Aft.bnd (rel := RepD k) h).mono fun dx C1 A1 H1 x p1 st1 rx h1 => ?_⟩
  have s1 := s.step p1 st1
  obtain ⟨d, C', e, q⟩ := aft_ofO h1
  exact ho F.fl A1 C1 H1 x dx d C' Q s1.fl s1.low st1 rx e q
theorem la_nil {Q : List V → Hp → Prop} (h : LA k W mNil σ H Q) : tNil σ H Q := by
  obtain ⟨A, F, C, s, h⟩ := h
  exact h A H [] Stp.refl s.st .nil
theorem la_cons {Q : List V → Hp → Prop} {ma : ME} {mr : MA} (h : LA k W (mCons ma mr) σ H Q) : tCons (LE k W ma) (LA k W mr) σ H Q := by
  obtain ⟨A, F, C, s, h⟩ := h
  refine ⟨A, F, C, s, (Aft.bnd (rel := RepD k) h).mono fun dx C1 A1 H1 x p1 st1 rx h1 => ?_⟩
  have s1 := s.step p1 st1
  refine ⟨A1, F, C1, s1, (Aft.bnd (rel := RepDs k) h1).mono fun dy C2 A2 H2 y p2 st2 ry h2 => ?_⟩
  exact h2 A2 H2 (x :: y) Stp.refl st2 (.cons (p2.rep _ _ rx) ry)
theorem le_ap {r : List V → Hp → VK → Prop} {o : OA} {ma : MA} (ho : ApD k r o) (h : LE k W (mAp o ma) σ H Q) : tCB r (LA k W ma) σ H Q := by
  obtain ⟨A, F, C, s, h⟩ := h
  refine ⟨A, F, C, s, (Aft.bnd (rel := RepDs k) h).mono fun dx C1 A1 H1 x p1 st1 rx h1 => ?_⟩
  have s1 := s.step p1 st1
  obtain ⟨d, C', e, q⟩ := aft_ofO h1
  exact ho F.fl A1 C1 H1 x dx d C' Q s1.fl s1.low st1 rx e q
theorem de_op {a b : Expr} {pos : Pos} {op : Operator} {r : R2} {o : O2} {ma mb : ME} (hR : OpR X (binaryOp op) r) (hD : OpD k r o) (ha : PE X a (LE k W ma)) (hb : PE X b (LE k W mb)) : PE X (.BinOp a op b pos) (LE k W (mOp o ma mb)) :=
  (pe_op hR ha hb).cq fun _ _ _ h => le_op hD h
theorem de_cmp {a b : Expr} {pos : Pos} {op : CmpOp} {r : R2} {o : O2} {ma mb : ME} (hR : OpR X (compareOp op) r) (hD : OpD k r o) (ha : PE X a (LE k W ma)) (hb : PE X b (LE k W mb)) (hm : behindInMarks op b = false) : PE X (.Compare a [op] [b] pos) (LE k W (mOp o ma mb)) :=
  (pe_cmpR hR ha hb hm).cq fun _ _ _ h => le_op hD h
theorem de_un {a : Expr} {pos : Pos} {op : UnaryOp} {r : V → Hp → VK → Prop} {o : O1} {ma : ME} (hR : UnR X (unaryOp op) r) (hD : UnD k r o) (ha : PE X a (LE k W ma)) : PE X (.UnaryOp op a pos) (LE k W (mUn o ma)) :=
  (pe_un hR ha).cq fun _ _ _ h => le_un hD h
theorem de_ix {a b : Expr} {pos : Pos} {r : R2} {o : O2} {ma mb : ME} (hR : IxR X r) (hD : OpD k r o) (ha : PE X a (LE k W ma)) (hb : PE X b (LE k W mb)) (hs : PlainIx b := by exact fun _ _ => rfl) : PE X (.Subscript a b pos) (LE k W (mOp o ma mb)) :=
  (pe_ix hR ha hb hs).cq fun _ _ _ h => le_op hD h
theorem da_nil : PA X [] (LA k W mNil) := pa_nil.cq fun _ _ _ h => la_nil h
theorem da_cons {e : Expr} {es : List Expr} {ma : ME} {mr : MA} (ha : PE X e (LE k W ma)) (hr : PA X es (LA k W mr)) (hs : starEach (e :: es) X.env = (false, eval e X.env) :: starEach es X.env := by rfl) : PA X (e :: es) (LA k W (mCons ma mr)) :=
  (pa_cons ha hr hs).cq fun _ _ _ h => la_cons h
theorem de_callB {x : Str} {id : String} {e : Expr} {es : List Expr} {p pos : Pos} {r : List V → Hp → VK → Prop} {o : OA} {ma : MA} (hc : CallR X (.builtin id) r) (hD : ApD k r o) (hg : Gl X x) (hm : X.mg x = none) (hv : bootBuiltins x = some (.builtin id))
    (ha : PA X (e :: es) (LA k W ma)) (hn : x ≠ "__name__" := by decide) (hdb : (x == ("__debug__" : Str)) = false := by decide) (he : starEach (e :: es) X.env = (false, eval e X.env) :: starEach es X.env := by rfl) (hpl : (backTo pos (starEach es X.env)).any (·.1) = false := by rfl) :
    PE X (.Call (.Name x p) (e :: es) [] pos) (LE k W (mAp o ma)) := (pe_callB hc hg hm hv ha hn hdb he hpl).cq fun _ _ _ h => le_ap hD h
theorem de_callTy {x : Str} {id : String} {e : Expr} {es : List Expr} {p pos : Pos} {r : List V → Hp → VK → Prop} {o : OA} {ma : MA} (hc : CallR X (.type id) r) (hD : ApD k r o) (hg : Gl X x) (hm : X.mg x = none) (hv : bootBuiltins x = some (.type id))
    (ha : PA X (e :: es) (LA k W ma)) (hn : x ≠ "__name__" := by decide) (hdb : (x == ("__debug__" : Str)) = false := by decide) (he : starEach (e :: es) X.env = (false, eval e X.env) :: starEach es X.env := by rfl) (hpl : (backTo pos (starEach es X.env)).any (·.1) = false := by rfl) :
    PE X (.Call (.Name x p) (e :: es) [] pos) (LE k W (mAp o ma)) := (pe_callTy hc hg hm hv ha hn hdb he hpl).cq fun _ _ _ h => le_ap hD h
end
/-! ### tests, and, or, not -/
def mTst (a : ME) : MT := fun F C => bnd (a F C) fun x C1 => match x with
  | .bl b => .ok b C1
  | _ => .stuck
def tAndM (a b : MT) : MT := fun F C => bnd (a F C) fun x C1 => if x = true then b F C1 else .ok false C1
def tOrM (a b : MT) : MT := fun F C => bnd (a F C) fun x C1 => if x = true then .ok true C1 else b F C1
def tNotM (a : MT) : MT := fun F C => bnd (a F C) fun x C1 => .ok (!x) C1
def mAnd (a b : ME) : ME := fun F C => bnd (a F C) fun x C1 => match x with
  | .bl true => b F C1
  | .bl false => .ok (.bl false) C1
  | _ => .stuck
def mOr (a b : ME) : ME := fun F C => bnd (a F C) fun x C1 => match x with
  | .bl true => .ok (.bl true) C1
  | .bl false => b F C1
  | _ => .stuck
def mNot (a : ME) : ME := fun F C => bnd (a F C) fun x C1 => match x with
  | .bl b => .ok (.bl (!b)) C1
  | _ => .stuck
def mIf (t : MT) (a b : ME) : ME := fun F C => bnd (t F C) fun x C1 => if x = true then a F C1 else b F C1
abbrev RepB : (Nat → Addr) → Store → Hp → Bool → Bool → Prop := fun _ _ _ v d => v = d
section
variable {X : Cx} {k : Cn} {W : WX} {σ : L2.St} {H : Hp}
theorem lt_val {ma : ME} {Q : Bool → Hp → Prop} (h : LT k W (mTst ma) σ H Q) : tB (LE k W ma) σ H Q := by
  obtain ⟨A, F, C, s, h⟩ := h
  refine ⟨A, F, C, s, (Aft.bnd (rel := RepD k) h).mono fun dx C1 A1 H1 x p1 st1 rx h1 => ?_⟩
  cases rx with
  | bl b => exact ⟨b, rfl, h1 A1 H1 b Stp.refl st1 rfl⟩
  | _ => exact h1.elim
theorem dt_val {e : Expr} {ma : ME} (h : PE X e (LE k W ma)) (he : ∀ whole, isTrue e X.env whole = (do let v ← whole; standAt e.pos; holding [v] (truthy v)) := by intro _; rfl) : PT X e (LT k W (mTst ma)) :=
  (pt_val h he).cq fun _ _ _ h => lt_val h
theorem lt_and {a b : MT} {Q : Bool → Hp → Prop} (h : LT k W (tAndM a b) σ H Q) : tAnd (LT k W a) (LT k W b) σ H Q := by
  obtain ⟨A, F, C, s, h⟩ := h
  refine ⟨A, F, C, s, (Aft.bnd (rel := RepB) h).mono fun dx C1 A1 H1 x p1 st1 rx h1 => ?_⟩
  have rx : x = dx := rx
  subst rx
  cases x with
  | true => exact iteT ⟨A1, F, C1, s.step p1 st1, h1⟩
  | false => exact iteF (h1 A1 H1 false Stp.refl st1 rfl)
theorem lt_or {a b : MT} {Q : Bool → Hp → Prop} (h : LT k W (tOrM a b) σ H Q) : tOr (LT k W a) (LT k W b) σ H Q := by
  obtain ⟨A, F, C, s, h⟩ := h
  refine ⟨A, F, C, s, (Aft.bnd (rel := RepB) h).mono fun dx C1 A1 H1 x p1 st1 rx h1 => ?_⟩
  have rx : x = dx := rx
  subst rx
  cases x with
  | true => exact iteT (h1 A1 H1 true Stp.refl st1 rfl)
  | false => exact iteF ⟨A1, F, C1, s.step p1 st1, h1⟩
theorem lt_not {a : MT} {Q : Bool → Hp → Prop} (h : LT k W (tNotM a) σ H Q) : tNot (LT k W a) σ H Q := by
  obtain ⟨A, F, C, s, h⟩ := h
  refine ⟨A, F, C, s, (Aft.bnd (rel := RepB) h).mono fun dx C1 A1 H1 x p1 st1 rx h1 => ?_⟩
  have rx : x = dx := rx
  subst rx
  exact h1 A1 H1 (!x) Stp.refl st1 rfl
theorem dw_and1 {a : Expr} {pos : Pos} {m : MT} (ha : PT X a (LT k W m)) : PW X (.BoolOp .And [a] pos) (LT k W m) := pw_and1 ha
theorem dw_or1 {a : Expr} {pos : Pos} {m : MT} (ha : PT X a (LT k W m)) : PW X (.BoolOp .Or [a] pos) (LT k W m) := pw_or1 ha
theorem dw_and {a b : Expr} {rest : List Expr} {pos : Pos} {m n : MT} (ha : PT X a (LT k W m)) (hb : PW X (.BoolOp .And (b :: rest) pos) (LT k W n)) : PW X (.BoolOp .And (a :: b :: rest) pos) (LT k W (tAndM m n)) := (pw_and ha hb).cq fun _ _ _ h => lt_and h
theorem dw_or {a b : Expr} {rest : List Expr} {pos : Pos} {m n : MT} (ha : PT X a (LT k W m)) (hb : PW X (.BoolOp .Or (b :: rest) pos) (LT k W n)) : PW X (.BoolOp .Or (a :: b :: rest) pos) (LT k W (tOrM m n)) := (pw_or ha hb).cq fun _ _ _ h => lt_or h
theorem dt_not {a : Expr} {pos : Pos} {m : MT} (ha : PT X a (LT k W m)) : PT X (.UnaryOp .Not a pos) (LT k W (tNotM m)) := (pt_not ha).cq fun _ _ _ h => lt_not h
theorem le_and {a b : ME} {Q : VK} (h : LE k W (mAnd a b) σ H Q) : tAndV (LE k W a) (LE k W b) σ H Q := by
  obtain ⟨A, F, C, s, h⟩ := h
  refine ⟨A, F, C, s, (Aft.bnd (rel := RepD k) h).mono fun dx C1 A1 H1 x p1 st1 rx h1 => ?_⟩
  cases rx with
  | bl b =>
    refine ⟨b, rfl, ?_⟩
    cases b with
    | true => exact iteT ⟨A1, F, C1, s.step p1 st1, h1⟩
    | false => exact iteF (h1 A1 H1 (.bl false) Stp.refl st1 (.bl false))
  | _ => exact h1.elim
theorem le_not {a : ME} {Q : VK} (h : LE k W (mNot a) σ H Q) : tNotV (LE k W a) σ H Q := by
  obtain ⟨A, F, C, s, h⟩ := h
  refine ⟨A, F, C, s, (Aft.bnd (rel := RepD k) h).mono fun dx C1 A1 H1 x p1 st1 rx h1 => ?_⟩
  cases rx with
  | bl b => exact ⟨b, rfl, h1 A1 H1 (.bl (!b)) Stp.refl st1 (.bl _)⟩
  | _ => exact h1.elim
theorem le_if {t : MT} {a b : ME} {Q : VK} (h : LE k W (mIf t a b) σ H Q) : tIf (LT k W t) (LE k W a) (LE k W b) σ H Q := by
  obtain ⟨A, F, C, s, h⟩ := h
  refine ⟨A, F, C, s, (Aft.bnd (rel := RepB) h).mono fun dx C1 A1 H1 x p1 st1 rx h1 => ?_⟩
  have rx : x = dx := rx
  subst rx
  cases x with
  | true => exact iteT ⟨A1, F, C1, s.step p1 st1, h1⟩
  | false => exact iteF ⟨A1, F, C1, s.step p1 st1, h1⟩
theorem de_one {op} {a : Expr} {pos : Pos} {m : ME} (h : PE X a (LE k W m)) : PE X (.BoolOp op [a] pos) (LE k W m) := pe_one h
theorem de_and {a b : Expr} {rest : List Expr} {pos : Pos} {m n : ME} (ha : PE X a (LE k W m)) (hb : PE X (.BoolOp .And (b :: rest) pos) (LE k W n)) : PE X (.BoolOp .And (a :: b :: rest) pos) (LE k W (mAnd m n)) := (pe_and ha hb).cq fun _ _ _ h => le_and h
theorem de_not {a : Expr} {pos : Pos} {m : ME} (ha : PE X a (LE k W m)) : PE X (.UnaryOp .Not a pos) (LE k W (mNot m)) := (pe_not ha).cq fun _ _ _ h => le_not h
theorem de_if {c a b : Expr} {pos : Pos} {t : MT} {m n : ME} (hc : PT X c (LT k W t)) (ha : PE X a (LE k W m)) (hb : PE X b (LE k W n)) : PE X (.IfExp c a b pos) (LE k W (mIf t m n)) := (pe_ifExp hc ha hb).cq fun _ _ _ h => le_if h
end
/-! ### numbers -/
def oI (c : Int → Int → Bool) (g : Int → Int → D) : O2 := fun x y C => match x, y with
  | .int i, .int j => if c i j = true then some (g i j, C) else none
  | _, _ => none
def oI0 (g : Int → Int → D) : O2 := fun x y C => match x, y with
  | .int i, .int j => some (g i j, C)
  | _, _ => none
theorem opD_I0 {k : Cn} {g : Int → Int → V} {g' : Int → Int → D} (hg : ∀ i j A C H, Rep k A C H (g i j) (g' i j)) : OpD k (rI0 g) (oI0 g') := by
  intro fl A C H x y dx dy d C' Q hf hl st rx ry e q
  unfold oI0 at e
  split at e
  · cases rx; cases ry; cases e
    exact ⟨_, _, rfl, rfl, q A H _ Stp.refl st (hg _ _ _ _ _)⟩
  · cases e
theorem opD_I {k : Cn} {P : Int → Int → Prop} {c : Int → Int → Bool} {g : Int → Int → V} {g' : Int → Int → D} (hc : ∀ i j, c i j = true → P i j) (hg : ∀ i j A C H, Rep k A C H (g i j) (g' i j)) : OpD k (rI P g) (oI c g') := by
  intro fl A C H x y dx dy d C' Q hf hl st rx ry e q
  unfold oI at e
  split at e
  · split at e
    · rename_i h
      cases rx; cases ry; cases e
      exact ⟨_, _, rfl, rfl, hc _ _ h, q A H _ Stp.refl st (hg _ _ _ _ _)⟩
    · cases e
  · cases e
def oAdd : O2 := oI0 fun i j => .int (i + j)
def oSub : O2 := oI0 fun i j => .int (i - j)
def cMul (i j : Int) : Bool := (decide (-(2 ^ 64) < i) && decide (i < 2 ^ 64)) || (decide (-(2 ^ 64) < j) && decide (j < 2 ^ 64))
def oMul : O2 := oI cMul fun i j => .int (i * j)
def cDiv (i j : Int) : Bool := decide (0 < j) && decide (j < 4611686018427387904)
def oDiv : O2 := oI cDiv fun i j => .int (i / j)
def oMod : O2 := oI (fun _ j => decide (0 < j)) fun i j => .int (i % j)
def oLt : O2 := oI0 fun i j => .bl (decide (i < j))
def oLe : O2 := oI0 fun i j => .bl (decide (i ≤ j))
def oGt : O2 := oI0 fun i j => .bl (decide (j < i))
def oGe : O2 := oI0 fun i j => .bl (decide (j ≤ i))
def oNeg : O1 := fun x C => match x with
  | .int i => some (.int (-i), C)
  | _ => none
section
variable {k : Cn}
theorem d_add : OpD k (rI0 fun i j => .int (i + j)) oAdd := opD_I0 fun i j _ _ _ => .int _
theorem d_sub : OpD k (rI0 fun i j => .int (i - j)) oSub := opD_I0 fun i j _ _ _ => .int _
theorem d_mul : OpD k (rI CMul fun i j => .int (i * j)) oMul := opD_I (fun i j h => by
  simp only [cMul, Bool.or_eq_true, Bool.and_eq_true, decide_eq_true_eq] at h
  exact h) fun i j _ _ _ => .int _
theorem d_div : OpD k (rI CDivW fun i j => .int (i / j)) oDiv := opD_I (fun i j h => by
  simp only [cDiv, Bool.and_eq_true, decide_eq_true_eq] at h
  refine ⟨h.1, Nat.lt_of_lt_of_le ((Nat.log2_lt (by omega)).mpr (show j.natAbs < 2 ^ 62 by omega)) (by decide)⟩) fun i j _ _ _ => .int _
theorem d_mod : OpD k (rI (fun _ j => 0 < j) fun i j => .int (i % j)) oMod := opD_I (fun i j h => by simpa using h) fun i j _ _ _ => .int _
theorem d_lt : OpD k (rI0 fun i j => .bl (decide (i < j))) oLt := opD_I0 fun i j _ _ _ => .bl _
theorem d_le : OpD k (rI0 fun i j => .bl (decide (i ≤ j))) oLe := opD_I0 fun i j _ _ _ => .bl _
theorem d_gt : OpD k (rI0 fun i j => .bl (decide (j < i))) oGt := opD_I0 fun i j _ _ _ => .bl _
theorem d_ge : OpD k (rI0 fun i j => .bl (decide (j ≤ i))) oGe := opD_I0 fun i j _ _ _ => .bl _
theorem d_neg : UnD k (rU fun i => .int (-i)) oNeg := by
  intro fl A C H x dx d C' Q hf hl st rx e q
  unfold oNeg at e
  split at e
  · cases rx; cases e
    exact ⟨_, rfl, q A H _ Stp.refl st (.int _)⟩
  · cases e
end
/-! ### a chain of two comparisons -/
def mChain (o o' : O2) (a b c : ME) : ME := fun F C => bnd (a F C) fun x C1 => bnd (b F C1) fun y C2 => bnd (ofO (o x y C2)) fun z C3 => match z with
  | .bl true => bnd (c F C3) fun w C4 => ofO (o' y w C4)
  | .bl false => .ok (.bl false) C3
  | _ => .stuck
theorem le_chain {k : Cn} {W : WX} {σ : L2.St} {H : Hp} {Q : VK} {r r' : R2} {o o' : O2} {ma mb mc : ME} (ho : OpD k r o) (ho' : OpD k r' o') (h : LE k W (mChain o o' ma mb mc) σ H Q) : tChain r r' (LE k W ma) (LE k W mb) (LE k W mc) σ H Q := by
  obtain ⟨A, F, C, s, h⟩ := h
  refine ⟨A, F, C, s, (Aft.bnd (rel := RepD k) h).mono fun dx C1 A1 H1 x p1 st1 rx h1 => ?_⟩
  have s1 := s.step p1 st1
  refine ⟨A1, F, C1, s1, (Aft.bnd (rel := RepD k) h1).mono fun dy C2 A2 H2 y p2 st2 ry h2 => ?_⟩
  have s2 := s1.step p2 st2
  obtain ⟨d, C', e, q⟩ := aft_ofO (Aft.bnd (rel := RepD k) h2)
  refine ho F.fl A2 C2 H2 x y dx dy d C' _ s2.fl s2.low st2 (p2.rep _ _ rx) ry e fun A3 H3 z p3 st3 rz => ?_
  have h3 := q A3 H3 z p3 st3 rz
  cases rz with
  | bl b =>
    refine ⟨b, rfl, ?_⟩
    cases b with
    | true =>
      have s3 := s2.step p3 st3
      refine iteT ⟨A3, F, C', s3, (Aft.bnd (rel := RepD k) h3).mono fun dw C4 A4 H4 w p4 st4 rw h4 => ?_⟩
      have s4 := s3.step p4 st4
      obtain ⟨d', C'', e', q'⟩ := aft_ofO h4
      exact ho' F.fl A4 C4 H4 y w dy dw d' C'' Q s4.fl s4.low st4 (p4.rep _ _ (p3.rep _ _ ry)) rw e' q'
    | false => exact iteF (h3 A3 H3 (.bl false) Stp.refl st3 (.bl false))
  | _ => exact h3.elim
theorem de_chain {X : Cx} {k : Cn} {W : WX} {a b c : Expr} {pos : Pos} {op op' : CmpOp} {r r' : R2} {o o' : O2} {ma mb mc : ME} (hR : OpR X (compareOp op) r) (hD : OpD k r o) (hR' : OpR X (compareOp op') r') (hD' : OpD k r' o') (ha : PE X a (LE k W ma)) (hb : PE X b (LE k W mb)) (hc : PE X c (LE k W mc))
    (hm : lastMarks [op, op'] [b, c] = false := by with_unfolding_all rfl) : PE X (.Compare a [op, op'] [b, c] pos) (LE k W (mChain o o' ma mb mc)) :=
  (pe_chain hR hR' ha hb hc hm).cq fun _ _ _ h => le_chain hD hD' h
end CT
set_option maxHeartbeats 4000000
/-! DL3: lists, tuples, dicts over data. -/
namespace CT
open PySem L2
/-! ### what a datum is as a list, a tuple, a dict -/
def vL (d : D) (C : Store) : Option (List D) := match d with
  | .lst xs => some xs
  | .cell i => match C[i]? with
    | some (some (.lst xs)) => some xs
    | _ => none
  | _ => none
def vT : D → Option (List D)
  | .tup xs => some xs
  | .kt xs => some xs
  | _ => none
def vS (d : D) (C : Store) : Option (List D) := match d with
  | .tup xs => some xs
  | .kt xs => some xs
  | .lst xs => some xs
  | .cell i => match C[i]? with
    | some (some (.lst xs)) => some xs
    | _ => none
  | _ => none
def vD (d : D) (C : Store) : Option (List (List Key) × List D) := match d with
  | .dT ks vs => some (ks, vs)
  | .cell i => match C[i]? with
    | some (some (.dT ks vs)) => some (ks, vs)
    | _ => none
  | _ => none
section
variable {k : Cn} {A : Nat → Addr} {C : Store} {H : Hp} {v : V} {d : D} {ds : List D}
theorem vL_at (st : StOk k A C H) (r : Rep k A C H v d) (e : vL d C = some ds) : ∃ a vs, v = .ref a ∧ H a = some (.lst vs) ∧ RepL k A C H vs ds := by
  cases r with
  | lst l h q => cases e; exact ⟨_, _, rfl, h, q⟩
  | cell hi =>
    rename_i i
    simp only [vL] at e
    split at e
    · rename_i xs ec
      cases e
      obtain ⟨vs, h, q⟩ := st.at_ i _ ec
      exact ⟨_, vs, rfl, h, q⟩
    · cases e
  | _ => cases e
theorem vT_at (r : Rep k A C H v d) (e : vT d = some ds) : ∃ a vs, v = .ref a ∧ SqT k.K H a vs ∧ RepL k A C H vs ds := by
  cases r with
  | tup l h q => cases e; exact ⟨_, _, rfl, .inl (.inl h), q⟩
  | ktup h q => cases e; exact ⟨_, _, rfl, .inr h, q⟩
  | _ => cases e
theorem vS_at (st : StOk k A C H) (r : Rep k A C H v d) (e : vS d C = some ds) : ∃ a vs, v = .ref a ∧ (SqL k.K H a vs ∨ SqT k.K H a vs) ∧ RepL k A C H vs ds := by
  cases r with
  | lst l h q => cases e; exact ⟨_, _, rfl, .inl (.inl (.inl h)), q⟩
  | tup l h q => cases e; exact ⟨_, _, rfl, .inr (.inl (.inl h)), q⟩
  | ktup h q => cases e; exact ⟨_, _, rfl, .inr (.inr h), q⟩
  | cell hi =>
    rename_i i
    simp only [vS] at e
    split at e
    · rename_i xs ec
      cases e
      obtain ⟨vs, h, q⟩ := st.at_ i _ ec
      exact ⟨_, vs, rfl, .inl (.inl (.inl h)), q⟩
    · cases e
  | _ => cases e
/-! ### new lists, tuples, dicts: own cells or plain data -/
def mkL (own : Bool) (ds : List D) (C : Store) : D × Store := if own = true then (.cell C.length, C ++ [some (.lst ds)]) else (.lst ds, C)
def mkD (own : Bool) (ks : List (List Key)) (ds : List D) (C : Store) : D × Store := if own = true then (.cell C.length, C ++ [some (.dT ks ds)]) else (.dT ks ds, C)
theorem ext_at (A : Nat → Addr) (n : Nat) (p : Addr) : ext A n p n = p := if_pos rfl
theorem rep_new {p : Addr} (n : Nat) (c : Cell) {H : Hp} {C : Store} : Rep k (ext A C.length p) (C ++ [some c]) H (.ref p) (.cell C.length) := by
  have h : Rep k (ext A C.length p) (C ++ [some c]) H (.ref (ext A C.length p C.length)) (.cell C.length) := .cell (by simp)
  rw [ext_at] at h
  exact h
theorem fresh_L {fl : Nat} {own : Bool} {p : Addr} {vs : List V} (hf : fl ≤ C.length) (st : StOk k A C H) (r : RepL k A C H vs ds) (h : H p = none) :
    ∃ A', Stp k fl A C H A' (mkL own ds C).2 (upd H p (.lst vs)) ∧ StOk k A' (mkL own ds C).2 (upd H p (.lst vs)) ∧ Rep k A' (mkL own ds C).2 (upd H p (.lst vs)) (.ref p) (mkL own ds C).1 := by
  cases own with
  | true =>
    have q : Kp A C H (ext A C.length p) (C ++ [some (.lst ds)]) (upd H p (.lst vs)) := kp_cell (k := k) st h
    exact ⟨ext A C.length p, q.stp fun f h1 h2 l => low_app h2 l, st.cell h ⟨vs, upd_same, r.kp q⟩, rep_new C.length _⟩
  | false =>
    have q : Kp A C H A C (upd H p (.lst vs)) := kp_new h
    exact ⟨A, q.stp0, st.new h, .lst (st.notLive h) upd_same (r.kp q)⟩
theorem fresh_T {fl : Nat} {p : Addr} {vs : List V} (st : StOk k A C H) (r : RepL k A C H vs ds) (h : H p = none) :
    Stp k fl A C H A C (upd H p (.tup vs)) ∧ StOk k A C (upd H p (.tup vs)) ∧ Rep k A C (upd H p (.tup vs)) (.ref p) (.tup ds) := by
  have q : Kp A C H A C (upd H p (.tup vs)) := kp_new h
  exact ⟨q.stp0, st.new h, .tup (st.notLive h) upd_same (r.kp q)⟩
end
/-! ### displays -/
def szN (n : Nat) : Bool := decide (n ≤ 16777216)
theorem szN_le {n : Nat} (h : szN n = true) : n ≤ sizeLine := by
  rw [sizeLine_eq]
  exact of_decide_eq_true h
def oLst (own : Bool) : OA := fun xs C => if szN xs.length = true then some (mkL own xs C) else none
def oTup : OA := fun xs C => if szN xs.length = true then some (.tup xs, C) else none
section
variable {X : Cx} {k : Cn} {W : WX} {es : List Expr} {ma : MA} {pos : Pos}
theorem le_lst {own : Bool} {σ : L2.St} {H : Hp} {Q : VK} (h : LE k W (mAp (oLst own) ma) σ H Q) : tLst (LA k W ma) σ H Q := by
  obtain ⟨A, F, C, s, h⟩ := h
  refine ⟨A, F, C, s, (Aft.bnd (rel := RepDs k) h).mono fun dx C1 A1 H1 x p1 st1 rx h1 => ?_⟩
  have s1 := s.step p1 st1
  obtain ⟨d, C', e, q⟩ := aft_ofO h1
  unfold oLst at e
  split at e
  · rename_i hz
    refine ⟨by rw [rx.length]; exact szN_le hz, fun p hp => ?_⟩
    obtain ⟨A2, w1, w2, w3⟩ := fresh_L (own := own) s1.fl st1 rx hp
    have e1 := Option.some.inj e
    rw [e1] at w1 w2 w3
    exact q A2 _ _ w1 w2 w3
  · cases e
theorem de_lst (own : Bool) (h : PA X es (LA k W ma)) : PE X (.List es pos) (LE k W (mAp (oLst own) ma)) := (pe_lst h).cq fun _ _ _ h => le_lst h
theorem le_tup {σ : L2.St} {H : Hp} {Q : VK} (h : LE k W (mAp oTup ma) σ H Q) : tTup (LA k W ma) σ H Q := by
  obtain ⟨A, F, C, s, h⟩ := h
  refine ⟨A, F, C, s, (Aft.bnd (rel := RepDs k) h).mono fun dx C1 A1 H1 x p1 st1 rx h1 => ?_⟩
  obtain ⟨d, C', e, q⟩ := aft_ofO h1
  unfold oTup at e
  split at e
  · rename_i hz
    cases e
    refine ⟨by rw [rx.length]; exact szN_le hz, fun p hp => ?_⟩
    obtain ⟨w1, w2, w3⟩ := fresh_T st1 rx hp
    exact q A1 _ _ w1 w2 w3
  · cases e
theorem de_tup {x1} (h : PA X es (LA k W ma)) : PE X (.Tuple es x1 pos) (LE k W (mAp oTup ma)) := (pe_tup h).cq fun _ _ _ h => le_tup h
/-- {} whose keys will be tuples -/
def mDNew (own : Bool) : ME := fun _ C => .ok (mkD own [] [] C).1 (mkD own [] [] C).2
end
/-! ### subscripts -/
def oIx : O2 := fun x y C => match y with
  | .int i => (vS x C).bind fun xs => (atI xs i).map fun d => (d, C)
  | _ => none
theorem atI_rep {k : Cn} {A : Nat → Addr} {C : Store} {H : Hp} {vs : List V} {ds : List D} {i : Int} {d : D} (r : RepL k A C H vs ds) (h : atI ds i = some d) : ∃ v, atI vs i = some v ∧ Rep k A C H v d := by
  unfold atI at h ⊢
  rw [r.length]
  cases e : ixN ds.length i with
  | none => rw [e] at h; cases h
  | some j =>
    rw [e] at h
    exact r.get h
theorem d_ix {k : Cn} : OpD k (rIx k.K) oIx := by
  intro fl A C H x y dx dy d C' Q hf hl st rx ry e q
  cases ry with
  | int i =>
    simp only [oIx] at e
    cases ev : vS dx C with
    | none => rw [ev] at e; cases e
    | some xs =>
      rw [ev] at e
      simp only [Option.bind_some, Option.map_eq_some_iff] at e
      obtain ⟨d', e1, e2⟩ := e
      cases e2
      obtain ⟨a, vs, rfl, hs, r⟩ := vS_at st rx ev
      obtain ⟨v, hv, rv⟩ := atI_rep r e1
      rcases hs with hs | hs
      · exact .inl ⟨a, vs, i, v, rfl, rfl, hs, hv, q A H v Stp.refl st rv⟩
      · exact .inr (.inl ⟨a, vs, i, v, rfl, rfl, hs, hv, q A H v Stp.refl st rv⟩)
  | _ => cases e
/-! ### dicts with tuple keys -/
def keyL : List D → Option (List Key)
  | [] => some []
  | .int i :: r => (keyL r).map fun l => .inl i :: l
  | .str s :: r => (keyL r).map fun l => .inr s :: l
  | _ :: _ => none
def lookT : List (List Key) → List D → List Key → Option D
  | k :: ks, d :: ds, key => if k = key then some d else lookT ks ds key
  | _, _, _ => none
def oDGet (x y z : D) (C : Store) : Option (D × Store) := match y with
  | .tup ds => (vD x C).bind fun p => (keyL ds).map fun key => ((lookT p.1 p.2 key).getD z, C)
  | _ => none
def mDGet (a b c : ME) : ME := fun F C => bnd (a F C) fun x C1 => if (vD x C1).isSome = true then bnd (b F C1) fun y C2 => bnd (c F C2) fun z C3 => ofO (oDGet x y z C3) else .stuck
end CT
set_option maxHeartbeats 4000000
/-! DL4: statements, defs over data. -/
namespace CT
open PySem L2
inductive RS where
  | nx (sl : List (Option D)) (C : Store)
  | rt (d : D) (C : Store)
  | bk (sl : List (Option D)) (C : Store)
  | ct (sl : List (Option D)) (C : Store)
  | xc (e : Exc) (sl : List (Option D)) (C : Store)
  | stuck
abbrev MS := Fr → Store → RS
def AftS (k : Cn) (W : WX) (fl : Nat) (A : Nat → Addr) (C : Store) (H : Hp) (m : RS) (E : Ends) : Prop := match m with
  | .nx sl C' => ∀ A' σ' H', Stp k fl A C H A' C' H' → SR k A' ⟨fl, sl⟩ C' σ' H' → E.nx σ' H'
  | .bk sl C' => ∀ A' σ' H', Stp k fl A C H A' C' H' → SR k A' ⟨fl, sl⟩ C' σ' H' → E.bk σ' H'
  | .ct sl C' => ∀ A' σ' H', Stp k fl A C H A' C' H' → SR k A' ⟨fl, sl⟩ C' σ' H' → E.ct σ' H'
  | .rt d C' => ∀ A' H' v, Stp k fl A C H A' C' H' → StOk k A' C' H' → Rep k A' C' H' v d → E.rt v H'
  | .xc e sl C' => ∀ A' σ' H' dd vs, Stp k fl A C H A' C' H' → SR k A' ⟨fl, sl⟩ C' σ' H' → H' dd = some (.xd ((k.fn e.c).zip vs)) → vs.length = (k.fn e.c).length → RepL k A' C' H' vs e.fs → W (.ref (k.cl e.c)) (some dd) σ' H'
  | .stuck => False
def LS (k : Cn) (W : WX) (m : MS) : TS := fun E σ H => ∃ A F C, SR k A F C σ H ∧ AftS k W F.fl A C H (m F C) E
section
variable {k : Cn} {W : WX} {fl : Nat} {A A1 : Nat → Addr} {C C1 : Store} {H H1 : Hp} {m : RS} {E E' : Ends}
theorem AftS.shift (s : Stp k fl A C H A1 C1 H1) (h : AftS k W fl A C H m E) : AftS k W fl A1 C1 H1 m E := by
  cases m with
  | nx sl C' => exact fun A' σ' H' p r => h A' σ' H' (s.trans p) r
  | bk sl C' => exact fun A' σ' H' p r => h A' σ' H' (s.trans p) r
  | ct sl C' => exact fun A' σ' H' p r => h A' σ' H' (s.trans p) r
  | rt d C' => exact fun A' H' v p st r => h A' H' v (s.trans p) st r
  | xc e sl C' => exact fun A' σ' H' dd vs p r x l t => h A' σ' H' dd vs (s.trans p) r x l t
  | stuck => exact h
end
/-! ### simple statements -/
def bndS {α : Type} (sl : List (Option D)) (m : R α) (f : α → Store → RS) : RS := match m with
  | .ok a C => f a C
  | .exc e C => .xc e sl C
  | .stuck => .stuck
@[simp] theorem bndS_ok {α : Type} (sl : List (Option D)) (a : α) (C : Store) (f : α → Store → RS) : bndS sl (.ok a C) f = f a C := rfl
@[simp] theorem bndS_exc {α : Type} (sl : List (Option D)) (e : Exc) (C : Store) (f : α → Store → RS) : bndS sl (.exc e C) f = .xc e sl C := rfl
@[simp] theorem bndS_stuck {α : Type} (sl : List (Option D)) (f : α → Store → RS) : bndS (α := α) sl .stuck f = .stuck := rfl
theorem AftS.bnd {k : Cn} {W : WX} {F : Fr} {A : Nat → Addr} {C : Store} {σ : L2.St} {H : Hp} {E : Ends} {α β : Type} {rel : (Nat → Addr) → Store → Hp → β → α → Prop} {m : R α} {f : α → Store → RS} (s : SR k A F C σ H)
    (h : AftS k W F.fl A C H (bndS F.sl m f) E) : Aft k F.fl A C H rel m (fun d C1 A1 H1 v => AftS k W F.fl A1 C1 H1 (f d C1) E) (fun c d H' => W c d σ H') := by
  cases m with
  | ok d C' => exact fun A' H' v p st r => AftS.shift p h
  | exc e C' => exact fun A' H' dd vs p st x l r => h A' σ H' dd vs p (s.step p st) x l r
  | stuck => exact h
def sNext : MS := fun F C => .nx F.sl C
def sSeq (a b : MS) : MS := fun F C => match a F C with
  | .nx sl C1 => b ⟨F.fl, sl⟩ C1
  | r => r
def sBrk : MS := fun F C => .bk F.sl C
def sCnt : MS := fun F C => .ct F.sl C
def sDrop (m : ME) : MS := fun F C => bndS F.sl (m F C) fun _ C1 => .nx F.sl C1
def sRet (m : ME) : MS := fun F C => bndS F.sl (m F C) fun d C1 => .rt d C1
def sRetN : MS := fun F C => .rt .non C
def sIf (t : MT) (a b : MS) : MS := fun F C => bndS F.sl (t F C) fun x C1 => if x = true then a F C1 else b F C1
def sNever : MS := fun _ _ => .stuck
section
variable {X : Cx} {k : Cn} {W : WX} {E : Ends} {σ : L2.St} {H : Hp}
theorem ls_next (h : LS k W sNext E σ H) : tNext E σ H := by
  obtain ⟨A, F, C, s, h⟩ := h
  exact h A σ H Stp.refl s
theorem ls_seq {a b : MS} (h : LS k W (sSeq a b) E σ H) : tSeq (LS k W a) (LS k W b) E σ H := by
  obtain ⟨A, F, C, s, h⟩ := h
  refine ⟨A, F, C, s, ?_⟩
  unfold sSeq at h
  cases e : a F C with
  | nx sl C' =>
    rw [e] at h
    exact fun A' σ' H' p r => ⟨A', ⟨F.fl, sl⟩, C', r, AftS.shift p h⟩
  | bk sl C' => rw [e] at h; exact h
  | ct sl C' => rw [e] at h; exact h
  | rt d C' => rw [e] at h; exact h
  | xc x sl C' => rw [e] at h; exact h
  | stuck => rw [e] at h; exact h
theorem ls_drop {m : ME} (h : LS k W (sDrop m) E σ H) : tDrop (LE k W m) E σ H := by
  obtain ⟨A, F, C, s, h⟩ := h
  exact ⟨A, F, C, s, (AftS.bnd (rel := RepD k) s h).mono fun d C1 A1 H1 v p st r h1 => h1 A1 σ H1 Stp.refl (s.step p st)⟩
theorem ls_ret {m : ME} (h : LS k W (sRet m) E σ H) : tRet (LE k W m) E σ H := by
  obtain ⟨A, F, C, s, h⟩ := h
  exact ⟨A, F, C, s, (AftS.bnd (rel := RepD k) s h).mono fun d C1 A1 H1 v p st r h1 => h1 A1 H1 v Stp.refl st r⟩
theorem ls_if {t : MT} {a b : MS} (h : LS k W (sIf t a b) E σ H) : tIfS (LT k W t) (LS k W a) (LS k W b) E σ H := by
  obtain ⟨A, F, C, s, h⟩ := h
  refine ⟨A, F, C, s, (AftS.bnd (rel := RepB) s h).mono fun dx C1 A1 H1 x p st rx h1 => ?_⟩
  have rx : x = dx := rx
  subst rx
  cases x with
  | true => exact iteT ⟨A1, F, C1, s.step p st, h1⟩
  | false => exact iteF ⟨A1, F, C1, s.step p st, h1⟩
theorem dss_nil : PSs X [] (LS k W sNext) := pss_nil.cq fun _ _ _ h => ls_next h
theorem dss_cons {st : Stmt} {rest : List Stmt} {a b : MS} (h1 : PS X st (LS k W a)) (h2 : PSs X rest (LS k W b)) : PSs X (st :: rest) (LS k W (sSeq a b)) := (pss_cons h1 h2).cq fun _ _ _ h => ls_seq h
theorem dss_one {st : Stmt} {a : MS} (h1 : PS X st (LS k W a)) : PSs X [st] (LS k W a) := pss_one h1
theorem ds_expr {e : Expr} {pos : Pos} {m : ME} (he : PE X e (LE k W m)) (hs : swapsWith e none pos.line X.env = pure false := by rfl) : PS X (.Expr e pos) (LS k W (sDrop m)) := (ps_expr he hs).cq fun _ _ _ h => ls_drop h
theorem ds_ret {e : Expr} {pos : Pos} {m : ME} (he : PE X e (LE k W m)) : PS X (.Return (some e) pos) (LS k W (sRet m)) := (ps_ret he).cq fun _ _ _ h => ls_ret h
theorem ds_if {c : Expr} {a b : List Stmt} {pos : Pos} {t : MT} {m n : MS} (hc : PT X c (LT k W t)) (ha : PSs X a (LS k W m)) (hb : PSs X b (LS k W n)) : PS X (.If c a b pos) (LS k W (sIf t m n)) := (ps_if hc ha hb).cq fun _ _ _ h => ls_if h
theorem ds_never {st : Stmt} : PS X st (LS k W sNever) := ps_never.cq fun E σ H h => by
  obtain ⟨A, F, C, s, h⟩ := h
  exact h.elim
end
/-! ### targets -/
abbrev MG := D → List (Option D) → Option (List (Option D))
def gN (i : Nat) : MG := fun d sl => some (sl.set i (some d))
def setAll : List Nat → List D → List (Option D) → Option (List (Option D))
  | [], [], sl => some sl
  | i :: is, d :: ds, sl => setAll is ds (sl.set i (some d))
  | _, _, _ => none
def gT (is : List Nat) : MG := fun d sl => (vT d).bind fun ds => setAll is ds sl
def gsN : List Nat → TGs
  | [] => gNil
  | i :: is => gCons (gName i) (gsN is)
section
variable {X : Cx} {k : Cn}
theorem setAll_len : ∀ {is : List Nat} {ds : List D} {sl sl' : List (Option D)}, setAll is ds sl = some sl' → ds.length = is.length
  | [], [], _, _, _ => rfl
  | _ :: is, _ :: ds, _, _, h => by
    have := setAll_len (is := is) (ds := ds) h
    simp [this]
  | [], _ :: _, _, _, h => by cases h
  | _ :: _, [], _, _, h => by cases h
theorem _root_.L2.PG.cq {X : Cx} {e : Expr} {t t' : TG} (h : PG X e t) (c : ∀ v σ H Q, t' v σ H Q → t v σ H Q) : PG X e t' := ⟨fun pins s σ H v u Q I r q => h.run pins s σ H v u Q I r (c v σ H Q q)⟩
end
end CT
set_option maxHeartbeats 4000000
/-! DL5: stores, loops over data. -/
namespace CT
open PySem L2
section
variable {X : Cx} {k : Cn} {W : WX} {E : Ends} {σ : L2.St} {H : Hp}
/-! ### assignments -/
def sAsg (m : ME) (g : MG) : MS := fun F C => bndS F.sl (m F C) fun d C1 => match g d F.sl with
  | some sl => .nx sl C1
  | none => .stuck
theorem ls_set {m : ME} {i : Nat} (h : LS k W (sAsg m (gN i)) E σ H) : tAsg (LE k W m) (gName i) E σ H := by
  obtain ⟨A, F, C, s, h⟩ := h
  exact ⟨A, F, C, s, (AftS.bnd (rel := RepD k) s h).mono fun d C1 A1 H1 v p st r h1 => h1 A1 _ H1 Stp.refl ((s.step p st).set r)⟩
theorem ds_set {i : Nat} {x : Str} {e : Expr} {pos pos' : Pos} {m : ME} (hN : X.N.Nodup) (hi : X.N[i]? = some x) (hx : Loc X.env.scope x) (he : PE X e (LE k W m)) (hs : swapsWith e (some (.Name x pos')) pos.line X.env = pure false := by rfl) (hf : X.fn x = true ∨ X.env.scope.names.lookup x = some .local := by first | exact .inl rfl | exact .inr rfl | assumption) :
    PS X (.Assign [.Name x pos'] e pos) (LS k W (sAsg m (gN i))) := (ps_set hN hi hx he hs hf).cq fun _ _ _ h => ls_set h
/-- a, b = x, y of plain local names -/
def sPar (is : List Nat) (m : MA) : MS := fun F C => bndS F.sl (m F C) fun ds C1 => match setAll is ds F.sl with
  | some sl => .nx sl C1
  | none => .stuck
theorem ls_par {i j : Nat} {m : MA} (h : LS k W (sPar [i, j] m) E σ H) : tPar i j (LA k W m) E σ H := by
  obtain ⟨A, F, C, s, h⟩ := h
  refine ⟨A, F, C, s, (AftS.bnd (rel := RepDs k) s h).mono fun d C1 A1 H1 vs p st r h1 => ?_⟩
  cases r with
  | nil => exact h1.elim
  | cons r1 t1 =>
    cases t1 with
    | nil => exact h1.elim
    | cons r2 t2 =>
      cases t2 with
      | nil => exact ⟨_, _, rfl, h1 A1 _ H1 Stp.refl (((s.step p st).set r1).set r2)⟩
      | cons r3 t3 => exact h1.elim
theorem ds_par {i j : Nat} {x y : Str} {a b : Expr} {px py pt pos : Pos} {kt k2 pt2} {m : MA} (hc : X.calm = true) (hN : X.N.Nodup) (hi : X.N[i]? = some x) (hj : X.N[j]? = some y) (hij : i ≠ j)
    (hx : X.env.scope.names.lookup x = some .local) (hy : X.env.scope.names.lookup y = some .local) (ha : PA X [a, b] (LA k W m))
    (hw : swappedStores [.Tuple [.Name x px, .Name y py] kt pt] (.Tuple [a, b] k2 pt2) X.env = pure (some [x, y]) := by rfl)
    (hs : swapsWithSole [.Tuple [.Name x px, .Name y py] kt pt] (.Tuple [a, b] k2 pt2) pos.line X.env = pure false := by rfl) :
    PS X (.Assign [.Tuple [.Name x px, .Name y py] kt pt] (.Tuple [a, b] k2 pt2) pos) (LS k W (sPar [i, j] m)) := (ps_par hc hN hi hj hij hx hy ha hw hs).cq fun _ _ _ h => ls_par h
/-- x += e of ints -/
def sAug (i : Nat) (o : Int → Int → Int) (m : ME) : MS := fun F C => match F.sl[i]? with
  | some (some (.int a)) => bndS F.sl (m F C) fun d C1 => match d with
    | .int b => .nx (F.sl.set i (some (.int (o a b)))) C1
    | _ => .stuck
  | _ => .stuck
theorem ls_aug {i : Nat} {o : Int → Int → Int} {m : ME} (h : LS k W (sAug i o m) E σ H) : tAug i (LE k W m) (ipI o) E σ H := by
  obtain ⟨A, F, C, s, h⟩ := h
  unfold sAug at h
  split at h
  · rename_i a e
    obtain ⟨v, h1, h2⟩ := s.sl i _ e
    cases h2
    refine ⟨_, h1, A, F, C, s, (AftS.bnd (rel := RepD k) s h).mono fun d C1 A1 H1 v p st r h3 => ?_⟩
    cases r with
    | int b => exact ⟨a, b, rfl, rfl, h3 A1 _ H1 Stp.refl ((s.step p st).set (.int _))⟩
    | _ => exact h3.elim
  · exact h.elim
theorem ds_aug {i : Nat} {x : Str} {e : Expr} {op : Operator} {o : Int → Int → Int} {pos pos' : Pos} {m : ME} (hN : X.N.Nodup) (hi : X.N[i]? = some x) (hx : Loc X.env.scope x) (he : PE X e (LE k W m)) (ho : PIp X op (ipI o)) (hf : X.fn x = true ∨ X.env.scope.names.lookup x = some .local := by first | exact .inl rfl | exact .inr rfl | assumption) :
    PS X (.AugAssign (.Name x pos') op e pos) (LS k W (sAug i o m)) := (ps_aug hN hi hx he ho hf).cq fun _ _ _ h => ls_aug h
end
/-! ### cells written -/
/-- the cell is written with c: below the floor c names no cells -/
def wr (fl : Nat) (i : Nat) (c : Cell) (C : Store) : Option Store := if i < fl ∧ cbC 0 c = false then none else some (C.set i (some c))
theorem wr_some {fl i : Nat} {c : Cell} {C C' : Store} (h : wr fl i c C = some C') : C' = C.set i (some c) ∧ (i < fl → cbC 0 c = true) := by
  unfold wr at h
  split at h
  · cases h
  · rename_i hn
    cases h
    refine ⟨rfl, fun hi => ?_⟩
    cases e : cbC 0 c with
    | true => rfl
    | false => exact absurd ⟨hi, e⟩ hn
section
variable {k : Cn} {A : Nat → Addr} {C C' : Store} {H : Hp} {fl i : Nat}
theorem write_L {c0 : Cell} {ds : List D} {vs : List V} (st : StOk k A C H) (hi : C[i]? = some (some c0)) (r : RepL k A C H vs ds) (h : wr fl i (.lst ds) C = some C') :
    Stp k fl A C H A C' (upd H (A i) (.lst vs)) ∧ StOk k A C' (upd H (A i) (.lst vs)) := by
  obtain ⟨rfl, hc⟩ := wr_some h
  have q : Kp A C H A (C.set i (some (.lst ds))) (upd H (A i) (.lst vs)) := kp_write hi
  exact ⟨q.stp fun f h1 h2 l => low_set hc h1 l, st.write hi ⟨vs, upd_same, r.kp q⟩⟩
end
/-- the list cell's place and items -/
def cL (d : D) (C : Store) : Option (Nat × List D) := match d with
  | .cell i => match C[i]? with
    | some (some (.lst xs)) => some (i, xs)
    | _ => none
  | _ => none
section
variable {k : Cn} {A : Nat → Addr} {C : Store} {H : Hp} {v : V} {d : D} {i : Nat}
theorem cL_at {ds : List D} (st : StOk k A C H) (r : Rep k A C H v d) (e : cL d C = some (i, ds)) : d = .cell i ∧ v = .ref (A i) ∧ C[i]? = some (some (.lst ds)) ∧ ∃ vs, H (A i) = some (.lst vs) ∧ RepL k A C H vs ds := by
  cases r with
  | cell hi =>
    simp only [cL] at e
    split at e
    · rename_i xs ec
      cases e
      exact ⟨rfl, rfl, ec, st.at_ i _ ec⟩
    · cases e
  | _ => cases e
end
/-- xs[i] = e -/
def sSetL (me mo mi : ME) : MS := fun F C => bndS F.sl (me F C) fun v C1 => bndS F.sl (mo F C1) fun o C2 => bndS F.sl (mi F C2) fun x C3 => match x, cL o C3 with
  | .int n, some (i, ds) => match ixN ds.length n with
    | some j => match wr F.fl i (.lst (ds.set j v)) C3 with
      | some C4 => .nx F.sl C4
      | none => .stuck
    | none => .stuck
  | _, _ => .stuck
section
variable {X : Cx} {k : Cn} {W : WX} {E : Ends} {σ : L2.St} {H : Hp}
theorem ls_setL {me mo mi : ME} (h : LS k W (sSetL me mo mi) E σ H) : tAsg (LE k W me) (gSub (LE k W mo) (LE k W mi) rSetL) E σ H := by
  obtain ⟨A, F, C, s, h⟩ := h
  refine ⟨A, F, C, s, (AftS.bnd (rel := RepD k) s h).mono fun dv C1 A1 H1 v p1 st1 rv h1 => ?_⟩
  have s1 := s.step p1 st1
  refine ⟨A1, F, C1, s1, (AftS.bnd (rel := RepD k) s1 h1).mono fun dO C2 A2 H2 o p2 st2 ro h2 => ?_⟩
  have s2 := s1.step p2 st2
  refine ⟨A2, F, C2, s2, (AftS.bnd (rel := RepD k) s2 h2).mono fun dx C3 A3 H3 x p3 st3 rx h3 => ?_⟩
  have s3 := s2.step p3 st3
  cases rx with
  | int n =>
    cases ec : cL dO C3 with
    | none => simp only [ec] at h3; exact h3.elim
    | some q =>
      obtain ⟨i, ds⟩ := q
      simp only [ec] at h3
      obtain ⟨rfl, rfl, hi, vs, hv, rvs⟩ := cL_at st3 (p3.rep _ _ ro) ec
      cases ej : ixN ds.length n with
      | none => simp only [ej] at h3; exact h3.elim
      | some j =>
        simp only [ej] at h3
        cases ew : wr F.fl i (.lst (ds.set j dv)) C3 with
        | none => simp only [ew] at h3; exact h3.elim
        | some C4 =>
          simp only [ew] at h3
          obtain ⟨q1, q2⟩ := write_L st3 hi (rvs.set (p3.rep _ _ (p2.rep _ _ rv)) j) ew
          exact ⟨A3 i, vs, n, j, rfl, rfl, hv, by rw [rvs.length]; exact ej, h3 A3 σ _ q1 (s3.step q1 q2)⟩
  | _ => exact h3.elim
theorem ds_setL {o i e : Expr} {pos pos' : Pos} {me mo mi : ME} (he : PE X e (LE k W me)) (hg : PG X (.Subscript o i pos') (gSub (LE k W mo) (LE k W mi) rSetL))
    (hs : swapsWithSole [.Subscript o i pos'] e pos.line X.env = pure false := by rfl) (hw : swappedStores [.Subscript o i pos'] e X.env = pure none := by rfl) (h1 : (assignEach [.Subscript o i pos'] X.env).map (·.2) = [assign (.Subscript o i pos') X.env] := by rfl) :
    PS X (.Assign [.Subscript o i pos'] e pos) (LS k W (sSetL me mo mi)) := (ps_asg he hg hs hw h1).cq fun _ _ _ h => ls_setL h
end
/-! ### list methods that write -/
def mAppend (mo me : ME) : ME := fun F C => bnd (mo F C) fun o C1 => if (vL o C1).isSome = true then bnd (me F C1) fun v C2 => match cL o C2 with
    | some (i, ds) => if szN (ds.length + 1) = true then match wr F.fl i (.lst (ds ++ [v])) C2 with
      | some C3 => .ok .non C3
      | none => .stuck
      else .stuck
    | none => .stuck
  else .stuck
def mExtend (mo me : ME) : ME := fun F C => bnd (mo F C) fun o C1 => if (vL o C1).isSome = true then bnd (me F C1) fun v C2 => match cL o C2, vL v C2 with
    | some (i, ds), some es => if szN (ds.length + es.length) = true then match wr F.fl i (.lst (ds ++ es)) C2 with
      | some C3 => .ok .non C3
      | none => .stuck
      else .stuck
    | _, _ => .stuck
  else .stuck
section
variable {X : Cx} {k : Cn} {W : WX} {σ : L2.St} {H : Hp} {Q : VK}
theorem tyL {A : Nat → Addr} {C : Store} {v : V} {d : D} (st : StOk k A C H) (r : Rep k A C H v d) (h : (vL d C).isSome = true) : tyV k.K "list" v H := by
  obtain ⟨xs, e⟩ := Option.isSome_iff_exists.mp h
  obtain ⟨a, vs, rfl, ha, _⟩ := vL_at st r e
  exact Or.inl ⟨rfl, vs, .inl (.inl ha)⟩
theorem le_append {mo me : ME} (h : LE k W (mAppend mo me) σ H Q) : tBM k.K "list" rAppend (LE k W mo) (tCons (LE k W me) tNil) σ H Q := by
  obtain ⟨A, F, C, s, h⟩ := h
  refine ⟨A, F, C, s, (Aft.bnd (rel := RepD k) h).mono fun dO C1 A1 H1 o p1 st1 ro h1 => ?_⟩
  have s1 := s.step p1 st1
  split at h1
  · rename_i hs
    refine ⟨tyL st1 ro hs, A1, F, C1, s1, (Aft.bnd (rel := RepD k) h1).mono fun dv C2 A2 H2 v p2 st2 rv h2 => ?_⟩
    cases ec : cL dO C2 with
    | none => simp only [ec] at h2; exact h2.elim
    | some q =>
      obtain ⟨i, ds⟩ := q
      simp only [ec] at h2
      obtain ⟨rfl, rfl, hi, vs, hv, rvs⟩ := cL_at st2 (p2.rep _ _ ro) ec
      split at h2
      · rename_i hz
        cases ew : wr F.fl i (.lst (ds ++ [dv])) C2 with
        | none => simp only [ew] at h2; exact h2.elim
        | some C3 =>
          simp only [ew] at h2
          obtain ⟨q1, q2⟩ := write_L st2 hi (rvs.append (.cons rv .nil)) ew
          exact ⟨A2 i, vs, v, rfl, rfl, hv, by have := szN_le hz; rw [rvs.length]; omega, h2 A2 _ .non q1 q2 .non⟩
      · exact h2.elim
  · exact h1.elim
theorem le_extend {mo me : ME} (h : LE k W (mExtend mo me) σ H Q) : tBM k.K "list" rExtend (LE k W mo) (tCons (LE k W me) tNil) σ H Q := by
  obtain ⟨A, F, C, s, h⟩ := h
  refine ⟨A, F, C, s, (Aft.bnd (rel := RepD k) h).mono fun dO C1 A1 H1 o p1 st1 ro h1 => ?_⟩
  have s1 := s.step p1 st1
  split at h1
  · rename_i hs
    refine ⟨tyL st1 ro hs, A1, F, C1, s1, (Aft.bnd (rel := RepD k) h1).mono fun dv C2 A2 H2 v p2 st2 rv h2 => ?_⟩
    cases ec : cL dO C2 with
    | none => simp only [ec] at h2; exact h2.elim
    | some q =>
      obtain ⟨i, ds⟩ := q
      cases el : vL dv C2 with
      | none => simp only [ec, el] at h2; exact h2.elim
      | some es =>
        simp only [ec, el] at h2
        obtain ⟨rfl, rfl, hi, vs, hv, rvs⟩ := cL_at st2 (p2.rep _ _ ro) ec
        obtain ⟨b, ws, rfl, hb, rws⟩ := vL_at st2 rv el
        split at h2
        · rename_i hz
          cases ew : wr F.fl i (.lst (ds ++ es)) C2 with
          | none => simp only [ew] at h2; exact h2.elim
          | some C3 =>
            simp only [ew] at h2
            obtain ⟨q1, q2⟩ := write_L st2 hi (rvs.append rws) ew
            exact ⟨A2 i, b, vs, ws, rfl, rfl, hv, hb, by have := szN_le hz; rw [rvs.length, rws.length]; omega, h2 A2 _ .non q1 q2 .non⟩
        · exact h2.elim
  · exact h1.elim
variable {o e e2 : Expr} {apos cpos : Pos} {mo me mi : ME}
theorem de_append (hK : X.K = k.K := by rfl) (ho : PE X o (LE k W mo)) (he : PE X e (LE k W me)) (hs : starEach [e] X.env = (false, eval e X.env) :: starEach [] X.env := by rfl) (hbase : attributeBase o "append" X.env (eval o X.env) = eval o X.env := by rfl)
    (hfew : ((backTo cpos (starEach [e] X.env)).all (fun x => !x.1) && (backToKw cpos (keywordEach [] X.env)).all (fun x => x.1.isSome) && decide ([e].length + ([] : List Keyword).length + (if ([] : List Keyword).isEmpty then 0 else 1) < 30)) = true := by rfl)
    (hline : (apos.endLine == cpos.line) = true := by rfl) (hplain : (backTo cpos (starEach [] X.env)).any (·.1) = false := by rfl) : PE X (.Call (.Attribute o "append" apos) [e] [] cpos) (LE k W (mAppend mo me)) :=
  (pe_bm PySem.F.plainAttrs_list PySem.F.slot_list_append PySem.F.type_list_append mt_append ho (pa_cons he pa_nil hs) hbase hfew hline hs hplain).cq fun _ _ _ h => by
    rw [hK]
    exact le_append h
theorem de_extend (hK : X.K = k.K := by rfl) (ho : PE X o (LE k W mo)) (he : PE X e (LE k W me)) (hs : starEach [e] X.env = (false, eval e X.env) :: starEach [] X.env := by rfl) (hbase : attributeBase o "extend" X.env (eval o X.env) = eval o X.env := by rfl)
    (hfew : ((backTo cpos (starEach [e] X.env)).all (fun x => !x.1) && (backToKw cpos (keywordEach [] X.env)).all (fun x => x.1.isSome) && decide ([e].length + ([] : List Keyword).length + (if ([] : List Keyword).isEmpty then 0 else 1) < 30)) = true := by rfl)
    (hline : (apos.endLine == cpos.line) = true := by rfl) (hplain : (backTo cpos (starEach [] X.env)).any (·.1) = false := by rfl) : PE X (.Call (.Attribute o "extend" apos) [e] [] cpos) (LE k W (mExtend mo me)) :=
  (pe_bm PySem.F.plainAttrs_list PySem.F.slot_list_extend PySem.F.type_list_extend mt_extend ho (pa_cons he pa_nil hs) hbase hfew hline hs hplain).cq fun _ _ _ h => by
    rw [hK]
    exact le_extend h
end
end CT
set_option maxHeartbeats 4000000
/-! DL6: targets, loops, comprehensions over data. -/
namespace CT
open PySem L2
/-! ### targets of names -/
inductive Tgt where
  | nm (i : Nat) | tp (is : List Nat)
def Tgt.M : Tgt → MG
  | .nm i => gN i
  | .tp is => gT is
def Tgt.T (K : PySem.W.Frag) : Tgt → TG
  | .nm i => gName i
  | .tp is => gTup K is.length (gsN is)
def Tgt.slots : Tgt → List Nat
  | .nm i => [i]
  | .tp is => is
theorem wipe_get {σ : L2.St} {j : Nat} : ∀ {vs : List Nat}, (wipe σ vs)[j]? = if j ∈ vs then (if j < σ.length then some none else none) else σ[j]?
  | [] => by simp [wipe]
  | v :: vs => by
    unfold wipe
    have ih := wipe_get (σ := σ) (j := j) (vs := vs)
    by_cases e : v = j
    · subst e
      by_cases hl : v < σ.length
      · rw [List.getElem?_set_self (by rw [wipe_length]; exact hl), if_pos (by simp), if_pos hl]
      · rw [List.getElem?_eq_none (by rw [List.length_set, wipe_length]; omega), if_pos (by simp), if_neg hl]
    · rw [List.getElem?_set_ne e, ih]
      by_cases hj : j ∈ vs
      · rw [if_pos hj, if_pos (List.mem_cons_of_mem _ hj)]
      · rw [if_neg hj, if_neg (by simp; exact ⟨fun z => e z.symm, hj⟩)]
theorem wipe_set {σ : L2.St} {i : Nat} {x : Option V} {vs : List Nat} (h : i ∈ vs) : wipe (σ.set i x) vs = wipe σ vs := by
  apply List.ext_getElem?
  intro j
  rw [wipe_get, wipe_get, List.length_set]
  by_cases hj : j ∈ vs
  · rw [if_pos hj, if_pos hj]
  · rw [if_neg hj, if_neg hj, List.getElem?_set_ne (fun (e : i = j) => hj (by rw [← e]; exact h))]
theorem wipe_wipe {σ : L2.St} {vs : List Nat} : wipe (wipe σ vs) vs = wipe σ vs := by
  apply List.ext_getElem?
  intro j
  rw [wipe_get, wipe_length]
  by_cases hj : j ∈ vs
  · rw [if_pos hj, wipe_get, if_pos hj]
  · rw [if_neg hj]
def wipeD (sl : List (Option D)) : List Nat → List (Option D)
  | [] => sl
  | v :: vs => (wipeD sl vs).set v none
section
variable {k : Cn} {A : Nat → Addr} {F : Fr} {C : Store} {σ : L2.St} {H : Hp} {fl : Nat} {sl : List (Option D)}
theorem SR.wipe (s : SR k A ⟨fl, sl⟩ C σ H) : ∀ vs : List Nat, SR k A ⟨fl, wipeD sl vs⟩ C (L2.wipe σ vs) H
  | [] => s
  | v :: vs => (SR.wipe s vs).unset
theorem gsN_of2 {Q : L2.St → Hp → Prop} {vs0 : List Nat} : ∀ {is : List Nat} {vs : List V} {ds : List D} {sl sl' : List (Option D)} {σ : L2.St}, SR k A ⟨fl, sl⟩ C σ H → RepL k A C H vs ds → setAll is ds sl = some sl' →
    (∀ σ', SR k A ⟨fl, sl'⟩ C σ' H → ((∀ i ∈ is, i ∈ vs0) → L2.wipe σ' vs0 = L2.wipe σ vs0) → Q σ' H) → gsN is vs σ H Q
  | [], _, _, _, _, _, s, .nil, e, q => by
    cases e
    exact ⟨rfl, q _ s fun _ => rfl⟩
  | i :: is, _, _, _, _, _, s, .cons r t, e, q => by
    refine ⟨_, _, rfl, gsN_of2 (vs0 := vs0) (is := is) (s.set (i := i) r) t e fun σ' s' w => q σ' s' fun hi => ?_⟩
    rw [w fun j hj => hi j (List.mem_cons_of_mem _ hj)]
    exact wipe_set (hi i (List.mem_cons_self ..))
  | [], _, _, _, _, _, s, .cons r t, e, q => by cases e
  | i :: is, _, _, _, _, _, s, .nil, e, q => by cases e
theorem Tgt.of {t : Tgt} {v : V} {d : D} {sl' : List (Option D)} {Q : L2.St → Hp → Prop} {vs0 : List Nat} (s : SR k A ⟨fl, sl⟩ C σ H) (r : Rep k A C H v d) (e : t.M d sl = some sl')
    (q : ∀ σ', SR k A ⟨fl, sl'⟩ C σ' H → ((∀ i ∈ t.slots, i ∈ vs0) → L2.wipe σ' vs0 = L2.wipe σ vs0) → Q σ' H) : t.T k.K v σ H Q := by
  cases t with
  | nm i =>
    cases e
    exact q _ (s.set r) fun hi => wipe_set (hi i (by simp [Tgt.slots]))
  | tp is =>
    simp only [Tgt.M, gT] at e
    cases ev : vT d with
    | none => rw [ev] at e; cases e
    | some ds =>
      rw [ev] at e
      obtain ⟨a, vs, rfl, hs, rl⟩ := vT_at r ev
      exact ⟨a, vs, rfl, hs, by rw [rl.length, setAll_len e], gsN_of2 (vs0 := vs0) s rl e q⟩
end
section
variable {X : Cx} {k : Cn} {W : WX} {E : Ends} {σ : L2.St} {H : Hp}
theorem tg_nm {i : Nat} {x : Str} {pos : Pos} (hN : X.N.Nodup) (hi : X.N[i]? = some x) (hx : Loc X.env.scope x) (hf : X.fn x = true ∨ X.env.scope.names.lookup x = some .local := by first | exact .inl rfl | exact .inr rfl | assumption) : PG X (.Name x pos) (Tgt.T k.K (.nm i)) := pg_name hN hi hx hf
theorem tg_tp {es : List Expr} {kk : Nat} {pos : Pos} (is : List Nat) (hK : X.K = k.K) (hc : X.calm = true) (h : PGs X es (gsN is)) (hn : (assignEach es X.env).length = is.length := by rfl) (hst : (assignEach es X.env).findIdx? (·.1) = none := by rfl) :
    PG X (.Tuple es kk pos) (Tgt.T k.K (.tp is)) := by
  have h' := pg_tup (k := kk) (pos := pos) hc h hn hst
  rw [hK] at h'
  exact h'
theorem ls_asg2 {m : ME} {t : Tgt} (h : LS k W (sAsg m t.M) E σ H) : tAsg (LE k W m) (t.T k.K) E σ H := by
  obtain ⟨A, F, C, s, h⟩ := h
  refine ⟨A, F, C, s, (AftS.bnd (rel := RepD k) s h).mono fun d C1 A1 H1 v p st r h1 => ?_⟩
  cases e : t.M d F.sl with
  | none => rw [e] at h1; exact h1.elim
  | some sl =>
    rw [e] at h1
    exact Tgt.of (vs0 := []) (s.step p st) r e fun σ' s' _ => h1 A1 σ' H1 Stp.refl s'
theorem ds_asgT {tg e : Expr} {pos : Pos} {m : ME} {t : Tgt} (he : PE X e (LE k W m)) (hg : PG X tg (t.T k.K)) (hs : swapsWithSole [tg] e pos.line X.env = pure false := by rfl) (hw : swappedStores [tg] e X.env = pure none := by rfl)
    (h1 : (assignEach [tg] X.env).map (·.2) = [assign tg X.env] := by rfl) : PS X (.Assign [tg] e pos) (LS k W (sAsg m t.M)) := (ps_asg he hg hs hw h1).cq fun _ _ _ h => ls_asg2 h
end
/-! ### what is walked -/
structure ItD where
  n : Nat
  item : Nat → Store → Option D
  fin : Store → Bool
def ItOk (k : Cn) (fl : Nat) (J : It) (it : ItD) (A : Nat → Addr) (C : Store) (H : Hp) : Prop := ∀ A' C' H', Stp k fl A C H A' C' H' → StOk k A' C' H' →
  (∀ j d, j < it.n → it.item j C' = some d → J.go j H' ∧ ∀ x H'', J.yld j H' x H'' → ∃ A'', Stp k fl A' C' H' A'' C' H'' ∧ StOk k A'' C' H'' ∧ Rep k A'' C' H'' x d) ∧ (it.fin C' = true → J.stop it.n H')
abbrev MI := Fr → Store → R ItD
def LI (k : Cn) (W : WX) (m : MI) : TI := fun σ H Rr => ∃ A F C, SR k A F C σ H ∧ Aft k F.fl A C H (fun A C H (J : It) (it : ItD) => ItOk k F.fl J it A C H) (m F C) (fun _ _ _ H' J => Rr J H') (fun c d H' => W c d σ H')
/-! ### for -/
def loopN (it : ItD) (g : MG) (body : MS) (fl : Nat) : Nat → Nat → List (Option D) → Store → RS
  | 0, _, sl, C => if it.fin C = true then .nx sl C else .stuck
  | r + 1, j, sl, C => match it.item j C with
    | none => .stuck
    | some d => match g d sl with
      | none => .stuck
      | some sl1 => match body ⟨fl, sl1⟩ C with
        | .nx sl2 C2 => loopN it g body fl r (j + 1) sl2 C2
        | .ct sl2 C2 => loopN it g body fl r (j + 1) sl2 C2
        | .bk sl2 C2 => .nx sl2 C2
        | .rt d C2 => .rt d C2
        | .xc e sl2 C2 => .xc e sl2 C2
        | .stuck => .stuck
def sFor (mi : MI) (g : MG) (body : MS) : MS := fun F C => bndS F.sl (mi F C) fun it C1 => loopN it g body F.fl it.n 0 F.sl C1
section
variable {X : Cx} {k : Cn} {W : WX} {E : Ends} {σ : L2.St} {H : Hp}
theorem ls_for {mi : MI} {t : Tgt} {body : MS} (h : LS k W (sFor mi t.M body) E σ H) : tFor (LI k W mi) (t.T k.K) (LS k W body) E σ H := by
  obtain ⟨A, F, C, s, h⟩ := h
  refine ⟨A, F, C, s, (AftS.bnd (rel := fun A C H (J : It) (it : ItD) => ItOk k F.fl J it A C H) s h).mono fun it C1 A1 H1 J p1 st1 ok h1 => ?_⟩
  refine ⟨fun i m σ' H' => ∃ A' C' sl, m = it.n - i ∧ i ≤ it.n ∧ Stp k F.fl A1 C1 H1 A' C' H' ∧ SR k A' ⟨F.fl, sl⟩ C' σ' H' ∧ AftS k W F.fl A' C' H' (loopN it t.M body F.fl (it.n - i) i sl C') E,
    ⟨it.n, A1, C1, F.sl, rfl, Nat.zero_le _, Stp.refl, s.step p1 st1, h1⟩, ?_⟩
  rintro i m σ' H' ⟨A', C', sl, rfl, hi, p, s', h'⟩
  obtain ⟨o1, o2⟩ := ok A' C' H' p s'.st
  cases er : it.n - i with
  | zero =>
    rw [er] at h'
    unfold loopN at h'
    have e : i = it.n := by omega
    split at h'
    · rename_i hf
      subst e
      exact .inl ⟨o2 hf, h' A' σ' H' Stp.refl s'⟩
    · exact h'.elim
  | succ r =>
    rw [er] at h'
    unfold loopN at h'
    have hlt : i < it.n := by omega
    cases ei : it.item i C' with
    | none => simp only [ei] at h'; exact h'.elim
    | some d =>
      simp only [ei] at h'
      obtain ⟨g1, g2⟩ := o1 i d hlt ei
      cases eg : t.M d sl with
      | none => simp only [eg] at h'; exact h'.elim
      | some sl1 =>
        simp only [eg] at h'
        refine .inr ⟨g1, fun σ2 H2 => ∃ A2 C2 sl2, i + 1 ≤ it.n ∧ Stp k F.fl A1 C1 H1 A2 C2 H2 ∧ SR k A2 ⟨F.fl, sl2⟩ C2 σ2 H2 ∧ AftS k W F.fl A2 C2 H2 (loopN it t.M body F.fl (it.n - (i + 1)) (i + 1) sl2 C2) E,
          fun σ2 H2 ⟨A2, C2, sl2, a, b, c, d⟩ => ⟨it.n - (i + 1), by omega, A2, C2, sl2, rfl, a, b, c, d⟩, fun x H'' y => ?_⟩
        obtain ⟨A'', p2, st2, rx⟩ := g2 x H'' y
        have s2 := s'.step p2 st2
        refine Tgt.of (vs0 := []) s2 rx eg fun σ2 s3 _ => ⟨A'', ⟨F.fl, sl1⟩, C', s3, ?_⟩
        have hr : it.n - (i + 1) = r := by omega
        cases eb : body ⟨F.fl, sl1⟩ C' with
        | nx sl2 C2 =>
          simp only [eb] at h'
          intro A3 σ3 H3 p3 s4
          have pp := p2.trans p3
          exact ⟨A3, C2, sl2, by omega, p.trans pp, s4, by rw [hr]; exact h'.shift pp⟩
        | ct sl2 C2 =>
          simp only [eb] at h'
          intro A3 σ3 H3 p3 s4
          have pp := p2.trans p3
          exact ⟨A3, C2, sl2, by omega, p.trans pp, s4, by rw [hr]; exact h'.shift pp⟩
        | bk sl2 C2 =>
          simp only [eb] at h'
          exact fun A3 σ3 H3 p3 s4 => h' A3 σ3 H3 (p2.trans p3) s4
        | rt d C2 =>
          simp only [eb] at h'
          exact fun A3 H3 v p3 st r => h' A3 H3 v (p2.trans p3) st r
        | xc e sl2 C2 =>
          simp only [eb] at h'
          exact fun A3 σ3 H3 dd vs p3 s4 x l r => h' A3 σ3 H3 dd vs (p2.trans p3) s4 x l r
        | stuck =>
          simp only [eb] at h'
          exact h'.elim
theorem _root_.L2.PI.cq {X : Cx} {tg e : Expr} {t t' : TI} (h : PI X tg e t) (c : ∀ σ H R, t' σ H R → t σ H R) : PI X tg e t' := ⟨fun pins s σ H R I q => h.run pins s σ H R I (c σ H R q)⟩
end
/-! ### list comprehensions -/
def bn0 {α β : Type} (m : R α) (f : α → Store → R β) : R β := match m with
  | .ok a C => f a C
  | _ => .stuck
@[simp] theorem bn0_ok {α β : Type} (a : α) (C : Store) (f : α → Store → R β) : bn0 (.ok a C) f = f a C := rfl
def lcN (it : ItD) (g : MG) (tt : MT) (te : ME) (n : Nat) (sl : List (Option D)) : Nat → Nat → Store → R Unit
  | 0, _, C => if it.fin C = true then .ok () C else .stuck
  | r + 1, j, C => match it.item j C with
    | none => .stuck
    | some d => match g d sl with
      | none => .stuck
      | some sl1 => bn0 (tt ⟨n, sl1⟩ C) fun b C1 => if b = true then bn0 (te ⟨n, sl1⟩ C1) fun y C2 => match C2[n]? with
          | some (some (.lst acc)) => if szN (acc.length + 1) = true then lcN it g tt te n sl r (j + 1) (C2.set n (some (.lst (acc ++ [y])))) else .stuck
          | _ => .stuck
        else lcN it g tt te n sl r (j + 1) C1
/-- behind the loop: an own list; or plain data, the cell forgotten -/
def lcEnd (own : Bool) (n : Nat) (C : Store) : R D := if own = true then .ok (.cell n) C else match C[n]? with
  | some (some (.lst acc)) => if cbL n acc = true then .ok (.lst acc) (C.take n) else .stuck
  | _ => .stuck
def mLc (own : Bool) (mi : MI) (g : MG) (tt : MT) (te : ME) (vs : List Nat) : ME := fun F C => bnd (mi F C) fun it C1 => bn0 (lcN it g tt te C1.length (wipeD F.sl vs) it.n 0 (C1 ++ [some (.lst [])])) fun _ C2 => lcEnd own C1.length C2
abbrev WF : WX := fun _ _ _ _ => False
section
variable {X : Cx} {k : Cn} {W : WX} {σ : L2.St} {H : Hp} {Q : VK}
/-- the list cell becomes plain data -/
theorem fz_end {fl n : Nat} {A A' : Nat → Addr} {C C' : Store} {H H' : Hp} {p : Addr} {acc : List D} (hn : n = C.length) (st0 : StOk k A C H) (st : StOk k A' C' H') (s : Stp k fl A C H A' C' H') (hf : fl ≤ n) (hl : n ≤ C'.length) (low : LowC n C') (ha : A' n = p) (hc : C'[n]? = some (some (.lst acc))) (hcb : cbL n acc = true) :
    Stp k fl A C H A' (C'.take n) H' ∧ StOk k A' (C'.take n) H' ∧ Rep k A' (C'.take n) H' (.ref p) (.lst acc) := by
  obtain ⟨vs, hv, rv⟩ := st.at_ n _ hc
  have tl : (C'.take n).length = n := by rw [List.length_take]; omega
  refine ⟨⟨fun v d r => (s.rep v d r).cut hl (by rw [hn]; exact r.cb), by rw [tl, hn]; exact Nat.le_refl _, fun f h1 h2 l => low_take (s.low f h1 h2 l)⟩, st.take hl low, ?_⟩
  rw [← ha]
  refine .lst (fun l => ?_) hv (rv.cut hl hcb)
  obtain ⟨i, c, e, z⟩ := l
  by_cases hi : i < n
  · rw [List.getElem?_take_of_lt hi] at e
    exact absurd (st.inj i n _ _ e hc z) (Nat.ne_of_lt hi)
  · rw [List.getElem?_eq_none (by rw [tl]; omega)] at e
    cases e
/-- the new list: at D, the cell n -/
theorem cell_at {A A' : Nat → Addr} {C C' : Store} {H H' : Hp} {fl n : Nat} {p : Addr} (s : Stp k fl A C H A' C' H') (h : A n = p) (hn : n < C.length) : A' n = p ∧ n < C'.length := by
  have r : Rep k A C H (.ref (A n)) (.cell n) := .cell hn
  have r' := s.rep _ _ r
  rw [h] at r'
  have inv : ∀ {v : V} {d : D}, Rep k A' C' H' v d → v = .ref p → d = .cell n → A' n = p ∧ n < C'.length := by
    intro v d r hv hd
    cases r with
    | cell hi => cases hd; cases hv; exact ⟨rfl, hi⟩
    | _ => cases hd
  exact inv r' rfl rfl
theorem push_L {A : Nat → Addr} {C : Store} {H : Hp} {fl n : Nat} {p : Addr} {acc : List D} {y : D} {v : V} {ws : List V} (hf : fl ≤ n) (st : StOk k A C H) (ha : A n = p) (hc : C[n]? = some (some (.lst acc))) (hw : H p = some (.lst ws)) (r : Rep k A C H v y) :
    Stp k fl A C H A (C.set n (some (.lst (acc ++ [y])))) (upd H p (.lst (ws ++ [v]))) ∧ StOk k A (C.set n (some (.lst (acc ++ [y])))) (upd H p (.lst (ws ++ [v]))) := by
  obtain ⟨vs, hv, rv⟩ := st.at_ n _ hc
  rw [ha, hw] at hv
  cases hv
  have q : Kp A C H A (C.set n (some (.lst (acc ++ [y])))) (upd H (A n) (.lst (ws ++ [v]))) := kp_write hc
  rw [← ha]
  exact ⟨q.stp fun f h1 h2 l => low_set (fl := fl) (fun hi => absurd hi (Nat.not_lt.mpr hf)) h1 l, st.write hc ⟨_, upd_same, (rv.append (.cons r .nil)).kp q⟩⟩
theorem bn0_inv {fl : Nat} {A : Nat → Addr} {C : Store} {H : Hp} {m : R Unit} {f : Unit → Store → R D} {Q : D → Store → (Nat → Addr) → Hp → V → Prop} {W' : XK} (h : Aft k fl A C H (RepD k) (CT.bn0 m f) Q W') : ∃ C3, m = .ok () C3 ∧ Aft k fl A C H (RepD k) (f () C3) Q W' := by
  cases m with
  | ok d C' => exact ⟨C', rfl, h⟩
  | exc e C' => exact h.elim
  | stuck => exact h.elim
theorem Stp.less {fl n : Nat} {A A' : Nat → Addr} {C C' : Store} {H H' : Hp} (p : Stp k n A C H A' C' H') (h : fl ≤ n) : Stp k fl A C H A' C' H' := ⟨p.rep, p.len, fun f hf => p.low f (Nat.le_trans hf h)⟩
theorem SR.re {fl n : Nat} {A A' : Nat → Addr} {F : Fr} {C C' : Store} {H H' : Hp} (s : SR k A F C σ H) (p : Stp k fl A C H A' C' H') (st : StOk k A' C' H') (low : LowC n C') (hn : n ≤ C'.length) : SR k A' ⟨n, F.sl⟩ C' σ H' :=
  ⟨st, low, hn, s.len, fun i d e => let ⟨v, h1, h2⟩ := s.sl i d e; ⟨v, h1, p.rep v d h2⟩⟩
theorem le_lcEnd {own : Bool} {fl : Nat} {A A1 A' : Nat → Addr} {C C1 C' : Store} {H H1 H' : Hp} {Dl : Addr} {W' : XK} (hf : fl ≤ C1.length) (p : Stp k fl A C H A1 C1 H1) (st1 : StOk k A1 C1 H1) (p' : Stp k fl A1 C1 H1 A' C' H') (low : LowC C1.length C') (st' : StOk k A' C' H') (ha : A' C1.length = Dl) (hl : C1.length < C'.length)
    (h : Aft k fl A C H (RepD k) (lcEnd own C1.length C') (fun _ _ _ H' v => Q v H') W') : Q (.ref Dl) H' := by
  unfold lcEnd at h
  cases own with
  | true =>
    have r : Rep k A' C' H' (.ref (A' C1.length)) (.cell C1.length) := .cell hl
    rw [ha] at r
    exact h A' H' _ (p.trans p') st' r
  | false =>
    split at h
    · rename_i z; cases z
    · split at h
      · rename_i acc hc
        split at h
        · rename_i hcb
          obtain ⟨q1, q2, q3⟩ := fz_end (k := k) (fl := fl) rfl st1 st' p' hf (Nat.le_of_lt hl) low ha hc hcb
          exact h A' H' _ (p.trans q1) q2 q3
        · exact h.elim
      · exact h.elim
theorem le_lc {own : Bool} {mi : MI} {t : Tgt} {tt : MT} {te : ME} {vs : List Nat} (hv : ∀ i ∈ t.slots, i ∈ vs) (h : LE k W (mLc own mi t.M tt te vs) σ H Q) : tLc (LI k W mi) (t.T k.K) (LT k WF tt) (LE k WF te) vs σ H Q := by
  obtain ⟨A, F, C, s, h⟩ := h
  refine ⟨A, F, C, s, (Aft.bnd (rel := fun A C H (J : It) (it : ItD) => ItOk k F.fl J it A C H) h).mono fun it C1 A1 H1 J p1 st1 ok h1 => ?_⟩
  have s1 := s.step p1 st1
  intro Dl hD
  have q0 : Kp A1 C1 H1 (ext A1 C1.length Dl) (C1 ++ [some (.lst [])]) (upd H1 Dl (.lst [])) := kp_cell (k := k) st1 hD
  have p2 : Stp k C1.length A1 C1 H1 (ext A1 C1.length Dl) (C1 ++ [some (.lst [])]) (upd H1 Dl (.lst [])) := q0.stp fun f h1 h2 l => low_app h2 l
  have p2' : Stp k F.fl A1 C1 H1 (ext A1 C1.length Dl) (C1 ++ [some (.lst [])]) (upd H1 Dl (.lst [])) := ⟨p2.rep, p2.len, fun f hf => p2.low f (Nat.le_trans hf s1.fl)⟩
  have st2 : StOk k (ext A1 C1.length Dl) (C1 ++ [some (.lst [])]) (upd H1 Dl (.lst [])) := st1.cell hD ⟨[], upd_same, .nil⟩
  have n1 : C1.length < (C1 ++ [some (Cell.lst [])]).length := by simp
  have low1 : LowC C1.length (C1 ++ [some (Cell.lst [])]) := p2.low _ (Nat.le_refl _) (Nat.le_refl _) st1.low
  obtain ⟨C3, e3, h3⟩ := bn0_inv h1
  refine ⟨fun i m H' => ∃ A' C', m = it.n - i ∧ i ≤ it.n ∧ Stp k C1.length (ext A1 C1.length Dl) (C1 ++ [some (.lst [])]) (upd H1 Dl (.lst [])) A' C' H' ∧ StOk k A' C' H' ∧ lcN it t.M tt te C1.length (wipeD F.sl vs) (it.n - i) i C' = .ok () C3,
    ⟨it.n, _, _, rfl, Nat.zero_le _, Stp.refl, st2, e3⟩, ?_⟩
  rintro i m H' ⟨A', C', rfl, hi, p, st', h'⟩
  obtain ⟨ha', hl'⟩ := cell_at p (ext_at A1 C1.length Dl) n1
  have low' : LowC C1.length C' := p.low _ (Nat.le_refl _) (Nat.le_of_lt n1) low1
  have pF : Stp k F.fl (ext A1 C1.length Dl) (C1 ++ [some (.lst [])]) (upd H1 Dl (.lst [])) A' C' H' := p.less s1.fl
  obtain ⟨o1, o2⟩ := ok A' C' H' (p2'.trans pF) st'
  cases er : it.n - i with
  | zero =>
    rw [er] at h'
    unfold lcN at h'
    have e : i = it.n := by omega
    split at h'
    · rename_i hf
      cases h'
      subst e
      exact .inl ⟨o2 hf, le_lcEnd s1.fl Stp.refl st1 (p2'.trans pF) low' st' ha' hl' h3⟩
    · cases h'
  | succ r =>
    rw [er] at h'
    unfold lcN at h'
    have hlt : i < it.n := by omega
    have hr : it.n - (i + 1) = r := by omega
    cases ei : it.item i C' with
    | none => simp only [ei] at h'; cases h'
    | some d =>
      simp only [ei] at h'
      obtain ⟨g1, g2⟩ := o1 i d hlt ei
      cases eg : t.M d (wipeD F.sl vs) with
      | none => simp only [eg] at h'; cases h'
      | some sl1 =>
        simp only [eg] at h'
        refine .inr ⟨g1, fun H4 => ∃ A4 C4, Stp k C1.length (ext A1 C1.length Dl) (C1 ++ [some (.lst [])]) (upd H1 Dl (.lst [])) A4 C4 H4 ∧ StOk k A4 C4 H4 ∧ lcN it t.M tt te C1.length (wipeD F.sl vs) (it.n - (i + 1)) (i + 1) C4 = .ok () C3,
          fun H4 ⟨A4, C4, a, b, c⟩ => ⟨it.n - (i + 1), by omega, A4, C4, rfl, by omega, a, b, c⟩, fun x H'' y => ?_⟩
        obtain ⟨A'', py, sty, rx⟩ := g2 x H'' y
        have py' : Stp k C1.length A' C' H' A'' C' H'' := ⟨py.rep, py.len, fun f _ _ h => h⟩
        have sr : SR k A'' ⟨C1.length, wipeD F.sl vs⟩ C' (L2.wipe σ vs) H'' := ((s1.re (p2.trans (p.trans py')) sty low' (Nat.le_of_lt hl')).wipe vs)
        refine Tgt.of (vs0 := vs) sr rx eg fun σ2 s2 w2 => ⟨by rw [w2 hv, wipe_wipe], A'', ⟨C1.length, sl1⟩, C', s2, ?_⟩
        cases et : tt ⟨C1.length, sl1⟩ C' with
        | ok b C5 =>
          rw [et] at h'
          simp only [bn0_ok] at h'
          intro A5 H5 v5 p5 st5 e5
          have e5 : v5 = b := e5
          subst e5
          have s5 := s2.step p5 st5
          cases v5 with
          | true =>
            rw [if_pos rfl] at h'
            refine iteT ⟨A5, ⟨C1.length, sl1⟩, C5, s5, ?_⟩
            cases ee : te ⟨C1.length, sl1⟩ C5 with
            | ok yd C6 =>
              rw [ee] at h'
              simp only [bn0_ok] at h'
              intro A6 H6 v6 p6 st6 r6
              have pall := (p.trans py').trans (p5.trans p6)
              obtain ⟨ha6, hl6⟩ := cell_at pall (ext_at A1 C1.length Dl) n1
              split at h'
              · rename_i acc hc
                split at h'
                · rename_i hz
                  obtain ⟨ws, hw, rw6⟩ := st6.at_ _ _ hc
                  rw [ha6] at hw
                  obtain ⟨q1, q2⟩ := push_L (k := k) (fl := C1.length) (Nat.le_refl _) st6 ha6 hc hw r6
                  refine ⟨ws, hw, by have := szN_le hz; rw [rw6.length]; omega, A6, _, pall.trans q1, q2, ?_⟩
                  rw [hr]
                  exact h'
                · cases h'
              · cases h'
            | exc e C6 => rw [ee] at h'; cases h'
            | stuck => rw [ee] at h'; cases h'
          | false =>
            rw [if_neg (by decide)] at h'
            refine iteF ⟨A5, C5, (p.trans py').trans p5, st5, ?_⟩
            rw [hr]
            exact h'
        | exc e C5 => rw [et] at h'; cases h'
        | stuck => rw [et] at h'; cases h'
theorem de_lc {elt tg iter : Expr} {ifs : List Expr} {scope : Scope} {own : List (Str × Nat)} {pos : Pos} {mi : MI} {t : Tgt} {tt : MT} {te : ME} (ow : Bool) (hK : X.K = k.K) (hc : X.calm = true) (hN : X.N.Nodup) (hi : PI X tg iter (LI k W mi)) (ok : BlkOk X.N X.env.scope scope own) (hv : ∀ i ∈ t.slots, i ∈ own.map (·.2))
    (hg : ∀ (s : Shared) (H : Hp) (C : Addr) (cl : List (Str × Addr)) (fp : List Addr), PG (X.blk s H scope (compEnvC scope cl C X.env) fp) tg (t.T k.K)) (ht : ∀ (s : Shared) (H : Hp) (C : Addr) (cl : List (Str × Addr)) (fp : List Addr), PTs (X.blk s H scope (compEnvC scope cl C X.env) fp) ifs (LT k WF tt))
    (he : ∀ (s : Shared) (H : Hp) (C : Addr) (cl : List (Str × Addr)) (fp : List Addr), PE (X.blk s H scope (compEnvC scope cl C X.env) fp) elt (LE k WF te)) (hs : ∀ x, foldedSetIterable iter X.env x = pure x := by intro _; rfl) :
    PE X (.ListComp elt [⟨tg, iter, ifs, 0⟩] scope pos) (LE k W (mLc ow mi t.M tt te (own.map (·.2)))) := (pe_lc hc hN hi ok hg ht he hs).cq fun _ _ _ h => le_lc hv h
end
end CT
set_option maxHeartbeats 4000000
/-! DL7: what is walked; defs. -/
namespace CT
open PySem L2
section
variable {X : Cx} {k : Cn} {W : WX} {E : Ends} {σ : L2.St} {H : Hp}
theorem ds_for {tg iter : Expr} {body : List Stmt} {pos : Pos} {mi : MI} {t : Tgt} {mb : MS} (hp : PassesOwn (model X.prog X.w) X.A X.env X.xe) (hc : X.calm = true) (hi : PI X tg iter (LI k W mi)) (hg : PG X tg (t.T k.K)) (hb : PSs X body (LS k W mb))
    (hs : ∀ x, foldedSetIterable iter X.env x = pure x := by intro _; rfl) : PS X (.For tg iter body [] pos) (LS k W (sFor mi t.M mb)) := (ps_for hp hc hi hg hb hs).cq fun _ _ _ h => ls_for h
/-! ### lists and tuples -/
def itC (xs : List D) : ItD := ⟨xs.length, fun j _ => xs[j]?, fun _ => true⟩
def itV (i n : Nat) : ItD := ⟨n, fun j C => match C[i]? with
    | some (some (.lst ys)) => if ys.length = n then ys[j]? else none
    | _ => none, fun C => match C[i]? with
    | some (some (.lst ys)) => decide (ys.length = n)
    | _ => false⟩
def itS (d : D) (C : Store) : Option ItD := match d with
  | .tup xs => some (itC xs)
  | .kt xs => some (itC xs)
  | .lst xs => some (itC xs)
  | .cell i => match C[i]? with
    | some (some (.lst ys)) => some (itV i ys.length)
    | _ => none
  | _ => none
def mSeq (m : ME) : MI := fun F C => bnd (m F C) fun d C1 => match itS d C1 with
  | some it => .ok it C1
  | none => .stuck
def iSeq (K : PySem.W.Frag) (tl : TE) : TI := fun σ H R => tl σ H fun x H1 => ∃ a, x = .ref a ∧ (((∃ xs, SqL K H1 a xs) ∧ R (Itl K a) H1) ∨ ((∃ xs, SqT K H1 a xs) ∧ R (Itt K a) H1))
theorem pi_seq {tg l : Expr} {tl : TE} (hl : PE X l tl) : PI X tg l (iSeq X.K tl) := by
  refine ⟨fun pins s σ H R I h => ?_⟩
  refine thn (hl.run pins s σ H _ I h) fun v s1 ⟨x, H1, I1, r1, q1⟩ => ?_
  obtain ⟨a, e, ⟨⟨xs, hq⟩, q⟩ | ⟨⟨xs, hq⟩, q⟩⟩ := q1
  · subst e
    cases r1
    obtain ⟨its, rv, p, hz⟩ := I1.list hq
    refine wpAny_pyIter_list p.isList ?_
    refine ⟨s1.heap.objs.size, [s1.heap.objs.size], _, _, H1, rfl, I1.kept (t' := s1.toks) fun b o e => Heap.get?_push_of_some _ e, turn_list a _, ⟨_, Heap.get?_push_size _ rfl, rfl, rfl⟩, fun b hb => ?_, q⟩
    have e : b = s1.heap.objs.size := by simpa using hb
    subst e
    exact I1.fpOk (Nat.le_refl _) (I1.hok.fresh (Nat.le_refl _))
  · subst e
    cases r1
    obtain ⟨its, rv, p, hz⟩ := I1.tuple hq
    refine wpAny_pyIter_tuple (show s1.heap.IsTuple a its.toArray from p) ?_
    refine ⟨s1.heap.objs.size, [s1.heap.objs.size], _, _, H1, rfl, I1.kept (t' := s1.toks) fun b o e => Heap.get?_push_of_some _ e, turn_tuple a _, ⟨_, Heap.get?_push_size _ rfl, rfl, rfl⟩, fun b hb => ?_, q⟩
    have e : b = s1.heap.objs.size := by simpa using hb
    subst e
    exact I1.fpOk (Nat.le_refl _) (I1.hok.fresh (Nat.le_refl _))
theorem itC_L {fl : Nat} {A : Nat → Addr} {C : Store} {a : Addr} {xs : List D} (r : Rep k A C H (.ref a) (.lst xs)) : ItOk k fl (Itl k.K a) (itC xs) A C H := fun A' C' H' p st' => by
  cases p.rep _ _ r with
  | lst l h rv =>
    have hl : SqL k.K H' a _ := .inl (.inl h)
    refine ⟨fun j y hj ey => ?_, fun _ => ⟨_, hl, by rw [rv.length]; exact Nat.le_refl _⟩⟩
    obtain ⟨v, hv, rv1⟩ := rv.get ey
    exact ⟨⟨_, v, hl, hv⟩, fun x H'' ⟨e1, e2⟩ => by
      subst e1
      cases (e2 _ hl).symm.trans hv
      exact ⟨A', Stp.refl, st', rv1⟩⟩
theorem itC_T {fl : Nat} {A : Nat → Addr} {C : Store} {v : V} {d : D} {xs : List D} (r : Rep k A C H v d) (e : vT d = some xs) : ∃ a, v = .ref a ∧ (∃ vs, SqT k.K H a vs) ∧ ItOk k fl (Itt k.K a) (itC xs) A C H := by
  obtain ⟨a, vs, rfl, hs, _⟩ := vT_at r e
  refine ⟨a, rfl, ⟨vs, hs⟩, fun A' C' H' p st' => ?_⟩
  obtain ⟨a', vs', ea, hl, rv⟩ := vT_at (p.rep _ _ r) e
  cases ea
  refine ⟨fun j y hj ey => ?_, fun _ => ⟨_, hl, by rw [rv.length]; exact Nat.le_refl _⟩⟩
  obtain ⟨v, hv, rv1⟩ := rv.get ey
  exact ⟨⟨_, v, hl, hv⟩, fun x H'' ⟨e1, e2⟩ => by
    subst e1
    cases (e2 _ hl).symm.trans hv
    exact ⟨A', Stp.refl, st', rv1⟩⟩
theorem itV_L {fl : Nat} {A : Nat → Addr} {C : Store} {a : Addr} {i n : Nat} (r : Rep k A C H (.ref a) (.cell i)) : ItOk k fl (Itl k.K a) (itV i n) A C H := fun A' C' H' p st' => by
  cases p.rep _ _ r with
  | cell hi =>
    refine ⟨fun j y hj ey => ?_, fun hf => ?_⟩
    · simp only [itV] at ey
      split at ey
      · rename_i ys ec
        split at ey
        · obtain ⟨vs, hv, rv⟩ := st'.at_ i _ ec
          have hl : SqL k.K H' (A' i) vs := .inl (.inl hv)
          obtain ⟨v, hw, rv1⟩ := rv.get ey
          exact ⟨⟨_, v, hl, hw⟩, fun x H'' ⟨e1, e2⟩ => by
            subst e1
            cases (e2 _ hl).symm.trans hw
            exact ⟨A', Stp.refl, st', rv1⟩⟩
        · cases ey
      · cases ey
    · simp only [itV] at hf
      split at hf
      · rename_i ys ec
        obtain ⟨vs, hv, rv⟩ := st'.at_ i _ ec
        have := of_decide_eq_true hf
        exact ⟨vs, .inl (.inl hv), by show vs.length ≤ n; rw [rv.length]; omega⟩
      · cases hf
theorem li_seq {m : ME} {R : It → Hp → Prop} (h : LI k W (mSeq m) σ H R) : iSeq k.K (LE k W m) σ H R := by
  obtain ⟨A, F, C, s, h⟩ := h
  refine ⟨A, F, C, s, (Aft.bnd (rel := RepD k) h).mono fun d C1 A1 H1 v p st r h1 => ?_⟩
  have tup : ∀ xs, vT d = some xs → itS d C1 = some (itC xs) → ∃ a, v = .ref a ∧ (((∃ xs, SqL k.K H1 a xs) ∧ R (Itl k.K a) H1) ∨ ((∃ xs, SqT k.K H1 a xs) ∧ R (Itt k.K a) H1)) := fun xs e ei => by
    rw [ei] at h1
    obtain ⟨a, rfl, hs, ok⟩ := itC_T (fl := F.fl) r e
    exact ⟨a, rfl, .inr ⟨hs, h1 A1 H1 _ Stp.refl st ok⟩⟩
  cases d with
  | tup xs => exact tup xs rfl rfl
  | kt xs => exact tup xs rfl rfl
  | lst xs =>
    cases r with
    | lst l hh rv => exact ⟨_, rfl, .inl ⟨⟨_, .inl (.inl hh)⟩, h1 A1 H1 _ Stp.refl st (itC_L (.lst l hh rv))⟩⟩
  | cell i =>
    cases r with
    | cell hi =>
      simp only [itS] at h1
      split at h1
      · rename_i it e
        split at e
        · rename_i ys ec
          cases e
          obtain ⟨vs, hv, rv⟩ := st.at_ i _ ec
          exact ⟨_, rfl, .inl ⟨⟨vs, .inl (.inl hv)⟩, h1 A1 H1 _ Stp.refl st (itV_L (.cell hi))⟩⟩
        · cases e
      · exact h1.elim
  | _ => exact h1.elim
theorem di_seq {tg l : Expr} {m : ME} (hK : X.K = k.K) (hl : PE X l (LE k W m)) : PI X tg l (LI k W (mSeq m)) := (pi_seq hl).cq fun _ _ _ h => by
  rw [hK]
  exact li_seq h
/-! ### ranges -/
def inR (i : Int) : Bool := decide (-(2 ^ 62) ≤ i) && decide (i < 2 ^ 62)
def itR (lo : Int) (n : Nat) : ItD := ⟨n, fun j _ => some (.int (lo + j)), fun _ => true⟩
def mRng1 (a : ME) : MI := fun F C => bnd (a F C) fun d C1 => match d with
  | .int j => if inR j = true then .ok (itR 0 j.toNat) C1 else .stuck
  | _ => .stuck
def mRng2 (a b : ME) : MI := fun F C => bnd (a F C) fun d C1 => bnd (b F C1) fun e C2 => match d, e with
  | .int i, .int j => if (inR i && inR j) = true then .ok (itR i (j - i).toNat) C2 else .stuck
  | _, _ => .stuck
theorem itR_ok {fl : Nat} {A : Nat → Addr} {C : Store} {lo : Int} {n : Nat} : ItOk k fl (Itr lo n) (itR lo n) A C H := fun A' C' H' p st' =>
  ⟨fun j y hj ey => ⟨hj, fun x H'' ⟨e1, e2⟩ => by
    subst e1
    subst e2
    cases ey
    exact ⟨A', Stp.refl, st', .int _⟩⟩, fun _ => Nat.le_refl _⟩
theorem li_rng1 {m : ME} {R : It → Hp → Prop} (h : LI k W (mRng1 m) σ H R) : iRng1 (tCons (LE k W m) tNil) σ H R := by
  obtain ⟨A, F, C, s, h⟩ := h
  refine ⟨A, F, C, s, (Aft.bnd (rel := RepD k) h).mono fun d C1 A1 H1 v p st r h1 => ?_⟩
  cases r with
  | int j =>
    simp only at h1
    split at h1
    · rename_i hb
      simp only [inR, Bool.and_eq_true, decide_eq_true_eq] at hb
      exact ⟨j, rfl, hb.1, hb.2, h1 A1 H1 _ Stp.refl st itR_ok⟩
    · exact h1.elim
  | _ => exact h1.elim
theorem li_rng2 {m m2 : ME} {R : It → Hp → Prop} (h : LI k W (mRng2 m m2) σ H R) : iRng2 (tCons (LE k W m) (tCons (LE k W m2) tNil)) σ H R := by
  obtain ⟨A, F, C, s, h⟩ := h
  refine ⟨A, F, C, s, (Aft.bnd (rel := RepD k) h).mono fun d C1 A1 H1 v p st r h1 => ?_⟩
  have s1 := s.step p st
  refine ⟨A1, F, C1, s1, (Aft.bnd (rel := RepD k) h1).mono fun e C2 A2 H2 v2 p2 st2 r2 h2 => ?_⟩
  cases r with
  | int i =>
    cases r2 with
    | int j =>
      simp only at h2
      split at h2
      · rename_i hb
        simp only [inR, Bool.and_eq_true, decide_eq_true_eq] at hb
        exact ⟨i, j, rfl, ⟨hb.1.1, hb.1.2, hb.2.1, hb.2.2⟩, h2 A2 H2 _ Stp.refl st2 itR_ok⟩
      · exact h2.elim
    | _ => exact h2.elim
  | _ =>
    cases r2 <;> exact h2.elim
theorem di_rng1 {tg a : Expr} {p pos : Pos} {m : ME} (hg : Gl X "range") (hm : X.mg "range" = none) (ha : PE X a (LE k W m)) (hs : starEach [a] X.env = [(false, eval a X.env)] := by rfl) : PI X tg (.Call (.Name "range" p) [a] [] pos) (LI k W (mRng1 m)) :=
  (pi_range1 hg hm (pa_cons ha pa_nil hs) hs).cq fun _ _ _ h => li_rng1 h
theorem di_rng2 {tg a b : Expr} {p pos : Pos} {m m2 : ME} (hg : Gl X "range") (hm : X.mg "range" = none) (ha : PE X a (LE k W m)) (hb : PE X b (LE k W m2)) (hs : starEach [a, b] X.env = [(false, eval a X.env), (false, eval b X.env)] := by rfl) (hs2 : starEach [b] X.env = [(false, eval b X.env)] := by rfl) :
    PI X tg (.Call (.Name "range" p) [a, b] [] pos) (LI k W (mRng2 m m2)) :=
  (pi_range2 hg hm (pa_cons ha (pa_cons hb pa_nil hs2) (by rw [hs, hs2])) hs hs2).cq fun _ _ _ h => li_rng2 h
end
/-! ### defs -/
abbrev MF := List D → Store → R D
/-- what a def hands back: an own list or dict that it made becomes plain data; its cells are forgotten -/
def fz (n : Nat) (d : D) (C : Store) : D := match d with
  | .cell i => if i < n then d else match C[i]? with
    | some (some (.lst xs)) => .lst xs
    | some (some (.dT ks vs)) => .dT ks vs
    | _ => d
  | _ => d
def fin (n : Nat) (d : D) (C : Store) : R D := if cb n (fz n d C) = true then .ok (fz n d C) (C.take n) else .stuck
def mDef (np ns : Nat) (body : MS) : MF := fun ds C => if ds.length = np then (match body ⟨C.length, ds.map some ++ List.replicate (ns - np) none⟩ C with
    | .nx _ C' => fin C.length .non C'
    | .rt d C' => fin C.length d C'
    | .xc e _ C' => if cbL C.length e.fs = true then .exc e (C'.take C.length) else .stuck
    | _ => .stuck) else .stuck
/-- the promise of a def that computes m -/
def SpD (k : Cn) (np : Nat) (m : MF) : Sp := fun vs H Q E => vs.length = np ∧ ∃ A C ds, StOk k A C H ∧ RepL k A C H vs ds ∧ Aft k C.length A C H (RepD k) (m ds C) (fun _ _ _ H' v => Q v H') E
section
variable {k : Cn}
theorem cut_stp {n : Nat} {A A' : Nat → Addr} {C C' : Store} {H H' : Hp} (hn : n = C.length) (st0 : StOk k A C H) (st : StOk k A' C' H') (s : Stp k n A C H A' C' H') :
    Stp k n A C H A' (C'.take n) H' ∧ StOk k A' (C'.take n) H' ∧ n ≤ C'.length ∧ (C'.take n).length = n := by
  have hl : n ≤ C'.length := by rw [hn]; exact s.len
  have tl : (C'.take n).length = n := by rw [List.length_take]; omega
  have low : LowC n C' := s.low n (Nat.le_refl _) (by omega) (by rw [hn]; exact st0.low)
  exact ⟨⟨fun v d r => (s.rep v d r).cut hl (by rw [hn]; exact r.cb), by rw [tl, hn]; exact Nat.le_refl _, fun f h1 h2 l => low_take (s.low f h1 h2 l)⟩, st.take hl low, hl, tl⟩
theorem fz_rep {n : Nat} {A : Nat → Addr} {C : Store} {H : Hp} {v : V} {d : D} (st : StOk k A C H) (hl : n ≤ C.length) (r : Rep k A C H v d) (h : cb n (fz n d C) = true) : Rep k A (C.take n) H v (fz n d C) := by
  have tl : (C.take n).length = n := by rw [List.length_take]; omega
  have nl : ∀ i c, ¬ i < n → C[i]? = some (some c) → ¬ Live A (C.take n) (A i) := fun i c hi e l => by
    obtain ⟨j, c', e', z⟩ := l
    by_cases hj : j < n
    · rw [List.getElem?_take_of_lt hj] at e'
      have := st.inj j i _ _ e' e z
      omega
    · rw [List.getElem?_eq_none (by rw [tl]; omega)] at e'
      cases e'
  cases d with
  | cell i =>
    by_cases hi : i < n
    · have e : fz n (.cell i) C = .cell i := by simp [fz, hi]
      rw [e] at h ⊢
      exact r.cut hl h
    · cases r with
      | cell hi' =>
        simp only [fz, if_neg hi] at h ⊢
        split
        · rename_i xs ec
          rw [ec] at h
          obtain ⟨vs, hv, rv⟩ := st.at_ i _ ec
          exact .lst (nl i _ hi ec) hv (rv.cut hl (by simpa [cb] using h))
        · rename_i ks xs ec
          rw [ec] at h
          obtain ⟨kvs, hv, hk, rv⟩ := st.at_ i _ ec
          subst hk
          exact .dT (nl i _ hi ec) hv (rv.cut hl (by simpa [cb] using h))
        · rename_i n1 n2
          exfalso
          split at h
          · rename_i ec; exact n1 _ ec
          · rename_i ec; exact n2 _ _ ec
          · simp only [cb, decide_eq_true_eq] at h
            exact hi h
  | _ => exact r.cut hl h
/-- from a body to the promise -/
theorem spD_body {np ns : Nat} {body : MS} {N : List Str} {vs : List V} {H : Hp} {Q : VK} {E : XK} (hN : N.length = ns) (hp : np ≤ ns) (h : SpD k np (mDef np ns body) vs H Q E) :
    LS k (fun c d _ H' => E c d H') body { nx := fun _ H' => Q .non H', rt := Q } (L2.start N vs) H := by
  obtain ⟨hv, A, C, ds, st, rl, h⟩ := h
  have hd : ds.length = np := by rw [← rl.length]; exact hv
  unfold mDef at h
  rw [if_pos hd] at h
  have sl : (L2.start N vs) = vs.map some ++ List.replicate (ns - np) none := by unfold L2.start; rw [hN, hv]
  have sr : SR k A ⟨C.length, ds.map some ++ List.replicate (ns - np) none⟩ C (L2.start N vs) H := by
    refine ⟨st, st.low, Nat.le_refl _, ?_, fun i d e => ?_⟩
    · rw [sl]
      simp [rl.length]
    · rw [sl]
      have e' : (ds.map some ++ List.replicate (ns - np) none)[i]? = some (some d) := e
      by_cases hi : i < ds.length
      · rw [List.getElem?_append_left (by simpa using hi), List.getElem?_map] at e'
        cases ed : ds[i]? with
        | none => rw [ed] at e'; cases e'
        | some d' =>
          rw [ed] at e'
          cases e'
          obtain ⟨v, h1, h2⟩ := rl.get ed
          refine ⟨v, ?_, h2⟩
          rw [List.getElem?_append_left (by rw [List.length_map, rl.length]; exact hi), List.getElem?_map, h1]
          rfl
      · rw [List.getElem?_append_right (by simpa using hi)] at e'
        have := List.getElem?_eq_some_iff.mp e'
        obtain ⟨h1, h2⟩ := this
        rw [List.getElem_replicate] at h2
        cases h2
  refine ⟨A, _, C, sr, ?_⟩
  have done : ∀ (d : D) (C' : Store), Aft k C.length A C H (RepD k) (fin C.length d C') (fun _ _ _ H' v => Q v H') E → ∀ A' H' v, Stp k C.length A C H A' C' H' → StOk k A' C' H' → Rep k A' C' H' v d → Q v H' := fun d C' hf A' H' v p st' r => by
    unfold fin at hf
    split at hf
    · rename_i hc
      obtain ⟨q1, q2, q3, q4⟩ := cut_stp rfl st st' p
      exact hf A' H' v q1 q2 (fz_rep st' q3 r hc)
    · exact hf.elim
  show AftS k _ C.length A C H (body ⟨C.length, ds.map some ++ List.replicate (ns - np) none⟩ C) _
  cases eb : body ⟨C.length, ds.map some ++ List.replicate (ns - np) none⟩ C with
  | nx sl' C' =>
    rw [eb] at h
    exact fun A' σ' H' p s' => done .non C' h A' H' .non p s'.st .non
  | rt d C' =>
    rw [eb] at h
    exact fun A' H' v p st' r => done d C' h A' H' v p st' r
  | bk sl' C' => rw [eb] at h; exact h.elim
  | ct sl' C' => rw [eb] at h; exact h.elim
  | stuck => rw [eb] at h; exact h.elim
  | xc e sl' C' =>
    rw [eb] at h
    intro A' σ' H' dd ws p s' x l r
    simp only at h
    split at h
    · rename_i hc
      obtain ⟨q1, q2, q3, q4⟩ := cut_stp rfl st s'.st p
      exact h A' H' dd ws q1 q2 x l (r.cut q3 hc)
    · exact h.elim
end
end CT
set_option maxHeartbeats 4000000
/-! DL8: defs, calls, instances over data. -/
namespace CT
open PySem L2 PySem.Spec PyProof.Rows
theorem Aft.more {k : Cn} {fl n : Nat} {A : Nat → Addr} {C : Store} {H : Hp} {α β : Type} {rel : (Nat → Addr) → Store → Hp → β → α → Prop} {m : R α} {Q : α → Store → (Nat → Addr) → Hp → β → Prop} {W : XK} (hn : fl ≤ n) (h : Aft k fl A C H rel m Q W) : Aft k n A C H rel m Q W := by
  cases m with
  | ok d C' => exact fun A' H' v p st r => h A' H' v (p.less hn) st r
  | exc e C' => exact fun A' H' dd vs p st x l r => h A' H' dd vs (p.less hn) st x l r
  | stuck => exact h
/-- a def of np parameters -/
def Ar (np : Nat) (m : MF) : Prop := ∀ ds C, ds.length ≠ np → m ds C = .stuck
theorem mDef_ar {np ns : Nat} {body : MS} : Ar np (mDef np ns body) := fun ds C h => by
  unfold mDef
  rw [if_neg h]
/-! ### defs that know that no repr runs around them -/
structure RoomG (lev : Nat) (A : Around) : Prop where
  room : Room lev A
  gd : A.guards = some []
theorem RoomG.mono {i j : Nat} {A : Around} (r : RoomG j A) (h : i ≤ j) : RoomG i A := ⟨r.room.mono h, r.gd⟩
theorem RoomG.in1 {j : Nat} {A : Around} (r : RoomG (j + 1) A) : RoomG j A.in1 := ⟨r.room.in1, r.gd⟩
theorem RoomG.make {j : Nat} {A : Around} (r : RoomG (j + 1) A) (C : Addr) (us : List Value) (kw : List (Str × Value)) : RoomG j (A.under (.builtin "type.__call__" ⟨.ref C :: us, kw⟩)) :=
  ⟨r.room.make C us kw, by
    have e : (A.under (.builtin "type.__call__" ⟨.ref C :: us, kw⟩)).guards = A.guards := by
      first
        | rfl
        | simp [Around.under, Code.guards, Code.isGuard, pushGuards, guardIds]
    rw [e]
    exact r.gd⟩
structure FnG (P : Program) (w : World) (K : PySem.W.Frag) (mg : Str → Option Value) (base : Heap) (lev : Nat) (f : Addr) (fd : FuncData) (ps : List Str) (sp : Sp) : Prop where
  len : ∀ vs H Q E, sp vs H Q E → vs.length = ps.length
  run : ∀ (A : Around) (outer : List Env) (s : Shared) (H : Hp) (args : Args) (us : List Value) (vs : List V) (Q : VK) (E : XK), RoomG lev A → Env0 P w K mg base A outer s H → BindsTo s fd args (ps.zip us) → Vals vs us → sp vs H Q E →
    codeAny (model P w) A (.call (.ref f) args) (CR (L2.CX P w) outer P w H s Q E) s
theorem FnG.mono {P : Program} {w : World} {K : PySem.W.Frag} {mg : Str → Option Value} {base : Heap} {i j : Nat} {f : Addr} {fd : FuncData} {ps : List Str} {sp : Sp} (F : FnG P w K mg base i f fd ps sp) (h : i ≤ j) : FnG P w K mg base j f fd ps sp :=
  ⟨F.len, fun A outer s H args us vs Q E hr => F.run A outer s H args us vs Q E (hr.mono h)⟩
theorem fn_ofG {P : Program} {w : World} {K : PySem.W.Frag} {mg : Str → Option Value} {base : Heap} {lev : Nat} {f : Addr} {name qual : Str} {params : Arguments} {body : List Stmt} {scope : Scope} {dV kV doc pm cdv ct oc : Value} {an od : Option Addr}
    {osl : Array (Option Value)} {N ps : List Str} {sp : Sp} (lk : K.lookup f = some ⟨oc, od, .func (PySem.W.fnOf name qual params body scope dV kV doc pm an cdv ct), osl⟩) (hcd : PySem.W.codeIn K cdv qual = true) (S : FnScope N ps scope)
    (len : ∀ vs H Q E, sp vs H Q E → vs.length = ps.length)
    (hbody : ∀ (A : Around) (outer : List Env) (s : Shared) (H : Hp) (vs : List V) (Q : VK) (E : XK), RoomG lev (A.deeper (envOfC qual scope s.heap.objs.size f cdv)) → sp vs H Q E →
      ∃ t, PSs (cxOf (L2.CX P w) P w K mg base N qual scope f cdv A outer s H E) body t ∧ t { nx := fun _ H' => Q .non H', rt := Q } (L2.start N vs) H) :
    FnG P w K mg base (lev + 1) f (PySem.W.fnOf name qual params body scope dV kV doc pm an cdv ct) ps sp := by
  refine ⟨len, fun A outer s H args us vs Q E hr e0 hb r hsp => ?_⟩
  have hl := len _ _ _ _ hsp
  have KX : K.In s.heap := e0.mod.kin.keeps fun b o e => (e0.bs b o e).1
  have lim : s.heap.NoLimit := e0.mod.nolimit.keeps fun b o e => (e0.bs b o e).1
  have hkind : ∀ y ∈ ps.zip us, scope.names.lookup y.1 = some .local ∨ (scope.names.lookup y.1 = some .cell ∧ ((cellsFrom (s.heap.objs.size + 1) scope.names []).lookup y.1).isSome = true) := fun ⟨n, v⟩ hy => by
    rcases S.par n (List.of_mem_zip hy).1 with q | q
    · exact .inl q
    · exact .inr ⟨q, PySem.W.cellsFrom_some _ _ _ (.inl q)⟩
  refine codeAny_call_function hr.room.depth (KX _ _ lk) rfl S.co S.gen rfl (PySem.W.codeRec_of KX hcd) (hb _ _ _ _ ?_)
  refine wpAny_newFunctionEnv_cells S.kind hkind fun env he s1 x => ?_
  subst he
  refine ⟨lim.keeps x.toInCall.keep, codeAny_func ?_⟩
  obtain ⟨t, ht, hq⟩ := hbody A outer s H vs Q E ⟨hr.room.deeper _, hr.gd⟩ hsp
  have I : Inv (cxOf (L2.CX P w) P w K mg base N qual scope f cdv A outer s H E) [] (L2.start N vs) H s1 := inv_start S hr.room.hd e0 hl r x
  refine wpAny_mono (ht.run [] s1 (L2.start N vs) H _ I hq) (fun fl s' hs => ?_) fun e s' hs => hs
  have fin : ∀ {σ' : L2.St} {H' : Hp} {v : V} {u : Value}, Inv (cxOf (L2.CX P w) P w K mg base N qual scope f cdv A outer s H E) [] σ' H' s' → RelV v u → Q v H' → CE outer P w H s Q u s' :=
    fun {σ' H' v u} J rv q => ⟨v, H', J.os, J.bare, J.base, J.hok, rv, q⟩
  cases fl with
  | ret u =>
    obtain ⟨v, σ', H', J, rv, q⟩ := hs
    exact fin J rv q
  | next =>
    obtain ⟨σ', H', J, q⟩ := hs
    exact fin (v := V.non) (u := Value.none) J rfl q
  | brk =>
    obtain ⟨_, _, _, q⟩ := hs
    exact False.elim q
  | cont =>
    obtain ⟨_, _, _, q⟩ := hs
    exact False.elim q
section
variable {P : Program} {w : World} {k : Cn} {mg : Str → Option Value} {base : Heap} {x qual : Str} {params : Arguments} {body : List Stmt} {scope : Scope} {dvs : List V} {kws : List (Str × V)} {f : Addr} {fd : FuncData}
/-- THE RULE for a def: its body's derivation -/
theorem fn_ok {N ps : List Str} {lev : Nat} {m : MS} (F : FunD k.K x qual params body scope dvs kws f fd) (S : FnScope N ps scope) (hp : ps.length ≤ N.length)
    (hb : ∀ (cdv : Value) (A : Around) (outer : List Env) (s : Shared) (H : Hp) (E : XK), RoomG lev (A.deeper (envOfC qual scope s.heap.objs.size f cdv)) → PSs (cxOf (L2.CX P w) P w k.K mg base N qual scope f cdv A outer s H E) body (LS k (fun c d _ H' => E c d H') m)) :
    FnG P w k.K mg base (lev + 1) f fd ps (SpD k ps.length (mDef ps.length N.length m)) := by
  obtain ⟨oc, od, dV, kV, doc, pm, an, cdv, ct, osl, rfl, lk, hcd, _, _⟩ := F.ex
  exact fn_ofG lk hcd S (fun vs H Q E h => h.1) fun A outer s H vs Q E hr h => ⟨_, hb cdv A outer s H E hr, spD_body rfl hp h⟩
end
/-! ### calls -/
def mCall (m : MF) (dds : List D) (a : MA) : ME := fun F C => bnd (a F C) fun ds C1 => m (ds ++ dds) C1
section
variable {X : Cx} {k : Cn} {W : WX} {σ : L2.St} {H : Hp} {Q : VK} {lev : Nat} {f C p g : Addr} {fd : FuncData} {ps : List Str} {np : Nat} {m : MF} {dvs : List V} {dds : List D} {ds : List Value} {x nm : Str} {pn pos apos : Pos} {e o : Expr} {es : List Expr} {ma : MA} {mo : ME}
theorem sp_of {A : Nat → Addr} {C : Store} {fl : Nat} {vs : List V} {xs : List D} {E : XK} (hf : fl ≤ C.length) (ar : Ar np m) (st : StOk k A C H) (r : RepL k A C H vs xs) (h : Aft k fl A C H (RepD k) (m xs C) (fun _ _ _ H' v => Q v H') E) : SpD k np m vs H Q E := by
  refine ⟨?_, A, C, xs, st, r, h.more hf⟩
  rw [r.length]
  by_cases hl : xs.length = np
  · exact hl
  · rw [ar xs C hl] at h
    exact h.elim
theorem run_fnG {sp : Sp} {E : L2.St → XK} {pins : List (Addr × Obj)} {σ : L2.St} {H : Hp} {s : Shared} {Q : VK} {us : List Value} {vs : List V} (F : FnG X.prog X.w X.K X.mg X.base lev f fd ps sp) (hr : RoomG lev X.A) (hb : Binds X.K fd ps ds) (hd : Vals dvs ds) (hx : PassesAt (L2.CX X.prog X.w) X σ (E σ))
    (I : Inv X pins σ H s) (r : Vals vs us) (h : sp (vs ++ dvs) H Q (E σ)) : wpAny (model X.prog X.w) X.A (call (.ref f) us) (EP X pins σ Q) X.xe s := by
  have r2 : Vals (vs ++ dvs) (us ++ ds) := r.append hd
  have hl : (us ++ ds).length = ps.length := by rw [← r2.length]; exact F.len _ _ _ _ h
  refine wpAny_call (codeAny_mono (F.run X.A X.stack s H ⟨us, []⟩ (us ++ ds) (vs ++ dvs) Q (E σ) hr I.env0 (hb s us I.kIn hl) r2 h) fun r s' hq => ?_)
  cases r with
  | error e => exact hx pins H s e s' I hq
  | ok fl =>
    cases fl with
    | ret u => exact I.after hq
    | next => exact False.elim hq
    | brk => exact False.elim hq
    | cont => exact False.elim hq
theorem pe_callG {sp : Sp} {E : L2.St → XK} {t : TA} (F : FnG X.prog X.w X.K X.mg X.base lev f fd ps sp) (hr : RoomG lev X.A) (hg : Gl X x) (hm : X.mg x = some (.ref f)) (hk : PySem.W.keepIn X.K (.ref f) = true) (hb : Binds X.K fd ps ds) (hd : Vals dvs ds) (hx : ∀ σ, PassesAt (L2.CX X.prog X.w) X σ (E σ))
    (ha : PA X (e :: es) t) (hdb : (x == ("__debug__" : Str)) = false := by decide) (he : starEach (e :: es) X.env = (false, eval e X.env) :: starEach es X.env := by rfl) (hpl : (backTo pos (starEach es X.env)).any (·.1) = false := by rfl) :
    PE X (.Call (.Name x pn) (e :: es) [] pos) (tCallSD sp dvs E t) := by
  refine ⟨fun pins s σ H Q I h => ?_⟩
  refine wpAny_Call_Name_kw (ld_glob I hg hm ?_ hdb)
  refine PySem.W.callWith_K (h₀ := X.base) I.ok.mod.kin hk (thn (ha.run pos pins s σ H _ I h) fun us s1 ⟨vs, H1, I1, r, q⟩ => ⟨I1.kIn, ?_⟩) he hpl
  exact run_fnG F hr hb hd (hx σ) I1 r q
theorem le_call (ar : Ar np m) (hd : ∀ A C H, RepL k A C H dvs dds) (h : LE k W (mCall m dds ma) σ H Q) : tCallSD (SpD k np m) dvs (WE W) (LA k W ma) σ H Q := by
  obtain ⟨A, F, C, s, h⟩ := h
  refine ⟨A, F, C, s, (Aft.bnd (rel := RepDs k) h).mono fun xs C1 A1 H1 vs p1 st1 r1 h1 => ?_⟩
  exact sp_of (s.step p1 st1).fl ar st1 (r1.append (hd _ _ _)) h1
/-- f(e, ..) -/
theorem de_call (tk : Takes X W) (F : FnG X.prog X.w X.K X.mg X.base lev f fd ps (SpD k np m)) (ar : Ar np m) (hr : RoomG lev X.A) (hg : Gl X x) (hm : X.mg x = some (.ref f)) (hk : PySem.W.keepIn X.K (.ref f) = true) (hb : Binds X.K fd ps ds) (hd : Vals dvs ds) (hdd : ∀ A C H, RepL k A C H dvs dds)
    (ha : PA X (e :: es) (LA k W ma)) (hdb : (x == ("__debug__" : Str)) = false := by decide) (he : starEach (e :: es) X.env = (false, eval e X.env) :: starEach es X.env := by rfl) (hpl : (backTo pos (starEach es X.env)).any (·.1) = false := by rfl) :
    PE X (.Call (.Name x pn) (e :: es) [] pos) (LE k W (mCall m dds ma)) := (pe_callG F hr hg hm hk hb hd (fun σ => passAt tk σ) ha hdb he hpl).cq fun _ _ _ h => le_call ar hdd h
/-! ### instances -/
/-- the class and the attributes of an instance -/
def vO (d : D) (C : Store) : Option (Nat × List D) := match d with
  | .obj c fs => some (c, fs)
  | .cell i => match C[i]? with
    | some (some (.ins c fs)) => some (c, fs)
    | _ => none
  | _ => none
theorem vO_at {A : Nat → Addr} {C : Store} {v : V} {d : D} {c : Nat} {fs : List D} (st : StOk k A C H) (r : Rep k A C H v d) (e : vO d C = some (c, fs)) : ∃ a dx vs, v = .ref a ∧ H a = some (.ins (k.cl c) dx (((k.fn c).take fs.length).zip vs)) ∧ fs.length ≤ (k.fn c).length ∧ RepL k A C H vs fs := by
  cases r with
  | @obj a0 dx0 c0 vs0 ds0 l h z rv =>
    cases e
    have hl : fs.length = (k.fn c).length := by rw [← rv.length]; exact z
    refine ⟨a0, dx0, vs0, rfl, ?_, Nat.le_of_eq hl, rv⟩
    rw [hl, List.take_length]
    exact h
  | cell hi =>
    rename_i i
    simp only [vO] at e
    split at e
    · rename_i c' fs' ec
      cases e
      obtain ⟨dx, vs, h, z, rv⟩ := st.at_ i _ ec
      exact ⟨_, dx, vs, rfl, h, z, rv⟩
    · cases e
  | _ => cases e
/-- o.f, the n-th attribute of the class c -/
def oFld (c n : Nat) : O1 := fun x C => match vO x C with
  | some (c', fs) => if c' = c then (fs[n]?).map fun d => (d, C) else none
  | none => none
theorem zip_look {names : List Str} {vs : List V} {n : Nat} {f : Str} {v : V} (nd : names.Nodup) (hn : names[n]? = some f) (hv : vs[n]? = some v) : (names.zip vs).lookup f = some v := by
  induction names generalizing vs n with
  | nil => simp at hn
  | cons a r ih =>
    cases vs with
    | nil => simp at hv
    | cons b t =>
      cases n with
      | zero =>
        simp at hn hv
        subst hn
        subst hv
        simp [List.lookup]
      | succ n =>
        simp at hn hv
        have ne : (f == a) = false := by
          simp only [List.nodup_cons] at nd
          have : f ≠ a := fun e => nd.1 (by rw [← e]; exact List.mem_of_getElem? hn)
          simpa using this
        rw [List.zip_cons_cons, List.lookup_cons, ne]
        exact ih (by simp only [List.nodup_cons] at nd; exact nd.2) hn hv
theorem zip_none {names : List Str} {vs : List V} {f : Str} (h : f ∉ names) : (names.zip vs).lookup f = none := by
  induction names generalizing vs with
  | nil => simp
  | cons a r ih =>
    cases vs with
    | nil => simp
    | cons b t =>
      simp only [List.mem_cons, not_or] at h
      have ne : (f == a) = false := by simpa using h.1
      rw [List.zip_cons_cons, List.lookup_cons, ne]
      exact ih h.2
theorem d_fld {c n : Nat} {f : Str} (hc : Cls k.K (k.cl c)) (hno : NoAttr k.K (k.cl c) f) (nd : (k.fn c).Nodup) (hf : (k.fn c)[n]? = some f) : ∀ fl A C H x dx d C' (Q : VK), fl ≤ C.length → LowC fl C → StOk k A C H → Rep k A C H x dx → oFld c n dx C = some (d, C') →
    (∀ A' H' v, Stp k fl A C H A' C' H' → StOk k A' C' H' → Rep k A' C' H' v d → Q v H') → ∃ a Cc dxx fs v, x = .ref a ∧ H a = some (.ins Cc dxx fs) ∧ Cls k.K Cc ∧ NoAttr k.K Cc f ∧ fs.lookup f = some v ∧ Q v H := by
  intro fl A C H x dx d C' Q hfl hl st r e q
  unfold oFld at e
  split at e
  · rename_i c' fs ev
    split at e
    · rename_i hcc
      subst hcc
      simp only [Option.map_eq_some_iff] at e
      obtain ⟨d', e1, e2⟩ := e
      cases e2
      obtain ⟨a, dx', vs, rfl, ha, hle, rv⟩ := vO_at st r ev
      obtain ⟨v, hv, rv1⟩ := rv.get e1
      have hn : n < fs.length := (List.getElem?_eq_some_iff.mp e1).1
      refine ⟨a, _, dx', _, v, rfl, ha, hc, hno, zip_look (nd.sublist (List.take_sublist _ _)) (by rw [List.getElem?_take_of_lt hn]; exact hf) hv, q A H v Stp.refl st rv1⟩
    · cases e
  · cases e
theorem le_fld {c n : Nat} {f : Str} (hc : Cls k.K (k.cl c)) (hno : NoAttr k.K (k.cl c) f) (nd : (k.fn c).Nodup) (hf : (k.fn c)[n]? = some f) (h : LE k W (mUn (oFld c n) mo) σ H Q) : tFld k.K (LE k W mo) f σ H Q := by
  obtain ⟨A, F, C, s, h⟩ := h
  refine ⟨A, F, C, s, (Aft.bnd (rel := RepD k) h).mono fun dx C1 A1 H1 v p1 st1 r1 h1 => ?_⟩
  obtain ⟨d, C', e, q⟩ := aft_ofO h1
  have s1 := s.step p1 st1
  exact d_fld hc hno nd hf F.fl A1 C1 H1 v dx d C' Q s1.fl s1.low st1 r1 e q
theorem de_fld (c n : Nat) {f : Str} (hK : X.K = k.K) (hc : Cls k.K (k.cl c)) (hno : NoAttr k.K (k.cl c) f) (nd : (k.fn c).Nodup) (hf : (k.fn c)[n]? = some f) (he : PE X o (LE k W mo)) (hb : attributeBase o f X.env (eval o X.env) = eval o X.env := by rfl) : PE X (.Attribute o f pos) (LE k W (mUn (oFld c n) mo)) :=
  (pe_fld he hb).cq fun _ _ _ h => by
    rw [hK]
    exact le_fld hc hno nd hf h
/-! ### methods, properties -/
/-- the receiver is an instance of c -/
def mMeth (c : Nat) (m : MF) (dds : List D) (mo : ME) (a : MA) : ME := fun F C => bnd (mo F C) fun x C1 => match vO x C1 with
  | some (c', _) => if c' = c then bnd (a F C1) fun ds C2 => m (x :: (ds ++ dds)) C2 else .stuck
  | none => .stuck
def tMethS (Cc : Addr) (nm : Str) (sp : Sp) (dvs : List V) (E : L2.St → XK) (ta : TE) (t : TA) : TE := fun σ H Q => ta σ H fun x H1 => ∃ a dx fs, x = .ref a ∧ H1 a = some (.ins Cc dx fs) ∧ fs.lookup nm = none ∧
  t σ H1 fun vs H2 => sp (x :: (vs ++ dvs)) H2 Q (E σ)
theorem pe_methSD {pl : Sem Bool} {ta : TE} {t : TA} {sp : Sp} {E : L2.St → XK} (he : PE X o ta) (c : Cls X.K C) (hm : Meth X.K C nm f) (F : FnG X.prog X.w X.K X.mg X.base lev f fd ps sp) (hr : RoomG lev X.A) (hb : Binds X.K fd ps ds) (hd : Vals dvs ds) (hx : ∀ σ, PassesAt (L2.CX X.prog X.w) X σ (E σ)) (ha : PA X (e :: es) t)
    (hst : starEach (e :: es) X.env = (false, eval e X.env) :: starEach es X.env := by rfl) (hpl : (backTo pos (starEach es X.env)).any (·.1) = false := by rfl)
    (ht : eval (.Call (.Attribute o nm apos) (e :: es) [] pos) X.env = (do
      let ov ← eval o X.env
      standAt apos.atName
      let (f, first) ← holding [ov] (getMethod ov nm pl)
      callWith pos f first (backTo pos (starEach (e :: es) X.env)) (backToKw pos (keywordEach [] X.env))) := by rfl) :
    PE X (.Call (.Attribute o nm apos) (e :: es) [] pos) (tMethS C nm sp dvs E ta t) := by
  refine ⟨fun pins s σ H Q I h => ?_⟩
  refine PySem.W.methodCall_KW (pl := pl) (thn (he.run pins s σ H _ I h) fun u s1 ⟨x, H1, I1, rx, a, dx, fs, ex, ea, l, q⟩ => ?_) ht
  subst ex
  obtain rfl : u = Value.ref a := rx
  refine getmeth_ok I1 ea c hm l ?_
  refine PySem.W.callWith_K (first := [.ref a]) (h₀ := X.base) I.ok.mod.kin hm.kp (thn (ha.run pos pins s1 σ H1 _ I1 q) fun us s2 ⟨vs, H2, I2, r, q2⟩ => ⟨I2.kIn, ?_⟩) hst hpl
  exact run_fnG (us := .ref a :: us) (vs := .ref a :: vs) F hr hb hd (hx σ) I2 (.cons rfl r) q2
theorem pe_methSD0 {pl : Sem Bool} {ta : TE} {sp : Sp} {E : L2.St → XK} (he : PE X o ta) (c : Cls X.K C) (hm : Meth X.K C nm f) (F : FnG X.prog X.w X.K X.mg X.base lev f fd ps sp) (hr : RoomG lev X.A) (hb : Binds X.K fd ps ds) (hd : Vals dvs ds) (hx : ∀ σ, PassesAt (L2.CX X.prog X.w) X σ (E σ))
    (ht : eval (.Call (.Attribute o nm apos) [] [] pos) X.env = (do
      let ov ← eval o X.env
      standAt apos.atName
      let (f, first) ← holding [ov] (getMethod ov nm pl)
      callWith pos f first (backTo pos (starEach [] X.env)) (backToKw pos (keywordEach [] X.env))) := by rfl) :
    PE X (.Call (.Attribute o nm apos) [] [] pos) (tMethS C nm sp dvs E ta tNil) := by
  refine ⟨fun pins s σ H Q I h => ?_⟩
  refine PySem.W.methodCall_KW (pl := pl) (thn (he.run pins s σ H _ I h) fun u s1 ⟨x, H1, I1, rx, a, dx, fs, ex, ea, l, q⟩ => ?_) ht
  subst ex
  obtain rfl : u = Value.ref a := rx
  refine getmeth_ok I1 ea c hm l ?_
  exact PySem.W.callWith_K0 (first := [.ref a]) I1.kIn hm.kp (run_fnG (us := [.ref a]) (vs := [.ref a]) F hr hb hd (hx σ) I1 (.cons rfl .nil) q)
theorem le_meth {c : Nat} (ar : Ar np m) (hno : nm ∉ k.fn c) (hdd : ∀ A C H, RepL k A C H dvs dds) (h : LE k W (mMeth c m dds mo ma) σ H Q) : tMethS (k.cl c) nm (SpD k np m) dvs (WE W) (LE k W mo) (LA k W ma) σ H Q := by
  obtain ⟨A, F, C, s, h⟩ := h
  refine ⟨A, F, C, s, (Aft.bnd (rel := RepD k) h).mono fun dx C1 A1 H1 v p1 st1 r1 h1 => ?_⟩
  have s1 := s.step p1 st1
  split at h1
  · rename_i c' fs ev
    split at h1
    · rename_i hcc
      subst hcc
      obtain ⟨a, dx', vs, rfl, ha, hle, rv⟩ := vO_at st1 r1 ev
      refine ⟨a, dx', _, rfl, ha, zip_none (fun z => hno (List.mem_of_mem_take z)), A1, F, C1, s1, (Aft.bnd (rel := RepDs k) h1).mono fun xs C2 A2 H2 ws p2 st2 r2 h2 => ?_⟩
      exact sp_of (s1.step p2 st2).fl ar st2 (.cons (p2.rep _ _ r1) (r2.append (hdd _ _ _))) h2
    · exact h1.elim
  · exact h1.elim
theorem de_meth {pl : Sem Bool} (c : Nat) (tk : Takes X W) (hK : X.K = k.K) (he : PE X o (LE k W mo)) (hc : Cls k.K (k.cl c)) (hm : Meth k.K (k.cl c) nm f) (F : FnG X.prog X.w X.K X.mg X.base lev f fd ps (SpD k np m)) (ar : Ar np m) (hno : nm ∉ k.fn c) (hr : RoomG lev X.A) (hb : Binds X.K fd ps ds) (hd : Vals dvs ds) (hdd : ∀ A C H, RepL k A C H dvs dds)
    (ha : PA X (e :: es) (LA k W ma)) (hst : starEach (e :: es) X.env = (false, eval e X.env) :: starEach es X.env := by rfl) (hpl : (backTo pos (starEach es X.env)).any (·.1) = false := by rfl)
    (ht : eval (.Call (.Attribute o nm apos) (e :: es) [] pos) X.env = (do
      let ov ← eval o X.env
      standAt apos.atName
      let (f, first) ← holding [ov] (getMethod ov nm pl)
      callWith pos f first (backTo pos (starEach (e :: es) X.env)) (backToKw pos (keywordEach [] X.env))) := by rfl) :
    PE X (.Call (.Attribute o nm apos) (e :: es) [] pos) (LE k W (mMeth c m dds mo ma)) :=
  (pe_methSD (pl := pl) he (by rw [hK]; exact hc) (by rw [hK]; exact hm) F hr hb hd (fun σ => passAt tk σ) ha hst hpl ht).cq fun _ _ _ h => le_meth ar hno hdd h
theorem de_meth0 {pl : Sem Bool} (c : Nat) (tk : Takes X W) (hK : X.K = k.K) (he : PE X o (LE k W mo)) (hc : Cls k.K (k.cl c)) (hm : Meth k.K (k.cl c) nm f) (F : FnG X.prog X.w X.K X.mg X.base lev f fd ps (SpD k np m)) (ar : Ar np m) (hno : nm ∉ k.fn c) (hr : RoomG lev X.A) (hb : Binds X.K fd ps ds) (hd : Vals dvs ds) (hdd : ∀ A C H, RepL k A C H dvs dds)
    (ht : eval (.Call (.Attribute o nm apos) [] [] pos) X.env = (do
      let ov ← eval o X.env
      standAt apos.atName
      let (f, first) ← holding [ov] (getMethod ov nm pl)
      callWith pos f first (backTo pos (starEach [] X.env)) (backToKw pos (keywordEach [] X.env))) := by rfl) :
    PE X (.Call (.Attribute o nm apos) [] [] pos) (LE k W (mMeth c m dds mo mNil)) :=
  (pe_methSD0 (pl := pl) he (by rw [hK]; exact hc) (by rw [hK]; exact hm) F hr hb hd (fun σ => passAt tk σ) ht).cq fun σ H Q h => by
    obtain ⟨A, F', C, s, h⟩ := le_meth (nm := nm) ar hno hdd h
    exact ⟨A, F', C, s, h.mono fun d C1 A1 H1 v p st r ⟨a, dx, fs, ex, ea, l, q⟩ => ⟨a, dx, fs, ex, ea, l, la_nil q⟩⟩
end
end CT
set_option maxHeartbeats 4000000
/-! DL9: built-in functions over data. -/
namespace CT
open PySem L2 PySem.Spec PyProof.Rows
/-! ### data as the library's own -/
mutual
def toP0 : D → Option PyData
  | .non => some .none
  | .bl b => some (.bool b)
  | .int i => some (.int i)
  | .str s => some (.str s)
  | .lst xs => (toP0s xs).map .list
  | .tup xs => (toP0s xs).map .tuple
  | .kt xs => (toP0s xs).map .tuple
  | .scr _ => none | .obj _ _ => none | .dT _ _ => none | .cell _ => none | .exn _ _ => none | .cls _ => none
def toP0s : List D → Option (List PyData)
  | [] => some []
  | d :: ds => match toP0 d, toP0s ds with
    | some p, some ps => some (p :: ps)
    | _, _ => none
end
mutual
/-- cells are looked into, one deep -/
def toP (C : Store) : D → Option PyData
  | .non => some .none
  | .bl b => some (.bool b)
  | .int i => some (.int i)
  | .str s => some (.str s)
  | .lst xs => (toPs C xs).map .list
  | .tup xs => (toPs C xs).map .tuple
  | .kt xs => (toPs C xs).map .tuple
  | .cell i => match C[i]? with
    | some (some (.lst xs)) => (toP0s xs).map .list
    | _ => none
  | .scr _ => none | .obj _ _ => none | .dT _ _ => none | .exn _ _ => none | .cls _ => none
def toPs (C : Store) : List D → Option (List PyData)
  | [] => some []
  | d :: ds => match toP C d, toPs C ds with
    | some p, some ps => some (p :: ps)
    | _, _ => none
end
section
variable {k : Cn} {A : Nat → Addr} {C : Store} {H : Hp}
mutual
theorem toP0_dp : ∀ {v : V} {d : D} {p : PyData}, Rep k A C H v d → toP0 d = some p → Dp k.K H v p
  | _, _, _, .non, e => by simp only [toP0] at e; cases e; exact .non
  | _, _, _, .bl b, e => by simp only [toP0] at e; cases e; exact .bl b
  | _, _, _, .int i, e => by simp only [toP0] at e; cases e; exact .int i
  | _, _, _, .str s, e => by simp only [toP0] at e; cases e; exact .str s
  | _, _, _, .lst l h r, e => by
    simp only [toP0, Option.map_eq_some_iff] at e
    obtain ⟨ps, e1, rfl⟩ := e
    exact .lst (.inl (.inl h)) (toP0s_dp r e1)
  | _, _, _, .tup l h r, e => by
    simp only [toP0, Option.map_eq_some_iff] at e
    obtain ⟨ps, e1, rfl⟩ := e
    exact .tup (.inl (.inl h)) (toP0s_dp r e1)
  | _, _, _, .ktup h r, e => by
    simp only [toP0, Option.map_eq_some_iff] at e
    obtain ⟨ps, e1, rfl⟩ := e
    exact .tup (.inr h) (toP0s_dp r e1)
  | _, _, _, .scr l h r, e => by simp only [toP0] at e; cases e
  | _, _, _, .kscr h r, e => by simp only [toP0] at e; cases e
  | _, _, _, .obj l h z r, e => by simp only [toP0] at e; cases e
  | _, _, _, .exn x l h z r, e => by simp only [toP0] at e; cases e
  | _, _, _, .cls c, e => by simp only [toP0] at e; cases e
  | _, _, _, .dT l h r, e => by simp only [toP0] at e; cases e
  | _, _, _, .cell hi, e => by simp only [toP0] at e; cases e
theorem toP0s_dp : ∀ {vs : List V} {ds : List D} {ps : List PyData}, RepL k A C H vs ds → toP0s ds = some ps → DpAll k.K H vs ps
  | _, _, _, .nil, e => by simp only [toP0s] at e; cases e; exact .nil
  | _, _, _, .cons (d := d) (ds := ds) r t, e => by
    simp only [toP0s] at e
    cases e1 : toP0 d with
    | none => rw [e1] at e; cases e
    | some p =>
      cases e2 : toP0s ds with
      | none => rw [e1, e2] at e; cases e
      | some ps =>
        rw [e1, e2] at e
        cases e
        exact .cons (toP0_dp r e1) (toP0s_dp t e2)
end
mutual
theorem toP_dp (st : StOk k A C H) : ∀ {v : V} {d : D} {p : PyData}, Rep k A C H v d → toP C d = some p → Dp k.K H v p
  | _, _, _, .non, e => by simp only [toP] at e; cases e; exact .non
  | _, _, _, .bl b, e => by simp only [toP] at e; cases e; exact .bl b
  | _, _, _, .int i, e => by simp only [toP] at e; cases e; exact .int i
  | _, _, _, .str s, e => by simp only [toP] at e; cases e; exact .str s
  | _, _, _, .lst l h r, e => by
    simp only [toP, Option.map_eq_some_iff] at e
    obtain ⟨ps, e1, rfl⟩ := e
    exact .lst (.inl (.inl h)) (toPs_dp st r e1)
  | _, _, _, .tup l h r, e => by
    simp only [toP, Option.map_eq_some_iff] at e
    obtain ⟨ps, e1, rfl⟩ := e
    exact .tup (.inl (.inl h)) (toPs_dp st r e1)
  | _, _, _, .ktup h r, e => by
    simp only [toP, Option.map_eq_some_iff] at e
    obtain ⟨ps, e1, rfl⟩ := e
    exact .tup (.inr h) (toPs_dp st r e1)
  | _, _, _, .scr l h r, e => by simp only [toP] at e; cases e
  | _, _, _, .kscr h r, e => by simp only [toP] at e; cases e
  | _, _, _, .obj l h z r, e => by simp only [toP] at e; cases e
  | _, _, _, .exn x l h z r, e => by simp only [toP] at e; cases e
  | _, _, _, .cls c, e => by simp only [toP] at e; cases e
  | _, _, _, .dT l h r, e => by simp only [toP] at e; cases e
  | _, _, _, .cell (i := i) hi, e => by
    simp only [toP] at e
    split at e
    · rename_i xs ec
      simp only [Option.map_eq_some_iff] at e
      obtain ⟨ps, e1, rfl⟩ := e
      obtain ⟨vs, hv, rv⟩ := st.at_ i _ ec
      exact .lst (.inl (.inl hv)) (toP0s_dp rv e1)
    · cases e
theorem toPs_dp (st : StOk k A C H) : ∀ {vs : List V} {ds : List D} {ps : List PyData}, RepL k A C H vs ds → toPs C ds = some ps → DpAll k.K H vs ps
  | _, _, _, .nil, e => by simp only [toPs] at e; cases e; exact .nil
  | _, _, _, .cons (d := d) (ds := ds) r t, e => by
    simp only [toPs] at e
    cases e1 : toP C d with
    | none => rw [e1] at e; cases e
    | some p =>
      cases e2 : toPs C ds with
      | none => rw [e1, e2] at e; cases e
      | some ps =>
        rw [e1, e2] at e
        cases e
        exact .cons (toP_dp st r e1) (toPs_dp st t e2)
end
end
/-! ### == and != of data -/
def oEqD (neg : Bool) : O2 := fun x y C => match toP C x, toP C y with
  | some p, some q => if (SeqAt.shaped p && SeqAt.shaped q) = true then some (.bl (if neg = true then !PyData.eqv p q else PyData.eqv p q), C) else none
  | _, _ => none
theorem d_eqD {k : Cn} : OpD k (rEqD k.K) (oEqD false) := by
  intro fl A C H x y dx dy d C' Q hf hl st rx ry e q
  simp only [oEqD] at e
  split at e
  · rename_i p q' e1 e2
    split at e
    · rename_i hs
      simp only [Bool.and_eq_true] at hs
      cases e
      exact ⟨p, q', toP_dp st rx e1, toP_dp st ry e2, hs.1, hs.2, q A H _ Stp.refl st (.bl _)⟩
    · cases e
  · cases e
theorem d_neD {k : Cn} : OpD k (rNeD k.K) (oEqD true) := by
  intro fl A C H x y dx dy d C' Q hf hl st rx ry e q
  simp only [oEqD] at e
  split at e
  · rename_i p q' e1 e2
    split at e
    · rename_i hs
      simp only [Bool.and_eq_true] at hs
      cases e
      exact ⟨p, q', toP_dp st rx e1, toP_dp st ry e2, hs.1, hs.2, q A H _ Stp.refl st (.bl _)⟩
    · cases e
  · cases e
/-! ### repr -/
def rReprD (K : PySem.W.Frag) : List V → Hp → VK → Prop := fun xs H Q => ∃ v d, xs = [v] ∧ Dp K H v d ∧ d.showable = true ∧ d.hasDict = false ∧ d.depth ≤ 60 ∧ d.shown.length ≤ sizeLine ∧ Q (.str d.shown) H
theorem call_reprD {X : Cx} (hr : RoomG 0 X.A) : CallR X (.builtin "repr") (rReprD X.K) := by
  intro pins s σ H xs us Q I r h
  obtain ⟨v, d, rfl, hd, h1, h2, h3, h4, q⟩ := h
  obtain ⟨u, rfl, ru⟩ := Vals.one r
  have un : X.A.units + 200 < cLine := by have := hr.room.un; omega
  obtain ⟨as, rd⟩ := Dp.reads I d v u hd ru
  have fin : ∀ (t : Tok) (h' : Heap) (tk : Nat), (∀ b o, s.heap.get? b = some o → h'.get? b = some o) → EP X pins σ Q (.str d.shown t) { s with heap := h', toks := tk } := fun t h' tk hk => ⟨.str d.shown, H, I.kept (t' := tk) hk, ⟨_, rfl⟩, q⟩
  cases hd with
  | non =>
    cases ru
    exact PySem.P.repr_of_none (fin _ _ _ fun _ _ e => e)
  | bl b =>
    cases ru
    exact PySem.P.repr_of_bool (fin _ _ _ fun _ _ e => e)
  | int i =>
    obtain ⟨t, rfl⟩ := ru
    exact PySem.P.repr_of_int (by simpa [PyData.showable] using h1) (fin _ _ _ fun _ _ e => e)
  | str x =>
    obtain ⟨t, rfl⟩ := ru
    exact PySem.P.repr_of_str (fin _ _ _ fun _ _ e => e) h4
  | lst hs ha =>
    cases ru
    exact repr_of_reads' rd h1 (PyData.noDict_hsm h2) hr.gd (by omega) (fun _ _ e => e) (fun h' u tk hk => fin u h' tk hk) h4
  | tup hs ha =>
    cases ru
    exact repr_of_reads' rd h1 (PyData.noDict_hsm h2) hr.gd (by omega) (fun _ _ e => e) (fun h' u tk hk => fin u h' tk hk) h4
def repOk (p : PyData) : Bool := p.showable && !p.hasDict && decide (p.depth ≤ 60) && szN p.shown.length
def oRepr : OA := fun xs C => match xs with
  | [d] => match toP C d with
    | some p => if repOk p = true then some (.str p.shown, C) else none
    | none => none
  | _ => none
theorem d_repr {k : Cn} : ApD k (rReprD k.K) oRepr := by
  intro fl A C H x dx d C' Q hf hl st rx e q
  unfold oRepr at e
  split at e
  · rename_i d0
    split at e
    · rename_i p ep
      split at e
      · rename_i ho
        cases e
        cases rx with
        | cons r t =>
          cases t
          simp only [repOk, Bool.and_eq_true, Bool.not_eq_true', decide_eq_true_eq] at ho
          exact ⟨_, p, rfl, toP_dp st r ep, ho.1.1.1, ho.1.1.2, ho.1.2, szN_le ho.2, q A H _ Stp.refl st (.str _)⟩
      · cases e
    · cases e
  · cases e
/-! ### len, sums, least, greatest, conversions -/
def oLen : OA := fun xs C => match xs with
  | [d] => (vS d C).map fun ys => (.int ys.length, C)
  | _ => none
theorem d_len {k : Cn} : ApD k (fun xs H Q => ∃ p ys, xs = [.ref p] ∧ (SqL k.K H p ys ∨ SqT k.K H p ys) ∧ Q (.int ys.length) H) oLen := by
  intro fl A C H x dx d C' Q hf hl st rx e q
  unfold oLen at e
  split at e
  · rename_i d0
    simp only [Option.map_eq_some_iff] at e
    obtain ⟨ys, e1, e2⟩ := e
    cases e2
    cases rx with
    | cons r t =>
      cases t
      obtain ⟨a, vs, rfl, hs, rv⟩ := vS_at st r e1
      exact ⟨a, vs, rfl, hs, q A H _ Stp.refl st (by rw [rv.length]; exact .int _)⟩
  · cases e
def dInts : List D → Option (List Int)
  | [] => some []
  | .int i :: r => (dInts r).map fun l => i :: l
  | _ :: _ => none
theorem dInts_eq : ∀ {ds : List D} {ns : List Int}, dInts ds = some ns → ds = ns.map D.int
  | [], _, e => by cases e; rfl
  | .int i :: r, _, e => by
    simp only [dInts, Option.map_eq_some_iff] at e
    obtain ⟨l, e1, rfl⟩ := e
    rw [dInts_eq e1]
    rfl
  | .non :: _, _, e => by cases e
  | .bl _ :: _, _, e => by cases e
  | .str _ :: _, _, e => by cases e
  | .lst _ :: _, _, e => by cases e
  | .tup _ :: _, _, e => by cases e
  | .scr _ :: _, _, e => by cases e
  | .kt _ :: _, _, e => by cases e
  | .obj _ _ :: _, _, e => by cases e
  | .exn _ _ :: _, _, e => by cases e
  | .cls _ :: _, _, e => by cases e
  | .dT _ _ :: _, _, e => by cases e
  | .cell _ :: _, _, e => by cases e
@[simp] theorem dInts_map (ns : List Int) : dInts (ns.map D.int) = some ns := by
  induction ns with
  | nil => rfl
  | cons n r ih => simp [dInts, ih]
def dBools : List D → Option (List Bool)
  | [] => some []
  | .bl i :: r => (dBools r).map fun l => i :: l
  | _ :: _ => none
theorem dBools_eq : ∀ {ds : List D} {ns : List Bool}, dBools ds = some ns → ds = ns.map D.bl
  | [], _, e => by cases e; rfl
  | .bl i :: r, _, e => by
    simp only [dBools, Option.map_eq_some_iff] at e
    obtain ⟨l, e1, rfl⟩ := e
    rw [dBools_eq e1]
    rfl
  | .non :: _, _, e => by cases e
  | .int _ :: _, _, e => by cases e
  | .str _ :: _, _, e => by cases e
  | .lst _ :: _, _, e => by cases e
  | .tup _ :: _, _, e => by cases e
  | .scr _ :: _, _, e => by cases e
  | .kt _ :: _, _, e => by cases e
  | .obj _ _ :: _, _, e => by cases e
  | .exn _ _ :: _, _, e => by cases e
  | .cls _ :: _, _, e => by cases e
  | .dT _ _ :: _, _, e => by cases e
  | .cell _ :: _, _, e => by cases e
@[simp] theorem dBools_map (ns : List Bool) : dBools (ns.map D.bl) = some ns := by
  induction ns with
  | nil => rfl
  | cons n r ih => simp [dBools, ih]
def oSum : OA := fun xs C => match xs with
  | [d] => (vL d C).bind fun ys => (dInts ys).map fun ns => (.int ns.sum, C)
  | _ => none
def oAny : OA := fun xs C => match xs with
  | [d] => (vL d C).bind fun ys => (dBools ys).map fun ns => (.bl (ns.any id), C)
  | _ => none
theorem d_sum {k : Cn} : ApD k (rSum k.K) oSum := by
  intro fl A C H x dx d C' Q hf hl st rx e q
  unfold oSum at e
  split at e
  · simp only [Option.bind_eq_some_iff, Option.map_eq_some_iff] at e
    obtain ⟨ys, e1, ns, e2, e3⟩ := e
    cases e3
    cases rx with
    | cons r t =>
      cases t
      obtain ⟨a, vs, rfl, ha, rv⟩ := vL_at st r e1
      rw [dInts_eq e2] at rv
      have := rv.ints_inv
      subst this
      exact ⟨a, ns, rfl, .inl (.inl ha), q A H _ Stp.refl st (.int _)⟩
  · cases e
theorem d_any {k : Cn} : ApD k (rAny k.K) oAny := by
  intro fl A C H x dx d C' Q hf hl st rx e q
  unfold oAny at e
  split at e
  · simp only [Option.bind_eq_some_iff, Option.map_eq_some_iff] at e
    obtain ⟨ys, e1, ns, e2, e3⟩ := e
    cases e3
    cases rx with
    | cons r t =>
      cases t
      obtain ⟨a, vs, rfl, ha, rv⟩ := vL_at st r e1
      rw [dBools_eq e2] at rv
      have := rv.bls_inv
      subst this
      exact ⟨a, ns, rfl, .inl (.inl ha), q A H _ Stp.refl st (.bl _)⟩
  · cases e
def o2I (g : Int → Int → Int) : OA := fun xs C => match xs with
  | [.int i, .int j] => some (.int (g i j), C)
  | _ => none
def oMax2 : OA := o2I fun i j => if j > i then j else i
def oMin2 : OA := o2I fun i j => if j < i then j else i
theorem d_2I {k : Cn} (g : Int → Int → Int) : ApD k (fun xs H Q => ∃ i j, xs = [.int i, .int j] ∧ Q (.int (g i j)) H) (o2I g) := by
  intro fl A C H x dx d C' Q hf hl st rx e q
  unfold o2I at e
  split at e
  · rename_i i j
    cases e
    cases rx with
    | cons r t =>
      cases t with
      | cons r2 t2 =>
        cases t2
        cases r
        cases r2
        exact ⟨i, j, rfl, q A H _ Stp.refl st (.int _)⟩
  · cases e
theorem d_max2 {k : Cn} : ApD k (fun xs H Q => ∃ i j, xs = [.int i, .int j] ∧ Q (.int (if j > i then j else i)) H) oMax2 := d_2I _
theorem d_min2 {k : Cn} : ApD k (fun xs H Q => ∃ i j, xs = [.int i, .int j] ∧ Q (.int (if j < i then j else i)) H) oMin2 := d_2I _
def oAbs : OA := fun xs C => match xs with
  | [.int i] => some (.int (if i < 0 then -i else i), C)
  | _ => none
theorem d_abs {k : Cn} : ApD k (fun xs H Q => ∃ i, xs = [.int i] ∧ Q (.int (if i < 0 then -i else i)) H) oAbs := by
  intro fl A C H x dx d C' Q hf hl st rx e q
  unfold oAbs at e
  split at e
  · rename_i i
    cases e
    cases rx with
    | cons r t =>
      cases t
      cases r
      exact ⟨i, rfl, q A H _ Stp.refl st (.int _)⟩
  · cases e
def oInt : OA := fun xs C => match xs with
  | [.int i] => some (.int i, C)
  | [.bl b] => some (.int (if b then 1 else 0), C)
  | _ => none
theorem d_int {k : Cn} : ApD k (fun xs H Q => (∃ i, xs = [.int i] ∧ Q (.int i) H) ∨ ∃ k, xs = [.bl k] ∧ Q (.int (if k then 1 else 0)) H) oInt := by
  intro fl A C H x dx d C' Q hf hl st rx e q
  unfold oInt at e
  split at e
  · rename_i i
    cases e
    cases rx with
    | cons r t =>
      cases t
      cases r
      exact .inl ⟨i, rfl, q A H _ Stp.refl st (.int _)⟩
  · rename_i i
    cases e
    cases rx with
    | cons r t =>
      cases t
      cases r
      exact .inr ⟨i, rfl, q A H _ Stp.refl st (.int _)⟩
  · cases e
/-- tuple(list), tuple(tuple) -/
def oTupOf : OA := fun xs C => match xs with
  | [.tup ys] => some (.tup ys, C)
  | [.kt ys] => some (.kt ys, C)
  | [d] => (vL d C).map fun ys => (.tup ys, C)
  | _ => none
theorem d_tupOf {k : Cn} : ApD k (fun xs H Q => ∃ p ys, xs = [.ref p] ∧ ((SqL k.K H p ys ∧ ∀ l, H l = none → Q (.ref l) (upd H l (.tup ys))) ∨ (SqT k.K H p ys ∧ Q (.ref p) H))) oTupOf := by
  intro fl A C H x dx d C' Q hf hl st rx e q
  unfold oTupOf at e
  split at e
  · cases e
    cases rx with
    | cons r t =>
      cases t
      obtain ⟨a, vs, rfl, hs, rv⟩ := vT_at r rfl
      exact ⟨a, vs, rfl, .inr ⟨hs, q A H _ Stp.refl st r⟩⟩
  · cases e
    cases rx with
    | cons r t =>
      cases t
      obtain ⟨a, vs, rfl, hs, rv⟩ := vT_at r rfl
      exact ⟨a, vs, rfl, .inr ⟨hs, q A H _ Stp.refl st r⟩⟩
  · simp only [Option.map_eq_some_iff] at e
    obtain ⟨ys, e1, e2⟩ := e
    cases e2
    cases rx with
    | cons r t =>
      cases t
      obtain ⟨a, vs, rfl, ha, rv⟩ := vL_at st r e1
      refine ⟨a, vs, rfl, .inl ⟨.inl (.inl ha), fun l hl => ?_⟩⟩
      obtain ⟨w1, w2, w3⟩ := fresh_T (fl := fl) st rv hl
      exact q A _ _ w1 w2 w3
  · cases e
/-- list(x) -/
def oListOf (own : Bool) : OA := fun xs C => match xs with
  | [d] => (vS d C).map fun ys => mkL own ys C
  | _ => none
theorem d_listOf {k : Cn} (own : Bool) : ApD k (fun xs H Q => ∃ p ys, xs = [.ref p] ∧ (SqL k.K H p ys ∨ SqT k.K H p ys) ∧ ∀ l, H l = none → Q (.ref l) (upd H l (.lst ys))) (oListOf own) := by
  intro fl A C H x dx d C' Q hf hl st rx e q
  unfold oListOf at e
  split at e
  · simp only [Option.map_eq_some_iff] at e
    obtain ⟨ys, e1, e2⟩ := e
    cases rx with
    | cons r t =>
      cases t
      obtain ⟨a, vs, rfl, hs, rv⟩ := vS_at st r e1
      refine ⟨a, vs, rfl, hs, fun l hl => ?_⟩
      obtain ⟨A2, w1, w2, w3⟩ := fresh_L (own := own) hf st rv hl
      rw [e2] at w1 w2 w3
      exact q A2 _ _ w1 w2 w3
  · cases e
/-! ### + and * of lists, + of tuples -/
def oCat (own : Bool) : O2 := fun x y C => match vL x C, vL y C with
  | some xs, some ys => if szN (xs.length + ys.length) = true then some (mkL own (xs ++ ys) C) else none
  | _, _ => none
theorem d_cat {k : Cn} (own : Bool) : OpD k rCat (oCat own) := by
  intro fl A C H x y dx dy d C' Q hf hl st rx ry e q
  unfold oCat at e
  split at e
  · rename_i xs ys e1 e2
    split at e
    · rename_i hz
      obtain ⟨a, vs, rfl, ha, rv⟩ := vL_at st rx e1
      obtain ⟨b, ws, rfl, hb, rw⟩ := vL_at st ry e2
      refine ⟨a, b, vs, ws, rfl, rfl, ha, hb, by rw [rv.length, rw.length]; exact szN_le hz, fun p hp => ?_⟩
      obtain ⟨A2, w1, w2, w3⟩ := fresh_L (own := own) hf st (rv.append rw) hp
      have e' := Option.some.inj e
      rw [e'] at w1 w2 w3
      exact q A2 _ _ w1 w2 w3
    · cases e
  · cases e
def oCatT : O2 := fun x y C => match vT x, vT y with
  | some xs, some ys => if szN (xs.length + ys.length) = true then (if xs.isEmpty = true then some (y, C) else if ys.isEmpty = true then some (x, C) else some (.tup (xs ++ ys), C)) else none
  | _, _ => none
theorem d_catT {k : Cn} : OpD k (rCatA k.K) oCatT := by
  intro fl A C H x y dx dy d C' Q hf hl st rx ry e q
  unfold oCatT at e
  split at e
  · rename_i xs ys e1 e2
    obtain ⟨a, vs, rfl, ha, rv⟩ := vT_at rx e1
    obtain ⟨b, ws, rfl, hb, rw⟩ := vT_at ry e2
    have z1 : vs = [] ↔ xs = [] := by
      have := rv.length
      constructor
      · intro h; subst h; exact List.length_eq_zero_iff.mp (by simpa using this.symm)
      · intro h; subst h; exact List.length_eq_zero_iff.mp (by simpa using this)
    have z2 : ws = [] ↔ ys = [] := by
      have := rw.length
      constructor
      · intro h; subst h; exact List.length_eq_zero_iff.mp (by simpa using this.symm)
      · intro h; subst h; exact List.length_eq_zero_iff.mp (by simpa using this)
    split at e
    · rename_i hz
      refine ⟨a, b, vs, ws, rfl, rfl, ha, hb, by rw [rv.length, rw.length]; exact szN_le hz, fun h => ?_, fun h h' => ?_, fun h h' p hp => ?_⟩
      · rw [if_pos (by simpa using z1.mp h)] at e
        cases e
        exact q A H _ Stp.refl st ry
      · have n1 : ¬ (xs.isEmpty = true) := by simpa using fun z => h (z1.mpr z)
        rw [if_neg n1, if_pos (by simpa using z2.mp h')] at e
        cases e
        exact q A H _ Stp.refl st rx
      · have n1 : ¬ (xs.isEmpty = true) := by simpa using fun z => h (z1.mpr z)
        have n2 : ¬ (ys.isEmpty = true) := by simpa using fun z => h' (z2.mpr z)
        rw [if_neg n1, if_neg n2] at e
        cases e
        obtain ⟨w1, w2, w3⟩ := fresh_T (fl := fl) st (rv.append rw) hp
        exact q A _ _ w1 w2 w3
    · cases e
  · cases e
/-! ### slices of lists -/
def mNoPart : Fr → Store → R (Option Int) := fun _ C => .ok none C
def mPart (m : ME) : Fr → Store → R (Option Int) := fun F C => bnd (m F C) fun d C1 => match d with
  | .int i => .ok (some i) C1
  | _ => .stuck
def cutD (xs : List D) (lo hi : Option Int) : List D := (xs.drop (HT.sIx xs.length 0 lo)).take (HT.sIx xs.length xs.length hi - HT.sIx xs.length 0 lo)
theorem cutD_rep {k : Cn} {A : Nat → Addr} {C : Store} {H : Hp} {vs : List V} {xs : List D} (r : RepL k A C H vs xs) (lo hi : Option Int) : RepL k A C H (cutV vs lo hi) (cutD xs lo hi) := by
  unfold cutV cutD
  rw [r.length]
  exact (r.drop _).take _
def LO (k : Cn) (W : WX) (m : Fr → Store → R (Option Int)) : TO := fun σ H Q => ∃ A F C, SR k A F C σ H ∧ Aft k F.fl A C H (fun _ _ _ (v d : Option Int) => v = d) (m F C) (fun _ _ _ H' v => Q v H') (fun c d H' => W c d σ H')
def vLs (d : D) (C : Store) : Option (List D) := match d with
  | .scr xs => some xs
  | _ => vL d C
/-- xs[lo:hi] of a list, a new list -/
def mSlL (own : Bool) (a : ME) (l h : Fr → Store → R (Option Int)) : ME := fun F C => bnd (a F C) fun x C1 => bnd (l F C1) fun lo C2 => bnd (h F C2) fun hi C3 => match vLs x C3 with
  | some xs => ofO (some (mkL own (cutD xs lo hi) C3))
  | none => .stuck
section
variable {X : Cx} {k : Cn} {W : WX} {σ : L2.St} {H : Hp} {Q : VK}
theorem _root_.L2.PO.cq {X : Cx} {e : Option Expr} {t t' : TO} (h : PO X e t) (c : ∀ σ H Q, t' σ H Q → t σ H Q) : PO X e t' := ⟨fun pins s σ H Q I q => h.run pins s σ H Q I (c σ H Q q)⟩
theorem do_none : PO X none (LO k W mNoPart) := po_none.cq fun σ H Q h => by
  obtain ⟨A, F, C, s, h⟩ := h
  exact h A H none Stp.refl s.st rfl
theorem do_some {e : Expr} {m : ME} (h : PE X e (LE k W m)) : PO X (some e) (LO k W (mPart m)) := (po_some h).cq fun σ H Q h => by
  obtain ⟨A, F, C, s, h⟩ := h
  refine ⟨A, F, C, s, (Aft.bnd (rel := RepD k) h).mono fun dx C1 A1 H1 x p1 st1 rx h1 => ?_⟩
  cases rx with
  | int i => exact ⟨i, rfl, h1 A1 H1 (some i) Stp.refl st1 rfl⟩
  | _ => exact h1.elim
theorem vLs_at {A : Nat → Addr} {C : Store} {v : V} {d : D} {ds : List D} (st : StOk k A C H) (r : Rep k A C H v d) (e : vLs d C = some ds) : ∃ a vs, v = .ref a ∧ SqL k.K H a vs ∧ RepL k A C H vs ds := by
  cases d with
  | scr xs =>
    cases r with
    | scr l h rv => cases e; exact ⟨_, _, rfl, .inl (.inr ⟨_, h⟩), rv⟩
    | kscr h rv => cases e; exact ⟨_, _, rfl, .inr h, rv⟩
  | lst xs => obtain ⟨a, vs, rfl, ha, rv⟩ := vL_at st r e; exact ⟨a, vs, rfl, .inl (.inl ha), rv⟩
  | cell i => obtain ⟨a, vs, rfl, ha, rv⟩ := vL_at st r e; exact ⟨a, vs, rfl, .inl (.inl ha), rv⟩
  | _ => cases e
theorem le_slL {own : Bool} {ma : ME} {l h' : Fr → Store → R (Option Int)} (h : LE k W (mSlL own ma l h') σ H Q) : tSl (rSlL k.K) (LE k W ma) (LO k W l) (LO k W h') σ H Q := by
  obtain ⟨A, F, C, s, h⟩ := h
  refine ⟨A, F, C, s, (Aft.bnd (rel := RepD k) h).mono fun dx C1 A1 H1 x p1 st1 rx h1 => ?_⟩
  have s1 := s.step p1 st1
  refine ⟨A1, F, C1, s1, (Aft.bnd (rel := fun _ _ _ (v d : Option Int) => v = d) h1).mono fun lo C2 A2 H2 lo' p2 st2 rl h2 => ?_⟩
  have rl : lo' = lo := rl
  subst rl
  have s2 := s1.step p2 st2
  refine ⟨A2, F, C2, s2, (Aft.bnd (rel := fun _ _ _ (v d : Option Int) => v = d) h2).mono fun hi C3 A3 H3 hi' p3 st3 rh h3 => ?_⟩
  have rh : hi' = hi := rh
  subst rh
  have s3 := s2.step p3 st3
  split at h3
  · rename_i xs ev
    obtain ⟨a, vs, rfl, ha, rv⟩ := vLs_at st3 (p3.rep _ _ (p2.rep _ _ rx)) ev
    refine ⟨a, vs, rfl, ha, fun p hp => ?_⟩
    obtain ⟨A4, w1, w2, w3⟩ := fresh_L (own := own) s3.fl st3 (cutD_rep rv lo' hi') hp
    exact h3 A4 _ _ w1 w2 w3
  · exact h3.elim
theorem de_slL (own : Bool) {e : Expr} {lo hi : Option Expr} {p2 pos : Pos} {ma : ME} {l h : Fr → Store → R (Option Int)} (hK : X.K = k.K) (he : PE X e (LE k W ma)) (hl : PO X lo (LO k W l)) (hu : PO X hi (LO k W h)) : PE X (.Subscript e (.Slice lo hi none p2) pos) (LE k W (mSlL own ma l h)) :=
  (pe_slice sl_list he hl hu).cq fun _ _ _ h => by
    rw [hK]
    exact le_slL h
end
end CT
set_option maxHeartbeats 4000000
/-! DLA: instances made, attributes stored, properties, isinstance. -/
namespace CT
open PySem L2 PySem.Spec PyProof.Rows
/-! ### C(..) -/
def mMake (own : Bool) (c nf : Nat) (m : MF) (dds : List D) (a : MA) : ME := fun F C => bnd (a F C) fun ds C1 => match m (.cell C1.length :: (ds ++ dds)) (C1 ++ [some (.ins c [])]) with
  | .ok .non C2 => if own = true then .ok (.cell C1.length) C2 else (match C2[C1.length]? with
    | some (some (.ins c' fs)) => if c' = c ∧ fs.length = nf ∧ cbL C1.length fs = true then .ok (.obj c fs) (C2.take C1.length) else .stuck
    | _ => .stuck)
  | .exc e C2 => if cbL C1.length e.fs = true then .exc e (C2.take C1.length) else .stuck
  | _ => .stuck
def tMakeS (Cc : Addr) (sp : Sp) (dvs : List V) (E : L2.St → XK) (t : TA) : TE := fun σ H Q => t σ H fun vs H1 => ∀ x dx, H1 x = none → H1 dx = none → dx ≠ x →
  sp (.ref x :: (vs ++ dvs)) (upd (upd H1 dx (.own x)) x (.ins Cc dx [])) (fun v H2 => v = .non ∧ Q (.ref x) H2) (E σ)
section
variable {X : Cx} {k : Cn} {W : WX} {σ : L2.St} {H : Hp} {Q : VK} {lev : Nat} {f C p g : Addr} {fd : FuncData} {ps : List Str} {np : Nat} {m : MF} {dvs : List V} {dds : List D} {ds : List Value} {x nm : Str} {pn pos apos : Pos} {e o : Expr} {es : List Expr} {ma : MA} {mo : ME}
theorem le_make {own : Bool} {c nf : Nat} (ar : Ar np m) (hnf : (k.fn c).length = nf) (hdd : ∀ A C H, RepL k A C H dvs dds) (h : LE k W (mMake own c nf m dds ma) σ H Q) : tMakeS (k.cl c) (SpD k np m) dvs (WE W) (LA k W ma) σ H Q := by
  obtain ⟨A, F, C, s, h⟩ := h
  refine ⟨A, F, C, s, (Aft.bnd (rel := RepDs k) h).mono fun xs C1 A1 H1 vs p1 st1 r1 h1 => ?_⟩
  have s1 := s.step p1 st1
  intro x dx hx hdx hne
  have hx' : (upd H1 dx (.own x)) x = none := by rw [upd_ne (Ne.symm hne)]; exact hx
  have k1 : Kp A1 C1 H1 A1 C1 (upd H1 dx (.own x)) := kp_new hdx
  have st2 : StOk k A1 C1 (upd H1 dx (.own x)) := st1.new hdx
  have k2 : Kp A1 C1 (upd H1 dx (.own x)) (ext A1 C1.length x) (C1 ++ [some (.ins c [])]) (upd (upd H1 dx (.own x)) x (.ins (k.cl c) dx [])) := kp_cell (k := k) st2 hx'
  have st3 : StOk k (ext A1 C1.length x) (C1 ++ [some (.ins c [])]) (upd (upd H1 dx (.own x)) x (.ins (k.cl c) dx [])) := st2.cell hx' ⟨dx, [], upd_same, Nat.zero_le _, .nil⟩
  have pp : Stp k C1.length A1 C1 H1 (ext A1 C1.length x) (C1 ++ [some (.ins c [])]) (upd (upd H1 dx (.own x)) x (.ins (k.cl c) dx [])) := (k1.stp0).trans (k2.stp fun f h1 h2 l => low_app h2 l)
  have ppF := pp.less s1.fl
  have n1 : C1.length < (C1 ++ [some (Cell.ins c [])]).length := by simp
  have rs : RepL k (ext A1 C1.length x) (C1 ++ [some (.ins c [])]) (upd (upd H1 dx (.own x)) x (.ins (k.cl c) dx [])) (.ref x :: (vs ++ dvs)) (.cell C1.length :: (xs ++ dds)) := .cons (rep_new C1.length _) ((pp.reps r1).append (hdd _ _ _))
  have low0 : LowC C1.length (C1 ++ [some (Cell.ins c [])]) := low_app (Nat.le_refl _) st1.low
  refine sp_of (fl := C1.length) (Nat.le_of_lt n1) ar st3 rs ?_
  cases em : m (.cell C1.length :: (xs ++ dds)) (C1 ++ [some (.ins c [])]) with
  | ok d C2 =>
    rw [em] at h1
    intro A3 H3 v p3 st4 r3
    obtain ⟨ha3, hl3⟩ := cell_at p3 (ext_at A1 C1.length x) n1
    have p3n : Stp k C1.length A1 C1 H1 A3 C2 H3 := pp.trans p3
    have low3 : LowC C1.length C2 := p3.low _ (Nat.le_refl _) (Nat.le_of_lt n1) low0
    cases d with
    | non =>
      cases r3
      refine ⟨rfl, ?_⟩
      simp only at h1
      cases own with
      | true =>
        rw [if_pos rfl] at h1
        have r : Rep k A3 C2 H3 (.ref (A3 C1.length)) (.cell C1.length) := .cell hl3
        rw [ha3] at r
        exact h1 A3 H3 _ (p3n.less s1.fl) st4 r
      | false =>
        rw [if_neg (by decide)] at h1
        split at h1
        · rename_i c' fs ec
          split at h1
          · rename_i hc
            obtain ⟨rfl, hfs, hcb⟩ := hc
            obtain ⟨dx3, ws, hw, hle, rw3⟩ := st4.at_ _ _ ec
            have tl : (C2.take C1.length).length = C1.length := by rw [List.length_take]; omega
            have p4 : Stp k F.fl A1 C1 H1 A3 (C2.take C1.length) H3 := ⟨fun v d r => (p3n.rep v d r).cut (Nat.le_of_lt hl3) r.cb, by rw [tl]; exact Nat.le_refl _, fun f h1 h2 l => low_take ((p3n.less s1.fl).low f h1 h2 l)⟩
            refine h1 A3 H3 _ p4 (st4.take (Nat.le_of_lt hl3) low3) ?_
            rw [← ha3]
            refine .obj (fun l => ?_) (dx := dx3) (vs := ws) ?_ ?_ (rw3.cut (Nat.le_of_lt hl3) hcb)
            · obtain ⟨i, c, e, z⟩ := l
              by_cases hi : i < C1.length
              · rw [List.getElem?_take_of_lt hi] at e
                exact absurd (st4.inj i _ _ _ e ec z) (Nat.ne_of_lt hi)
              · rw [List.getElem?_eq_none (by rw [tl]; omega)] at e
                cases e
            · rw [hw, hfs, ← hnf, List.take_length]
            · rw [rw3.length, hfs, hnf]
          · exact h1.elim
        · exact h1.elim
    | _ => simp only at h1; exact h1.elim
  | exc e C2 =>
    rw [em] at h1
    simp only at h1
    intro A3 H3 dd ws p3 st4 hx3 hl3' r3
    obtain ⟨ha3, hl3⟩ := cell_at p3 (ext_at A1 C1.length x) n1
    have p3n : Stp k C1.length A1 C1 H1 A3 C2 H3 := pp.trans p3
    have low3 : LowC C1.length C2 := p3.low _ (Nat.le_refl _) (Nat.le_of_lt n1) low0
    split at h1
    · rename_i hcb
      have tl : (C2.take C1.length).length = C1.length := by rw [List.length_take]; omega
      have p4 : Stp k F.fl A1 C1 H1 A3 (C2.take C1.length) H3 := ⟨fun v d r => (p3n.rep v d r).cut (Nat.le_of_lt hl3) r.cb, by rw [tl]; exact Nat.le_refl _, fun f h1 h2 l => low_take ((p3n.less s1.fl).low f h1 h2 l)⟩
      exact h1 A3 H3 dd ws p4 (st4.take (Nat.le_of_lt hl3) low3) hx3 hl3' (r3.cut (Nat.le_of_lt hl3) hcb)
    · exact h1.elim
  | stuck =>
    rw [em] at h1
    exact h1.elim
/-! ### o.f = e -/
def sFldS (c n : Nat) (me mo : ME) : MS := fun F C => bndS F.sl (me F C) fun v C1 => bndS F.sl (mo F C1) fun o C2 => match o with
  | .cell i => match C2[i]? with
    | some (some (.ins c' fs)) => if c' = c ∧ n ≤ fs.length then (match wr F.fl i (.ins c (if n < fs.length then fs.set n v else fs ++ [v])) C2 with
      | some C3 => .nx F.sl C3
      | none => .stuck) else .stuck
    | _ => .stuck
  | _ => .stuck
end
theorem putF_set {y : V} {f : Str} : ∀ {names : List Str} {vs : List V} {n : Nat}, names.Nodup → vs.length = names.length → names[n]? = some f → putF f y (names.zip vs) = names.zip (vs.set n y)
  | [], _, _, _, _, h => by simp at h
  | a :: r, [], _, _, hl, _ => by simp at hl
  | a :: r, b :: t, 0, nd, hl, h => by
    simp at h
    subst h
    simp [putF]
  | a :: r, b :: t, n + 1, nd, hl, h => by
    simp at h hl
    simp only [List.nodup_cons] at nd
    have ne : ¬ (a = f) := fun e => nd.1 (by rw [e]; exact List.mem_of_getElem? h)
    rw [List.zip_cons_cons, List.set_cons_succ, List.zip_cons_cons]
    show (if a = f then _ else (a, b) :: putF f y (r.zip t)) = _
    rw [if_neg ne, putF_set nd.2 hl h]
theorem putF_new {y : V} {f : Str} : ∀ {names : List Str} {vs : List V}, f ∉ names → vs.length = names.length → putF f y (names.zip vs) = (names ++ [f]).zip (vs ++ [y])
  | [], [], _, _ => rfl
  | [], _ :: _, _, hl => by simp at hl
  | a :: r, [], _, hl => by simp at hl
  | a :: r, b :: t, h, hl => by
    simp only [List.mem_cons, not_or] at h
    simp at hl
    rw [List.zip_cons_cons]
    show (if a = f then _ else (a, b) :: putF f y (r.zip t)) = _
    rw [if_neg (fun e => h.1 e.symm), putF_new h.2 hl]
    rfl
section
variable {X : Cx} {k : Cn} {W : WX} {σ : L2.St} {H : Hp} {E : Ends} {e o : Expr} {me mo : ME} {pos pos' : Pos}
theorem ls_fld {c n : Nat} {f : Str} (hc : Cls k.K (k.cl c)) (hno : NoAttr k.K (k.cl c) f) (nd : (k.fn c).Nodup) (hf : (k.fn c)[n]? = some f) (h9 : (k.fn c).length < 1000) (h : LS k W (sFldS c n me mo) E σ H) : sFld k.K (LE k W mo) (LE k W me) f E σ H := by
  obtain ⟨A, F, C, s, h⟩ := h
  refine ⟨A, F, C, s, (AftS.bnd (rel := RepD k) s h).mono fun dv C1 A1 H1 v p1 st1 rv h1 => ?_⟩
  have s1 := s.step p1 st1
  refine ⟨A1, F, C1, s1, (AftS.bnd (rel := RepD k) s1 h1).mono fun dO C2 A2 H2 o p2 st2 ro h2 => ?_⟩
  have s2 := s1.step p2 st2
  cases ro with
  | @cell i hi =>
    simp only at h2
    split at h2
    · rename_i c' fs ec
      split at h2
      · rename_i hcn
        obtain ⟨rfl, hn⟩ := hcn
        cases ew : wr F.fl i (.ins c' (if n < fs.length then fs.set n dv else fs ++ [dv])) C2 with
        | none => simp only [ew] at h2; exact h2.elim
        | some C3 =>
          simp only [ew] at h2
          obtain ⟨dx, vs, ha, hle, rvs⟩ := st2.at_ i _ ec
          have hnl : n < (k.fn c').length := (List.getElem?_eq_some_iff.mp hf).1
          obtain ⟨rfl, hcb⟩ := wr_some ew
          have hz : (((k.fn c').take fs.length).zip vs).length < 1000 := by rw [List.length_zip, List.length_take]; omega
          refine ⟨A2 i, k.cl c', dx, _, rfl, ha, hc, hno, hz, ?_⟩
          have vl : vs.length = ((k.fn c').take fs.length).length := by rw [rvs.length, List.length_take]; omega
          have rv2 := p2.rep _ _ rv
          by_cases hlt : n < fs.length
          · rw [if_pos hlt] at h2 hcb
            have e1 : putF f v (((k.fn c').take fs.length).zip vs) = ((k.fn c').take (fs.set n dv).length).zip (vs.set n v) := by
              rw [List.length_set]
              exact putF_set (nd.sublist (List.take_sublist _ _)) vl (by rw [List.getElem?_take_of_lt hlt]; exact hf)
            rw [e1]
            have q : Kp A2 C2 H2 A2 (C2.set i (some (.ins c' (fs.set n dv)))) (upd H2 (A2 i) (.ins (k.cl c') dx (((k.fn c').take (fs.set n dv).length).zip (vs.set n v)))) := kp_write ec
            have w1 : Stp k F.fl A2 C2 H2 A2 _ _ := q.stp fun f h1 h2 l => low_set hcb h1 l
            have w2 : StOk k A2 _ _ := st2.write ec (c := .ins c' (fs.set n dv)) ⟨dx, vs.set n v, upd_same, by simpa using hle, (rvs.set rv2 n).kp q⟩
            exact h2 A2 σ _ w1 (s2.step w1 w2)
          · have en : n = fs.length := by omega
            rw [if_neg hlt] at h2 hcb
            have e1 : putF f v (((k.fn c').take fs.length).zip vs) = ((k.fn c').take (fs ++ [dv]).length).zip (vs ++ [v]) := by
              have e2 : (k.fn c').take (fs ++ [dv]).length = (k.fn c').take fs.length ++ [f] := by
                rw [List.length_append, List.length_singleton, List.take_add_one, ← en, hf]
                rfl
              rw [e2]
              refine putF_new (fun hm => ?_) vl
              obtain ⟨j, hj⟩ := List.mem_iff_getElem?.mp hm
              have hjl : j < fs.length := by
                have := (List.getElem?_eq_some_iff.mp hj).1
                rw [List.length_take] at this
                omega
              rw [List.getElem?_take_of_lt hjl] at hj
              have := nd_ix nd hj hf
              omega
            rw [e1]
            have q : Kp A2 C2 H2 A2 (C2.set i (some (.ins c' (fs ++ [dv])))) (upd H2 (A2 i) (.ins (k.cl c') dx (((k.fn c').take (fs ++ [dv]).length).zip (vs ++ [v])))) := kp_write ec
            have w1 : Stp k F.fl A2 C2 H2 A2 _ _ := q.stp fun f h1 h2 l => low_set hcb h1 l
            have w2 : StOk k A2 _ _ := st2.write ec (c := .ins c' (fs ++ [dv])) ⟨dx, vs ++ [v], upd_same, by simp; omega, (rvs.append (.cons rv2 .nil)).kp q⟩
            exact h2 A2 σ _ w1 (s2.step w1 w2)
      · exact h2.elim
    · exact h2.elim
  | _ => exact h2.elim
theorem ds_fld (c n : Nat) {f : Str} (hK : X.K = k.K) (hc : Cls k.K (k.cl c)) (hno : NoAttr k.K (k.cl c) f) (nd : (k.fn c).Nodup) (hf : (k.fn c)[n]? = some f) (h9 : (k.fn c).length < 1000) (ho : PE X o (LE k W mo)) (he : PE X e (LE k W me)) (hs : swapsWith e (some (.Attribute o f pos')) pos.line X.env = pure false := by rfl) :
    PS X (.Assign [.Attribute o f pos'] e pos) (LS k W (sFldS c n me mo)) := (ps_fld ho he hs).cq fun _ _ _ h => by
  rw [hK]
  exact ls_fld hc hno nd hf h9 h
end
end CT
set_option maxHeartbeats 4000000
/-! DLB: properties, isinstance, comprehensions as statements, two clauses. -/
namespace CT
open PySem L2 PySem.Spec PyProof.Rows
/-! ### o.f, a property -/
def mProp (c : Nat) (m : MF) (mo : ME) : ME := fun F C => bnd (mo F C) fun x C1 => match vO x C1 with
  | some (c', _) => if c' = c then (match m [x] C1 with
    | .ok d C2 => .ok d C2
    | _ => .stuck) else .stuck
  | none => .stuck
def tPropS (Cc : Addr) (sp : Sp) (ta : TE) : TE := fun σ H Q => ta σ H fun x H1 => ∃ a dx fs, x = .ref a ∧ H1 a = some (.ins Cc dx fs) ∧ sp [.ref a] H1 Q E0
section
variable {X : Cx} {k : Cn} {W : WX} {σ : L2.St} {H : Hp} {Q : VK} {lev : Nat} {C p g a dx : Addr} {fs : List (Str × V)} {f : Str} {fd : FuncData} {ps : List Str} {np : Nat} {m : MF} {e o : Expr} {pos : Pos} {ta : TE} {mo : ME}
theorem getprop_G {sp : Sp} {pins : List (Addr × Obj)} {σ : L2.St} {H : Hp} {s : Shared} {Q : VK} {b : Bool} (I : Inv X pins σ H s) (ea : H a = some (.ins C dx fs)) (c : Cls X.K C) (hp : PropOf X.K C f p g)
    (F : FnG X.prog X.w X.K X.mg X.base lev g fd ps sp) (hr : RoomG (lev + 1) X.A) (hb : Binds X.K fd ps []) (h : sp [.ref a] H Q E0) :
    wpAny (model X.prog X.w) X.A (getAttr (.ref a) f b) (EP X pins σ Q) X.xe s := by
  obtain ⟨mA, O, _, _, _, _⟩ := ins_get I.hok ea
  obtain ⟨od, J, _⟩ := O.look
  obtain ⟨rest, hrec⟩ := hp.rec_
  have I1 := I.tok (s.toks + 1)
  have hl : ([Value.ref a] ++ []).length = ps.length := by
    rw [← F.len _ _ _ _ h]
    rfl
  have hc : (PySem.W.clsIn X.K C).isSome = true := by
    obtain ⟨cd, hc, _⟩ := PySem.W.any_some c.hd
    rw [hc]
    rfl
  refine PySem.W.get_bind I.kIn J (PySem.W.plainGet_of (c.get f)).1 (PySem.W.findObj_data hc hp.at_ hp.get hp.tak) (PySem.W.plainGet_of (c.get f)).2 (wpAny_call (PySem.W.prop_get (s := { s with toks := s.toks + 1 }) I.kIn hrec ?_))
  refine codeAny_mono (F.run X.A.in1 X.stack { s with toks := s.toks + 1 } H ⟨[.ref a], []⟩ [.ref a] [.ref a] Q E0 hr.in1 I1.env0.in1 (by simpa using hb _ [.ref a] I1.kIn hl) (.cons rfl .nil) h) fun r s' hq => ?_
  cases r with
  | error er =>
    obtain ⟨_, _, _, _, _, _, _, _, _, _, _, _, z⟩ := hq
    exact z.elim
  | ok fl =>
    cases fl with
    | ret u =>
      obtain ⟨v, H', I3, rv, q3⟩ := I1.after hq
      show wpAny _ _ (handedOut u) _ _ _
      rw [PySem.W.handedOut_of (handed_of rv)]
      exact wpAny_pure ⟨v, H', I3, rv, q3⟩
    | next => exact False.elim hq
    | brk => exact False.elim hq
    | cont => exact False.elim hq
theorem pe_propG {sp : Sp} (he : PE X e ta) (c : Cls X.K C) (hp : PropOf X.K C f p g) (F : FnG X.prog X.w X.K X.mg X.base lev g fd ps sp) (hr : RoomG (lev + 1) X.A) (hb : Binds X.K fd ps [])
    (hab : attributeBase e f X.env (eval e X.env) = eval e X.env) : PE X (.Attribute e f pos) (tPropS C sp ta) := by
  refine ⟨fun pins s σ H Q I h => ?_⟩
  refine attr_of hab (thn (he.run pins s σ H _ I h) fun u s1 ⟨x, H1, I1, rx, a, dx, fs, ex, ea, q⟩ => ?_)
  subst ex
  obtain rfl : u = Value.ref a := rx
  exact getprop_G I1 ea c hp F hr hb q
theorem le_prop {c : Nat} (ar : Ar np m) (h : LE k W (mProp c m mo) σ H Q) : tPropS (k.cl c) (SpD k np m) (LE k W mo) σ H Q := by
  obtain ⟨A, F, C, s, h⟩ := h
  refine ⟨A, F, C, s, (Aft.bnd (rel := RepD k) h).mono fun dx C1 A1 H1 v p1 st1 r1 h1 => ?_⟩
  split at h1
  · rename_i c' fs ev
    split at h1
    · rename_i hcc
      subst hcc
      obtain ⟨a, dx', vs, rfl, ha, hle, rv⟩ := vO_at st1 r1 ev
      refine ⟨a, dx', _, rfl, ha, sp_of (s.step p1 st1).fl ar st1 (.cons r1 .nil) ?_⟩
      cases em : m [dx] C1 with
      | ok d C2 => rw [em] at h1; exact h1
      | exc e C2 => rw [em] at h1; exact h1.elim
      | stuck => rw [em] at h1; exact h1.elim
    · exact h1.elim
  · exact h1.elim
theorem de_prop (c : Nat) (hK : X.K = k.K) (he : PE X o (LE k W mo)) (hc : Cls k.K (k.cl c)) (hp : PropOf k.K (k.cl c) f p g) (F : FnG X.prog X.w X.K X.mg X.base lev g fd ps (SpD k np m)) (ar : Ar np m) (hr : RoomG (lev + 1) X.A) (hb : Binds X.K fd ps [])
    (hab : attributeBase o f X.env (eval o X.env) = eval o X.env := by rfl) : PE X (.Attribute o f pos) (LE k W (mProp c m mo)) :=
  (pe_propG he (by rw [hK]; exact hc) (by rw [hK]; exact hp) F hr hb hab).cq fun _ _ _ h => le_prop ar h
end
/-! ### isinstance -/
inductive Bt where
  | int | bool | str | list | tuple | dict | none
  deriving DecidableEq
def Bt.name : Bt → String
  | .int => "int" | .bool => "bool" | .str => "str" | .list => "list" | .tuple => "tuple" | .dict => "dict" | .none => "NoneType"
inductive Cc where
  | ty (b : Bt) | own (c : Nat)
def isaT : Bt → Bt → Bool
  | .bool, .int => true
  | a, b => decide (a = b)
theorem isaT_ok : ∀ a b : Bt, kitB a.name b.name = some (isaT a b) := by
  intro a b
  cases a <;> cases b <;> decide +kernel
def tyD (d : D) (C : Store) : Option Cc := match d with
  | .non => some (.ty .none) | .bl _ => some (.ty .bool) | .int _ => some (.ty .int) | .str _ => some (.ty .str)
  | .lst _ => some (.ty .list) | .tup _ => some (.ty .tuple) | .kt _ => some (.ty .tuple) | .dT _ _ => some (.ty .dict)
  | .obj c _ => some (.own c)
  | .scr _ => none
  | .exn _ _ => none
  | .cls _ => none
  | .cell i => match C[i]? with
    | some (some (.lst _)) => some (.ty .list)
    | some (some (.dT _ _)) => some (.ty .dict)
    | some (some (.ins c _)) => some (.own c)
    | _ => none
def isi (kn : List Nat) (d : D) (C : Store) (t : Cc) : Option Bool := match tyD d C with
  | some (.ty a) => (match t with
    | .ty b => some (isaT a b)
    | .own _ => some false)
  | some (.own c) => if c ∈ kn then (match t with
    | .ty _ => some false
    | .own c' => some (decide (c = c'))) else none
  | none => none
def mIsi (kn : List Nat) (t : Cc) (m : ME) : ME := fun F C => bnd (m F C) fun d C1 => match isi kn d C1 t with
  | some b => .ok (.bl b) C1
  | none => .stuck
def mIsi2 (kn : List Nat) (t u : Cc) (m : ME) : ME := fun F C => bnd (m F C) fun d C1 => match isi kn d C1 t, isi kn d C1 u with
  | some b, some b' => .ok (.bl (b || b')) C1
  | _, _ => .stuck
/-- what the written part says of the own classes in kn -/
structure IsaOk (k : Cn) (kn : List Nat) : Prop where
  ins : ∀ c ∈ kn, C8.InsC k.K (k.cl c)
  own : ∀ c ∈ kn, ∀ c' ∈ kn, PySem.W.kitOne k.K (.ref (k.cl c)) (.ref (k.cl c')) = some (decide (c = c'))
  bty : ∀ c ∈ kn, ∀ b : Bt, PySem.W.kitOne k.K (.ref (k.cl c)) (.type b.name) = some false
  tyb : ∀ c ∈ kn, ∀ b : Bt, PySem.W.kitOne k.K (.type b.name) (.ref (k.cl c)) = some false
def Cc.val (k : Cn) : Cc → Value
  | .ty b => .type b.name
  | .own c => .ref (k.cl c)
def Cc.v (k : Cn) : Cc → V
  | .ty b => .ty b.name
  | .own c => .ref (k.cl c)
def Cc.inn (kn : List Nat) : Cc → Bool
  | .ty _ => true
  | .own c => decide (c ∈ kn)
theorem Cc.cls {k : Cn} (t : Cc) : ClsV (t.v k) (t.val k) := by
  cases t with
  | ty b => exact .ty _
  | own c => exact .own _
section
variable {X : Cx} {k : Cn} {W : WX} {σ : L2.St} {H : Hp} {Q : VK}
theorem isi_ok {kn : List Nat} (ok : IsaOk k kn) {A : Nat → Addr} {C : Store} {v : V} {d : D} {t : Cc} {b : Bool} (ht : t.inn kn = true) (st : StOk k A C H) (r : Rep k A C H v d) (e : isi kn d C t = some b) : ∃ c0 : Cc, tyD d C = some c0 ∧ TyX k.K H v (c0.val k) ∧ PySem.W.kitOne k.K (c0.val k) (t.val k) = some b := by
  have base : ∀ a : Bt, tyD d C = some (.ty a) → PySem.W.kitOne k.K (.type a.name) (t.val k) = some b := fun a ea => by
    unfold isi at e
    rw [ea] at e
    cases t with
    | ty b' =>
      cases e
      exact kit_ty (isaT_ok a b')
    | own c =>
      cases e
      exact ok.tyb c (of_decide_eq_true ht) a
  have inst : ∀ c fs dx (a : Addr), tyD d C = some (.own c) → H a = some (.ins (k.cl c) dx fs) → ∃ c0 : Cc, tyD d C = some c0 ∧ TyX k.K H (.ref a) (c0.val k) ∧ PySem.W.kitOne k.K (c0.val k) (t.val k) = some b := fun c fs dx a ea ha => by
    unfold isi at e
    rw [ea] at e
    simp only at e
    split at e
    · rename_i hc
      have I := ok.ins c hc
      refine ⟨.own c, ea, .base (.ins ha I.cl I.ha I.hn I.htk I.hm), ?_⟩
      cases t with
      | ty b' => cases e; exact ok.bty c hc b'
      | own c' => cases e; exact ok.own c hc c' (of_decide_eq_true ht)
    · cases e
  cases r with
  | non => exact ⟨.ty .none, rfl, .base .non, base .none rfl⟩
  | bl b => exact ⟨.ty .bool, rfl, .base (.bl b), base .bool rfl⟩
  | int i => exact ⟨.ty .int, rfl, .base (.int i), base .int rfl⟩
  | str s => exact ⟨.ty .str, rfl, .base (.str s), base .str rfl⟩
  | lst l h rv => exact ⟨.ty .list, rfl, .base (.lst h), base .list rfl⟩
  | tup l h rv => exact ⟨.ty .tuple, rfl, .base (.tup h), base .tuple rfl⟩
  | ktup h rv =>
    obtain ⟨o, its, n, h1, h2, _⟩ := h
    exact ⟨.ty .tuple, rfl, .kTuple h1 h2, base .tuple rfl⟩
  | scr l h rv => cases e
  | kscr h rv => cases e
  | obj l h z rv => exact inst _ _ _ _ rfl h
  | exn x l h z rv => cases e
  | cls c => cases e
  | dT l h rv => exact ⟨.ty .dict, rfl, .base (.dT h), base .dict rfl⟩
  | @cell i hi =>
    cases ec : C[i]? with
    | none => simp only [isi, tyD, ec] at e; cases e
    | some oc =>
      cases oc with
      | none => simp only [isi, tyD, ec] at e; cases e
      | some c =>
        cases c with
        | lst xs =>
          obtain ⟨vs, hv, _⟩ := st.at_ i _ ec
          exact ⟨.ty .list, by simp only [tyD, ec], .base (.lst hv), base .list (by simp only [tyD, ec])⟩
        | dT ks xs =>
          obtain ⟨vs, hv, _⟩ := st.at_ i _ ec
          exact ⟨.ty .dict, by simp only [tyD, ec], .base (.dT hv), base .dict (by simp only [tyD, ec])⟩
        | ins c xs =>
          obtain ⟨dx, vs, hv, _⟩ := st.at_ i _ ec
          exact inst c _ dx _ (by simp only [tyD, ec]) hv
theorem le_isi {kn : List Nat} {t : Cc} {m : ME} (ok : IsaOk k kn) (ht : t.inn kn = true) (h : LE k W (mIsi kn t m) σ H Q) : tCB (rIsi k.K) (tCons (LE k W m) (tCons (tC (t.v k)) tNil)) σ H Q := by
  obtain ⟨A, F, C, s, h⟩ := h
  refine ⟨A, F, C, s, (Aft.bnd (rel := RepD k) h).mono fun d C1 A1 H1 v p1 st1 r1 h1 => ?_⟩
  split at h1
  · rename_i b e
    obtain ⟨c0, _, h2, h3⟩ := isi_ok ok ht st1 r1 e
    exact ⟨v, t.v k, c0.val k, t.val k, b, rfl, t.cls, h2, h3, h1 A1 H1 _ Stp.refl st1 (.bl b)⟩
  · exact h1.elim
end
end CT
set_option maxHeartbeats 4000000
/-! DLC: isinstance as an expression; comprehensions that are assigned, and of two clauses; xs[i] += e; membership; list(range(..)). -/
namespace CT
open PySem L2 PySem.Spec PyProof.Rows
section
variable {X : Cx} {k : Cn} {W : WX} {σ : L2.St} {H : Hp} {Q : VK} {E : Ends}
theorem de_isi {e c : Expr} {p pos : Pos} {kn : List Nat} {t : Cc} {m : ME} (hg : Gl X "isinstance") (hm : X.mg "isinstance" = none) (ok : IsaOk k kn) (ht : t.inn kn = true) (hK : X.K = k.K) (he : PE X e (LE k W m)) (hc : PE X c (tC (t.v k)))
    (hs : starEach [e, c] X.env = (false, eval e X.env) :: starEach [c] X.env := by rfl) (hs2 : starEach [c] X.env = (false, eval c X.env) :: starEach [] X.env := by rfl) (hpl : (backTo pos (starEach [c] X.env)).any (·.1) = false := by rfl) : PE X (.Call (.Name "isinstance" p) [e, c] [] pos) (LE k W (mIsi kn t m)) :=
  (pe_callB call_isi hg hm (by decide +kernel) (pa_cons he (pa_cons hc pa_nil hs2) hs) (he := hs) (hpl := hpl)).cq fun _ _ _ h => by
    rw [hK]
    exact le_isi ok ht h
/-! ### tests of a clause -/
def tYesM : MT := fun _ C => .ok true C
theorem _root_.L2.PTs.cq {X : Cx} {e : List Expr} {t t' : TT} (h : PTs X e t) (c : ∀ σ H Q, t' σ H Q → t σ H Q) : PTs X e t' := ⟨fun pins s σ H Q I q => h.run pins s σ H Q I (c σ H Q q)⟩
theorem dts_nil : PTs X [] (LT k W tYesM) := pts_nil.cq fun σ H Q h => by
  obtain ⟨A, F, C, s, h⟩ := h
  exact h A H true Stp.refl s.st rfl
/-! ### y = [..] -/
theorem ds_setLc {i : Nat} {y : Str} {py : Pos} {elt tg iter : Expr} {ifs : List Expr} {scope : Scope} {own : List (Str × Nat)} {pos spos : Pos} {mi : MI} {t : Tgt} {tt : MT} {te : ME} (ow : Bool) (hK : X.K = k.K) (hc : X.calm = true) (hN : X.N.Nodup) (hy : X.N[i]? = some y) (hyl : X.env.scope.names.lookup y = some .local)
    (hsw : swapsWith (.ListComp elt [⟨tg, iter, ifs, 0⟩] scope pos) (some (.Name y py)) spos.line X.env = pure true) (hi : PI X tg iter (LI k W mi)) (ok : BlkOk X.N X.env.scope scope own) (hv : ∀ i ∈ t.slots, i ∈ own.map (·.2))
    (hg : ∀ (s : Shared) (H : Hp) (C : Addr) (cl : List (Str × Addr)) (fp : List Addr), PG (X.blk s H scope (compEnvC scope cl C X.env) fp) tg (t.T k.K)) (ht : ∀ (s : Shared) (H : Hp) (C : Addr) (cl : List (Str × Addr)) (fp : List Addr), PTs (X.blk s H scope (compEnvC scope cl C X.env) fp) ifs (LT k WF tt))
    (he : ∀ (s : Shared) (H : Hp) (C : Addr) (cl : List (Str × Addr)) (fp : List Addr), PE (X.blk s H scope (compEnvC scope cl C X.env) fp) elt (LE k WF te)) (hs : ∀ x, foldedSetIterable iter X.env x = pure x := by intro _; rfl) :
    PS X (.Assign [.Name y py] (.ListComp elt [⟨tg, iter, ifs, 0⟩] scope pos) spos) (LS k W (sAsg (mLc ow mi t.M tt te (own.map (·.2))) (gN i))) :=
  (ps_setLc hc hN hy hyl hsw hi ok hg ht he hs).cq fun _ _ _ h => le_lc hv (ls_asg2 (t := .nm i) h)
/-! ### two clauses -/
def lc2N (it : ItD) (g : MG) (tt : MT) (mi1 : MI) (g1 : MG) (tt1 : MT) (te : ME) (n : Nat) (sl : List (Option D)) (vs1 : List Nat) : Nat → Nat → Store → R Unit
  | 0, _, C => if it.fin C = true then .ok () C else .stuck
  | r + 1, j, C => match it.item j C with
    | none => .stuck
    | some d => match g d sl with
      | none => .stuck
      | some sl1 => bn0 (tt ⟨n, sl1⟩ C) fun b C1 => if b = true then bn0 (mi1 ⟨n, sl1⟩ C1) fun it1 C2 => bn0 (lcN it1 g1 tt1 te n (wipeD sl1 vs1) it1.n 0 C2) fun _ C3 => lc2N it g tt mi1 g1 tt1 te n sl vs1 r (j + 1) C3
        else lc2N it g tt mi1 g1 tt1 te n sl vs1 r (j + 1) C1
def mLc2 (own : Bool) (mi : MI) (g : MG) (tt : MT) (mi1 : MI) (g1 : MG) (tt1 : MT) (te : ME) (vs vs1 : List Nat) : ME := fun F C => bnd (mi F C) fun it C1 => bn0 (lc2N it g tt mi1 g1 tt1 te C1.length (wipeD F.sl vs) vs1 it.n 0 (C1 ++ [some (.lst [])])) fun _ C2 => lcEnd own C1.length C2
theorem bn0_out {α β : Type} {m : R α} {f : α → Store → R β} {b : β} {C : Store} (h : bn0 m f = .ok b C) : ∃ a C1, m = .ok a C1 ∧ f a C1 = .ok b C := by
  cases m with
  | ok a C1 => exact ⟨a, C1, rfl, h⟩
  | exc e C1 => cases h
  | stuck => cases h
/-- the inner loop -/
theorem lc_inner {fl n : Nat} {J : It} {it : ItD} {t : Tgt} {tt : MT} {te : ME} {vs : List Nat} {sl0 : List (Option D)} {A : Nat → Addr} {C C3 : Store} {Dl : Addr} {Nx : Hp → Prop} (hv : ∀ i ∈ t.slots, i ∈ vs) (hf : fl ≤ n) (ok : ItOk k fl J it A C H) (sr : SR k A ⟨n, sl0⟩ C σ H) (hn : n < C.length) (ha : A n = Dl)
    (e : lcN it t.M tt te n (wipeD sl0 vs) it.n 0 C = .ok () C3) (hN : ∀ A' H', Stp k n A C H A' C3 H' → StOk k A' C3 H' → Nx H') :
    ∃ W1 : Nat → Nat → Hp → Prop, (∃ m, W1 0 m H) ∧ ∀ i m H, W1 i m H → (J.stop i H ∧ Nx H) ∨ (J.go i H ∧ ∃ Nx1 : Hp → Prop, (∀ H', Nx1 H' → ∃ m', m' < m ∧ W1 (i + 1) m' H') ∧ ∀ x H', J.yld i H x H' → t.T k.K x (L2.wipe σ vs) H' fun σ3 H5 => L2.wipe σ3 vs = L2.wipe σ vs ∧ LT k WF tt σ3 H5 fun b H6 =>
      if b = true then LE k WF te σ3 H6 fun y H7 => ∃ acc, H7 Dl = some (.lst acc) ∧ acc.length < sizeLine ∧ Nx1 (upd H7 Dl (.lst (acc ++ [y]))) else Nx1 H6) := by
  refine ⟨fun i m H' => ∃ A' C', m = it.n - i ∧ i ≤ it.n ∧ Stp k n A C H A' C' H' ∧ StOk k A' C' H' ∧ lcN it t.M tt te n (wipeD sl0 vs) (it.n - i) i C' = .ok () C3,
    ⟨it.n, _, _, rfl, Nat.zero_le _, Stp.refl, sr.st, e⟩, ?_⟩
  rintro i m H' ⟨A', C', rfl, hi, p, st', h'⟩
  obtain ⟨ha', hl'⟩ := cell_at p ha hn
  have low' : LowC n C' := p.low _ (Nat.le_refl _) (Nat.le_of_lt hn) sr.low
  obtain ⟨o1, o2⟩ := ok A' C' H' (p.less hf) st'
  cases er : it.n - i with
  | zero =>
    rw [er] at h'
    unfold lcN at h'
    have e : i = it.n := by omega
    split at h'
    · rename_i hf
      cases h'
      subst e
      exact .inl ⟨o2 hf, hN A' H' p st'⟩
    · cases h'
  | succ r =>
    rw [er] at h'
    unfold lcN at h'
    have hlt : i < it.n := by omega
    have hr : it.n - (i + 1) = r := by omega
    cases ei : it.item i C' with
    | none => simp only [ei] at h'; cases h'
    | some d =>
      simp only [ei] at h'
      obtain ⟨g1, g2⟩ := o1 i d hlt ei
      cases eg : t.M d (wipeD sl0 vs) with
      | none => simp only [eg] at h'; cases h'
      | some sl1 =>
        simp only [eg] at h'
        refine .inr ⟨g1, fun H4 => ∃ A4 C4, Stp k n A C H A4 C4 H4 ∧ StOk k A4 C4 H4 ∧ lcN it t.M tt te n (wipeD sl0 vs) (it.n - (i + 1)) (i + 1) C4 = .ok () C3,
          fun H4 ⟨A4, C4, a, b, c⟩ => ⟨it.n - (i + 1), by omega, A4, C4, rfl, by omega, a, b, c⟩, fun x H'' y => ?_⟩
        obtain ⟨A'', py, sty, rx⟩ := g2 x H'' y
        have py' : Stp k n A' C' H' A'' C' H'' := ⟨py.rep, py.len, fun f _ _ h => h⟩
        have s9 : SR k A'' ⟨n, wipeD sl0 vs⟩ C' (L2.wipe σ vs) H'' := ((sr.re (p.trans py') sty low' (Nat.le_of_lt hl')).wipe vs)
        refine Tgt.of (vs0 := vs) s9 rx eg fun σ2 s2 w2 => ⟨by rw [w2 hv, wipe_wipe], A'', ⟨n, sl1⟩, C', s2, ?_⟩
        cases et : tt ⟨n, sl1⟩ C' with
        | ok b C5 =>
          rw [et] at h'
          simp only [bn0_ok] at h'
          intro A5 H5 v5 p5 st5 e5
          have e5 : v5 = b := e5
          subst e5
          have s5 := s2.step p5 st5
          cases v5 with
          | true =>
            rw [if_pos rfl] at h'
            refine iteT ⟨A5, ⟨n, sl1⟩, C5, s5, ?_⟩
            cases ee : te ⟨n, sl1⟩ C5 with
            | ok yd C6 =>
              rw [ee] at h'
              simp only [bn0_ok] at h'
              intro A6 H6 v6 p6 st6 r6
              have pall := (p.trans py').trans (p5.trans p6)
              obtain ⟨ha6, hl6⟩ := cell_at pall ha hn
              split at h'
              · rename_i acc hc
                split at h'
                · rename_i hz
                  obtain ⟨ws, hw, rw6⟩ := st6.at_ _ _ hc
                  rw [ha6] at hw
                  obtain ⟨q1, q2⟩ := push_L (k := k) (fl := n) (Nat.le_refl _) st6 ha6 hc hw r6
                  refine ⟨ws, hw, by have := szN_le hz; rw [rw6.length]; omega, A6, _, pall.trans q1, q2, ?_⟩
                  rw [hr]
                  exact h'
                · cases h'
              · cases h'
            | exc e C6 => rw [ee] at h'; cases h'
            | stuck => rw [ee] at h'; cases h'
          | false =>
            rw [if_neg (by decide)] at h'
            refine iteF ⟨A5, C5, (p.trans py').trans p5, st5, ?_⟩
            rw [hr]
            exact h'
        | exc e C5 => rw [et] at h'; cases h'
        | stuck => rw [et] at h'; cases h'
theorem le_lc2 {own : Bool} {mi mi1 : MI} {t t1 : Tgt} {tt tt1 : MT} {te : ME} {vs vs1 : List Nat} (hv : ∀ i ∈ t.slots, i ∈ vs) (hv1 : ∀ i ∈ t1.slots, i ∈ vs1) (h : LE k W (mLc2 own mi t.M tt mi1 t1.M tt1 te vs vs1) σ H Q) :
    tLc2 (LI k W mi) (t.T k.K) (LT k WF tt) (LI k WF mi1) (t1.T k.K) (LT k WF tt1) (LE k WF te) vs vs1 σ H Q := by
  obtain ⟨A, F, C, s, h⟩ := h
  refine ⟨A, F, C, s, (Aft.bnd (rel := fun A C H (J : It) (it : ItD) => ItOk k F.fl J it A C H) h).mono fun it C1 A1 H1 J p1 st1 ok h1 => ?_⟩
  have s1 := s.step p1 st1
  intro Dl hD
  have q0 : Kp A1 C1 H1 (ext A1 C1.length Dl) (C1 ++ [some (.lst [])]) (upd H1 Dl (.lst [])) := kp_cell (k := k) st1 hD
  have p2 : Stp k C1.length A1 C1 H1 (ext A1 C1.length Dl) (C1 ++ [some (.lst [])]) (upd H1 Dl (.lst [])) := q0.stp fun f h1 h2 l => low_app h2 l
  have p2' : Stp k F.fl A1 C1 H1 (ext A1 C1.length Dl) (C1 ++ [some (.lst [])]) (upd H1 Dl (.lst [])) := p2.less s1.fl
  have st2 : StOk k (ext A1 C1.length Dl) (C1 ++ [some (.lst [])]) (upd H1 Dl (.lst [])) := st1.cell hD ⟨[], upd_same, .nil⟩
  have n1 : C1.length < (C1 ++ [some (Cell.lst [])]).length := by simp
  have low1 : LowC C1.length (C1 ++ [some (Cell.lst [])]) := p2.low _ (Nat.le_refl _) (Nat.le_refl _) st1.low
  obtain ⟨C3, e3, h3⟩ := bn0_inv h1
  refine ⟨fun i m H' => ∃ A' C', m = it.n - i ∧ i ≤ it.n ∧ Stp k C1.length (ext A1 C1.length Dl) (C1 ++ [some (.lst [])]) (upd H1 Dl (.lst [])) A' C' H' ∧ StOk k A' C' H' ∧ lc2N it t.M tt mi1 t1.M tt1 te C1.length (wipeD F.sl vs) vs1 (it.n - i) i C' = .ok () C3,
    ⟨it.n, _, _, rfl, Nat.zero_le _, Stp.refl, st2, e3⟩, ?_⟩
  rintro i m H' ⟨A', C', rfl, hi, p, st', h'⟩
  obtain ⟨ha', hl'⟩ := cell_at p (ext_at A1 C1.length Dl) n1
  have low' : LowC C1.length C' := p.low _ (Nat.le_refl _) (Nat.le_of_lt n1) low1
  have pF : Stp k F.fl (ext A1 C1.length Dl) (C1 ++ [some (.lst [])]) (upd H1 Dl (.lst [])) A' C' H' := p.less s1.fl
  obtain ⟨o1, o2⟩ := ok A' C' H' (p2'.trans pF) st'
  cases er : it.n - i with
  | zero =>
    rw [er] at h'
    unfold lc2N at h'
    have e : i = it.n := by omega
    split at h'
    · rename_i hf
      cases h'
      subst e
      exact .inl ⟨o2 hf, le_lcEnd s1.fl Stp.refl st1 (p2'.trans pF) low' st' ha' hl' h3⟩
    · cases h'
  | succ r =>
    rw [er] at h'
    unfold lc2N at h'
    have hlt : i < it.n := by omega
    have hr : it.n - (i + 1) = r := by omega
    cases ei : it.item i C' with
    | none => simp only [ei] at h'; cases h'
    | some d =>
      simp only [ei] at h'
      obtain ⟨g1, g2⟩ := o1 i d hlt ei
      cases eg : t.M d (wipeD F.sl vs) with
      | none => simp only [eg] at h'; cases h'
      | some sl1 =>
        simp only [eg] at h'
        refine .inr ⟨g1, fun H4 => ∃ A4 C4, Stp k C1.length (ext A1 C1.length Dl) (C1 ++ [some (.lst [])]) (upd H1 Dl (.lst [])) A4 C4 H4 ∧ StOk k A4 C4 H4 ∧ lc2N it t.M tt mi1 t1.M tt1 te C1.length (wipeD F.sl vs) vs1 (it.n - (i + 1)) (i + 1) C4 = .ok () C3,
          fun H4 ⟨A4, C4, a, b, c⟩ => ⟨it.n - (i + 1), by omega, A4, C4, rfl, by omega, a, b, c⟩, fun x H'' y => ?_⟩
        obtain ⟨A'', py, sty, rx⟩ := g2 x H'' y
        have py' : Stp k C1.length A' C' H' A'' C' H'' := ⟨py.rep, py.len, fun f _ _ h => h⟩
        have sr : SR k A'' ⟨C1.length, wipeD F.sl vs⟩ C' (L2.wipe σ vs) H'' := ((s1.re (p2.trans (p.trans py')) sty low' (Nat.le_of_lt hl')).wipe vs)
        refine Tgt.of (vs0 := vs) sr rx eg fun σ2 s2 w2 => ⟨by rw [w2 hv, wipe_wipe], A'', ⟨C1.length, sl1⟩, C', s2, ?_⟩
        obtain ⟨b, C5, et, h'⟩ := bn0_out h'
        rw [et]
        intro A5 H5 v5 p5 st5 e5
        have e5 : v5 = b := e5
        subst e5
        have s5 := s2.step p5 st5
        cases v5 with
        | true =>
          rw [if_pos rfl] at h'
          obtain ⟨it1, C6, em, h'⟩ := bn0_out h'
          obtain ⟨u, C7, el, h'⟩ := bn0_out h'
          refine iteT ⟨A5, ⟨C1.length, sl1⟩, C5, s5, ?_⟩
          rw [em]
          intro A6 H6 J1 p6 st6 ok6
          have pall := (p.trans py').trans (p5.trans p6)
          obtain ⟨ha6, hl6⟩ := cell_at pall (ext_at A1 C1.length Dl) n1
          refine lc_inner (fl := C1.length) (n := C1.length) hv1 (Nat.le_refl _) ok6 (s5.step p6 st6) hl6 ha6 el fun A7 H7 p7 st7 => ⟨A7, C7, pall.trans p7, st7, ?_⟩
          rw [hr]
          exact h'
        | false =>
          rw [if_neg (by decide)] at h'
          refine iteF ⟨A5, C5, (p.trans py').trans p5, st5, ?_⟩
          rw [hr]
          exact h'
section
variable {elt tg iter tg1 iter1 : Expr} {ifs ifs1 : List Expr} {scope : Scope} {own : List (Str × Nat)} {vs1 : List Nat} {pos : Pos} {mi mi1 : MI} {t t1 : Tgt} {tt tt1 : MT} {te : ME}
theorem de_lc2 (ow : Bool) (hK : X.K = k.K) (hc : X.calm = true) (hN : X.N.Nodup) (hi : PI X tg iter (LI k W mi)) (ok : BlkOk X.N X.env.scope scope own) (hv : ∀ i ∈ vs1, i ∈ own.map (·.2)) (hv0 : ∀ i ∈ t.slots, i ∈ own.map (·.2)) (hv1 : ∀ i ∈ t1.slots, i ∈ vs1)
    (hg : ∀ (s : Shared) (H : Hp) (C : Addr) (cl : List (Str × Addr)) (fp : List Addr), PG (X.blk s H scope (compEnvC scope cl C X.env) fp) tg (t.T k.K)) (ht : ∀ (s : Shared) (H : Hp) (C : Addr) (cl : List (Str × Addr)) (fp : List Addr), PTs (X.blk s H scope (compEnvC scope cl C X.env) fp) ifs (LT k WF tt))
    (hi1 : ∀ (s : Shared) (H : Hp) (C : Addr) (cl : List (Str × Addr)) (fp : List Addr), PI (X.blk s H scope (compEnvC scope cl C X.env) fp) tg1 iter1 (LI k WF mi1))
    (hg1 : ∀ (s : Shared) (H : Hp) (C : Addr) (cl : List (Str × Addr)) (fp : List Addr), PG (X.blk s H scope (compEnvC scope cl C X.env) fp) tg1 (t1.T k.K)) (ht1 : ∀ (s : Shared) (H : Hp) (C : Addr) (cl : List (Str × Addr)) (fp : List Addr), PTs (X.blk s H scope (compEnvC scope cl C X.env) fp) ifs1 (LT k WF tt1))
    (he : ∀ (s : Shared) (H : Hp) (C : Addr) (cl : List (Str × Addr)) (fp : List Addr), PE (X.blk s H scope (compEnvC scope cl C X.env) fp) elt (LE k WF te)) (hs : ∀ x, foldedSetIterable iter X.env x = pure x := by intro _; rfl) (hs1 : ∀ env x, foldedSetIterable iter1 env x = pure x := by intro _ _; rfl) :
    PE X (.ListComp elt [⟨tg, iter, ifs, 0⟩, ⟨tg1, iter1, ifs1, 0⟩] scope pos) (LE k W (mLc2 ow mi t.M tt mi1 t1.M tt1 te (own.map (·.2)) vs1)) :=
  (pe_lc2 hc hN hi ok hv hg ht hi1 hg1 ht1 he hs hs1).cq fun _ _ _ h => le_lc2 hv0 hv1 h
theorem ds_setLc2 {i : Nat} {y : Str} {py spos : Pos} (ow : Bool) (hK : X.K = k.K) (hc : X.calm = true) (hN : X.N.Nodup) (hy : X.N[i]? = some y) (hyl : X.env.scope.names.lookup y = some .local)
    (hsw : swapsWith (.ListComp elt [⟨tg, iter, ifs, 0⟩, ⟨tg1, iter1, ifs1, 0⟩] scope pos) (some (.Name y py)) spos.line X.env = pure true) (hi : PI X tg iter (LI k W mi)) (ok : BlkOk X.N X.env.scope scope own) (hv : ∀ i ∈ vs1, i ∈ own.map (·.2)) (hv0 : ∀ i ∈ t.slots, i ∈ own.map (·.2)) (hv1 : ∀ i ∈ t1.slots, i ∈ vs1)
    (hg : ∀ (s : Shared) (H : Hp) (C : Addr) (cl : List (Str × Addr)) (fp : List Addr), PG (X.blk s H scope (compEnvC scope cl C X.env) fp) tg (t.T k.K)) (ht : ∀ (s : Shared) (H : Hp) (C : Addr) (cl : List (Str × Addr)) (fp : List Addr), PTs (X.blk s H scope (compEnvC scope cl C X.env) fp) ifs (LT k WF tt))
    (hi1 : ∀ (s : Shared) (H : Hp) (C : Addr) (cl : List (Str × Addr)) (fp : List Addr), PI (X.blk s H scope (compEnvC scope cl C X.env) fp) tg1 iter1 (LI k WF mi1))
    (hg1 : ∀ (s : Shared) (H : Hp) (C : Addr) (cl : List (Str × Addr)) (fp : List Addr), PG (X.blk s H scope (compEnvC scope cl C X.env) fp) tg1 (t1.T k.K)) (ht1 : ∀ (s : Shared) (H : Hp) (C : Addr) (cl : List (Str × Addr)) (fp : List Addr), PTs (X.blk s H scope (compEnvC scope cl C X.env) fp) ifs1 (LT k WF tt1))
    (he : ∀ (s : Shared) (H : Hp) (C : Addr) (cl : List (Str × Addr)) (fp : List Addr), PE (X.blk s H scope (compEnvC scope cl C X.env) fp) elt (LE k WF te)) (hs : ∀ x, foldedSetIterable iter X.env x = pure x := by intro _; rfl) (hs1 : ∀ env x, foldedSetIterable iter1 env x = pure x := by intro _ _; rfl) :
    PS X (.Assign [.Name y py] (.ListComp elt [⟨tg, iter, ifs, 0⟩, ⟨tg1, iter1, ifs1, 0⟩] scope pos) spos) (LS k W (sAsg (mLc2 ow mi t.M tt mi1 t1.M tt1 te (own.map (·.2)) vs1) (gN i))) :=
  (ps_setLc2 hc hN hy hyl hsw hi ok hv hg ht hi1 hg1 ht1 he hs hs1).cq fun _ _ _ h => le_lc2 hv0 hv1 (ls_asg2 (t := .nm i) h)
end
/-! ### xs[i] += e -/
def sAugL (o : Int → Int → Int) (mo mi me : ME) : MS := fun F C => bndS F.sl (mo F C) fun l C1 => bndS F.sl (mi F C1) fun x C2 => match x, cL l C2 with
  | .int n, some (_, ds) => if 0 ≤ n then (match ds[n.toNat]? with
    | some (.int a) => bndS F.sl (me F C2) fun v C3 => (match v, cL l C3 with
      | .int b, some (i, es) => (match ixN es.length n with
        | some j => (match wr F.fl i (.lst (es.set j (.int (o a b)))) C3 with
          | some C4 => .nx F.sl C4
          | none => .stuck)
        | none => .stuck)
      | _, _ => .stuck)
    | _ => .stuck) else .stuck
  | _, _ => .stuck
def rGetL : V → V → Hp → VK → Prop := fun o i H Q => ∃ p xs n v, o = .ref p ∧ i = .int n ∧ H p = some (.lst xs) ∧ 0 ≤ n ∧ xs[n.toNat]? = some v ∧ Q v H
theorem pget_L : PGet X rGetL := by
  intro pins s σ H o i ov iv Q I ro ri h
  obtain ⟨p, xs, n, v, rfl, rfl, hp, h0, hx, q⟩ := h
  cases ro
  obtain ⟨t, rfl⟩ := ri
  obtain ⟨its, r, pl, hz⟩ := I.list (Or.inl (Or.inl hp))
  obtain ⟨w, ew, rw'⟩ := r.get hx
  have hl := r.length
  have hn := line63
  have hlt : n.toNat < xs.length := (List.getElem?_eq_some_iff.mp hx).1
  exact wpAny_getItem_list pl.isList h0 (by omega) (by simpa using ew) ⟨v, H, I, rw', q⟩
theorem ls_augL {o : Int → Int → Int} {mo mi me : ME} (h : LS k W (sAugL o mo mi me) E σ H) : tAugS (LE k W mo) (LE k W mi) (LE k W me) rGetL (ipI o) rSetL E σ H := by
  obtain ⟨A, F, C, s, h⟩ := h
  refine ⟨A, F, C, s, (AftS.bnd (rel := RepD k) s h).mono fun dl C1 A1 H1 l p1 st1 rl h1 => ?_⟩
  have s1 := s.step p1 st1
  refine ⟨A1, F, C1, s1, (AftS.bnd (rel := RepD k) s1 h1).mono fun dx C2 A2 H2 x p2 st2 rx h2 => ?_⟩
  have s2 := s1.step p2 st2
  have rl2 := p2.rep _ _ rl
  cases rx with
  | int n =>
    cases ec : cL dl C2 with
    | none => simp only [ec] at h2; exact h2.elim
    | some q =>
      obtain ⟨i, ds⟩ := q
      simp only [ec] at h2
      obtain ⟨rfl, rfl, hi, vs, hv, rvs⟩ := cL_at st2 rl2 ec
      split at h2
      · rename_i h0
        split at h2
        · rename_i a ea
          obtain ⟨v, ev, rv⟩ := rvs.get ea
          cases rv
          refine ⟨A2 i, vs, n, _, rfl, rfl, hv, h0, ev, A2, F, C2, s2, (AftS.bnd (rel := RepD k) s2 h2).mono fun dv C3 A3 H3 w p3 st3 rw3 h3 => ?_⟩
          have s3 := s2.step p3 st3
          cases rw3 with
          | int b =>
            cases ec3 : cL (.cell i) C3 with
            | none => simp only [ec3] at h3; exact h3.elim
            | some q =>
              obtain ⟨i', es⟩ := q
              simp only [ec3] at h3
              obtain ⟨ei, ev3, hi3, ws, hw, rws⟩ := cL_at st3 (p3.rep _ _ rl2) ec3
              cases ei
              cases ej : ixN es.length n with
              | none => simp only [ej] at h3; exact h3.elim
              | some j =>
                simp only [ej] at h3
                cases ew : wr F.fl i (.lst (es.set j (.int (o a b)))) C3 with
                | none => simp only [ew] at h3; exact h3.elim
                | some C4 =>
                  simp only [ew] at h3
                  obtain ⟨q1, q2⟩ := write_L st3 hi3 (rws.set (.int (o a b)) j) ew
                  exact ⟨a, b, rfl, rfl, A3 i, ws, n, j, ev3, rfl, hw, by rw [rws.length]; exact ej, h3 A3 σ _ q1 (s3.step q1 q2)⟩
          | _ => exact h3.elim
        · exact h2.elim
      · exact h2.elim
  | _ => exact h2.elim
theorem ds_augL {o i e : Expr} {op : Operator} {f : Int → Int → Int} {tpos pos : Pos} {mo mi me : ME} (hp : PIp X op (ipI f)) (ho : PE X o (LE k W mo)) (hi : PE X i (LE k W mi)) (he : PE X e (LE k W me))
    (ha : ∀ ov iv new, augStore i ov iv new = (do holding [new, ov, iv] (setItem ov iv new); release [new, ov, iv] []; pure .next) := by intros; rfl) : PS X (.AugAssign (.Subscript o i tpos) op e pos) (LS k W (sAugL f mo mi me)) :=
  (ps_augS ho hi pget_L he hp set_list ha).cq fun _ _ _ h => ls_augL h
/-! ### x in a tuple or list of data -/
def rInA (K : PySem.W.Frag) (neg : Bool) : R2 := fun x y H Q => ∃ d ds l, Dp K H x d ∧ Dp K H y l ∧ (l = .list ds ∨ l = .tuple ds) ∧ SeqAt.shaped d = true ∧ SeqAt.shaped l = true ∧ Q (.bl (if neg = true then !(ds.any fun z => PyData.eqv z d) else ds.any fun z => PyData.eqv z d)) H
theorem op_inA (hu : X.A.units + 65 < cLine) : OpR X (compareOp .In) (rInA X.K false) := by
  intro pins s σ H x y v u Q I rx ry h
  obtain ⟨d, ds, l, hd, he, hl, sd, se, q⟩ := h
  obtain ⟨as, r1⟩ := Dp.reads I d x v hd rx
  obtain ⟨bs, r2⟩ := Dp.reads I l y u he ry
  rcases hl with rfl | rfl
  · exact SeqAt.in_list_reads r2 r1 (SeqAt.canLay_of_shaped se) (SeqAt.canLay_of_shaped sd) (room_in_shaped sd hu) ⟨.bl _, H, I, rfl, q⟩
  · exact SeqAt.in_tuple_reads r2 r1 (SeqAt.canLay_of_shaped se) (SeqAt.canLay_of_shaped sd) (room_in_shaped sd hu) ⟨.bl _, H, I, rfl, q⟩
theorem op_notInA (hu : X.A.units + 65 < cLine) : OpR X (compareOp .NotIn) (rInA X.K true) := by
  intro pins s σ H x y v u Q I rx ry h
  obtain ⟨d, ds, l, hd, he, hl, sd, se, q⟩ := h
  obtain ⟨as, r1⟩ := Dp.reads I d x v hd rx
  obtain ⟨bs, r2⟩ := Dp.reads I l y u he ry
  rcases hl with rfl | rfl
  · exact SeqAt.notIn_list_reads r2 r1 (SeqAt.canLay_of_shaped se) (SeqAt.canLay_of_shaped sd) (room_in_shaped sd hu) ⟨.bl _, H, I, rfl, q⟩
  · exact SeqAt.notIn_tuple_reads r2 r1 (SeqAt.canLay_of_shaped se) (SeqAt.canLay_of_shaped sd) (room_in_shaped sd hu) ⟨.bl _, H, I, rfl, q⟩
def itemsP : PyData → Option (List PyData)
  | .list ds => some ds
  | .tuple ds => some ds
  | _ => none
def oInD (neg : Bool) : O2 := fun x y C => match toP C x, toP C y with
  | some p, some q => (match itemsP q with
    | some ds => if (SeqAt.shaped p && SeqAt.shaped q) = true then some (.bl (if neg = true then !(ds.any fun z => PyData.eqv z p) else ds.any fun z => PyData.eqv z p), C) else none
    | none => none)
  | _, _ => none
theorem d_inD {neg : Bool} : OpD k (rInA k.K neg) (oInD neg) := by
  intro fl A C H x y dx dy d C' Q hf hl st rx ry e q
  simp only [oInD] at e
  split at e
  · rename_i p q' e1 e2
    split at e
    · rename_i ds eds
      split at e
      · rename_i hs
        simp only [Bool.and_eq_true] at hs
        cases e
        refine ⟨p, ds, q', toP_dp st rx e1, toP_dp st ry e2, ?_, hs.1, hs.2, q A H _ Stp.refl st (.bl _)⟩
        cases q' <;> simp only [itemsP] at eds <;> cases eds <;> simp
      · cases e
    · cases e
  · cases e
end
end CT
set_option maxHeartbeats 4000000
/-! DLD: list(range(..)), sorted(..), dict(..). -/
namespace CT
open PySem L2 PySem.Spec PyProof.Rows
/-! ### sorted -/
def rSortA (K : PySem.W.Frag) : List V → Hp → VK → Prop := fun xs H Q => ∃ (a : Addr) (β : Type) (bs : List β) (f : β → V) (enc : β → PyData), xs = [.ref a] ∧ SqL K H a (bs.map f) ∧ (∀ b ∈ bs, Dp K H (f b) (enc b)) ∧ PySem.W.AllAlike (bs.map enc) ∧ PySem.W.Sortable (bs.map enc) ∧ (∀ b ∈ bs, (enc b).depth ≤ 60) ∧
  ∀ p, H p = none → Q (.ref p) (upd H p (.lst ((bs.mergeSort (PySem.W.dataLe false enc)).map f)))
theorem each_vals {β : Type} {f : β → V} : ∀ {bs : List β} {us : List Value}, Vals (bs.map f) us → PySem.W.EachIs (fun u b => RelV (f b) u) us bs
  | [], _, .nil => .nil
  | _ :: _, _, .cons r t => .cons r (each_vals t)
theorem vals_each {β : Type} {f : β → V} : ∀ {bs : List β} {us : List Value}, PySem.W.EachIs (fun u b => RelV (f b) u) us bs → Vals (bs.map f) us
  | _, _, .nil => .nil
  | _, _, .cons r t => .cons r (vals_each t)
theorem each_in {α β : Type} {R S : α → β → Prop} : ∀ {us : List α} {bs : List β}, PySem.W.EachIs R us bs → (∀ u b, b ∈ bs → R u b → S u b) → PySem.W.EachIs S us bs
  | _, _, .nil, _ => .nil
  | _, _, .cons r t, h => .cons (h _ _ (List.mem_cons_self ..) r) (each_in t fun u b hb => h u b (List.mem_cons_of_mem _ hb))
section
variable {X : Cx} {k : Cn} {W : WX} {σ : L2.St} {H : Hp} {Q : VK}
theorem cr_sortA (hu : X.A.units + 200 < cLine) : CallR X (.builtin "sorted") (rSortA X.K) := by
  intro pins s σ H xs us Q I r h
  obtain ⟨a, β, bs, f, enc, rfl, hs, hd, hal, hk, hdp, q⟩ := h
  obtain ⟨its, rv, hl, hz⟩ := I.list hs
  obtain ⟨u, rfl, ru⟩ := vals1 r
  obtain rfl : u = Value.ref a := ru
  have e := each_vals rv
  rw [List.length_map] at hz
  refine PySem.W.sorted_data hl.isList e (each_in e fun u b hb rb => Dp.reads I _ _ _ (hd b hb) rb) hal hk hz (fun b hb => by have := hdp b hb; omega) fun out ho eo => ?_
  obtain ⟨c, hc⟩ := sortedAll_at s.heap its out.toArray
  have hle : s.heap.objs.size ≤ s.heap.objs.size + 1 := Nat.le_succ _
  refine ⟨.ref (s.heap.objs.size + 1), _, I.laid (t' := s.toks) (o := .lst ((bs.mergeSort (PySem.W.dataLe false enc)).map f)) (fun b o hb => sortedAll_old hb) hle ⟨?_, out, c, vals_each eo, hc⟩, rfl, q _ (I.hok.fresh hle)⟩
  rw [List.length_map, List.length_mergeSort]
  exact hz
end
end CT
set_option maxHeartbeats 4000000
/-! DLE: sorted and dict(d) over data. -/
namespace CT
open PySem L2 PySem.Spec PyProof.Rows
def encD (C : Store) (d : D) : PyData := (toP C d).getD .none
def tup1 : PyData → Bool
  | .tuple (_ :: _) => true
  | _ => false
def nTup : PyData → Bool
  | .tuple _ => false
  | .none => false
  | _ => true
def srtb (ps : List PyData) : Bool := (ps.all fun d => ps.all fun e => PySem.W.alike d e) && (ps.all tup1 || ps.all nTup)
theorem srtb_ok {ps : List PyData} (h : srtb ps = true) : PySem.W.AllAlike ps ∧ PySem.W.Sortable ps := by
  simp only [srtb, Bool.and_eq_true, Bool.or_eq_true, List.all_eq_true] at h
  refine ⟨fun d hd e he => h.1 d hd e he, ?_⟩
  rcases h.2 with h | h
  · refine .inl fun d hd => ?_
    have := h d hd
    cases d with
    | tuple xs =>
      cases xs with
      | nil => simp [tup1] at this
      | cons x r => exact ⟨x, r, rfl⟩
    | _ => simp [tup1] at this
  · refine .inr fun d hd => ?_
    have := h d hd
    cases d with
    | tuple xs => simp [nTup] at this
    | none => simp [nTup] at this
    | _ => exact ⟨by simp, by simp⟩
def oSortL (own : Bool) : OA := fun xs C => match xs with
  | [x] => (match vL x C with
    | some ds => if (ds.all (fun d => (toP C d).isSome && decide ((encD C d).depth ≤ 60)) && srtb (ds.map (encD C))) = true then some (mkL own (ds.mergeSort (PySem.W.dataLe false (encD C))) C) else none
    | none => none)
  | _ => none
section
variable {X : Cx} {k : Cn} {W : WX} {σ : L2.St} {H : Hp} {Q : VK} {A : Nat → Addr} {C : Store}
theorem repL_zip : ∀ {vs : List V} {ds : List D}, RepL k A C H vs ds → (∀ x ∈ vs.zip ds, Rep k A C H x.1 x.2) ∧ (vs.zip ds).map (·.1) = vs ∧ (vs.zip ds).map (·.2) = ds
  | _, _, .nil => ⟨by simp, rfl, rfl⟩
  | _, _, .cons r t => by
    obtain ⟨h1, h2, h3⟩ := repL_zip t
    refine ⟨fun x hx => ?_, by simp [h2], by simp [h3]⟩
    rw [List.zip_cons_cons, List.mem_cons] at hx
    rcases hx with rfl | hx
    · exact r
    · exact h1 x hx
theorem repL_of : ∀ {l : List (V × D)}, (∀ x ∈ l, Rep k A C H x.1 x.2) → RepL k A C H (l.map (·.1)) (l.map (·.2))
  | [], _ => .nil
  | x :: l, h => .cons (h x (List.mem_cons_self ..)) (repL_of fun y hy => h y (List.mem_cons_of_mem _ hy))
theorem d_sortL {own : Bool} : ApD k (rSortA k.K) (oSortL own) := by
  intro fl A C H x dx d C' Q hf hl st rx e q
  cases rx with
  | nil => cases e
  | cons r t =>
    cases t with
    | cons _ _ => cases e
    | nil =>
      rename_i v0 d0
      simp only [oSortL] at e
      split at e
      · rename_i ds ev
        split at e
        · rename_i hb
          obtain ⟨a, vs, rfl, ha, rv⟩ := vL_at st r ev
          obtain ⟨z1, z2, z3⟩ := repL_zip rv
          simp only [Bool.and_eq_true, List.all_eq_true, decide_eq_true_eq] at hb
          obtain ⟨hb1, hb2⟩ := hb
          obtain ⟨al, so⟩ := srtb_ok hb2
          have em : (vs.zip ds).map (fun x => encD C x.2) = ds.map (encD C) := by
            have := congrArg (List.map (encD C)) z3
            rw [List.map_map] at this
            exact this
          have hm : ∀ x ∈ vs.zip ds, x.2 ∈ ds := fun x hx => by rw [← z3]; exact List.mem_map.mpr ⟨x, hx, rfl⟩
          refine ⟨a, V × D, vs.zip ds, (·.1), fun x => encD C x.2, rfl, by rw [z2]; exact .inl (.inl ha), fun b hb => ?_, by rw [em]; exact al, by rw [em]; exact so, fun b hb => (hb1 b.2 (hm b hb)).2, fun p hp => ?_⟩
          · have := (hb1 b.2 (hm b hb)).1
            obtain ⟨pd, e3⟩ := Option.isSome_iff_exists.mp this
            have := toP_dp st (z1 b hb) e3
            have e5 : encD C b.2 = pd := by unfold encD; rw [e3]; rfl
            show Dp k.K H b.1 (encD C b.2)
            rw [e5]
            exact this
          · have e4 : ((vs.zip ds).mergeSort (PySem.W.dataLe false fun x => encD C x.2)).map (·.2) = ds.mergeSort (PySem.W.dataLe false (encD C)) := by
              have em2 := List.map_mergeSort (r := PySem.W.dataLe false fun x : V × D => encD C x.2) (s := PySem.W.dataLe false (encD C)) (f := fun x : V × D => x.2) (l := vs.zip ds) (fun a _ b _ => rfl)
              rw [em2, z3]
            have rr : RepL k A C H (((vs.zip ds).mergeSort (PySem.W.dataLe false fun x => encD C x.2)).map (·.1)) (ds.mergeSort (PySem.W.dataLe false (encD C))) := by
              rw [← e4]
              exact repL_of fun y hy => z1 y (List.mem_mergeSort.mp hy)
            obtain ⟨A2, w1, w2, w3⟩ := fresh_L (own := own) hf st rr hp
            have e1 := Option.some.inj e
            rw [e1] at w1 w2 w3
            exact q A2 _ _ w1 w2 w3
        · cases e
      · cases e
theorem tup_nl (st : StOk k A C H) {b : Addr} {vs : List V} (h : H b = some (.tup vs)) : ¬ Live A C b := by
  rintro ⟨i, c, hc, rfl⟩
  have := st.at_ i c hc
  cases c with
  | lst ds => obtain ⟨ws, e, _⟩ := this; rw [h] at e; cases e
  | dT ks ds => obtain ⟨ws, e, _⟩ := this; rw [h] at e; cases e
  | ins c ds => obtain ⟨dx, ws, e, _⟩ := this; rw [h] at e; cases e
end
/-! ### dict(d), keys that are tuples -/
end CT
set_option maxHeartbeats 4000000
/-! DLF: dict(d) over data; enumerate. -/
namespace CT
open PySem L2 PySem.Spec PyProof.Rows
/-! ### a list of unlike numbers -/
inductive BT where
  | lf | nd (l : BT) (x : Nat) (r : BT)
def BT.look (x : Nat) : BT → Bool
  | .lf => false
  | .nd l y r => bif Nat.blt x y then l.look x else bif Nat.blt y x then r.look x else true
def BT.ins (x : Nat) : BT → Option BT
  | .lf => some (.nd .lf x .lf)
  | .nd l y r => bif Nat.blt x y then (match l.ins x with
      | some l' => some (.nd l' y r)
      | none => none) else bif Nat.blt y x then (match r.ins x with
      | some r' => some (.nd l y r')
      | none => none) else none
def BT.fill : List Nat → BT → Bool
  | [], _ => true
  | x :: xs, t => match t.ins x with
    | some t' => BT.fill xs t'
    | none => false
/-! ### enumerate(tuple) -/
section
variable {prog : Program} {w : World} {A : Around} {E : Value → Shared → Prop} {s : Shared}
theorem meets_enum1 {v : Value} {o : Obj} {H : Heap → Prop} (B : Begins v o H) :
    Meets (Builtin.«enumerate.__new__» ⟨[.type "enumerate", v], []⟩) (fun _ R s => H s.heap ∧
      R (.ok (.ret (.ref (s.heap.push o).objs.size))) { s with heap := (s.heap.push o).push { cls := .type "enumerate", data := .fields #[.none, .bool false, .ref s.heap.objs.size, rawInt 0, .none, .none] } }) :=
  .of_wp fun prog w A R s h => by
    obtain ⟨hp, g, d, tk, os⟩ := s; obtain ⟨h1, h⟩ := h
    have hsub := sub_enumerate
    have q1 : ∀ {A' : Around} {E : Value → Shared → Prop} {Q : Value → Shared → Prop}, Q (.ref hp.objs.size) ⟨hp.push o, g, d, tk, os⟩ → wpAny (model prog w) A' (pyIter v) Q E ⟨hp, g, d, tk, os⟩ :=
      fun q => B.iter prog w _ _ ⟨hp, g, d, tk, os⟩ _ h1 q
    wp_walk using q1
    refine wpAny_stack_any fun st => wpAny_pure ?_
    split
    · rename_i c _ _ _ _ _
      cases (c == Value.type "enumerate")
      · wp_walk using q1
        exact ⟨_, rfl, h⟩
      · wp_walk using q1
        exact ⟨_, rfl, h⟩
    · wp_walk using q1
      exact ⟨_, rfl, h⟩
theorem call_enum1 {v : Value} {o : Obj} {H : Heap → Prop} {Q : Value → Shared → Prop} (B : Begins v o H) (h1 : H s.heap)
    (h : ∀ h', IsEnum h' (s.heap.objs.size + 1) s.heap.objs.size 0 .none → h'.get? s.heap.objs.size = some o → (∀ b o, s.heap.get? b = some o → h'.get? b = some o) → Q (.ref (s.heap.objs.size + 1)) { s with heap := h' }) :
    wpAny (model prog w) A (call (.type "enumerate") [v]) Q E s := by
  refine callType_new F.called_enumerate (by decide) (F.typeCall_enumerate_1 _) (F.newCall_enumerate_1 _) (fun obj => F.args_object_init_2 obj _) F.entry_enumerate_new (meets_enum1 B) ⟨h1, ?_⟩
  have hz : (s.heap.push o).objs.size = s.heap.objs.size + 1 := Heap.size_push ..
  show _ ∧ _
  rw [hz]
  have he : IsEnum ((s.heap.push o).push { cls := .type "enumerate", data := .fields #[.none, .bool false, .ref s.heap.objs.size, rawInt 0, .none, .none] }) (s.heap.objs.size + 1) s.heap.objs.size 0 .none := by
    have := Heap.get?_push_size (s.heap.push o) (o := { cls := .type "enumerate", data := .fields #[.none, .bool false, .ref s.heap.objs.size, rawInt 0, .none, .none] }) rfl
    rw [hz] at this; exact this
  exact ⟨⟨_, he, rfl⟩, h _ he (Heap.get?_push_of_some _ (Heap.get?_push_size _ B.free)) fun b o x => Heap.get?_push_of_some _ (Heap.get?_push_of_some _ x)⟩
end
def IteT (K : PySem.W.Frag) (a : Addr) : It :=
  ⟨fun i H => ∃ (xs : List V) (x : V), SqT K H a xs ∧ xs[i]? = some x, fun i H v H' => ∃ T x, v = .ref T ∧ H T = none ∧ H' = upd H T (.tup [.int (i : Nat), x]) ∧ ∀ xs, SqT K H a xs → xs[i]? = some x, fun i H => ∃ xs : List V, SqT K H a xs ∧ xs.length ≤ i⟩
theorem enumT_end {prog : Program} {w : World} {A : Around} {E : Value → Shared → Prop} {s : Shared} {e it t : Addr} {i : Nat} {c : Int} {items : Array Value} {old : Value} {Q : Option Value → Shared → Prop} (hh : A.handled = none)
    (he : IsEnum s.heap e it c old) (hit : s.heap.IsTupleIter it t i) (ht : s.heap.IsTuple t items) (hx : items[i]? = none) (hQ : ∀ h', Heap.ExtBut it s.heap h' → Q none { s with heap := h' }) : wpAny (model prog w) A (pyNext (.ref e)) Q E s := by
  have hT : s.TypeIs (.ref e) "enumerate" := ⟨_, he, rfl⟩
  unfold pyNext
  refine wpAny_bind (wpAny_attempt (wpAny_callSpecial?_slot (name := Str.ofString "__next__") hT F.slot_enumerate_next
    (wpAny_call_entry F.slot_enumerate_next hT F.entry_enumerate_next ?_ (F.args_enumerate_next_1 _))))
  show wpAny _ _ (field (.ref e) 2 >>= _) _ _ _
  refine wpAny_bind (wpAny_field he rfl (x := .ref it) rfl ?_)
  refine wpAny_bind (wpAny_nextOf_tuple_end (show A.in1.handled = none from hh) hit ht hx fun h' x he' hx' => ?_)
  obtain ⟨o, ho, hc⟩ := hx'
  refine wpAny_bind (wpAny_isInstance (T := "StopIteration") (b := true) ⟨o, ho, hc⟩ isSubtype_stop ?_)
  exact wpAny_pure (hQ _ he')
theorem turn_enumT {P : Program} {w : World} {K : PySem.W.Frag} {elts : List Expr} {kk : Nat} {tpos : Pos} (a e it : Addr) :
    Turn P w K (.Tuple elts kk tpos) (IteT K a) [e, it] e (fun i h => (∃ old, IsEnum h e it ((i : Nat) : Int) old) ∧ h.IsTupleIter it a i ∧ e ≠ it ∧ a ≠ it ∧ a ≠ e) where
  mem := by simp
  obj := fun i h st b hb => by
    obtain ⟨⟨old, he⟩, ⟨o, ho, hc, hd⟩, _⟩ := st
    have e' : b = e ∨ b = it := by simpa using hb
    rcases e' with z | z
    · rw [z]; exact ⟨_, he, fun v q => nomatch q⟩
    · rw [z]; exact ⟨o, ho, fun v q => by rw [hd] at q; cases q⟩
  keep := fun i h h' st k => let ⟨⟨old, he⟩, hi, hne⟩ := st; ⟨⟨old, k e (by simp) _ he⟩, hi.at fun o q => k it (by simp) o q, hne⟩
  item := by
    intro X hP hw hK hc i pins s σ H E I hf st hg
    subst hP hw hK
    obtain ⟨⟨old, he⟩, hit, hne, hai, hae⟩ := st
    obtain ⟨xs, x, hq, hx⟩ := hg
    obtain ⟨its, rv, p, hz⟩ := I.tuple hq
    have hlt : i < its.toArray.size := by
      have h1 := rv.length
      have h2 := (List.getElem?_eq_some_iff.mp hx).1
      simp
      omega
    have hel : e < s.heap.objs.size := Heap.lt_size he
    have hil : it < s.heap.objs.size := by obtain ⟨_, q, _⟩ := hit; exact Heap.lt_size q
    have D := Draws.tuple (prog := X.prog) (w := X.w) (A := X.A.in1) (I.ok.hd hc) it a hai its.toArray
    refine wpAny_pyNext_enum_itemD D he ⟨hit, p⟩ hlt hne (by simp; exact ⟨hne, fun z => hae z.symm⟩) fun u h' tk hu ho hit' hT hsz hk => ?_
    have hu' : its[i]? = some u := by simpa using hu
    obtain ⟨u2, hu2, ru⟩ := rv.get hx
    have e2 : u2 = u := by
      rw [hu'] at hu2
      exact (Option.some.inj hu2).symm
    subst e2
    refine ⟨_, rfl, wpAny_letOwnedTupleGo_enum (s := { s with heap := h', toks := tk + 1 }) ho fun h'' he' sb => ?_⟩
    have hT2 : h''.get? s.heap.objs.size = some { cls := .type "tuple", data := .seq #[.int i tk, u2] } := (sb.2 _ (Nat.ne_of_gt hel)).trans hT
    have new : ObjOk X.prog X.w (upd H s.heap.objs.size (.tup [.int (i : Nat), x])) h'' s.heap.objs.size (.tup [.int (i : Nat), x]) :=
      ⟨by show 2 ≤ sizeLine; decide, [.int i tk, u2], .cons ⟨_, rfl⟩ (.cons ru .nil), ⟨_, hT2, rfl, _, rfl⟩⟩
    have I1 : Inv X pins σ (upd H s.heap.objs.size (.tup [.int (i : Nat), x])) { s with heap := h'', toks := tk + 1 } :=
      I.turnedNew (ch := [e, it]) (fun b ob hb q => (sb.2 b (fun z => hb (by simp [z]))).trans (hk b ob (fun z => hb (by simp [z])) (fun z => hb (by simp [z])) q)) hf (Nat.le_refl _) new
    refine ⟨.ref s.heap.objs.size, _, I1, rfl, ⟨_, x, rfl, I.hok.fresh (Nat.le_refl _), rfl, fun ys hy => by rw [I.tuple_inj hy hq]; exact hx⟩, ⟨⟨u2, ?_⟩, hit'.1.at fun o q => (sb.2 it (Ne.symm hne)).trans q, hne, hai, hae⟩, fun b hb => ?_⟩
    · have e1 : ((i + 1 : Nat) : Int) = (i : Int) + 1 := by omega
      rw [e1]; exact he'
    · have hb' : b < s.heap.objs.size := by
        have e' : b = e ∨ b = it := by simpa using hb
        rcases e' with z | z
        · rw [z]; exact hel
        · rw [z]; exact hil
      rw [upd_ne (Nat.ne_of_lt hb')]
      exact (hf b hb).1
  done := by
    intro X hP hw hK hc i pins s σ H E I hf st hg
    subst hP hw hK
    obtain ⟨⟨old, he⟩, hit, hne, hai, hae⟩ := st
    obtain ⟨xs, hq, hx⟩ := hg
    obtain ⟨its, rv, p, hz⟩ := I.tuple hq
    obtain ⟨f0, f1, f2, f3, f4, f5⟩ := hf it (by simp)
    have hl := rv.length
    exact enumT_end (I.ok.hd hc) he hit p (by simp; omega) fun h' eb => ⟨rfl, I.turned (t' := s.toks) (fun b o hb q => eb b o hb q) f0 f1 f3 f4 f5⟩
  self := fun A i s Q E st h => let ⟨⟨_, he⟩, _⟩ := st; wpAny_pyIter_enum he h
def iEnumA (K : PySem.W.Frag) (ta : TA) : TI := fun σ H R => ta σ H fun vs H1 => ∃ a, vs = [.ref a] ∧ (((∃ xs, SqL K H1 a xs) ∧ R (Ite K a) H1) ∨ ((∃ xs, SqT K H1 a xs) ∧ R (IteT K a) H1))
theorem pi_enumA {X : Cx} {e : Expr} {ta : TA} {p pos tpos : Pos} {elts : List Expr} {kk : Nat} (hg : Gl X "enumerate") (hm : X.mg "enumerate" = none) (ha : PA X [e] ta) (hs : starEach [e] X.env = [(false, eval e X.env)] := by rfl) :
    PI X (.Tuple elts kk tpos) (.Call (.Name "enumerate" p) [e] [] pos) (iEnumA X.K ta) := by
  refine ⟨fun pins s σ H R I h => ?_⟩
  refine Call_ (ld_blt I hg hm boot_enumerate (PyProof.Rows.callWith_type1 (thn (ha.run pos pins s σ H _ I h) fun us s1 ⟨vs, H1, I1, r1, q1⟩ => ?_) hs rfl))
  have fp2 : ∀ b ∈ [s1.heap.objs.size + 1, s1.heap.objs.size], FpOk X pins H1 b := fun b hb => by
    have e' : b = s1.heap.objs.size + 1 ∨ b = s1.heap.objs.size := by simpa using hb
    have hle : s1.heap.objs.size ≤ b := by omega
    exact I1.fpOk hle (I1.hok.fresh hle)
  obtain ⟨a, ex, ⟨⟨xs, hq⟩, q⟩ | ⟨⟨xs, hq⟩, q⟩⟩ := q1
  · subst ex
    obtain ⟨u, rfl, ru⟩ := vals1 r1
    obtain rfl : u = Value.ref a := ru
    obtain ⟨its, rv, p', hz⟩ := I1.list hq
    refine call_enumerate_list p'.isList fun h' he hit hsz hk => wpAny_pyIter_enum he ?_
    exact ⟨s1.heap.objs.size + 1, [s1.heap.objs.size + 1, s1.heap.objs.size], _, _, H1, rfl, I1.kept (t' := s1.toks) hk, turn_enum a (s1.heap.objs.size + 1) s1.heap.objs.size, ⟨⟨.none, he⟩, hit, Nat.succ_ne_self _⟩, fp2, q⟩
  · subst ex
    obtain ⟨u, rfl, ru⟩ := vals1 r1
    obtain rfl : u = Value.ref a := ru
    obtain ⟨its, rv, p', hz⟩ := I1.tuple hq
    refine call_enum1 (begins_tuple a its.toArray) p' fun h' he hit hk => wpAny_pyIter_enum he ?_
    have hlt : a < s1.heap.objs.size := by obtain ⟨o, ho, _⟩ := p'; exact Heap.lt_size ho
    exact ⟨s1.heap.objs.size + 1, [s1.heap.objs.size + 1, s1.heap.objs.size], _, _, H1, rfl, I1.kept (t' := s1.toks) hk, turn_enumT a (s1.heap.objs.size + 1) s1.heap.objs.size, ⟨⟨.none, he⟩, ⟨_, hit, rfl, rfl⟩, Nat.succ_ne_self _, Nat.ne_of_lt hlt, Nat.ne_of_lt (Nat.lt_succ_of_lt hlt)⟩, fp2, q⟩
def prI (it : ItD) : ItD := ⟨it.n, fun j C => (it.item j C).map fun x => .tup [.int (j : Nat), x], it.fin⟩
def mEnum (m : ME) : MI := fun F C => bnd (m F C) fun d C1 => match itS d C1 with
  | some it => .ok (prI it) C1
  | none => .stuck
section
variable {X : Cx} {k : Cn} {W : WX} {σ : L2.St} {H : Hp}
theorem pr_L {fl : Nat} {A : Nat → Addr} {C : Store} {a : Addr} {it : ItD} (ok : ItOk k fl (Itl k.K a) it A C H) : ItOk k fl (Ite k.K a) (prI it) A C H := fun A' C' H' p st' => by
  obtain ⟨o1, o2⟩ := ok A' C' H' p st'
  refine ⟨fun j d hj e => ?_, fun hf => o2 hf⟩
  simp only [prI, Option.map_eq_some_iff] at e
  obtain ⟨x, ex, rfl⟩ := e
  obtain ⟨⟨xs, v, hq, hv⟩, h2⟩ := o1 j x hj ex
  refine ⟨⟨xs, v, hq, hv⟩, fun y H'' ⟨T, z, ey, hT, eH, hz⟩ => ?_⟩
  subst ey eH
  have ez : z = v := Option.some.inj ((hz xs hq).symm.trans hv)
  subst ez
  obtain ⟨A3, p3, st3, r3⟩ := h2 z H' ⟨rfl, fun ys hy => hz ys hy⟩
  have q : Kp A3 C' H' A3 C' (upd H' T (.tup [.int (j : Nat), z])) := kp_new hT
  refine ⟨A3, p3.trans q.stp0, st3.new hT, ?_⟩
  have st4 := st3.new (o := .tup [.int (j : Nat), z]) hT
  exact .tup (tup_nl st4 upd_same) upd_same (.cons (.int _) (.cons (r3.kp q) .nil))
theorem pr_T {fl : Nat} {A : Nat → Addr} {C : Store} {a : Addr} {it : ItD} (ok : ItOk k fl (Itt k.K a) it A C H) : ItOk k fl (IteT k.K a) (prI it) A C H := fun A' C' H' p st' => by
  obtain ⟨o1, o2⟩ := ok A' C' H' p st'
  refine ⟨fun j d hj e => ?_, fun hf => o2 hf⟩
  simp only [prI, Option.map_eq_some_iff] at e
  obtain ⟨x, ex, rfl⟩ := e
  obtain ⟨⟨xs, v, hq, hv⟩, h2⟩ := o1 j x hj ex
  refine ⟨⟨xs, v, hq, hv⟩, fun y H'' ⟨T, z, ey, hT, eH, hz⟩ => ?_⟩
  subst ey eH
  have ez : z = v := Option.some.inj ((hz xs hq).symm.trans hv)
  subst ez
  obtain ⟨A3, p3, st3, r3⟩ := h2 z H' ⟨rfl, fun ys hy => hz ys hy⟩
  have q : Kp A3 C' H' A3 C' (upd H' T (.tup [.int (j : Nat), z])) := kp_new hT
  refine ⟨A3, p3.trans q.stp0, st3.new hT, ?_⟩
  have st4 := st3.new (o := .tup [.int (j : Nat), z]) hT
  exact .tup (tup_nl st4 upd_same) upd_same (.cons (.int _) (.cons (r3.kp q) .nil))
theorem li_enum {m : ME} {R : It → Hp → Prop} (h : LI k W (mEnum m) σ H R) : iEnumA k.K (tCons (LE k W m) tNil) σ H R := by
  obtain ⟨A, F, C, s, h⟩ := h
  refine ⟨A, F, C, s, (Aft.bnd (rel := RepD k) h).mono fun d C1 A1 H1 v p st r h1 => ?_⟩
  have tup : ∀ xs, vT d = some xs → itS d C1 = some (itC xs) → ∃ a, [v] = [.ref a] ∧ (((∃ xs, SqL k.K H1 a xs) ∧ R (Ite k.K a) H1) ∨ ((∃ xs, SqT k.K H1 a xs) ∧ R (IteT k.K a) H1)) := fun xs e ei => by
    rw [ei] at h1
    obtain ⟨a, rfl, hs, ok⟩ := itC_T (fl := F.fl) r e
    exact ⟨a, rfl, .inr ⟨hs, h1 A1 H1 _ Stp.refl st (pr_T ok)⟩⟩
  show ∃ a, [v] = [.ref a] ∧ _
  cases d with
  | tup xs => exact tup xs rfl rfl
  | kt xs => exact tup xs rfl rfl
  | lst xs =>
    cases r with
    | lst l hh rv => exact ⟨_, rfl, .inl ⟨⟨_, .inl (.inl hh)⟩, h1 A1 H1 _ Stp.refl st (pr_L (itC_L (.lst l hh rv)))⟩⟩
  | cell i =>
    cases r with
    | cell hi =>
      simp only [itS] at h1
      split at h1
      · rename_i it e
        split at e
        · rename_i ys ec
          cases e
          obtain ⟨vs, hv, rv⟩ := st.at_ i _ ec
          exact ⟨_, rfl, .inl ⟨⟨vs, .inl (.inl hv)⟩, h1 A1 H1 _ Stp.refl st (pr_L (itV_L (.cell hi)))⟩⟩
        · cases e
      · exact h1.elim
  | _ => exact h1.elim
theorem di_enum {e : Expr} {p pos tpos : Pos} {elts : List Expr} {kk : Nat} {m : ME} (hg : Gl X "enumerate") (hm : X.mg "enumerate" = none) (hK : X.K = k.K) (he : PE X e (LE k W m)) (hs : starEach [e] X.env = [(false, eval e X.env)] := by rfl) :
    PI X (.Tuple elts kk tpos) (.Call (.Name "enumerate" p) [e] [] pos) (LI k W (mEnum m)) := (pi_enumA hg hm (pa_cons he pa_nil (by rw [hs]; rfl)) hs).cq fun _ _ _ h => by
  rw [hK]
  exact li_enum h
end
end CT
set_option maxHeartbeats 4000000
/-! DLG: what the head tells (defs by addresses, checks), the law's end for data. -/
namespace CT
open PySem L2 PySem.Spec PyProof.Rows
/-! ### defs, by where they stand -/
structure DefX where
  adr : PySem.W.Frag → Addr
  name : Str
  qual : Str
  params : Arguments
  body : List Stmt
  scope : Scope
  dfl : PySem.W.Frag → List V := fun _ => []
def fnX (K : PySem.W.Frag) (a : Addr) : He.FnW := match K.lookup a with
  | some ⟨_, _, .func fd, _⟩ => some (fd.name, fd.qualname, fd.params, fd.body, fd.scope, fd.globals, fd.closure, fd.builtins)
  | _ => none
def DefX.val (d : DefX) : He.FnW := some (d.name, d.qual, d.params, .stmts d.body, d.scope, mainGlobals, [], builtinsNs)
def DefX.ok (K : PySem.W.Frag) (d : DefX) : Bool := PySem.W.keepIn K (.ref (d.adr K)) && (match K.lookup (d.adr K) with
  | some ⟨_, _, .func fd, _⟩ => PySem.W.codeIn K fd.code d.qual && He.dflB K fd.defaults (d.dfl K)
  | _ => false)
theorem DefX.funD {K : PySem.W.Frag} {d : DefX} (e : fnX K (d.adr K) = d.val) (c : d.ok K = true) : ∃ fd, FunD K d.name d.qual d.params d.body d.scope (d.dfl K) [] (d.adr K) fd := by
  obtain ⟨kp, c2⟩ := He.ba c
  unfold fnX at e
  split at c2
  · rename_i oc od fd osl q
    rw [q] at e
    obtain ⟨k1, k2⟩ := He.ba c2
    cases fd
    simp only [DefX.val, Option.some.injEq, Prod.mk.injEq] at e
    obtain ⟨h1, h2, h3, h4, h5, h6, h7, h8⟩ := e
    subst h1 h2 h3 h4 h5 h6 h7 h8
    exact ⟨_, ⟨_, _, _, _, _, _, _, _, _, _, rfl, q, k1, He.dflB_ok k2, .inl rfl⟩, kp⟩
  · cases c2
/-! ### the head's look -/
abbrev AlX : Type := Bool × List He.FnW
def obX (fs : List (PySem.W.Frag → Bool)) (fn : List DefX) (K : PySem.W.Frag) : AlX := ((fs.all fun f => f K) && fn.all fun d => d.ok K, fn.map fun d => fnX K (d.adr K))
def vlX (fn : List DefX) : AlX := (true, fn.map DefX.val)
def SaysX (fs : List (PySem.W.Frag → Bool)) (fn : List DefX) (K : PySem.W.Frag) : Prop := obX fs fn K = vlX fn
section
variable {fs : List (PySem.W.Frag → Bool)} {fn : List DefX} {K : PySem.W.Frag}
theorem SaysX.fact (c : SaysX fs fn K) (i : Nat) {f : PySem.W.Frag → Bool} (h : fs[i]? = some f := by rfl) : f K = true :=
  List.all_eq_true.mp (He.ba (show ((fs.all fun f => f K) && fn.all fun d => d.ok K) = true from congrArg (fun z : AlX => z.1) c)).1 f (List.mem_of_getElem? h)
theorem SaysX.def_ (c : SaysX fs fn K) (i : Nat) {d : DefX} (h : fn[i]? = some d := by rfl) : ∃ fd, FunD K d.name d.qual d.params d.body d.scope (d.dfl K) [] (d.adr K) fd := by
  have c2 := (He.ba (show ((fs.all fun f => f K) && fn.all fun d => d.ok K) = true from congrArg (fun z : AlX => z.1) c)).2
  have e2 : (fn.map fun d => fnX K (d.adr K))[i]? = (fn.map DefX.val)[i]? := congrArg (fun z : AlX => z.2[i]?) c
  rw [List.getElem?_map, List.getElem?_map, h] at e2
  exact DefX.funD (Option.some.inj e2) (List.all_eq_true.mp c2 d (List.mem_of_getElem? h))
end
/-! ### checks -/
section
variable {K : PySem.W.Frag}
/-- a property's object, its getter -/
def prA (K : PySem.W.Frag) (C : Addr) (f : Str) : Addr := He.ma K C f
def prG (K : PySem.W.Frag) (C : Addr) (f : Str) : Addr := match PySem.W.recIn K (prA K C f) "property" with
  | some (.ref g :: _) => g
  | _ => 0
def prB (x f : Str) (K : PySem.W.Frag) : Bool := He.eqO (PySem.W.findIn K (.ref (He.ga K x)) f) (some (some (.ref (prA K (He.ga K x) f)))) && (He.eqO (PySem.W.specialIn K (.ref (prA K (He.ga K x) f)) "__get__") (some (some (.builtin "property.__get__"))) &&
  (decide (PySem.W.takesIn K (.ref (prA K (He.ga K x) f)) = some true) && (match PySem.W.recIn K (prA K (He.ga K x) f) "property" with
    | some (.ref _ :: _) => true
    | _ => false)))
theorem prB_ok {x f : Str} (h : prB x f K = true) : PropOf K (He.ga K x) f (prA K (He.ga K x) f) (prG K (He.ga K x) f) := by
  obtain ⟨h1, h⟩ := He.ba h
  obtain ⟨h2, h⟩ := He.ba h
  obtain ⟨h3, h4⟩ := He.ba h
  refine ⟨He.eqO_ok h1, He.eqO_ok h2, of_decide_eq_true h3, ?_⟩
  split at h4
  · rename_i g rest e
    refine ⟨rest, ?_⟩
    unfold prG
    rw [e]
  · cases h4
def allBt : List Bt := [.int, .bool, .str, .list, .tuple, .dict, .none]
theorem mem_allBt (b : Bt) : b ∈ allBt := by cases b <;> simp [allBt]
def insB (C : Addr) (K : PySem.W.Frag) : Bool := PySem.W.plainGet K C Str.empty && (PySem.W.hasDictIn K C && (PySem.W.plainOver K C && (He.eqO (PySem.W.findIn K (.ref C) "__setattr__") (some (some (.builtin "object.__setattr__"))) &&
  (He.eqO (PySem.W.findIn K (.ref C) "__class__") (some (some (.builtin "object.__class__"))) && (He.eqO (PySem.W.specialIn K (.builtin "object.__class__") "__get__") (some (some (.builtin "getset_descriptor.__get__"))) &&
  (decide (PySem.W.takesIn K (.builtin "object.__class__") = some true) && (decide (PySem.W.mroIn K C (.type "object") = some true) && decide (PySem.W.kitOne K (.ref C) (.ref C) = some true))))))))
theorem insB_ok {C : Addr} (h : insB C K = true) : C8.InsC K C := by
  obtain ⟨h1, h⟩ := He.ba h
  obtain ⟨h2, h⟩ := He.ba h
  obtain ⟨h3, h⟩ := He.ba h
  obtain ⟨h4, h⟩ := He.ba h
  obtain ⟨h5, h⟩ := He.ba h
  obtain ⟨h6, h⟩ := He.ba h
  obtain ⟨h7, h⟩ := He.ba h
  obtain ⟨h8, h9⟩ := He.ba h
  exact ⟨⟨h1, h2, h3, He.eqO_ok h4⟩, He.eqO_ok h5, He.eqO_ok h6, of_decide_eq_true h7, of_decide_eq_true h8, of_decide_eq_true h9⟩
def isaB (cl : PySem.W.Frag → Nat → Addr) (kn : List Nat) (K : PySem.W.Frag) : Bool := (kn.all fun c => insB (cl K c) K) && ((kn.all fun c => kn.all fun c' => decide (PySem.W.kitOne K (.ref (cl K c)) (.ref (cl K c')) = some (decide (c = c')))) &&
  (kn.all fun c => allBt.all fun b => decide (PySem.W.kitOne K (.ref (cl K c)) (.type b.name) = some false) && decide (PySem.W.kitOne K (.type b.name) (.ref (cl K c)) = some false)))
theorem isaB_ok {cl : PySem.W.Frag → Nat → Addr} {kn : List Nat} {k : Cn} (hK : k.K = K) (hc : k.cl = cl K) (h : isaB cl kn K = true) : IsaOk k kn := by
  obtain ⟨h1, h⟩ := He.ba h
  obtain ⟨h2, h3⟩ := He.ba h
  rw [List.all_eq_true] at h1 h2 h3
  refine ⟨fun c hm => ?_, fun c hm c' hm' => ?_, fun c hm b => ?_, fun c hm b => ?_⟩
  · rw [hK, hc]
    exact insB_ok (h1 c hm)
  · rw [hK, hc]
    exact of_decide_eq_true (List.all_eq_true.mp (h2 c hm) c' hm')
  · rw [hK, hc]
    exact of_decide_eq_true (He.ba (List.all_eq_true.mp (h3 c hm) b (mem_allBt b))).1
  · rw [hK, hc]
    exact of_decide_eq_true (He.ba (List.all_eq_true.mp (h3 c hm) b (mem_allBt b))).2
end
/-! ### the end -/
def scrD (ns : List Int) : D := .scr (ns.map D.int)
theorem rep_scr {k : Cn} {H : Hp} {a : Addr} {ns : List Int} (hO : Only H) (h : SqL k.K H a (ns.map V.int)) : Rep k (fun _ => 0) [] H (.ref a) (scrD ns) := by
  have nl : ¬ Live (fun _ => 0) [] a := by
    rintro ⟨i, c, e, _⟩
    simp at e
  rcases h with h | ⟨o, its, n, h1, h2, h3, h4, h5, h6⟩
  · rcases h with h | ⟨o, h⟩
    · rcases hO a with z | ⟨o, xs, z⟩
      · rw [h] at z; cases z
      · rw [h] at z; cases z
    · exact .scr nl h RepL.ints
  · exact .kscr ⟨o, its, n, h1, h2, h3, h4, h5, h6⟩ RepL.ints
theorem law_core {P : Program} {w : World} {K : PySem.W.Frag} {mg mb : Str → Option Value} {fa a : Addr} {sp : Sp} {s₁ : Shared} {vs : List Value} {ns : List Int}
    (KX : K.In s₁.heap) (hns : s₁.heap.Ns mainGlobals mg) (hb : s₁.heap.Ns builtinsNs mb) (hbb : ∀ x : Str, x ≠ "__name__" → mb x = bootBuiltins x) (hlim : s₁.heap.NoLimit) (hg : s₁.gens = #[])
    (ha : s₁.heap.get? a = some { cls := .type "list", data := .seq vs.toArray }) (hi : IntsAre vs ns) (hl : ns.length ≤ sizeLine)
    (key : ∀ base : Heap, K.In base → base.Ns mainGlobals mg → ∀ (s : Shared) (H : Hp), Env0 P w K mg base callerA [] s H → sp [.ref a] H (fun v _ => v = .bl true) (fun _ _ _ => False) →
      codeAny (model P w) callerA (.call (.ref fa) ⟨[.ref a], []⟩) (CR (L2.CX P w) [] P w H s (fun v _ => v = .bl true) fun _ _ _ => False) s)
    (hsp : ∀ H : Hp, Only H → SqL K H a (ns.map V.int) → sp [.ref a] H (fun v _ => v = .bl true) fun _ _ _ => False) :
    codeAny (model P w) callerA (.call (.ref fa) ⟨[.ref a], []⟩) (fun r s' => r = .ok (.ret (.bool true)) ∧ OldK s₁.heap s'.heap ∧ s'.os = s₁.os ∧ AllBare s'.gens) s₁ := by
  have rv := vals_ints hi
  have lenV := hi.length
  -- from an abstract heap in which nothing but the script may be tracked
  have core : ∀ H : Hp, Only H → SqL K H a (ns.map V.int) → HOk P w H s₁.heap → (∀ b, H b ≠ none → b = a) → (H a ≠ none → K.lookup a = none) →
      codeAny (model P w) callerA (.call (.ref fa) ⟨[.ref a], []⟩) (fun r s' => r = .ok (.ret (.bool true)) ∧ OldK s₁.heap s'.heap ∧ s'.os = s₁.os ∧ AllBare s'.gens) s₁ := by
    intro H hO hS hok hA hK
    have base_of : ∀ {b : Addr} {o : Obj}, s₁.heap.get? b = some o → H b = none → (hidT s₁.heap H).get? b = some o := fun e n => hidT_get e n
    have noA : ∀ {b : Addr} {o : Obj} {es : Array DictEntry} {ep : Nat}, s₁.heap.get? b = some o → o.data = .dict es ep → H b = none := fun {b o es ep} e d => by
      cases q : H b with
      | none => rfl
      | some u =>
        have e' : b = a := hA b (by rw [q]; simp)
        subst e'
        rw [ha] at e; cases e
        have d' : Data.seq vs.toArray _ = Data.dict es ep := d
        cases d'
    have nsK : ∀ {b : Addr} {m : Str → Option Value}, s₁.heap.Ns b m → (hidT s₁.heap H).Ns b m := fun {b m} ⟨o, es, ep, e, d, r⟩ => ⟨o, es, ep, base_of e (noA e d), d, r⟩
    have hKb : K.In (hidT s₁.heap H) := fun b o e => base_of (KX b o e) (by
      cases q : H b with
      | none => rfl
      | some u =>
        have e' : b = a := hA b (by rw [q]; simp)
        subst e'
        rw [hK (by rw [q]; simp)] at e; cases e)
    have hM : Mod K mg (hidT s₁.heap H) := ⟨hKb, nsK hns, ⟨mb, nsK hb, hbb⟩, let ⟨mc, h1, h2⟩ := hlim; ⟨mc, nsK h1, h2⟩⟩
    have e0 : Env0 P w K mg (hidT s₁.heap H) callerA [] s₁ H := ⟨rfl, hM, fun b o e => of_hidT e, Nat.le_of_eq (hidT_size _ _), trivial, fun b hb => absurd (show b ∈ ([] : List Addr) from hb) (by simp), hok, .of_eq hg⟩
    refine codeAny_mono (key _ hKb (nsK hns) s₁ H e0 (hsp H hO hS)) fun r s' h => ?_
    cases r with
    | error e =>
      obtain ⟨_, _, _, _, _, _, _, _, _, _, _, _, z⟩ := h
      exact z.elim
    | ok fl =>
      cases fl with
      | next => exact False.elim h
      | brk => exact False.elim h
      | cont => exact False.elim h
      | ret u =>
        obtain ⟨v, H', os, bare, un, hok', r', q⟩ := h
        have q' : v = .bl true := q
        subst q'
        obtain rfl : u = Value.bool true := r'
        refine ⟨rfl, OldK.of_keep fun b o e => ?_, os, bare⟩
        cases q : H b with
        | none => exact un.keep b o e q (by intro z; exact absurd (show b ∈ ([] : List Addr) from z) (by simp)) (by simp)
        | some u =>
          rcases hO b with z | ⟨ob, xs, z⟩
          · rw [q] at z; cases z
          · have z2 := un.frzs b ob _ z
            obtain ⟨e1, _⟩ := hok b _ z
            obtain ⟨e2, _⟩ := hok' b _ z2
            rw [e] at e1; cases e1
            exact e2
  cases hk : K.lookup a with
  | some o =>
    -- the script is one of the module's own objects
    have e := KX a o hk
    rw [ha] at e
    cases e
    refine core (fun _ => none) (fun _ => .inl rfl) (.inr ⟨_, vs.toArray, _, hk, rfl, rfl, rfl, by rw [List.size_toArray, lenV]; exact hl, by simpa using rv⟩) (fun b u z => by have z' : (none : Option HO) = some u := z; cases z') (fun b z => absurd rfl z) fun z => absurd rfl z
  | none =>
    refine core (fun b => if b = a then some (.frz { cls := .type "list", data := .seq vs.toArray } (.lst (ns.map V.int))) else none) (fun b => ?_) (.inl (.inr ⟨{ cls := .type "list", data := .seq vs.toArray }, if_pos rfl⟩)) (fun b u z => ?_) (fun b z => ?_) fun _ => hk
    · by_cases hb : b = a
      · exact .inr ⟨_, _, if_pos hb⟩
      · exact .inl (if_neg hb)
    · by_cases hb : b = a
      · have z' := (if_pos hb).symm.trans z
        cases z'
        subst hb
        exact ⟨ha, by rw [List.length_map]; exact hl, vs, _, rv, ha⟩
      · have z' := (if_neg hb).symm.trans z
        cases z'
    · by_cases hb : b = a
      · exact hb
      · exact absurd (if_neg hb) z
end CT
set_option maxHeartbeats 4000000
/-! DLH: a def that hands back a list of its own, to be changed by its caller. -/
namespace CT
open PySem L2 PySem.Spec PyProof.Rows
section
variable {k : Cn} {A A2 : Nat → Addr} {C C2 : Store} {H : Hp} {n : Nat}
structure Fw2 (n : Nat) (A : Nat → Addr) (C : Store) (A2 : Nat → Addr) (C2 : Store) : Prop where
  lv : ∀ a, Live A2 C2 a → Live A C a
  ix : ∀ j, j < n → A2 j = A j
  len : n ≤ C2.length
mutual
theorem Rep.fw2 (q : Fw2 n A C A2 C2) : ∀ {v : V} {d : D}, Rep k A C H v d → CT.cb n d = true → Rep k A2 C2 H v d
  | _, _, .non, _ => .non
  | _, _, .bl b, _ => .bl b
  | _, _, .int i, _ => .int i
  | _, _, .str s, _ => .str s
  | _, _, .lst l h r, z => .lst (fun y => l (q.lv _ y)) h (r.fw2 q (by simpa [CT.cb] using z))
  | _, _, .tup l h r, z => .tup (fun y => l (q.lv _ y)) h (r.fw2 q (by simpa [CT.cb] using z))
  | _, _, .ktup h r, z => .ktup h (r.fw2 q (by simpa [CT.cb] using z))
  | _, _, .scr l h r, z => .scr (fun y => l (q.lv _ y)) h (r.fw2 q (by simpa [CT.cb] using z))
  | _, _, .kscr h r, z => .kscr h (r.fw2 q (by simpa [CT.cb] using z))
  | _, _, .obj l h e r, z => .obj (fun y => l (q.lv _ y)) h e (r.fw2 q (by simpa [CT.cb] using z))
  | _, _, .exn x l h e r, z => .exn x (fun y => l (q.lv _ y)) h e (r.fw2 q (by simpa [CT.cb] using z))
  | _, _, .cls c, _ => .cls c
  | _, _, .dT l h r, z => .dT (fun y => l (q.lv _ y)) h (r.fw2 q (by simpa [CT.cb] using z))
  | _, _, .cell (i := i) hi, z => by
    have hi : i < n := by simpa [CT.cb] using z
    rw [← q.ix i hi]
    exact .cell (Nat.lt_of_lt_of_le hi q.len)
theorem RepL.fw2 (q : Fw2 n A C A2 C2) : ∀ {vs : List V} {ds : List D}, RepL k A C H vs ds → CT.cbL n ds = true → RepL k A2 C2 H vs ds
  | _, _, .nil, _ => .nil
  | _, _, .cons r t, z => by
    simp [CT.cbL] at z
    exact .cons (r.fw2 q z.1) (t.fw2 q z.2)
end
end
def finO (n : Nat) (d : D) (C : Store) : R D := match d with
  | .cell i => if n ≤ i then (match C[i]? with
    | some (some (.lst xs)) => if cbL n xs = true then .ok (.cell n) (C.take n ++ [some (.lst xs)]) else .stuck
    | _ => .stuck) else .stuck
  | _ => .stuck
def mDefO (np ns : Nat) (body : MS) : MF := fun ds C => if ds.length = np then (match body ⟨C.length, ds.map some ++ List.replicate (ns - np) none⟩ C with
    | .rt d C' => finO C.length d C'
    | .xc e _ C' => if cbL C.length e.fs = true then .exc e (C'.take C.length) else .stuck
    | _ => .stuck) else .stuck
theorem mDefO_ar {np ns : Nat} {body : MS} : Ar np (mDefO np ns body) := fun ds C h => by
  unfold mDefO
  rw [if_neg h]
section
variable {k : Cn}
theorem start_sr {np ns : Nat} {N : List Str} {vs : List V} {ds : List D} {H : Hp} {A : Nat → Addr} {C : Store} (hN : N.length = ns) (hv : vs.length = np) (hd : ds.length = np) (hp : np ≤ ns) (st : StOk k A C H) (rl : RepL k A C H vs ds) :
    SR k A ⟨C.length, ds.map some ++ List.replicate (ns - np) none⟩ C (L2.start N vs) H := by
  have sl : (L2.start N vs) = vs.map some ++ List.replicate (ns - np) none := by unfold L2.start; rw [hN, hv]
  refine ⟨st, st.low, Nat.le_refl _, ?_, fun i d e => ?_⟩
  · rw [sl]
    simp [rl.length]
  · rw [sl]
    have e' : (ds.map some ++ List.replicate (ns - np) none)[i]? = some (some d) := e
    by_cases hi : i < ds.length
    · rw [List.getElem?_append_left (by simpa using hi), List.getElem?_map] at e'
      cases ed : ds[i]? with
      | none => rw [ed] at e'; cases e'
      | some d' =>
        rw [ed] at e'
        cases e'
        obtain ⟨v, h1, h2⟩ := rl.get ed
        refine ⟨v, ?_, h2⟩
        rw [List.getElem?_append_left (by rw [List.length_map, rl.length]; exact hi), List.getElem?_map, h1]
        rfl
    · rw [List.getElem?_append_right (by simpa using hi)] at e'
      have := List.getElem?_eq_some_iff.mp e'
      obtain ⟨h1, h2⟩ := this
      rw [List.getElem_replicate] at h2
      cases h2
theorem spDO_body {np ns : Nat} {body : MS} {N : List Str} {vs : List V} {H : Hp} {Q : VK} {E : XK} (hN : N.length = ns) (hp : np ≤ ns) (h : SpD k np (mDefO np ns body) vs H Q E) :
    LS k (fun c d _ H' => E c d H') body { nx := fun _ H' => Q .non H', rt := Q } (L2.start N vs) H := by
  obtain ⟨hv, A, C, ds, st, rl, h⟩ := h
  have hd : ds.length = np := by rw [← rl.length]; exact hv
  unfold mDefO at h
  rw [if_pos hd] at h
  refine ⟨A, _, C, start_sr hN hv hd hp st rl, ?_⟩
  show AftS k _ C.length A C H (body ⟨C.length, ds.map some ++ List.replicate (ns - np) none⟩ C) _
  cases eb : body ⟨C.length, ds.map some ++ List.replicate (ns - np) none⟩ C with
  | nx sl' C' => rw [eb] at h; exact h.elim
  | bk sl' C' => rw [eb] at h; exact h.elim
  | ct sl' C' => rw [eb] at h; exact h.elim
  | stuck => rw [eb] at h; exact h.elim
  | rt d C' =>
    rw [eb] at h
    intro A' H' v p st' r
    simp only at h
    unfold finO at h
    split at h
    · rename_i i
      split at h
      · rename_i hi
        split at h
        · rename_i xs ec
          split at h
          · rename_i hc
            obtain ⟨q1, q2, q3, q4⟩ := cut_stp rfl st st' p
            cases r with
            | cell hi' =>
              obtain ⟨ws, hw, rw'⟩ := st'.at_ i _ ec
              have tl : (C'.take C.length ++ [some (Cell.lst xs)]).length = C.length + 1 := by simp [List.length_take]; omega
              have at_lt : ∀ j, j < C.length → (C'.take C.length ++ [some (Cell.lst xs)])[j]? = C'[j]? := fun j hj => by
                rw [List.getElem?_append_left (by rw [q4]; exact hj), List.getElem?_take_of_lt hj]
              have at_n : (C'.take C.length ++ [some (Cell.lst xs)])[C.length]? = some (some (.lst xs)) := by
                rw [List.getElem?_append_right (by rw [q4]; exact Nat.le_refl _), q4]
                simp
              have ex_lt : ∀ j, j < C.length → ext A' C.length (A' i) j = A' j := fun j hj => if_neg (Nat.ne_of_lt hj)
              have fw : Fw2 C.length A' C' (ext A' C.length (A' i)) (C'.take C.length ++ [some (.lst xs)]) := by
                refine ⟨fun a l => ?_, ex_lt, by rw [tl]; exact Nat.le_succ _⟩
                obtain ⟨j, c, e, z⟩ := l
                have hj : j < C.length + 1 := by rw [← tl]; exact (List.getElem?_eq_some_iff.mp e).1
                by_cases hj' : j < C.length
                · rw [at_lt j hj'] at e
                  rw [ex_lt j hj'] at z
                  exact ⟨j, c, e, z⟩
                · have ej : j = C.length := by omega
                  subst ej
                  rw [ext_at] at z
                  exact ⟨i, _, ec, z⟩
              have low : LowC C.length C' := p.low _ (Nat.le_refl _) (Nat.le_refl _) st.low
              have cellOk : ∀ c a, cbC C.length c = true → CellAt k A' C' H' a c → CellAt k (ext A' C.length (A' i)) (C'.take C.length ++ [some (.lst xs)]) H' a c := fun c a hb hx => by
                cases c with
                | lst ds => obtain ⟨ws, e, r⟩ := hx; exact ⟨ws, e, r.fw2 fw hb⟩
                | dT ks ds => obtain ⟨ws, e, z, r⟩ := hx; exact ⟨ws, e, z, r.fw2 fw hb⟩
                | ins c ds => obtain ⟨dx, ws, e, z, r⟩ := hx; exact ⟨dx, ws, e, z, r.fw2 fw hb⟩
              have st2 : StOk k (ext A' C.length (A' i)) (C'.take C.length ++ [some (.lst xs)]) H' := by
                refine ⟨fun j c e => ?_, fun j j' c c' e e' z => ?_⟩
                · have hj : j < C.length + 1 := by rw [← tl]; exact (List.getElem?_eq_some_iff.mp e).1
                  by_cases hj' : j < C.length
                  · rw [at_lt j hj'] at e
                    rw [ex_lt j hj']
                    exact cellOk c _ (low j c hj' e) (st'.at_ j c e)
                  · have ej : j = C.length := by omega
                    subst ej
                    rw [at_n] at e
                    cases e
                    rw [ext_at]
                    exact cellOk _ _ hc (st'.at_ i _ ec)
                · have hj : j < C.length + 1 := by rw [← tl]; exact (List.getElem?_eq_some_iff.mp e).1
                  have hk : j' < C.length + 1 := by rw [← tl]; exact (List.getElem?_eq_some_iff.mp e').1
                  by_cases hj' : j < C.length
                  · by_cases hk' : j' < C.length
                    · rw [at_lt j hj'] at e
                      rw [at_lt j' hk'] at e'
                      rw [ex_lt j hj', ex_lt j' hk'] at z
                      exact st'.inj j j' c c' e e' z
                    · have ek : j' = C.length := by omega
                      subst ek
                      rw [at_lt j hj'] at e
                      rw [ex_lt j hj', ext_at] at z
                      have := st'.inj j i c _ e ec z
                      omega
                  · have ej : j = C.length := by omega
                    subst ej
                    by_cases hk' : j' < C.length
                    · rw [at_lt j' hk'] at e'
                      rw [ex_lt j' hk', ext_at] at z
                      have := st'.inj j' i c' _ e' ec z.symm
                      omega
                    · omega
              refine h (ext A' C.length (A' i)) H' (.ref (A' i)) ⟨fun v d r => (p.rep v d r).fw2 fw r.cb, by rw [tl]; exact Nat.le_succ _, fun f h1 h2 l => low_app (by rw [q4]; exact h1) (low_take (p.low f h1 h2 l))⟩ st2 ?_
              have r9 : Rep k (ext A' C.length (A' i)) (C'.take C.length ++ [some (.lst xs)]) H' (.ref (ext A' C.length (A' i) C.length)) (.cell C.length) := .cell (by rw [tl]; exact Nat.lt_succ_self _)
              rw [ext_at] at r9
              exact r9
          · exact h.elim
        · exact h.elim
      · exact h.elim
    · exact h.elim
  | xc e sl' C' =>
    rw [eb] at h
    intro A' σ' H' dd ws p s' x l r
    simp only at h
    split at h
    · rename_i hc
      obtain ⟨q1, q2, q3, q4⟩ := cut_stp rfl st s'.st p
      exact h A' H' dd ws q1 q2 x l (r.cut q3 hc)
    · exact h.elim
variable {P : Program} {w : World} {mg : Str → Option Value} {base : Heap} {x qual : Str} {params : Arguments} {body : List Stmt} {scope : Scope} {dvs : List V} {kws : List (Str × V)} {f : Addr} {fd : FuncData}
theorem fn_okO {N ps : List Str} {lev : Nat} {m : MS} (F : FunD k.K x qual params body scope dvs kws f fd) (S : FnScope N ps scope) (hp : ps.length ≤ N.length)
    (hb : ∀ (cdv : Value) (A : Around) (outer : List Env) (s : Shared) (H : Hp) (E : XK), RoomG lev (A.deeper (envOfC qual scope s.heap.objs.size f cdv)) → PSs (cxOf (L2.CX P w) P w k.K mg base N qual scope f cdv A outer s H E) body (LS k (fun c d _ H' => E c d H') m)) :
    FnG P w k.K mg base (lev + 1) f fd ps (SpD k ps.length (mDefO ps.length N.length m)) := by
  obtain ⟨oc, od, dV, kV, doc, pm, an, cdv, ct, osl, rfl, lk, hcd, _, _⟩ := F.ex
  exact fn_ofG lk hcd S (fun vs H Q E h => h.1) fun A outer s H vs Q E hr h => ⟨_, hb cdv A outer s H E hr, spDO_body rfl hp h⟩
end
end CT
set_option maxHeartbeats 4000000
/-! DLI: comparisons as tests. -/
namespace CT
open PySem L2 PySem.Spec PyProof.Rows
theorem RoomG.u65 {n : Nat} {A : Around} (hr : RoomG n A) : A.units + 65 < cLine := by have := hr.room.un; omega
theorem RoomG.u200 {n : Nat} {A : Around} (hr : RoomG n A) : A.units + 200 < cLine := by have := hr.room.un; omega
section
variable {X : Cx} {k : Cn} {W : WX} {a b c : Expr} {pos : Pos} {op op' : CmpOp} {r r' : R2} {o o' : O2} {ma mb mc : ME}
theorem dt_cmp (hR : OpR X (compareOp op) r) (hD : OpD k r o) (ha : PE X a (LE k W ma)) (hb : PE X b (LE k W mb)) (hm : behindInMarks op b = false) : PT X (.Compare a [op] [b] pos) (LT k W (mTst (mOp o ma mb))) :=
  (pt_cmpR hR ha hb hm).cq fun _ _ _ h => le_op hD (lt_val h)
end
/-! ### == and !=, scalars or data -/
def oEqA (neg : Bool) : O2 := fun x y C => match x, y with
  | .int a, .int b => some (.bl (if neg = true then !decide (a = b) else decide (a = b)), C)
  | .str a, .str b => some (.bl (if neg = true then !decide (a = b) else decide (a = b)), C)
  | x, y => oEqD neg x y C
theorem d_eqA {k : Cn} : OpD k (fun x y H Q => rEq x y H Q ∨ rEqD k.K x y H Q) (oEqA false) := by
  intro fl A C H x y dx dy d C' Q hf hl st rx ry e q
  unfold oEqA at e
  split at e
  · cases rx; cases ry; cases e
    refine .inl ⟨rfl, ?_⟩
    have := q A H _ Stp.refl st (.bl _)
    simpa using this
  · cases rx; cases ry; cases e
    refine .inl ⟨rfl, ?_⟩
    have := q A H _ Stp.refl st (.bl _)
    simpa using this
  · exact .inr (d_eqD fl A C H x y _ _ d C' Q hf hl st rx ry e q)
theorem d_neA {k : Cn} : OpD k (fun x y H Q => rNe x y H Q ∨ rNeD k.K x y H Q) (oEqA true) := by
  intro fl A C H x y dx dy d C' Q hf hl st rx ry e q
  unfold oEqA at e
  split at e
  · cases rx; cases ry; cases e
    refine .inl ⟨rfl, ?_⟩
    have := q A H _ Stp.refl st (.bl _)
    simpa using this
  · cases rx; cases ry; cases e
    refine .inl ⟨rfl, ?_⟩
    have := q A H _ Stp.refl st (.bl _)
    simpa using this
  · exact .inr (d_neD fl A C H x y _ _ d C' Q hf hl st rx ry e q)
end CT
set_option maxHeartbeats 4000000
/-! E1: how the terms of the layer are worked out. -/
namespace CT
open PySem L2
/-! ### named steps; simp looks at what is done first alone -/
def getV (o : Option (Option D)) (C : Store) : R D := match o with
  | some (some d) => .ok d C
  | _ => .stuck
@[simp] theorem getV_some (d : D) (C : Store) : getV (some (some d)) C = .ok d C := rfl
def thenS (r : RS) (f : List (Option D) → Store → RS) : RS := match r with
  | .nx sl C => f sl C
  | r => r
@[simp] theorem thenS_nx (sl : List (Option D)) (C : Store) (f : List (Option D) → Store → RS) : thenS (.nx sl C) f = f sl C := rfl
@[simp] theorem thenS_rt (d : D) (C : Store) (f : List (Option D) → Store → RS) : thenS (.rt d C) f = .rt d C := rfl
@[simp] theorem thenS_bk (sl : List (Option D)) (C : Store) (f : List (Option D) → Store → RS) : thenS (.bk sl C) f = .bk sl C := rfl
@[simp] theorem thenS_ct (sl : List (Option D)) (C : Store) (f : List (Option D) → Store → RS) : thenS (.ct sl C) f = .ct sl C := rfl
def asB (d : D) (C : Store) : R Bool := match d with
  | .bl b => .ok b C
  | _ => .stuck
@[simp] theorem asB_bl (b : Bool) (C : Store) : asB (.bl b) C = .ok b C := rfl
def asgS (o : Option (List (Option D))) (C : Store) : RS := match o with
  | some sl => .nx sl C
  | none => .stuck
@[simp] theorem asgS_some (sl : List (Option D)) (C : Store) : asgS (some sl) C = .nx sl C := rfl
def finS (n : Nat) (r : RS) : R D := match r with
  | .nx _ C' => fin n .non C'
  | .rt d C' => fin n d C'
  | .xc e _ C' => if cbL n e.fs = true then .exc e (C'.take n) else .stuck
  | _ => .stuck
@[simp] theorem finS_nx (n : Nat) (sl : List (Option D)) (C : Store) : finS n (.nx sl C) = fin n .non C := rfl
@[simp] theorem finS_rt (n : Nat) (d : D) (C : Store) : finS n (.rt d C) = fin n d C := rfl
theorem ev_def {np ns : Nat} {body : MS} {ds : List D} {C : Store} (h : ds.length = np) : mDef np ns body ds C = finS C.length (body ⟨C.length, ds.map some ++ List.replicate (ns - np) none⟩ C) := by
  unfold mDef
  rw [if_pos h]
  rfl
@[simp] theorem fin_int (n : Nat) (i : Int) (C : Store) : fin n (.int i) C = .ok (.int i) (C.take n) := rfl
@[simp] theorem fin_bl (n : Nat) (i : Bool) (C : Store) : fin n (.bl i) C = .ok (.bl i) (C.take n) := rfl
@[simp] theorem fin_non (n : Nat) (C : Store) : fin n .non C = .ok .non (C.take n) := rfl
@[simp] theorem fin_str (n : Nat) (i : Str) (C : Store) : fin n (.str i) C = .ok (.str i) (C.take n) := rfl
section
variable (fl : Nat) (sl : List (Option D)) (C : Store) (F : Fr)
@[simp] theorem ev_var (i : Nat) : mVar i ⟨fl, sl⟩ C = getV sl[i]? C := rfl
@[simp] theorem ev_c (d : D) : mC d F C = .ok d C := rfl
@[simp] theorem ev_nil : mNil F C = .ok [] C := rfl
@[simp] theorem ev_next : sNext F C = .nx F.sl C := rfl
@[simp] theorem ev_yes : tYesM F C = .ok true C := rfl
@[simp] theorem ev_retN : sRetN F C = .rt .non C := rfl
@[simp] theorem ev_gN (i : Nat) (d : D) : gN i d sl = some (sl.set i (some d)) := rfl
@[simp] theorem ev_ofO_some (d : D) : ofO (some (d, C)) = .ok d C := rfl
@[simp] theorem ev_ofO_none : ofO none = .stuck := rfl
@[simp] theorem ev_add (a b : Int) : oAdd (.int a) (.int b) C = some (.int (a + b), C) := rfl
@[simp] theorem ev_sub (a b : Int) : oSub (.int a) (.int b) C = some (.int (a - b), C) := rfl
@[simp] theorem ev_lt (a b : Int) : oLt (.int a) (.int b) C = some (.bl (decide (a < b)), C) := rfl
@[simp] theorem ev_le (a b : Int) : oLe (.int a) (.int b) C = some (.bl (decide (a ≤ b)), C) := rfl
@[simp] theorem ev_gt (a b : Int) : oGt (.int a) (.int b) C = some (.bl (decide (b < a)), C) := rfl
@[simp] theorem ev_ge (a b : Int) : oGe (.int a) (.int b) C = some (.bl (decide (b ≤ a)), C) := rfl
@[simp] theorem ev_neg (a : Int) : oNeg (.int a) C = some (.int (-a), C) := rfl
@[simp] theorem ev_min (a b : Int) : oMin2 [.int a, .int b] C = some (.int (min a b), C) := by
  show some (D.int (if b < a then b else a), C) = _
  congr 3
  by_cases h : b < a
  · rw [if_pos h]; omega
  · rw [if_neg h]; omega
@[simp] theorem ev_max (a b : Int) : oMax2 [.int a, .int b] C = some (.int (max a b), C) := by
  show some (D.int (if b > a then b else a), C) = _
  congr 3
  by_cases h : b > a
  · rw [if_pos h]; omega
  · rw [if_neg h]; omega
@[simp] theorem ev_int (a : Int) : oInt [.int a] C = some (.int a, C) := rfl
@[simp] theorem ev_abs (a : Int) : oAbs [.int a] C = some (.int (a.natAbs : Int), C) := by
  show some (D.int (if a < 0 then -a else a), C) = _
  congr 3
  by_cases h : a < 0
  · rw [if_pos h]; omega
  · rw [if_neg h]; omega
theorem ev_mul {a b : Int} (h : cMul a b = true) : oMul (.int a) (.int b) C = some (.int (a * b), C) := by
  show (if cMul a b = true then some (D.int (a * b), C) else none) = _
  rw [if_pos h]
theorem ev_mod {a b : Int} (h : 0 < b) : oMod (.int a) (.int b) C = some (.int (a % b), C) := by
  show (if decide (0 < b) = true then some (D.int (a % b), C) else none) = _
  rw [if_pos (decide_eq_true h)]
theorem ev_div {a b : Int} (h : 0 < b) (h2 : b < 4611686018427387904) : oDiv (.int a) (.int b) C = some (.int (a / b), C) := by
  show (if cDiv a b = true then some (D.int (a / b), C) else none) = _
  rw [if_pos (by simp [cDiv, h, h2])]
@[simp] theorem ev_eq (a b : Int) : oEqA false (.int a) (.int b) C = some (.bl (decide (a = b)), C) := rfl
@[simp] theorem ev_ne (a b : Int) : oEqA true (.int a) (.int b) C = some (.bl (!decide (a = b)), C) := rfl
@[simp] theorem ev_eqS (a b : Str) : oEqA false (.str a) (.str b) C = some (.bl (decide (a = b)), C) := rfl
@[simp] theorem ev_neS (a b : Str) : oEqA true (.str a) (.str b) C = some (.bl (!decide (a = b)), C) := rfl
end
/-! ### what is done next, as constants -/
section
variable {α β : Type}
def opK2 (o : O2) (x : D) (m : R D) : R D := bnd m fun y C2 => ofO (o x y C2)
@[simp] theorem opK2_ok (o : O2) (x y : D) (C : Store) : opK2 o x (.ok y C) = ofO (o x y C) := rfl
def opK (o : O2) (b : ME) (F : Fr) (m : R D) : R D := bnd m fun x C1 => opK2 o x (b F C1)
@[simp] theorem opK_ok (o : O2) (b : ME) (F : Fr) (x : D) (C : Store) : opK o b F (.ok x C) = opK2 o x (b F C) := rfl
@[simp] theorem ev_op (o : O2) (a b : ME) (F : Fr) (C : Store) : mOp o a b F C = opK o b F (a F C) := rfl
def unK (o : O1) (m : R D) : R D := bnd m fun x C1 => ofO (o x C1)
@[simp] theorem unK_ok (o : O1) (x : D) (C : Store) : unK o (.ok x C) = ofO (o x C) := rfl
@[simp] theorem ev_un (o : O1) (a : ME) (F : Fr) (C : Store) : mUn o a F C = unK o (a F C) := rfl
def consK2 (x : D) (m : R (List D)) : R (List D) := bnd m fun xs C2 => .ok (x :: xs) C2
@[simp] theorem consK2_ok (x : D) (xs : List D) (C : Store) : consK2 x (.ok xs C) = .ok (x :: xs) C := rfl
def consK (r : MA) (F : Fr) (m : R D) : R (List D) := bnd m fun x C1 => consK2 x (r F C1)
@[simp] theorem consK_ok (r : MA) (F : Fr) (x : D) (C : Store) : consK r F (.ok x C) = consK2 x (r F C) := rfl
@[simp] theorem ev_cons (a : ME) (r : MA) (F : Fr) (C : Store) : mCons a r F C = consK r F (a F C) := rfl
def apK (o : OA) (m : R (List D)) : R D := bnd m fun xs C1 => ofO (o xs C1)
@[simp] theorem apK_ok (o : OA) (xs : List D) (C : Store) : apK o (.ok xs C) = ofO (o xs C) := rfl
@[simp] theorem ev_ap (o : OA) (a : MA) (F : Fr) (C : Store) : mAp o a F C = apK o (a F C) := rfl
def tstK (m : R D) : R Bool := bnd m asB
@[simp] theorem tstK_ok (b : Bool) (C : Store) : tstK (.ok (.bl b) C) = .ok b C := rfl
@[simp] theorem ev_tst (a : ME) (F : Fr) (C : Store) : mTst a F C = tstK (a F C) := rfl
def tandK (b : MT) (F : Fr) (m : R Bool) : R Bool := bnd m fun x C1 => if x = true then b F C1 else .ok false C1
@[simp] theorem tandK_t (b : MT) (F : Fr) (C : Store) : tandK b F (.ok true C) = b F C := rfl
@[simp] theorem tandK_f (b : MT) (F : Fr) (C : Store) : tandK b F (.ok false C) = .ok false C := rfl
@[simp] theorem ev_tand (a b : MT) (F : Fr) (C : Store) : tAndM a b F C = tandK b F (a F C) := rfl
def torK (b : MT) (F : Fr) (m : R Bool) : R Bool := bnd m fun x C1 => if x = true then .ok true C1 else b F C1
@[simp] theorem torK_t (b : MT) (F : Fr) (C : Store) : torK b F (.ok true C) = .ok true C := rfl
@[simp] theorem torK_f (b : MT) (F : Fr) (C : Store) : torK b F (.ok false C) = b F C := rfl
@[simp] theorem ev_tor (a b : MT) (F : Fr) (C : Store) : tOrM a b F C = torK b F (a F C) := rfl
def tnotK (m : R Bool) : R Bool := bnd m fun x C1 => .ok (!x) C1
@[simp] theorem tnotK_ok (x : Bool) (C : Store) : tnotK (.ok x C) = .ok (!x) C := rfl
@[simp] theorem ev_tnot (a : MT) (F : Fr) (C : Store) : tNotM a F C = tnotK (a F C) := rfl
def ifK (a b : ME) (F : Fr) (m : R Bool) : R D := bnd m fun x C1 => if x = true then a F C1 else b F C1
@[simp] theorem ifK_t (a b : ME) (F : Fr) (C : Store) : ifK a b F (.ok true C) = a F C := rfl
@[simp] theorem ifK_f (a b : ME) (F : Fr) (C : Store) : ifK a b F (.ok false C) = b F C := rfl
@[simp] theorem ev_if (t : MT) (a b : ME) (F : Fr) (C : Store) : mIf t a b F C = ifK a b F (t F C) := rfl
def andK (b : ME) (F : Fr) (m : R D) : R D := bnd m fun x C1 => match x with
  | .bl true => b F C1
  | .bl false => .ok (.bl false) C1
  | _ => .stuck
@[simp] theorem andK_t (b : ME) (F : Fr) (C : Store) : andK b F (.ok (.bl true) C) = b F C := rfl
@[simp] theorem andK_f (b : ME) (F : Fr) (C : Store) : andK b F (.ok (.bl false) C) = .ok (.bl false) C := rfl
@[simp] theorem ev_and (a b : ME) (F : Fr) (C : Store) : mAnd a b F C = andK b F (a F C) := rfl
def orK (b : ME) (F : Fr) (m : R D) : R D := bnd m fun x C1 => match x with
  | .bl true => .ok (.bl true) C1
  | .bl false => b F C1
  | _ => .stuck
@[simp] theorem orK_t (b : ME) (F : Fr) (C : Store) : orK b F (.ok (.bl true) C) = .ok (.bl true) C := rfl
@[simp] theorem orK_f (b : ME) (F : Fr) (C : Store) : orK b F (.ok (.bl false) C) = b F C := rfl
@[simp] theorem ev_or (a b : ME) (F : Fr) (C : Store) : mOr a b F C = orK b F (a F C) := rfl
def notK (m : R D) : R D := bnd m fun x C1 => match x with
  | .bl b => .ok (.bl (!b)) C1
  | _ => .stuck
@[simp] theorem notK_ok (b : Bool) (C : Store) : notK (.ok (.bl b) C) = .ok (.bl (!b)) C := rfl
@[simp] theorem ev_not (a : ME) (F : Fr) (C : Store) : mNot a F C = notK (a F C) := rfl
def chK4 (o' : O2) (y : D) (m : R D) : R D := bnd m fun w C4 => ofO (o' y w C4)
@[simp] theorem chK4_ok (o' : O2) (y w : D) (C : Store) : chK4 o' y (.ok w C) = ofO (o' y w C) := rfl
def chK3 (o' : O2) (c : ME) (F : Fr) (y : D) (m : R D) : R D := bnd m fun z C3 => match z with
  | .bl true => chK4 o' y (c F C3)
  | .bl false => .ok (.bl false) C3
  | _ => .stuck
@[simp] theorem chK3_t (o' : O2) (c : ME) (F : Fr) (y : D) (C : Store) : chK3 o' c F y (.ok (.bl true) C) = chK4 o' y (c F C) := rfl
@[simp] theorem chK3_f (o' : O2) (c : ME) (F : Fr) (y : D) (C : Store) : chK3 o' c F y (.ok (.bl false) C) = .ok (.bl false) C := rfl
def chK2 (o o' : O2) (c : ME) (F : Fr) (x : D) (m : R D) : R D := bnd m fun y C2 => chK3 o' c F y (ofO (o x y C2))
@[simp] theorem chK2_ok (o o' : O2) (c : ME) (F : Fr) (x y : D) (C : Store) : chK2 o o' c F x (.ok y C) = chK3 o' c F y (ofO (o x y C)) := rfl
def chK (o o' : O2) (b c : ME) (F : Fr) (m : R D) : R D := bnd m fun x C1 => chK2 o o' c F x (b F C1)
@[simp] theorem chK_ok (o o' : O2) (b c : ME) (F : Fr) (x : D) (C : Store) : chK o o' b c F (.ok x C) = chK2 o o' c F x (b F C) := rfl
@[simp] theorem ev_chain (o o' : O2) (a b c : ME) (F : Fr) (C : Store) : mChain o o' a b c F C = chK o o' b c F (a F C) := rfl
def seqK (b : MS) (fl : Nat) (r : RS) : RS := match r with
  | .nx sl C1 => b ⟨fl, sl⟩ C1
  | r => r
@[simp] theorem seqK_nx (b : MS) (fl : Nat) (sl : List (Option D)) (C : Store) : seqK b fl (.nx sl C) = b ⟨fl, sl⟩ C := rfl
@[simp] theorem seqK_rt (b : MS) (fl : Nat) (d : D) (C : Store) : seqK b fl (.rt d C) = .rt d C := rfl
@[simp] theorem ev_seq (a b : MS) (F : Fr) (C : Store) : sSeq a b F C = seqK b F.fl (a F C) := by
  unfold sSeq seqK
  cases a F C <;> rfl
def dropK (sl : List (Option D)) (m : R D) : RS := bndS sl m fun _ C1 => .nx sl C1
@[simp] theorem dropK_ok (sl : List (Option D)) (d : D) (C : Store) : dropK sl (.ok d C) = .nx sl C := rfl
@[simp] theorem ev_sdrop (m : ME) (F : Fr) (C : Store) : sDrop m F C = dropK F.sl (m F C) := rfl
def retK (sl : List (Option D)) (m : R D) : RS := bndS sl m fun d C1 => .rt d C1
@[simp] theorem retK_ok (sl : List (Option D)) (d : D) (C : Store) : retK sl (.ok d C) = .rt d C := rfl
@[simp] theorem ev_sret (m : ME) (F : Fr) (C : Store) : sRet m F C = retK F.sl (m F C) := rfl
def sifK (a b : MS) (F : Fr) (m : R Bool) : RS := bndS F.sl m fun x C1 => if x = true then a F C1 else b F C1
@[simp] theorem sifK_t (a b : MS) (F : Fr) (C : Store) : sifK a b F (.ok true C) = a F C := rfl
@[simp] theorem sifK_f (a b : MS) (F : Fr) (C : Store) : sifK a b F (.ok false C) = b F C := rfl
@[simp] theorem ev_sif (t : MT) (a b : MS) (F : Fr) (C : Store) : sIf t a b F C = sifK a b F (t F C) := rfl
def asgK (g : MG) (sl : List (Option D)) (m : R D) : RS := bndS sl m fun d C1 => asgS (g d sl) C1
@[simp] theorem asgK_ok (g : MG) (sl : List (Option D)) (d : D) (C : Store) : asgK g sl (.ok d C) = asgS (g d sl) C := rfl
@[simp] theorem ev_asg (m : ME) (g : MG) (F : Fr) (C : Store) : sAsg m g F C = asgK g F.sl (m F C) := rfl
def parK (is : List Nat) (sl : List (Option D)) (m : R (List D)) : RS := bndS sl m fun ds C1 => asgS (setAll is ds sl) C1
@[simp] theorem parK_ok (is : List Nat) (sl : List (Option D)) (ds : List D) (C : Store) : parK is sl (.ok ds C) = asgS (setAll is ds sl) C := rfl
@[simp] theorem ev_par (is : List Nat) (m : MA) (F : Fr) (C : Store) : sPar is m F C = parK is F.sl (m F C) := rfl
@[simp] theorem setAll_nil (sl : List (Option D)) : setAll [] [] sl = some sl := rfl
@[simp] theorem setAll_cons (i : Nat) (is : List Nat) (d : D) (ds : List D) (sl : List (Option D)) : setAll (i :: is) (d :: ds) sl = setAll is ds (sl.set i (some d)) := rfl
@[simp] theorem ev_gT (is : List Nat) (ds : List D) (sl : List (Option D)) : gT is (.tup ds) sl = setAll is ds sl := rfl
def callK (m : MF) (dds : List D) (r : R (List D)) : R D := bnd r fun ds C1 => m (ds ++ dds) C1
@[simp] theorem callK_ok (m : MF) (dds ds : List D) (C : Store) : callK m dds (.ok ds C) = m (ds ++ dds) C := rfl
@[simp] theorem ev_call (m : MF) (dds : List D) (a : MA) (F : Fr) (C : Store) : mCall m dds a F C = callK m dds (a F C) := rfl
def forK (g : MG) (body : MS) (F : Fr) (m : R ItD) : RS := bndS F.sl m fun it C1 => loopN it g body F.fl it.n 0 F.sl C1
@[simp] theorem forK_ok (g : MG) (body : MS) (F : Fr) (it : ItD) (C : Store) : forK g body F (.ok it C) = loopN it g body F.fl it.n 0 F.sl C := rfl
@[simp] theorem ev_for (mi : MI) (g : MG) (body : MS) (F : Fr) (C : Store) : sFor mi g body F C = forK g body F (mi F C) := rfl
/-! #### methods, properties, dicts -/
def mthK2 (m : MF) (dds : List D) (x : D) (r : R (List D)) : R D := bnd r fun ds C2 => m (x :: (ds ++ dds)) C2
@[simp] theorem mthK2_ok (m : MF) (dds ds : List D) (x : D) (C : Store) : mthK2 m dds x (.ok ds C) = m (x :: (ds ++ dds)) C := rfl
def mthK (c : Nat) (m : MF) (dds : List D) (a : MA) (F : Fr) (r : R D) : R D := bnd r fun x C1 => match vO x C1 with
  | some (c', _) => if c' = c then mthK2 m dds x (a F C1) else .stuck
  | none => .stuck
@[simp] theorem mthK_ok (c : Nat) (m : MF) (dds : List D) (a : MA) (F : Fr) (fs : List D) (C : Store) : mthK c m dds a F (.ok (.obj c fs) C) = mthK2 m dds (.obj c fs) (a F C) := by
  show (if c = c then mthK2 m dds (.obj c fs) (a F C) else .stuck) = _
  rw [if_pos rfl]
@[simp] theorem ev_meth (c : Nat) (m : MF) (dds : List D) (mo : ME) (a : MA) (F : Fr) (C : Store) : mMeth c m dds mo a F C = mthK c m dds a F (mo F C) := rfl
def prpK (c : Nat) (m : MF) (r : R D) : R D := bnd r fun x C1 => match vO x C1 with
  | some (c', _) => if c' = c then (match m [x] C1 with
    | .ok d C2 => .ok d C2
    | _ => .stuck) else .stuck
  | none => .stuck
@[simp] theorem ev_prop (c : Nat) (m : MF) (mo : ME) (F : Fr) (C : Store) : mProp c m mo F C = prpK c m (mo F C) := rfl
@[simp] theorem ev_fld (c n : Nat) (fs : List D) (C : Store) : oFld c n (.obj c fs) C = (fs[n]?).map fun d => (d, C) := by
  unfold oFld
  simp [vO]
def getK3 (x y : D) (m : R D) : R D := bnd m fun z C3 => ofO (oDGet x y z C3)
@[simp] theorem getK3_ok (x y z : D) (C : Store) : getK3 x y (.ok z C) = ofO (oDGet x y z C) := rfl
def getK2 (c : ME) (F : Fr) (x : D) (m : R D) : R D := bnd m fun y C2 => getK3 x y (c F C2)
@[simp] theorem getK2_ok (c : ME) (F : Fr) (x y : D) (C : Store) : getK2 c F x (.ok y C) = getK3 x y (c F C) := rfl
def getK (b c : ME) (F : Fr) (m : R D) : R D := bnd m fun x C1 => if (vD x C1).isSome = true then getK2 c F x (b F C1) else .stuck
@[simp] theorem ev_dget (a b c : ME) (F : Fr) (C : Store) : mDGet a b c F C = getK b c F (a F C) := rfl
def isiK (kn : List Nat) (t : Cc) (m : R D) : R D := bnd m fun d C1 => match isi kn d C1 t with
  | some b => .ok (.bl b) C1
  | none => .stuck
@[simp] theorem ev_isi (kn : List Nat) (t : Cc) (m : ME) (F : Fr) (C : Store) : mIsi kn t m F C = isiK kn t (m F C) := rfl
@[simp] theorem isiK_ok (kn : List Nat) (t : Cc) (d : D) (C : Store) : isiK kn t (.ok d C) = ofO ((isi kn d C t).map fun b => (.bl b, C)) := by
  show (match isi kn d C t with
    | some b => R.ok (D.bl b) C
    | none => R.stuck) = _
  cases isi kn d C t <;> rfl
/-! #### lists written -/
def stK4 (F : Fr) (v o : D) (x : D) (C3 : Store) : RS := match x, cL o C3 with
  | .int n, some (i, ds) => match ixN ds.length n with
    | some j => match wr F.fl i (.lst (ds.set j v)) C3 with
      | some C4 => .nx F.sl C4
      | none => .stuck
    | none => .stuck
  | _, _ => .stuck
def stK3 (F : Fr) (v o : D) (m : R D) : RS := bndS F.sl m fun x C3 => stK4 F v o x C3
@[simp] theorem stK3_ok (F : Fr) (v o x : D) (C : Store) : stK3 F v o (.ok x C) = stK4 F v o x C := rfl
def stK2 (mi : ME) (F : Fr) (v : D) (m : R D) : RS := bndS F.sl m fun o C2 => stK3 F v o (mi F C2)
@[simp] theorem stK2_ok (mi : ME) (F : Fr) (v o : D) (C : Store) : stK2 mi F v (.ok o C) = stK3 F v o (mi F C) := rfl
def stK (mo mi : ME) (F : Fr) (m : R D) : RS := bndS F.sl m fun v C1 => stK2 mi F v (mo F C1)
@[simp] theorem stK_ok (mo mi : ME) (F : Fr) (v : D) (C : Store) : stK mo mi F (.ok v C) = stK2 mi F v (mo F C) := rfl
@[simp] theorem ev_setL (me mo mi : ME) (F : Fr) (C : Store) : sSetL me mo mi F C = stK mo mi F (me F C) := rfl
def auK4 (o : Int → Int → Int) (F : Fr) (l : D) (n a : Int) (v : D) (C3 : Store) : RS := match v, cL l C3 with
  | .int b, some (i, es) => (match ixN es.length n with
    | some j => (match wr F.fl i (.lst (es.set j (.int (o a b)))) C3 with
      | some C4 => .nx F.sl C4
      | none => .stuck)
    | none => .stuck)
  | _, _ => .stuck
def auK3 (o : Int → Int → Int) (F : Fr) (l : D) (n a : Int) (m : R D) : RS := bndS F.sl m fun v C3 => auK4 o F l n a v C3
@[simp] theorem auK3_ok (o : Int → Int → Int) (F : Fr) (l : D) (n a : Int) (v : D) (C : Store) : auK3 o F l n a (.ok v C) = auK4 o F l n a v C := rfl
def auK2 (o : Int → Int → Int) (me : ME) (F : Fr) (l : D) (x : D) (C2 : Store) : RS := match x, cL l C2 with
  | .int n, some (_, ds) => if 0 ≤ n then (match ds[n.toNat]? with
    | some (.int a) => auK3 o F l n a (me F C2)
    | _ => .stuck) else .stuck
  | _, _ => .stuck
def auK1 (o : Int → Int → Int) (me : ME) (F : Fr) (l : D) (m : R D) : RS := bndS F.sl m fun x C2 => auK2 o me F l x C2
@[simp] theorem auK1_ok (o : Int → Int → Int) (me : ME) (F : Fr) (l x : D) (C : Store) : auK1 o me F l (.ok x C) = auK2 o me F l x C := rfl
def auK (o : Int → Int → Int) (mi me : ME) (F : Fr) (m : R D) : RS := bndS F.sl m fun l C1 => auK1 o me F l (mi F C1)
@[simp] theorem auK_ok (o : Int → Int → Int) (mi me : ME) (F : Fr) (l : D) (C : Store) : auK o mi me F (.ok l C) = auK1 o me F l (mi F C) := rfl
@[simp] theorem ev_augL (o : Int → Int → Int) (mo mi me : ME) (F : Fr) (C : Store) : sAugL o mo mi me F C = auK o mi me F (mo F C) := rfl
@[simp] theorem cbL_ints (n : Nat) : ∀ cs : List Int, cbL n (cs.map D.int) = true
  | [] => rfl
  | c :: cs => by
    show (cb n (.int c) && cbL n (cs.map D.int)) = true
    rw [cbL_ints n cs]
    rfl
end
end CT
set_option maxHeartbeats 4000000
/-! DLJ: operators that a class defines: ==, !=, +, in, []. -/
namespace CT
open PySem L2 PySem.Spec PyProof.Rows
/-- an operation that may call a def of the program's own -/
def OpX (X : Cx) (f : Value → Value → Sem Value) (r : L2.St → R2) : Prop :=
  ∀ (pins : List (Addr × Obj)) (s : Shared) (σ : L2.St) (H : Hp) (x y : V) (v u : Value) (Q : VK), Inv X pins σ H s → RelV x v → RelV y u → r σ x y H Q → wpAny (model X.prog X.w) X.A (f v u) (EP X pins σ Q) X.xe s
def tOpX (r : L2.St → R2) (ta tb : TE) : TE := fun σ H Q => ta σ H fun x H1 => tb σ H1 fun y H2 => r σ x y H2 Q
/-- the left is an instance of the class at C, the right of a type that does not go first -/
def rO2 (K : PySem.W.Frag) (C : Addr) (sp : Sp) (E : L2.St → XK) (post : VK → VK) : L2.St → R2 := fun σ x y H Q => ∃ a dx fs T, x = .ref a ∧ H a = some (.ins C dx fs) ∧ TyX K H y T ∧ PySem.W.notFirst K C T = true ∧ sp [x, y] H (post Q) (E σ)
section
variable {X : Cx} {k : Cn} {W : WX} {σ : L2.St} {H : Hp} {Q : VK} {lev : Nat} {C g a dx : Addr} {fs : List (Str × V)} {f : Str} {fd : FuncData} {ps : List Str} {np : Nat} {m : MF} {e o b : Expr} {pos : Pos} {ta tb : TE} {mo me : ME} {E : L2.St → XK} {sp : Sp} {r : L2.St → R2}
theorem pe_opX {op : Operator} (ho : OpX X (binaryOp op) r) (ha : PE X e ta) (hb : PE X b tb) : PE X (.BinOp e op b pos) (tOpX r ta tb) :=
  ⟨fun pins s σ H Q I h => wpAny_BinOp (binT ha hb I h fun v u s2 x y H2 I2 rx ry q => ho pins s2 σ H2 x y v u Q I2 rx ry q)⟩
theorem pe_cmpX {op : CmpOp} (ho : OpX X (compareOp op) r) (ha : PE X e ta) (hb : PE X b tb) (hm : behindInMarks op b = false) : PE X (.Compare e [op] [b] pos) (tOpX r ta tb) :=
  ⟨fun pins s σ H Q I h => wpAny_Compare1 (binT ha hb I h fun v u s2 x y H2 I2 rx ry q => ho pins s2 σ H2 x y v u Q I2 rx ry q) hm⟩
/-- the type of a value, looked up -/
theorem ty_look {M : Model} {pins : List (Addr × Obj)} {s : Shared} {x : V} {u T : Value} (I : Inv X pins σ H s) (rx : RelV x u) (t : TyX X.K H x T) : PySem.W.Looks M s.heap (typeOf u) T := by
  obtain ⟨P, kx, hp, _⟩ := kit_of I rx t
  exact kx.ty M _ I.kIn hp
theorem op_cmpO {op : CmpOp} (hop : ∀ a b, compareOp op a b = richCompare op a b) (hs : PySem.W.findIn X.K (.ref C) (cmpInfo op).2.1 = some (some (.ref g))) (hf : PySem.W.isFn X.K (.ref g) = true) (F : FnG X.prog X.w X.K X.mg X.base lev g fd ps sp) (hr : RoomG lev X.A) (hb : Binds X.K fd ps []) (hx : ∀ σ, PassesAt (L2.CX X.prog X.w) X σ (E σ)) :
    OpX X (compareOp op) (rO2 X.K C sp E id) := by
  intro pins s σ H x y v u Q I rx ry h
  obtain ⟨a, dx, fs, T, rfl, ha, hT, hn, q⟩ := h
  cases (show v = Value.ref a from rx)
  obtain ⟨mA, O, _, _, _, _⟩ := ins_get I.hok ha
  obtain ⟨od, J, _⟩ := O.look
  obtain ⟨mm, hF⟩ := I.fr
  rw [hop]
  refine PySem.W.cmp_K (op := op) (tb := T) hr.room.units0 hF I.ok.mod.kin J (ty_look I ry hT) hn hs hf ?_
  refine wpAny_mono (run_fnG (us := [.ref a, u]) (vs := [.ref a, y]) (dvs := []) (ds := []) F hr hb .nil (hx σ) I (.cons rfl (.cons ry .nil)) q) (fun z' s' hz => ?_) fun _ _ z => z
  obtain ⟨z, H', I', rz, qz⟩ := hz
  exact SlX.cmpback rz ⟨z, H', I', rz, qz⟩
theorem op_addO {op : Operator} (hc : PySem.W.selfFirst X.K C = true) (hs : PySem.W.findIn X.K (.ref C) (PySem.dunder op.info.2) = some (some (.ref g))) (hf : PySem.W.isFn X.K (.ref g) = true) (F : FnG X.prog X.w X.K X.mg X.base lev g fd ps sp) (hr : RoomG lev X.A) (hb : Binds X.K fd ps []) (hx : ∀ σ, PassesAt (L2.CX X.prog X.w) X σ (E σ)) :
    OpX X (binaryOp op) fun σ x y H Q => ∃ a dx fs b dy gs, x = .ref a ∧ y = .ref b ∧ H a = some (.ins C dx fs) ∧ H b = some (.ins C dy gs) ∧ sp [x, y] H Q (E σ) := by
  intro pins s σ H x y v u Q I rx ry h
  obtain ⟨a, dx, fs, b, dy, gs, rfl, rfl, ha, hb', q⟩ := h
  cases (show v = Value.ref a from rx)
  cases (show u = Value.ref b from ry)
  obtain ⟨mA, O, _, _, _, _⟩ := ins_get I.hok ha
  obtain ⟨od, J, _⟩ := O.look
  obtain ⟨mA', O', _, _, _, _⟩ := ins_get I.hok hb'
  obtain ⟨od', J', _⟩ := O'.look
  obtain ⟨mm, hF⟩ := I.fr
  refine PySem.W.binop_K hF I.ok.mod.kin J J'.type hc hs hf ?_
  refine wpAny_mono (run_fnG (us := [.ref a, .ref b]) (vs := [.ref a, .ref b]) (dvs := []) (ds := []) F hr hb .nil (hx σ) I (.cons rfl (.cons rfl .nil)) q) (fun z' s' hz => ?_) fun _ _ z => z
  obtain ⟨z, H', I', rz, qz⟩ := hz
  exact SlX.cmpback rz ⟨z, H', I', rz, qz⟩
/-- y in x, x an instance with an own __contains__ that gives a truth -/
theorem op_inO {neg : Bool} (hs : PySem.W.findIn X.K (.ref C) "__contains__" = some (some (.ref g))) (hf : PySem.W.isFn X.K (.ref g) = true) (F : FnG X.prog X.w X.K X.mg X.base lev g fd ps sp) (hr : RoomG lev X.A) (hb : Binds X.K fd ps []) (hx : ∀ σ, PassesAt (L2.CX X.prog X.w) X σ (E σ)) :
    OpX X (compareOp (if neg = true then .NotIn else .In)) fun σ x y H Q => ∃ a dx fs, y = .ref a ∧ H a = some (.ins C dx fs) ∧ sp [y, x] H (fun z H' => ∃ t, z = .bl t ∧ Q (.bl (if neg = true then !t else t)) H') (E σ) := by
  intro pins s σ H x y v u Q I rx ry h
  obtain ⟨a, dx, fs, rfl, ha, q⟩ := h
  cases (show u = Value.ref a from ry)
  obtain ⟨mA, O, _, _, _, _⟩ := ins_get I.hok ha
  obtain ⟨od, J, _⟩ := O.look
  obtain ⟨mm, hF⟩ := I.fr
  have run := run_fnG (us := [.ref a, v]) (vs := [.ref a, x]) (dvs := []) (ds := []) F hr hb .nil (hx σ) I (.cons rfl (.cons rx .nil)) q
  cases neg with
  | false =>
    refine PySem.W.in_K hF I.ok.mod.kin J hs hf (wpAny_mono run (fun z' s' hz => ?_) fun _ _ z => z)
    obtain ⟨z, H', I', rz, t, ez, qz⟩ := hz
    subst ez
    cases rz
    exact wpAny_truthy_bool ⟨.bl t, H', I', rfl, qz⟩
  | true =>
    refine PySem.W.notIn_K hF I.ok.mod.kin J hs hf (wpAny_mono run (fun z' s' hz => ?_) fun _ _ z => z)
    obtain ⟨z, H', I', rz, t, ez, qz⟩ := hz
    subst ez
    cases rz
    exact wpAny_truthy_bool ⟨.bl (!t), H', I', rfl, qz⟩
end
end CT
set_option maxHeartbeats 4000000
/-! DLK: != by an own __eq__; x[i] by an own __getitem__. -/
namespace CT
open PySem L2 PySem.Spec PyProof.Rows
end CT
set_option maxHeartbeats 4000000
/-! DLL: own operators over data. -/
namespace CT
open PySem L2 PySem.Spec PyProof.Rows
/-! ### the terms -/
def isC (c : Nat) (x : D) (C : Store) : Bool := match vO x C with
  | some (c', _) => decide (c' = c)
  | none => false
/-- x + y, both of the class -/
def mBinO (c : Nat) (m : MF) (mo me : ME) : ME := fun F C => bnd (mo F C) fun x C1 => bnd (me F C1) fun y C2 => if (isC c x C2 && isC c y C2) = true then m [x, y] C2 else .stuck
def okT (c : Nat) : Option Cc → Bool
  | some (.ty _) => true
  | some (.own c') => decide (c' = c)
  | none => false
def negB (neg : Bool) (r : R D) : R D := bnd r fun z C3 => match z with
  | .bl t => .ok (.bl (if neg = true then !t else t)) C3
  | _ => .stuck
/-- x == y, x != y by __eq__ -/
def mEqO (neg : Bool) (c : Nat) (m : MF) (mo me : ME) : ME := fun F C => bnd (mo F C) fun x C1 => bnd (me F C1) fun y C2 => if (isC c x C2 && okT c (tyD y C2)) = true then negB neg (m [x, y] C2) else .stuck
/-- x in y by __contains__ -/
def mInO (neg : Bool) (c : Nat) (m : MF) (me mo : ME) : ME := fun F C => bnd (me F C) fun x C1 => bnd (mo F C1) fun y C2 => if isC c y C2 = true then negB neg (m [y, x] C2) else .stuck
/-! ### readings -/
section
variable {X : Cx} {k : Cn} {W : WX} {σ : L2.St} {H : Hp} {Q : VK} {lev : Nat} {C g a dx : Addr} {fs : List (Str × V)} {f : Str} {fd : FuncData} {ps : List Str} {np : Nat} {m : MF} {e o b : Expr} {pos : Pos} {ta tb : TE} {mo me : ME} {E : L2.St → XK} {sp : Sp} {r : L2.St → R2}
theorem isC_at {c : Nat} {A : Nat → Addr} {S : Store} {x : D} {v : V} (st : StOk k A S H) (r : Rep k A S H v x) (h : isC c x S = true) : ∃ a dx gs, v = .ref a ∧ H a = some (.ins (k.cl c) dx gs) := by
  unfold isC at h
  split at h
  · rename_i c' fs' ev
    obtain rfl := of_decide_eq_true h
    obtain ⟨a, dx', vs, rfl, ha, _, _⟩ := vO_at st r ev
    exact ⟨a, dx', _, rfl, ha⟩
  · cases h
/-- what the written part says of a class with an own __eq__ -/
structure EqOk (K : PySem.W.Frag) (C g : Addr) : Prop where
  eq : PySem.W.findIn K (.ref C) "__eq__" = some (some (.ref g))
  fn : PySem.W.isFn K (.ref g) = true
  ne : PySem.W.findIn K (.ref C) "__ne__" = some (some (.builtin "object.__ne__"))
  mr : PySem.W.mroIn K C (.type "object") = some true
  sub : ∀ bt : Bt, PySem.W.subIn K (.type bt.name) (.ref C) = some false
  ic : C8.InsC K C
theorem ty_at {kn : List Nat} {c : Nat} {A : Nat → Addr} {S : Store} {y : D} {v : V} (st : StOk k A S H) (r : Rep k A S H v y) (hg : EqOk k.K (k.cl c) g) (h : okT c (tyD y S) = true) : ∃ T, TyX k.K H v T ∧ PySem.W.notFirst k.K (k.cl c) T = true := by
  have bt : ∀ t : Bt, PySem.W.notFirst k.K (k.cl c) (.type t.name) = true := fun t => by
    unfold PySem.W.notFirst
    rw [hg.sub t]
    simp
  have ow : PySem.W.notFirst k.K (k.cl c) (.ref (k.cl c)) = true := by simp [PySem.W.notFirst]
  have I := hg.ic
  cases r with
  | non => exact ⟨_, .base .non, bt .none⟩
  | bl b => exact ⟨_, .base (.bl b), bt .bool⟩
  | int i => exact ⟨_, .base (.int i), bt .int⟩
  | str s => exact ⟨_, .base (.str s), bt .str⟩
  | lst l hh rv => exact ⟨_, .base (.lst hh), bt .list⟩
  | tup l hh rv => exact ⟨_, .base (.tup hh), bt .tuple⟩
  | ktup hh rv =>
    obtain ⟨o, its, n, h1, h2, _⟩ := hh
    exact ⟨_, .kTuple h1 h2, bt .tuple⟩
  | scr l hh rv => cases h
  | kscr hh rv => cases h
  | exn x l hh z rv => cases h
  | cls c => cases h
  | obj l hh z rv =>
    obtain rfl := of_decide_eq_true h
    exact ⟨_, .base (.ins hh I.cl I.ha I.hn I.htk I.hm), ow⟩
  | dT l hh rv => exact ⟨_, .base (.dT hh), bt .dict⟩
  | @cell i hi =>
    cases ec : S[i]? with
    | none => simp only [tyD, ec, okT] at h; cases h
    | some oc =>
      cases oc with
      | none => simp only [tyD, ec, okT] at h; cases h
      | some cc =>
        cases cc with
        | lst xs =>
          obtain ⟨vs, hv, _⟩ := st.at_ i _ ec
          exact ⟨_, .base (.lst hv), bt .list⟩
        | dT ks xs =>
          obtain ⟨vs, hv, _⟩ := st.at_ i _ ec
          exact ⟨_, .base (.dT hv), bt .dict⟩
        | ins c' xs =>
          obtain ⟨dx, vs, hv, _⟩ := st.at_ i _ ec
          simp only [tyD, ec, okT] at h
          obtain rfl := of_decide_eq_true h
          exact ⟨_, .base (.ins hv I.cl I.ha I.hn I.htk I.hm), ow⟩
theorem le_binO {c : Nat} (ar : Ar np m) (h : LE k W (mBinO c m mo me) σ H Q) : tOpX (fun σ x y H Q => ∃ a dx fs b dy gs, x = .ref a ∧ y = .ref b ∧ H a = some (.ins (k.cl c) dx fs) ∧ H b = some (.ins (k.cl c) dy gs) ∧ SpD k np m [x, y] H Q (WE W σ)) (LE k W mo) (LE k W me) σ H Q := by
  obtain ⟨A, F, C, s, h⟩ := h
  refine ⟨A, F, C, s, (Aft.bnd (rel := RepD k) h).mono fun dx C1 A1 H1 v p1 st1 r1 h1 => ?_⟩
  have s1 := s.step p1 st1
  refine ⟨A1, F, C1, s1, (Aft.bnd (rel := RepD k) h1).mono fun dy C2 A2 H2 u p2 st2 r2 h2 => ?_⟩
  have s2 := s1.step p2 st2
  split at h2
  · rename_i hc
    obtain ⟨hc1, hc2⟩ := Bool.and_eq_true_iff.mp hc
    obtain ⟨a, dx', gs, rfl, ha⟩ := isC_at st2 (p2.rep _ _ r1) hc1
    obtain ⟨b, dy', gs', rfl, hb⟩ := isC_at st2 r2 hc2
    exact ⟨a, dx', gs, b, dy', gs', rfl, rfl, ha, hb, sp_of s2.fl ar st2 (.cons (p2.rep _ _ r1) (.cons r2 .nil)) h2⟩
  · exact h2.elim
theorem aft_neg {neg : Bool} {fl : Nat} {A : Nat → Addr} {S : Store} {R : R D} {E' : XK} (h : Aft k fl A S H (RepD k) (negB neg R) (fun _ _ _ H' v => Q v H') E') : Aft k fl A S H (RepD k) R (fun _ _ _ H' v => ∃ t, v = .bl t ∧ Q (.bl (if neg = true then !t else t)) H') E' := by
  refine (Aft.bnd (rel := RepD k) h).mono fun z C3 A3 H3 v p3 st3 r3 h3 => ?_
  cases r3 with
  | bl t => exact ⟨t, rfl, h3 A3 H3 _ Stp.refl st3 (.bl _)⟩
  | _ => exact h3.elim
theorem le_eqO {neg : Bool} {c : Nat} (ar : Ar np m) (hg : EqOk k.K (k.cl c) g) (h : LE k W (mEqO neg c m mo me) σ H Q) : tOpX (rO2 k.K (k.cl c) (SpD k np m) (WE W) fun Q z H' => ∃ t, z = .bl t ∧ Q (.bl (if neg = true then !t else t)) H') (LE k W mo) (LE k W me) σ H Q := by
  obtain ⟨A, F, C, s, h⟩ := h
  refine ⟨A, F, C, s, (Aft.bnd (rel := RepD k) h).mono fun dx C1 A1 H1 v p1 st1 r1 h1 => ?_⟩
  have s1 := s.step p1 st1
  refine ⟨A1, F, C1, s1, (Aft.bnd (rel := RepD k) h1).mono fun dy C2 A2 H2 u p2 st2 r2 h2 => ?_⟩
  have s2 := s1.step p2 st2
  split at h2
  · rename_i hc
    obtain ⟨hc1, hc2⟩ := Bool.and_eq_true_iff.mp hc
    obtain ⟨a, dx', gs, rfl, ha⟩ := isC_at st2 (p2.rep _ _ r1) hc1
    obtain ⟨T, hT, hn⟩ := ty_at (kn := []) st2 r2 hg hc2
    exact ⟨a, dx', gs, T, rfl, ha, hT, hn, sp_of s2.fl ar st2 (.cons (p2.rep _ _ r1) (.cons r2 .nil)) (aft_neg h2)⟩
  · exact h2.elim
theorem le_inO {neg : Bool} {c : Nat} (ar : Ar np m) (h : LE k W (mInO neg c m me mo) σ H Q) : tOpX (fun σ x y H Q => ∃ a dx fs, y = .ref a ∧ H a = some (.ins (k.cl c) dx fs) ∧ SpD k np m [y, x] H (fun z H' => ∃ t, z = .bl t ∧ Q (.bl (if neg = true then !t else t)) H') (WE W σ)) (LE k W me) (LE k W mo) σ H Q := by
  obtain ⟨A, F, C, s, h⟩ := h
  refine ⟨A, F, C, s, (Aft.bnd (rel := RepD k) h).mono fun dx C1 A1 H1 v p1 st1 r1 h1 => ?_⟩
  have s1 := s.step p1 st1
  refine ⟨A1, F, C1, s1, (Aft.bnd (rel := RepD k) h1).mono fun dy C2 A2 H2 u p2 st2 r2 h2 => ?_⟩
  have s2 := s1.step p2 st2
  split at h2
  · rename_i hc
    obtain ⟨a, dx', gs, rfl, ha⟩ := isC_at st2 r2 hc
    exact ⟨a, dx', gs, rfl, ha, sp_of s2.fl ar st2 (.cons r2 (.cons (p2.rep _ _ r1) .nil)) (aft_neg h2)⟩
  · exact h2.elim
/-! ### the rules -/
theorem de_binO {op : Operator} (c : Nat) (tk : Takes X W) (hK : X.K = k.K) (ha : PE X o (LE k W mo)) (hbb : PE X b (LE k W me)) (hc : PySem.W.selfFirst k.K (k.cl c) = true) (hs : PySem.W.findIn k.K (.ref (k.cl c)) (PySem.dunder op.info.2) = some (some (.ref g))) (hf : PySem.W.isFn k.K (.ref g) = true)
    (F : FnG X.prog X.w X.K X.mg X.base lev g fd ps (SpD k np m)) (ar : Ar np m) (hr : RoomG lev X.A) (hb : Binds X.K fd ps []) : PE X (.BinOp o op b pos) (LE k W (mBinO c m mo me)) :=
  (pe_opX (op_addO (by rw [hK]; exact hc) (by rw [hK]; exact hs) (by rw [hK]; exact hf) F hr hb fun σ => passAt tk σ) ha hbb).cq fun _ _ _ h => le_binO ar h
theorem op_eqO' (hg : EqOk X.K C g) (F : FnG X.prog X.w X.K X.mg X.base lev g fd ps sp) (hr : RoomG lev X.A) (hb : Binds X.K fd ps []) (hx : ∀ σ, PassesAt (L2.CX X.prog X.w) X σ (E σ)) : OpX X (compareOp .Eq) (rO2 X.K C sp E fun Q z H' => ∃ t, z = .bl t ∧ Q (.bl (if false = true then !t else t)) H') := by
  intro pins s σ H x y v u Q I rx ry h
  have z := op_cmpO (X := X) (op := .Eq) (fun _ _ => rfl) hg.eq hg.fn F hr hb hx pins s σ H x y v u (fun z H' => ∃ t, z = .bl t ∧ Q (.bl t) H') I rx ry h
  refine wpAny_mono z (fun z' s' hz => ?_) fun _ _ z => z
  obtain ⟨z2, H', I', rz, t, ez, qz⟩ := hz
  subst ez
  exact ⟨.bl t, H', I', rz, qz⟩
theorem de_eqO (c : Nat) (tk : Takes X W) (hK : X.K = k.K) (ha : PE X o (LE k W mo)) (hbb : PE X b (LE k W me)) (hg : EqOk k.K (k.cl c) g) (F : FnG X.prog X.w X.K X.mg X.base lev g fd ps (SpD k np m)) (ar : Ar np m) (hr : RoomG lev X.A) (hb : Binds X.K fd ps []) (hm : behindInMarks .Eq b = false := by rfl) :
    PE X (.Compare o [.Eq] [b] pos) (LE k W (mEqO false c m mo me)) :=
  (pe_cmpX (op_eqO' (by rw [hK]; exact hg) F hr hb fun σ => passAt tk σ) ha hbb hm).cq fun _ _ _ h => by rw [hK]; exact le_eqO (neg := false) ar hg h
theorem de_inO (c : Nat) (tk : Takes X W) (ha : PE X e (LE k W me)) (hbb : PE X b (LE k W mo)) (hK : X.K = k.K) (hs : PySem.W.findIn k.K (.ref (k.cl c)) "__contains__" = some (some (.ref g))) (hf : PySem.W.isFn k.K (.ref g) = true) (F : FnG X.prog X.w X.K X.mg X.base lev g fd ps (SpD k np m)) (ar : Ar np m) (hr : RoomG lev X.A) (hb : Binds X.K fd ps []) (hm : behindInMarks .In b = false := by rfl) :
    PE X (.Compare e [.In] [b] pos) (LE k W (mInO false c m me mo)) :=
  (pe_cmpX (op_inO (neg := false) (by rw [hK]; exact hs) (by rw [hK]; exact hf) F hr hb fun σ => passAt tk σ) ha hbb hm).cq fun _ _ _ h => le_inO (neg := false) ar h
end
end CT
set_option maxHeartbeats 4000000
/-! DLM: what the head says of own operators. -/
namespace CT
open PySem L2 PySem.Spec PyProof.Rows
section
variable {K : PySem.W.Frag}
/-- a def that the class has under a name -/
structure DnOk (K : PySem.W.Frag) (C : Addr) (f : Str) (g : Addr) : Prop where
  at_ : PySem.W.findIn K (.ref C) f = some (some (.ref g))
  fn : PySem.W.isFn K (.ref g) = true
  fi : PySem.W.fnIn K g = true
def dnB (x f : Str) (K : PySem.W.Frag) : Bool := He.eqO (PySem.W.findIn K (.ref (He.ga K x)) f) (some (some (.ref (He.ma K (He.ga K x) f)))) && (PySem.W.isFn K (.ref (He.ma K (He.ga K x) f)) && PySem.W.fnIn K (He.ma K (He.ga K x) f))
theorem dnB_ok {x f : Str} (h : dnB x f K = true) : DnOk K (He.ga K x) f (He.ma K (He.ga K x) f) := by
  obtain ⟨h1, h⟩ := He.ba h
  obtain ⟨h2, h3⟩ := He.ba h
  exact ⟨He.eqO_ok h1, h2, h3⟩
def eqB (x : Str) (K : PySem.W.Frag) : Bool := dnB x "__eq__" K && (He.eqO (PySem.W.findIn K (.ref (He.ga K x)) "__ne__") (some (some (.builtin "object.__ne__"))) && (decide (PySem.W.mroIn K (He.ga K x) (.type "object") = some true) &&
  ((allBt.all fun b => decide (PySem.W.subIn K (.type b.name) (.ref (He.ga K x)) = some false)) && insB (He.ga K x) K)))
theorem eqB_ok {x : Str} (h : eqB x K = true) : EqOk K (He.ga K x) (He.ma K (He.ga K x) "__eq__") := by
  obtain ⟨h1, h⟩ := He.ba h
  obtain ⟨h2, h⟩ := He.ba h
  obtain ⟨h3, h⟩ := He.ba h
  obtain ⟨h4, h5⟩ := He.ba h
  have d := dnB_ok h1
  exact ⟨d.at_, d.fn, He.eqO_ok h2, of_decide_eq_true h3, fun b => of_decide_eq_true (List.all_eq_true.mp h4 b (mem_allBt b)), insB_ok h5⟩
def sfB (x : Str) (K : PySem.W.Frag) : Bool := PySem.W.selfFirst K (He.ga K x)
theorem sfB_ok {x : Str} (h : sfB x K = true) : PySem.W.selfFirst K (He.ga K x) = true := h
end
end CT
set_option maxHeartbeats 4000000
/-! DLN: t[::-1], xs[::-1], t[lo:hi]. -/
namespace CT
open PySem L2 PySem.Spec PyProof.Rows HT
section
variable {prog : Program} {w : World} {A : Around} {E : Value → Shared → Prop} {s : Shared}
theorem fm_cg {α β : Type} {f g : α → Option β} : ∀ {l : List α}, (∀ x ∈ l, f x = g x) → l.filterMap f = l.filterMap g
  | [], _ => rfl
  | x :: l, h => by
    have ih := fm_cg fun y hy => h y (List.mem_cons_of_mem _ hy)
    rw [List.filterMap_cons, List.filterMap_cons, h x (List.mem_cons_self ..), ih]
theorem places_rev (n : Nat) : Builtin.Slice.slicePlaces ((n : Int) - 1) (-1) (-1) = n := by
  unfold Builtin.Slice.slicePlaces
  rw [if_neg (by decide)]
  by_cases h : 0 < n
  · rw [if_pos (by omega), show (-(-1 : Int)) = 1 from rfl, Int.ediv_one]
    omega
  · rw [if_neg (by omega)]
    have : n = 0 := by omega
    rw [this]
    rfl
theorem applied_rev {sl : Addr} {vl vu vs : Value} {n : Nat} {Q : Int × Int × Nat → Shared → Prop} (hs : s.heap.IsSliceOf sl vl vu vs) (pl : IsPart vl none) (pu : IsPart vu none) (ps : IsPart vs (some (-1)))
    (h : Q ((n : Int) - 1, -1, n) s) : wpAny (model prog w) A (Builtin.Slice.sliceApplied (.ref sl) (pure (n : Int))) Q E s := by
  obtain ⟨os, hos, hcs, hds⟩ := id hs
  unfold Builtin.Slice.sliceApplied Builtin.Slice.sliceFields
  refine wpAny_bind (wpAny_bind (wpAny_field hos hds (x := vl) rfl (wpAny_bind (wpAny_field hos hds (x := vu) rfl (wpAny_bind (wpAny_field hos hds (x := vs) rfl (wpAny_pure ?_)))))))
  refine wpAny_bind (slicePart_ ps ?_)
  show wpAny _ _ (if ((-1 : Int) == 0) = true then _ else _) _ _ s
  rw [if_neg (by decide)]
  refine wpAny_bind (slicePart_ pl (wpAny_bind (slicePart_ pu (wpAny_bind (wpAny_pure ?_)))))
  have ea : Builtin.Slice.sliceAdjust none none (-1) (n : Int) = ((n : Int) - 1, -1) := rfl
  show wpAny _ _ (match Builtin.Slice.sliceAdjust none none (-1) (n : Int) with | (lo, hi) => pure (lo, (-1 : Int), Builtin.Slice.slicePlaces lo hi (-1))) _ _ s
  rw [ea]
  show wpAny _ _ (pure ((n : Int) - 1, (-1 : Int), Builtin.Slice.slicePlaces ((n : Int) - 1) (-1) (-1))) _ _ s
  rw [places_rev]
  exact wpAny_pure h
theorem pick_rev (xs : Array Value) : ((List.range xs.size).filterMap fun (m : Nat) => xs[(((xs.size : Int) - 1) + (m : Int) * (-1)).toNat]?).toArray = xs.toList.reverse.toArray := by
  congr 1
  apply List.ext_getElem?
  intro i
  have e : ∀ m ∈ List.range xs.size, (xs[(((xs.size : Int) - 1) + (m : Int) * (-1)).toNat]?) = some (xs.toList.reverse.getD m .none) := fun m hm => by
    have hm' := List.mem_range.mp hm
    have e1 : (((xs.size : Int) - 1) + (m : Int) * (-1)).toNat = xs.size - 1 - m := by omega
    rw [e1]
    have h2 : xs.size - 1 - m < xs.size := by omega
    simp [h2, hm', List.getD_eq_getElem?_getD, List.getElem?_reverse]
  have e2 : (List.range xs.size).filterMap (fun (m : Nat) => xs[(((xs.size : Int) - 1) + (m : Int) * (-1)).toNat]?) = (List.range xs.size).map fun m => xs.toList.reverse.getD m .none := by
    rw [← List.filterMap_eq_map]
    exact fm_cg e
  rw [e2]
  simp only [List.getElem?_map, List.getElem?_range]
  by_cases hi : i < xs.size
  · simp [hi, List.getD_eq_getElem?_getD, List.getElem?_reverse]
  · simp [hi]
theorem getItem_rev {t sl : Addr} {items : Array Value} {vl vu vs : Value} {Q : Value → Shared → Prop} (ht : IsTup s.heap t items) (hs : s.heap.IsSliceOf sl vl vu vs) (pl : IsPart vl none) (pu : IsPart vu none) (ps : IsPart vs (some (-1)))
    (h : Q (.ref s.heap.objs.size) { s with heap := s.heap.push { cls := .type "tuple", data := .seq items.toList.reverse.toArray } }) (hsz : items.size ≤ sizeLine) : wpAny (model prog w) A (getItem (.ref t) (.ref sl)) Q E s := by
  have hz : sizeOk (.seq items.toList.reverse.toArray) := by
    show items.toList.reverse.toArray.size ≤ sizeLine
    rw [List.size_toArray, List.length_reverse, Array.length_toList]
    exact hsz
  obtain ⟨os, hos, hcs, hds⟩ := id hs
  have hTs : s.TypeIs (.ref sl) "slice" := ⟨os, hos, hcs⟩
  unfold getItem
  try with_reducible refine wpAny_holding ?_
  first | refine wpAny_bind (wpAny_pure ?_) | skip
  refine wpAny_bind (wpAny_sequenceKey ht.typeIs (by decide) ?_)
  refine wpAny_bind (wpAny_callSpecial?_slot (name := Str.ofString "__getitem__") ht.typeIs PyProof.Rows.slot_tuple_getitem
    (wpAny_call_entry PyProof.Rows.slot_tuple_getitem ht.typeIs entry_tuple_getitem ?_ (args_tuple_getitem _ _)))
  show wpAny _ _ (Builtin.Tuple.tupleItemsOf (.ref t) >>= _) _ _ s
  refine wpAny_bind (tupleItemsOf_ ht ?_)
  refine wpAny_bind (wpAny_typeOf hTs ?_)
  rw [if_pos (by decide)]
  refine wpAny_bind (applied_rev hs pl pu ps ?_)
  show wpAny _ _ (if (((items.size : Int) - 1) == 0 && (-1 : Int) == 1 && items.size == items.size) = true then _ else _) _ _ s
  rw [if_neg (by simp), pick_rev]
  first
    | exact wpAny_bind (m := Builtin.Tuple.tupleExact _) (wpAny_newObj_type (wpAny_pure ⟨_, rfl, wpAny_pure h⟩) hz)
    | exact wpAny_bind (m := Builtin.Tuple.tupleExact _) (wpAny_newObj_type (wpAny_bind (wpAny_pure (wpAny_pure ⟨_, rfl, wpAny_pure h⟩))) hz)
    | exact wpAny_bind (wpAny_bind (m := Builtin.Tuple.tupleExact _) (wpAny_newObj_type (wpAny_pure (wpAny_pure ⟨_, rfl, wpAny_pure h⟩)) hz))
    | exact wpAny_bind (wpAny_bind (m := Builtin.Tuple.tupleExact _) (wpAny_newObj_type (wpAny_pure ⟨_, rfl, wpAny_pure h⟩) hz))
end
def tRevT (K : PySem.W.Frag) (te : TE) : TE := fun σ H Q => te σ H fun x H1 => ∃ a xs, x = .ref a ∧ SqT K H1 a xs ∧ ∀ p, H1 p = none → Q (.ref p) (upd H1 p (.tup xs.reverse))
def mRevT (m : ME) : ME := fun F C => bnd (m F C) fun x C1 => match vT x with
  | some xs => .ok (.tup xs.reverse) C1
  | none => .stuck
/-- t[lo:hi], the whole tuple too -/
def mSlA (a : ME) (l h : Fr → Store → R (Option Int)) : ME := fun F C => bnd (a F C) fun x C1 => bnd (l F C1) fun lo C2 => bnd (h F C2) fun hi C3 => match vT x with
  | some xs => if HT.sIx xs.length 0 lo = 0 ∧ HT.sIx xs.length xs.length hi = xs.length then .ok x C3 else .ok (.tup (cutD xs lo hi)) C3
  | none => .stuck
section
variable {X : Cx} {k : Cn} {W : WX} {σ : L2.St} {H : Hp} {Q : VK} {e : Expr} {te : TE} {kk : Nat} {p1 p2 p3 pos : Pos} {ma : ME}
theorem pe_revT (he : PE X e te) : PE X (.Subscript e (.Slice none none (some (.UnaryOp .USub (.Constant (.int 1) kk p1) p2)) p3) pos) (tRevT X.K te) := by
  refine ⟨fun pins s σ H Q I h => ?_⟩
  refine Subscript_ (thn (he.run pins s σ H _ I h) fun v s1 z1 => ?_)
  obtain ⟨x, H1, I1, r1, a, xs, ex, hx, q⟩ := z1
  subst ex
  cases r1
  have hst : PO X (some (.UnaryOp .USub (.Constant (.int 1) kk p1) p2)) (tPart (tUn (rU fun i => .int (-i)) (tC (.int 1)))) := po_some (pe_un un_neg pe_int)
  refine wpAny_Slice (thn (po_none.run pins s1 σ H1 (fun o H2 => o = none ∧ H2 = H1) I1 ⟨rfl, rfl⟩) fun vl s2 z2 => ?_)
  obtain ⟨l, H2, I2, pl, el, e2⟩ := z2
  subst el e2
  refine thn (po_none.run pins s2 σ H2 (fun o H3 => o = none ∧ H3 = H2) I2 ⟨rfl, rfl⟩) fun vu s3 z3 => ?_
  obtain ⟨u, H3, I3, pu, eu, e3⟩ := z3
  subst eu e3
  refine thn (hst.run pins s3 σ H3 (fun o H4 => o = some (-1) ∧ H4 = H3) I3 ⟨1, rfl, -1, rfl, rfl, rfl⟩) fun vs s4 z4 => ?_
  obtain ⟨o, H4, I4, ps, eo, e4⟩ := z4
  subst eo e4
  have I5 : Inv X pins σ H4 { s4 with heap := s4.heap.push { cls := .type "slice", data := .fields #[vl, vu, vs] } } := I4.kept (t' := s4.toks) fun b ob q => Heap.get?_push_of_some _ q
  obtain ⟨its, r, ht, hz⟩ := I5.tuple hx
  have hlen := r.length
  show wpAny (model X.prog X.w) X.A (subscriptTail e (.Slice none none (some (.UnaryOp .USub (.Constant (.int 1) kk p1) p2)) p3) (.ref a) (.ref s4.heap.objs.size)) (EP X pins σ Q) X.xe { s4 with heap := s4.heap.push { cls := .type "slice", data := .fields #[vl, vu, vs] } }
  refine tail_any (ops := [.ref a, .ref s4.heap.objs.size]) ht.typeIs (PyProof.Rows.slot_tuple_getitem.lookup) ?_ (by with_unfolding_all rfl)
  refine getItem_rev ht (Heap.IsSliceOf.new _ vl vu vs) pl pu ps ?_ (by rw [List.size_toArray]; omega)
  refine ⟨.ref _, _, I5.laid (t' := s4.toks) (o := .tup xs.reverse) (fun b ob q => Heap.get?_push_of_some _ q) (Nat.le_refl _) ?_, rfl, q _ (I5.hok.fresh (Nat.le_refl _))⟩
  exact ⟨by rw [List.length_reverse]; exact hz, _, r.reverse, IsTup.new _ _⟩
theorem rep_rev {A : Nat → Addr} {S : Store} : ∀ {vs : List V} {xs : List D}, RepL k A S H vs xs → RepL k A S H vs.reverse xs.reverse
  | _, _, .nil => .nil
  | _, _, .cons h t => by
    rw [List.reverse_cons, List.reverse_cons]
    exact (rep_rev t).append (.cons h .nil)
theorem le_revT (h : LE k W (mRevT ma) σ H Q) : tRevT k.K (LE k W ma) σ H Q := by
  obtain ⟨A, F, C, s, h⟩ := h
  refine ⟨A, F, C, s, (Aft.bnd (rel := RepD k) h).mono fun dx C1 A1 H1 v p1 st1 r1 h1 => ?_⟩
  split at h1
  · rename_i xs ev
    obtain ⟨a, vs, rfl, ha, rv⟩ := vT_at r1 ev
    refine ⟨a, vs, rfl, ha, fun p hp => ?_⟩
    obtain ⟨w1, w2, w3⟩ := fresh_T (fl := F.fl) st1 (rep_rev rv) hp
    exact h1 A1 _ _ w1 w2 w3
  · exact h1.elim
theorem de_revT (hK : X.K = k.K) (he : PE X e (LE k W ma)) : PE X (.Subscript e (.Slice none none (some (.UnaryOp .USub (.Constant (.int 1) kk p1) p2)) p3) pos) (LE k W (mRevT ma)) :=
  (pe_revT he).cq fun _ _ _ h => by
    rw [hK]
    exact le_revT h
end
end CT
set_option maxHeartbeats 4000000
/-! DLO: errors of the program's own: made and raised. -/
namespace CT
open PySem L2 PySem.Spec PyProof.Rows
/-! ### what the head says of an error class -/
/-! ### __init__: one field, two fields -/
/-! ### raise C(e, ..) -/
def sRaise (c n : Nat) (ma : MA) : MS := fun F C => bndS F.sl (ma F C) fun ds C1 => if ds.length = n then .xc ⟨c, ds.reverse⟩ F.sl C1 else .stuck
end CT
set_option maxHeartbeats 4000000
/-! DLP: try: .. except C as n: .. return; the error is held as data. -/
namespace CT
open PySem L2 PySem.Spec PyProof.Rows
mutual
/-- no held error within -/
def nx : D → Bool
  | .lst xs => nxL xs
  | .tup xs => nxL xs
  | .scr xs => nxL xs
  | .kt xs => nxL xs
  | .obj _ fs => nxL fs
  | .dT _ vs => nxL vs
  | .exn _ _ => false
  | .cls _ => true
  | .cell _ => true | .non => true | .bl _ => true | .int _ => true | .str _ => true
def nxL : List D → Bool
  | [] => true
  | d :: ds => nx d && nxL ds
end
/-- k, with the error at a held -/
def Cn.hold (k : Cn) (a : Addr) (c : Nat) (dd : Addr) : Cn := { k with ex := some (a, c, dd) }
section
variable {k : Cn} {A A' : Nat → Addr} {C C' : Store} {H H' : Hp} {a dd : Addr} {c : Nat} {fl : Nat}
mutual
theorem Rep.nx (hk : k.ex = none) : ∀ {v : V} {d : D}, Rep k A C H v d → CT.nx d = true
  | _, _, .non => rfl
  | _, _, .bl b => rfl
  | _, _, .int i => rfl
  | _, _, .str s => rfl
  | _, _, .lst l h r => by simpa [CT.nx] using r.nx hk
  | _, _, .tup l h r => by simpa [CT.nx] using r.nx hk
  | _, _, .ktup h r => by simpa [CT.nx] using r.nx hk
  | _, _, .scr l h r => by simpa [CT.nx] using r.nx hk
  | _, _, .kscr h r => by simpa [CT.nx] using r.nx hk
  | _, _, .obj l h z r => by simpa [CT.nx] using r.nx hk
  | _, _, .dT l h r => by simpa [CT.nx] using r.nx hk
  | _, _, .cell hi => rfl
  | _, _, .cls c => rfl
  | _, _, .exn x l h z r => by rw [hk] at x; cases x
theorem RepL.nx (hk : k.ex = none) : ∀ {vs : List V} {ds : List D}, RepL k A C H vs ds → CT.nxL ds = true
  | _, _, .nil => rfl
  | _, _, .cons r t => by simp [CT.nxL, r.nx hk, t.nx hk]
end
mutual
theorem Rep.up (hk : k.ex = none) : ∀ {v : V} {d : D}, Rep k A C H v d → Rep (k.hold a c dd) A C H v d
  | _, _, .non => .non
  | _, _, .bl b => .bl b
  | _, _, .int i => .int i
  | _, _, .str s => .str s
  | _, _, .lst l h r => .lst l h (r.up hk)
  | _, _, .tup l h r => .tup l h (r.up hk)
  | _, _, .ktup h r => .ktup h (r.up hk)
  | _, _, .scr l h r => .scr l h (r.up hk)
  | _, _, .kscr h r => .kscr h (r.up hk)
  | _, _, .obj l h z r => .obj l h z (r.up hk)
  | _, _, .dT l h r => .dT l h (r.up hk)
  | _, _, .cell hi => .cell hi
  | _, _, .cls c => .cls c
  | _, _, .exn x l h z r => by rw [hk] at x; cases x
theorem RepL.up (hk : k.ex = none) : ∀ {vs : List V} {ds : List D}, RepL k A C H vs ds → RepL (k.hold a c dd) A C H vs ds
  | _, _, .nil => .nil
  | _, _, .cons r t => .cons (r.up hk) (t.up hk)
end
theorem StOk.up (hk : k.ex = none) (st : StOk k A C H) : StOk (k.hold a c dd) A C H := by
  refine ⟨fun i x e => ?_, st.inj⟩
  have q := st.at_ i x e
  cases x with
  | lst ds => obtain ⟨vs, h1, r⟩ := q; exact ⟨vs, h1, r.up hk⟩
  | dT ks ds => obtain ⟨vs, h1, h2, r⟩ := q; exact ⟨vs, h1, h2, r.up hk⟩
  | ins c' ds => obtain ⟨dx, vs, h1, h2, r⟩ := q; exact ⟨dx, vs, h1, h2, r.up hk⟩
end
end CT
set_option maxHeartbeats 4000000
/-! DLQ: isinstance of the held error. -/
namespace CT
open PySem L2 PySem.Spec PyProof.Rows PySem.W
end CT
set_option maxHeartbeats 4000000
/-! DLR: web * k. -/
namespace CT
open PySem L2 PySem.Spec PyProof.Rows PySem.W
section
variable {prog : Program} {w : World} {A : Around} {E : Value → Shared → Prop} {s : Shared} {K : Frag} {x C f g : Addr} {ox : Obj} {od : Option Obj} {nm : String}
theorem byName_K {M : Model} {h : Heap} {t : Value} {name : Str} {v : Addr} : Looks M h (calledByName t name (some (.ref v))) true := .now
theorem numSlot_K {M : Model} {h : Heap} (KX : K.In h) (hs : findIn K (.ref C) (PySem.dunder nm) = some (some (.ref f))) (hr : findIn K (.ref C) (PySem.dunderR nm) = some (some (.ref g))) : Looks M h (numberSlotInPython (.ref C) nm) true := by
  intro A Q E s k q
  unfold numberSlotInPython
  simp only
  refine wpAny_bind (looks_findIn KX hs A _ E s k ?_)
  refine wpAny_bind (byName_K (h := s.heap) A _ E s (fun _ _ z => z) ?_)
  refine wpAny_bind (looks_findIn KX hr A _ E s k ?_)
  refine wpAny_bind (byName_K (h := s.heap) A _ E s (fun _ _ z => z) ?_)
  simp only [Bool.or_self, if_true]
  exact wpAny_pure q
/-- x op k by the class's own def, k an int -/
theorem own_int {op : Operator} {i : Int} {t : Tok} {z : Value} {Q : Value → Shared → Prop} (KX : K.In s.heap) (J : InstAt s.heap x ox C od) (hc : selfFirst K C = true) (hs : findIn K (.ref C) (PySem.dunder op.info.2) = some (some (.ref f))) (hr : findIn K (.ref C) (PySem.dunderR op.info.2) = some (some (.ref g))) (hf : isFn K (.ref f) = true)
    (hsub : subIn K (.type "int") (.ref C) = some false) (hfi : fillsNumberSlot (.type "int") op.info.2 = pure true) (hrl : typeLookup (.type "int") (PySem.dunderR op.info.2) = pure (some z))
    (h : wpAny (model prog w) A (call (.ref f) [.ref x, .int i t]) (PySem.W.CmpBack Q) E s) : wpAny (model prog w) A (binaryOp op (.ref x) (.int i t)) Q E s := by
  obtain ⟨cd, hcd, hm⟩ := any_some hc
  obtain ⟨rest, hm⟩ : ∃ rest, cd.mro = .ref C :: rest := by
    cases q : cd.mro with
    | nil => rw [q] at hm; cases hm
    | cons a r => rw [q] at hm; exact ⟨r, by rw [List.head?_cons] at hm; cases (beq_iff_eq.mp hm); rfl⟩
  have ne : (Value.ref C == Value.type "int") = false := rfl
  have ty : typeOf (.int i t) = pure (.type "int") := rfl
  have ns : numberSlotInPython (.type "int") op.info.2 = pure false := rfl
  unfold binaryOp
  refine wpAny_holding (wpAny_bind ?_)
  unfold binaryOp1
  refine wpAny_bind (J.type.here (wpAny_bind (wpAny_of_eq ty (wpAny_bind ((fills_K KX hcd hm hs).here ?_)))))
  simp only [ne, Bool.false_eq_true, if_false]
  refine wpAny_bind (wpAny_of_eq hfi ?_)
  simp only [Bool.and_self, if_true]
  refine wpAny_bind ((looks_subIn KX hsub).here ?_)
  simp only [Bool.false_eq_true, if_false, Bool.not_false, Bool.and_self, if_true]
  refine wpAny_bind ((numSlot_K KX hs hr).here ?_)
  simp only [if_true]
  refine wpAny_bind (wpAny_of_eq ns ?_)
  simp only [Bool.not_false, if_true]
  refine wpAny_bind (wpAny_of_eq hrl ?_)
  refine wpAny_bind (m := tryMethod (.ref x) _ (.int i t)) ?_
  unfold tryMethod
  refine wpAny_bind (special_fn KX J hs (beq_iff_eq.mp hf) (wpAny_mono h (fun v s' hv => ?_) fun _ _ e => e))
  cases v <;> first | exact hv.elim | exact wpAny_pure (wpAny_pure (wpAny_pure hv))
/-- k op x: the int declines, the class's reflected def is asked -/
theorem int_own {i : Int} {t : Tok} {op : Operator} {id : String} {Q : Value → Shared → Prop} (KX : K.In s.heap) (J : InstAt s.heap x ox C od) (hc : selfFirst K C = true) (hs : findIn K (.ref C) (PySem.dunder op.info.2) = some (some (.ref f))) (hr : findIn K (.ref C) (PySem.dunderR op.info.2) = some (some (.ref g))) (hf : isFn K (.ref g) = true)
    (hsub : subIn K (.ref C) (.type "int") = some false) (hfi : fillsNumberSlot (.type "int") op.info.2 = pure true) (hsl : Slot "int" (PySem.dunder op.info.2) id)
    (hd : wpAny (model prog w) A (call (.builtin id) [.int i t, .ref x]) (fun v s' => v = .notImplemented ∧ s' = s) E s)
    (h : wpAny (model prog w) A (call (.ref g) [.ref x, .int i t]) (PySem.W.CmpBack Q) E s) : wpAny (model prog w) A (binaryOp op (.int i t) (.ref x)) Q E s := by
  obtain ⟨cd, hcd, hm⟩ := any_some hc
  obtain ⟨rest, hm⟩ : ∃ rest, cd.mro = .ref C :: rest := by
    cases q : cd.mro with
    | nil => rw [q] at hm; cases hm
    | cons a r => rw [q] at hm; exact ⟨r, by rw [List.head?_cons] at hm; cases (beq_iff_eq.mp hm); rfl⟩
  have ne : (Value.type "int" == Value.ref C) = false := rfl
  have ty : typeOf (.int i t) = pure (.type "int") := rfl
  have ns : numberSlotInPython (.type "int") op.info.2 = pure false := rfl
  unfold binaryOp
  refine wpAny_holding (wpAny_bind ?_)
  unfold binaryOp1
  refine wpAny_bind (wpAny_of_eq ty (wpAny_bind (J.type.here (wpAny_bind (wpAny_of_eq hfi ?_)))))
  simp only [ne, Bool.false_eq_true, if_false]
  refine wpAny_bind ((fills_K KX hcd hm hs).here ?_)
  simp only [Bool.and_self, if_true]
  refine wpAny_bind ((looks_subIn KX hsub).here ?_)
  simp only [Bool.false_eq_true, if_false, Bool.not_false, Bool.and_self, if_true]
  refine wpAny_bind (wpAny_of_eq ns ?_)
  simp only [Bool.false_eq_true, if_false, if_true]
  refine wpAny_bind (wpAny_tryMethod_declines (typeIs_int s i t) hsl (wpAny_mono hd (fun v s' z => ⟨z.1, ?_⟩) fun _ _ e => e))
  obtain ⟨_, rfl⟩ := z
  refine wpAny_bind (m := tryMethod (.ref x) _ (.int i t)) ?_
  unfold tryMethod
  refine wpAny_bind (special_fn KX J hr (beq_iff_eq.mp hf) (wpAny_mono h (fun v s' hv => ?_) fun _ _ e => e))
  cases v <;> first | exact hv.elim | exact wpAny_pure (wpAny_bind (wpAny_rule (wpAny_pure (wpAny_pure hv)))) | exact wpAny_pure (wpAny_rule (wpAny_pure (wpAny_pure hv)))
end
/-! ### over data -/
def mulB (x : Str) (K : Frag) : Bool := selfFirst K (He.ga K x) && (He.eqO (findIn K (.ref (He.ga K x)) (PySem.dunder "mul")) (some (some (.ref (He.ma K (He.ga K x) "__mul__")))) && (He.eqO (findIn K (.ref (He.ga K x)) (PySem.dunderR "mul")) (some (some (.ref (He.ma K (He.ga K x) "__rmul__")))) &&
  (isFn K (.ref (He.ma K (He.ga K x) "__mul__")) && (isFn K (.ref (He.ma K (He.ga K x) "__rmul__")) && (decide (subIn K (.type "int") (.ref (He.ga K x)) = some false) && decide (subIn K (.ref (He.ga K x)) (.type "int") = some false))))))
/-- x * k -/
def mMulR (c : Nat) (m : MF) (mo me : ME) : ME := fun F C => bnd (mo F C) fun x C1 => bnd (me F C1) fun y C2 => match y with
  | .int _ => if isC c x C2 = true then m [x, y] C2 else .stuck
  | _ => .stuck
/-- k * x -/
def mMulL (c : Nat) (m : MF) (me mo : ME) : ME := fun F C => bnd (me F C) fun x C1 => bnd (mo F C1) fun y C2 => match x with
  | .int _ => if isC c y C2 = true then m [y, x] C2 else .stuck
  | _ => .stuck
section
variable {X : Cx} {k : Cn} {W : WX} {σ : L2.St} {H : Hp} {Q : VK} {lev : Nat} {C f g : Addr} {fd : FuncData} {ps : List Str} {np : Nat} {m : MF} {e o b : Expr} {pos : Pos} {mo me : ME} {E : L2.St → XK} {sp : Sp}
theorem le_mulR {c : Nat} (ar : Ar np m) (h : LE k W (mMulR c m mo me) σ H Q) : tOpX (fun σ x y H Q => ∃ a dx fs i, x = .ref a ∧ y = .int i ∧ H a = some (.ins (k.cl c) dx fs) ∧ SpD k np m [x, y] H Q (WE W σ)) (LE k W mo) (LE k W me) σ H Q := by
  obtain ⟨A, F, C, s, h⟩ := h
  refine ⟨A, F, C, s, (Aft.bnd (rel := RepD k) h).mono fun dx C1 A1 H1 v p1 st1 r1 h1 => ?_⟩
  have s1 := s.step p1 st1
  refine ⟨A1, F, C1, s1, (Aft.bnd (rel := RepD k) h1).mono fun dy C2 A2 H2 u p2 st2 r2 h2 => ?_⟩
  have s2 := s1.step p2 st2
  cases r2 with
  | int i =>
    simp only at h2
    split at h2
    · rename_i hc
      obtain ⟨a, dx', gs, rfl, ha⟩ := isC_at st2 (p2.rep _ _ r1) hc
      exact ⟨a, dx', gs, i, rfl, rfl, ha, sp_of s2.fl ar st2 (.cons (p2.rep _ _ r1) (.cons (.int i) .nil)) h2⟩
    · exact h2.elim
  | _ => exact h2.elim
theorem le_mulL {c : Nat} (ar : Ar np m) (h : LE k W (mMulL c m me mo) σ H Q) : tOpX (fun σ x y H Q => ∃ a dx fs i, y = .ref a ∧ x = .int i ∧ H a = some (.ins (k.cl c) dx fs) ∧ SpD k np m [y, x] H Q (WE W σ)) (LE k W me) (LE k W mo) σ H Q := by
  obtain ⟨A, F, C, s, h⟩ := h
  refine ⟨A, F, C, s, (Aft.bnd (rel := RepD k) h).mono fun dx C1 A1 H1 v p1 st1 r1 h1 => ?_⟩
  have s1 := s.step p1 st1
  refine ⟨A1, F, C1, s1, (Aft.bnd (rel := RepD k) h1).mono fun dy C2 A2 H2 u p2 st2 r2 h2 => ?_⟩
  have s2 := s1.step p2 st2
  cases r1 with
  | int i =>
    simp only at h2
    split at h2
    · rename_i hc
      obtain ⟨a, dx', gs, rfl, ha⟩ := isC_at st2 r2 hc
      exact ⟨a, dx', gs, i, rfl, rfl, ha, sp_of s2.fl ar st2 (.cons r2 (.cons (.int i) .nil)) h2⟩
    · exact h2.elim
  | _ => exact h2.elim
end
end CT
set_option maxHeartbeats 4000000
/-! DLS: is None; sorted(set(xs)) of ints, len(set(xs)) of tuples of ints. -/
namespace CT
open PySem L2 PySem.Spec PyProof.Rows
/-! ### is None, is not None -/
def oIsN (neg : Bool) : O2 := fun x y C => match y with
  | .non => (match x with
    | .non => some (.bl (!neg), C)
    | _ => some (.bl neg, C))
  | _ => none
section
variable {k : Cn}
theorem d_isN : OpD k (fun x y H Q => y = .non ∧ Q (.bl (decide (x = .non))) H) (oIsN false) := by
  intro fl A C H x y dx dy d C' Q hf hl st rx ry e q
  cases ry with
  | non =>
    refine ⟨rfl, ?_⟩
    cases rx with
    | non => cases e; exact q A H _ .refl st (.bl _)
    | _ => cases e; exact q A H _ .refl st (.bl _)
  | _ => cases e
end
/-! ### set(xs), xs a list of ints -/
abbrev emS (w : World) : Obj := { cls := .type "set", dict := none, data := .set #[] 0 (.fresh 0 0 (!w.params.followText "set-order")) }
section
variable {P : Program} {w : World} {A : Around} {E : Value → Shared → Prop} {s : Shared}
/-- what set(xs) leaves -/
def SetMade (w : World) (ns : List Int) (s s2 : Shared) : Prop := ∃ h' tk c, s2 = { s with heap := h', toks := tk } ∧ SetR w h' s.heap.objs.size (fun j => decide (j ∈ ns)) c ∧ c ≤ ns.length ∧ ∀ b o, s.heap.get? b = some o → h'.get? b = some o
theorem set_fill {l : Addr} {its : Array Value} {ns : List Int} (hh : A.handled = none) (hl : s.heap.IsList l its) (hi : IntsAre its.toList ns) (hb : ns.length + 1 < scanBound) {R : Result → Shared → Prop}
    (hR : ∀ s2, SetMade w ns s s2 → R (.ok (.ret .none)) s2) :
    codeAny (model P w) A (.builtin "set.update.loop" ⟨[.ref s.heap.objs.size, .ref (s.heap.push (emS w)).objs.size], []⟩) R
      { s with heap := (s.heap.push (emS w)).push { cls := .type "list_iterator", data := .fields #[.ref l, .int 0 0] } } := by
  have hz : its.size = ns.length := (Array.length_toList (xs := its)).symm.trans (IntsAre.length hi)
  have ll : l < s.heap.objs.size := let ⟨_, ho, _⟩ := hl; Heap.lt_size ho
  have z1 : (s.heap.push (emS w)).objs.size = s.heap.objs.size + 1 := Heap.size_push ..
  have hl1 := hl.push (emS w)
  refine set_update_ints ((Walks.list (A := A.in1) (by simp [hh]) (s.heap.push (emS w)).objs.size l (by rw [z1]; exact Nat.ne_of_lt (Nat.lt_succ_of_lt ll)) its).toS) s.heap.objs.size (by simp only [List.mem_cons, List.not_mem_nil, or_false, not_or, z1]; exact ⟨Nat.ne_of_lt (Nat.lt_succ_self _), Nat.ne_of_gt ll⟩) ns hz hb (fun i v hv => ?_) its.size 0 _ (by omega) (Nat.zero_le _)
    ⟨⟨_, Heap.get?_push_size _ rfl, rfl, rfl⟩, hl1.push _⟩ ⟨0, Nat.le_refl 0, setR_new_at (Heap.get?_push_of_some _ (Heap.get?_push_size _ rfl))⟩ fun s2 c hm hc hS => hR s2 ?_
  · have li : i < ns.length := hz ▸ (Array.getElem?_eq_some_iff.mp hv).1
    obtain ⟨t, e⟩ := IntsAre.int_at hi i v ((Array.getElem?_toList ..).trans hv)
    refine ⟨ns[i], t, List.getElem?_eq_getElem li, e.trans ?_⟩
    rw [List.getD_eq_getElem?_getD, List.getElem?_eq_getElem li]
    rfl
  · obtain ⟨h', g2, d', tk', os'⟩ := s2
    obtain rfl : g2 = s.gens := hm.gens
    obtain rfl : d' = s.drawn := hm.drawn
    obtain rfl : os' = s.os := hm.os
    refine ⟨h', tk', c, rfl, hS, hz ▸ hc, fun b o e => hm.heap b o ?_ (Heap.get?_push_of_some _ (Heap.get?_push_of_some _ e))⟩
    have q := Heap.lt_size e
    simp only [List.mem_cons, List.not_mem_nil, or_false, not_or, z1]
    exact ⟨Nat.ne_of_lt q, Nat.ne_of_lt (Nat.lt_succ_of_lt q)⟩
set_option maxHeartbeats 8000000 in
theorem set_ints {l : Addr} {its : Array Value} {ns : List Int} {Q : Value → Shared → Prop} (hh : A.handled = none) (hl : s.heap.IsList l its) (hi : IntsAre its.toList ns) (hb : ns.length + 1 < scanBound)
    (h : ∀ s2, SetMade w ns s s2 → Q (.ref s.heap.objs.size) s2) : wpAny (model P w) A (call (.type "set") [.ref l]) Q E s := by
  obtain ⟨c, tl, hmro⟩ := F.called_set.mro
  have q1 := F.called_set.made; have q2 := F.called_set.sub; have q3 := F.called_set.notType; have q4 := F.called_set.canCreate
  have q5 := F.typeCall_set_1 (.ref l)
  refine wpAny_call (codeAny_of_tree (show wpAny _ _ (callAny (.type "set") _) _ _ _ from wpAny_pure ⟨Code.quiet_builtin _ (by decide +kernel), codeAny_builtin F.entry_type_call ?_⟩))
  rw [Around.under_plain (weight_type_call_type "set" [.ref l] []) rfl]
  repeat (any_goals (first | assumption | wp_step))
  refine codeAny_mono (code_set_led1 (E := E) (.ref l) (Q₁ := fun o s1 => o = .ref s.heap.objs.size ∧ s1 = { s with heap := s.heap.push (emS w) }) ⟨rfl, rfl⟩) fun r s1 hr => ?_
  rcases r with e | (_ | _ | _ | v)
  all_goals first | exact hr | exact hr.elim | skip
  · obtain ⟨e1, e2⟩ := hr
    subst e1; subst e2
    have hT : Shared.TypeIs { s with heap := s.heap.push (emS w) } (.ref s.heap.objs.size) "set" := ⟨_, Heap.get?_push_size _ rfl, rfl⟩
    have r1 := F.called_set.init.lookup; have r2 := F.called_set.init.bind (.ref s.heap.objs.size)
    repeat (any_goals (first | assumption | wp_step))
    refine codeAny_mono (codeAny_call_builtin (R := wants (fun r s2 => r = .none ∧ SetMade w ns s s2) E) F.called_set.init.plain F.entry_set_init (check_set_init_1 hT ?_)) fun r2 s2 hr2 => ?_
    · have hl1 := hl.push (emS w)
      obtain ⟨⟨oc, od, oa, os⟩, ho, ec, n, ed⟩ := hl1
      simp only at ec ed
      subst ec; subst ed
      have u1 := F.sub_list_set; have u2 := F.sub_list_frozenset
      have u3 : (Value.type "list" == Value.type "dict") = false := by decide
      unfold Builtin.«set.__init__» noKeywords Builtin.Frozenset.updateFrom
      generalize hPI : pyIter = PI
      wp_walk
      subst hPI
      refine wpAny_pyIter_list (hl.push (emS w)) (wpAny_bind (wpAny_runValue (set_fill (by simp [hh]) hl hi hb fun s2 m => ?_)))
      show wpAny _ _ _ _ _ _
      refine wpAny_pure ?_
      show wpAny _ _ (ret Value.none) _ _ _
      exact wpAny_pure ⟨rfl, m⟩
    · rcases r2 with e | (_ | _ | _ | v)
      all_goals first | exact hr2 | exact hr2.elim | skip
      · obtain ⟨e1, m⟩ := hr2
        subst e1
        obtain ⟨h', tk, c', e3, hS, hc, hk⟩ := m
        subst e3
        repeat (any_goals (first | assumption | wp_step))
        exact h _ ⟨h', tk, c', rfl, hS, hc, hk⟩
end
end CT
set_option maxHeartbeats 4000000
/-! DLT: sorted(set(xs)) of ints, len(set(xs)) of tuples of ints. -/
namespace CT
open PySem L2 PySem.Spec PyProof.Rows
theorem mDef_e {np ns : Nat} {b : MS} {ds : List D} {C : Store} {sl : List (Option D)} (h : ds.length = np) (hs : ds.map some ++ List.replicate (ns - np) none = sl) : mDef np ns b ds C = finS C.length (b ⟨C.length, sl⟩ C) := by
  rw [← hs]
  exact ev_def h
/-! ### unlike members, ascending -/
def insI (x : Int) : List Int → List Int
  | [] => [x]
  | y :: r => if x < y then x :: y :: r else if x = y then y :: r else y :: insI x r
def srtI (ns : List Int) : List Int := ns.foldr insI []
theorem insI_mem {x z : Int} : ∀ {l : List Int}, z ∈ insI x l ↔ z = x ∨ z ∈ l
  | [] => by simp [insI]
  | y :: r => by
    unfold insI
    split
    · simp
    · split
      · rename_i h; subst h; simp
      · simp only [List.mem_cons, insI_mem (l := r)]
        constructor
        · rintro (h | h | h) <;> simp [h]
        · rintro (h | h | h) <;> simp [h]
theorem insI_up {x : Int} : ∀ {l : List Int}, l.Pairwise (· < ·) → (insI x l).Pairwise (· < ·)
  | [], _ => by simp [insI]
  | y :: r, h => by
    have ⟨h1, h2⟩ := List.pairwise_cons.mp h
    unfold insI
    split
    · rename_i q
      refine List.pairwise_cons.mpr ⟨fun z hz => ?_, h⟩
      rcases List.mem_cons.mp hz with rfl | hz
      · exact q
      · exact Int.lt_trans q (h1 z hz)
    · split
      · exact h
      · refine List.pairwise_cons.mpr ⟨fun z hz => ?_, insI_up h2⟩
        rcases insI_mem.mp hz with rfl | hz
        · omega
        · exact h1 z hz
theorem srtI_mem {z : Int} : ∀ {l : List Int}, z ∈ srtI l ↔ z ∈ l
  | [] => by simp [srtI]
  | y :: r => by
    show z ∈ insI y (srtI r) ↔ _
    rw [insI_mem, srtI_mem (l := r), List.mem_cons]
theorem srtI_up : ∀ {l : List Int}, (srtI l).Pairwise (· < ·)
  | [] => List.Pairwise.nil
  | y :: r => insI_up (srtI_up (l := r))
theorem up_one : ∀ {a b : List Int}, a.Pairwise (· < ·) → b.Pairwise (· < ·) → (∀ z, z ∈ a ↔ z ∈ b) → a = b
  | [], [], _, _, _ => rfl
  | [], y :: r, _, _, h => absurd ((h y).mpr (List.mem_cons_self ..)) (by simp)
  | x :: q, [], _, _, h => absurd ((h x).mp (List.mem_cons_self ..)) (by simp)
  | x :: q, y :: r, ha, hb, h => by
    have ⟨a1, a2⟩ := List.pairwise_cons.mp ha
    have ⟨b1, b2⟩ := List.pairwise_cons.mp hb
    have e : x = y := by
      rcases List.mem_cons.mp ((h x).mp (List.mem_cons_self ..)) with e | e
      · exact e
      · rcases List.mem_cons.mp ((h y).mpr (List.mem_cons_self ..)) with e' | e'
        · exact e'.symm
        · have := a1 y e'
          have := b1 x e
          omega
    subst e
    rw [up_one a2 b2 fun z => ?_]
    constructor
    · intro hz
      rcases List.mem_cons.mp ((h z).mp (List.mem_cons_of_mem _ hz)) with e | e
      · have := a1 z hz; omega
      · exact e
    · intro hz
      rcases List.mem_cons.mp ((h z).mpr (List.mem_cons_of_mem _ hz)) with e | e
      · have := b1 z hz; omega
      · exact e
/-! ### unlike rows -/
/-! ### the calls -/
def rSetI (K : PySem.W.Frag) (w : World) : List V → Hp → VK → Prop := fun xs H Q => ∃ (l : Addr) (ns : List Int), xs = [V.ref l] ∧ SqL K H l (ns.map V.int) ∧ ns.length < 64 ∧
  ∀ a c, H a = none → c ≤ ns.length → Q (.ref a) (upd H a (SetO w a (fun j => decide (j ∈ ns)) c))
section
variable {X : Cx}
theorem ints_are : ∀ {ns : List Int} {its : List Value}, Vals (ns.map V.int) its → IntsAre its ns
  | [], _, .nil => .nil
  | n :: ns, _, .cons r t => by
    obtain ⟨tk, rfl⟩ := r
    exact .cons n tk (ints_are t)
theorem cr_setI (hc : X.calm = true) : CallR X (.type "set") (rSetI X.K X.w) := by
  intro pins s σ H xs us Q I r h
  obtain ⟨l, ns, rfl, hl, hf, q⟩ := h
  rw [Vals.ref1 r]
  obtain ⟨its, rv, pl, hz⟩ := I.list hl
  refine set_ints (I.ok.hd hc) pl.isList (by simpa using ints_are rv) (by unfold scanBound; omega) fun s2 m => ?_
  obtain ⟨h', tk, c, rfl, hS, hn, hk⟩ := m
  exact ⟨.ref s.heap.objs.size, upd H s.heap.objs.size _, I.laid (t' := tk) hk (Nat.le_refl _) (setO_new hS), rfl, q _ c (I.hok.fresh (Nat.le_refl _)) hn⟩
end
/-! ### over data -/
def oSortS (own : Bool) : OA := fun xs C => match xs with
  | [d] => (vL d C).bind fun ys => (dInts ys).bind fun ns => if ns.length < 64 then some (mkL own ((srtI ns).map D.int) C) else none
  | _ => none
section
variable {X : Cx} {k : Cn} {W : WX} {A : Nat → Addr} {C : Store} {H : Hp}
theorem d_sortS {own : Bool} {w : World} : ApD k (fun xs H Q => rSetI k.K w xs H fun v H1 => rSortedSet w [v] H1 Q) (oSortS own) := by
  intro fl A C H x dx d C' Q hf hl st rx e q
  cases rx with
  | nil => cases e
  | cons r t =>
    cases t with
    | cons _ _ => cases e
    | nil =>
      simp only [oSortS, Option.bind_eq_some_iff] at e
      obtain ⟨ds, ev, ns, en, e⟩ := e
      split at e
      · rename_i hn
        obtain ⟨a, vs, rfl, ha, rv⟩ := vL_at st r ev
        rw [dInts_eq en] at rv
        have := RepL.ints_inv rv
        subst this
        refine ⟨a, ns, rfl, .inl (.inl ha), hn, fun b c hb hc => ⟨b, _, c, rfl, upd_same, by omega, fun out p u1 u2 u3 hp => ?_⟩⟩
        have eo : out = srtI ns := up_one u1 srtI_up fun z => by rw [u2, srtI_mem]; simp
        subst eo
        have st1 : StOk k A C (upd H b (SetO w b (fun j => decide (j ∈ ns)) c)) := st.new hb
        obtain ⟨A2, w1, w2, w3⟩ := fresh_L (own := own) hf st1 (RepL.ints (ns := srtI ns)) hp
        have e1 := Option.some.inj e
        rw [e1] at w1 w2 w3
        exact q A2 _ _ ((kp_new hb).stp0.trans w1) w2 w3
      · cases e
variable {e : Expr} {p p' pos pos' : Pos} {ma : MA}
theorem de_sortS (own : Bool) (hK : X.K = k.K) (hc : X.calm = true) (hg : Gl X "sorted") (hm : X.mg "sorted" = none) (hg' : Gl X "set") (hm' : X.mg "set" = none) (ha : PA X [e] (LA k W ma)) (hs : starEach [e] X.env = (false, eval e X.env) :: starEach [] X.env := by rfl)
    (hs' : starEach [.Call (.Name "set" p') [e] [] pos'] X.env = (false, eval (.Call (.Name "set" p') [e] [] pos') X.env) :: starEach [] X.env := by rfl) (hpl : (backTo pos' (starEach [] X.env)).any (·.1) = false := by rfl) (hpl' : (backTo pos (starEach [] X.env)).any (·.1) = false := by rfl) :
    PE X (.Call (.Name "sorted" p) [.Call (.Name "set" p') [e] [] pos'] [] pos) (LE k W (mAp (oSortS own) ma)) :=
  (pe_callB (cr_sortedSet hc) hg hm (by decide +kernel) (pa_cons (pe_callTy (cr_setI hc) hg' hm' (by decide +kernel) ha (by decide) (by decide) hs hpl) pa_nil hs') (by decide) (by decide) hs' hpl').cq fun _ _ _ h => le_ap (r := fun xs H Q => rSetI X.K X.w xs H fun v H1 => rSortedSet X.w [v] H1 Q) (by rw [hK]; exact d_sortS) h
end
end CT
set_option maxHeartbeats 4000000
/-! DLU: repr of an empty dict. -/
namespace CT
open PySem L2 PySem.Spec PyProof.Rows
end CT
set_option maxHeartbeats 4000000
/-! DLV: l.count(x) over data. -/
namespace CT
open PySem L2 PySem.Spec PyProof.Rows
end CT
set_option maxHeartbeats 4000000
/-! DLW: a class whose __init__ takes *numbers and a keyword. -/
namespace CT
open PySem L2 PySem.Spec PyProof.Rows
abbrev tupO (its : List Value) : Obj := { cls := .type "tuple", data := .seq its.toArray }
abbrev pushT (s : Shared) (its : List Value) : Shared := { s with heap := s.heap.push (tupO its) }
/-- binding makes a tuple of the rest -/
def BindsW (s : Shared) (fd : FuncData) (args : Args) (binds : List (Str × Value)) (its : List Value) : Prop :=
  ∀ (M : Model) (A : Around) (E : Value → Shared → Prop) (Q : List (Str × Value) → Shared → Prop), Q binds (pushT s its) → wpAny M A (bindArgs fd args) Q E s
structure FnW (P : Program) (w : World) (K : PySem.W.Frag) (mg : Str → Option Value) (base : Heap) (lev : Nat) (f : Addr) (fd : FuncData) (ps : List Str) (sp : Sp) : Prop where
  len : ∀ vs H Q E, sp vs H Q E → vs.length = ps.length
  run : ∀ (A : Around) (outer : List Env) (s : Shared) (H : Hp) (args : Args) (us its : List Value) (vs ws : List V) (Q : VK) (E : XK), RoomG lev A → Env0 P w K mg base A outer s H → its.length ≤ sizeLine → Vals ws its → BindsW s fd args (ps.zip us) its → Vals vs us → sp vs (upd H s.heap.objs.size (.tup ws)) Q E →
    codeAny (model P w) A (.call (.ref f) args) (CR (L2.CX P w) outer P w H s Q E) s
section
variable {P : Program} {w : World} {K : PySem.W.Frag} {mg : Str → Option Value} {base : Heap} {A : Around} {outer : List Env} {s : Shared} {H : Hp}
theorem push_keep (s : Shared) (its : List Value) : ∀ b u, s.heap.get? b = some u → (pushT s its).heap.get? b = some u := fun _ _ q => Heap.get?_push_of_some _ q
theorem tup_okW {its : List Value} {ws : List V} (hl : its.length ≤ sizeLine) (r : Vals ws its) : ObjOk P w (upd H s.heap.objs.size (.tup ws)) (pushT s its).heap s.heap.objs.size (.tup ws) :=
  ⟨by rw [r.length]; exact hl, its, r, IsTup.new _ _⟩
theorem env_pushT {its : List Value} {ws : List V} (hl : its.length ≤ sizeLine) (r : Vals ws its) (e : Env0 P w K mg base A outer s H) : Env0 P w K mg base A outer (pushT s its) (upd H s.heap.objs.size (.tup ws)) := by
  refine ⟨e.frames, e.mod, fun b o h => ?_, ?_, ?_, fun b hb => ?_, e.hok.laid (push_keep s its) (Nat.le_refl _) (tup_okW hl r), e.bare⟩
  · obtain ⟨h1, h2⟩ := e.bs b o h
    refine ⟨push_keep s its b o h1, ?_⟩
    rw [upd_ne (Nat.ne_of_lt (Heap.lt_size h1))]
    exact h2
  · show base.objs.size ≤ (s.heap.push (tupO its)).objs.size
    rw [Heap.size_push]
    exact Nat.le_succ_of_le e.bsz
  · exact Heap.FunFrames.of_keeps (fun b o h _ => ⟨o, push_keep s its b o h, rfl⟩) e.funs
  · obtain ⟨_, o, ho, _⟩ := Heap.FunFrames.mem e.funs hb
    rw [upd_ne (Nat.ne_of_lt (Heap.lt_size ho))]
    exact e.frf b hb
theorem un_pushT {its : List Value} {ws : List V} (hok : HOk P w H s.heap) : Un (frs outer) [] H (upd H s.heap.objs.size (.tup ws)) s.heap (pushT s its).heap := Un.laid (push_keep s its) (Nat.le_refl _) (hok.fresh (Nat.le_refl _))
theorem ub_pre {fs : List Addr} {H H1 H' : Hp} {h h1 B h' : Heap} (hf : ∀ b ∈ fs, H b = none) (a : Un fs [] H H1 h h1) (b : UB fs H1 H' h1 B h') : UB fs H H' h B h' where
  keep := fun c o q n hc => b.keep c o (a.keep c o q n hc (by simp)) (a.free c o q n (by simp)) hc
  slot := fun c o q hc => by
    obtain ⟨sl, e1⟩ := a.slot c o q (hf c hc) hc (by simp)
    obtain ⟨sl', e2⟩ := b.slot c _ e1 hc
    exact ⟨sl', e2⟩
  free := fun c o q n => by
    obtain ⟨o', e1⟩ := a.there c o q (by simp)
    exact b.free c o' e1 (a.free c o q n (by simp))
  there := fun c o q hc => by
    obtain ⟨o', e1⟩ := a.there c o q (by simp)
    exact b.there c o' e1 hc
  tups := fun c xs q => b.tups c xs (a.tups c xs q)
  frzs := fun c o xs q => b.frzs c o xs (a.frzs c o xs q)
  tbls := fun c ps q => by
    obtain ⟨m1, e1⟩ := a.tbls c ps q
    obtain ⟨m2, e2⟩ := b.tbls c _ e1
    exact ⟨m1 ++ m2, by rw [e2, Array.append_assoc]⟩
theorem cr_pushT {its : List Value} {ws : List V} {Q : VK} {E : XK} {r : Result} {s' : Shared} (e : Env0 P w K mg base A outer s H) (h : CR (L2.CX P w) outer P w (upd H s.heap.objs.size (.tup ws)) (pushT s its) Q E r s') : CR (L2.CX P w) outer P w H s Q E r s' := by
  cases r with
  | error u =>
    obtain ⟨a, B, H', cls, d, h1, h2, h3, h4, h5, h6, h7, h8⟩ := h
    exact ⟨a, B, H', cls, d, h1, h2, h3, ub_pre e.frf (un_pushT e.hok) h4, h5, h6, h7, h8⟩
  | ok fl =>
    cases fl with
    | ret u =>
      obtain ⟨v, H', h1, h2, h3, h4, h5, h6⟩ := h
      exact ⟨v, H', h1, h2, (un_pushT e.hok).trans h3, h4, h5, h6⟩
    | next => exact h
    | brk => exact h
    | cont => exact h
end
theorem fn_ofW {P : Program} {w : World} {K : PySem.W.Frag} {mg : Str → Option Value} {base : Heap} {lev : Nat} {f : Addr} {name qual : Str} {params : Arguments} {body : List Stmt} {scope : Scope} {dV kV doc pm cdv ct oc : Value} {an od : Option Addr}
    {osl : Array (Option Value)} {N ps : List Str} {sp : Sp} (lk : K.lookup f = some ⟨oc, od, .func (PySem.W.fnOf name qual params body scope dV kV doc pm an cdv ct), osl⟩) (hcd : PySem.W.codeIn K cdv qual = true) (S : FnScope N ps scope)
    (len : ∀ vs H Q E, sp vs H Q E → vs.length = ps.length)
    (hbody : ∀ (A : Around) (outer : List Env) (s : Shared) (H : Hp) (vs : List V) (Q : VK) (E : XK), RoomG lev (A.deeper (envOfC qual scope s.heap.objs.size f cdv)) → sp vs H Q E →
      ∃ t, PSs (cxOf (L2.CX P w) P w K mg base N qual scope f cdv A outer s H E) body t ∧ t { nx := fun _ H' => Q .non H', rt := Q } (L2.start N vs) H) :
    FnW P w K mg base (lev + 1) f (PySem.W.fnOf name qual params body scope dV kV doc pm an cdv ct) ps sp := by
  refine ⟨len, fun A outer s0 H0 args us its vs ws Q E hr e00 hits hws hb r hsp => ?_⟩
  have e0 := env_pushT hits hws e00
  have hl := len _ _ _ _ hsp
  have KX0 : K.In s0.heap := e00.mod.kin.keeps fun b o e => (e00.bs b o e).1
  refine codeAny_mono (R := CR (L2.CX P w) outer P w (upd H0 s0.heap.objs.size (.tup ws)) (pushT s0 its) Q E) ?_ fun r s' h => cr_pushT e00 h
  refine codeAny_call_function hr.room.depth (KX0 _ _ lk) rfl S.co S.gen rfl (PySem.W.codeRec_of KX0 hcd) (hb _ _ _ _ ?_)
  generalize upd H0 s0.heap.objs.size (.tup ws) = H at e0 hsp ⊢
  generalize pushT s0 its = s at e0 ⊢
  have KX : K.In s.heap := e0.mod.kin.keeps fun b o e => (e0.bs b o e).1
  have lim : s.heap.NoLimit := e0.mod.nolimit.keeps fun b o e => (e0.bs b o e).1
  have hkind : ∀ y ∈ ps.zip us, scope.names.lookup y.1 = some .local ∨ (scope.names.lookup y.1 = some .cell ∧ ((cellsFrom (s.heap.objs.size + 1) scope.names []).lookup y.1).isSome = true) := fun ⟨n, v⟩ hy => by
    rcases S.par n (List.of_mem_zip hy).1 with q | q
    · exact .inl q
    · exact .inr ⟨q, PySem.W.cellsFrom_some _ _ _ (.inl q)⟩
  refine wpAny_newFunctionEnv_cells S.kind hkind fun env he s1 x => ?_
  subst he
  refine ⟨lim.keeps x.toInCall.keep, codeAny_func ?_⟩
  obtain ⟨t, ht, hq⟩ := hbody A outer s H vs Q E ⟨hr.room.deeper _, hr.gd⟩ hsp
  have I : Inv (cxOf (L2.CX P w) P w K mg base N qual scope f cdv A outer s H E) [] (L2.start N vs) H s1 := inv_start S hr.room.hd e0 hl r x
  refine wpAny_mono (ht.run [] s1 (L2.start N vs) H _ I hq) (fun fl s' hs => ?_) fun e s' hs => hs
  have fin : ∀ {σ' : L2.St} {H' : Hp} {v : V} {u : Value}, Inv (cxOf (L2.CX P w) P w K mg base N qual scope f cdv A outer s H E) [] σ' H' s' → RelV v u → Q v H' → CE outer P w H s Q u s' :=
    fun {σ' H' v u} J rv q => ⟨v, H', J.os, J.bare, J.base, J.hok, rv, q⟩
  cases fl with
  | ret u =>
    obtain ⟨v, σ', H', J, rv, q⟩ := hs
    exact fin J rv q
  | next =>
    obtain ⟨σ', H', J, q⟩ := hs
    exact fin (v := V.non) (u := Value.none) J rfl q
  | brk =>
    obtain ⟨_, _, _, q⟩ := hs
    exact False.elim q
  | cont =>
    obtain ⟨_, _, _, q⟩ := hs
    exact False.elim q
section
variable {P : Program} {w : World} {k : Cn} {mg : Str → Option Value} {base : Heap} {x qual : Str} {params : Arguments} {body : List Stmt} {scope : Scope} {dvs : List V} {kws : List (Str × V)} {f : Addr} {fd : FuncData}
theorem fn_okW {N ps : List Str} {lev : Nat} {m : MS} (F : FunD k.K x qual params body scope dvs kws f fd) (S : FnScope N ps scope) (hp : ps.length ≤ N.length)
    (hb : ∀ (cdv : Value) (A : Around) (outer : List Env) (s : Shared) (H : Hp) (E : XK), RoomG lev (A.deeper (envOfC qual scope s.heap.objs.size f cdv)) → PSs (cxOf (L2.CX P w) P w k.K mg base N qual scope f cdv A outer s H E) body (LS k (fun c d _ H' => E c d H') m)) :
    FnW P w k.K mg base (lev + 1) f fd ps (SpD k ps.length (mDef ps.length N.length m)) := by
  obtain ⟨oc, od, dV, kV, doc, pm, an, cdv, ct, osl, rfl, lk, hcd, _, _⟩ := F.ex
  exact fn_ofW lk hcd S (fun vs H Q E h => h.1) fun A outer s H vs Q E hr h => ⟨_, hb cdv A outer s H E hr, spD_body rfl hp h⟩
end
/-! ### C(e, ..), C(k = e) -/
/-- what the call's arguments become: the keyword's value, the rest -/
inductive Vg where
  | pos | kw
def Vg.d : Vg → List D → D × List D
  | .pos, ds => (.non, ds)
  | .kw, ds => (ds.headD .non, [])
def Vg.v : Vg → List V → V × List V
  | .pos, ds => (.non, ds)
  | .kw, ds => (ds.headD .non, [])
def Vg.u : Vg → List Value → Value × List Value
  | .pos, ds => (.none, ds)
  | .kw, ds => (ds.headD .none, [])
def vaM (g : Vg) (n : Nat) (m : MF) : MF := fun ds C => if ds.length = n + 1 then (match ds with
  | d :: r => m [d, (g.d r).1, .tup (g.d r).2] C
  | [] => .stuck) else .stuck
theorem vaM_ar {g : Vg} {n : Nat} {m : MF} : Ar (n + 1) (vaM g n m) := fun ds C h => by
  unfold vaM
  rw [if_neg h]
theorem Vg.rel (g : Vg) {vs : List V} {us : List Value} (r : Vals vs us) : RelV (g.v vs).1 (g.u us).1 ∧ Vals (g.v vs).2 (g.u us).2 := by
  cases g with
  | pos => exact ⟨rfl, r⟩
  | kw => cases r with
    | nil => exact ⟨rfl, .nil⟩
    | cons h t => exact ⟨h, .nil⟩
section
variable {k : Cn} {A : Nat → Addr} {C : Store} {H : Hp}
theorem Vg.rep (g : Vg) {vs : List V} {ds : List D} (r : RepL k A C H vs ds) : Rep k A C H (g.v vs).1 (g.d ds).1 ∧ RepL k A C H (g.v vs).2 (g.d ds).2 := by
  cases g with
  | pos => exact ⟨.non, r⟩
  | kw => cases r with
    | nil => exact ⟨.non, .nil⟩
    | cons h t => exact ⟨h, .nil⟩
theorem sp_va {g : Vg} {n : Nat} {m : MF} {v0 : V} {vs : List V} {p : Addr} {Q : VK} {E : XK} (hp : H p = none) (h : SpD k (n + 1) (vaM g n m) (v0 :: vs) H Q E) : SpD k 3 m [v0, (g.v vs).1, .ref p] (upd H p (.tup (g.v vs).2)) Q E := by
  obtain ⟨hl, A, C, ds, st, rl, h⟩ := h
  cases rl with
  | @cons _ d _ r rd rr =>
    have hlen : (d :: r).length = n + 1 := by
      have := rr.length
      simp only [List.length_cons] at hl ⊢
      omega
    unfold vaM at h
    rw [if_pos hlen] at h
    simp only at h
    have q : Kp A C H A C (upd H p (.tup (g.v vs).2)) := kp_new hp
    have st2 : StOk k A C (upd H p (.tup (g.v vs).2)) := st.new hp
    obtain ⟨r1, r2⟩ := g.rep rr
    refine ⟨rfl, A, C, [d, (g.d r).1, .tup (g.d r).2], st2, .cons (rd.kp q) (.cons (r1.kp q) (.cons (.tup (st.notLive hp) upd_same (r2.kp q)) .nil)), ?_⟩
    exact Aft.shift q.stp0 h
end
section
variable {X : Cx} {k : Cn} {W : WX} {σ : L2.St} {H : Hp} {Q : VK} {lev : Nat} {f C p : Addr} {fd : FuncData} {ps : List Str} {m : MF} {x : Str} {pn pos : Pos} {e : Expr} {es : List Expr} {ma : MA} {n : Nat} {g : Vg}
/-- how the parameters are bound -/
def BnW (K : PySem.W.Frag) (fd : FuncData) (ps : List Str) (g : Vg) (n : Nat) (ks : List Str) : Prop :=
  ∀ (s : Shared) (u0 : Value) (us : List Value), K.In s.heap → us.length = n → BindsW s fd (match g with | .pos => ⟨u0 :: us, []⟩ | .kw => ⟨[u0], ks.zip us⟩) (ps.zip [u0, (g.u us).1, .ref s.heap.objs.size]) (g.u us).2
theorem run_makeW {E : L2.St → XK} {pins : List (Addr × Obj)} {σ : L2.St} {H : Hp} {s : Shared} {Q : VK} {us : List Value} {vs : List V} {ks : List Str} (M : Mk X.K C f) (F : FnW X.prog X.w X.K X.mg X.base lev f fd ps (SpD k 3 m)) (hr : RoomG (lev + 1) X.A) (hb : BnW X.K fd ps g n ks) (hn : n ≤ 1000)
    (hx : ∀ σ, PassesAt (L2.CX X.prog X.w) X σ (E σ)) (I : Inv X pins σ H s) (r : Vals vs us)
    (h : ∀ x dx, H x = none → H dx = none → dx ≠ x → SpD k (n + 1) (vaM g n m) (.ref x :: vs) (upd (upd H dx (.own x)) x (.ins C dx [])) (fun v H2 => v = .non ∧ Q (.ref x) H2) (E σ)) :
    wpAny (model X.prog X.w) X.A (match g with | .pos => call (.ref C) us | .kw => call (.ref C) [] (ks.zip us)) (EP X pins σ Q) X.xe s := by
  have hq := h (s.heap.objs.size + 1) s.heap.objs.size (I.hok.fresh (Nat.le_succ _)) (I.hok.fresh (Nat.le_refl _)) (Nat.ne_of_lt (Nat.lt_succ_self _))
  have I2 := Inv.made (C := C) I
  have hl : us.length = n := by
    have := hq.1
    rw [← r.length]
    simpa using this
  obtain ⟨g1, g2⟩ := g.rel r
  have hits : (g.u us).2.length ≤ sizeLine := by
    cases g with
    | pos => show us.length ≤ _; rw [hl]; exact Nat.le_trans hn (by decide)
    | kw => exact Nat.zero_le _
  have hz : (upd (upd H s.heap.objs.size (.own (s.heap.objs.size + 1))) (s.heap.objs.size + 1) (.ins C s.heap.objs.size [])) ((s.heap.push PySem.W.emptyDict).push (PySem.W.instObj C s.heap.objs.size)).objs.size = none := I2.hok.fresh (Nat.le_refl _)
  have hq2 := sp_va (g := g) hz hq
  have fin : ∀ (r : Result) (s' : Shared), CR (L2.CX X.prog X.w) X.stack X.prog X.w _ { s with heap := (s.heap.push PySem.W.emptyDict).push (PySem.W.instObj C s.heap.objs.size) } (fun v H2 => v = .non ∧ Q (.ref (s.heap.objs.size + 1)) H2) (E σ) r s' → PySem.W.InitBack (s.heap.objs.size + 1) (wants (EP X pins σ Q) X.xe) r s' := fun r s' hq' => by
    cases r with
    | error e => exact hx σ pins _ _ e s' I2 hq'
    | ok fl =>
      cases fl with
      | ret u =>
        obtain ⟨v, H', I3, rv, ev, q3⟩ := I2.after hq'
        subst ev
        exact ⟨rv, ⟨V.ref (s.heap.objs.size + 1), H', I3, rfl, q3⟩⟩
      | next => exact False.elim hq'
      | brk => exact False.elim hq'
      | cont => exact False.elim hq'
  have vs3 : Vals [V.ref (s.heap.objs.size + 1), (g.v vs).1, .ref ((s.heap.push PySem.W.emptyDict).push (PySem.W.instObj C s.heap.objs.size)).objs.size] [Value.ref (s.heap.objs.size + 1), (g.u us).1, .ref ((s.heap.push PySem.W.emptyDict).push (PySem.W.instObj C s.heap.objs.size)).objs.size] := .cons rfl (.cons g1 (.cons rfl .nil))
  cases g with
  | pos =>
    exact wpAny_call (make_map (f := f) I.kIn M.makes M.init (beq_iff_eq.mp M.fn) (codeAny_mono (F.run _ X.stack _ _ ⟨Value.ref (s.heap.objs.size + 1) :: us, []⟩ _ _ _ _ _ (E σ) (hr.make C us [])
      (I2.env0.make C us []) hits g2 (hb _ (Value.ref (s.heap.objs.size + 1)) us I2.kIn hl) vs3 hq2) fin))
  | kw =>
    exact wpAny_call (make_map (f := f) I.kIn M.makes M.init (beq_iff_eq.mp M.fn) (codeAny_mono (F.run _ X.stack _ _ ⟨[Value.ref (s.heap.objs.size + 1)], ks.zip us⟩ _ _ _ _ _ (E σ) (hr.make C [] (ks.zip us))
      (I2.env0.make C [] (ks.zip us)) hits g2 (hb _ (Value.ref (s.heap.objs.size + 1)) us I2.kIn hl) vs3 hq2) fin))
/-- C(e, ..) -/
theorem de_makeW (own : Bool) (c nf : Nat) (tk : Takes X W) (hK : X.K = k.K) (M : Mk k.K (k.cl c) f) (F : FnW X.prog X.w X.K X.mg X.base lev f fd ps (SpD k 3 m)) (hnf : (k.fn c).length = nf) (hr : RoomG (lev + 1) X.A) (hg : Gl X x) (hm : X.mg x = some (.ref (k.cl c))) (hb : BnW X.K fd ps .pos n []) (hn : n ≤ 1000)
    (ha : PA X (e :: es) (LA k W ma)) (hdb : (x == ("__debug__" : Str)) = false := by decide) (he : starEach (e :: es) X.env = (false, eval e X.env) :: starEach es X.env := by rfl) (hpl : (backTo pos (starEach es X.env)).any (·.1) = false := by rfl) :
    PE X (.Call (.Name x pn) (e :: es) [] pos) (LE k W (mMake own c nf (vaM .pos n m) [] ma)) := by
  have M' : Mk X.K (k.cl c) f := by rw [hK]; exact M
  refine PE.cq (t := tMakeS (k.cl c) (SpD k (n + 1) (vaM .pos n m)) [] (WE W) (LA k W ma)) ⟨fun pins s σ H Q I h => ?_⟩ fun _ _ _ h => le_make vaM_ar hnf (fun _ _ _ => .nil) h
  refine wpAny_Call_Name_kw (ld_glob I hg hm ?_ hdb)
  refine PySem.W.callWith_K (h₀ := X.base) I.ok.mod.kin M'.kp (thn (ha.run pos pins s σ H _ I h) fun us s1 ⟨vs, H1, I1, r, q⟩ => ⟨I1.kIn, ?_⟩) he hpl
  exact run_makeW (g := .pos) (ks := []) M' F hr hb hn (fun σ => passAt tk σ) I1 r fun x dx h1 h2 h3 => by have := q x dx h1 h2 h3; rwa [List.append_nil] at this
/-- C() -/
theorem de_makeW0 (own : Bool) (c nf : Nat) (tk : Takes X W) (hK : X.K = k.K) (M : Mk k.K (k.cl c) f) (F : FnW X.prog X.w X.K X.mg X.base lev f fd ps (SpD k 3 m)) (hnf : (k.fn c).length = nf) (hr : RoomG (lev + 1) X.A) (hg : Gl X x) (hm : X.mg x = some (.ref (k.cl c))) (hb : BnW X.K fd ps .pos 0 [])
    (hdb : (x == ("__debug__" : Str)) = false := by decide) : PE X (.Call (.Name x pn) [] [] pos) (LE k W (mMake own c nf (vaM .pos 0 m) [] mNil)) := by
  have M' : Mk X.K (k.cl c) f := by rw [hK]; exact M
  refine ⟨fun pins s σ H Q I h => ?_⟩
  have h' : tMakeS (k.cl c) (SpD k 1 (vaM .pos 0 m)) [] (WE W) (LA k W mNil) σ H Q := le_make vaM_ar hnf (fun _ _ _ => .nil) h
  refine wpAny_Call_Name_kw (ld_glob I hg hm ?_ hdb)
  refine PySem.W.callWith_K0 I.kIn M'.kp ?_
  exact run_makeW (g := .pos) (ks := []) (us := []) (vs := []) M' F hr hb (by decide) (fun σ => passAt tk σ) I .nil fun x dx h1 h2 h3 => by have := la_nil h' x dx h1 h2 h3; rwa [List.append_nil] at this
theorem la_one {me : ME} {σ : L2.St} {H : Hp} {Q : List V → Hp → Prop} (h : LA k W (mCons me mNil) σ H Q) : tCons (LE k W me) tNil σ H Q := by
  obtain ⟨A, F, C, s, h⟩ := h
  refine ⟨A, F, C, s, (Aft.bnd (rel := RepD k) h).mono fun dx C1 A1 H1 x p1 st1 rx h1 => ?_⟩
  exact h1 A1 H1 [x] Stp.refl st1 (.cons rx .nil)
/-- C(k = e) -/
theorem de_makeWk (own : Bool) (c nf : Nat) {kn : Str} {kpos : Pos} (tk : Takes X W) (hK : X.K = k.K) (M : Mk k.K (k.cl c) f) (F : FnW X.prog X.w X.K X.mg X.base lev f fd ps (SpD k 3 m)) (hnf : (k.fn c).length = nf) (hr : RoomG (lev + 1) X.A) (hg : Gl X x) (hm : X.mg x = some (.ref (k.cl c))) (hb : BnW X.K fd ps .kw 1 [kn])
    {me : ME} (he : PE X e (LE k W me)) (hall : (backToKw pos (keywordEach [⟨some kn, e, kpos⟩] X.env)).all (·.1.isSome) = true := by rfl) (hks : (backToKw pos (keywordEach [⟨some kn, e, kpos⟩] X.env)).filterMap (·.1) = [kn] := by rfl) (hdb : (x == ("__debug__" : Str)) = false := by decide)
    (hpl : ((backTo pos (starEach [] X.env)).any (·.1) || (backToKw pos (keywordEach [⟨some kn, e, kpos⟩] X.env)).any (·.1.isNone)) = false := by rfl) :
    PE X (.Call (.Name x pn) [] [⟨some kn, e, kpos⟩] pos) (LE k W (mMake own c nf (vaM .kw 1 m) [] (mCons me mNil))) := by
  have M' : Mk X.K (k.cl c) f := by rw [hK]; exact M
  refine PE.cq (t := tMakeS (k.cl c) (SpD k 2 (vaM .kw 1 m)) [] (WE W) (LA k W (mCons me mNil))) ⟨fun pins s σ H Q I h => ?_⟩ fun _ _ _ h => le_make vaM_ar hnf (fun _ _ _ => .nil) h
  refine wpAny_Call_Name_kw (ld_glob I hg hm ?_ hdb)
  refine PySem.W.callWith_KW0 (h₀ := X.base) I.ok.mod.kin M'.kp hall ?_ hpl
  refine thn ((pk_cons he pk_nil).run pos pins s σ H _ I (la_one h)) fun us s1 ⟨vs, H1, I1, r, q⟩ => ⟨I1.kIn, ?_⟩
  rw [hks]
  exact run_makeW (g := .kw) (ks := [kn]) M' F hr hb (by decide) (fun σ => passAt tk σ) I1 r fun x dx h1 h2 h3 => by have := q x dx h1 h2 h3; rwa [List.append_nil] at this
end
end CT
set_option maxHeartbeats 4000000
/-! DLX: len(set(t)) of a tuple of ints; sorted(t); str(n), f-strings, join. -/
namespace CT
open PySem L2 PySem.Spec PyProof.Rows
/-! ### len(set(t)) -/
theorem nd_lenI : ∀ {a b : List Int}, a.Nodup → b.Nodup → (∀ z, z ∈ a ↔ z ∈ b) → a.length = b.length
  | [], b, _, _, h => by
    cases b with
    | nil => rfl
    | cons y r => exact absurd ((h y).mpr (List.mem_cons_self ..)) (by simp)
  | x :: q, b, ha, hb, h => by
    have ⟨a1, a2⟩ := List.nodup_cons.mp ha
    have hx : x ∈ b := (h x).mp (List.mem_cons_self ..)
    have e := nd_lenI a2 (hb.erase x) fun z => by
      rw [List.Nodup.mem_erase_iff hb]
      constructor
      · exact fun hz => ⟨fun e => a1 (e ▸ hz), (h z).mp (List.mem_cons_of_mem _ hz)⟩
      · rintro ⟨h1, h2⟩
        rcases List.mem_cons.mp ((h z).mpr h2) with e | e
        · exact absurd e h1
        · exact e
    rw [List.length_cons, e, List.length_erase_of_mem hx]
    have : 0 < b.length := List.length_pos_of_mem hx
    omega
theorem setR_card {w : World} {h : Heap} {a : Addr} {ns : List Int} {c : Nat} (R : SetR w h a (fun j => decide (j ∈ ns)) c) : c = (srtI ns).length := by
  obtain ⟨o, es, ep, t, ho, hx, hd, hg, nd, hm, _, _, hn, _⟩ := R
  rw [← hn, ← Array.length_toList, ← List.length_map (f := keyOf)]
  refine nd_lenI nd (srtI_up.imp fun h => by omega) fun z => ?_
  rw [← hm z, srtI_mem]
  simp
def rSetTI (K : PySem.W.Frag) (w : World) : List V → Hp → VK → Prop := fun xs H Q => ∃ (l : Addr) (ns : List Int), xs = [V.ref l] ∧ SqT K H l (ns.map V.int) ∧ ns.length < 64 ∧
  ∀ a, H a = none → Q (.ref a) (upd H a (SetO w a (fun j => decide (j ∈ ns)) (srtI ns).length))
def rLenSI (w : World) : List V → Hp → VK → Prop := fun xs H Q => ∃ (a : Addr) (S : Int → Bool) (n : Nat), xs = [V.ref a] ∧ H a = some (SetO w a S n) ∧ Q (.int n) H
section
variable {X : Cx}
theorem cr_setTI (hc : X.calm = true) : CallR X (.type "set") (rSetTI X.K X.w) := by
  intro pins s σ H xs us Q I r h
  obtain ⟨l, ns, rfl, hl, hf, q⟩ := h
  rw [Vals.ref1 r]
  obtain ⟨its, rv, pl, hz⟩ := I.tuple hl
  refine call_set_tupI ns (I.ok.hd hc) pl (by simpa using ints_are rv) (by unfold scanBound; omega) fun h' tk c hS hn hk => ?_
  have ec := setR_card hS
  subst ec
  exact ⟨.ref s.heap.objs.size, upd H s.heap.objs.size _, I.laid (t' := tk) hk (Nat.le_refl _) (setO_new hS), rfl, q _ (I.hok.fresh (Nat.le_refl _))⟩
theorem cr_lenSI : CallR X (.builtin "len") (rLenSI X.w) := by
  intro pins s σ H xs us Q I r h
  obtain ⟨a, S, n, rfl, ha, q⟩ := h
  rw [Vals.ref1 r]
  have R0 : SetR X.w s.heap a S n := (I.hok a _ ha).1
  obtain ⟨o, es, ep, t, ho, hx, hd, hg, nd, hm, hsz, hft, hn, _⟩ := R0
  refine call_len_set ho hx hd hft (by unfold scanBound at hsz; omega) ?_
  exact ⟨.int n, H, I.tok _, ⟨_, by rw [hn]⟩, q⟩
end
def oLenSI : OA := fun xs C => match xs with
  | [d] => (vT d).bind fun ys => (dInts ys).bind fun ns => if ns.length < 64 then some (.int (srtI ns).length, C) else none
  | _ => none
section
variable {X : Cx} {k : Cn} {W : WX}
theorem d_lenSI {w : World} : ApD k (fun xs H Q => rSetTI k.K w xs H fun v H1 => rLenSI w [v] H1 Q) oLenSI := by
  intro fl A C H x dx d C' Q hf hl st rx e q
  cases rx with
  | nil => cases e
  | cons r t =>
    cases t with
    | cons _ _ => cases e
    | nil =>
      simp only [oLenSI, Option.bind_eq_some_iff] at e
      obtain ⟨ds, ev, ns, en, e⟩ := e
      split at e
      · rename_i hn
        obtain ⟨a, vs, rfl, ha, rv⟩ := vT_at r ev
        rw [dInts_eq en] at rv
        have := RepL.ints_inv rv
        subst this
        cases e
        exact ⟨a, ns, rfl, ha, hn, fun b hb => ⟨b, _, _, rfl, upd_same, q A _ _ (kp_new hb).stp0 (st.new hb) (.int _)⟩⟩
      · cases e
variable {e : Expr} {p p' pos pos' : Pos} {ma : MA}
theorem de_lenSI (hK : X.K = k.K) (hc : X.calm = true) (hg : Gl X "len") (hm : X.mg "len" = none) (hg' : Gl X "set") (hm' : X.mg "set" = none) (ha : PA X [e] (LA k W ma)) (hs : starEach [e] X.env = (false, eval e X.env) :: starEach [] X.env := by rfl)
    (hs' : starEach [.Call (.Name "set" p') [e] [] pos'] X.env = (false, eval (.Call (.Name "set" p') [e] [] pos') X.env) :: starEach [] X.env := by rfl) (hpl : (backTo pos' (starEach [] X.env)).any (·.1) = false := by rfl) (hpl' : (backTo pos (starEach [] X.env)).any (·.1) = false := by rfl) :
    PE X (.Call (.Name "len" p) [.Call (.Name "set" p') [e] [] pos'] [] pos) (LE k W (mAp oLenSI ma)) :=
  (pe_callB cr_lenSI hg hm (by decide +kernel) (pa_cons (pe_callTy (cr_setTI hc) hg' hm' (by decide +kernel) ha (by decide) (by decide) hs hpl) pa_nil hs') (by decide) (by decide) hs' hpl').cq fun _ _ _ h => le_ap (r := fun xs H Q => rSetTI X.K X.w xs H fun v H1 => rLenSI X.w [v] H1 Q) (by rw [hK]; exact d_lenSI) h
end
/-! ### sorted(t) -/
mutual
theorem reads_lt {h : Heap} : ∀ {v : Value} {d : PyData} {as : List Addr}, Reads h v d as → ∀ a ∈ as, a < h.objs.size
  | _, _, _, .none, a, ha => by cases ha
  | _, _, _, .bool _, a, ha => by cases ha
  | _, _, _, .int _ _, a, ha => by cases ha
  | _, _, _, .str _ _, a, ha => by cases ha
  | _, _, _, .list h1 _ _ h4, a, ha => by
    rcases List.mem_cons.mp ha with rfl | ha
    · exact Heap.lt_size h1
    · exact readsAll_lt h4 a ha
  | _, _, _, .tuple _ _ _ h4, a, ha => readsAll_lt h4 a ha
  | _, _, _, .dict h1 _ _ h4 h5, a, ha => by
    simp only [List.cons_append, List.mem_cons, List.mem_append] at ha
    rcases ha with rfl | ha | ha
    · exact Heap.lt_size h1
    · exact readsAll_lt h4 a ha
    · exact readsAll_lt h5 a ha
theorem readsAll_lt {h : Heap} : ∀ {vs : List Value} {ds : List PyData} {as : List Addr}, ReadsAll h vs ds as → ∀ a ∈ as, a < h.objs.size
  | _, _, _, .nil, a, ha => by cases ha
  | _, _, _, .cons r t, a, ha => by
    rcases List.mem_append.mp ha with ha | ha
    · exact reads_lt r a ha
    · exact readsAll_lt t a ha
end
def rSortP (K : PySem.W.Frag) : List V → Hp → VK → Prop := fun xs H Q => ∃ (a : Addr) (β : Type) (bs : List β) (f : β → V) (enc : β → PyData), xs = [.ref a] ∧ SqT K H a (bs.map f) ∧ (∀ b ∈ bs, Dp K H (f b) (enc b)) ∧ PySem.W.AllAlike (bs.map enc) ∧ PySem.W.Sortable (bs.map enc) ∧ (∀ b ∈ bs, (enc b).depth ≤ 60) ∧
  ∀ p, H p = none → Q (.ref p) (upd H p (.lst ((bs.mergeSort (PySem.W.dataLe false enc)).map f)))
section
variable {X : Cx}
theorem cr_sortP (hu : X.A.units + 200 < cLine) : CallR X (.builtin "sorted") (rSortP X.K) := by
  intro pins s σ H xs us Q I r h
  obtain ⟨a, β, bs, f, enc, rfl, hs, hd, hal, hk, hdp, q⟩ := h
  obtain ⟨its, rv, ⟨o, ho, hoc, n, hod⟩, hz⟩ := I.tuple hs
  obtain ⟨u, rfl, ru⟩ := vals1 r
  obtain rfl : u = Value.ref a := ru
  have hL : bs.length ≤ sizeLine := by rw [List.length_map] at hz; exact hz
  have hzi : its.toArray.size ≤ sizeLine := by rw [List.size_toArray, ← rv.length]; exact hz
  refine Calls.call_function_entry PyProof.Rows.kind_sorted PyProof.Rows.plain_sorted PyProof.Rows.entry_sorted (PyProof.Rows.args_sorted1 _) ?_
  unfold Builtin.«sorted»
  refine wpAny_bind (m := checkCount "sorted" 1 1 _) (wpAny_pure ?_)
  refine wpAny_bind (wpAny_collect_seq a (.inr rfl) ho hoc hod (fun h' hk' => ?_) hzi)
  have I1 : Inv X pins σ H { s with heap := h' } := I.kept (t' := s.toks) hk'
  have ea : its.toArray.toList = its := by simp
  rw [ea]
  refine wpAny_bind (wpAny_newList ?_ (by rw [List.size_toArray] at hzi; exact hzi))
  have hoL : (h'.push (seqObj "list" its.toArray 0)).get? h'.objs.size = some (seqObj "list" its.toArray 0) := Heap.get?_push_size _ rfl
  show wpAny _ _ _ _ _ { s with heap := h'.push (seqObj "list" its.toArray 0) }
  have each1 := each_vals rv
  have each2 : PySem.W.EachIs (fun u b => ∃ as, Reads (h'.push (seqObj "list" its.toArray 0)) u (enc b) as ∧ h'.objs.size ∉ as) its bs := each_in each1 fun u b hb e => by
    obtain ⟨as, ra⟩ := Dp.reads I1 _ _ _ (hd b hb) e
    exact ⟨as, PyProof.Rows.Reads.keeps (fun b o q => Heap.get?_push_of_some _ q) ra, fun hm => absurd (reads_lt ra _ hm) (Nat.lt_irrefl _)⟩
  refine wpAny_bind (wpAny_holding (PySem.W.list_sort_data (s := { s with heap := h'.push (seqObj "list" its.toArray 0) }) (R := fun u b => RelV (f b) u) (enc := enc) (bs := bs) hoL each1 each2 hal hk hL (fun b hb => ?_) fun out hout eo => ?_))
  · have := hdp b hb
    show X.A.units + 1 + 1 + _ < _
    omega
  · obtain ⟨e', he'⟩ := PyProof.Rows.sortedHeap_at (vs := its) (out := out.toArray) hoL
    refine wpAny_pure ⟨_, rfl, .ref h'.objs.size, _, I1.laid (t' := s.toks) (o := .lst ((bs.mergeSort (PySem.W.dataLe false enc)).map f)) (fun b u e => ?_) (Nat.le_refl _) ⟨?_, out, e', vals_each eo, he'⟩, rfl, q _ (I1.hok.fresh (Nat.le_refl _))⟩
    · have hb : b < h'.objs.size := Heap.lt_size e
      rw [PyProof.Rows.sortedHeap_old (Nat.ne_of_lt hb) (by rw [size_push']; exact Nat.lt_succ_of_lt hb)]
      exact Heap.get?_push_of_some _ e
    · rw [List.length_map, List.length_mergeSort]
      exact hL
end
end CT
set_option maxHeartbeats 4000000
/-! DLY: sorted of lists or tuples; str(n), f-strings, join; str(o) by the class's own __str__. -/
namespace CT
open PySem L2 PySem.Spec PyProof.Rows
def oSortQ (own : Bool) : OA := fun xs C => match xs with
  | [x] => (match vL x C with
    | some ds => oSortL own [x] C
    | none => (match vT x with
      | some ds => if (ds.all (fun d => (toP C d).isSome && decide ((encD C d).depth ≤ 60)) && srtb (ds.map (encD C))) = true then some (mkL own (ds.mergeSort (PySem.W.dataLe false (encD C))) C) else none
      | none => none))
  | _ => none
section
variable {X : Cx} {k : Cn} {W : WX} {σ : L2.St} {H : Hp} {Q : VK}
theorem d_sortQ {own : Bool} : ApD k (fun xs H Q => rSortA k.K xs H Q ∨ rSortP k.K xs H Q) (oSortQ own) := by
  intro fl A C H x dx d C' Q hf hl st rx e q
  cases rx with
  | nil => cases e
  | cons r t =>
    cases t with
    | cons _ _ => cases e
    | nil =>
      rename_i v0 d0
      simp only [oSortQ] at e
      split at e
      · exact .inl (d_sortL fl A C H _ _ d C' Q hf hl st (.cons r .nil) e q)
      · split at e
        · rename_i ds ev
          split at e
          · rename_i hb
            obtain ⟨a, vs, rfl, ha, rv⟩ := vT_at r ev
            obtain ⟨z1, z2, z3⟩ := repL_zip rv
            simp only [Bool.and_eq_true, List.all_eq_true, decide_eq_true_eq] at hb
            obtain ⟨hb1, hb2⟩ := hb
            obtain ⟨al, so⟩ := srtb_ok hb2
            have em : (vs.zip ds).map (fun x => encD C x.2) = ds.map (encD C) := by
              have := congrArg (List.map (encD C)) z3
              rw [List.map_map] at this
              exact this
            have hm : ∀ x ∈ vs.zip ds, x.2 ∈ ds := fun x hx => by rw [← z3]; exact List.mem_map.mpr ⟨x, hx, rfl⟩
            refine .inr ⟨a, V × D, vs.zip ds, (·.1), fun x => encD C x.2, rfl, by rw [z2]; exact ha, fun b hb => ?_, by rw [em]; exact al, by rw [em]; exact so, fun b hb => (hb1 b.2 (hm b hb)).2, fun p hp => ?_⟩
            · have := (hb1 b.2 (hm b hb)).1
              obtain ⟨pd, e3⟩ := Option.isSome_iff_exists.mp this
              have := toP_dp st (z1 b hb) e3
              have e5 : encD C b.2 = pd := by unfold encD; rw [e3]; rfl
              show Dp k.K H b.1 (encD C b.2)
              rw [e5]
              exact this
            · have e4 : ((vs.zip ds).mergeSort (PySem.W.dataLe false fun x => encD C x.2)).map (·.2) = ds.mergeSort (PySem.W.dataLe false (encD C)) := by
                have em2 := List.map_mergeSort (r := PySem.W.dataLe false fun x : V × D => encD C x.2) (s := PySem.W.dataLe false (encD C)) (f := fun x : V × D => x.2) (l := vs.zip ds) (fun a _ b _ => rfl)
                rw [em2, z3]
              have rr : RepL k A C H (((vs.zip ds).mergeSort (PySem.W.dataLe false fun x => encD C x.2)).map (·.1)) (ds.mergeSort (PySem.W.dataLe false (encD C))) := by
                rw [← e4]
                exact repL_of fun y hy => z1 y (List.mem_mergeSort.mp hy)
              obtain ⟨A2, w1, w2, w3⟩ := fresh_L (own := own) hf st rr hp
              have e1 := Option.some.inj e
              rw [e1] at w1 w2 w3
              exact q A2 _ _ w1 w2 w3
          · cases e
        · cases e
/-! ### str(n) -/
/-! ### f-strings -/
variable {v1 v2 : Expr} {rest : List Expr} {pos : Pos}
/-! ### join -/
variable {mo me : ME}
variable {o e : Expr} {apos : Pos}
/-! ### str(o) -/
variable {lev : Nat} {g : Addr} {fd : FuncData} {ps : List Str} {m : MF} {p : Pos}
theorem run_in2 {sp : Sp} {pins : List (Addr × Obj)} {σ : L2.St} {H : Hp} {s : Shared} {Q : VK} {us : List Value} {vs : List V} {Ex : XK} (F : FnG X.prog X.w X.K X.mg X.base lev g fd ps sp) (hr : RoomG (lev + 2) X.A) (hb : Binds X.K fd ps []) (hx : PassesAt (L2.CX X.prog X.w) X σ Ex)
    (I : Inv X pins σ H s) (r : Vals vs us) (h : sp vs H Q Ex) : wpAny (model X.prog X.w) X.A.in1.in1 (call (.ref g) us) (EP X pins σ Q) X.xe s := by
  have hl : (us ++ []).length = ps.length := by
    rw [List.append_nil, ← r.length]
    exact F.len _ _ _ _ h
  have B := hb s us I.kIn hl
  rw [List.append_nil] at B
  refine wpAny_call (codeAny_mono (F.run X.A.in1.in1 X.stack s H ⟨us, []⟩ us vs Q Ex hr.in1.in1 I.env0.in1.in1 B r h) fun r s' hq => ?_)
  cases r with
  | error er => exact hx pins H s er s' I hq
  | ok fl =>
    cases fl with
    | ret u => exact I.after hq
    | next => exact False.elim hq
    | brk => exact False.elim hq
    | cont => exact False.elim hq
end
end CT
set_option maxHeartbeats 4000000
/-! DLZ: binding of *numbers and a keyword that is None by itself. -/
namespace CT
open PySem L2 PySem.Spec PyProof.Rows
def KwNon (K : PySem.W.Frag) (f : Addr) (kn : Str) : Prop := ∀ oc od fd osl, K.lookup f = some ⟨oc, od, .func fd, osl⟩ → ∃ D, fd.kwdefaults = .ref D ∧ PySem.W.nsIn K D kn = some (some .none)
def kwB (a : PySem.W.Frag → Addr) (kn : Str) (K : PySem.W.Frag) : Bool := match K.lookup (a K) with
  | some ⟨_, _, .func fd, _⟩ => (match fd.kwdefaults with
    | .ref D => He.eqO (PySem.W.nsIn K D kn) (some (some .none))
    | _ => false)
  | _ => false
theorem kwB_ok {a : PySem.W.Frag → Addr} {kn : Str} {K : PySem.W.Frag} (h : kwB a kn K = true) : KwNon K (a K) kn := by
  intro oc od fd osl e
  unfold kwB at h
  rw [e] at h
  simp only at h
  split at h
  · rename_i D hD
    exact ⟨D, hD, He.eqO_ok h⟩
  · cases h
section
variable {K : PySem.W.Frag} {x qual : Str} {params : Arguments} {body : List Stmt} {scope : Scope} {f : Addr} {fd : FuncData} {ps : List Str} {kn : Str}
theorem bn_pos (F : FunD K x qual params body scope [] [] f fd) (kw : KwNon K f kn) (n : Nat) (hn : n ≤ 1000)
    (h : ∀ (D : Addr) (doc pm : Value) (an : Option Addr) (cdv ct : Value) (u0 : Value) (us : List Value), us.length = n → ∃ (β γ : Type) (k1 : Option Value → Sem β) (k2 : β → Sem γ) (k3 : γ → Sem (List (Str × Value))) (a : β),
      bindArgs (PySem.W.fnOf x qual params body scope .none (.ref D) doc pm an cdv ct) ⟨u0 :: us, []⟩ = ((nsGet D kn >>= k1) >>= k2) >>= k3 ∧ k1 (some .none) = pure a ∧ (k2 a >>= k3) = (newTuple us >>= fun t => pure (ps.zip [u0, .none, t]))) : BnW K fd ps .pos n [] := by
  obtain ⟨oc, od, dV, kV, doc, pm, an, cdv, ct, osl, rfl, lk, hcd, hD, hK⟩ := F.ex
  obtain ⟨D, e1, e2⟩ := kw _ _ _ _ lk
  have e1' : kV = .ref D := e1
  subst e1'
  rcases hD with ⟨_, rfl⟩ | ⟨e, _⟩
  · intro s u0 us KX hl M A E Q q
    obtain ⟨β, γ, k1, k2, k3, a, h1, h2, h3⟩ := h D doc pm an cdv ct u0 us hl
    show wpAny M A (bindArgs _ ⟨u0 :: us, []⟩) Q E s
    have l1 : PySem.W.Looks M s.heap (nsGet D kn >>= k1) a := (PySem.W.looks_nsIn KX e2).andThen (PySem.W.Looks.of_pure h2)
    rw [h1, bind_assoc]
    refine wpAny_bind (l1.here ?_)
    rw [h3]
    refine wpAny_bind (wpAny_newTuple (wpAny_pure q) (by rw [hl]; exact Nat.le_trans hn (by decide)))
  · exact absurd rfl e
theorem bn_kw (F : FunD K x qual params body scope [] [] f fd)
    (h : ∀ (kV doc pm : Value) (an : Option Addr) (cdv ct : Value) (u0 u : Value), bindArgs (PySem.W.fnOf x qual params body scope .none kV doc pm an cdv ct) ⟨[u0], [(kn, u)]⟩ = (newTuple [] >>= fun t => pure (ps.zip [u0, u, t]))) : BnW K fd ps .kw 1 [kn] := by
  obtain ⟨oc, od, dV, kV, doc, pm, an, cdv, ct, osl, rfl, lk, hcd, hD, hK⟩ := F.ex
  rcases hD with ⟨_, rfl⟩ | ⟨e, _⟩
  · intro s u0 us KX hl M A E Q q
    match us, hl with
    | [u], _ =>
      show wpAny M A (bindArgs _ ⟨[u0], [(kn, u)]⟩) Q E s
      rw [h]
      exact wpAny_bind (wpAny_newTuple (wpAny_pure q) (by decide))
  · exact absurd rfl e
end
end CT
set_option maxHeartbeats 4000000
/-! DM1: classmethods (C.m(..), cls(k = e)); + of texts. -/
namespace CT
open PySem L2 PySem.Spec PyProof.Rows
def cmG (K : PySem.W.Frag) (C : Addr) (m : Str) : Addr := He5.wf K C "classmethod" m
structure CmOk (K : PySem.W.Frag) (C : Addr) (m : Str) (g : Addr) : Prop where
  rd : ClX.CRead K C (.type "type")
  mt : ClX.CMet K C (.type "type") m (He.ma K C m) g
def cmB (x m : Str) (K : PySem.W.Frag) : Bool := PySem.W.readsIn K (He.ga K x) (.type "type") && (He5.wrapB K (He.ga K x) "classmethod" "classmethod.__get__" m && PySem.W.fnIn K (cmG K (He.ga K x) m))
theorem cmB_ok {K : PySem.W.Frag} {x m : Str} (h : cmB x m K = true) : CmOk K (He.ga K x) m (cmG K (He.ga K x) m) := by
  obtain ⟨h1, h⟩ := He.ba h
  obtain ⟨h2, h3⟩ := He.ba h
  refine ⟨⟨h1, ?_⟩, He5.cmet_of h2 h3⟩
  unfold PySem.W.readsIn at h1
  obtain ⟨h, _⟩ := He.ba h1
  obtain ⟨h, _⟩ := He.ba h
  obtain ⟨h, h3⟩ := He.ba h
  obtain ⟨_, h2⟩ := He.ba h
  unfold PySem.W.specialIn
  rw [beq_iff_eq.mp h2, Option.bind_some]
  exact beq_iff_eq.mp h3
def clM (c : Nat) (m : MF) : MF := fun ds C => m (.cls c :: ds) C
theorem clM_ar {c n : Nat} {m : MF} (h : Ar (n + 1) m) : Ar n (clM c m) := fun ds C hl => h _ _ (by simpa using hl)
section
variable {X : Cx} {k : Cn} {W : WX} {σ : L2.St} {H : Hp} {Q : VK} {lev : Nat} {f C p g : Addr} {fd : FuncData} {ps : List Str} {np n : Nat} {m : MF} {x nm : Str} {pn pos apos : Pos} {e : Expr} {es : List Expr} {ma : MA}
theorem sp_cls {c : Nat} {vs : List V} {E : XK} (h : SpD k n (clM c m) vs H Q E) : SpD k (n + 1) m (.ref (k.cl c) :: vs) H Q E := by
  obtain ⟨hl, A, C, ds, st, rl, h⟩ := h
  exact ⟨by simp [hl], A, C, .cls c :: ds, st, .cons (.cls c) rl, h⟩
theorem run_cmG {q : Addr} {pins : List (Addr × Obj)} {s : Shared} {sp : Sp} {E : L2.St → XK} {us : List Value} {vs : List V} (F : FnG X.prog X.w X.K X.mg X.base lev g fd ps sp) (hr : RoomG lev X.A) (hb : Binds X.K fd ps []) (hx : PassesAt (L2.CX X.prog X.w) X σ (E σ)) (I : Inv X ((q, PySem.W.methodObj (.ref g) (.ref C)) :: pins) σ H s)
    (r : Vals vs us) (h : sp (.ref C :: vs) H Q (E σ)) : wpAny (model X.prog X.w) X.A (call (.ref q) us) (EP X pins σ Q) X.xe s := by
  have r2 : Vals (V.ref C :: vs) (Value.ref C :: us ++ []) := by rw [List.append_nil]; exact .cons rfl r
  have hl : (Value.ref C :: us ++ []).length = ps.length := by rw [← r2.length]; exact F.len _ _ _ _ h
  have z : wpAny (model X.prog X.w) X.A (call (.ref q) us) (EP X ((q, PySem.W.methodObj (.ref g) (.ref C)) :: pins) σ Q) X.xe s := by
    refine wpAny_call (PySem.W.method_call (ClX.pin_at I) (codeAny_mono (F.run X.A X.stack s H ⟨.ref C :: us, []⟩ (.ref C :: us ++ []) (.ref C :: vs) Q (E σ) hr I.env0 (hb s (.ref C :: us) I.kIn hl) r2 h) fun r s' hq => ?_))
    cases r with
    | error e => exact hx _ H s e s' I hq
    | ok fl =>
      cases fl with
      | ret u => exact I.after hq
      | next => exact False.elim hq
      | brk => exact False.elim hq
      | cont => exact False.elim hq
  exact thn z fun _ _ y => ClX.unpinE y
/-- C.m(e, ..) -/
theorem de_cmeth {pl : Sem Bool} (c : Nat) (tk : Takes X W) (hK : X.K = k.K) (hg : Gl X x) (hm : X.mg x = some (.ref (k.cl c))) (hc : CmOk k.K (k.cl c) nm g) (F : FnG X.prog X.w X.K X.mg X.base lev g fd ps (SpD k (n + 1) m)) (ar : Ar (n + 1) m) (hr : RoomG lev X.A) (hb : Binds X.K fd ps [])
    (ha : PA X (e :: es) (LA k W ma)) (hdb : (x == ("__debug__" : Str)) = false := by decide)
    (hst : starEach (e :: es) X.env = (false, eval e X.env) :: starEach es X.env := by rfl) (hpl : (backTo pos (starEach es X.env)).any (·.1) = false := by rfl)
    (ht : eval (.Call (.Attribute (.Name x pn) nm apos) (e :: es) [] pos) X.env = (do
      let ov ← eval (.Name x pn) X.env
      standAt apos.atName
      let (f, first) ← holding [ov] (getMethod ov nm pl)
      callWith pos f first (backTo pos (starEach (e :: es) X.env)) (backToKw pos (keywordEach [] X.env))) := by rfl) :
    PE X (.Call (.Attribute (.Name x pn) nm apos) (e :: es) [] pos) (LE k W (mCall (clM c m) [] ma)) := by
  rw [← hK] at hc
  refine PE.cq (t := tCallSD (SpD k n (clM c m)) [] (WE W) (LA k W ma)) ⟨fun pins s σ H Q I h => ?_⟩ fun _ _ _ h => le_call (clM_ar ar) (fun _ _ _ => .nil) h
  have hn : PE X (.Name x pn) (tC (.ref (k.cl c))) := pe_glob hg hm rfl hdb
  refine PySem.W.methodCall_KW (pl := pl) (thn (hn.run pins s σ H (fun v H1 => v = .ref (k.cl c) ∧ H1 = H) I ⟨rfl, rfl⟩) fun u s1 ⟨v, H1, I1, r1, q1⟩ => ?_) ht
  obtain ⟨rfl, rfl⟩ := q1
  obtain rfl : u = Value.ref (k.cl c) := r1
  refine ClX.getmethcm_ok I1 hc.rd hc.mt fun s2 I2 => ?_
  refine ClX.callwith_cm I2 (ClX.base_none I1 (Nat.le_refl _)) hc.mt.fi (thn (ha.run pos _ s2 σ _ _ I2 h) fun us s3 ⟨vs, H2, I3, rv, q2⟩ => ⟨⟨ClX.pin_at I3, I3.kIn⟩, ?_⟩) hst hpl
  have q3 : SpD k n (clM c m) (vs ++ []) H2 Q (WE W σ) := q2
  rw [List.append_nil] at q3
  exact run_cmG (E := WE W) F hr hb (passAt tk σ) I3 rv (sp_cls q3)
/-- cls(k = e) -/
def mMkC (i c nf : Nat) (m : MF) (me : ME) : ME := fun F C => match F.sl[i]? with
  | some (some (.cls c')) => if c' = c then mMake false c nf (vaM .kw 1 m) [] (mCons me mNil) F C else .stuck
  | _ => .stuck
theorem le_mkC {i c nf : Nat} {me : ME} (h : LE k W (mMkC i c nf m me) σ H Q) : σ[i]? = some (some (.ref (k.cl c))) ∧ LE k W (mMake false c nf (vaM .kw 1 m) [] (mCons me mNil)) σ H Q := by
  obtain ⟨A, F, C, s, h⟩ := h
  unfold mMkC at h
  split at h
  · rename_i c' e
    split at h
    · rename_i hc
      subst hc
      obtain ⟨v, hv, r⟩ := s.sl i _ e
      cases r
      exact ⟨hv, A, F, C, s, h⟩
    · exact h.elim
  · exact h.elim
theorem de_mkC (c nf : Nat) {i : Nat} {kn : Str} {kpos : Pos} (tk : Takes X W) (hK : X.K = k.K) (M : Mk k.K (k.cl c) f) (F : FnW X.prog X.w X.K X.mg X.base lev f fd ps (SpD k 3 m)) (hnf : (k.fn c).length = nf) (hr : RoomG (lev + 1) X.A) (hb : BnW X.K fd ps .kw 1 [kn])
    {me : ME} (he : PE X e (LE k W me)) (hN : X.N[i]? = some x := by rfl) (hv : Vis X.env.scope x := by first | exact Or.inl rfl | exact Or.inr (Or.inl rfl) | exact Or.inr (Or.inr rfl)) (hdb : (x == ("__debug__" : Str)) = false := by decide) (hcd : (x == ("__classdict__" : Str)) = false := by decide)
    (hall : (backToKw pos (keywordEach [⟨some kn, e, kpos⟩] X.env)).all (·.1.isSome) = true := by rfl) (hks : (backToKw pos (keywordEach [⟨some kn, e, kpos⟩] X.env)).filterMap (·.1) = [kn] := by rfl)
    (hpl : ((backTo pos (starEach [] X.env)).any (·.1) || (backToKw pos (keywordEach [⟨some kn, e, kpos⟩] X.env)).any (·.1.isNone)) = false := by rfl) :
    PE X (.Call (.Name x pn) [] [⟨some kn, e, kpos⟩] pos) (LE k W (mMkC i c nf m me)) := by
  have M' : Mk X.K (k.cl c) f := by rw [hK]; exact M
  refine ⟨fun pins s σ H Q I h0 => ?_⟩
  obtain ⟨hs, h1⟩ := le_mkC h0
  have h : tMakeS (k.cl c) (SpD k 2 (vaM .kw 1 m)) [] (WE W) (LA k W (mCons me mNil)) σ H Q := le_make vaM_ar hnf (fun _ _ _ => .nil) h1
  refine wpAny_Call_Name_kw (thn ((pe_var (pos := pn) hN hv hdb hcd).run pins s σ H (fun v H1 => v = .ref (k.cl c) ∧ H1 = H) I ⟨.ref (k.cl c), hs, rfl, rfl⟩) fun u s1 ⟨v, H1, I1, r1, q1⟩ => ?_)
  obtain ⟨rfl, rfl⟩ := q1
  cases r1
  refine PySem.W.callWith_KW0 (h₀ := X.base) I.ok.mod.kin M'.kp hall ?_ hpl
  refine thn ((pk_cons he pk_nil).run pos pins s1 σ _ _ I1 (la_one h)) fun us s2 ⟨vs, H2, I2, r, q⟩ => ⟨I2.kIn, ?_⟩
  rw [hks]
  exact run_makeW (g := .kw) (ks := [kn]) M' F hr hb (by decide) (fun σ => passAt tk σ) I2 r fun x dx h1 h2 h3 => by have := q x dx h1 h2 h3; rwa [List.append_nil] at this
/-! ### + of texts -/
end
end CT
set_option maxHeartbeats 4000000
/-! DM2: the head's Hook where attributes of classes are read. -/
namespace CT
open PySem L2 PySem.Spec PyProof.Rows
def obGs (n : Nat) (fs : List (PySem.W.Frag → Bool)) (fn : List DefX) (g : Addr → Option Obj) : AlX := obX fs fn (He.frG g (He.asD g n ++ [cStatics]))
def hookXs (n : Nat) (fs : List (PySem.W.Frag → Bool)) (fn : List DefX) : PySem.W.Hook where
  α := AlX
  obs := fun s => obGs n fs fn s.heap.get?
  val := fun _ => vlX fn
  says := fun _ h => ∃ K : PySem.W.Frag, K.In h ∧ SaysX fs fn K
  of := fun _ _ e => ⟨_, He.frG_in, e⟩
  keeps := fun _ _ _ ⟨K, hK, c⟩ k => ⟨K, PySem.W.Frag.In.keeps hK k, c⟩
theorem obGs_eq {n : Nat} {fs : List (PySem.W.Frag → Bool)} {fn : List DefX} (s : PySem.W.SharedT) : obGs n fs fn (HandSHeadRun.getT s) = (hookXs n fs fn).obs s.abs := by
  have e : HandSHeadRun.getT s = s.abs.heap.get? := funext (HandSHeadRun.getT_eq s)
  rw [e]
  rfl
end CT
set_option maxHeartbeats 4000000
/-! DM3: is True; t * n; bool(o) by the class's own __bool__; a or b of tuples, bool(t). -/
namespace CT
open PySem L2 PySem.Spec PyProof.Rows
/-! ### t * n -/
/-! ### a or b of tuples; bool(t) -/
def mOrT (ma mb : ME) : ME := fun F C => bnd (ma F C) fun x C1 => match vT x with
  | some xs => if xs.isEmpty = true then mb F C1 else .ok x C1
  | none => .stuck
section
variable {X : Cx} {k : Cn} {W : WX} {σ : L2.St} {H : Hp} {Q : VK} {a b : Expr} {rest : List Expr} {pos : Pos} {ma mb : ME}
theorem isE {A : Nat → Addr} {C : Store} {vs : List V} {xs : List D} (r : RepL k A C H vs xs) : vs.isEmpty = xs.isEmpty := by
  cases r <;> rfl
theorem le_orT (h : LE k W (mOrT ma mb) σ H Q) : tOrT k.K (LE k W ma) (LE k W mb) σ H Q := by
  obtain ⟨A, F, C, s, h⟩ := h
  refine ⟨A, F, C, s, (Aft.bnd (rel := RepD k) h).mono fun dx C1 A1 H1 v p1 st1 r1 h1 => ?_⟩
  have s1 := s.step p1 st1
  split at h1
  · rename_i xs ev
    obtain ⟨p, vs, rfl, hp, rv⟩ := vT_at r1 ev
    refine ⟨!vs.isEmpty, .inr (.inl ⟨vs, hp, rfl⟩), ?_⟩
    rw [isE rv]
    cases he : xs.isEmpty with
    | true =>
      rw [he] at h1
      exact ⟨A1, F, C1, s1, h1⟩
    | false =>
      rw [he] at h1
      exact h1 A1 H1 _ Stp.refl st1 r1
  · exact h1.elim
theorem de_orT (hK : X.K = k.K) (ha : PE X a (LE k W ma)) (hb : PE X b (LE k W mb)) : PE X (.BoolOp .Or [a, b] pos) (LE k W (mOrT ma mb)) :=
  (pe_orT ha (pe_one hb)).cq fun _ _ _ h => by rw [hK]; exact le_orT h
end
theorem meets_bool_tup (l : Addr) (items : Array Value) (hfit : (items.size : Int) < 2 ^ 63) :
    Meets (Builtin.«bool.__new__» ⟨[.type "bool", .ref l], []⟩) (fun _ R s => IsTup s.heap l items ∧ R (.ok (.ret (.bool (!items.isEmpty)))) { s with toks := s.toks + 1 + 1 }) :=
  Meets.of_wp fun prog w A R s hs => by
    obtain ⟨hl, hs⟩ := hs
    obtain ⟨hp, g, d, tk, os⟩ := s
    have f1 := PySem.F.conv_sub_bool
    repeat (any_goals (first | assumption | (with_reducible refine truthy_tuple hl hfit ?_) | wp_step))
    all_goals first | exact ⟨_, rfl, hs⟩ | exact hs | skip
theorem call_boolT {X : Cx} : CallR X (.type "bool") (fun xs H Q => ∃ (a : Addr) (zs : List V), xs = [.ref a] ∧ SqT X.K H a zs ∧ Q (.bl (!zs.isEmpty)) H) := by
  intro pins s σ H xs us Q I r h
  obtain ⟨a, zs, rfl, hq, q⟩ := h
  obtain rfl := Vals.ref1 r
  obtain ⟨its, rv, pl, hz⟩ := I.tuple hq
  have hl := line63
  have hlen := rv.length
  refine call_bool_1 (meets_bool_tup a its.toArray (by simp only [List.size_toArray]; omega)) ⟨pl, rfl, ?_⟩
  exact ⟨.bl (!zs.isEmpty), H, I.tok _, by rw [isEmpty_of rv]; rfl, q⟩
def oBoolT : OA := fun xs C => match xs with
  | [x] => (vT x).map fun ys => (.bl (!ys.isEmpty), C)
  | _ => none
theorem d_boolT {k : Cn} : ApD k (fun xs H Q => ∃ (a : Addr) (zs : List V), xs = [.ref a] ∧ SqT k.K H a zs ∧ Q (.bl (!zs.isEmpty)) H) oBoolT := by
  intro fl A C H x dx d C' Q hf hl st rx e q
  cases rx with
  | nil => cases e
  | cons r t =>
    cases t with
    | cons _ _ => cases e
    | nil =>
      simp only [oBoolT, Option.map_eq_some_iff] at e
      obtain ⟨ys, ev, e⟩ := e
      obtain ⟨a, vs, rfl, ha, rv⟩ := vT_at r ev
      cases e
      exact ⟨a, vs, rfl, ha, by rw [isE rv]; exact q A H _ Stp.refl st (.bl _)⟩
end CT
set_option maxHeartbeats 4000000
/-! DM4: bool(o) by the class's own __bool__. -/
namespace CT
open PySem L2 PySem.Spec PyProof.Rows
section
variable {prog : Program} {w : World} {A : Around} {E : Value → Shared → Prop} {s : Shared} {K : PySem.W.Frag} {x C f : Addr} {ox : Obj} {od : Option Obj}
theorem truthy_own {M : Model} {Q : Bool → Shared → Prop} (X : K.In s.heap) (I : PySem.W.InstAt s.heap x ox C od) (hs : PySem.W.findIn K (.ref C) "__bool__" = some (some (.ref f))) (hf : PySem.W.isFn K (.ref f) = true)
    (h : wpAny M A (call (.ref f) [.ref x]) (PySem.W.BoolBack Q) E s) : wpAny M A (truthy (.ref x)) Q E s := by
  unfold truthy
  refine wpAny_bind (m := callSpecial? (.ref x) (Str.ofString "__bool__")) (PySem.W.special_fn X I hs (beq_iff_eq.mp hf) (wpAny_mono h (fun r s' hr => ?_) fun _ _ y => y))
  cases r <;> first | exact hr.elim | skip
  exact wpAny_pure hr
theorem bool_new_tree (v : Value) : Builtin.«bool.__new__» ⟨[.type "bool", v], []⟩ = (do
    if !(← isType (.type "bool")) then
      rule "bool.__new__.no-type"; raiseError "TypeError" s!"bool.__new__(X): X is not a type object ({← typeNameOf (.type "bool")})"
    if !(← isSubtype (.type "bool") (.type "bool")) then
      rule "bool.__new__.no-subtype"; raiseError "TypeError" s!"bool.__new__({← typeName (.type "bool")}): {← typeName (.type "bool")} is not a subtype of bool"
    match ← PySem.someArgs "bool" 0 1 ⟨[v], []⟩ with
    | x :: _ => ret (.bool (← truthy x))
    | [] => ret (.bool false)) := rfl
theorem some1 (v : Value) : PySem.someArgs "bool" 0 1 ⟨[v], []⟩ = pure [v] := by
  kernel_rfl
theorem kbo_call {Q : Value → Shared → Prop} (X : K.In s.heap) (I : PySem.W.InstAt s.heap x ox C od) (hs : PySem.W.findIn K (.ref C) "__bool__" = some (some (.ref f))) (hf : PySem.W.isFn K (.ref f) = true)
    (h : wpAny (model prog w) A.in1.in1 (call (.ref f) [.ref x]) (PySem.W.BoolBack fun b s' => Q (.bool b) s') E s) : wpAny (model prog w) A (call (.type "bool") [.ref x]) Q E s := by
  refine callType_codes (T := "bool") (Bi := Builtin.«object.__init__») (Q₁ := fun r s₁ => ∃ y, r = .bool y ∧ Q r s₁) PySem.F.called_bool (PySem.F.typeCall_bool_1 _) PySem.F.entry_object_init ?_ ?_
  · refine codeAny_of_tree ?_
    show wpAny _ A.in1.in1 (do checkBuiltinCall "bool.__new__" ⟨[.type "bool", .ref x], []⟩; again (.builtin "bool.__new__" ⟨[.type "bool", .ref x], []⟩)) _ _ s
    refine wpAny_bind (wpAny_of_eq (PySem.F.newCall_bool_1 _) (wpAny_pure ⟨plainId_quiet (by decide +kernel) _, codeAny_builtin PySem.F.entry_bool_new ?_⟩))
    rw [Around.under_plainId (by decide +kernel) _]
    rw [bool_new_tree]
    refine wpAny_bind (wpAny_pure ?_)
    refine wpAny_bind (wpAny_of_eq PySem.F.conv_sub_bool ?_)
    refine wpAny_bind (wpAny_of_eq (some1 _) ?_)
    refine wpAny_bind (wpAny_mono (truthy_own X I hs hf (Q := fun b s₁ => Q (.bool b) s₁) h) (fun r s₁ hr => wpAny_pure ⟨_, rfl, hr⟩) fun _ _ y => y)
  · rintro obj s₁ ⟨y, rfl, hq⟩
    exact ⟨PySem.typeIs_bool _ _, PySem.F.args_object_init_2 _ _, object_init_meets PySem.F.called_bool.init.lookup PySem.F.called_bool.made (by decide) prog w A.in1 _ s₁ ⟨PySem.typeIs_bool _ _, rfl, hq⟩⟩
end
/-! ### bool(o) -/
def mBoolO (c : Nat) (m : MF) (me : ME) : ME := fun F C => bnd (me F C) fun x C1 => match vO x C1 with
  | some (c', _) => if c' = c then (match m [x] C1 with
    | .ok (.bl s) C2 => .ok (.bl s) C2
    | _ => .stuck) else .stuck
  | none => .stuck
section
variable {X : Cx} {k : Cn} {W : WX} {σ : L2.St} {H : Hp} {Q : VK} {me : ME} {e : Expr} {pos p : Pos} {lev : Nat} {g : Addr} {fd : FuncData} {ps : List Str} {m : MF}
theorem de_boolO (c : Nat) (tk : Takes X W) (hK : X.K = k.K) (he : PE X e (LE k W me)) (hs' : PySem.W.findIn k.K (.ref (k.cl c)) "__bool__" = some (some (.ref g))) (hf : PySem.W.isFn k.K (.ref g) = true) (F : FnG X.prog X.w X.K X.mg X.base lev g fd ps (SpD k 1 m)) (ar : Ar 1 m) (hr : RoomG (lev + 2) X.A) (hb : Binds X.K fd ps [])
    (hg : Gl X "bool") (hm : X.mg "bool" = none) (hs : starEach [e] X.env = (false, eval e X.env) :: starEach [] X.env := by rfl) (hpl : (backTo pos (starEach [] X.env)).any (·.1) = false := by rfl) :
    PE X (.Call (.Name "bool" p) [e] [] pos) (LE k W (mBoolO c m me)) := by
  refine ⟨fun pins s σ H Q I h => ?_⟩
  refine wpAny_Call_Name_kw (ld_blt I hg hm (u := .type "bool") (by decide +kernel) ?_ (by decide) (by decide))
  have h' : tCons (LE k W me) tNil σ H (fun vs H1 => ∃ v, vs = [v] ∧ ∃ a dx fs, v = .ref a ∧ H1 a = some (.ins (k.cl c) dx fs) ∧ SpD k 1 m [v] H1 (fun z H2 => ∃ t, z = .bl t ∧ Q (.bl t) H2) (WE W σ)) := by
    obtain ⟨A, F', C, s', h⟩ := h
    refine ⟨A, F', C, s', (Aft.bnd (rel := RepD k) h).mono fun dx C1 A1 H1 v p1 st1 r1 h1 => ?_⟩
    have s1 := s'.step p1 st1
    split at h1
    · rename_i c' fs ev
      split at h1
      · rename_i hcc
        subst hcc
        obtain ⟨a, dx', vs, rfl, ha, hle, rv⟩ := vO_at st1 r1 ev
        refine ⟨_, rfl, a, dx', _, rfl, ha, sp_of s1.fl ar st1 (.cons r1 .nil) ?_⟩
        cases em : m [dx] C1 with
        | ok d C2 =>
          rw [em] at h1
          intro A2 H2 z p2 st2 rz
          cases rz with
          | bl t => exact ⟨t, rfl, h1 A2 H2 _ p2 st2 (.bl _)⟩
          | _ => exact h1.elim
        | exc e C2 => rw [em] at h1; exact h1.elim
        | stuck => rw [em] at h1; exact h1.elim
      · exact h1.elim
    · exact h1.elim
  refine PyProof.Rows.callWith_type1 (thn ((pa_cons he pa_nil hs).run pos pins s σ H _ I h') fun us s1 ⟨vs, H1, I1, r1, v, ev, a, dx, fs, ea, ha, q1⟩ => ?_) hs hpl
  subst ev
  subst ea
  obtain ⟨u, rfl, ru⟩ := Vals.one r1
  cases (show u = Value.ref a from ru)
  obtain ⟨mA, O, _, _, _, _⟩ := ins_get I1.hok ha
  obtain ⟨od, J, _⟩ := O.look
  refine kbo_call I1.kIn J (by rw [hK]; exact hs') (by rw [hK]; exact hf) ?_
  refine wpAny_mono (run_in2 (us := [.ref a]) (vs := [.ref a]) F hr hb (passAt tk σ) I1 (.cons rfl .nil) q1) (fun z' s' hz => ?_) fun _ _ z => z
  obtain ⟨z, H', I', rz, t, ez, qz⟩ := hz
  subst ez
  cases rz
  exact ⟨.bl t, H', I', rfl, qz⟩
end
end CT
set_option maxHeartbeats 4000000
/-! DM5: zip of two tuples; min and max of a list of ints with a default. -/
namespace CT
open PySem L2 PySem.Spec PyProof.Rows RZ
end CT
set_option maxHeartbeats 4000000
/-! DM6: min and max of a list of ints with a default. -/
namespace CT
open PySem L2 PySem.Spec PyProof.Rows
def rMinD (f : Int → Int → Int) (K : PySem.W.Frag) : List V → List V → Hp → VK → Prop := fun xs zs H Q => ∃ (a : Addr) (ns : List Int) (z : V), xs = [.ref a] ∧ zs = [z] ∧ SqL K H a (ns.map V.int) ∧ (match ns with
  | [] => Q z H
  | y :: ys => Q (.int (ys.foldl f y)) H)
section
variable {X : Cx}
theorem reads_int {h : Heap} {v : Value} {n : Int} {bs : List Addr} (r : Reads h v (.int n) bs) : ∃ t, v = .int n t := by
  cases r
  exact ⟨_, rfl⟩
theorem dep_ints : ∀ ns : List Int, PyData.depthAll (ns.map .int) = 0
  | [] => rfl
  | n :: ns => by
    have := dep_ints ns
    simp only [List.map_cons, PyData.depthAll, PyData.depth, this]
    omega
theorem alike_ints (ns : List Int) : PySem.W.AlikeAll (ns.map .int) := by
  refine ⟨fun x hx y hy => ?_, fun x hx => ?_⟩
  · obtain ⟨a, _, rfl⟩ := List.mem_map.mp hx
    obtain ⟨b, _, rfl⟩ := List.mem_map.mp hy
    rfl
  · obtain ⟨a, _, rfl⟩ := List.mem_map.mp hx
    simp
theorem cr_minD (hr : X.A.handled = none) (hu : X.A.units + 200 < cLine) : CallRK X (.builtin "min") ["default"] (rMinD min X.K) := by
  intro pins s σ H xs zs us ws Q I r1 r2 h
  obtain ⟨a, ns, z, rfl, rfl, hq, q⟩ := h
  obtain rfl := Vals.ref1 r1
  obtain ⟨its, rv, pl, hz⟩ := I.list hq
  have ia : IntsAre its ns := ints_are rv
  obtain ⟨d, rfl, rd⟩ := Vals.one r2
  have hd := dep_ints ns
  refine PySem.W.min_list_default hr pl.isList (ia.reads _) ?_ (by rw [hd]; omega) (fun e h' tk hk => ?_) (fun y ys i v h' tk bs e hv hrd hk => ?_)
  · exact alike_ints ns
  · have : ns = [] := by simpa using e
    subst this
    exact ⟨z, H, I.kept (t' := tk) hk, rd, q⟩
  · cases ns with
    | nil => cases e
    | cons n ns =>
      simp only [List.map_cons, List.cons.injEq] at e
      obtain ⟨rfl, rfl⟩ := e
      rw [PySem.W.minD_ints] at hrd
      obtain ⟨t, rfl⟩ := reads_int hrd
      exact ⟨.int _, H, I.kept (t' := tk) hk, ⟨t, rfl⟩, q⟩
theorem cr_maxD (hr : X.A.handled = none) (hu : X.A.units + 200 < cLine) : CallRK X (.builtin "max") ["default"] (rMinD max X.K) := by
  intro pins s σ H xs zs us ws Q I r1 r2 h
  obtain ⟨a, ns, z, rfl, rfl, hq, q⟩ := h
  obtain rfl := Vals.ref1 r1
  obtain ⟨its, rv, pl, hz⟩ := I.list hq
  have ia : IntsAre its ns := ints_are rv
  obtain ⟨d, rfl, rd⟩ := Vals.one r2
  have hd := dep_ints ns
  refine PySem.W.max_list_default hr pl.isList (ia.reads _) ?_ (by rw [hd]; omega) (fun e h' tk hk => ?_) (fun y ys i v h' tk bs e hv hrd hk => ?_)
  · exact alike_ints ns
  · have : ns = [] := by simpa using e
    subst this
    exact ⟨z, H, I.kept (t' := tk) hk, rd, q⟩
  · cases ns with
    | nil => cases e
    | cons n ns =>
      simp only [List.map_cons, List.cons.injEq] at e
      obtain ⟨rfl, rfl⟩ := e
      rw [PySem.W.maxD_ints] at hrd
      obtain ⟨t, rfl⟩ := reads_int hrd
      exact ⟨.int _, H, I.kept (t' := tk) hk, ⟨t, rfl⟩, q⟩
end
def mMnD (f : Int → Int → Int) (ma md : ME) : ME := fun F C => bnd (ma F C) fun x C1 => bnd (md F C1) fun z C2 => match (vL x C2).bind dInts with
  | some [] => .ok z C2
  | some (y :: ys) => .ok (.int (ys.foldl f y)) C2
  | none => .stuck
section
variable {X : Cx} {k : Cn} {W : WX} {σ : L2.St} {H : Hp} {Q : VK} {ma md : ME} {f : Int → Int → Int} {e d : Expr} {p pos kpos : Pos} {x : Str} {id : String}
theorem le_mnD (h : LE k W (mMnD f ma md) σ H Q) : tCKw (rMinD f k.K) (tCons (LE k W ma) tNil) (tCons (LE k W md) tNil) σ H Q := by
  obtain ⟨A, F, C, s, h⟩ := h
  refine ⟨A, F, C, s, (Aft.bnd (rel := RepD k) h).mono fun dx C1 A1 H1 v p1 st1 r1 h1 => ?_⟩
  have s1 := s.step p1 st1
  refine ⟨A1, F, C1, s1, (Aft.bnd (rel := RepD k) h1).mono fun dz C2 A2 H2 z p2 st2 r2 h2 => ?_⟩
  have r1' := p2.rep _ _ r1
  split at h2
  · rename_i ei
    obtain ⟨l, e1, e2⟩ := Option.bind_eq_some_iff.mp ei
    obtain ⟨q, vs, rfl, hq, rv⟩ := vL_at st2 r1' e1
    rw [dInts_eq e2] at rv
    have := RepL.ints_inv rv
    subst this
    exact ⟨q, [], z, rfl, rfl, .inl (.inl hq), h2 A2 H2 _ Stp.refl st2 r2⟩
  · rename_i y ys ei
    obtain ⟨l, e1, e2⟩ := Option.bind_eq_some_iff.mp ei
    obtain ⟨q, vs, rfl, hq, rv⟩ := vL_at st2 r1' e1
    rw [dInts_eq e2] at rv
    have := RepL.ints_inv rv
    subst this
    exact ⟨q, y :: ys, z, rfl, rfl, .inl (.inl hq), h2 A2 H2 _ Stp.refl st2 (.int _)⟩
  · exact h2.elim
theorem de_mnD (hK : X.K = k.K) (hc : CallRK X (.builtin id) [("default" : Str)] (rMinD f X.K)) (hg : Gl X x) (hm : X.mg x = none) (hv : bootBuiltins x = some (.builtin id)) (he : PE X e (LE k W ma)) (hd : PE X d (LE k W md)) (hn : x ≠ "__name__" := by decide) (hdb : (x == ("__debug__" : Str)) = false := by decide)
    (hs : starEach [e] X.env = (false, eval e X.env) :: starEach [] X.env := by rfl)
    (h1 : backTo pos (starEach [e] X.env) = (false, eval e X.env) :: backTo pos (starEach [] X.env) := by rfl) (hpl : (backTo pos (starEach [e] X.env)).any (·.1) = false := by rfl)
    (hall : (backToKw pos (keywordEach [⟨some "default", d, kpos⟩] X.env)).all (·.1.isSome) = true := by rfl) (hnone : (backToKw pos (keywordEach [⟨some "default", d, kpos⟩] X.env)).any (·.1.isNone) = false := by rfl) (hks : (backToKw pos (keywordEach [⟨some "default", d, kpos⟩] X.env)).filterMap (·.1) = [("default" : Str)] := by rfl) :
    PE X (.Call (.Name x p) [e] [⟨some "default", d, kpos⟩] pos) (LE k W (mMnD f ma md)) :=
  (pe_callBK hc hg hm hv (pa_cons he pa_nil hs) (pk_cons hd pk_nil) hn hdb h1 hpl hall hnone hks).cq fun _ _ _ h => by rw [hK]; exact le_mnD h
end
end CT
set_option maxHeartbeats 4000000
/-! DM7: x + k, k + x, x - k, k - x, -x for an own x and an int k. -/
namespace CT
open PySem L2 PySem.Spec PyProof.Rows PySem.W
theorem int_add_inst (a : Int) (t : Tok) (l C dx : Addr) : Meets (Builtin.«int.__add__» ⟨[.int a t, .ref l], []⟩) (fun _ R s => s.heap.get? l = some (instObj C dx) ∧ R (.ok (.ret Value.notImplemented)) s) :=
  .of_wp fun prog w A R s h => by
    obtain ⟨hp, g, d, tk, os⟩ := s
    obtain ⟨hl, h⟩ := h
    wp_walk
    exact ⟨_, rfl, h⟩
theorem int_sub_inst (a : Int) (t : Tok) (l C dx : Addr) : Meets (Builtin.«int.__sub__» ⟨[.int a t, .ref l], []⟩) (fun _ R s => s.heap.get? l = some (instObj C dx) ∧ R (.ok (.ret Value.notImplemented)) s) :=
  .of_wp fun prog w A R s h => by
    obtain ⟨hp, g, d, tk, os⟩ := s
    obtain ⟨hl, h⟩ := h
    wp_walk
    exact ⟨_, rfl, h⟩
/-- what the written part says of a class with an operator and its reflected one -/
structure OwOk (K : Frag) (nm : String) (C f g : Addr) : Prop where
  sf : selfFirst K C = true
  op : findIn K (.ref C) (PySem.dunder nm) = some (some (.ref f))
  rop : findIn K (.ref C) (PySem.dunderR nm) = some (some (.ref g))
  fn : isFn K (.ref f) = true
  rfn : isFn K (.ref g) = true
  s1 : subIn K (.type "int") (.ref C) = some false
  s2 : subIn K (.ref C) (.type "int") = some false
def owB (nm : String) (x : Str) (K : Frag) : Bool := selfFirst K (He.ga K x) && (He.eqO (findIn K (.ref (He.ga K x)) (PySem.dunder nm)) (some (some (.ref (He.ma K (He.ga K x) (PySem.dunder nm))))) && (He.eqO (findIn K (.ref (He.ga K x)) (PySem.dunderR nm)) (some (some (.ref (He.ma K (He.ga K x) (PySem.dunderR nm))))) &&
  (isFn K (.ref (He.ma K (He.ga K x) (PySem.dunder nm))) && (isFn K (.ref (He.ma K (He.ga K x) (PySem.dunderR nm))) && (decide (subIn K (.type "int") (.ref (He.ga K x)) = some false) && decide (subIn K (.ref (He.ga K x)) (.type "int") = some false))))))
theorem owB_ok {nm : String} {x : Str} {K : Frag} (h : owB nm x K = true) : OwOk K nm (He.ga K x) (He.ma K (He.ga K x) (PySem.dunder nm)) (He.ma K (He.ga K x) (PySem.dunderR nm)) := by
  obtain ⟨h1, h⟩ := He.ba h
  obtain ⟨h2, h⟩ := He.ba h
  obtain ⟨h3, h⟩ := He.ba h
  obtain ⟨h4, h⟩ := He.ba h
  obtain ⟨h5, h⟩ := He.ba h
  obtain ⟨h6, h7⟩ := He.ba h
  exact ⟨h1, He.eqO_ok h2, He.eqO_ok h3, h4, h5, of_decide_eq_true h6, of_decide_eq_true h7⟩
/-- what an operator's int side does with an instance -/
structure IntOp (op : Operator) : Prop where
  fill : fillsNumberSlot (.type "int") op.info.2 = pure true
  rl : ∃ z, typeLookup (.type "int") (PySem.dunderR op.info.2) = pure (some z)
  no : ∃ id, Slot "int" (PySem.dunder op.info.2) id ∧ ∀ {prog : Program} {w : World} {A : Around} {E : Value → Shared → Prop} {s : Shared} {i : Int} {t : Tok} {a C dx : Addr}, s.heap.get? a = some (instObj C dx) → wpAny (model prog w) A (call (.builtin id) [.int i t, .ref a]) (fun v s' => v = .notImplemented ∧ s' = s) E s
theorem io_add : IntOp .Add := ⟨PySem.F.fills_int_add, ⟨_, PySem.F.slot_int_radd.lookup⟩, _, PySem.F.slot_int_add, fun {_ _ _ _ s i t a C dx} h => call_meets PySem.F.slot_int_add (typeIs_int s i t) PySem.F.entry_int_add (PySem.F.args_int_add_2 _ _) (int_add_inst i t a C dx) ⟨h, rfl, rfl⟩⟩
theorem io_sub : IntOp .Sub := ⟨PySem.F.fills_int_sub, ⟨_, PySem.F.slot_int_rsub.lookup⟩, _, PySem.F.slot_int_sub, fun {_ _ _ _ s i t a C dx} h => call_meets PySem.F.slot_int_sub (typeIs_int s i t) PySem.F.entry_int_sub (PySem.F.args_int_sub_2 _ _) (int_sub_inst i t a C dx) ⟨h, rfl, rfl⟩⟩
def mNegO (c : Nat) (m : MF) (mo : ME) : ME := fun F C => bnd (mo F C) fun x C1 => if isC c x C1 = true then m [x] C1 else .stuck
section
variable {X : Cx} {k : Cn} {W : WX} {σ : L2.St} {H : Hp} {Q : VK} {lev : Nat} {C f g : Addr} {fd : FuncData} {ps : List Str} {np : Nat} {m : MF} {e o b : Expr} {pos : Pos} {mo me : ME} {E : L2.St → XK} {sp : Sp} {op : Operator}
theorem op_owR (io : IntOp op) (hg : OwOk X.K op.info.2 C f g) (F : FnG X.prog X.w X.K X.mg X.base lev f fd ps sp) (hr : RoomG lev X.A) (hb : Binds X.K fd ps []) (hx : ∀ σ, PassesAt (L2.CX X.prog X.w) X σ (E σ)) :
    OpX X (binaryOp op) fun σ x y H Q => ∃ a dx fs i, x = .ref a ∧ y = .int i ∧ H a = some (.ins C dx fs) ∧ sp [x, y] H Q (E σ) := by
  intro pins s σ H x y v u Q I rx ry h
  obtain ⟨a, dx, fs, i, rfl, rfl, ha, q⟩ := h
  cases (show v = Value.ref a from rx)
  obtain ⟨t, rfl⟩ := ry
  obtain ⟨mA, O, _, _, _, _⟩ := ins_get I.hok ha
  obtain ⟨od, J, _⟩ := O.look
  obtain ⟨z, hz⟩ := io.rl
  refine own_int (op := op) I.kIn J hg.sf hg.op hg.rop hg.fn hg.s1 io.fill hz ?_
  refine wpAny_mono (run_fnG (us := [.ref a, .int i t]) (vs := [.ref a, .int i]) (dvs := []) (ds := []) F hr hb .nil (hx σ) I (.cons rfl (.cons ⟨t, rfl⟩ .nil)) q) (fun z' s' hz => ?_) fun _ _ z => z
  obtain ⟨z, H', I', rz, qz⟩ := hz
  exact SlX.cmpback rz ⟨z, H', I', rz, qz⟩
theorem op_owL (io : IntOp op) (hg : OwOk X.K op.info.2 C f g) (F : FnG X.prog X.w X.K X.mg X.base lev g fd ps sp) (hr : RoomG lev X.A) (hb : Binds X.K fd ps []) (hx : ∀ σ, PassesAt (L2.CX X.prog X.w) X σ (E σ)) :
    OpX X (binaryOp op) fun σ x y H Q => ∃ a dx fs i, y = .ref a ∧ x = .int i ∧ H a = some (.ins C dx fs) ∧ sp [y, x] H Q (E σ) := by
  intro pins s σ H x y v u Q I rx ry h
  obtain ⟨a, dx, fs, i, rfl, rfl, ha, q⟩ := h
  cases (show u = Value.ref a from ry)
  obtain ⟨t, rfl⟩ := rx
  obtain ⟨mA, O, _, _, _, _⟩ := ins_get I.hok ha
  obtain ⟨od, J, _⟩ := O.look
  obtain ⟨id, sl, no⟩ := io.no
  refine int_own (op := op) I.kIn J hg.sf hg.op hg.rop hg.rfn hg.s2 io.fill sl (no O.obj) ?_
  refine wpAny_mono (run_fnG (us := [.ref a, .int i t]) (vs := [.ref a, .int i]) (dvs := []) (ds := []) F hr hb .nil (hx σ) I (.cons rfl (.cons ⟨t, rfl⟩ .nil)) q) (fun z' s' hz => ?_) fun _ _ z => z
  obtain ⟨z, H', I', rz, qz⟩ := hz
  exact SlX.cmpback rz ⟨z, H', I', rz, qz⟩
theorem de_owR (c : Nat) (tk : Takes X W) (hK : X.K = k.K) (ha : PE X o (LE k W mo)) (hbb : PE X b (LE k W me)) (io : IntOp op) (hg : OwOk k.K op.info.2 (k.cl c) f g) (F : FnG X.prog X.w X.K X.mg X.base lev f fd ps (SpD k np m)) (ar : Ar np m) (hr : RoomG lev X.A) (hb : Binds X.K fd ps []) : PE X (.BinOp o op b pos) (LE k W (mMulR c m mo me)) :=
  (pe_opX (op_owR io (by rw [hK]; exact hg) F hr hb fun σ => passAt tk σ) ha hbb).cq fun _ _ _ h => le_mulR ar h
theorem de_owL (c : Nat) (tk : Takes X W) (hK : X.K = k.K) (ha : PE X e (LE k W me)) (hbb : PE X o (LE k W mo)) (io : IntOp op) (hg : OwOk k.K op.info.2 (k.cl c) f g) (F : FnG X.prog X.w X.K X.mg X.base lev g fd ps (SpD k np m)) (ar : Ar np m) (hr : RoomG lev X.A) (hb : Binds X.K fd ps []) : PE X (.BinOp e op o pos) (LE k W (mMulL c m me mo)) :=
  (pe_opX (op_owL io (by rw [hK]; exact hg) F hr hb fun σ => passAt tk σ) ha hbb).cq fun _ _ _ h => le_mulL ar h
theorem de_negO (c : Nat) (tk : Takes X W) (hK : X.K = k.K) (ha : PE X o (LE k W mo)) (hs : findIn k.K (.ref (k.cl c)) "__neg__" = some (some (.ref f))) (hf : isFn k.K (.ref f) = true) (F : FnG X.prog X.w X.K X.mg X.base lev f fd ps (SpD k np m)) (ar : Ar np m) (hr : RoomG lev X.A) (hb : Binds X.K fd ps []) : PE X (.UnaryOp .USub o pos) (LE k W (mNegO c m mo)) := by
  refine ⟨fun pins s σ H Q I h => ?_⟩
  have h' : LE k W mo σ H fun x H1 => ∃ a dx fs, x = .ref a ∧ H1 a = some (.ins (k.cl c) dx fs) ∧ SpD k np m [x] H1 Q (WE W σ) := by
    obtain ⟨A, F, C, s, h⟩ := h
    refine ⟨A, F, C, s, (Aft.bnd (rel := RepD k) h).mono fun dx C1 A1 H1 v p1 st1 r1 h1 => ?_⟩
    have s1 := s.step p1 st1
    split at h1
    · rename_i hc
      obtain ⟨a, dx', gs, rfl, ha⟩ := isC_at st1 r1 hc
      exact ⟨a, dx', gs, rfl, ha, sp_of s1.fl ar st1 (.cons r1 .nil) h1⟩
    · exact h1.elim
  refine UnaryOp_ (thn (ha.run pins s σ H _ I h') fun v s1 ⟨x, H1, I1, r1, a, dx, fs, ex, hi, q⟩ => ?_)
  subst ex
  cases (show v = Value.ref a from r1)
  obtain ⟨mA, O, _, _, _, _⟩ := ins_get I1.hok hi
  obtain ⟨od, J, _⟩ := O.look
  unfold unaryOp
  refine wpAny_holding ?_
  refine wpAny_bind (special_fn I1.kIn J (by rw [hK]; exact hs) (beq_iff_eq.mp (by rw [hK]; exact hf)) ?_)
  refine wpAny_mono (run_fnG (us := [.ref a]) (vs := [.ref a]) (dvs := []) (ds := []) F hr hb .nil (passAt tk σ) I1 (.cons rfl .nil) q) (fun z' s' hz => ?_) fun _ _ z => z
  exact wpAny_pure hz
end
end CT
set_option maxHeartbeats 4000000
/-! DM8: list(range(a, b, 2)); sorted(set(xs)), len(set(xs)) of up to 4,000 ints. -/
namespace CT
open PySem L2 PySem.Spec PyProof.Rows
def rn2 (a b : Int) : Nat := ((b - a + 1) / 2).toNat
def rgI2 (a b : Int) : List Int := (List.range (rn2 a b)).map fun i => a + (i : Nat) * 2
theorem rangeSize_two (a b : Int) : Builtin.Range.rangeSize a b 2 = (rn2 a b : Int) := by
  unfold Builtin.Range.rangeSize rn2
  simp only [show (2 : Int) > 0 by decide, if_true]
  split <;> omega
theorem small_two {a b : Int} (ha : -(2 ^ 61) ≤ a) (ha' : a < 2 ^ 61) (hb : -(2 ^ 61) ≤ b) (hb' : b < 2 ^ 61) : Builtin.Range.small a b 2 = true := by
  unfold Builtin.Range.small
  rw [rangeSize_two]
  unfold rn2
  simp only [Builtin.Range.rangeFitsLong, Bool.and_eq_true, Bool.or_eq_true, decide_eq_true_eq, beq_iff_eq, show (2 : Int) > 0 by decide, if_true]
  omega
def rgOk2 (a b : Int) : Bool := decide (-(2 ^ 61) ≤ a) && decide (a < 2 ^ 61) && decide (-(2 ^ 61) ≤ b) && decide (b < 2 ^ 61) && decide (rn2 a b ≤ 2 ^ 24)
def mLRng3 (own : Bool) (m m2 m3 : ME) : ME := fun F C => bnd (m F C) fun x C1 => bnd (m2 F C1) fun y C2 => bnd (m3 F C2) fun z C3 => match x, y, z with
  | .int a, .int b, .int 2 => if rgOk2 a b = true then .ok (mkL own ((rgI2 a b).map .int) C3).1 (mkL own ((rgI2 a b).map .int) C3).2 else .stuck
  | _, _, _ => .stuck
theorem vals_rg2 {a : Int} {n : Nat} {acc : Array Value} (h : ItemsOf (fun i v => ∃ t, v = .int (a + i * 2) t) acc n) : Vals (((List.range n).map fun i => a + (i : Nat) * 2).map V.int) acc.toList := by
  have e : acc.toList.length = n := by rw [Array.length_toList]; exact h.1
  rw [List.map_map, ← e]
  refine vals_of_get acc.toList _ fun j u hj => ?_
  obtain ⟨t, rfl⟩ := h.2 j u (by rw [← hj, Array.getElem?_toList])
  exact ⟨t, rfl⟩
section
variable {X : Cx} {k : Cn} {W : WX} {σ : L2.St} {H : Hp} {Q : VK} {e a b c : Expr} {p pos p' pos' : Pos} {m m2 m3 : ME}
theorem le_lrng3 {own : Bool} (h : LE k W (mLRng3 own m m2 m3) σ H Q) : tCons (LE k W m) (tCons (LE k W m2) (tCons (LE k W m3) tNil)) σ H fun vs H1 => ∃ i j : Int, vs = [.int i, .int j, .int 2] ∧ rgOk2 i j = true ∧ ∀ q, H1 q = none → Q (.ref q) (upd H1 q (.lst ((rgI2 i j).map V.int))) := by
  obtain ⟨A, F, C, s, h⟩ := h
  refine ⟨A, F, C, s, (Aft.bnd (rel := RepD k) h).mono fun dx C1 A1 H1 x p1 st1 rx h1 => ?_⟩
  have s1 := s.step p1 st1
  refine ⟨A1, F, C1, s1, (Aft.bnd (rel := RepD k) h1).mono fun dy C2 A2 H2 y p2 st2 ry h2 => ?_⟩
  have s2 := s1.step p2 st2
  refine ⟨A2, F, C2, s2, (Aft.bnd (rel := RepD k) h2).mono fun dz C3 A3 H3 z p3 st3 rz h3 => ?_⟩
  split at h3
  · split at h3
    · rename_i ho
      cases rx
      cases ry
      cases rz
      refine ⟨_, _, rfl, ho, fun q hq => ?_⟩
      obtain ⟨A4, w1, w2, w3⟩ := fresh_L (own := own) (s2.step p3 st3).fl st3 (RepL.ints (k := k) (A := A3) (C := C3) (H := H3)) hq
      exact h3 A4 _ _ w1 w2 w3
    · exact h3.elim
  · exact h3.elim
theorem de_lrng3 (own : Bool) (hc : X.calm = true) (hg : Gl X "list") (hm : X.mg "list" = none) (hg' : Gl X "range") (hm' : X.mg "range" = none) (ha : PE X a (LE k W m)) (hb : PE X b (LE k W m2)) (hcc : PE X c (LE k W m3))
    (n1 : starEach [a, b, c] X.env = (false, eval a X.env) :: starEach [b, c] X.env := by rfl) (n2 : starEach [b, c] X.env = (false, eval b X.env) :: starEach [c] X.env := by rfl) (n3 : starEach [c] X.env = (false, eval c X.env) :: starEach [] X.env := by rfl)
    (hpl : (backTo pos' (starEach [b, c] X.env)).any (·.1) = false := by rfl)
    (na : starEach [.Call (.Name "range" p') [a, b, c] [] pos'] X.env = (false, eval (.Call (.Name "range" p') [a, b, c] [] pos') X.env) :: starEach [] X.env := by rfl) : PE X (.Call (.Name "list" p) [.Call (.Name "range" p') [a, b, c] [] pos'] [] pos) (LE k W (mLRng3 own m m2 m3)) := by
  refine ⟨fun pins s σ H Q I h => ?_⟩
  have h' := le_lrng3 h
  refine Call_ (ld_blt I hg hm boot_list (PyProof.Rows.callWith_type1 (args_cons ?_ na) na))
  refine thn (Q := fun x s' => ∃ (r : Addr) (i j : Int) (t u v : Tok) (H1 : Hp), x = .ref r ∧ IsRange s'.heap r i j 2 t u v ∧ Inv X pins σ H1 s' ∧ rgOk2 i j = true ∧ ∀ q, H1 q = none → Q (.ref q) (upd H1 q (.lst ((rgI2 i j).map V.int)))) ?_ fun x s1 ⟨r, i, j, t, u, v, H1, ex, hr, I1, ok, q⟩ => args_nil ?_
  · refine Call_ (ld_blt I hg' hm' boot_range (PyProof.Rows.callWith_type1 (thn ((pa_cons ha (pa_cons hb (pa_cons hcc pa_nil n3) n2) n1).run pos' pins s σ H _ I h') fun us s1 ⟨vs, H1, I1, r1, i, j, ev, ok, q⟩ => ?_) n1 hpl))
    subst ev
    cases r1 with
    | cons r rr =>
      cases rr with
      | cons r' rr =>
        cases rr with
        | cons r'' rr =>
          cases rr
          obtain ⟨t, rfl⟩ := r
          obtain ⟨t', rfl⟩ := r'
          obtain ⟨t'', rfl⟩ := r''
          refine call_range_3 (by decide) ?_ (.inl (PyProof.noPylong_small (by decide)))
          exact ⟨_, i, j, _, _, _, H1, rfl, IsRange.new .., I1.kept (t' := s1.toks) fun b o e => Heap.get?_push_of_some _ e, ok, q⟩
  · subst ex
    simp only [rgOk2, Bool.and_eq_true, decide_eq_true_eq] at ok
    obtain ⟨⟨⟨⟨b1, b2⟩, b3⟩, b4⟩, b5⟩ := ok
    refine call_list_range (n := rn2 i j) (I1.ok.hd hc) hr (small_two b1 b2 b3 b4) (rangeSize_two i j) b5 fun h' tk acc c' hk e' hi => ?_
    refine ⟨.ref s1.heap.objs.size, upd H1 s1.heap.objs.size (.lst ((rgI2 i j).map V.int)), I1.laid hk (Nat.le_refl _) (show ObjOk X.prog X.w _ _ _ (.lst ((rgI2 i j).map V.int)) from ⟨?_, acc.toList, c', vals_rg2 hi, ?_⟩), rfl, q _ (I1.hok.fresh (Nat.le_refl _))⟩
    · rw [List.length_map]
      unfold rgI2
      rw [List.length_map, List.length_range, sizeLine_eq]
      omega
    · rw [Array.toArray_toList]; exact e'
end
/-! ### sets of more ints -/
theorem each_ints {h : Heap} {a : Addr} : ∀ {us : List Value} {ns : List Int}, IntsAre us ns → PySem.W.EachIs (fun v (n : Int) => ∃ as, Reads h v (.int n) as ∧ a ∉ as) us ns
  | _, _, .nil => .nil
  | _, _, .cons k tk t => .cons ⟨[], .int _ _, by simp⟩ (each_ints t)
theorem each_int {us : List Value} {ns : List Int} (h : IntsAre us ns) : PySem.W.EachIs (fun v (n : Int) => ∃ t, v = .int n t) us ns := by
  induction h with
  | nil => exact .nil
  | cons k tk t ih => exact .cons ⟨tk, rfl⟩ ih
theorem ints_each : ∀ {us : List Value} {ns : List Int}, PySem.W.EachIs (fun v (n : Int) => ∃ t, v = .int n t) us ns → IntsAre us ns
  | _, _, .nil => .nil
  | _, _, .cons h t => by obtain ⟨tk, rfl⟩ := h; exact .cons _ tk (ints_each t)
section
variable {P : Program} {w : World} {A : Around} {E : Value → Shared → Prop} {s : Shared} {a : Addr}
theorem sort_setB {S : Int → Bool} {n : Nat} {Q : Value → Shared → Prop} (R : SetR w s.heap a S n) (hh : A.handled = none) (hu : A.units + 200 < cLine)
    (hQ : ∀ s' p (out : Array Value) (c : Nat) (ns : List Int), (∀ b o, s.heap.get? b = some o → s'.heap.get? b = some o) → s'.gens = s.gens → s'.os = s.os → s.heap.objs.size ≤ p →
      s'.heap.get? p = some (seqObj "list" out c) → IntsAre out.toList ns → ns.Pairwise (· < ·) → (∀ k, k ∈ ns ↔ S k = true) → ns.length = n → Q (.ref p) s') :
    wpAny (model P w) A (call (.builtin "sorted") [.ref a]) Q E s := by
  obtain ⟨o, es, ep, t, ho, hex, hd, g, nd, hm, hb, hf, hn, hr, hl⟩ := R
  refine Calls.call_function_entry kind_sorted plain_sorted entry_sorted (args_sorted1 _) ?_
  unfold Builtin.«sorted»
  refine wpAny_bind (m := checkCount "sorted" 1 1 _) (wpAny_pure ?_)
  refine wpAny_bind (collect_set (A := A.in1) hh ⟨o, ho, hex.1, hd⟩ hf hb hr hl fun s1 vs k1 hz g1 o1 pm => ?_)
  have hvl : vs.length = n := by rw [pm.length_eq, List.length_map, Array.length_toList]; exact hn
  have hI : IntsAre vs (vs.map Builtin.Re.reRawOf) := ints_of vs fun v hv => by
    obtain ⟨e, he, q⟩ := List.mem_map.mp (pm.mem_iff.mp hv)
    obtain ⟨k, tk, h1, _⟩ := g e he
    exact ⟨k, tk, by rw [← q]; exact h1⟩
  have pk : (vs.map Builtin.Re.reRawOf).Perm (es.toList.map keyOf) := by
    have q := pm.map Builtin.Re.reRawOf
    rw [List.map_map] at q
    exact q
  have hnb : n < 4096 := by rw [← hn]; exact hb
  refine wpAny_bind (wpAny_newList ?_ (by rw [hvl, sizeLine_eq]; omega))
  have hoL : (s1.heap.push (seqObj "list" vs.toArray 0)).get? s1.heap.objs.size = some (seqObj "list" vs.toArray 0) := Heap.get?_push_size _ rfl
  have hI2 := hI
  generalize vs.map Builtin.Re.reRawOf = ks at hI hI2 pk
  have hkl : ks.length = n := by rw [← hI.length]; exact hvl
  refine wpAny_bind (wpAny_holding (PySem.W.list_sort_data (s := { s1 with heap := s1.heap.push (seqObj "list" vs.toArray 0) }) (R := fun v (k : Int) => ∃ t, v = .int k t) (enc := fun k : Int => .int k) (bs := ks) hoL (each_int hI) (each_ints hI2) ?_ ?_ (by rw [hkl, sizeLine_eq]; omega) (fun b hb => ?_) fun out hout eo => ?_))
  · intro x hx y hy
    obtain ⟨_, _, rfl⟩ := List.mem_map.mp hx
    obtain ⟨_, _, rfl⟩ := List.mem_map.mp hy
    rfl
  · refine .inr fun x hx => ?_
    obtain ⟨_, _, rfl⟩ := List.mem_map.mp hx
    exact ⟨by simp, by simp⟩
  · show A.units + 1 + 1 + 0 < _
    omega
  · obtain ⟨c, hc⟩ := sortedHeap_at (vs := vs) (out := out.toArray) hoL
    have es2 := ints_each eo
    rw [PySem.W.dataLe_int (fun k : Int => k)] at es2
    have pp := List.mergeSort_perm ks fun a b => decide (a ≤ b)
    have up : (ks.mergeSort fun a b => decide (a ≤ b)).Pairwise (· ≤ ·) := (List.pairwise_mergeSort (le := fun a b : Int => decide (a ≤ b)) (fun a b c h1 h2 => by simp only [decide_eq_true_eq] at *; omega) (fun a b => by simp only [Bool.or_eq_true, decide_eq_true_eq]; omega) ks).imp fun h => of_decide_eq_true h
    generalize (ks.mergeSort fun a b => decide (a ≤ b)) = ns' at es2 pp up
    have pn : ns'.Perm (es.toList.map keyOf) := pp.trans pk
    refine wpAny_pure ⟨_, rfl, hQ _ s1.heap.objs.size out.toArray c ns' (fun b u e => ?_) g1 o1 hz hc es2 (lt_of_le_nodup ns' up (pn.nodup_iff.mpr nd)) (fun k => by rw [pn.mem_iff, ← hm k]) ?_⟩
    · have q := k1 b u e
      have hlt := Heap.lt_size q
      show (sortedHeap (s1.heap.push (seqObj "list" vs.toArray 0)) s1.heap.objs.size vs out.toArray).get? b = some u
      rw [sortedHeap_old (Nat.ne_of_lt hlt) (by rw [size_push']; exact Nat.lt_succ_of_lt hlt)]
      exact Heap.get?_push_of_some _ q
    · rw [pn.length_eq, List.length_map, Array.length_toList]; exact hn
end
def rSetIB (K : PySem.W.Frag) (w : World) : List V → Hp → VK → Prop := fun xs H Q => ∃ (l : Addr) (ns : List Int), xs = [V.ref l] ∧ SqL K H l (ns.map V.int) ∧ ns.length < 4000 ∧
  ∀ a, H a = none → Q (.ref a) (upd H a (SetO w a (fun j => decide (j ∈ ns)) (srtI ns).length))
def rSortSB (w : World) : List V → Hp → VK → Prop := fun vs H Q => ∃ (a : Addr) (ns : List Int) (n : Nat), vs = [V.ref a] ∧ H a = some (SetO w a (fun j => decide (j ∈ ns)) n) ∧
  ∀ p : Addr, H p = none → Q (.ref p) (upd H p (.lst ((srtI ns).map V.int)))
section
variable {X : Cx}
theorem cr_setIB (hc : X.calm = true) : CallR X (.type "set") (rSetIB X.K X.w) := by
  intro pins s σ H xs us Q I r h
  obtain ⟨l, ns, rfl, hl, hf, q⟩ := h
  rw [Vals.ref1 r]
  obtain ⟨its, rv, pl, hz⟩ := I.list hl
  refine set_ints (I.ok.hd hc) pl.isList (by simpa using ints_are rv) (by unfold scanBound; omega) fun s2 m => ?_
  obtain ⟨h', tk, c, rfl, hS, hn, hk⟩ := m
  have ec := setR_card hS
  subst ec
  exact ⟨.ref s.heap.objs.size, upd H s.heap.objs.size _, I.laid (t' := tk) hk (Nat.le_refl _) (setO_new hS), rfl, q _ (I.hok.fresh (Nat.le_refl _))⟩
theorem cr_sortSB (hc : X.calm = true) (hu : X.A.units + 200 < cLine) : CallR X (.builtin "sorted") (rSortSB X.w) := by
  intro pins s σ H vs us Q I r h
  obtain ⟨a, ns, n, rfl, ha, q⟩ := h
  have R := setO_get I ha
  rw [Vals.ref1 r]
  refine sort_setB R (I.ok.hd hc) hu fun s' p out c ns' k g o hp hg hi hs hm hl => ?_
  have en : ns' = srtI ns := up_one hs srtI_up fun z => by rw [hm, srtI_mem, decide_eq_true_eq]
  subst en
  have hlen : ((srtI ns).map V.int).length ≤ sizeLine := by
    have hb := R
    obtain ⟨_, es, _, _, _, _, _, _, _, _, hsz, _, hnn, _⟩ := hb
    rw [List.length_map, hl, ← hnn, sizeLine_eq]
    unfold scanBound at hsz
    omega
  have hn : H p = none := I.hok.fresh hp
  have J : Inv X pins σ (upd H p (.lst ((srtI ns).map V.int))) { s with heap := s'.heap, gens := s'.gens, drawn := s'.drawn, toks := s'.toks } :=
    I.call (ch := []) (Un.laid k hp hn) (I.hok.laid k hp ⟨hlen, out.toList, c, vals_of_ints hi, hg⟩) (by rw [g]; exact I.bare) (fun _ z => nomatch z)
  have e : s' = { s with heap := s'.heap, gens := s'.gens, drawn := s'.drawn, toks := s'.toks } := by
    cases s'
    cases s
    cases o
    rfl
  rw [e]
  exact ⟨.ref p, _, J, rfl, q p hn⟩
end
def oSortSB (own : Bool) : OA := fun xs C => match xs with
  | [d] => (vL d C).bind fun ys => (dInts ys).bind fun ns => if ns.length < 4000 then some (mkL own ((srtI ns).map D.int) C) else none
  | _ => none
def oLenSB : OA := fun xs C => match xs with
  | [d] => (vL d C).bind fun ys => (dInts ys).bind fun ns => if ns.length < 4000 then some (.int (srtI ns).length, C) else none
  | _ => none
section
variable {X : Cx} {k : Cn} {W : WX}
theorem d_sortSB {own : Bool} {w : World} : ApD k (fun xs H Q => rSetIB k.K w xs H fun v H1 => rSortSB w [v] H1 Q) (oSortSB own) := by
  intro fl A C H x dx d C' Q hf hl st rx e q
  cases rx with
  | nil => cases e
  | cons r t =>
    cases t with
    | cons _ _ => cases e
    | nil =>
      simp only [oSortSB, Option.bind_eq_some_iff] at e
      obtain ⟨ds, ev, ns, en, e⟩ := e
      split at e
      · rename_i hn
        obtain ⟨a, vs, rfl, ha, rv⟩ := vL_at st r ev
        rw [dInts_eq en] at rv
        have := RepL.ints_inv rv
        subst this
        refine ⟨a, ns, rfl, .inl (.inl ha), hn, fun b hb => ⟨b, ns, _, rfl, upd_same, fun p hp => ?_⟩⟩
        have st1 : StOk k A C (upd H b (SetO w b (fun j => decide (j ∈ ns)) (srtI ns).length)) := st.new hb
        obtain ⟨A2, w1, w2, w3⟩ := fresh_L (own := own) hf st1 (RepL.ints (ns := srtI ns)) hp
        have e1 := Option.some.inj e
        rw [e1] at w1 w2 w3
        exact q A2 _ _ ((kp_new hb).stp0.trans w1) w2 w3
      · cases e
theorem d_lenSB {w : World} : ApD k (fun xs H Q => rSetIB k.K w xs H fun v H1 => rLenSI w [v] H1 Q) oLenSB := by
  intro fl A C H x dx d C' Q hf hl st rx e q
  cases rx with
  | nil => cases e
  | cons r t =>
    cases t with
    | cons _ _ => cases e
    | nil =>
      simp only [oLenSB, Option.bind_eq_some_iff] at e
      obtain ⟨ds, ev, ns, en, e⟩ := e
      split at e
      · rename_i hn
        obtain ⟨a, vs, rfl, ha, rv⟩ := vL_at st r ev
        rw [dInts_eq en] at rv
        have := RepL.ints_inv rv
        subst this
        cases e
        exact ⟨a, ns, rfl, .inl (.inl ha), hn, fun b hb => ⟨b, _, _, rfl, upd_same, q A _ _ (kp_new hb).stp0 (st.new hb) (.int _)⟩⟩
      · cases e
variable {e : Expr} {p p' pos pos' : Pos} {ma : MA}
theorem de_sortSB (own : Bool) (hK : X.K = k.K) (hc : X.calm = true) (hu : X.A.units + 200 < cLine) (hg : Gl X "sorted") (hm : X.mg "sorted" = none) (hg' : Gl X "set") (hm' : X.mg "set" = none) (ha : PA X [e] (LA k W ma)) (hs : starEach [e] X.env = (false, eval e X.env) :: starEach [] X.env := by rfl)
    (hs' : starEach [.Call (.Name "set" p') [e] [] pos'] X.env = (false, eval (.Call (.Name "set" p') [e] [] pos') X.env) :: starEach [] X.env := by rfl) (hpl : (backTo pos' (starEach [] X.env)).any (·.1) = false := by rfl) (hpl' : (backTo pos (starEach [] X.env)).any (·.1) = false := by rfl) :
    PE X (.Call (.Name "sorted" p) [.Call (.Name "set" p') [e] [] pos'] [] pos) (LE k W (mAp (oSortSB own) ma)) :=
  (pe_callB (cr_sortSB hc hu) hg hm (by decide +kernel) (pa_cons (pe_callTy (cr_setIB hc) hg' hm' (by decide +kernel) ha (by decide) (by decide) hs hpl) pa_nil hs') (by decide) (by decide) hs' hpl').cq fun _ _ _ h => le_ap (r := fun xs H Q => rSetIB X.K X.w xs H fun v H1 => rSortSB X.w [v] H1 Q) (by rw [hK]; exact d_sortSB) h
theorem de_lenSB (hK : X.K = k.K) (hc : X.calm = true) (hg : Gl X "len") (hm : X.mg "len" = none) (hg' : Gl X "set") (hm' : X.mg "set" = none) (ha : PA X [e] (LA k W ma)) (hs : starEach [e] X.env = (false, eval e X.env) :: starEach [] X.env := by rfl)
    (hs' : starEach [.Call (.Name "set" p') [e] [] pos'] X.env = (false, eval (.Call (.Name "set" p') [e] [] pos') X.env) :: starEach [] X.env := by rfl) (hpl : (backTo pos' (starEach [] X.env)).any (·.1) = false := by rfl) (hpl' : (backTo pos (starEach [] X.env)).any (·.1) = false := by rfl) :
    PE X (.Call (.Name "len" p) [.Call (.Name "set" p') [e] [] pos'] [] pos) (LE k W (mAp oLenSB ma)) :=
  (pe_callB cr_lenSI hg hm (by decide +kernel) (pa_cons (pe_callTy (cr_setIB hc) hg' hm' (by decide +kernel) ha (by decide) (by decide) hs hpl) pa_nil hs') (by decide) (by decide) hs' hpl').cq fun _ _ _ h => le_ap (r := fun xs H Q => rSetIB X.K X.w xs H fun v H1 => rLenSI X.w [v] H1 Q) (by rw [hK]; exact d_lenSB) h
end
end CT
set_option maxHeartbeats 4000000
/-! DM9: xs[i], ys[j] = e, f. -/
namespace CT
open PySem L2 PySem.Spec PyProof.Rows
def sSet2 (m1 m2 mo mi mo2 mi2 : ME) : MS := fun F C => bndS F.sl (m1 F C) fun v1 C1 => bndS F.sl (m2 F C1) fun v2 C2 => sSeq (sSetL (mC v1) mo mi) (sSetL (mC v2) mo2 mi2) F C2
section
variable {X : Cx} {k : Cn} {W : WX} {E : Ends} {σ : L2.St} {H : Hp} {A : Nat → Addr} {F : Fr} {C : Store} {v : V} {dv : D} {mo mi mo2 mi2 m1 m2 : ME}
theorem setL_core (s : SR k A F C σ H) (rv : Rep k A C H v dv) (h1 : AftS k W F.fl A C H (sSetL (mC dv) mo mi F C) E) : gSub (LE k W mo) (LE k W mi) rSetL v σ H E.nx := by
  have h1 : AftS k W F.fl A C H (bndS F.sl (mo F C) fun o C2 => bndS F.sl (mi F C2) fun x C3 => match x, cL o C3 with
    | .int n, some (i, ds) => match ixN ds.length n with
      | some j => match wr F.fl i (.lst (ds.set j dv)) C3 with
        | some C4 => .nx F.sl C4
        | none => .stuck
      | none => .stuck
    | _, _ => .stuck) E := h1
  refine ⟨A, F, C, s, (AftS.bnd (rel := RepD k) s h1).mono fun dO C2 A2 H2 o p2 st2 ro h2 => ?_⟩
  have s2 := s.step p2 st2
  refine ⟨A2, F, C2, s2, (AftS.bnd (rel := RepD k) s2 h2).mono fun dx C3 A3 H3 x p3 st3 rx h3 => ?_⟩
  have s3 := s2.step p3 st3
  cases rx with
  | int n =>
    cases ec : cL dO C3 with
    | none => simp only [ec] at h3; exact h3.elim
    | some q =>
      obtain ⟨i, ds⟩ := q
      simp only [ec] at h3
      obtain ⟨rfl, rfl, hi, vs, hv, rvs⟩ := cL_at st3 (p3.rep _ _ ro) ec
      cases ej : ixN ds.length n with
      | none => simp only [ej] at h3; exact h3.elim
      | some j =>
        simp only [ej] at h3
        cases ew : wr F.fl i (.lst (ds.set j dv)) C3 with
        | none => simp only [ew] at h3; exact h3.elim
        | some C4 =>
          simp only [ew] at h3
          obtain ⟨q1, q2⟩ := write_L st3 hi (rvs.set (p3.rep _ _ (p2.rep _ _ rv)) j) ew
          exact ⟨A3 i, vs, n, j, rfl, rfl, hv, by rw [rvs.length]; exact ej, h3 A3 σ _ q1 (s3.step q1 q2)⟩
  | _ => exact h3.elim
theorem ls_set2 (h : LS k W (sSet2 m1 m2 mo mi mo2 mi2) E σ H) : tAsg (tTup (tCons (LE k W m1) (tCons (LE k W m2) tNil))) (gTup k.K 2 (gCons (gSub (LE k W mo) (LE k W mi) rSetL) (gCons (gSub (LE k W mo2) (LE k W mi2) rSetL) gNil))) E σ H := by
  obtain ⟨A, F, C, s, h⟩ := h
  refine ⟨A, F, C, s, (AftS.bnd (rel := RepD k) s h).mono fun d1 C1 A1 H1 v1 p1 st1 r1 h1 => ?_⟩
  have s1 := s.step p1 st1
  refine ⟨A1, F, C1, s1, (AftS.bnd (rel := RepD k) s1 h1).mono fun d2 C2 A2 H2 v2 p2 st2 r2 h2 => ?_⟩
  have s2 := s1.step p2 st2
  refine ⟨by show 2 ≤ sizeLine; decide, fun p hp => ?_⟩
  have kp := (kp_new (A := A2) (C := C2) (o := .tup [v1, v2]) hp).stp0 (k := k) (fl := F.fl)
  have s3 := s2.step kp (st2.new (o := .tup [v1, v2]) hp)
  have q1 := kp.rep _ _ (p2.rep _ _ r1)
  have q2 := kp.rep _ _ r2
  have h3 := AftS.shift kp h2
  have h3 : AftS k W F.fl A2 C2 (upd H2 p (.tup [v1, v2])) (sSetL (mC d1) mo mi F C2) { E with nx := fun σ' H' => ∃ A' C' sl', SR k A' ⟨F.fl, sl'⟩ C' σ' H' ∧ Rep k A' C' H' v2 d2 ∧ AftS k W F.fl A' C' H' (sSetL (mC d2) mo2 mi2 ⟨F.fl, sl'⟩ C') E } := by
    unfold sSeq at h3
    cases e : sSetL (mC d1) mo mi F C2 with
    | nx sl C' =>
      rw [e] at h3
      exact fun A' σ' H' p r => ⟨A', C', sl, r, p.rep _ _ q2, AftS.shift p h3⟩
    | bk sl C' => rw [e] at h3; exact h3
    | ct sl C' => rw [e] at h3; exact h3
    | rt d C' => rw [e] at h3; exact h3
    | xc x sl C' => rw [e] at h3; exact h3
    | stuck => rw [e] at h3; exact h3
  refine ⟨p, [v1, v2], rfl, .inl (.inl upd_same), rfl, v1, [v2], rfl, ?_⟩
  have g1 := setL_core s3 q1 h3
  refine (show gSub (LE k W mo) (LE k W mi) rSetL v1 σ (upd H2 p (.tup [v1, v2])) _ from ?_)
  have mono : ∀ {v : V} {σ : L2.St} {H : Hp} {Q Q' : L2.St → Hp → Prop}, (∀ σ H, Q σ H → Q' σ H) → gSub (LE k W mo) (LE k W mi) rSetL v σ H Q → gSub (LE k W mo) (LE k W mi) rSetL v σ H Q' := by
    intro v σ H Q Q' hq g
    obtain ⟨A, F, C, s, g⟩ := g
    refine ⟨A, F, C, s, g.mono fun _ _ _ _ _ _ _ _ g => ?_⟩
    obtain ⟨A, F, C, s, g⟩ := g
    refine ⟨A, F, C, s, g.mono fun _ _ _ _ _ _ _ _ g => ?_⟩
    obtain ⟨a, vs, n, j, e1, e2, e3, e4, g⟩ := g
    exact ⟨a, vs, n, j, e1, e2, e3, e4, hq _ _ g⟩
  refine mono (fun σ' H' g => ?_) g1
  obtain ⟨A', C', sl', s', r', g⟩ := g
  exact ⟨v2, [], rfl, (setL_core s' r' g : gSub (LE k W mo2) (LE k W mi2) rSetL v2 σ' H' E.nx) |> fun z => by
    obtain ⟨A, F, C, s, g⟩ := z
    refine ⟨A, F, C, s, g.mono fun _ _ _ _ _ _ _ _ g => ?_⟩
    obtain ⟨A, F, C, s, g⟩ := g
    refine ⟨A, F, C, s, g.mono fun _ _ _ _ _ _ _ _ g => ?_⟩
    obtain ⟨a, vs, n, j, e1, e2, e3, e4, g⟩ := g
    exact ⟨a, vs, n, j, e1, e2, e3, e4, rfl, g⟩⟩
theorem ds_set2 {o i o2 i2 a b : Expr} {p1 p2 pt pos : Pos} {kt k2 : Nat} {pt2 : Pos} (hK : X.K = k.K) (hc : X.calm = true) (ha : PE X a (LE k W m1)) (hb : PE X b (LE k W m2)) (g1 : PG X (.Subscript o i p1) (gSub (LE k W mo) (LE k W mi) rSetL)) (g2 : PG X (.Subscript o2 i2 p2) (gSub (LE k W mo2) (LE k W mi2) rSetL))
    (n1 : starEach [a, b] X.env = (false, eval a X.env) :: starEach [b] X.env := by rfl) (n2 : starEach [b] X.env = (false, eval b X.env) :: starEach [] X.env := by rfl)
    (e1 : (assignEach [.Subscript o i p1, .Subscript o2 i2 p2] X.env).map (·.2) = assign (.Subscript o i p1) X.env :: (assignEach [.Subscript o2 i2 p2] X.env).map (·.2) := by rfl) (e2 : (assignEach [.Subscript o2 i2 p2] X.env).map (·.2) = assign (.Subscript o2 i2 p2) X.env :: (assignEach [] X.env).map (·.2) := by rfl)
    (hn : (assignEach [.Subscript o i p1, .Subscript o2 i2 p2] X.env).length = 2 := by rfl) (hst : (assignEach [.Subscript o i p1, .Subscript o2 i2 p2] X.env).findIdx? (·.1) = none := by rfl)
    (hs : swapsWithSole [.Tuple [.Subscript o i p1, .Subscript o2 i2 p2] kt pt] (.Tuple [a, b] k2 pt2) pos.line X.env = pure false := by rfl) (hw : swappedStores [.Tuple [.Subscript o i p1, .Subscript o2 i2 p2] kt pt] (.Tuple [a, b] k2 pt2) X.env = pure none := by rfl)
    (h1 : (assignEach [.Tuple [.Subscript o i p1, .Subscript o2 i2 p2] kt pt] X.env).map (·.2) = [assign (.Tuple [.Subscript o i p1, .Subscript o2 i2 p2] kt pt) X.env] := by rfl) :
    PS X (.Assign [.Tuple [.Subscript o i p1, .Subscript o2 i2 p2] kt pt] (.Tuple [a, b] k2 pt2) pos) (LS k W (sSet2 m1 m2 mo mi mo2 mi2)) :=
  (ps_asg (pe_tup (pa_cons ha (pa_cons hb pa_nil n2) n1)) (pg_tup hc (pgs_cons g1 (pgs_cons g2 pgs_nil e2) e1) hn hst) hs hw h1).cq fun _ _ _ h => by rw [hK]; exact ls_set2 h
end
end CT
set_option maxHeartbeats 4000000
/-! DM10: a def that hands back an own list, as an equation. -/
namespace CT
open PySem L2
def finOS (n : Nat) (r : RS) : R D := match r with
  | .rt d C' => finO n d C'
  | .xc e _ C' => if cbL n e.fs = true then .exc e (C'.take n) else .stuck
  | _ => .stuck
theorem mDefO_e {np ns : Nat} {b : MS} {ds : List D} {C : Store} {sl : List (Option D)} (h : ds.length = np) (hs : ds.map some ++ List.replicate (ns - np) none = sl) : mDefO np ns b ds C = finOS C.length (b ⟨C.length, sl⟩ C) := by
  subst hs
  unfold mDefO
  rw [if_pos h]
  rfl
end CT
set_option maxHeartbeats 8000000
set_option pp.maxSteps 60
namespace CL
open PySem L2 PySem.Spec PyProof.Rows CT
def top (i : Nat) : Stmt := PySem.Challenge.pw_contentties_k18_whole_registers_of_wants.main.body.getD i (.Pass ⟨0, 0, 0, 0⟩)
def mem (i j : Nat) : Stmt := match top i with
  | .ClassDef _ _ _ b _ _ _ _ _ _ _ => b.getD j (.Pass ⟨0, 0, 0, 0⟩)
  | s => s
def clA (K : PySem.W.Frag) (c : Nat) : Addr := match c with
  | 0 => He.ga K "Want"
  | _ => 0
def flA (c : Nat) : List Str := match c with
  | 0 => ["halves"]
  | _ => []
abbrev cn (K : PySem.W.Frag) : Cn := ⟨K, clA K, flA, none⟩
abbrev s_is_integer : Stmt := top 7
abbrev a_is_integer (K : PySem.W.Frag) : Addr := He.ga K "is_integer"
abbrev s_is_number : Stmt := top 8
abbrev a_is_number (K : PySem.W.Frag) : Addr := He.ga K "is_number"
abbrev s_merged : Stmt := top 10
abbrev a_merged (K : PySem.W.Frag) : Addr := He.ga K "merged"
abbrev s_common : Stmt := top 11
abbrev a_common (K : PySem.W.Frag) : Addr := He.ga K "common"
abbrev s_rest : Stmt := top 12
abbrev a_rest (K : PySem.W.Frag) : Addr := He.ga K "rest"
abbrev s_moved : Stmt := top 13
abbrev a_moved (K : PySem.W.Frag) : Addr := He.ga K "moved"
abbrev s_mirrored : Stmt := top 14
abbrev a_mirrored (K : PySem.W.Frag) : Addr := He.ga K "mirrored"
abbrev s_halves_between : Stmt := top 15
abbrev a_halves_between (K : PySem.W.Frag) : Addr := He.ga K "halves_between"
abbrev s_stretches : Stmt := top 16
abbrev a_stretches (K : PySem.W.Frag) : Addr := He.ga K "stretches"
abbrev s_block_halves : Stmt := top 17
abbrev a_block_halves (K : PySem.W.Frag) : Addr := He.ga K "block_halves"
abbrev s_check_numbers : Stmt := top 19
abbrev a_check_numbers (K : PySem.W.Frag) : Addr := He.ga K "check_numbers"
abbrev s_halves_of : Stmt := top 20
abbrev a_halves_of (K : PySem.W.Frag) : Addr := He.ga K "halves_of"
abbrev s_halves_moved : Stmt := top 21
abbrev a_halves_moved (K : PySem.W.Frag) : Addr := He.ga K "halves_moved"
abbrev s_halves_mirrored : Stmt := top 22
abbrev a_halves_mirrored (K : PySem.W.Frag) : Addr := He.ga K "halves_mirrored"
abbrev s_Want__init : Stmt := mem 24 0
abbrev a_Want__init (K : PySem.W.Frag) : Addr := He.ma K (He.ga K "Want") "__init__"
abbrev s_Want_between : Stmt := mem 24 1
abbrev a_Want_between (K : PySem.W.Frag) : Addr := cmG K (He.ga K "Want") "between"
abbrev s_Want_evens : Stmt := mem 24 3
abbrev a_Want_evens (K : PySem.W.Frag) : Addr := prG K (He.ga K "Want") "evens"
abbrev s_Want_odds : Stmt := mem 24 4
abbrev a_Want_odds (K : PySem.W.Frag) : Addr := prG K (He.ga K "Want") "odds"
abbrev s_Want_low : Stmt := mem 24 5
abbrev a_Want_low (K : PySem.W.Frag) : Addr := prG K (He.ga K "Want") "low"
abbrev s_Want_high : Stmt := mem 24 6
abbrev a_Want_high (K : PySem.W.Frag) : Addr := prG K (He.ga K "Want") "high"
abbrev s_Want_many : Stmt := mem 24 7
abbrev a_Want_many (K : PySem.W.Frag) : Addr := prG K (He.ga K "Want") "many"
abbrev s_Want_without : Stmt := mem 24 12
abbrev a_Want_without (K : PySem.W.Frag) : Addr := He.ma K (He.ga K "Want") "without"
abbrev s_Want_within : Stmt := mem 24 11
abbrev a_Want_within (K : PySem.W.Frag) : Addr := He.ma K (He.ga K "Want") "within"
abbrev s_Want_first : Stmt := mem 24 13
abbrev a_Want_first (K : PySem.W.Frag) : Addr := He.ma K (He.ga K "Want") "first"
abbrev s_Want_blocks : Stmt := mem 24 14
abbrev a_Want_blocks (K : PySem.W.Frag) : Addr := He.ma K (He.ga K "Want") "blocks"
abbrev s_Want__or : Stmt := mem 24 15
abbrev a_Want__or (K : PySem.W.Frag) : Addr := He.ma K (He.ga K "Want") "__or__"
abbrev s_Want__and : Stmt := mem 24 16
abbrev a_Want__and (K : PySem.W.Frag) : Addr := He.ma K (He.ga K "Want") "__and__"
abbrev s_Want__xor : Stmt := mem 24 17
abbrev a_Want__xor (K : PySem.W.Frag) : Addr := He.ma K (He.ga K "Want") "__xor__"
abbrev s_Want__add : Stmt := mem 24 18
abbrev a_Want__add (K : PySem.W.Frag) : Addr := He.ma K (He.ga K "Want") "__add__"
abbrev s_Want__rsub : Stmt := mem 24 21
abbrev a_Want__rsub (K : PySem.W.Frag) : Addr := He.ma K (He.ga K "Want") "__rsub__"
abbrev s_Want__neg : Stmt := mem 24 22
abbrev a_Want__neg (K : PySem.W.Frag) : Addr := He.ma K (He.ga K "Want") "__neg__"
abbrev s_Want__contains : Stmt := mem 24 23
abbrev a_Want__contains (K : PySem.W.Frag) : Addr := He.ma K (He.ga K "Want") "__contains__"
abbrev s_Want__bool : Stmt := mem 24 24
abbrev a_Want__bool (K : PySem.W.Frag) : Addr := He.ma K (He.ga K "Want") "__bool__"
abbrev s_Want__eq : Stmt := mem 24 25
abbrev a_Want__eq (K : PySem.W.Frag) : Addr := He.ma K (He.ga K "Want") "__eq__"
abbrev s_law_bag : Stmt := top 26
abbrev a_law_bag (K : PySem.W.Frag) : Addr := He.ga K "_law_bag"
abbrev s_law_take : Stmt := top 27
abbrev a_law_take (K : PySem.W.Frag) : Addr := He.ga K "_law_take"
abbrev s_law_runs : Stmt := top 29
abbrev a_law_runs (K : PySem.W.Frag) : Addr := He.ga K "_law_runs"
abbrev s_law_is : Stmt := top 30
abbrev a_law_is (K : PySem.W.Frag) : Addr := He.ga K "_law_is"
abbrev s_law_deed : Stmt := top 31
abbrev a_law_deed (K : PySem.W.Frag) : Addr := He.ga K "_law_deed"
abbrev s_law_asked : Stmt := top 32
abbrev a_law_asked (K : PySem.W.Frag) : Addr := He.ga K "_law_asked"
abbrev s_law : Stmt := top 33
abbrev a_law (K : PySem.W.Frag) : Addr := He.ga K "law"
structure Txt (K : PySem.W.Frag) (mg : Str → Option Value) : Prop where
  n_abs : mg "abs" = none
  n_any : mg "any" = none
  n_bool : mg "bool" = none
  n_enumerate : mg "enumerate" = none
  n_int : mg "int" = none
  n_isinstance : mg "isinstance" = none
  n_len : mg "len" = none
  n_list : mg "list" = none
  n_max : mg "max" = none
  n_min : mg "min" = none
  n_range : mg "range" = none
  n_repr : mg "repr" = none
  n_set : mg "set" = none
  n_sorted : mg "sorted" = none
  n_sum : mg "sum" = none
  n_tuple : mg "tuple" = none
  c_MOST : ∃ t, mg "MOST" = some (.int 1000000000 t)
  g_is_integer : mg "is_integer" = some (.ref (a_is_integer K))
  g_is_number : mg "is_number" = some (.ref (a_is_number K))
  g_merged : mg "merged" = some (.ref (a_merged K))
  g_common : mg "common" = some (.ref (a_common K))
  g_rest : mg "rest" = some (.ref (a_rest K))
  g_moved : mg "moved" = some (.ref (a_moved K))
  g_mirrored : mg "mirrored" = some (.ref (a_mirrored K))
  g_halves_between : mg "halves_between" = some (.ref (a_halves_between K))
  g_stretches : mg "stretches" = some (.ref (a_stretches K))
  g_block_halves : mg "block_halves" = some (.ref (a_block_halves K))
  g_check_numbers : mg "check_numbers" = some (.ref (a_check_numbers K))
  g_halves_of : mg "halves_of" = some (.ref (a_halves_of K))
  g_halves_moved : mg "halves_moved" = some (.ref (a_halves_moved K))
  g_halves_mirrored : mg "halves_mirrored" = some (.ref (a_halves_mirrored K))
  g_law_bag : mg "_law_bag" = some (.ref (a_law_bag K))
  g_law_take : mg "_law_take" = some (.ref (a_law_take K))
  g_law_runs : mg "_law_runs" = some (.ref (a_law_runs K))
  g_law_is : mg "_law_is" = some (.ref (a_law_is K))
  g_law_deed : mg "_law_deed" = some (.ref (a_law_deed K))
  g_law_asked : mg "_law_asked" = some (.ref (a_law_asked K))
  g_law : mg "law" = some (.ref (a_law K))
  g_Want : mg "Want" = some (.ref (He.ga K "Want"))
  cl_Want : Cls K (He.ga K "Want")
  no_Want_halves : NoAttr K (He.ga K "Want") "halves"
  mk_Want : Mk K (He.ga K "Want") (a_Want__init K)
  kw_Want__init : KwNon K (a_Want__init K) "halves"
  cm_Want_between : CmOk K (He.ga K "Want") "between" (a_Want_between K)
  pr_evens : PropOf K (He.ga K "Want") "evens" (prA K (He.ga K "Want") "evens") (a_Want_evens K)
  pr_odds : PropOf K (He.ga K "Want") "odds" (prA K (He.ga K "Want") "odds") (a_Want_odds K)
  pr_low : PropOf K (He.ga K "Want") "low" (prA K (He.ga K "Want") "low") (a_Want_low K)
  pr_high : PropOf K (He.ga K "Want") "high" (prA K (He.ga K "Want") "high") (a_Want_high K)
  pr_many : PropOf K (He.ga K "Want") "many" (prA K (He.ga K "Want") "many") (a_Want_many K)
  me_Want_without : Meth K (He.ga K "Want") "without" (a_Want_without K)
  me_Want_within : Meth K (He.ga K "Want") "within" (a_Want_within K)
  me_Want_first : Meth K (He.ga K "Want") "first" (a_Want_first K)
  me_Want_blocks : Meth K (He.ga K "Want") "blocks" (a_Want_blocks K)
  dn_Want__or : DnOk K (He.ga K "Want") "__or__" (a_Want__or K)
  dn_Want__and : DnOk K (He.ga K "Want") "__and__" (a_Want__and K)
  dn_Want__xor : DnOk K (He.ga K "Want") "__xor__" (a_Want__xor K)
  dn_Want__add : DnOk K (He.ga K "Want") "__add__" (a_Want__add K)
  dn_Want__rsub : DnOk K (He.ga K "Want") "__rsub__" (a_Want__rsub K)
  dn_Want__neg : DnOk K (He.ga K "Want") "__neg__" (a_Want__neg K)
  dn_Want__contains : DnOk K (He.ga K "Want") "__contains__" (a_Want__contains K)
  dn_Want__bool : DnOk K (He.ga K "Want") "__bool__" (a_Want__bool K)
  dn_Want__eq : DnOk K (He.ga K "Want") "__eq__" (a_Want__eq K)
  eq_Want : EqOk K (He.ga K "Want") (He.ma K (He.ga K "Want") "__eq__")
  ow_Want_add : OwOk K "add" (He.ga K "Want") (He.ma K (He.ga K "Want") (PySem.dunder "add")) (He.ma K (He.ga K "Want") (PySem.dunderR "add"))
  ow_Want_sub : OwOk K "sub" (He.ga K "Want") (He.ma K (He.ga K "Want") (PySem.dunder "sub")) (He.ma K (He.ga K "Want") (PySem.dunderR "sub"))
  sf_Want : PySem.W.selfFirst K (He.ga K "Want") = true
  isa : IsaOk (cn K) [0]
  f_is_integer : ∃ fd, FunD K "is_integer" "is_integer" (defArgs s_is_integer) (defBody s_is_integer) (defScope s_is_integer) [] [] (a_is_integer K) fd
  f_is_number : ∃ fd, FunD K "is_number" "is_number" (defArgs s_is_number) (defBody s_is_number) (defScope s_is_number) [] [] (a_is_number K) fd
  f_merged : ∃ fd, FunD K "merged" "merged" (defArgs s_merged) (defBody s_merged) (defScope s_merged) [] [] (a_merged K) fd
  f_common : ∃ fd, FunD K "common" "common" (defArgs s_common) (defBody s_common) (defScope s_common) [] [] (a_common K) fd
  f_rest : ∃ fd, FunD K "rest" "rest" (defArgs s_rest) (defBody s_rest) (defScope s_rest) [] [] (a_rest K) fd
  f_moved : ∃ fd, FunD K "moved" "moved" (defArgs s_moved) (defBody s_moved) (defScope s_moved) [] [] (a_moved K) fd
  f_mirrored : ∃ fd, FunD K "mirrored" "mirrored" (defArgs s_mirrored) (defBody s_mirrored) (defScope s_mirrored) [] [] (a_mirrored K) fd
  f_halves_between : ∃ fd, FunD K "halves_between" "halves_between" (defArgs s_halves_between) (defBody s_halves_between) (defScope s_halves_between) [] [] (a_halves_between K) fd
  f_stretches : ∃ fd, FunD K "stretches" "stretches" (defArgs s_stretches) (defBody s_stretches) (defScope s_stretches) [] [] (a_stretches K) fd
  f_block_halves : ∃ fd, FunD K "block_halves" "block_halves" (defArgs s_block_halves) (defBody s_block_halves) (defScope s_block_halves) [] [] (a_block_halves K) fd
  f_check_numbers : ∃ fd, FunD K "check_numbers" "check_numbers" (defArgs s_check_numbers) (defBody s_check_numbers) (defScope s_check_numbers) [] [] (a_check_numbers K) fd
  f_halves_of : ∃ fd, FunD K "halves_of" "halves_of" (defArgs s_halves_of) (defBody s_halves_of) (defScope s_halves_of) [] [] (a_halves_of K) fd
  f_halves_moved : ∃ fd, FunD K "halves_moved" "halves_moved" (defArgs s_halves_moved) (defBody s_halves_moved) (defScope s_halves_moved) [] [] (a_halves_moved K) fd
  f_halves_mirrored : ∃ fd, FunD K "halves_mirrored" "halves_mirrored" (defArgs s_halves_mirrored) (defBody s_halves_mirrored) (defScope s_halves_mirrored) [] [] (a_halves_mirrored K) fd
  f_Want__init : ∃ fd, FunD K "__init__" "Want.__init__" (defArgs s_Want__init) (defBody s_Want__init) (defScope s_Want__init) [] [] (a_Want__init K) fd
  f_Want_between : ∃ fd, FunD K "between" "Want.between" (defArgs s_Want_between) (defBody s_Want_between) (defScope s_Want_between) [] [] (a_Want_between K) fd
  f_Want_evens : ∃ fd, FunD K "evens" "Want.evens" (defArgs s_Want_evens) (defBody s_Want_evens) (defScope s_Want_evens) [] [] (a_Want_evens K) fd
  f_Want_odds : ∃ fd, FunD K "odds" "Want.odds" (defArgs s_Want_odds) (defBody s_Want_odds) (defScope s_Want_odds) [] [] (a_Want_odds K) fd
  f_Want_low : ∃ fd, FunD K "low" "Want.low" (defArgs s_Want_low) (defBody s_Want_low) (defScope s_Want_low) [] [] (a_Want_low K) fd
  f_Want_high : ∃ fd, FunD K "high" "Want.high" (defArgs s_Want_high) (defBody s_Want_high) (defScope s_Want_high) [] [] (a_Want_high K) fd
  f_Want_many : ∃ fd, FunD K "many" "Want.many" (defArgs s_Want_many) (defBody s_Want_many) (defScope s_Want_many) [] [] (a_Want_many K) fd
  f_Want_without : ∃ fd, FunD K "without" "Want.without" (defArgs s_Want_without) (defBody s_Want_without) (defScope s_Want_without) [] [] (a_Want_without K) fd
  f_Want_within : ∃ fd, FunD K "within" "Want.within" (defArgs s_Want_within) (defBody s_Want_within) (defScope s_Want_within) [] [] (a_Want_within K) fd
  f_Want_first : ∃ fd, FunD K "first" "Want.first" (defArgs s_Want_first) (defBody s_Want_first) (defScope s_Want_first) [] [] (a_Want_first K) fd
  f_Want_blocks : ∃ fd, FunD K "blocks" "Want.blocks" (defArgs s_Want_blocks) (defBody s_Want_blocks) (defScope s_Want_blocks) [] [] (a_Want_blocks K) fd
  f_Want__or : ∃ fd, FunD K "__or__" "Want.__or__" (defArgs s_Want__or) (defBody s_Want__or) (defScope s_Want__or) [] [] (a_Want__or K) fd
  f_Want__and : ∃ fd, FunD K "__and__" "Want.__and__" (defArgs s_Want__and) (defBody s_Want__and) (defScope s_Want__and) [] [] (a_Want__and K) fd
  f_Want__xor : ∃ fd, FunD K "__xor__" "Want.__xor__" (defArgs s_Want__xor) (defBody s_Want__xor) (defScope s_Want__xor) [] [] (a_Want__xor K) fd
  f_Want__add : ∃ fd, FunD K "__add__" "Want.__add__" (defArgs s_Want__add) (defBody s_Want__add) (defScope s_Want__add) [] [] (a_Want__add K) fd
  f_Want__rsub : ∃ fd, FunD K "__rsub__" "Want.__rsub__" (defArgs s_Want__rsub) (defBody s_Want__rsub) (defScope s_Want__rsub) [] [] (a_Want__rsub K) fd
  f_Want__neg : ∃ fd, FunD K "__neg__" "Want.__neg__" (defArgs s_Want__neg) (defBody s_Want__neg) (defScope s_Want__neg) [] [] (a_Want__neg K) fd
  f_Want__contains : ∃ fd, FunD K "__contains__" "Want.__contains__" (defArgs s_Want__contains) (defBody s_Want__contains) (defScope s_Want__contains) [] [] (a_Want__contains K) fd
  f_Want__bool : ∃ fd, FunD K "__bool__" "Want.__bool__" (defArgs s_Want__bool) (defBody s_Want__bool) (defScope s_Want__bool) [] [] (a_Want__bool K) fd
  f_Want__eq : ∃ fd, FunD K "__eq__" "Want.__eq__" (defArgs s_Want__eq) (defBody s_Want__eq) (defScope s_Want__eq) [] [] (a_Want__eq K) fd
  f_law_bag : ∃ fd, FunD K "_law_bag" "_law_bag" (defArgs s_law_bag) (defBody s_law_bag) (defScope s_law_bag) [] [] (a_law_bag K) fd
  f_law_take : ∃ fd, FunD K "_law_take" "_law_take" (defArgs s_law_take) (defBody s_law_take) (defScope s_law_take) [] [] (a_law_take K) fd
  f_law_runs : ∃ fd, FunD K "_law_runs" "_law_runs" (defArgs s_law_runs) (defBody s_law_runs) (defScope s_law_runs) [] [] (a_law_runs K) fd
  f_law_is : ∃ fd, FunD K "_law_is" "_law_is" (defArgs s_law_is) (defBody s_law_is) (defScope s_law_is) [] [] (a_law_is K) fd
  f_law_deed : ∃ fd, FunD K "_law_deed" "_law_deed" (defArgs s_law_deed) (defBody s_law_deed) (defScope s_law_deed) [] [] (a_law_deed K) fd
  f_law_asked : ∃ fd, FunD K "_law_asked" "_law_asked" (defArgs s_law_asked) (defBody s_law_asked) (defScope s_law_asked) [] [] (a_law_asked K) fd
  f_law : ∃ fd, FunD K "law" "law" (defArgs s_law) (defBody s_law) (defScope s_law) [] [] (a_law K) fd
def fs : List (PySem.W.Frag → Bool) := [(He.Fa.free "abs").ok,
  (He.Fa.free "any").ok,
  (He.Fa.free "bool").ok,
  (He.Fa.free "enumerate").ok,
  (He.Fa.free "int").ok,
  (He.Fa.free "isinstance").ok,
  (He.Fa.free "len").ok,
  (He.Fa.free "list").ok,
  (He.Fa.free "max").ok,
  (He.Fa.free "min").ok,
  (He.Fa.free "range").ok,
  (He.Fa.free "repr").ok,
  (He.Fa.free "set").ok,
  (He.Fa.free "sorted").ok,
  (He.Fa.free "sum").ok,
  (He.Fa.free "tuple").ok,
  (He.Fa.int "MOST" 1000000000).ok,
  (He.Fa.glo "is_integer").ok,
  (He.Fa.glo "is_number").ok,
  (He.Fa.glo "merged").ok,
  (He.Fa.glo "common").ok,
  (He.Fa.glo "rest").ok,
  (He.Fa.glo "moved").ok,
  (He.Fa.glo "mirrored").ok,
  (He.Fa.glo "halves_between").ok,
  (He.Fa.glo "stretches").ok,
  (He.Fa.glo "block_halves").ok,
  (He.Fa.glo "check_numbers").ok,
  (He.Fa.glo "halves_of").ok,
  (He.Fa.glo "halves_moved").ok,
  (He.Fa.glo "halves_mirrored").ok,
  (He.Fa.glo "_law_bag").ok,
  (He.Fa.glo "_law_take").ok,
  (He.Fa.glo "_law_runs").ok,
  (He.Fa.glo "_law_is").ok,
  (He.Fa.glo "_law_deed").ok,
  (He.Fa.glo "_law_asked").ok,
  (He.Fa.glo "law").ok,
  (He.Fa.glo "Want").ok,
  (He.Fa.cls "Want").ok,
  (He.Fa.noat "Want" "halves").ok,
  (He.Fa.mkr "Want").ok,
  kwB a_Want__init "halves",
  cmB "Want" "between",
  prB "Want" "evens",
  prB "Want" "odds",
  prB "Want" "low",
  prB "Want" "high",
  prB "Want" "many",
  (He.Fa.meth "Want" "without").ok,
  (He.Fa.meth "Want" "within").ok,
  (He.Fa.meth "Want" "first").ok,
  (He.Fa.meth "Want" "blocks").ok,
  dnB "Want" "__or__",
  dnB "Want" "__and__",
  dnB "Want" "__xor__",
  dnB "Want" "__add__",
  dnB "Want" "__rsub__",
  dnB "Want" "__neg__",
  dnB "Want" "__contains__",
  dnB "Want" "__bool__",
  dnB "Want" "__eq__",
  eqB "Want",
  owB "add" "Want",
  owB "sub" "Want",
  sfB "Want",
  isaB clA [0]]
def dx_is_integer : DefX := ⟨a_is_integer, "is_integer", "is_integer", defArgs s_is_integer, defBody s_is_integer, defScope s_is_integer, fun _ => []⟩
def dx_is_number : DefX := ⟨a_is_number, "is_number", "is_number", defArgs s_is_number, defBody s_is_number, defScope s_is_number, fun _ => []⟩
def dx_merged : DefX := ⟨a_merged, "merged", "merged", defArgs s_merged, defBody s_merged, defScope s_merged, fun _ => []⟩
def dx_common : DefX := ⟨a_common, "common", "common", defArgs s_common, defBody s_common, defScope s_common, fun _ => []⟩
def dx_rest : DefX := ⟨a_rest, "rest", "rest", defArgs s_rest, defBody s_rest, defScope s_rest, fun _ => []⟩
def dx_moved : DefX := ⟨a_moved, "moved", "moved", defArgs s_moved, defBody s_moved, defScope s_moved, fun _ => []⟩
def dx_mirrored : DefX := ⟨a_mirrored, "mirrored", "mirrored", defArgs s_mirrored, defBody s_mirrored, defScope s_mirrored, fun _ => []⟩
def dx_halves_between : DefX := ⟨a_halves_between, "halves_between", "halves_between", defArgs s_halves_between, defBody s_halves_between, defScope s_halves_between, fun _ => []⟩
def dx_stretches : DefX := ⟨a_stretches, "stretches", "stretches", defArgs s_stretches, defBody s_stretches, defScope s_stretches, fun _ => []⟩
def dx_block_halves : DefX := ⟨a_block_halves, "block_halves", "block_halves", defArgs s_block_halves, defBody s_block_halves, defScope s_block_halves, fun _ => []⟩
def dx_check_numbers : DefX := ⟨a_check_numbers, "check_numbers", "check_numbers", defArgs s_check_numbers, defBody s_check_numbers, defScope s_check_numbers, fun _ => []⟩
def dx_halves_of : DefX := ⟨a_halves_of, "halves_of", "halves_of", defArgs s_halves_of, defBody s_halves_of, defScope s_halves_of, fun _ => []⟩
def dx_halves_moved : DefX := ⟨a_halves_moved, "halves_moved", "halves_moved", defArgs s_halves_moved, defBody s_halves_moved, defScope s_halves_moved, fun _ => []⟩
def dx_halves_mirrored : DefX := ⟨a_halves_mirrored, "halves_mirrored", "halves_mirrored", defArgs s_halves_mirrored, defBody s_halves_mirrored, defScope s_halves_mirrored, fun _ => []⟩
def dx_Want__init : DefX := ⟨a_Want__init, "__init__", "Want.__init__", defArgs s_Want__init, defBody s_Want__init, defScope s_Want__init, fun _ => []⟩
def dx_Want_between : DefX := ⟨a_Want_between, "between", "Want.between", defArgs s_Want_between, defBody s_Want_between, defScope s_Want_between, fun _ => []⟩
def dx_Want_evens : DefX := ⟨a_Want_evens, "evens", "Want.evens", defArgs s_Want_evens, defBody s_Want_evens, defScope s_Want_evens, fun _ => []⟩
def dx_Want_odds : DefX := ⟨a_Want_odds, "odds", "Want.odds", defArgs s_Want_odds, defBody s_Want_odds, defScope s_Want_odds, fun _ => []⟩
def dx_Want_low : DefX := ⟨a_Want_low, "low", "Want.low", defArgs s_Want_low, defBody s_Want_low, defScope s_Want_low, fun _ => []⟩
def dx_Want_high : DefX := ⟨a_Want_high, "high", "Want.high", defArgs s_Want_high, defBody s_Want_high, defScope s_Want_high, fun _ => []⟩
def dx_Want_many : DefX := ⟨a_Want_many, "many", "Want.many", defArgs s_Want_many, defBody s_Want_many, defScope s_Want_many, fun _ => []⟩
def dx_Want_without : DefX := ⟨a_Want_without, "without", "Want.without", defArgs s_Want_without, defBody s_Want_without, defScope s_Want_without, fun _ => []⟩
def dx_Want_within : DefX := ⟨a_Want_within, "within", "Want.within", defArgs s_Want_within, defBody s_Want_within, defScope s_Want_within, fun _ => []⟩
def dx_Want_first : DefX := ⟨a_Want_first, "first", "Want.first", defArgs s_Want_first, defBody s_Want_first, defScope s_Want_first, fun _ => []⟩
def dx_Want_blocks : DefX := ⟨a_Want_blocks, "blocks", "Want.blocks", defArgs s_Want_blocks, defBody s_Want_blocks, defScope s_Want_blocks, fun _ => []⟩
def dx_Want__or : DefX := ⟨a_Want__or, "__or__", "Want.__or__", defArgs s_Want__or, defBody s_Want__or, defScope s_Want__or, fun _ => []⟩
def dx_Want__and : DefX := ⟨a_Want__and, "__and__", "Want.__and__", defArgs s_Want__and, defBody s_Want__and, defScope s_Want__and, fun _ => []⟩
def dx_Want__xor : DefX := ⟨a_Want__xor, "__xor__", "Want.__xor__", defArgs s_Want__xor, defBody s_Want__xor, defScope s_Want__xor, fun _ => []⟩
def dx_Want__add : DefX := ⟨a_Want__add, "__add__", "Want.__add__", defArgs s_Want__add, defBody s_Want__add, defScope s_Want__add, fun _ => []⟩
def dx_Want__rsub : DefX := ⟨a_Want__rsub, "__rsub__", "Want.__rsub__", defArgs s_Want__rsub, defBody s_Want__rsub, defScope s_Want__rsub, fun _ => []⟩
def dx_Want__neg : DefX := ⟨a_Want__neg, "__neg__", "Want.__neg__", defArgs s_Want__neg, defBody s_Want__neg, defScope s_Want__neg, fun _ => []⟩
def dx_Want__contains : DefX := ⟨a_Want__contains, "__contains__", "Want.__contains__", defArgs s_Want__contains, defBody s_Want__contains, defScope s_Want__contains, fun _ => []⟩
def dx_Want__bool : DefX := ⟨a_Want__bool, "__bool__", "Want.__bool__", defArgs s_Want__bool, defBody s_Want__bool, defScope s_Want__bool, fun _ => []⟩
def dx_Want__eq : DefX := ⟨a_Want__eq, "__eq__", "Want.__eq__", defArgs s_Want__eq, defBody s_Want__eq, defScope s_Want__eq, fun _ => []⟩
def dx_law_bag : DefX := ⟨a_law_bag, "_law_bag", "_law_bag", defArgs s_law_bag, defBody s_law_bag, defScope s_law_bag, fun _ => []⟩
def dx_law_take : DefX := ⟨a_law_take, "_law_take", "_law_take", defArgs s_law_take, defBody s_law_take, defScope s_law_take, fun _ => []⟩
def dx_law_runs : DefX := ⟨a_law_runs, "_law_runs", "_law_runs", defArgs s_law_runs, defBody s_law_runs, defScope s_law_runs, fun _ => []⟩
def dx_law_is : DefX := ⟨a_law_is, "_law_is", "_law_is", defArgs s_law_is, defBody s_law_is, defScope s_law_is, fun _ => []⟩
def dx_law_deed : DefX := ⟨a_law_deed, "_law_deed", "_law_deed", defArgs s_law_deed, defBody s_law_deed, defScope s_law_deed, fun _ => []⟩
def dx_law_asked : DefX := ⟨a_law_asked, "_law_asked", "_law_asked", defArgs s_law_asked, defBody s_law_asked, defScope s_law_asked, fun _ => []⟩
def dx_law : DefX := ⟨a_law, "law", "law", defArgs s_law, defBody s_law, defScope s_law, fun _ => []⟩
def fn : List DefX := [dx_is_integer, dx_is_number, dx_merged, dx_common, dx_rest, dx_moved, dx_mirrored, dx_halves_between, dx_stretches, dx_block_halves, dx_check_numbers, dx_halves_of, dx_halves_moved, dx_halves_mirrored, dx_Want__init, dx_Want_between, dx_Want_evens, dx_Want_odds, dx_Want_low, dx_Want_high, dx_Want_many, dx_Want_without, dx_Want_within, dx_Want_first, dx_Want_blocks, dx_Want__or, dx_Want__and, dx_Want__xor, dx_Want__add, dx_Want__rsub, dx_Want__neg, dx_Want__contains, dx_Want__bool, dx_Want__eq, dx_law_bag, dx_law_take, dx_law_runs, dx_law_is, dx_law_deed, dx_law_asked, dx_law]
theorem txt {K : PySem.W.Frag} {h : Heap} {mg : Str → Option Value} (X : K.In h) (G : h.Ns mainGlobals mg) (c : SaysX fs fn K) : Txt K mg where
  n_abs := He.free_ok X G (c.fact 0 (f := (He.Fa.free "abs").ok) rfl)
  n_any := He.free_ok X G (c.fact 1 (f := (He.Fa.free "any").ok) rfl)
  n_bool := He.free_ok X G (c.fact 2 (f := (He.Fa.free "bool").ok) rfl)
  n_enumerate := He.free_ok X G (c.fact 3 (f := (He.Fa.free "enumerate").ok) rfl)
  n_int := He.free_ok X G (c.fact 4 (f := (He.Fa.free "int").ok) rfl)
  n_isinstance := He.free_ok X G (c.fact 5 (f := (He.Fa.free "isinstance").ok) rfl)
  n_len := He.free_ok X G (c.fact 6 (f := (He.Fa.free "len").ok) rfl)
  n_list := He.free_ok X G (c.fact 7 (f := (He.Fa.free "list").ok) rfl)
  n_max := He.free_ok X G (c.fact 8 (f := (He.Fa.free "max").ok) rfl)
  n_min := He.free_ok X G (c.fact 9 (f := (He.Fa.free "min").ok) rfl)
  n_range := He.free_ok X G (c.fact 10 (f := (He.Fa.free "range").ok) rfl)
  n_repr := He.free_ok X G (c.fact 11 (f := (He.Fa.free "repr").ok) rfl)
  n_set := He.free_ok X G (c.fact 12 (f := (He.Fa.free "set").ok) rfl)
  n_sorted := He.free_ok X G (c.fact 13 (f := (He.Fa.free "sorted").ok) rfl)
  n_sum := He.free_ok X G (c.fact 14 (f := (He.Fa.free "sum").ok) rfl)
  n_tuple := He.free_ok X G (c.fact 15 (f := (He.Fa.free "tuple").ok) rfl)
  c_MOST := He.int_ok X G (c.fact 16 (f := (He.Fa.int "MOST" 1000000000).ok) rfl)
  g_is_integer := He.glo_ok X G (c.fact 17 (f := (He.Fa.glo "is_integer").ok) rfl)
  g_is_number := He.glo_ok X G (c.fact 18 (f := (He.Fa.glo "is_number").ok) rfl)
  g_merged := He.glo_ok X G (c.fact 19 (f := (He.Fa.glo "merged").ok) rfl)
  g_common := He.glo_ok X G (c.fact 20 (f := (He.Fa.glo "common").ok) rfl)
  g_rest := He.glo_ok X G (c.fact 21 (f := (He.Fa.glo "rest").ok) rfl)
  g_moved := He.glo_ok X G (c.fact 22 (f := (He.Fa.glo "moved").ok) rfl)
  g_mirrored := He.glo_ok X G (c.fact 23 (f := (He.Fa.glo "mirrored").ok) rfl)
  g_halves_between := He.glo_ok X G (c.fact 24 (f := (He.Fa.glo "halves_between").ok) rfl)
  g_stretches := He.glo_ok X G (c.fact 25 (f := (He.Fa.glo "stretches").ok) rfl)
  g_block_halves := He.glo_ok X G (c.fact 26 (f := (He.Fa.glo "block_halves").ok) rfl)
  g_check_numbers := He.glo_ok X G (c.fact 27 (f := (He.Fa.glo "check_numbers").ok) rfl)
  g_halves_of := He.glo_ok X G (c.fact 28 (f := (He.Fa.glo "halves_of").ok) rfl)
  g_halves_moved := He.glo_ok X G (c.fact 29 (f := (He.Fa.glo "halves_moved").ok) rfl)
  g_halves_mirrored := He.glo_ok X G (c.fact 30 (f := (He.Fa.glo "halves_mirrored").ok) rfl)
  g_law_bag := He.glo_ok X G (c.fact 31 (f := (He.Fa.glo "_law_bag").ok) rfl)
  g_law_take := He.glo_ok X G (c.fact 32 (f := (He.Fa.glo "_law_take").ok) rfl)
  g_law_runs := He.glo_ok X G (c.fact 33 (f := (He.Fa.glo "_law_runs").ok) rfl)
  g_law_is := He.glo_ok X G (c.fact 34 (f := (He.Fa.glo "_law_is").ok) rfl)
  g_law_deed := He.glo_ok X G (c.fact 35 (f := (He.Fa.glo "_law_deed").ok) rfl)
  g_law_asked := He.glo_ok X G (c.fact 36 (f := (He.Fa.glo "_law_asked").ok) rfl)
  g_law := He.glo_ok X G (c.fact 37 (f := (He.Fa.glo "law").ok) rfl)
  g_Want := He.glo_ok X G (c.fact 38 (f := (He.Fa.glo "Want").ok) rfl)
  cl_Want := He.cls_ok (c.fact 39 (f := (He.Fa.cls "Want").ok) rfl)
  no_Want_halves := He.noat_ok (c.fact 40 (f := (He.Fa.noat "Want" "halves").ok) rfl)
  mk_Want := He.mkr_ok (c.fact 41 (f := (He.Fa.mkr "Want").ok) rfl)
  kw_Want__init := kwB_ok (c.fact 42 (f := kwB a_Want__init "halves") rfl)
  cm_Want_between := cmB_ok (c.fact 43 (f := cmB "Want" "between") rfl)
  pr_evens := prB_ok (c.fact 44 (f := prB "Want" "evens") rfl)
  pr_odds := prB_ok (c.fact 45 (f := prB "Want" "odds") rfl)
  pr_low := prB_ok (c.fact 46 (f := prB "Want" "low") rfl)
  pr_high := prB_ok (c.fact 47 (f := prB "Want" "high") rfl)
  pr_many := prB_ok (c.fact 48 (f := prB "Want" "many") rfl)
  me_Want_without := He.meth_ok (c.fact 49 (f := (He.Fa.meth "Want" "without").ok) rfl)
  me_Want_within := He.meth_ok (c.fact 50 (f := (He.Fa.meth "Want" "within").ok) rfl)
  me_Want_first := He.meth_ok (c.fact 51 (f := (He.Fa.meth "Want" "first").ok) rfl)
  me_Want_blocks := He.meth_ok (c.fact 52 (f := (He.Fa.meth "Want" "blocks").ok) rfl)
  dn_Want__or := dnB_ok (c.fact 53 (f := dnB "Want" "__or__") rfl)
  dn_Want__and := dnB_ok (c.fact 54 (f := dnB "Want" "__and__") rfl)
  dn_Want__xor := dnB_ok (c.fact 55 (f := dnB "Want" "__xor__") rfl)
  dn_Want__add := dnB_ok (c.fact 56 (f := dnB "Want" "__add__") rfl)
  dn_Want__rsub := dnB_ok (c.fact 57 (f := dnB "Want" "__rsub__") rfl)
  dn_Want__neg := dnB_ok (c.fact 58 (f := dnB "Want" "__neg__") rfl)
  dn_Want__contains := dnB_ok (c.fact 59 (f := dnB "Want" "__contains__") rfl)
  dn_Want__bool := dnB_ok (c.fact 60 (f := dnB "Want" "__bool__") rfl)
  dn_Want__eq := dnB_ok (c.fact 61 (f := dnB "Want" "__eq__") rfl)
  eq_Want := eqB_ok (c.fact 62 (f := eqB "Want") rfl)
  ow_Want_add := owB_ok (c.fact 63 (f := owB "add" "Want") rfl)
  ow_Want_sub := owB_ok (c.fact 64 (f := owB "sub" "Want") rfl)
  sf_Want := sfB_ok (c.fact 65 (f := sfB "Want") rfl)
  isa := isaB_ok rfl rfl (c.fact 66 (f := isaB clA [0]) rfl)
  f_is_integer := c.def_ 0 (d := dx_is_integer) rfl
  f_is_number := c.def_ 1 (d := dx_is_number) rfl
  f_merged := c.def_ 2 (d := dx_merged) rfl
  f_common := c.def_ 3 (d := dx_common) rfl
  f_rest := c.def_ 4 (d := dx_rest) rfl
  f_moved := c.def_ 5 (d := dx_moved) rfl
  f_mirrored := c.def_ 6 (d := dx_mirrored) rfl
  f_halves_between := c.def_ 7 (d := dx_halves_between) rfl
  f_stretches := c.def_ 8 (d := dx_stretches) rfl
  f_block_halves := c.def_ 9 (d := dx_block_halves) rfl
  f_check_numbers := c.def_ 10 (d := dx_check_numbers) rfl
  f_halves_of := c.def_ 11 (d := dx_halves_of) rfl
  f_halves_moved := c.def_ 12 (d := dx_halves_moved) rfl
  f_halves_mirrored := c.def_ 13 (d := dx_halves_mirrored) rfl
  f_Want__init := c.def_ 14 (d := dx_Want__init) rfl
  f_Want_between := c.def_ 15 (d := dx_Want_between) rfl
  f_Want_evens := c.def_ 16 (d := dx_Want_evens) rfl
  f_Want_odds := c.def_ 17 (d := dx_Want_odds) rfl
  f_Want_low := c.def_ 18 (d := dx_Want_low) rfl
  f_Want_high := c.def_ 19 (d := dx_Want_high) rfl
  f_Want_many := c.def_ 20 (d := dx_Want_many) rfl
  f_Want_without := c.def_ 21 (d := dx_Want_without) rfl
  f_Want_within := c.def_ 22 (d := dx_Want_within) rfl
  f_Want_first := c.def_ 23 (d := dx_Want_first) rfl
  f_Want_blocks := c.def_ 24 (d := dx_Want_blocks) rfl
  f_Want__or := c.def_ 25 (d := dx_Want__or) rfl
  f_Want__and := c.def_ 26 (d := dx_Want__and) rfl
  f_Want__xor := c.def_ 27 (d := dx_Want__xor) rfl
  f_Want__add := c.def_ 28 (d := dx_Want__add) rfl
  f_Want__rsub := c.def_ 29 (d := dx_Want__rsub) rfl
  f_Want__neg := c.def_ 30 (d := dx_Want__neg) rfl
  f_Want__contains := c.def_ 31 (d := dx_Want__contains) rfl
  f_Want__bool := c.def_ 32 (d := dx_Want__bool) rfl
  f_Want__eq := c.def_ 33 (d := dx_Want__eq) rfl
  f_law_bag := c.def_ 34 (d := dx_law_bag) rfl
  f_law_take := c.def_ 35 (d := dx_law_take) rfl
  f_law_runs := c.def_ 36 (d := dx_law_runs) rfl
  f_law_is := c.def_ 37 (d := dx_law_is) rfl
  f_law_deed := c.def_ 38 (d := dx_law_deed) rfl
  f_law_asked := c.def_ 39 (d := dx_law_asked) rfl
  f_law := c.def_ 40 (d := dx_law) rfl
theorem nd_Want {K : PySem.W.Frag} : ((cn K).fn 0).Nodup := (by decide : (flA 0).Nodup)
theorem nm_Want_without {K : PySem.W.Frag} : ("without" : Str) ∉ (cn K).fn 0 := (by decide : ("without" : Str) ∉ flA 0)
theorem nm_Want_within {K : PySem.W.Frag} : ("within" : Str) ∉ (cn K).fn 0 := (by decide : ("within" : Str) ∉ flA 0)
theorem nm_Want_first {K : PySem.W.Frag} : ("first" : Str) ∉ (cn K).fn 0 := (by decide : ("first" : Str) ∉ flA 0)
theorem nm_Want_blocks {K : PySem.W.Frag} : ("blocks" : Str) ∉ (cn K).fn 0 := (by decide : ("blocks" : Str) ∉ flA 0)
section
variable {P : Program} {w : World} {K : PySem.W.Frag} {mg : Str → Option Value} {base : Heap}
theorem sc_is_integer : FnScope ["thing"] ["thing"] (defScope s_is_integer) := ⟨rfl, rfl, rfl, by decide +kernel, rfl, by decide +kernel, by decide +kernel⟩
def b_is_integer : MS := (sRet (mAnd (mIsi [0] (.ty .int) (mVar 0)) (mNot (mIsi [0] (.ty .bool) (mVar 0)))))
def m_is_integer : MF := mDef 1 1 b_is_integer
theorem ar_is_integer : Ar 1 m_is_integer := mDef_ar
theorem ok_is_integer (T : Txt K mg) : ∃ fd, FnG P w K mg base 1 (a_is_integer K) fd ["thing"] (SpD (cn K) 1 m_is_integer) ∧ Binds K fd ["thing"] [] ∧ PySem.W.keepIn K (.ref (a_is_integer K)) = true := by
  obtain ⟨fd, F⟩ := T.f_is_integer
  refine ⟨fd, fn_ok (k := cn K) F sc_is_integer (by decide) fun cdv A outer s H E hr => ?_, F.bindsN fun _ _ _ _ _ _ us hl => match us, hl with | [_], _ => rfl, F.kp⟩
  have tk : Takes (cxOf (L2.CX P w) P w K mg base ["thing"] "is_integer" (defScope s_is_integer) (a_is_integer K) cdv A outer s H E) (fun c d _ H => E c d H) := takes_of rfl rfl rfl rfl
  exact (dss_one (ds_ret (de_and (de_isi (by rfl) T.n_isinstance T.isa rfl rfl (dv 0) (pe_bltn (v := .ty "int") (by rfl) T.n_int (by decide +kernel) rfl)) (de_one (de_not (de_isi (by rfl) T.n_isinstance T.isa rfl rfl (dv 0) (pe_bltn (v := .ty "bool") (by rfl) T.n_bool (by decide +kernel) rfl)))))))
theorem sc_is_number : FnScope ["thing"] ["thing"] (defScope s_is_number) := ⟨rfl, rfl, rfl, by decide +kernel, rfl, by decide +kernel, by decide +kernel⟩
def b_is_number : MS := (sRet (mAnd (mCall m_is_integer [] (mCons (mVar 0) mNil)) (mChain oLe oLe (mUn oNeg (mC (.int 1000000000))) (mVar 0) (mC (.int 1000000000)))))
def m_is_number : MF := mDef 1 1 b_is_number
theorem e_is_number (x0 : D) (C : Store) : m_is_number [x0] C = finS C.length (b_is_number ⟨C.length, [some x0]⟩ C) := mDef_e rfl rfl
theorem ar_is_number : Ar 1 m_is_number := mDef_ar
theorem ok_is_number (T : Txt K mg) : ∃ fd, FnG P w K mg base 2 (a_is_number K) fd ["thing"] (SpD (cn K) 1 m_is_number) ∧ Binds K fd ["thing"] [] ∧ PySem.W.keepIn K (.ref (a_is_number K)) = true := by
  obtain ⟨fd_is_integer, F_is_integer, B_is_integer, kp_is_integer⟩ := ok_is_integer (P := P) (w := w) (base := base) T
  obtain ⟨t_MOST, h_MOST⟩ := T.c_MOST
  obtain ⟨fd, F⟩ := T.f_is_number
  refine ⟨fd, fn_ok (k := cn K) F sc_is_number (by decide) fun cdv A outer s H E hr => ?_, F.bindsN fun _ _ _ _ _ _ us hl => match us, hl with | [_], _ => rfl, F.kp⟩
  have tk : Takes (cxOf (L2.CX P w) P w K mg base ["thing"] "is_number" (defScope s_is_number) (a_is_number K) cdv A outer s H E) (fun c d _ H => E c d H) := takes_of rfl rfl rfl rfl
  exact (dss_one (ds_ret (de_and (de_call tk F_is_integer ar_is_integer (hr.mono (by decide)) (by rfl) T.g_is_integer kp_is_integer B_is_integer .nil (fun _ _ _ => .nil) (da_cons (dv 0) da_nil)) (de_one (de_chain op_le d_le op_le d_le (de_un un_neg d_neg (de_glob (fun _ _ _ => .int _) (by rfl) h_MOST ⟨_, rfl⟩)) (dv 0) (de_glob (fun _ _ _ => .int _) (by rfl) h_MOST ⟨_, rfl⟩))))))
theorem sc_merged : FnScope ["runs", "found", "low", "high"] ["runs"] (defScope s_merged) := ⟨rfl, rfl, rfl, by decide +kernel, rfl, by decide +kernel, by decide +kernel⟩
def b_merged_0 : MS := (sAsg (mAp (oLst true) mNil) (gN 1))
def b_merged_1b_0 : MS := (sIf (tAndM (mTst (mOp (oEqA true) (mVar 1) (mAp (oLst false) mNil))) (mTst (mOp oLe (mVar 2) (mOp oAdd (mOp oIx (mOp oIx (mVar 1) (mUn oNeg (mC (.int 1)))) (mC (.int 1))) (mC (.int 2)))))) (sSetL (mAp oTup (mCons (mOp oIx (mOp oIx (mVar 1) (mUn oNeg (mC (.int 1)))) (mC (.int 0))) (mCons (mAp oMax2 (mCons (mOp oIx (mOp oIx (mVar 1) (mUn oNeg (mC (.int 1)))) (mC (.int 1))) (mCons (mVar 3) mNil))) mNil))) (mVar 1) (mUn oNeg (mC (.int 1)))) (sDrop (mAppend (mVar 1) (mAp oTup (mCons (mVar 2) (mCons (mVar 3) mNil))))))
def b_merged_1 : MS := (sFor (mSeq (mAp (oSortQ false) (mCons (mVar 0) mNil))) (Tgt.tp [2, 3]).M b_merged_1b_0)
def b_merged_2 : MS := (sRet (mAp oTupOf (mCons (mVar 1) mNil)))
def b_merged : MS := (sSeq b_merged_0 (sSeq b_merged_1 b_merged_2))
def m_merged : MF := mDef 1 4 b_merged
theorem e_merged (x0 : D) (C : Store) : m_merged [x0] C = finS C.length (b_merged ⟨C.length, [some x0, none, none, none]⟩ C) := mDef_e rfl rfl
theorem ar_merged : Ar 1 m_merged := mDef_ar
theorem ok_merged (T : Txt K mg) : ∃ fd, FnG P w K mg base 1 (a_merged K) fd ["runs"] (SpD (cn K) 1 m_merged) ∧ Binds K fd ["runs"] [] ∧ PySem.W.keepIn K (.ref (a_merged K)) = true := by
  obtain ⟨fd, F⟩ := T.f_merged
  refine ⟨fd, fn_ok (k := cn K) F sc_merged (by decide) fun cdv A outer s H E hr => ?_, F.bindsN fun _ _ _ _ _ _ us hl => match us, hl with | [_], _ => rfl, F.kp⟩
  have tk : Takes (cxOf (L2.CX P w) P w K mg base ["runs", "found", "low", "high"] "merged" (defScope s_merged) (a_merged K) cdv A outer s H E) (fun c d _ H => E c d H) := takes_of rfl rfl rfl rfl
  exact (dss_cons (ds_set (i := 1) sc_merged.nd rfl (Or.inl rfl) (de_lst true da_nil))
  (dss_cons (ds_for (passes_of rfl) rfl (di_seq rfl (de_callB ((cr_sortA hr.u200).or (cr_sortP hr.u200)) d_sortQ (by rfl) T.n_sorted (by decide +kernel) (da_cons (dv 0) da_nil))) (tg_tp [2, 3] rfl rfl (pgs_cons (pg_name (i := 2) sc_merged.nd rfl (Or.inl rfl)) (pgs_cons (pg_name (i := 3) sc_merged.nd rfl (Or.inl rfl)) pgs_nil))) (dss_one (ds_if (PW.pt (dw_and (dt_cmp (op_ne.or (op_neD hr.room.units)) d_neA (dv 1) (de_lst false da_nil) (nomark _)) (dw_and1 (dt_cmp op_le d_le (dv 2) (de_op op_add d_add (de_ix ix_seq d_ix (de_ix ix_seq d_ix (dv 1) (de_un un_neg d_neg de_int)) de_int) de_int) (nomark _))))) (dss_one (ds_setL (de_tup (da_cons (de_ix ix_seq d_ix (de_ix ix_seq d_ix (dv 1) (de_un un_neg d_neg de_int)) de_int) (da_cons (de_callB (call_max2 rfl) d_max2 (by rfl) T.n_max (by decide +kernel) (da_cons (de_ix ix_seq d_ix (de_ix ix_seq d_ix (dv 1) (de_un un_neg d_neg de_int)) de_int) (da_cons (dv 3) da_nil))) da_nil))) (pg_sub (dv 1) (de_un un_neg d_neg de_int) set_list))) (dss_one (ds_expr (de_append rfl (dv 1) (de_tup (da_cons (dv 2) (da_cons (dv 3) da_nil)))))))))
  (dss_one (ds_ret (de_callTy call_tuple_of d_tupOf (by rfl) T.n_tuple (by decide +kernel) (da_cons (dv 1) da_nil))))))
theorem sc_common : FnScope ["one", "other", "pairs", "a", "b", "c", "d", "run"] ["one", "other"] (defScope s_common) := ⟨rfl, rfl, rfl, by decide +kernel, rfl, by decide +kernel, by decide +kernel⟩
def b_common_0 : MS := (sAsg (mLc2 false (mSeq (mVar 0)) (Tgt.tp [3, 4]).M tYesM (mSeq (mVar 1)) (Tgt.tp [5, 6]).M tYesM (mAp oTup (mCons (mAp oMax2 (mCons (mVar 3) (mCons (mVar 5) mNil))) (mCons (mAp oMin2 (mCons (mVar 4) (mCons (mVar 6) mNil))) mNil))) [3, 4, 5, 6] [5, 6]) (gN 2))
def b_common_1 : MS := (sRet (mAp oTupOf (mCons (mAp (oSortQ false) (mCons (mLc false (mSeq (mVar 2)) (Tgt.nm 7).M (mTst (mOp oLe (mOp oIx (mVar 7) (mC (.int 0))) (mOp oIx (mVar 7) (mC (.int 1))))) (mVar 7) [7]) mNil)) mNil)))
def b_common : MS := (sSeq b_common_0 b_common_1)
def m_common : MF := mDef 2 8 b_common
theorem e_common (x0 x1 : D) (C : Store) : m_common [x0, x1] C = finS C.length (b_common ⟨C.length, [some x0, some x1, none, none, none, none, none, none]⟩ C) := mDef_e rfl rfl
theorem ar_common : Ar 2 m_common := mDef_ar
theorem ok_common (T : Txt K mg) : ∃ fd, FnG P w K mg base 1 (a_common K) fd ["one", "other"] (SpD (cn K) 2 m_common) ∧ Binds K fd ["one", "other"] [] ∧ PySem.W.keepIn K (.ref (a_common K)) = true := by
  obtain ⟨fd, F⟩ := T.f_common
  refine ⟨fd, fn_ok (k := cn K) F sc_common (by decide) fun cdv A outer s H E hr => ?_, F.bindsN fun _ _ _ _ _ _ us hl => match us, hl with | [_, _], _ => rfl, F.kp⟩
  have tk : Takes (cxOf (L2.CX P w) P w K mg base ["one", "other", "pairs", "a", "b", "c", "d", "run"] "common" (defScope s_common) (a_common K) cdv A outer s H E) (fun c d _ H => E c d H) := takes_of rfl rfl rfl rfl
  exact (dss_cons (ds_setLc2 (i := 2) (own := [("a", 3), ("b", 4), ("c", 5), ("d", 6)]) (vs1 := [5, 6]) false rfl rfl sc_common.nd rfl rfl (sw_true rfl rfl rfl (by decide +kernel)) (di_seq rfl (dv 0)) (blkOk_by (own := [("a", 3), ("b", 4), ("c", 5), ("d", 6)]) rfl) (by decide) (by decide) (by decide) (fun _ _ _ _ _ => (tg_tp [3, 4] rfl rfl (pgs_cons (pg_name (i := 3) sc_common.nd rfl (by first | exact Or.inl rfl | exact Or.inr rfl)) (pgs_cons (pg_name (i := 4) sc_common.nd rfl (by first | exact Or.inl rfl | exact Or.inr rfl)) pgs_nil)))) (fun _ _ _ _ _ => dts_nil) (fun _ _ _ _ _ => (di_seq rfl (dv 1))) (fun _ _ _ _ _ => (tg_tp [5, 6] rfl rfl (pgs_cons (pg_name (i := 5) sc_common.nd rfl (by first | exact Or.inl rfl | exact Or.inr rfl)) (pgs_cons (pg_name (i := 6) sc_common.nd rfl (by first | exact Or.inl rfl | exact Or.inr rfl)) pgs_nil)))) (fun _ _ _ _ _ => dts_nil) (fun _ _ _ _ _ => (de_tup (da_cons (de_callB (call_max2 rfl) d_max2 (by rfl) T.n_max (by decide +kernel) (da_cons (dv 3) (da_cons (dv 5) da_nil))) (da_cons (de_callB (call_min2 rfl) d_min2 (by rfl) T.n_min (by decide +kernel) (da_cons (dv 4) (da_cons (dv 6) da_nil))) da_nil)))))
  (dss_one (ds_ret (de_callTy call_tuple_of d_tupOf (by rfl) T.n_tuple (by decide +kernel) (da_cons (de_callB ((cr_sortA hr.u200).or (cr_sortP hr.u200)) d_sortQ (by rfl) T.n_sorted (by decide +kernel) (da_cons (de_lc (own := [("run", 7)]) false rfl rfl sc_common.nd (di_seq rfl (dv 2)) (blkOk_by (own := [("run", 7)]) rfl) (by decide) (fun _ _ _ _ _ => (tg_nm (i := 7) sc_common.nd rfl (by first | exact Or.inl rfl | exact Or.inr rfl))) (fun _ _ _ _ _ => (pts_one (dt_cmp op_le d_le (de_ix ix_seq d_ix (dv 7) de_int) (de_ix ix_seq d_ix (dv 7) de_int) (nomark _)))) (fun _ _ _ _ _ => (dv 7))) da_nil)) da_nil)))))
theorem sc_rest : FnScope ["one", "other", "found", "low", "high", "kept", "a", "b"] ["one", "other"] (defScope s_rest) := ⟨rfl, rfl, rfl, by decide +kernel, rfl, by decide +kernel, by decide +kernel⟩
def b_rest_0 : MS := (sAsg (mAp (oListOf false) (mCons (mVar 0) mNil)) (gN 2))
def b_rest_1b_0 : MS := (sAsg (mAp (oLst true) mNil) (gN 5))
def b_rest_1b_1b_0 : MS := (sIf (mTst (mOp oLt (mVar 6) (mVar 3))) (sDrop (mAppend (mVar 5) (mAp oTup (mCons (mVar 6) (mCons (mAp oMin2 (mCons (mVar 7) (mCons (mOp oSub (mVar 3) (mC (.int 2))) mNil))) mNil))))) sNext)
def b_rest_1b_1b_1 : MS := (sIf (mTst (mOp oGt (mVar 7) (mVar 4))) (sDrop (mAppend (mVar 5) (mAp oTup (mCons (mAp oMax2 (mCons (mVar 6) (mCons (mOp oAdd (mVar 4) (mC (.int 2))) mNil))) (mCons (mVar 7) mNil))))) sNext)
def b_rest_1b_1 : MS := (sFor (mSeq (mVar 2)) (Tgt.tp [6, 7]).M (sSeq b_rest_1b_1b_0 b_rest_1b_1b_1))
def b_rest_1b_2 : MS := (sAsg (mVar 5) (gN 2))
def b_rest_1 : MS := (sFor (mSeq (mVar 1)) (Tgt.tp [3, 4]).M (sSeq b_rest_1b_0 (sSeq b_rest_1b_1 b_rest_1b_2)))
def b_rest_2 : MS := (sRet (mAp oTupOf (mCons (mVar 2) mNil)))
def b_rest : MS := (sSeq b_rest_0 (sSeq b_rest_1 b_rest_2))
def m_rest : MF := mDef 2 8 b_rest
theorem e_rest (x0 x1 : D) (C : Store) : m_rest [x0, x1] C = finS C.length (b_rest ⟨C.length, [some x0, some x1, none, none, none, none, none, none]⟩ C) := mDef_e rfl rfl
theorem ar_rest : Ar 2 m_rest := mDef_ar
theorem ok_rest (T : Txt K mg) : ∃ fd, FnG P w K mg base 1 (a_rest K) fd ["one", "other"] (SpD (cn K) 2 m_rest) ∧ Binds K fd ["one", "other"] [] ∧ PySem.W.keepIn K (.ref (a_rest K)) = true := by
  obtain ⟨fd, F⟩ := T.f_rest
  refine ⟨fd, fn_ok (k := cn K) F sc_rest (by decide) fun cdv A outer s H E hr => ?_, F.bindsN fun _ _ _ _ _ _ us hl => match us, hl with | [_, _], _ => rfl, F.kp⟩
  have tk : Takes (cxOf (L2.CX P w) P w K mg base ["one", "other", "found", "low", "high", "kept", "a", "b"] "rest" (defScope s_rest) (a_rest K) cdv A outer s H E) (fun c d _ H => E c d H) := takes_of rfl rfl rfl rfl
  exact (dss_cons (ds_set (i := 2) sc_rest.nd rfl (Or.inl rfl) (de_callTy call_list_of (d_listOf false) (by rfl) T.n_list (by decide +kernel) (da_cons (dv 0) da_nil)))
  (dss_cons (ds_for (passes_of rfl) rfl (di_seq rfl (dv 1)) (tg_tp [3, 4] rfl rfl (pgs_cons (pg_name (i := 3) sc_rest.nd rfl (Or.inl rfl)) (pgs_cons (pg_name (i := 4) sc_rest.nd rfl (Or.inl rfl)) pgs_nil))) (dss_cons (ds_set (i := 5) sc_rest.nd rfl (Or.inl rfl) (de_lst true da_nil))
  (dss_cons (ds_for (passes_of rfl) rfl (di_seq rfl (dv 2)) (tg_tp [6, 7] rfl rfl (pgs_cons (pg_name (i := 6) sc_rest.nd rfl (Or.inl rfl)) (pgs_cons (pg_name (i := 7) sc_rest.nd rfl (Or.inl rfl)) pgs_nil))) (dss_cons (ds_if (dt_cmp op_lt d_lt (dv 6) (dv 3) (nomark _)) (dss_one (ds_expr (de_append rfl (dv 5) (de_tup (da_cons (dv 6) (da_cons (de_callB (call_min2 rfl) d_min2 (by rfl) T.n_min (by decide +kernel) (da_cons (dv 7) (da_cons (de_op op_sub d_sub (dv 3) de_int) da_nil))) da_nil)))))) dss_nil)
  (dss_one (ds_if (dt_cmp op_gt d_gt (dv 7) (dv 4) (nomark _)) (dss_one (ds_expr (de_append rfl (dv 5) (de_tup (da_cons (de_callB (call_max2 rfl) d_max2 (by rfl) T.n_max (by decide +kernel) (da_cons (dv 6) (da_cons (de_op op_add d_add (dv 4) de_int) da_nil))) (da_cons (dv 7) da_nil)))))) dss_nil))))
  (dss_one (ds_set (i := 2) sc_rest.nd rfl (Or.inl rfl) (dv 5))))))
  (dss_one (ds_ret (de_callTy call_tuple_of d_tupOf (by rfl) T.n_tuple (by decide +kernel) (da_cons (dv 2) da_nil))))))
theorem sc_moved : FnScope ["runs", "step", "low", "high"] ["runs", "step"] (defScope s_moved) := ⟨rfl, rfl, rfl, by decide +kernel, rfl, by decide +kernel, by decide +kernel⟩
def b_moved : MS := (sRet (mAp oTupOf (mCons (mLc false (mSeq (mVar 0)) (Tgt.tp [2, 3]).M tYesM (mAp oTup (mCons (mOp oAdd (mVar 2) (mVar 1)) (mCons (mOp oAdd (mVar 3) (mVar 1)) mNil))) [2, 3]) mNil)))
def m_moved : MF := mDef 2 4 b_moved
theorem e_moved (x0 x1 : D) (C : Store) : m_moved [x0, x1] C = finS C.length (b_moved ⟨C.length, [some x0, some x1, none, none]⟩ C) := mDef_e rfl rfl
theorem ar_moved : Ar 2 m_moved := mDef_ar
theorem ok_moved (T : Txt K mg) : ∃ fd, FnG P w K mg base 1 (a_moved K) fd ["runs", "step"] (SpD (cn K) 2 m_moved) ∧ Binds K fd ["runs", "step"] [] ∧ PySem.W.keepIn K (.ref (a_moved K)) = true := by
  obtain ⟨fd, F⟩ := T.f_moved
  refine ⟨fd, fn_ok (k := cn K) F sc_moved (by decide) fun cdv A outer s H E hr => ?_, F.bindsN fun _ _ _ _ _ _ us hl => match us, hl with | [_, _], _ => rfl, F.kp⟩
  have tk : Takes (cxOf (L2.CX P w) P w K mg base ["runs", "step", "low", "high"] "moved" (defScope s_moved) (a_moved K) cdv A outer s H E) (fun c d _ H => E c d H) := takes_of rfl rfl rfl rfl
  exact (dss_one (ds_ret (de_callTy call_tuple_of d_tupOf (by rfl) T.n_tuple (by decide +kernel) (da_cons (de_lc (own := [("low", 2), ("high", 3)]) false rfl rfl sc_moved.nd (di_seq rfl (dv 0)) (blkOk_by (own := [("low", 2), ("high", 3)]) rfl) (by decide) (fun _ _ _ _ _ => (tg_tp [2, 3] rfl rfl (pgs_cons (pg_name (i := 2) sc_moved.nd rfl (by first | exact Or.inl rfl | exact Or.inr rfl)) (pgs_cons (pg_name (i := 3) sc_moved.nd rfl (by first | exact Or.inl rfl | exact Or.inr rfl)) pgs_nil)))) (fun _ _ _ _ _ => dts_nil) (fun _ _ _ _ _ => (de_tup (da_cons (de_op op_add d_add (dv 2) (dv 1)) (da_cons (de_op op_add d_add (dv 3) (dv 1)) da_nil))))) da_nil))))
theorem sc_mirrored : FnScope ["runs", "middle", "low", "high"] ["runs", "middle"] (defScope s_mirrored) := ⟨rfl, rfl, rfl, by decide +kernel, rfl, by decide +kernel, by decide +kernel⟩
def b_mirrored : MS := (sRet (mAp oTupOf (mCons (mLc false (mSeq (mRevT (mVar 0))) (Tgt.tp [2, 3]).M tYesM (mAp oTup (mCons (mOp oSub (mVar 1) (mVar 3)) (mCons (mOp oSub (mVar 1) (mVar 2)) mNil))) [2, 3]) mNil)))
def m_mirrored : MF := mDef 2 4 b_mirrored
theorem e_mirrored (x0 x1 : D) (C : Store) : m_mirrored [x0, x1] C = finS C.length (b_mirrored ⟨C.length, [some x0, some x1, none, none]⟩ C) := mDef_e rfl rfl
theorem ar_mirrored : Ar 2 m_mirrored := mDef_ar
theorem ok_mirrored (T : Txt K mg) : ∃ fd, FnG P w K mg base 1 (a_mirrored K) fd ["runs", "middle"] (SpD (cn K) 2 m_mirrored) ∧ Binds K fd ["runs", "middle"] [] ∧ PySem.W.keepIn K (.ref (a_mirrored K)) = true := by
  obtain ⟨fd, F⟩ := T.f_mirrored
  refine ⟨fd, fn_ok (k := cn K) F sc_mirrored (by decide) fun cdv A outer s H E hr => ?_, F.bindsN fun _ _ _ _ _ _ us hl => match us, hl with | [_, _], _ => rfl, F.kp⟩
  have tk : Takes (cxOf (L2.CX P w) P w K mg base ["runs", "middle", "low", "high"] "mirrored" (defScope s_mirrored) (a_mirrored K) cdv A outer s H E) (fun c d _ H => E c d H) := takes_of rfl rfl rfl rfl
  exact (dss_one (ds_ret (de_callTy call_tuple_of d_tupOf (by rfl) T.n_tuple (by decide +kernel) (da_cons (de_lc (own := [("low", 2), ("high", 3)]) false rfl rfl sc_mirrored.nd (di_seq rfl (de_revT rfl (dv 0))) (blkOk_by (own := [("low", 2), ("high", 3)]) rfl) (by decide) (fun _ _ _ _ _ => (tg_tp [2, 3] rfl rfl (pgs_cons (pg_name (i := 2) sc_mirrored.nd rfl (by first | exact Or.inl rfl | exact Or.inr rfl)) (pgs_cons (pg_name (i := 3) sc_mirrored.nd rfl (by first | exact Or.inl rfl | exact Or.inr rfl)) pgs_nil)))) (fun _ _ _ _ _ => dts_nil) (fun _ _ _ _ _ => (de_tup (da_cons (de_op op_sub d_sub (dv 1) (dv 3)) (da_cons (de_op op_sub d_sub (dv 1) (dv 2)) da_nil))))) da_nil))))
theorem sc_halves_between : FnScope ["low", "high", "found", "parity", "first", "last"] ["low", "high"] (defScope s_halves_between) := ⟨rfl, rfl, rfl, by decide +kernel, rfl, by decide +kernel, by decide +kernel⟩
def b_halves_between_0 : MS := (sAsg (mAp (oLst true) mNil) (gN 2))
def b_halves_between_1b_0 : MS := (sPar [4, 5] (mCons (mOp oAdd (mVar 0) (mOp oMod (mOp oAdd (mVar 0) (mVar 3)) (mC (.int 2)))) (mCons (mOp oSub (mVar 1) (mOp oMod (mOp oAdd (mVar 1) (mVar 3)) (mC (.int 2)))) mNil)))
def b_halves_between_1b_1 : MS := (sDrop (mAppend (mVar 2) (mIf (mTst (mOp oLe (mVar 4) (mVar 5))) (mAp oTup (mCons (mAp oTup (mCons (mVar 4) (mCons (mVar 5) mNil))) mNil)) (mAp oTup mNil))))
def b_halves_between_1 : MS := (sFor (mSeq (mAp oTup (mCons (mC (.int 0)) (mCons (mC (.int 1)) mNil)))) (Tgt.nm 3).M (sSeq b_halves_between_1b_0 b_halves_between_1b_1))
def b_halves_between_2 : MS := (sRet (mAp oTup (mCons (mOp oIx (mVar 2) (mC (.int 0))) (mCons (mOp oIx (mVar 2) (mC (.int 1))) mNil))))
def b_halves_between : MS := (sSeq b_halves_between_0 (sSeq b_halves_between_1 b_halves_between_2))
def m_halves_between : MF := mDef 2 6 b_halves_between
theorem e_halves_between (x0 x1 : D) (C : Store) : m_halves_between [x0, x1] C = finS C.length (b_halves_between ⟨C.length, [some x0, some x1, none, none, none, none]⟩ C) := mDef_e rfl rfl
theorem ar_halves_between : Ar 2 m_halves_between := mDef_ar
theorem ok_halves_between (T : Txt K mg) : ∃ fd, FnG P w K mg base 1 (a_halves_between K) fd ["low", "high"] (SpD (cn K) 2 m_halves_between) ∧ Binds K fd ["low", "high"] [] ∧ PySem.W.keepIn K (.ref (a_halves_between K)) = true := by
  obtain ⟨fd, F⟩ := T.f_halves_between
  refine ⟨fd, fn_ok (k := cn K) F sc_halves_between (by decide) fun cdv A outer s H E hr => ?_, F.bindsN fun _ _ _ _ _ _ us hl => match us, hl with | [_, _], _ => rfl, F.kp⟩
  have tk : Takes (cxOf (L2.CX P w) P w K mg base ["low", "high", "found", "parity", "first", "last"] "halves_between" (defScope s_halves_between) (a_halves_between K) cdv A outer s H E) (fun c d _ H => E c d H) := takes_of rfl rfl rfl rfl
  exact (dss_cons (ds_set (i := 2) sc_halves_between.nd rfl (Or.inl rfl) (de_lst true da_nil))
  (dss_cons (ds_for (passes_of rfl) rfl (di_seq rfl (de_tup (da_cons de_int (da_cons de_int da_nil)))) (tg_nm (i := 3) sc_halves_between.nd rfl (Or.inl rfl)) (dss_cons (ds_par (i := 4) (j := 5) rfl sc_halves_between.nd rfl rfl (by decide) rfl rfl (da_cons (de_op op_add d_add (dv 0) (de_op op_mod d_mod (de_op op_add d_add (dv 0) (dv 3)) de_int)) (da_cons (de_op op_sub d_sub (dv 1) (de_op op_mod d_mod (de_op op_add d_add (dv 1) (dv 3)) de_int)) da_nil)))
  (dss_one (ds_expr (de_append rfl (dv 2) (de_if (dt_cmp op_le d_le (dv 4) (dv 5) (nomark _)) (de_tup (da_cons (de_tup (da_cons (dv 4) (da_cons (dv 5) da_nil))) da_nil)) (de_tup da_nil)))))))
  (dss_one (ds_ret (de_tup (da_cons (de_ix ix_seq d_ix (dv 2) de_int) (da_cons (de_ix ix_seq d_ix (dv 2) de_int) da_nil)))))))
theorem sc_stretches : FnScope ["evens", "odds", "links", "found", "low", "high"] ["evens", "odds"] (defScope s_stretches) := ⟨rfl, rfl, rfl, by decide +kernel, rfl, by decide +kernel, by decide +kernel⟩
def b_stretches_0 : MS := (sAsg (mOp (oCat false) (mAp (oListOf false) (mCons (mCall m_common [] (mCons (mVar 0) (mCons (mCall m_moved [] (mCons (mVar 1) (mCons (mUn oNeg (mC (.int 1))) mNil))) mNil))) mNil)) (mAp (oListOf false) (mCons (mCall m_common [] (mCons (mVar 1) (mCons (mCall m_moved [] (mCons (mVar 0) (mCons (mUn oNeg (mC (.int 1))) mNil))) mNil))) mNil))) (gN 2))
def b_stretches_1 : MS := (sAsg (mAp (oLst true) mNil) (gN 3))
def b_stretches_2b_0 : MS := (sIf (tAndM (mTst (mOp (oEqA true) (mVar 3) (mAp (oLst false) mNil))) (mTst (mOp oLe (mVar 4) (mOp oIx (mOp oIx (mVar 3) (mUn oNeg (mC (.int 1)))) (mC (.int 1)))))) (sSetL (mAp oTup (mCons (mOp oIx (mOp oIx (mVar 3) (mUn oNeg (mC (.int 1)))) (mC (.int 0))) (mCons (mAp oMax2 (mCons (mOp oIx (mOp oIx (mVar 3) (mUn oNeg (mC (.int 1)))) (mC (.int 1))) (mCons (mOp oAdd (mVar 5) (mC (.int 1))) mNil))) mNil))) (mVar 3) (mUn oNeg (mC (.int 1)))) (sDrop (mAppend (mVar 3) (mAp oTup (mCons (mVar 4) (mCons (mOp oAdd (mVar 5) (mC (.int 1))) mNil))))))
def b_stretches_2 : MS := (sFor (mSeq (mAp (oSortQ false) (mCons (mVar 2) mNil))) (Tgt.tp [4, 5]).M b_stretches_2b_0)
def b_stretches_3 : MS := (sRet (mVar 3))
def b_stretches : MS := (sSeq b_stretches_0 (sSeq b_stretches_1 (sSeq b_stretches_2 b_stretches_3)))
def m_stretches : MF := mDef 2 6 b_stretches
theorem e_stretches (x0 x1 : D) (C : Store) : m_stretches [x0, x1] C = finS C.length (b_stretches ⟨C.length, [some x0, some x1, none, none, none, none]⟩ C) := mDef_e rfl rfl
theorem ar_stretches : Ar 2 m_stretches := mDef_ar
theorem ok_stretches (T : Txt K mg) : ∃ fd, FnG P w K mg base 2 (a_stretches K) fd ["evens", "odds"] (SpD (cn K) 2 m_stretches) ∧ Binds K fd ["evens", "odds"] [] ∧ PySem.W.keepIn K (.ref (a_stretches K)) = true := by
  obtain ⟨fd_common, F_common, B_common, kp_common⟩ := ok_common (P := P) (w := w) (base := base) T
  obtain ⟨fd_moved, F_moved, B_moved, kp_moved⟩ := ok_moved (P := P) (w := w) (base := base) T
  obtain ⟨fd, F⟩ := T.f_stretches
  refine ⟨fd, fn_ok (k := cn K) F sc_stretches (by decide) fun cdv A outer s H E hr => ?_, F.bindsN fun _ _ _ _ _ _ us hl => match us, hl with | [_, _], _ => rfl, F.kp⟩
  have tk : Takes (cxOf (L2.CX P w) P w K mg base ["evens", "odds", "links", "found", "low", "high"] "stretches" (defScope s_stretches) (a_stretches K) cdv A outer s H E) (fun c d _ H => E c d H) := takes_of rfl rfl rfl rfl
  exact (dss_cons (ds_set (i := 2) sc_stretches.nd rfl (Or.inl rfl) (de_op op_cat (d_cat false) (de_callTy call_list_of (d_listOf false) (by rfl) T.n_list (by decide +kernel) (da_cons (de_call tk F_common ar_common (hr.mono (by decide)) (by rfl) T.g_common kp_common B_common .nil (fun _ _ _ => .nil) (da_cons (dv 0) (da_cons (de_call tk F_moved ar_moved (hr.mono (by decide)) (by rfl) T.g_moved kp_moved B_moved .nil (fun _ _ _ => .nil) (da_cons (dv 1) (da_cons (de_un un_neg d_neg de_int) da_nil))) da_nil))) da_nil)) (de_callTy call_list_of (d_listOf false) (by rfl) T.n_list (by decide +kernel) (da_cons (de_call tk F_common ar_common (hr.mono (by decide)) (by rfl) T.g_common kp_common B_common .nil (fun _ _ _ => .nil) (da_cons (dv 1) (da_cons (de_call tk F_moved ar_moved (hr.mono (by decide)) (by rfl) T.g_moved kp_moved B_moved .nil (fun _ _ _ => .nil) (da_cons (dv 0) (da_cons (de_un un_neg d_neg de_int) da_nil))) da_nil))) da_nil))))
  (dss_cons (ds_set (i := 3) sc_stretches.nd rfl (Or.inl rfl) (de_lst true da_nil))
  (dss_cons (ds_for (passes_of rfl) rfl (di_seq rfl (de_callB ((cr_sortA hr.u200).or (cr_sortP hr.u200)) d_sortQ (by rfl) T.n_sorted (by decide +kernel) (da_cons (dv 2) da_nil))) (tg_tp [4, 5] rfl rfl (pgs_cons (pg_name (i := 4) sc_stretches.nd rfl (Or.inl rfl)) (pgs_cons (pg_name (i := 5) sc_stretches.nd rfl (Or.inl rfl)) pgs_nil))) (dss_one (ds_if (PW.pt (dw_and (dt_cmp (op_ne.or (op_neD hr.room.units)) d_neA (dv 3) (de_lst false da_nil) (nomark _)) (dw_and1 (dt_cmp op_le d_le (dv 4) (de_ix ix_seq d_ix (de_ix ix_seq d_ix (dv 3) (de_un un_neg d_neg de_int)) de_int) (nomark _))))) (dss_one (ds_setL (de_tup (da_cons (de_ix ix_seq d_ix (de_ix ix_seq d_ix (dv 3) (de_un un_neg d_neg de_int)) de_int) (da_cons (de_callB (call_max2 rfl) d_max2 (by rfl) T.n_max (by decide +kernel) (da_cons (de_ix ix_seq d_ix (de_ix ix_seq d_ix (dv 3) (de_un un_neg d_neg de_int)) de_int) (da_cons (de_op op_add d_add (dv 5) de_int) da_nil))) da_nil))) (pg_sub (dv 3) (de_un un_neg d_neg de_int) set_list))) (dss_one (ds_expr (de_append rfl (dv 3) (de_tup (da_cons (dv 4) (da_cons (de_op op_add d_add (dv 5) de_int) da_nil)))))))))
  (dss_one (ds_ret (dv 3))))))
theorem sc_block_halves : FnScope ["evens", "odds", "found", "left", "first", "last", "halves", "run"] ["evens", "odds"] (defScope s_block_halves) := ⟨rfl, rfl, rfl, by decide +kernel, rfl, by decide +kernel, by decide +kernel⟩
def b_block_halves_0 : MS := (sPar [2, 3] (mCons (mAp (oLst true) mNil) (mCons (mAp (oLst false) (mCons (mVar 0) (mCons (mVar 1) mNil))) mNil)))
def b_block_halves_1b_0 : MS := (sAsg (mCall m_halves_between [] (mCons (mVar 4) (mCons (mVar 5) mNil))) (gN 6))
def b_block_halves_1b_1 : MS := (sDrop (mAppend (mVar 2) (mAp oTup (mCons (mVar 4) (mCons (mVar 6) mNil)))))
def b_block_halves_1b_2 : MS := (sAsg (mAp (oLst false) (mCons (mCall m_rest [] (mCons (mOp oIx (mVar 3) (mC (.int 0))) (mCons (mOp oIx (mVar 6) (mC (.int 0))) mNil))) (mCons (mCall m_rest [] (mCons (mOp oIx (mVar 3) (mC (.int 1))) (mCons (mOp oIx (mVar 6) (mC (.int 1))) mNil))) mNil))) (gN 3))
def b_block_halves_1 : MS := (sFor (mSeq (mCall m_stretches [] (mCons (mVar 0) (mCons (mVar 1) mNil)))) (Tgt.tp [4, 5]).M (sSeq b_block_halves_1b_0 (sSeq b_block_halves_1b_1 b_block_halves_1b_2)))
def b_block_halves_2b_0 : MS := (sDrop (mAppend (mVar 2) (mAp oTup (mCons (mOp oIx (mVar 7) (mC (.int 0))) (mCons (mAp oTup (mCons (mAp oTup (mCons (mVar 7) mNil)) (mCons (mAp oTup mNil) mNil))) mNil)))))
def b_block_halves_2 : MS := (sFor (mSeq (mOp oIx (mVar 3) (mC (.int 0)))) (Tgt.nm 7).M b_block_halves_2b_0)
def b_block_halves_3b_0 : MS := (sDrop (mAppend (mVar 2) (mAp oTup (mCons (mOp oIx (mVar 7) (mC (.int 0))) (mCons (mAp oTup (mCons (mAp oTup mNil) (mCons (mAp oTup (mCons (mVar 7) mNil)) mNil))) mNil)))))
def b_block_halves_3 : MS := (sFor (mSeq (mOp oIx (mVar 3) (mC (.int 1)))) (Tgt.nm 7).M b_block_halves_3b_0)
def b_block_halves_4 : MS := (sRet (mLc false (mSeq (mAp (oSortQ false) (mCons (mVar 2) mNil))) (Tgt.tp [4, 6]).M tYesM (mVar 6) [4, 6]))
def b_block_halves : MS := (sSeq b_block_halves_0 (sSeq b_block_halves_1 (sSeq b_block_halves_2 (sSeq b_block_halves_3 b_block_halves_4))))
def m_block_halves : MF := mDef 2 8 b_block_halves
theorem e_block_halves (x0 x1 : D) (C : Store) : m_block_halves [x0, x1] C = finS C.length (b_block_halves ⟨C.length, [some x0, some x1, none, none, none, none, none, none]⟩ C) := mDef_e rfl rfl
theorem ar_block_halves : Ar 2 m_block_halves := mDef_ar
theorem ok_block_halves (T : Txt K mg) : ∃ fd, FnG P w K mg base 3 (a_block_halves K) fd ["evens", "odds"] (SpD (cn K) 2 m_block_halves) ∧ Binds K fd ["evens", "odds"] [] ∧ PySem.W.keepIn K (.ref (a_block_halves K)) = true := by
  obtain ⟨fd_stretches, F_stretches, B_stretches, kp_stretches⟩ := ok_stretches (P := P) (w := w) (base := base) T
  obtain ⟨fd_halves_between, F_halves_between, B_halves_between, kp_halves_between⟩ := ok_halves_between (P := P) (w := w) (base := base) T
  obtain ⟨fd_rest, F_rest, B_rest, kp_rest⟩ := ok_rest (P := P) (w := w) (base := base) T
  obtain ⟨fd, F⟩ := T.f_block_halves
  refine ⟨fd, fn_ok (k := cn K) F sc_block_halves (by decide) fun cdv A outer s H E hr => ?_, F.bindsN fun _ _ _ _ _ _ us hl => match us, hl with | [_, _], _ => rfl, F.kp⟩
  have tk : Takes (cxOf (L2.CX P w) P w K mg base ["evens", "odds", "found", "left", "first", "last", "halves", "run"] "block_halves" (defScope s_block_halves) (a_block_halves K) cdv A outer s H E) (fun c d _ H => E c d H) := takes_of rfl rfl rfl rfl
  exact (dss_cons (ds_par (i := 2) (j := 3) rfl sc_block_halves.nd rfl rfl (by decide) rfl rfl (da_cons (de_lst true da_nil) (da_cons (de_lst false (da_cons (dv 0) (da_cons (dv 1) da_nil))) da_nil)))
  (dss_cons (ds_for (passes_of rfl) rfl (di_seq rfl (de_call tk F_stretches ar_stretches (hr.mono (by decide)) (by rfl) T.g_stretches kp_stretches B_stretches .nil (fun _ _ _ => .nil) (da_cons (dv 0) (da_cons (dv 1) da_nil)))) (tg_tp [4, 5] rfl rfl (pgs_cons (pg_name (i := 4) sc_block_halves.nd rfl (Or.inl rfl)) (pgs_cons (pg_name (i := 5) sc_block_halves.nd rfl (Or.inl rfl)) pgs_nil))) (dss_cons (ds_set (i := 6) sc_block_halves.nd rfl (Or.inl rfl) (de_call tk F_halves_between ar_halves_between (hr.mono (by decide)) (by rfl) T.g_halves_between kp_halves_between B_halves_between .nil (fun _ _ _ => .nil) (da_cons (dv 4) (da_cons (dv 5) da_nil))))
  (dss_cons (ds_expr (de_append rfl (dv 2) (de_tup (da_cons (dv 4) (da_cons (dv 6) da_nil)))))
  (dss_one (ds_set (i := 3) sc_block_halves.nd rfl (Or.inl rfl) (de_lst false (da_cons (de_call tk F_rest ar_rest (hr.mono (by decide)) (by rfl) T.g_rest kp_rest B_rest .nil (fun _ _ _ => .nil) (da_cons (de_ix ix_seq d_ix (dv 3) de_int) (da_cons (de_ix ix_seq d_ix (dv 6) de_int) da_nil))) (da_cons (de_call tk F_rest ar_rest (hr.mono (by decide)) (by rfl) T.g_rest kp_rest B_rest .nil (fun _ _ _ => .nil) (da_cons (de_ix ix_seq d_ix (dv 3) de_int) (da_cons (de_ix ix_seq d_ix (dv 6) de_int) da_nil))) da_nil))))))))
  (dss_cons (ds_for (passes_of rfl) rfl (di_seq rfl (de_ix ix_seq d_ix (dv 3) de_int)) (tg_nm (i := 7) sc_block_halves.nd rfl (Or.inl rfl)) (dss_one (ds_expr (de_append rfl (dv 2) (de_tup (da_cons (de_ix ix_seq d_ix (dv 7) de_int) (da_cons (de_tup (da_cons (de_tup (da_cons (dv 7) da_nil)) (da_cons (de_tup da_nil) da_nil))) da_nil)))))))
  (dss_cons (ds_for (passes_of rfl) rfl (di_seq rfl (de_ix ix_seq d_ix (dv 3) de_int)) (tg_nm (i := 7) sc_block_halves.nd rfl (Or.inl rfl)) (dss_one (ds_expr (de_append rfl (dv 2) (de_tup (da_cons (de_ix ix_seq d_ix (dv 7) de_int) (da_cons (de_tup (da_cons (de_tup da_nil) (da_cons (de_tup (da_cons (dv 7) da_nil)) da_nil))) da_nil)))))))
  (dss_one (ds_ret (de_lc (own := [("first", 4), ("halves", 6)]) false rfl rfl sc_block_halves.nd (di_seq rfl (de_callB ((cr_sortA hr.u200).or (cr_sortP hr.u200)) d_sortQ (by rfl) T.n_sorted (by decide +kernel) (da_cons (dv 2) da_nil))) (blkOk_by (own := [("first", 4), ("halves", 6)]) rfl) (by decide) (fun _ _ _ _ _ => (tg_tp [4, 6] rfl rfl (pgs_cons (pg_name (i := 4) sc_block_halves.nd rfl (by first | exact Or.inl rfl | exact Or.inr rfl)) (pgs_cons (pg_name (i := 6) sc_block_halves.nd rfl (by first | exact Or.inl rfl | exact Or.inr rfl)) pgs_nil)))) (fun _ _ _ _ _ => dts_nil) (fun _ _ _ _ _ => (dv 6)))))))))
theorem sc_check_numbers : FnScope ["numbers", "place", "thing"] ["numbers"] (defScope s_check_numbers) := ⟨rfl, rfl, rfl, by decide +kernel, rfl, by decide +kernel, by decide +kernel⟩
def b_check_numbersb_0 : MS := (sIf (tNotM (mTst (mCall m_is_number [] (mCons (mVar 2) mNil)))) sNever sNext)
def b_check_numbers : MS := (sFor (mEnum (mVar 0)) (Tgt.tp [1, 2]).M b_check_numbersb_0)
def m_check_numbers : MF := mDef 1 3 b_check_numbers
theorem e_check_numbers (x0 : D) (C : Store) : m_check_numbers [x0] C = finS C.length (b_check_numbers ⟨C.length, [some x0, none, none]⟩ C) := mDef_e rfl rfl
theorem ar_check_numbers : Ar 1 m_check_numbers := mDef_ar
theorem ok_check_numbers (T : Txt K mg) : ∃ fd, FnG P w K mg base 3 (a_check_numbers K) fd ["numbers"] (SpD (cn K) 1 m_check_numbers) ∧ Binds K fd ["numbers"] [] ∧ PySem.W.keepIn K (.ref (a_check_numbers K)) = true := by
  obtain ⟨fd_is_number, F_is_number, B_is_number, kp_is_number⟩ := ok_is_number (P := P) (w := w) (base := base) T
  obtain ⟨fd, F⟩ := T.f_check_numbers
  refine ⟨fd, fn_ok (k := cn K) F sc_check_numbers (by decide) fun cdv A outer s H E hr => ?_, F.bindsN fun _ _ _ _ _ _ us hl => match us, hl with | [_], _ => rfl, F.kp⟩
  have tk : Takes (cxOf (L2.CX P w) P w K mg base ["numbers", "place", "thing"] "check_numbers" (defScope s_check_numbers) (a_check_numbers K) cdv A outer s H E) (fun c d _ H => E c d H) := takes_of rfl rfl rfl rfl
  exact (dss_one (ds_for (passes_of rfl) rfl (di_enum (by rfl) T.n_enumerate rfl (dv 0)) (tg_tp [1, 2] rfl rfl (pgs_cons (pg_name (i := 1) sc_check_numbers.nd rfl (Or.inl rfl)) (pgs_cons (pg_name (i := 2) sc_check_numbers.nd rfl (Or.inl rfl)) pgs_nil))) (dss_one (ds_if (dt_not (dt_val (de_call tk F_is_number ar_is_number (hr.mono (by decide)) (by rfl) T.g_is_number kp_is_number B_is_number .nil (fun _ _ _ => .nil) (da_cons (dv 2) da_nil)))) (dss_one ds_never) dss_nil))))
theorem sc_halves_of : FnScope ["numbers", "parity", "x"] ["numbers"] (defScope s_halves_of) := ⟨rfl, rfl, rfl, by decide +kernel, rfl, by decide +kernel, by decide +kernel⟩
def b_halves_of : MS := (sRet (mAp oTupOf (mCons (mLc false (mSeq (mAp oTup (mCons (mC (.int 0)) (mCons (mC (.int 1)) mNil)))) (Tgt.nm 1).M tYesM (mCall m_merged [] (mCons (mLc false (mSeq (mVar 0)) (Tgt.nm 2).M (mTst (mOp (oEqA false) (mOp oMod (mVar 2) (mC (.int 2))) (mVar 1))) (mAp oTup (mCons (mVar 2) (mCons (mVar 2) mNil))) [2]) mNil)) [1]) mNil)))
def m_halves_of : MF := mDef 1 3 b_halves_of
theorem e_halves_of (x0 : D) (C : Store) : m_halves_of [x0] C = finS C.length (b_halves_of ⟨C.length, [some x0, none, none]⟩ C) := mDef_e rfl rfl
theorem ar_halves_of : Ar 1 m_halves_of := mDef_ar
theorem ok_halves_of (T : Txt K mg) : ∃ fd, FnG P w K mg base 2 (a_halves_of K) fd ["numbers"] (SpD (cn K) 1 m_halves_of) ∧ Binds K fd ["numbers"] [] ∧ PySem.W.keepIn K (.ref (a_halves_of K)) = true := by
  obtain ⟨fd_merged, F_merged, B_merged, kp_merged⟩ := ok_merged (P := P) (w := w) (base := base) T
  obtain ⟨fd, F⟩ := T.f_halves_of
  refine ⟨fd, fn_ok (k := cn K) F sc_halves_of (by decide) fun cdv A outer s H E hr => ?_, F.bindsN fun _ _ _ _ _ _ us hl => match us, hl with | [_], _ => rfl, F.kp⟩
  have tk : Takes (cxOf (L2.CX P w) P w K mg base ["numbers", "parity", "x"] "halves_of" (defScope s_halves_of) (a_halves_of K) cdv A outer s H E) (fun c d _ H => E c d H) := takes_of rfl rfl rfl rfl
  exact (dss_one (ds_ret (de_callTy call_tuple_of d_tupOf (by rfl) T.n_tuple (by decide +kernel) (da_cons (de_lc (own := [("parity", 1)]) false rfl rfl sc_halves_of.nd (di_seq rfl (de_tup (da_cons de_int (da_cons de_int da_nil)))) (blkOk_by (own := [("parity", 1)]) rfl) (by decide) (fun _ _ _ _ _ => (tg_nm (i := 1) sc_halves_of.nd rfl (by first | exact Or.inl rfl | exact Or.inr rfl))) (fun _ _ _ _ _ => dts_nil) (fun _ _ _ _ _ => (de_call takes0 F_merged ar_merged (hr.mono (by decide)) (by rfl) T.g_merged kp_merged B_merged .nil (fun _ _ _ => .nil) (da_cons (de_lc (own := [("x", 2)]) false rfl rfl sc_halves_of.nd (di_seq rfl (dv 0)) (blkOk_by (own := [("x", 2)]) rfl) (by decide) (fun _ _ _ _ _ => (tg_nm (i := 2) sc_halves_of.nd rfl (by first | exact Or.inl rfl | exact Or.inr rfl))) (fun _ _ _ _ _ => (pts_one (dt_cmp (op_eq.or (op_eqD hr.room.units)) d_eqA (de_op op_mod d_mod (dv 2) de_int) (dv 1) (nomark _)))) (fun _ _ _ _ _ => (de_tup (da_cons (dv 2) (da_cons (dv 2) da_nil))))) da_nil)))) da_nil))))
theorem sc_halves_moved : FnScope ["halves", "step", "found"] ["halves", "step"] (defScope s_halves_moved) := ⟨rfl, rfl, rfl, by decide +kernel, rfl, by decide +kernel, by decide +kernel⟩
def b_halves_moved_0 : MS := (sAsg (mAp oTup (mCons (mCall m_moved [] (mCons (mOp oIx (mVar 0) (mC (.int 0))) (mCons (mVar 1) mNil))) (mCons (mCall m_moved [] (mCons (mOp oIx (mVar 0) (mC (.int 1))) (mCons (mVar 1) mNil))) mNil))) (gN 2))
def b_halves_moved_1 : MS := (sRet (mIf (mTst (mOp (oEqA false) (mOp oMod (mVar 1) (mC (.int 2))) (mC (.int 0)))) (mVar 2) (mAp oTup (mCons (mOp oIx (mVar 2) (mC (.int 1))) (mCons (mOp oIx (mVar 2) (mC (.int 0))) mNil)))))
def b_halves_moved : MS := (sSeq b_halves_moved_0 b_halves_moved_1)
def m_halves_moved : MF := mDef 2 3 b_halves_moved
theorem e_halves_moved (x0 x1 : D) (C : Store) : m_halves_moved [x0, x1] C = finS C.length (b_halves_moved ⟨C.length, [some x0, some x1, none]⟩ C) := mDef_e rfl rfl
theorem ar_halves_moved : Ar 2 m_halves_moved := mDef_ar
theorem ok_halves_moved (T : Txt K mg) : ∃ fd, FnG P w K mg base 2 (a_halves_moved K) fd ["halves", "step"] (SpD (cn K) 2 m_halves_moved) ∧ Binds K fd ["halves", "step"] [] ∧ PySem.W.keepIn K (.ref (a_halves_moved K)) = true := by
  obtain ⟨fd_moved, F_moved, B_moved, kp_moved⟩ := ok_moved (P := P) (w := w) (base := base) T
  obtain ⟨fd, F⟩ := T.f_halves_moved
  refine ⟨fd, fn_ok (k := cn K) F sc_halves_moved (by decide) fun cdv A outer s H E hr => ?_, F.bindsN fun _ _ _ _ _ _ us hl => match us, hl with | [_, _], _ => rfl, F.kp⟩
  have tk : Takes (cxOf (L2.CX P w) P w K mg base ["halves", "step", "found"] "halves_moved" (defScope s_halves_moved) (a_halves_moved K) cdv A outer s H E) (fun c d _ H => E c d H) := takes_of rfl rfl rfl rfl
  exact (dss_cons (ds_set (i := 2) sc_halves_moved.nd rfl (Or.inl rfl) (de_tup (da_cons (de_call tk F_moved ar_moved (hr.mono (by decide)) (by rfl) T.g_moved kp_moved B_moved .nil (fun _ _ _ => .nil) (da_cons (de_ix ix_seq d_ix (dv 0) de_int) (da_cons (dv 1) da_nil))) (da_cons (de_call tk F_moved ar_moved (hr.mono (by decide)) (by rfl) T.g_moved kp_moved B_moved .nil (fun _ _ _ => .nil) (da_cons (de_ix ix_seq d_ix (dv 0) de_int) (da_cons (dv 1) da_nil))) da_nil))))
  (dss_one (ds_ret (de_if (dt_cmp (op_eq.or (op_eqD hr.room.units)) d_eqA (de_op op_mod d_mod (dv 1) de_int) de_int (nomark _)) (dv 2) (de_tup (da_cons (de_ix ix_seq d_ix (dv 2) de_int) (da_cons (de_ix ix_seq d_ix (dv 2) de_int) da_nil)))))))
theorem sc_halves_mirrored : FnScope ["halves", "middle", "found"] ["halves", "middle"] (defScope s_halves_mirrored) := ⟨rfl, rfl, rfl, by decide +kernel, rfl, by decide +kernel, by decide +kernel⟩
def b_halves_mirrored_0 : MS := (sAsg (mAp oTup (mCons (mCall m_mirrored [] (mCons (mOp oIx (mVar 0) (mC (.int 0))) (mCons (mVar 1) mNil))) (mCons (mCall m_mirrored [] (mCons (mOp oIx (mVar 0) (mC (.int 1))) (mCons (mVar 1) mNil))) mNil))) (gN 2))
def b_halves_mirrored_1 : MS := (sRet (mIf (mTst (mOp (oEqA false) (mOp oMod (mVar 1) (mC (.int 2))) (mC (.int 0)))) (mVar 2) (mAp oTup (mCons (mOp oIx (mVar 2) (mC (.int 1))) (mCons (mOp oIx (mVar 2) (mC (.int 0))) mNil)))))
def b_halves_mirrored : MS := (sSeq b_halves_mirrored_0 b_halves_mirrored_1)
def m_halves_mirrored : MF := mDef 2 3 b_halves_mirrored
theorem e_halves_mirrored (x0 x1 : D) (C : Store) : m_halves_mirrored [x0, x1] C = finS C.length (b_halves_mirrored ⟨C.length, [some x0, some x1, none]⟩ C) := mDef_e rfl rfl
theorem ar_halves_mirrored : Ar 2 m_halves_mirrored := mDef_ar
theorem ok_halves_mirrored (T : Txt K mg) : ∃ fd, FnG P w K mg base 2 (a_halves_mirrored K) fd ["halves", "middle"] (SpD (cn K) 2 m_halves_mirrored) ∧ Binds K fd ["halves", "middle"] [] ∧ PySem.W.keepIn K (.ref (a_halves_mirrored K)) = true := by
  obtain ⟨fd_mirrored, F_mirrored, B_mirrored, kp_mirrored⟩ := ok_mirrored (P := P) (w := w) (base := base) T
  obtain ⟨fd, F⟩ := T.f_halves_mirrored
  refine ⟨fd, fn_ok (k := cn K) F sc_halves_mirrored (by decide) fun cdv A outer s H E hr => ?_, F.bindsN fun _ _ _ _ _ _ us hl => match us, hl with | [_, _], _ => rfl, F.kp⟩
  have tk : Takes (cxOf (L2.CX P w) P w K mg base ["halves", "middle", "found"] "halves_mirrored" (defScope s_halves_mirrored) (a_halves_mirrored K) cdv A outer s H E) (fun c d _ H => E c d H) := takes_of rfl rfl rfl rfl
  exact (dss_cons (ds_set (i := 2) sc_halves_mirrored.nd rfl (Or.inl rfl) (de_tup (da_cons (de_call tk F_mirrored ar_mirrored (hr.mono (by decide)) (by rfl) T.g_mirrored kp_mirrored B_mirrored .nil (fun _ _ _ => .nil) (da_cons (de_ix ix_seq d_ix (dv 0) de_int) (da_cons (dv 1) da_nil))) (da_cons (de_call tk F_mirrored ar_mirrored (hr.mono (by decide)) (by rfl) T.g_mirrored kp_mirrored B_mirrored .nil (fun _ _ _ => .nil) (da_cons (de_ix ix_seq d_ix (dv 0) de_int) (da_cons (dv 1) da_nil))) da_nil))))
  (dss_one (ds_ret (de_if (dt_cmp (op_eq.or (op_eqD hr.room.units)) d_eqA (de_op op_mod d_mod (dv 1) de_int) de_int (nomark _)) (dv 2) (de_tup (da_cons (de_ix ix_seq d_ix (dv 2) de_int) (da_cons (de_ix ix_seq d_ix (dv 2) de_int) da_nil)))))))
theorem sc_Want__init : FnScope ["self", "halves", "numbers"] ["self", "halves", "numbers"] (defScope s_Want__init) := ⟨rfl, rfl, rfl, by decide +kernel, rfl, by decide +kernel, by decide +kernel⟩
def b_Want__init_0 : MS := (sDrop (mCall m_check_numbers [] (mCons (mVar 2) mNil)))
def b_Want__init_1 : MS := (sIf (mTst (mOp oGt (mAp oLenSI (mCons (mVar 2) mNil)) (mC (.int 40)))) sNever sNext)
def b_Want__init_2 : MS := (sFldS 0 0 (mIf (mTst (mOp (oIsN false) (mVar 1) (mC .non))) (mCall m_halves_of [] (mCons (mVar 2) mNil)) (mVar 1)) (mVar 0))
def b_Want__init : MS := (sSeq b_Want__init_0 (sSeq b_Want__init_1 b_Want__init_2))
def m_Want__init : MF := mDef 3 3 b_Want__init
theorem e_Want__init (x0 x1 x2 : D) (C : Store) : m_Want__init [x0, x1, x2] C = finS C.length (b_Want__init ⟨C.length, [some x0, some x1, some x2]⟩ C) := mDef_e rfl rfl
theorem ok_Want__init (T : Txt K mg) : ∃ fd, FnW P w K mg base 4 (a_Want__init K) fd ["self", "halves", "numbers"] (SpD (cn K) 3 m_Want__init) ∧ BnW K fd ["self", "halves", "numbers"] .pos 0 [] ∧ BnW K fd ["self", "halves", "numbers"] .pos 1 [] ∧ BnW K fd ["self", "halves", "numbers"] .pos 2 [] ∧ BnW K fd ["self", "halves", "numbers"] .kw 1 ["halves"] := by
  obtain ⟨fd_check_numbers, F_check_numbers, B_check_numbers, kp_check_numbers⟩ := ok_check_numbers (P := P) (w := w) (base := base) T
  obtain ⟨fd_halves_of, F_halves_of, B_halves_of, kp_halves_of⟩ := ok_halves_of (P := P) (w := w) (base := base) T
  obtain ⟨fd, F⟩ := T.f_Want__init
  refine ⟨fd, fn_okW (k := cn K) F sc_Want__init (by decide) fun cdv A outer s H E hr => ?_, bn_pos F T.kw_Want__init 0 (by decide) fun D doc pm an cdv ct u0 us hl => match us, hl with | [], _ => ⟨_, _, _, _, _, _, rfl, rfl, rfl⟩, bn_pos F T.kw_Want__init 1 (by decide) fun D doc pm an cdv ct u0 us hl => match us, hl with | [_], _ => ⟨_, _, _, _, _, _, rfl, rfl, rfl⟩, bn_pos F T.kw_Want__init 2 (by decide) fun D doc pm an cdv ct u0 us hl => match us, hl with | [_, _], _ => ⟨_, _, _, _, _, _, rfl, rfl, rfl⟩, bn_kw F fun _ _ _ _ _ _ _ _ => rfl⟩
  have tk : Takes (cxOf (L2.CX P w) P w K mg base ["self", "halves", "numbers"] "Want.__init__" (defScope s_Want__init) (a_Want__init K) cdv A outer s H E) (fun c d _ H => E c d H) := takes_of rfl rfl rfl rfl
  exact (dss_cons (ds_expr (de_call tk F_check_numbers ar_check_numbers (hr.mono (by decide)) (by rfl) T.g_check_numbers kp_check_numbers B_check_numbers .nil (fun _ _ _ => .nil) (da_cons (dv 2) da_nil)))
  (dss_cons (ds_if (dt_cmp op_gt d_gt (de_lenSI rfl rfl (by rfl) T.n_len (by rfl) T.n_set (da_cons (dv 2) da_nil)) de_int (nomark _)) (dss_one ds_never) dss_nil)
  (dss_one (ds_fld 0 0 rfl T.cl_Want T.no_Want_halves nd_Want rfl (show 1 < 1000 by decide) (dv 0) (de_if (dt_cmp op_isN d_isN (dv 1) de_non (nomark _)) (de_call tk F_halves_of ar_halves_of (hr.mono (by decide)) (by rfl) T.g_halves_of kp_halves_of B_halves_of .nil (fun _ _ _ => .nil) (da_cons (dv 2) da_nil)) (dv 1))))))
theorem sc_Want_between : FnScope ["cls", "low", "high"] ["cls", "low", "high"] (defScope s_Want_between) := ⟨rfl, rfl, rfl, by decide +kernel, rfl, by decide +kernel, by decide +kernel⟩
def b_Want_between_0 : MS := (sDrop (mCall m_check_numbers [] (mCons (mAp oTup (mCons (mVar 1) (mCons (mVar 2) mNil))) mNil)))
def b_Want_between_1 : MS := (sRet (mMkC 0 0 1 m_Want__init (mCall m_halves_between [] (mCons (mVar 1) (mCons (mVar 2) mNil)))))
def b_Want_between : MS := (sSeq b_Want_between_0 b_Want_between_1)
def m_Want_between : MF := mDef 3 3 b_Want_between
theorem e_Want_between (x0 x1 x2 : D) (C : Store) : m_Want_between [x0, x1, x2] C = finS C.length (b_Want_between ⟨C.length, [some x0, some x1, some x2]⟩ C) := mDef_e rfl rfl
theorem ar_Want_between : Ar 3 m_Want_between := mDef_ar
theorem ok_Want_between (T : Txt K mg) : ∃ fd, FnG P w K mg base 6 (a_Want_between K) fd ["cls", "low", "high"] (SpD (cn K) 3 m_Want_between) ∧ Binds K fd ["cls", "low", "high"] [] ∧ PySem.W.keepIn K (.ref (a_Want_between K)) = true := by
  obtain ⟨fd_check_numbers, F_check_numbers, B_check_numbers, kp_check_numbers⟩ := ok_check_numbers (P := P) (w := w) (base := base) T
  obtain ⟨fd_Want__init, F_Want__init, Bn0_Want__init, Bn1_Want__init, Bn2_Want__init, Bk_Want__init⟩ := ok_Want__init (P := P) (w := w) (base := base) T
  obtain ⟨fd_halves_between, F_halves_between, B_halves_between, kp_halves_between⟩ := ok_halves_between (P := P) (w := w) (base := base) T
  obtain ⟨fd, F⟩ := T.f_Want_between
  refine ⟨fd, fn_ok (k := cn K) F sc_Want_between (by decide) fun cdv A outer s H E hr => ?_, F.bindsN fun _ _ _ _ _ _ us hl => match us, hl with | [_, _, _], _ => rfl, F.kp⟩
  have tk : Takes (cxOf (L2.CX P w) P w K mg base ["cls", "low", "high"] "Want.between" (defScope s_Want_between) (a_Want_between K) cdv A outer s H E) (fun c d _ H => E c d H) := takes_of rfl rfl rfl rfl
  exact (dss_cons (ds_expr (de_call tk F_check_numbers ar_check_numbers (hr.mono (by decide)) (by rfl) T.g_check_numbers kp_check_numbers B_check_numbers .nil (fun _ _ _ => .nil) (da_cons (de_tup (da_cons (dv 1) (da_cons (dv 2) da_nil))) da_nil)))
  (dss_one (ds_ret (de_mkC 0 1 (i := 0) tk rfl T.mk_Want F_Want__init rfl (hr.mono (by decide)) Bk_Want__init (de_call tk F_halves_between ar_halves_between (hr.mono (by decide)) (by rfl) T.g_halves_between kp_halves_between B_halves_between .nil (fun _ _ _ => .nil) (da_cons (dv 1) (da_cons (dv 2) da_nil)))))))
theorem sc_Want_evens : FnScope ["self"] ["self"] (defScope s_Want_evens) := ⟨rfl, rfl, rfl, by decide +kernel, rfl, by decide +kernel, by decide +kernel⟩
def b_Want_evens : MS := (sRet (mOp oIx (mUn (oFld 0 0) (mVar 0)) (mC (.int 0))))
def m_Want_evens : MF := mDef 1 1 b_Want_evens
theorem e_Want_evens (x0 : D) (C : Store) : m_Want_evens [x0] C = finS C.length (b_Want_evens ⟨C.length, [some x0]⟩ C) := mDef_e rfl rfl
theorem ar_Want_evens : Ar 1 m_Want_evens := mDef_ar
theorem ok_Want_evens (T : Txt K mg) : ∃ fd, FnG P w K mg base 1 (a_Want_evens K) fd ["self"] (SpD (cn K) 1 m_Want_evens) ∧ Binds K fd ["self"] [] ∧ PySem.W.keepIn K (.ref (a_Want_evens K)) = true := by
  obtain ⟨fd, F⟩ := T.f_Want_evens
  refine ⟨fd, fn_ok (k := cn K) F sc_Want_evens (by decide) fun cdv A outer s H E hr => ?_, F.bindsN fun _ _ _ _ _ _ us hl => match us, hl with | [_], _ => rfl, F.kp⟩
  have tk : Takes (cxOf (L2.CX P w) P w K mg base ["self"] "Want.evens" (defScope s_Want_evens) (a_Want_evens K) cdv A outer s H E) (fun c d _ H => E c d H) := takes_of rfl rfl rfl rfl
  exact (dss_one (ds_ret (de_ix ix_seq d_ix (de_fld 0 0 rfl T.cl_Want T.no_Want_halves nd_Want rfl (dv 0)) de_int)))
theorem sc_Want_odds : FnScope ["self"] ["self"] (defScope s_Want_odds) := ⟨rfl, rfl, rfl, by decide +kernel, rfl, by decide +kernel, by decide +kernel⟩
def b_Want_odds : MS := (sRet (mOp oIx (mUn (oFld 0 0) (mVar 0)) (mC (.int 1))))
def m_Want_odds : MF := mDef 1 1 b_Want_odds
theorem e_Want_odds (x0 : D) (C : Store) : m_Want_odds [x0] C = finS C.length (b_Want_odds ⟨C.length, [some x0]⟩ C) := mDef_e rfl rfl
theorem ar_Want_odds : Ar 1 m_Want_odds := mDef_ar
theorem ok_Want_odds (T : Txt K mg) : ∃ fd, FnG P w K mg base 1 (a_Want_odds K) fd ["self"] (SpD (cn K) 1 m_Want_odds) ∧ Binds K fd ["self"] [] ∧ PySem.W.keepIn K (.ref (a_Want_odds K)) = true := by
  obtain ⟨fd, F⟩ := T.f_Want_odds
  refine ⟨fd, fn_ok (k := cn K) F sc_Want_odds (by decide) fun cdv A outer s H E hr => ?_, F.bindsN fun _ _ _ _ _ _ us hl => match us, hl with | [_], _ => rfl, F.kp⟩
  have tk : Takes (cxOf (L2.CX P w) P w K mg base ["self"] "Want.odds" (defScope s_Want_odds) (a_Want_odds K) cdv A outer s H E) (fun c d _ H => E c d H) := takes_of rfl rfl rfl rfl
  exact (dss_one (ds_ret (de_ix ix_seq d_ix (de_fld 0 0 rfl T.cl_Want T.no_Want_halves nd_Want rfl (dv 0)) de_int)))
theorem sc_Want_low : FnScope ["self", "runs"] ["self"] (defScope s_Want_low) := ⟨rfl, rfl, rfl, by decide +kernel, rfl, by decide +kernel, by decide +kernel⟩
def b_Want_low : MS := (sRet (mMnD min (mLc false (mSeq (mUn (oFld 0 0) (mVar 0))) (Tgt.nm 1).M (mTst (mOp (oEqA true) (mVar 1) (mAp oTup mNil))) (mOp oIx (mOp oIx (mVar 1) (mC (.int 0))) (mC (.int 0))) [1]) (mC .non)))
def m_Want_low : MF := mDef 1 2 b_Want_low
theorem e_Want_low (x0 : D) (C : Store) : m_Want_low [x0] C = finS C.length (b_Want_low ⟨C.length, [some x0, none]⟩ C) := mDef_e rfl rfl
theorem ar_Want_low : Ar 1 m_Want_low := mDef_ar
theorem ok_Want_low (T : Txt K mg) : ∃ fd, FnG P w K mg base 1 (a_Want_low K) fd ["self"] (SpD (cn K) 1 m_Want_low) ∧ Binds K fd ["self"] [] ∧ PySem.W.keepIn K (.ref (a_Want_low K)) = true := by
  obtain ⟨fd, F⟩ := T.f_Want_low
  refine ⟨fd, fn_ok (k := cn K) F sc_Want_low (by decide) fun cdv A outer s H E hr => ?_, F.bindsN fun _ _ _ _ _ _ us hl => match us, hl with | [_], _ => rfl, F.kp⟩
  have tk : Takes (cxOf (L2.CX P w) P w K mg base ["self", "runs"] "Want.low" (defScope s_Want_low) (a_Want_low K) cdv A outer s H E) (fun c d _ H => E c d H) := takes_of rfl rfl rfl rfl
  exact (dss_one (ds_ret (de_mnD rfl (cr_minD hr.room.hd hr.u200) (by rfl) T.n_min (by decide +kernel) (de_lc (own := [("runs", 1)]) false rfl rfl sc_Want_low.nd (di_seq rfl (de_fld 0 0 rfl T.cl_Want T.no_Want_halves nd_Want rfl (dv 0))) (blkOk_by (own := [("runs", 1)]) rfl) (by decide) (fun _ _ _ _ _ => (tg_nm (i := 1) sc_Want_low.nd rfl (by first | exact Or.inl rfl | exact Or.inr rfl))) (fun _ _ _ _ _ => (pts_one (dt_cmp (op_ne.or (op_neD hr.room.units)) d_neA (dv 1) (de_tup da_nil) (nomark _)))) (fun _ _ _ _ _ => (de_ix ix_seq d_ix (de_ix ix_seq d_ix (dv 1) de_int) de_int))) de_non)))
theorem sc_Want_high : FnScope ["self", "runs"] ["self"] (defScope s_Want_high) := ⟨rfl, rfl, rfl, by decide +kernel, rfl, by decide +kernel, by decide +kernel⟩
def b_Want_high : MS := (sRet (mMnD max (mLc false (mSeq (mUn (oFld 0 0) (mVar 0))) (Tgt.nm 1).M (mTst (mOp (oEqA true) (mVar 1) (mAp oTup mNil))) (mOp oIx (mOp oIx (mVar 1) (mUn oNeg (mC (.int 1)))) (mC (.int 1))) [1]) (mC .non)))
def m_Want_high : MF := mDef 1 2 b_Want_high
theorem e_Want_high (x0 : D) (C : Store) : m_Want_high [x0] C = finS C.length (b_Want_high ⟨C.length, [some x0, none]⟩ C) := mDef_e rfl rfl
theorem ar_Want_high : Ar 1 m_Want_high := mDef_ar
theorem ok_Want_high (T : Txt K mg) : ∃ fd, FnG P w K mg base 1 (a_Want_high K) fd ["self"] (SpD (cn K) 1 m_Want_high) ∧ Binds K fd ["self"] [] ∧ PySem.W.keepIn K (.ref (a_Want_high K)) = true := by
  obtain ⟨fd, F⟩ := T.f_Want_high
  refine ⟨fd, fn_ok (k := cn K) F sc_Want_high (by decide) fun cdv A outer s H E hr => ?_, F.bindsN fun _ _ _ _ _ _ us hl => match us, hl with | [_], _ => rfl, F.kp⟩
  have tk : Takes (cxOf (L2.CX P w) P w K mg base ["self", "runs"] "Want.high" (defScope s_Want_high) (a_Want_high K) cdv A outer s H E) (fun c d _ H => E c d H) := takes_of rfl rfl rfl rfl
  exact (dss_one (ds_ret (de_mnD rfl (cr_maxD hr.room.hd hr.u200) (by rfl) T.n_max (by decide +kernel) (de_lc (own := [("runs", 1)]) false rfl rfl sc_Want_high.nd (di_seq rfl (de_fld 0 0 rfl T.cl_Want T.no_Want_halves nd_Want rfl (dv 0))) (blkOk_by (own := [("runs", 1)]) rfl) (by decide) (fun _ _ _ _ _ => (tg_nm (i := 1) sc_Want_high.nd rfl (by first | exact Or.inl rfl | exact Or.inr rfl))) (fun _ _ _ _ _ => (pts_one (dt_cmp (op_ne.or (op_neD hr.room.units)) d_neA (dv 1) (de_tup da_nil) (nomark _)))) (fun _ _ _ _ _ => (de_ix ix_seq d_ix (de_ix ix_seq d_ix (dv 1) (de_un un_neg d_neg de_int)) de_int))) de_non)))
theorem sc_Want_many : FnScope ["self", "runs", "low", "high"] ["self"] (defScope s_Want_many) := ⟨rfl, rfl, rfl, by decide +kernel, rfl, by decide +kernel, by decide +kernel⟩
def b_Want_many : MS := (sRet (mAp oSum (mCons (mLc2 false (mSeq (mUn (oFld 0 0) (mVar 0))) (Tgt.nm 1).M tYesM (mSeq (mVar 1)) (Tgt.tp [2, 3]).M tYesM (mOp oAdd (mOp oDiv (mOp oSub (mVar 3) (mVar 2)) (mC (.int 2))) (mC (.int 1))) [1, 2, 3] [2, 3]) mNil)))
def m_Want_many : MF := mDef 1 4 b_Want_many
theorem e_Want_many (x0 : D) (C : Store) : m_Want_many [x0] C = finS C.length (b_Want_many ⟨C.length, [some x0, none, none, none]⟩ C) := mDef_e rfl rfl
theorem ar_Want_many : Ar 1 m_Want_many := mDef_ar
theorem ok_Want_many (T : Txt K mg) : ∃ fd, FnG P w K mg base 1 (a_Want_many K) fd ["self"] (SpD (cn K) 1 m_Want_many) ∧ Binds K fd ["self"] [] ∧ PySem.W.keepIn K (.ref (a_Want_many K)) = true := by
  obtain ⟨fd, F⟩ := T.f_Want_many
  refine ⟨fd, fn_ok (k := cn K) F sc_Want_many (by decide) fun cdv A outer s H E hr => ?_, F.bindsN fun _ _ _ _ _ _ us hl => match us, hl with | [_], _ => rfl, F.kp⟩
  have tk : Takes (cxOf (L2.CX P w) P w K mg base ["self", "runs", "low", "high"] "Want.many" (defScope s_Want_many) (a_Want_many K) cdv A outer s H E) (fun c d _ H => E c d H) := takes_of rfl rfl rfl rfl
  exact (dss_one (ds_ret (de_callB (cr_sum rfl) d_sum (by rfl) T.n_sum (by decide +kernel) (da_cons (de_lc2 (own := [("runs", 1), ("low", 2), ("high", 3)]) (vs1 := [2, 3]) false rfl rfl sc_Want_many.nd (di_seq rfl (de_fld 0 0 rfl T.cl_Want T.no_Want_halves nd_Want rfl (dv 0))) (blkOk_by (own := [("runs", 1), ("low", 2), ("high", 3)]) rfl) (by decide) (by decide) (by decide) (fun _ _ _ _ _ => (tg_nm (i := 1) sc_Want_many.nd rfl (by first | exact Or.inl rfl | exact Or.inr rfl))) (fun _ _ _ _ _ => dts_nil) (fun _ _ _ _ _ => (di_seq rfl (dv 1))) (fun _ _ _ _ _ => (tg_tp [2, 3] rfl rfl (pgs_cons (pg_name (i := 2) sc_Want_many.nd rfl (by first | exact Or.inl rfl | exact Or.inr rfl)) (pgs_cons (pg_name (i := 3) sc_Want_many.nd rfl (by first | exact Or.inl rfl | exact Or.inr rfl)) pgs_nil)))) (fun _ _ _ _ _ => dts_nil) (fun _ _ _ _ _ => (de_op op_add d_add (de_op op_fdivW d_div (de_op op_sub d_sub (dv 3) (dv 2)) de_int) de_int))) da_nil))))
theorem sc_Want_without : FnScope ["self", "other", "k"] ["self", "other"] (defScope s_Want_without) := ⟨rfl, rfl, rfl, by decide +kernel, rfl, by decide +kernel, by decide +kernel⟩
def b_Want_without : MS := (sRet (mMake false 0 1 (vaM .kw 1 m_Want__init) [] (mCons (mAp oTupOf (mCons (mLc false (mSeq (mAp oTup (mCons (mC (.int 0)) (mCons (mC (.int 1)) mNil)))) (Tgt.nm 2).M tYesM (mCall m_rest [] (mCons (mOp oIx (mUn (oFld 0 0) (mVar 0)) (mVar 2)) (mCons (mOp oIx (mUn (oFld 0 0) (mVar 1)) (mVar 2)) mNil))) [2]) mNil)) mNil)))
def m_Want_without : MF := mDef 2 3 b_Want_without
theorem e_Want_without (x0 x1 : D) (C : Store) : m_Want_without [x0, x1] C = finS C.length (b_Want_without ⟨C.length, [some x0, some x1, none]⟩ C) := mDef_e rfl rfl
theorem ar_Want_without : Ar 2 m_Want_without := mDef_ar
theorem ok_Want_without (T : Txt K mg) : ∃ fd, FnG P w K mg base 6 (a_Want_without K) fd ["self", "other"] (SpD (cn K) 2 m_Want_without) ∧ Binds K fd ["self", "other"] [] ∧ PySem.W.keepIn K (.ref (a_Want_without K)) = true := by
  obtain ⟨fd_Want__init, F_Want__init, Bn0_Want__init, Bn1_Want__init, Bn2_Want__init, Bk_Want__init⟩ := ok_Want__init (P := P) (w := w) (base := base) T
  obtain ⟨fd_rest, F_rest, B_rest, kp_rest⟩ := ok_rest (P := P) (w := w) (base := base) T
  obtain ⟨fd, F⟩ := T.f_Want_without
  refine ⟨fd, fn_ok (k := cn K) F sc_Want_without (by decide) fun cdv A outer s H E hr => ?_, F.bindsN fun _ _ _ _ _ _ us hl => match us, hl with | [_, _], _ => rfl, F.kp⟩
  have tk : Takes (cxOf (L2.CX P w) P w K mg base ["self", "other", "k"] "Want.without" (defScope s_Want_without) (a_Want_without K) cdv A outer s H E) (fun c d _ H => E c d H) := takes_of rfl rfl rfl rfl
  exact (dss_one (ds_ret (de_makeWk false 0 1 tk rfl T.mk_Want F_Want__init rfl (hr.mono (by decide)) (by rfl) T.g_Want Bk_Want__init (de_callTy call_tuple_of d_tupOf (by rfl) T.n_tuple (by decide +kernel) (da_cons (de_lc (own := [("k", 2)]) false rfl rfl sc_Want_without.nd (di_seq rfl (de_tup (da_cons de_int (da_cons de_int da_nil)))) (blkOk_by (own := [("k", 2)]) rfl) (by decide) (fun _ _ _ _ _ => (tg_nm (i := 2) sc_Want_without.nd rfl (by first | exact Or.inl rfl | exact Or.inr rfl))) (fun _ _ _ _ _ => dts_nil) (fun _ _ _ _ _ => (de_call takes0 F_rest ar_rest (hr.mono (by decide)) (by rfl) T.g_rest kp_rest B_rest .nil (fun _ _ _ => .nil) (da_cons (de_ix ix_seq d_ix (de_fld 0 0 rfl T.cl_Want T.no_Want_halves nd_Want rfl (dv 0)) (dv 2)) (da_cons (de_ix ix_seq d_ix (de_fld 0 0 rfl T.cl_Want T.no_Want_halves nd_Want rfl (dv 1)) (dv 2)) da_nil))))) da_nil)))))
theorem sc_Want_within : FnScope ["self", "other"] ["self", "other"] (defScope s_Want_within) := ⟨rfl, rfl, rfl, by decide +kernel, rfl, by decide +kernel, by decide +kernel⟩
def b_Want_within : MS := (sRet (mOp (oEqA false) (mUn (oFld 0 0) (mMeth 0 m_Want_without [] (mVar 0) (mCons (mVar 1) mNil))) (mAp oTup (mCons (mAp oTup mNil) (mCons (mAp oTup mNil) mNil)))))
def m_Want_within : MF := mDef 2 2 b_Want_within
theorem e_Want_within (x0 x1 : D) (C : Store) : m_Want_within [x0, x1] C = finS C.length (b_Want_within ⟨C.length, [some x0, some x1]⟩ C) := mDef_e rfl rfl
theorem ar_Want_within : Ar 2 m_Want_within := mDef_ar
theorem ok_Want_within (T : Txt K mg) : ∃ fd, FnG P w K mg base 7 (a_Want_within K) fd ["self", "other"] (SpD (cn K) 2 m_Want_within) ∧ Binds K fd ["self", "other"] [] ∧ PySem.W.keepIn K (.ref (a_Want_within K)) = true := by
  obtain ⟨fd_Want_without, F_Want_without, B_Want_without, kp_Want_without⟩ := ok_Want_without (P := P) (w := w) (base := base) T
  obtain ⟨fd, F⟩ := T.f_Want_within
  refine ⟨fd, fn_ok (k := cn K) F sc_Want_within (by decide) fun cdv A outer s H E hr => ?_, F.bindsN fun _ _ _ _ _ _ us hl => match us, hl with | [_, _], _ => rfl, F.kp⟩
  have tk : Takes (cxOf (L2.CX P w) P w K mg base ["self", "other"] "Want.within" (defScope s_Want_within) (a_Want_within K) cdv A outer s H E) (fun c d _ H => E c d H) := takes_of rfl rfl rfl rfl
  exact (dss_one (ds_ret (de_cmp (op_eq.or (op_eqD hr.room.units)) d_eqA (de_fld 0 0 rfl T.cl_Want T.no_Want_halves nd_Want rfl (de_meth 0 tk rfl (dv 0) T.cl_Want T.me_Want_without F_Want_without ar_Want_without nm_Want_without (hr.mono (by decide)) B_Want_without .nil (fun _ _ _ => .nil) (da_cons (dv 1) da_nil))) (de_tup (da_cons (de_tup da_nil) (da_cons (de_tup da_nil) da_nil))) (nomark _))))
theorem sc_Want_first : FnScope ["self", "count", "found", "runs", "left", "low", "high", "part"] ["self", "count"] (defScope s_Want_first) := ⟨rfl, rfl, rfl, by decide +kernel, rfl, by decide +kernel, by decide +kernel⟩
def b_Want_first_0 : MS := (sAsg (mAp (oLst true) mNil) (gN 2))
def b_Want_first_1b_0 : MS := (sAsg (mVar 1) (gN 4))
def b_Want_first_1b_1b_0 : MS := (sAsg (mLRng3 false (mVar 5) (mOp oAdd (mAp oMin2 (mCons (mVar 6) (mCons (mOp oSub (mOp oAdd (mVar 5) (mOp oMul (mC (.int 2)) (mVar 4))) (mC (.int 2))) mNil))) (mC (.int 1))) (mC (.int 2))) (gN 7))
def b_Want_first_1b_1b_1 : MS := (sDrop (mExtend (mVar 2) (mVar 7)))
def b_Want_first_1b_1b_2 : MS := (sAug 4 (· - ·) (mAp oLen (mCons (mVar 7) mNil)))
def b_Want_first_1b_1 : MS := (sFor (mSeq (mVar 3)) (Tgt.tp [5, 6]).M (sSeq b_Want_first_1b_1b_0 (sSeq b_Want_first_1b_1b_1 b_Want_first_1b_1b_2)))
def b_Want_first_1 : MS := (sFor (mSeq (mUn (oFld 0 0) (mVar 0))) (Tgt.nm 3).M (sSeq b_Want_first_1b_0 b_Want_first_1b_1))
def b_Want_first_2 : MS := (sRet (mSlL true (mAp (oSortQ false) (mCons (mVar 2) mNil)) mNoPart (mPart (mVar 1))))
def b_Want_first : MS := (sSeq b_Want_first_0 (sSeq b_Want_first_1 b_Want_first_2))
def m_Want_first : MF := mDefO 2 8 b_Want_first
theorem e_Want_first (x0 x1 : D) (C : Store) : m_Want_first [x0, x1] C = finOS C.length (b_Want_first ⟨C.length, [some x0, some x1, none, none, none, none, none, none]⟩ C) := mDefO_e rfl rfl
theorem ar_Want_first : Ar 2 m_Want_first := mDefO_ar
theorem ok_Want_first (T : Txt K mg) : ∃ fd, FnG P w K mg base 1 (a_Want_first K) fd ["self", "count"] (SpD (cn K) 2 m_Want_first) ∧ Binds K fd ["self", "count"] [] ∧ PySem.W.keepIn K (.ref (a_Want_first K)) = true := by
  obtain ⟨fd, F⟩ := T.f_Want_first
  refine ⟨fd, fn_okO (k := cn K) F sc_Want_first (by decide) fun cdv A outer s H E hr => ?_, F.bindsN fun _ _ _ _ _ _ us hl => match us, hl with | [_, _], _ => rfl, F.kp⟩
  have tk : Takes (cxOf (L2.CX P w) P w K mg base ["self", "count", "found", "runs", "left", "low", "high", "part"] "Want.first" (defScope s_Want_first) (a_Want_first K) cdv A outer s H E) (fun c d _ H => E c d H) := takes_of rfl rfl rfl rfl
  exact (dss_cons (ds_set (i := 2) sc_Want_first.nd rfl (Or.inl rfl) (de_lst true da_nil))
  (dss_cons (ds_for (passes_of rfl) rfl (di_seq rfl (de_fld 0 0 rfl T.cl_Want T.no_Want_halves nd_Want rfl (dv 0))) (tg_nm (i := 3) sc_Want_first.nd rfl (Or.inl rfl)) (dss_cons (ds_set (i := 4) sc_Want_first.nd rfl (Or.inl rfl) (dv 1))
  (dss_one (ds_for (passes_of rfl) rfl (di_seq rfl (dv 3)) (tg_tp [5, 6] rfl rfl (pgs_cons (pg_name (i := 5) sc_Want_first.nd rfl (Or.inl rfl)) (pgs_cons (pg_name (i := 6) sc_Want_first.nd rfl (Or.inl rfl)) pgs_nil))) (dss_cons (ds_set (i := 7) sc_Want_first.nd rfl (Or.inl rfl) (de_lrng3 false rfl (by rfl) T.n_list (by rfl) T.n_range (dv 5) (de_op op_add d_add (de_callB (call_min2 rfl) d_min2 (by rfl) T.n_min (by decide +kernel) (da_cons (dv 6) (da_cons (de_op op_sub d_sub (de_op op_add d_add (dv 5) (de_op op_mul d_mul de_int (dv 4))) de_int) da_nil))) de_int) de_int))
  (dss_cons (ds_expr (de_extend rfl (dv 2) (dv 7)))
  (dss_one (ds_aug (i := 4) sc_Want_first.nd rfl (Or.inl rfl) (de_callB call_len_seq d_len (by rfl) T.n_len (by decide +kernel) (da_cons (dv 7) da_nil)) ip_sub))))))))
  (dss_one (ds_ret (de_slL true rfl (de_callB ((cr_sortA hr.u200).or (cr_sortP hr.u200)) d_sortQ (by rfl) T.n_sorted (by decide +kernel) (da_cons (dv 2) da_nil)) do_none (do_some (dv 1)))))))
theorem sc_Want_blocks : FnScope ["self", "halves"] ["self"] (defScope s_Want_blocks) := ⟨rfl, rfl, rfl, by decide +kernel, rfl, by decide +kernel, by decide +kernel⟩
def b_Want_blocks : MS := (sRet (mLc true (mSeq (mCall m_block_halves [] (mCons (mOp oIx (mUn (oFld 0 0) (mVar 0)) (mC (.int 0))) (mCons (mOp oIx (mUn (oFld 0 0) (mVar 0)) (mC (.int 1))) mNil)))) (Tgt.nm 1).M tYesM (mMake false 0 1 (vaM .kw 1 m_Want__init) [] (mCons (mVar 1) mNil)) [1]))
def m_Want_blocks : MF := mDefO 1 2 b_Want_blocks
theorem e_Want_blocks (x0 : D) (C : Store) : m_Want_blocks [x0] C = finOS C.length (b_Want_blocks ⟨C.length, [some x0, none]⟩ C) := mDefO_e rfl rfl
theorem ar_Want_blocks : Ar 1 m_Want_blocks := mDefO_ar
theorem ok_Want_blocks (T : Txt K mg) : ∃ fd, FnG P w K mg base 6 (a_Want_blocks K) fd ["self"] (SpD (cn K) 1 m_Want_blocks) ∧ Binds K fd ["self"] [] ∧ PySem.W.keepIn K (.ref (a_Want_blocks K)) = true := by
  obtain ⟨fd_block_halves, F_block_halves, B_block_halves, kp_block_halves⟩ := ok_block_halves (P := P) (w := w) (base := base) T
  obtain ⟨fd_Want__init, F_Want__init, Bn0_Want__init, Bn1_Want__init, Bn2_Want__init, Bk_Want__init⟩ := ok_Want__init (P := P) (w := w) (base := base) T
  obtain ⟨fd, F⟩ := T.f_Want_blocks
  refine ⟨fd, fn_okO (k := cn K) F sc_Want_blocks (by decide) fun cdv A outer s H E hr => ?_, F.bindsN fun _ _ _ _ _ _ us hl => match us, hl with | [_], _ => rfl, F.kp⟩
  have tk : Takes (cxOf (L2.CX P w) P w K mg base ["self", "halves"] "Want.blocks" (defScope s_Want_blocks) (a_Want_blocks K) cdv A outer s H E) (fun c d _ H => E c d H) := takes_of rfl rfl rfl rfl
  exact (dss_one (ds_ret (de_lc (own := [("halves", 1)]) true rfl rfl sc_Want_blocks.nd (di_seq rfl (de_call tk F_block_halves ar_block_halves (hr.mono (by decide)) (by rfl) T.g_block_halves kp_block_halves B_block_halves .nil (fun _ _ _ => .nil) (da_cons (de_ix ix_seq d_ix (de_fld 0 0 rfl T.cl_Want T.no_Want_halves nd_Want rfl (dv 0)) de_int) (da_cons (de_ix ix_seq d_ix (de_fld 0 0 rfl T.cl_Want T.no_Want_halves nd_Want rfl (dv 0)) de_int) da_nil)))) (blkOk_by (own := [("halves", 1)]) rfl) (by decide) (fun _ _ _ _ _ => (tg_nm (i := 1) sc_Want_blocks.nd rfl (by first | exact Or.inl rfl | exact Or.inr rfl))) (fun _ _ _ _ _ => dts_nil) (fun _ _ _ _ _ => (de_makeWk false 0 1 takes0 rfl T.mk_Want F_Want__init rfl (hr.mono (by decide)) (by rfl) T.g_Want Bk_Want__init (dv 1))))))
theorem sc_Want__or : FnScope ["self", "other", "k"] ["self", "other"] (defScope s_Want__or) := ⟨rfl, rfl, rfl, by decide +kernel, rfl, by decide +kernel, by decide +kernel⟩
def b_Want__or_0 : MS := (sIf (tNotM (mTst (mIsi [0] (.own 0) (mVar 1)))) sNever sNext)
def b_Want__or_1 : MS := (sRet (mMake false 0 1 (vaM .kw 1 m_Want__init) [] (mCons (mAp oTupOf (mCons (mLc false (mSeq (mAp oTup (mCons (mC (.int 0)) (mCons (mC (.int 1)) mNil)))) (Tgt.nm 2).M tYesM (mCall m_merged [] (mCons (mOp oCatT (mOp oIx (mUn (oFld 0 0) (mVar 0)) (mVar 2)) (mOp oIx (mUn (oFld 0 0) (mVar 1)) (mVar 2))) mNil)) [2]) mNil)) mNil)))
def b_Want__or : MS := (sSeq b_Want__or_0 b_Want__or_1)
def m_Want__or : MF := mDef 2 3 b_Want__or
theorem e_Want__or (x0 x1 : D) (C : Store) : m_Want__or [x0, x1] C = finS C.length (b_Want__or ⟨C.length, [some x0, some x1, none]⟩ C) := mDef_e rfl rfl
theorem ar_Want__or : Ar 2 m_Want__or := mDef_ar
theorem ok_Want__or (T : Txt K mg) : ∃ fd, FnG P w K mg base 6 (a_Want__or K) fd ["self", "other"] (SpD (cn K) 2 m_Want__or) ∧ Binds K fd ["self", "other"] [] ∧ PySem.W.keepIn K (.ref (a_Want__or K)) = true := by
  obtain ⟨fd_Want__init, F_Want__init, Bn0_Want__init, Bn1_Want__init, Bn2_Want__init, Bk_Want__init⟩ := ok_Want__init (P := P) (w := w) (base := base) T
  obtain ⟨fd_merged, F_merged, B_merged, kp_merged⟩ := ok_merged (P := P) (w := w) (base := base) T
  obtain ⟨fd, F⟩ := T.f_Want__or
  refine ⟨fd, fn_ok (k := cn K) F sc_Want__or (by decide) fun cdv A outer s H E hr => ?_, F.bindsN fun _ _ _ _ _ _ us hl => match us, hl with | [_, _], _ => rfl, F.kp⟩
  have tk : Takes (cxOf (L2.CX P w) P w K mg base ["self", "other", "k"] "Want.__or__" (defScope s_Want__or) (a_Want__or K) cdv A outer s H E) (fun c d _ H => E c d H) := takes_of rfl rfl rfl rfl
  exact (dss_cons (ds_if (dt_not (dt_val (de_isi (by rfl) T.n_isinstance T.isa rfl rfl (dv 1) (pe_glob (by rfl) T.g_Want rfl)))) (dss_one ds_never) dss_nil)
  (dss_one (ds_ret (de_makeWk false 0 1 tk rfl T.mk_Want F_Want__init rfl (hr.mono (by decide)) (by rfl) T.g_Want Bk_Want__init (de_callTy call_tuple_of d_tupOf (by rfl) T.n_tuple (by decide +kernel) (da_cons (de_lc (own := [("k", 2)]) false rfl rfl sc_Want__or.nd (di_seq rfl (de_tup (da_cons de_int (da_cons de_int da_nil)))) (blkOk_by (own := [("k", 2)]) rfl) (by decide) (fun _ _ _ _ _ => (tg_nm (i := 2) sc_Want__or.nd rfl (by first | exact Or.inl rfl | exact Or.inr rfl))) (fun _ _ _ _ _ => dts_nil) (fun _ _ _ _ _ => (de_call takes0 F_merged ar_merged (hr.mono (by decide)) (by rfl) T.g_merged kp_merged B_merged .nil (fun _ _ _ => .nil) (da_cons (de_op op_catA d_catT (de_ix ix_seq d_ix (de_fld 0 0 rfl T.cl_Want T.no_Want_halves nd_Want rfl (dv 0)) (dv 2)) (de_ix ix_seq d_ix (de_fld 0 0 rfl T.cl_Want T.no_Want_halves nd_Want rfl (dv 1)) (dv 2))) da_nil)))) da_nil))))))
theorem sc_Want__and : FnScope ["self", "other", "k"] ["self", "other"] (defScope s_Want__and) := ⟨rfl, rfl, rfl, by decide +kernel, rfl, by decide +kernel, by decide +kernel⟩
def b_Want__and_0 : MS := (sIf (tNotM (mTst (mIsi [0] (.own 0) (mVar 1)))) sNever sNext)
def b_Want__and_1 : MS := (sRet (mMake false 0 1 (vaM .kw 1 m_Want__init) [] (mCons (mAp oTupOf (mCons (mLc false (mSeq (mAp oTup (mCons (mC (.int 0)) (mCons (mC (.int 1)) mNil)))) (Tgt.nm 2).M tYesM (mCall m_common [] (mCons (mOp oIx (mUn (oFld 0 0) (mVar 0)) (mVar 2)) (mCons (mOp oIx (mUn (oFld 0 0) (mVar 1)) (mVar 2)) mNil))) [2]) mNil)) mNil)))
def b_Want__and : MS := (sSeq b_Want__and_0 b_Want__and_1)
def m_Want__and : MF := mDef 2 3 b_Want__and
theorem e_Want__and (x0 x1 : D) (C : Store) : m_Want__and [x0, x1] C = finS C.length (b_Want__and ⟨C.length, [some x0, some x1, none]⟩ C) := mDef_e rfl rfl
theorem ar_Want__and : Ar 2 m_Want__and := mDef_ar
theorem ok_Want__and (T : Txt K mg) : ∃ fd, FnG P w K mg base 6 (a_Want__and K) fd ["self", "other"] (SpD (cn K) 2 m_Want__and) ∧ Binds K fd ["self", "other"] [] ∧ PySem.W.keepIn K (.ref (a_Want__and K)) = true := by
  obtain ⟨fd_Want__init, F_Want__init, Bn0_Want__init, Bn1_Want__init, Bn2_Want__init, Bk_Want__init⟩ := ok_Want__init (P := P) (w := w) (base := base) T
  obtain ⟨fd_common, F_common, B_common, kp_common⟩ := ok_common (P := P) (w := w) (base := base) T
  obtain ⟨fd, F⟩ := T.f_Want__and
  refine ⟨fd, fn_ok (k := cn K) F sc_Want__and (by decide) fun cdv A outer s H E hr => ?_, F.bindsN fun _ _ _ _ _ _ us hl => match us, hl with | [_, _], _ => rfl, F.kp⟩
  have tk : Takes (cxOf (L2.CX P w) P w K mg base ["self", "other", "k"] "Want.__and__" (defScope s_Want__and) (a_Want__and K) cdv A outer s H E) (fun c d _ H => E c d H) := takes_of rfl rfl rfl rfl
  exact (dss_cons (ds_if (dt_not (dt_val (de_isi (by rfl) T.n_isinstance T.isa rfl rfl (dv 1) (pe_glob (by rfl) T.g_Want rfl)))) (dss_one ds_never) dss_nil)
  (dss_one (ds_ret (de_makeWk false 0 1 tk rfl T.mk_Want F_Want__init rfl (hr.mono (by decide)) (by rfl) T.g_Want Bk_Want__init (de_callTy call_tuple_of d_tupOf (by rfl) T.n_tuple (by decide +kernel) (da_cons (de_lc (own := [("k", 2)]) false rfl rfl sc_Want__and.nd (di_seq rfl (de_tup (da_cons de_int (da_cons de_int da_nil)))) (blkOk_by (own := [("k", 2)]) rfl) (by decide) (fun _ _ _ _ _ => (tg_nm (i := 2) sc_Want__and.nd rfl (by first | exact Or.inl rfl | exact Or.inr rfl))) (fun _ _ _ _ _ => dts_nil) (fun _ _ _ _ _ => (de_call takes0 F_common ar_common (hr.mono (by decide)) (by rfl) T.g_common kp_common B_common .nil (fun _ _ _ => .nil) (da_cons (de_ix ix_seq d_ix (de_fld 0 0 rfl T.cl_Want T.no_Want_halves nd_Want rfl (dv 0)) (dv 2)) (da_cons (de_ix ix_seq d_ix (de_fld 0 0 rfl T.cl_Want T.no_Want_halves nd_Want rfl (dv 1)) (dv 2)) da_nil))))) da_nil))))))
theorem sc_Want__xor : FnScope ["self", "other"] ["self", "other"] (defScope s_Want__xor) := ⟨rfl, rfl, rfl, by decide +kernel, rfl, by decide +kernel, by decide +kernel⟩
def b_Want__xor_0 : MS := (sIf (tNotM (mTst (mIsi [0] (.own 0) (mVar 1)))) sNever sNext)
def b_Want__xor_1 : MS := (sRet (mBinO 0 m_Want__or (mMeth 0 m_Want_without [] (mVar 0) (mCons (mVar 1) mNil)) (mMeth 0 m_Want_without [] (mVar 1) (mCons (mVar 0) mNil))))
def b_Want__xor : MS := (sSeq b_Want__xor_0 b_Want__xor_1)
def m_Want__xor : MF := mDef 2 2 b_Want__xor
theorem e_Want__xor (x0 x1 : D) (C : Store) : m_Want__xor [x0, x1] C = finS C.length (b_Want__xor ⟨C.length, [some x0, some x1]⟩ C) := mDef_e rfl rfl
theorem ar_Want__xor : Ar 2 m_Want__xor := mDef_ar
theorem ok_Want__xor (T : Txt K mg) : ∃ fd, FnG P w K mg base 7 (a_Want__xor K) fd ["self", "other"] (SpD (cn K) 2 m_Want__xor) ∧ Binds K fd ["self", "other"] [] ∧ PySem.W.keepIn K (.ref (a_Want__xor K)) = true := by
  obtain ⟨fd_Want_without, F_Want_without, B_Want_without, kp_Want_without⟩ := ok_Want_without (P := P) (w := w) (base := base) T
  obtain ⟨fd_Want__or, F_Want__or, B_Want__or, kp_Want__or⟩ := ok_Want__or (P := P) (w := w) (base := base) T
  obtain ⟨fd, F⟩ := T.f_Want__xor
  refine ⟨fd, fn_ok (k := cn K) F sc_Want__xor (by decide) fun cdv A outer s H E hr => ?_, F.bindsN fun _ _ _ _ _ _ us hl => match us, hl with | [_, _], _ => rfl, F.kp⟩
  have tk : Takes (cxOf (L2.CX P w) P w K mg base ["self", "other"] "Want.__xor__" (defScope s_Want__xor) (a_Want__xor K) cdv A outer s H E) (fun c d _ H => E c d H) := takes_of rfl rfl rfl rfl
  exact (dss_cons (ds_if (dt_not (dt_val (de_isi (by rfl) T.n_isinstance T.isa rfl rfl (dv 1) (pe_glob (by rfl) T.g_Want rfl)))) (dss_one ds_never) dss_nil)
  (dss_one (ds_ret (de_binO 0 tk rfl (de_meth 0 tk rfl (dv 0) T.cl_Want T.me_Want_without F_Want_without ar_Want_without nm_Want_without (hr.mono (by decide)) B_Want_without .nil (fun _ _ _ => .nil) (da_cons (dv 1) da_nil)) (de_meth 0 tk rfl (dv 1) T.cl_Want T.me_Want_without F_Want_without ar_Want_without nm_Want_without (hr.mono (by decide)) B_Want_without .nil (fun _ _ _ => .nil) (da_cons (dv 0) da_nil)) T.sf_Want T.dn_Want__or.at_ T.dn_Want__or.fn F_Want__or ar_Want__or (hr.mono (by decide)) B_Want__or))))
theorem sc_Want__add : FnScope ["self", "other"] ["self", "other"] (defScope s_Want__add) := ⟨rfl, rfl, rfl, by decide +kernel, rfl, by decide +kernel, by decide +kernel⟩
def b_Want__add_0 : MS := (sIf (tNotM (mTst (mCall m_is_integer [] (mCons (mVar 1) mNil)))) sNever sNext)
def b_Want__add_1 : MS := (sRet (mMake false 0 1 (vaM .kw 1 m_Want__init) [] (mCons (mCall m_halves_moved [] (mCons (mUn (oFld 0 0) (mVar 0)) (mCons (mVar 1) mNil))) mNil)))
def b_Want__add : MS := (sSeq b_Want__add_0 b_Want__add_1)
def m_Want__add : MF := mDef 2 2 b_Want__add
theorem e_Want__add (x0 x1 : D) (C : Store) : m_Want__add [x0, x1] C = finS C.length (b_Want__add ⟨C.length, [some x0, some x1]⟩ C) := mDef_e rfl rfl
theorem ar_Want__add : Ar 2 m_Want__add := mDef_ar
theorem ok_Want__add (T : Txt K mg) : ∃ fd, FnG P w K mg base 6 (a_Want__add K) fd ["self", "other"] (SpD (cn K) 2 m_Want__add) ∧ Binds K fd ["self", "other"] [] ∧ PySem.W.keepIn K (.ref (a_Want__add K)) = true := by
  obtain ⟨fd_is_integer, F_is_integer, B_is_integer, kp_is_integer⟩ := ok_is_integer (P := P) (w := w) (base := base) T
  obtain ⟨fd_Want__init, F_Want__init, Bn0_Want__init, Bn1_Want__init, Bn2_Want__init, Bk_Want__init⟩ := ok_Want__init (P := P) (w := w) (base := base) T
  obtain ⟨fd_halves_moved, F_halves_moved, B_halves_moved, kp_halves_moved⟩ := ok_halves_moved (P := P) (w := w) (base := base) T
  obtain ⟨fd, F⟩ := T.f_Want__add
  refine ⟨fd, fn_ok (k := cn K) F sc_Want__add (by decide) fun cdv A outer s H E hr => ?_, F.bindsN fun _ _ _ _ _ _ us hl => match us, hl with | [_, _], _ => rfl, F.kp⟩
  have tk : Takes (cxOf (L2.CX P w) P w K mg base ["self", "other"] "Want.__add__" (defScope s_Want__add) (a_Want__add K) cdv A outer s H E) (fun c d _ H => E c d H) := takes_of rfl rfl rfl rfl
  exact (dss_cons (ds_if (dt_not (dt_val (de_call tk F_is_integer ar_is_integer (hr.mono (by decide)) (by rfl) T.g_is_integer kp_is_integer B_is_integer .nil (fun _ _ _ => .nil) (da_cons (dv 1) da_nil)))) (dss_one ds_never) dss_nil)
  (dss_one (ds_ret (de_makeWk false 0 1 tk rfl T.mk_Want F_Want__init rfl (hr.mono (by decide)) (by rfl) T.g_Want Bk_Want__init (de_call tk F_halves_moved ar_halves_moved (hr.mono (by decide)) (by rfl) T.g_halves_moved kp_halves_moved B_halves_moved .nil (fun _ _ _ => .nil) (da_cons (de_fld 0 0 rfl T.cl_Want T.no_Want_halves nd_Want rfl (dv 0)) (da_cons (dv 1) da_nil)))))))
theorem sc_Want__rsub : FnScope ["self", "other"] ["self", "other"] (defScope s_Want__rsub) := ⟨rfl, rfl, rfl, by decide +kernel, rfl, by decide +kernel, by decide +kernel⟩
def b_Want__rsub_0 : MS := (sIf (tNotM (mTst (mCall m_is_integer [] (mCons (mVar 1) mNil)))) sNever sNext)
def b_Want__rsub_1 : MS := (sRet (mMake false 0 1 (vaM .kw 1 m_Want__init) [] (mCons (mCall m_halves_mirrored [] (mCons (mUn (oFld 0 0) (mVar 0)) (mCons (mVar 1) mNil))) mNil)))
def b_Want__rsub : MS := (sSeq b_Want__rsub_0 b_Want__rsub_1)
def m_Want__rsub : MF := mDef 2 2 b_Want__rsub
theorem e_Want__rsub (x0 x1 : D) (C : Store) : m_Want__rsub [x0, x1] C = finS C.length (b_Want__rsub ⟨C.length, [some x0, some x1]⟩ C) := mDef_e rfl rfl
theorem ar_Want__rsub : Ar 2 m_Want__rsub := mDef_ar
theorem ok_Want__rsub (T : Txt K mg) : ∃ fd, FnG P w K mg base 6 (a_Want__rsub K) fd ["self", "other"] (SpD (cn K) 2 m_Want__rsub) ∧ Binds K fd ["self", "other"] [] ∧ PySem.W.keepIn K (.ref (a_Want__rsub K)) = true := by
  obtain ⟨fd_is_integer, F_is_integer, B_is_integer, kp_is_integer⟩ := ok_is_integer (P := P) (w := w) (base := base) T
  obtain ⟨fd_Want__init, F_Want__init, Bn0_Want__init, Bn1_Want__init, Bn2_Want__init, Bk_Want__init⟩ := ok_Want__init (P := P) (w := w) (base := base) T
  obtain ⟨fd_halves_mirrored, F_halves_mirrored, B_halves_mirrored, kp_halves_mirrored⟩ := ok_halves_mirrored (P := P) (w := w) (base := base) T
  obtain ⟨fd, F⟩ := T.f_Want__rsub
  refine ⟨fd, fn_ok (k := cn K) F sc_Want__rsub (by decide) fun cdv A outer s H E hr => ?_, F.bindsN fun _ _ _ _ _ _ us hl => match us, hl with | [_, _], _ => rfl, F.kp⟩
  have tk : Takes (cxOf (L2.CX P w) P w K mg base ["self", "other"] "Want.__rsub__" (defScope s_Want__rsub) (a_Want__rsub K) cdv A outer s H E) (fun c d _ H => E c d H) := takes_of rfl rfl rfl rfl
  exact (dss_cons (ds_if (dt_not (dt_val (de_call tk F_is_integer ar_is_integer (hr.mono (by decide)) (by rfl) T.g_is_integer kp_is_integer B_is_integer .nil (fun _ _ _ => .nil) (da_cons (dv 1) da_nil)))) (dss_one ds_never) dss_nil)
  (dss_one (ds_ret (de_makeWk false 0 1 tk rfl T.mk_Want F_Want__init rfl (hr.mono (by decide)) (by rfl) T.g_Want Bk_Want__init (de_call tk F_halves_mirrored ar_halves_mirrored (hr.mono (by decide)) (by rfl) T.g_halves_mirrored kp_halves_mirrored B_halves_mirrored .nil (fun _ _ _ => .nil) (da_cons (de_fld 0 0 rfl T.cl_Want T.no_Want_halves nd_Want rfl (dv 0)) (da_cons (dv 1) da_nil)))))))
theorem sc_Want__neg : FnScope ["self"] ["self"] (defScope s_Want__neg) := ⟨rfl, rfl, rfl, by decide +kernel, rfl, by decide +kernel, by decide +kernel⟩
def b_Want__neg : MS := (sRet (mMake false 0 1 (vaM .kw 1 m_Want__init) [] (mCons (mCall m_halves_mirrored [] (mCons (mUn (oFld 0 0) (mVar 0)) (mCons (mC (.int 0)) mNil))) mNil)))
def m_Want__neg : MF := mDef 1 1 b_Want__neg
theorem e_Want__neg (x0 : D) (C : Store) : m_Want__neg [x0] C = finS C.length (b_Want__neg ⟨C.length, [some x0]⟩ C) := mDef_e rfl rfl
theorem ar_Want__neg : Ar 1 m_Want__neg := mDef_ar
theorem ok_Want__neg (T : Txt K mg) : ∃ fd, FnG P w K mg base 6 (a_Want__neg K) fd ["self"] (SpD (cn K) 1 m_Want__neg) ∧ Binds K fd ["self"] [] ∧ PySem.W.keepIn K (.ref (a_Want__neg K)) = true := by
  obtain ⟨fd_Want__init, F_Want__init, Bn0_Want__init, Bn1_Want__init, Bn2_Want__init, Bk_Want__init⟩ := ok_Want__init (P := P) (w := w) (base := base) T
  obtain ⟨fd_halves_mirrored, F_halves_mirrored, B_halves_mirrored, kp_halves_mirrored⟩ := ok_halves_mirrored (P := P) (w := w) (base := base) T
  obtain ⟨fd, F⟩ := T.f_Want__neg
  refine ⟨fd, fn_ok (k := cn K) F sc_Want__neg (by decide) fun cdv A outer s H E hr => ?_, F.bindsN fun _ _ _ _ _ _ us hl => match us, hl with | [_], _ => rfl, F.kp⟩
  have tk : Takes (cxOf (L2.CX P w) P w K mg base ["self"] "Want.__neg__" (defScope s_Want__neg) (a_Want__neg K) cdv A outer s H E) (fun c d _ H => E c d H) := takes_of rfl rfl rfl rfl
  exact (dss_one (ds_ret (de_makeWk false 0 1 tk rfl T.mk_Want F_Want__init rfl (hr.mono (by decide)) (by rfl) T.g_Want Bk_Want__init (de_call tk F_halves_mirrored ar_halves_mirrored (hr.mono (by decide)) (by rfl) T.g_halves_mirrored kp_halves_mirrored B_halves_mirrored .nil (fun _ _ _ => .nil) (da_cons (de_fld 0 0 rfl T.cl_Want T.no_Want_halves nd_Want rfl (dv 0)) (da_cons de_int da_nil))))))
theorem sc_Want__contains : FnScope ["self", "thing", "low", "high"] ["self", "thing"] (defScope s_Want__contains) := ⟨rfl, rfl, rfl, by decide +kernel, rfl, by decide +kernel, by decide +kernel⟩
def b_Want__contains_0 : MS := (sIf (tNotM (mTst (mCall m_is_integer [] (mCons (mVar 1) mNil)))) (sRet (mC (.bl false))) sNext)
def b_Want__contains_1 : MS := (sRet (mAp oAny (mCons (mLc false (mSeq (mOp oIx (mUn (oFld 0 0) (mVar 0)) (mOp oMod (mVar 1) (mC (.int 2))))) (Tgt.tp [2, 3]).M tYesM (mChain oLe oLe (mVar 2) (mVar 1) (mVar 3)) [2, 3]) mNil)))
def b_Want__contains : MS := (sSeq b_Want__contains_0 b_Want__contains_1)
def m_Want__contains : MF := mDef 2 4 b_Want__contains
theorem e_Want__contains (x0 x1 : D) (C : Store) : m_Want__contains [x0, x1] C = finS C.length (b_Want__contains ⟨C.length, [some x0, some x1, none, none]⟩ C) := mDef_e rfl rfl
theorem ar_Want__contains : Ar 2 m_Want__contains := mDef_ar
theorem ok_Want__contains (T : Txt K mg) : ∃ fd, FnG P w K mg base 2 (a_Want__contains K) fd ["self", "thing"] (SpD (cn K) 2 m_Want__contains) ∧ Binds K fd ["self", "thing"] [] ∧ PySem.W.keepIn K (.ref (a_Want__contains K)) = true := by
  obtain ⟨fd_is_integer, F_is_integer, B_is_integer, kp_is_integer⟩ := ok_is_integer (P := P) (w := w) (base := base) T
  obtain ⟨fd, F⟩ := T.f_Want__contains
  refine ⟨fd, fn_ok (k := cn K) F sc_Want__contains (by decide) fun cdv A outer s H E hr => ?_, F.bindsN fun _ _ _ _ _ _ us hl => match us, hl with | [_, _], _ => rfl, F.kp⟩
  have tk : Takes (cxOf (L2.CX P w) P w K mg base ["self", "thing", "low", "high"] "Want.__contains__" (defScope s_Want__contains) (a_Want__contains K) cdv A outer s H E) (fun c d _ H => E c d H) := takes_of rfl rfl rfl rfl
  exact (dss_cons (ds_if (dt_not (dt_val (de_call tk F_is_integer ar_is_integer (hr.mono (by decide)) (by rfl) T.g_is_integer kp_is_integer B_is_integer .nil (fun _ _ _ => .nil) (da_cons (dv 1) da_nil)))) (dss_one (ds_ret de_bl)) dss_nil)
  (dss_one (ds_ret (de_callB (cr_any rfl) d_any (by rfl) T.n_any (by decide +kernel) (da_cons (de_lc (own := [("low", 2), ("high", 3)]) false rfl rfl sc_Want__contains.nd (di_seq rfl (de_ix ix_seq d_ix (de_fld 0 0 rfl T.cl_Want T.no_Want_halves nd_Want rfl (dv 0)) (de_op op_mod d_mod (dv 1) de_int))) (blkOk_by (own := [("low", 2), ("high", 3)]) rfl) (by decide) (fun _ _ _ _ _ => (tg_tp [2, 3] rfl rfl (pgs_cons (pg_name (i := 2) sc_Want__contains.nd rfl (by first | exact Or.inl rfl | exact Or.inr rfl)) (pgs_cons (pg_name (i := 3) sc_Want__contains.nd rfl (by first | exact Or.inl rfl | exact Or.inr rfl)) pgs_nil)))) (fun _ _ _ _ _ => dts_nil) (fun _ _ _ _ _ => (de_chain op_le d_le op_le d_le (dv 2) (dv 1) (dv 3)))) da_nil)))))
theorem sc_Want__bool : FnScope ["self"] ["self"] (defScope s_Want__bool) := ⟨rfl, rfl, rfl, by decide +kernel, rfl, by decide +kernel, by decide +kernel⟩
def b_Want__bool : MS := (sRet (mAp oBoolT (mCons (mOrT (mOp oIx (mUn (oFld 0 0) (mVar 0)) (mC (.int 0))) (mOp oIx (mUn (oFld 0 0) (mVar 0)) (mC (.int 1)))) mNil)))
def m_Want__bool : MF := mDef 1 1 b_Want__bool
theorem e_Want__bool (x0 : D) (C : Store) : m_Want__bool [x0] C = finS C.length (b_Want__bool ⟨C.length, [some x0]⟩ C) := mDef_e rfl rfl
theorem ar_Want__bool : Ar 1 m_Want__bool := mDef_ar
theorem ok_Want__bool (T : Txt K mg) : ∃ fd, FnG P w K mg base 1 (a_Want__bool K) fd ["self"] (SpD (cn K) 1 m_Want__bool) ∧ Binds K fd ["self"] [] ∧ PySem.W.keepIn K (.ref (a_Want__bool K)) = true := by
  obtain ⟨fd, F⟩ := T.f_Want__bool
  refine ⟨fd, fn_ok (k := cn K) F sc_Want__bool (by decide) fun cdv A outer s H E hr => ?_, F.bindsN fun _ _ _ _ _ _ us hl => match us, hl with | [_], _ => rfl, F.kp⟩
  have tk : Takes (cxOf (L2.CX P w) P w K mg base ["self"] "Want.__bool__" (defScope s_Want__bool) (a_Want__bool K) cdv A outer s H E) (fun c d _ H => E c d H) := takes_of rfl rfl rfl rfl
  exact (dss_one (ds_ret (de_callTy call_boolT d_boolT (by rfl) T.n_bool (by decide +kernel) (da_cons (de_orT rfl (de_ix ix_seq d_ix (de_fld 0 0 rfl T.cl_Want T.no_Want_halves nd_Want rfl (dv 0)) de_int) (de_ix ix_seq d_ix (de_fld 0 0 rfl T.cl_Want T.no_Want_halves nd_Want rfl (dv 0)) de_int)) da_nil))))
theorem sc_Want__eq : FnScope ["self", "other"] ["self", "other"] (defScope s_Want__eq) := ⟨rfl, rfl, rfl, by decide +kernel, rfl, by decide +kernel, by decide +kernel⟩
def b_Want__eq : MS := (sRet (mAnd (mIsi [0] (.own 0) (mVar 1)) (mOp (oEqA false) (mUn (oFld 0 0) (mVar 0)) (mUn (oFld 0 0) (mVar 1)))))
def m_Want__eq : MF := mDef 2 2 b_Want__eq
theorem e_Want__eq (x0 x1 : D) (C : Store) : m_Want__eq [x0, x1] C = finS C.length (b_Want__eq ⟨C.length, [some x0, some x1]⟩ C) := mDef_e rfl rfl
theorem ar_Want__eq : Ar 2 m_Want__eq := mDef_ar
theorem ok_Want__eq (T : Txt K mg) : ∃ fd, FnG P w K mg base 1 (a_Want__eq K) fd ["self", "other"] (SpD (cn K) 2 m_Want__eq) ∧ Binds K fd ["self", "other"] [] ∧ PySem.W.keepIn K (.ref (a_Want__eq K)) = true := by
  obtain ⟨fd, F⟩ := T.f_Want__eq
  refine ⟨fd, fn_ok (k := cn K) F sc_Want__eq (by decide) fun cdv A outer s H E hr => ?_, F.bindsN fun _ _ _ _ _ _ us hl => match us, hl with | [_, _], _ => rfl, F.kp⟩
  have tk : Takes (cxOf (L2.CX P w) P w K mg base ["self", "other"] "Want.__eq__" (defScope s_Want__eq) (a_Want__eq K) cdv A outer s H E) (fun c d _ H => E c d H) := takes_of rfl rfl rfl rfl
  exact (dss_one (ds_ret (de_and (de_isi (by rfl) T.n_isinstance T.isa rfl rfl (dv 1) (pe_glob (by rfl) T.g_Want rfl)) (de_one (de_cmp (op_eq.or (op_eqD hr.room.units)) d_eqA (de_fld 0 0 rfl T.cl_Want T.no_Want_halves nd_Want rfl (dv 0)) (de_fld 0 0 rfl T.cl_Want T.no_Want_halves nd_Want rfl (dv 1)) (nomark _))))))
theorem sc_law_bag : FnScope ["_law_script", "_law_cell"] ["_law_script"] (defScope s_law_bag) := ⟨rfl, rfl, rfl, by decide +kernel, rfl, by decide +kernel, by decide +kernel⟩
def b_law_bag : MS := (sRet (mAp (oLst true) (mCons (mC (.int 0)) (mCons (mC (.int 1234567891)) (mCons (mC (.int 0)) (mCons (mLc false (mSeq (mSlL false (mVar 0) mNoPart (mPart (mC (.int 63))))) (Tgt.nm 1).M tYesM (mAp oAbs (mCons (mVar 1) mNil)) [1]) mNil))))))
def m_law_bag : MF := mDefO 1 2 b_law_bag
theorem ar_law_bag : Ar 1 m_law_bag := mDefO_ar
theorem ok_law_bag (T : Txt K mg) : ∃ fd, FnG P w K mg base 1 (a_law_bag K) fd ["_law_script"] (SpD (cn K) 1 m_law_bag) ∧ Binds K fd ["_law_script"] [] ∧ PySem.W.keepIn K (.ref (a_law_bag K)) = true := by
  obtain ⟨fd, F⟩ := T.f_law_bag
  refine ⟨fd, fn_okO (k := cn K) F sc_law_bag (by decide) fun cdv A outer s H E hr => ?_, F.bindsN fun _ _ _ _ _ _ us hl => match us, hl with | [_], _ => rfl, F.kp⟩
  have tk : Takes (cxOf (L2.CX P w) P w K mg base ["_law_script", "_law_cell"] "_law_bag" (defScope s_law_bag) (a_law_bag K) cdv A outer s H E) (fun c d _ H => E c d H) := takes_of rfl rfl rfl rfl
  exact (dss_one (ds_ret (de_lst true (da_cons de_int (da_cons de_int (da_cons de_int (da_cons (de_lc (own := [("_law_cell", 1)]) false rfl rfl sc_law_bag.nd (di_seq rfl (de_slL false rfl (dv 0) do_none (do_some de_int))) (blkOk_by (own := [("_law_cell", 1)]) rfl) (by decide) (fun _ _ _ _ _ => (tg_nm (i := 1) sc_law_bag.nd rfl (by first | exact Or.inl rfl | exact Or.inr rfl))) (fun _ _ _ _ _ => dts_nil) (fun _ _ _ _ _ => (de_callB call_abs d_abs (by rfl) T.n_abs (by decide +kernel) (da_cons (dv 1) da_nil)))) da_nil)))))))
theorem sc_law_take : FnScope ["_law_bag_here", "_law_many", "_law_cell", "_law_mixed", "_law_drawn", "_law_early", "_law_second"] ["_law_bag_here", "_law_many"] (defScope s_law_take) := ⟨rfl, rfl, rfl, by decide +kernel, rfl, by decide +kernel, by decide +kernel⟩
def b_law_take_0t_0 : MS := (sAsg (mC (.int 0)) (gN 2))
def b_law_take_0t_1 : MS := (sIf (mTst (mOp oLt (mOp oIx (mVar 0) (mC (.int 2))) (mAp oLen (mCons (mOp oIx (mVar 0) (mC (.int 3))) mNil)))) (sAsg (mOp oIx (mOp oIx (mVar 0) (mC (.int 3))) (mOp oIx (mVar 0) (mC (.int 2)))) (gN 2)) sNext)
def b_law_take_0t_2 : MS := (sAugL (· + ·) (mVar 0) (mC (.int 2)) (mC (.int 1)))
def b_law_take_0t_3 : MS := (sIf (mTst (mOp oGe (mVar 2) (mC (.int 1000000000000000000)))) (sSetL (mVar 2) (mVar 0) (mC (.int 0))) sNext)
def b_law_take_0t_4 : MS := (sAsg (mOp oAdd (mOp oAdd (mOp oMul (mOp oIx (mVar 0) (mC (.int 1))) (mC (.int 48271))) (mOp oMod (mAp oInt (mCons (mVar 2) mNil)) (mC (.int 2147483647)))) (mOp oMul (mC (.int 7919)) (mOp oIx (mVar 0) (mC (.int 2))))) (gN 3))
def b_law_take_0t_5 : MS := (sSetL (mOp oMod (mAp oInt (mCons (mVar 3) mNil)) (mC (.int 2147483647))) (mVar 0) (mC (.int 1)))
def b_law_take_0 : MS := (sIf (mTst (mOp (oEqA false) (mOp oIx (mVar 0) (mC (.int 0))) (mC (.int 0)))) (sSeq b_law_take_0t_0 (sSeq b_law_take_0t_1 (sSeq b_law_take_0t_2 (sSeq b_law_take_0t_3 (sSeq b_law_take_0t_4 b_law_take_0t_5))))) sNext)
def b_law_take_1t_0 : MS := (sAsg (mOp oMod (mAp oInt (mCons (mOp oIx (mVar 0) (mC (.int 0))) mNil)) (mVar 1)) (gN 4))
def b_law_take_1t_1 : MS := (sSetL (mOp oDiv (mAp oInt (mCons (mOp oIx (mVar 0) (mC (.int 0))) mNil)) (mVar 1)) (mVar 0) (mC (.int 0)))
def b_law_take_1t_2 : MS := (sRet (mVar 4))
def b_law_take_1 : MS := (sIf (mTst (mOp oGt (mOp oIx (mVar 0) (mC (.int 0))) (mC (.int 0)))) (sSeq b_law_take_1t_0 (sSeq b_law_take_1t_1 b_law_take_1t_2)) sNext)
def b_law_take_2 : MS := (sAsg (mOp oMod (mAp oInt (mCons (mOp oMul (mOp oAdd (mOp oIx (mVar 0) (mC (.int 1))) (mC (.int 1))) (mC (.int 39373))) mNil)) (mC (.int 1000000007))) (gN 5))
def b_law_take_3 : MS := (sAsg (mOp oMod (mAp oInt (mCons (mOp oMul (mOp oMod (mAp oInt (mCons (mOp oMul (mVar 5) (mVar 5)) mNil)) (mC (.int 998244353))) (mC (.int 30011))) mNil)) (mC (.int 998244353))) (gN 6))
def b_law_take_4 : MS := (sRet (mOp oMod (mAp oInt (mCons (mOp oDiv (mVar 6) (mC (.int 7))) mNil)) (mVar 1)))
def b_law_take : MS := (sSeq b_law_take_0 (sSeq b_law_take_1 (sSeq b_law_take_2 (sSeq b_law_take_3 b_law_take_4))))
def m_law_take : MF := mDef 2 7 b_law_take
theorem e_law_take (x0 x1 : D) (C : Store) : m_law_take [x0, x1] C = finS C.length (b_law_take ⟨C.length, [some x0, some x1, none, none, none, none, none]⟩ C) := mDef_e rfl rfl
theorem ar_law_take : Ar 2 m_law_take := mDef_ar
theorem ok_law_take (T : Txt K mg) : ∃ fd, FnG P w K mg base 1 (a_law_take K) fd ["_law_bag_here", "_law_many"] (SpD (cn K) 2 m_law_take) ∧ Binds K fd ["_law_bag_here", "_law_many"] [] ∧ PySem.W.keepIn K (.ref (a_law_take K)) = true := by
  obtain ⟨fd, F⟩ := T.f_law_take
  refine ⟨fd, fn_ok (k := cn K) F sc_law_take (by decide) fun cdv A outer s H E hr => ?_, F.bindsN fun _ _ _ _ _ _ us hl => match us, hl with | [_, _], _ => rfl, F.kp⟩
  have tk : Takes (cxOf (L2.CX P w) P w K mg base ["_law_bag_here", "_law_many", "_law_cell", "_law_mixed", "_law_drawn", "_law_early", "_law_second"] "_law_take" (defScope s_law_take) (a_law_take K) cdv A outer s H E) (fun c d _ H => E c d H) := takes_of rfl rfl rfl rfl
  exact (dss_cons (ds_if (dt_cmp (op_eq.or (op_eqD hr.room.units)) d_eqA (de_ix ix_seq d_ix (dv 0) de_int) de_int (nomark _)) (dss_cons (ds_set (i := 2) sc_law_take.nd rfl (Or.inl rfl) de_int)
  (dss_cons (ds_if (dt_cmp op_lt d_lt (de_ix ix_seq d_ix (dv 0) de_int) (de_callB call_len_seq d_len (by rfl) T.n_len (by decide +kernel) (da_cons (de_ix ix_seq d_ix (dv 0) de_int) da_nil)) (nomark _)) (dss_one (ds_set (i := 2) sc_law_take.nd rfl (Or.inl rfl) (de_ix ix_seq d_ix (de_ix ix_seq d_ix (dv 0) de_int) (de_ix ix_seq d_ix (dv 0) de_int)))) dss_nil)
  (dss_cons (ds_augL ip_add (dv 0) de_int de_int)
  (dss_cons (ds_if (dt_cmp op_ge d_ge (dv 2) de_int (nomark _)) (dss_one (ds_setL (dv 2) (pg_sub (dv 0) de_int set_list))) dss_nil)
  (dss_cons (ds_set (i := 3) sc_law_take.nd rfl (Or.inl rfl) (de_op op_add d_add (de_op op_add d_add (de_op op_mul d_mul (de_ix ix_seq d_ix (dv 0) de_int) de_int) (de_op op_mod d_mod (de_callTy call_int1 d_int (by rfl) T.n_int (by decide +kernel) (da_cons (dv 2) da_nil)) de_int)) (de_op op_mul d_mul de_int (de_ix ix_seq d_ix (dv 0) de_int))))
  (dss_one (ds_setL (de_op op_mod d_mod (de_callTy call_int1 d_int (by rfl) T.n_int (by decide +kernel) (da_cons (dv 3) da_nil)) de_int) (pg_sub (dv 0) de_int set_list)))))))) dss_nil)
  (dss_cons (ds_if (dt_cmp op_gt d_gt (de_ix ix_seq d_ix (dv 0) de_int) de_int (nomark _)) (dss_cons (ds_set (i := 4) sc_law_take.nd rfl (Or.inl rfl) (de_op op_mod d_mod (de_callTy call_int1 d_int (by rfl) T.n_int (by decide +kernel) (da_cons (de_ix ix_seq d_ix (dv 0) de_int) da_nil)) (dv 1)))
  (dss_cons (ds_setL (de_op op_fdivW d_div (de_callTy call_int1 d_int (by rfl) T.n_int (by decide +kernel) (da_cons (de_ix ix_seq d_ix (dv 0) de_int) da_nil)) (dv 1)) (pg_sub (dv 0) de_int set_list))
  (dss_one (ds_ret (dv 4))))) dss_nil)
  (dss_cons (ds_set (i := 5) sc_law_take.nd rfl (Or.inl rfl) (de_op op_mod d_mod (de_callTy call_int1 d_int (by rfl) T.n_int (by decide +kernel) (da_cons (de_op op_mul d_mul (de_op op_add d_add (de_ix ix_seq d_ix (dv 0) de_int) de_int) de_int) da_nil)) de_int))
  (dss_cons (ds_set (i := 6) sc_law_take.nd rfl (Or.inl rfl) (de_op op_mod d_mod (de_callTy call_int1 d_int (by rfl) T.n_int (by decide +kernel) (da_cons (de_op op_mul d_mul (de_op op_mod d_mod (de_callTy call_int1 d_int (by rfl) T.n_int (by decide +kernel) (da_cons (de_op op_mul d_mul (dv 5) (dv 5)) da_nil)) de_int) de_int) da_nil)) de_int))
  (dss_one (ds_ret (de_op op_mod d_mod (de_callTy call_int1 d_int (by rfl) T.n_int (by decide +kernel) (da_cons (de_op op_fdivW d_div (dv 6) de_int) da_nil)) (dv 1))))))))
theorem sc_law_runs : FnScope ["_law_xs", "_law_side", "_law_found", "_law_x"] ["_law_xs", "_law_side"] (defScope s_law_runs) := ⟨rfl, rfl, rfl, by decide +kernel, rfl, by decide +kernel, by decide +kernel⟩
def b_law_runs_0 : MS := (sAsg (mAp (oLst true) mNil) (gN 2))
def b_law_runs_1b_0 : MS := (sIf (mTst (mOp (oEqA false) (mOp oMod (mAp oInt (mCons (mVar 3) mNil)) (mC (.int 2))) (mVar 1))) (sIf (tAndM (mTst (mOp (oEqA true) (mVar 2) (mAp (oLst false) mNil))) (mTst (mOp (oEqA false) (mVar 3) (mOp oAdd (mOp oIx (mOp oIx (mVar 2) (mUn oNeg (mC (.int 1)))) (mC (.int 1))) (mC (.int 2)))))) (sSetL (mAp oTup (mCons (mOp oIx (mOp oIx (mVar 2) (mUn oNeg (mC (.int 1)))) (mC (.int 0))) (mCons (mVar 3) mNil))) (mVar 2) (mUn oNeg (mC (.int 1)))) (sDrop (mAppend (mVar 2) (mAp oTup (mCons (mVar 3) (mCons (mVar 3) mNil)))))) sNext)
def b_law_runs_1 : MS := (sFor (mSeq (mAp (oSortS false) (mCons (mVar 0) mNil))) (Tgt.nm 3).M b_law_runs_1b_0)
def b_law_runs_2 : MS := (sRet (mAp oTupOf (mCons (mVar 2) mNil)))
def b_law_runs : MS := (sSeq b_law_runs_0 (sSeq b_law_runs_1 b_law_runs_2))
def m_law_runs : MF := mDef 2 4 b_law_runs
theorem e_law_runs (x0 x1 : D) (C : Store) : m_law_runs [x0, x1] C = finS C.length (b_law_runs ⟨C.length, [some x0, some x1, none, none]⟩ C) := mDef_e rfl rfl
theorem ar_law_runs : Ar 2 m_law_runs := mDef_ar
theorem ok_law_runs (T : Txt K mg) : ∃ fd, FnG P w K mg base 1 (a_law_runs K) fd ["_law_xs", "_law_side"] (SpD (cn K) 2 m_law_runs) ∧ Binds K fd ["_law_xs", "_law_side"] [] ∧ PySem.W.keepIn K (.ref (a_law_runs K)) = true := by
  obtain ⟨fd, F⟩ := T.f_law_runs
  refine ⟨fd, fn_ok (k := cn K) F sc_law_runs (by decide) fun cdv A outer s H E hr => ?_, F.bindsN fun _ _ _ _ _ _ us hl => match us, hl with | [_, _], _ => rfl, F.kp⟩
  have tk : Takes (cxOf (L2.CX P w) P w K mg base ["_law_xs", "_law_side", "_law_found", "_law_x"] "_law_runs" (defScope s_law_runs) (a_law_runs K) cdv A outer s H E) (fun c d _ H => E c d H) := takes_of rfl rfl rfl rfl
  exact (dss_cons (ds_set (i := 2) sc_law_runs.nd rfl (Or.inl rfl) (de_lst true da_nil))
  (dss_cons (ds_for (passes_of rfl) rfl (di_seq rfl (de_sortS false rfl rfl (by rfl) T.n_sorted (by rfl) T.n_set (da_cons (dv 0) da_nil))) (tg_nm (i := 3) sc_law_runs.nd rfl (Or.inl rfl)) (dss_one (ds_if (dt_cmp (op_eq.or (op_eqD hr.room.units)) d_eqA (de_op op_mod d_mod (de_callTy call_int1 d_int (by rfl) T.n_int (by decide +kernel) (da_cons (dv 3) da_nil)) de_int) (dv 1) (nomark _)) (dss_one (ds_if (PW.pt (dw_and (dt_cmp (op_ne.or (op_neD hr.room.units)) d_neA (dv 2) (de_lst false da_nil) (nomark _)) (dw_and1 (dt_cmp (op_eq.or (op_eqD hr.room.units)) d_eqA (dv 3) (de_op op_add d_add (de_ix ix_seq d_ix (de_ix ix_seq d_ix (dv 2) (de_un un_neg d_neg de_int)) de_int) de_int) (nomark _))))) (dss_one (ds_setL (de_tup (da_cons (de_ix ix_seq d_ix (de_ix ix_seq d_ix (dv 2) (de_un un_neg d_neg de_int)) de_int) (da_cons (dv 3) da_nil))) (pg_sub (dv 2) (de_un un_neg d_neg de_int) set_list))) (dss_one (ds_expr (de_append rfl (dv 2) (de_tup (da_cons (dv 3) (da_cons (dv 3) da_nil)))))))) dss_nil)))
  (dss_one (ds_ret (de_callTy call_tuple_of d_tupOf (by rfl) T.n_tuple (by decide +kernel) (da_cons (dv 2) da_nil))))))
theorem sc_law_is : FnScope ["_law_told", "_law_xs", "_law_due"] ["_law_told", "_law_xs"] (defScope s_law_is) := ⟨rfl, rfl, rfl, by decide +kernel, rfl, by decide +kernel, by decide +kernel⟩
def b_law_is_0 : MS := (sIf (tNotM (mTst (mIsi [0] (.own 0) (mVar 0)))) (sRet (mC (.bl false))) sNext)
def b_law_is_1 : MS := (sAsg (mAp (oLst false) (mCons (mCall m_law_runs [] (mCons (mVar 1) (mCons (mC (.int 0)) mNil))) (mCons (mCall m_law_runs [] (mCons (mVar 1) (mCons (mC (.int 1)) mNil))) mNil))) (gN 2))
def b_law_is_2 : MS := (sRet (mOp (oEqA false) (mAp oRepr (mCons (mAp (oLst false) (mCons (mProp 0 m_Want_evens (mVar 0)) (mCons (mProp 0 m_Want_odds (mVar 0)) mNil))) mNil)) (mAp oRepr (mCons (mVar 2) mNil))))
def b_law_is : MS := (sSeq b_law_is_0 (sSeq b_law_is_1 b_law_is_2))
def m_law_is : MF := mDef 2 3 b_law_is
theorem e_law_is (x0 x1 : D) (C : Store) : m_law_is [x0, x1] C = finS C.length (b_law_is ⟨C.length, [some x0, some x1, none]⟩ C) := mDef_e rfl rfl
theorem ar_law_is : Ar 2 m_law_is := mDef_ar
theorem ok_law_is (T : Txt K mg) : ∃ fd, FnG P w K mg base 3 (a_law_is K) fd ["_law_told", "_law_xs"] (SpD (cn K) 2 m_law_is) ∧ Binds K fd ["_law_told", "_law_xs"] [] ∧ PySem.W.keepIn K (.ref (a_law_is K)) = true := by
  obtain ⟨fd_law_runs, F_law_runs, B_law_runs, kp_law_runs⟩ := ok_law_runs (P := P) (w := w) (base := base) T
  obtain ⟨fd_Want_odds, F_Want_odds, B_Want_odds, kp_Want_odds⟩ := ok_Want_odds (P := P) (w := w) (base := base) T
  obtain ⟨fd_Want_evens, F_Want_evens, B_Want_evens, kp_Want_evens⟩ := ok_Want_evens (P := P) (w := w) (base := base) T
  obtain ⟨fd, F⟩ := T.f_law_is
  refine ⟨fd, fn_ok (k := cn K) F sc_law_is (by decide) fun cdv A outer s H E hr => ?_, F.bindsN fun _ _ _ _ _ _ us hl => match us, hl with | [_, _], _ => rfl, F.kp⟩
  have tk : Takes (cxOf (L2.CX P w) P w K mg base ["_law_told", "_law_xs", "_law_due"] "_law_is" (defScope s_law_is) (a_law_is K) cdv A outer s H E) (fun c d _ H => E c d H) := takes_of rfl rfl rfl rfl
  exact (dss_cons (ds_if (dt_not (dt_val (de_isi (by rfl) T.n_isinstance T.isa rfl rfl (dv 0) (pe_glob (by rfl) T.g_Want rfl)))) (dss_one (ds_ret de_bl)) dss_nil)
  (dss_cons (ds_set (i := 2) sc_law_is.nd rfl (Or.inl rfl) (de_lst false (da_cons (de_call tk F_law_runs ar_law_runs (hr.mono (by decide)) (by rfl) T.g_law_runs kp_law_runs B_law_runs .nil (fun _ _ _ => .nil) (da_cons (dv 1) (da_cons de_int da_nil))) (da_cons (de_call tk F_law_runs ar_law_runs (hr.mono (by decide)) (by rfl) T.g_law_runs kp_law_runs B_law_runs .nil (fun _ _ _ => .nil) (da_cons (dv 1) (da_cons de_int da_nil))) da_nil))))
  (dss_one (ds_ret (de_cmp (op_eq.or (op_eqD hr.room.units)) d_eqA (de_callB (call_reprD (hr.mono (by decide))) d_repr (by rfl) T.n_repr (by decide +kernel) (da_cons (de_lst false (da_cons (de_prop 0 rfl (dv 0) T.cl_Want T.pr_evens F_Want_evens ar_Want_evens (hr.mono (by decide)) B_Want_evens) (da_cons (de_prop 0 rfl (dv 0) T.cl_Want T.pr_odds F_Want_odds ar_Want_odds (hr.mono (by decide)) B_Want_odds) da_nil))) da_nil)) (de_callB (call_reprD (hr.mono (by decide))) d_repr (by rfl) T.n_repr (by decide +kernel) (da_cons (dv 2) da_nil)) (nomark _))))))
theorem sc_law_deed : FnScope ["_law_bag_here", "_law_wants", "_law_lists", "_law_mode", "_law_at", "_law_by", "_law_k", "_law_one_here", "_law_other", "_law_xs", "_law_ys", "_law_late", "_law_x", "_law_y"] ["_law_bag_here", "_law_wants", "_law_lists"] (defScope s_law_deed) := ⟨rfl, rfl, rfl, by decide +kernel, rfl, by decide +kernel, by decide +kernel⟩
def b_law_deed_0 : MS := (sPar [3, 4] (mCons (mCall m_law_take [] (mCons (mVar 0) (mCons (mC (.int 10)) mNil))) (mCons (mCall m_law_take [] (mCons (mVar 0) (mCons (mC (.int 3)) mNil))) mNil)))
def b_law_deed_1 : MS := (sAsg (mAp oTup (mCons (mCall m_law_take [] (mCons (mVar 0) (mCons (mC (.int 3)) mNil))) (mCons (mOp oSub (mCall m_law_take [] (mCons (mVar 0) (mCons (mC (.int 9)) mNil))) (mC (.int 4))) mNil))) (Tgt.tp [5, 6]).M)
def b_law_deed_2 : MS := (sPar [7, 8] (mCons (mOp oIx (mVar 1) (mVar 4)) (mCons (mOp oIx (mVar 1) (mVar 5)) mNil)))
def b_law_deed_3 : MS := (sAsg (mAp oTup (mCons (mOp oIx (mVar 2) (mVar 4)) (mCons (mOp oIx (mVar 2) (mVar 5)) mNil))) (Tgt.tp [9, 10]).M)
def b_law_deed_4 : MS := (sIf (mTst (mOp (oEqA false) (mVar 3) (mC (.int 0)))) (sRet (mAp oTup (mCons (mVar 4) (mCons (mBinO 0 m_Want__or (mVar 7) (mVar 8)) (mCons (mOp (oCat false) (mVar 9) (mVar 10)) mNil))))) sNext)
def b_law_deed_5 : MS := (sIf (mTst (mOp (oEqA false) (mVar 3) (mC (.int 1)))) (sRet (mAp oTup (mCons (mVar 4) (mCons (mBinO 0 m_Want__and (mVar 7) (mVar 8)) (mCons (mLc false (mSeq (mVar 9)) (Tgt.nm 12).M (mTst (mOp (oInD false) (mVar 12) (mVar 10))) (mVar 12) [12]) mNil))))) sNext)
def b_law_deed_6t_0 : MS := (sAsg (mLc false (mSeq (mVar 10)) (Tgt.nm 13).M (mTst (mOp (oInD true) (mVar 13) (mVar 9))) (mVar 13) [13]) (gN 11))
def b_law_deed_6t_1 : MS := (sRet (mAp oTup (mCons (mVar 4) (mCons (mBinO 0 m_Want__xor (mVar 7) (mVar 8)) (mCons (mOp (oCat false) (mLc false (mSeq (mVar 9)) (Tgt.nm 12).M (mTst (mOp (oInD true) (mVar 12) (mVar 10))) (mVar 12) [12]) (mVar 11)) mNil)))))
def b_law_deed_6 : MS := (sIf (mTst (mOp (oEqA false) (mVar 3) (mC (.int 2)))) (sSeq b_law_deed_6t_0 b_law_deed_6t_1) sNext)
def b_law_deed_7 : MS := (sIf (mTst (mOp (oEqA false) (mVar 3) (mC (.int 3)))) (sRet (mAp oTup (mCons (mVar 4) (mCons (mMeth 0 m_Want_without [] (mVar 7) (mCons (mVar 8) mNil)) (mCons (mLc false (mSeq (mVar 9)) (Tgt.nm 12).M (mTst (mOp (oInD true) (mVar 12) (mVar 10))) (mVar 12) [12]) mNil))))) sNext)
def b_law_deed_8 : MS := (sIf (mTst (mOp (oEqA false) (mVar 3) (mC (.int 4)))) (sRet (mAp oTup (mCons (mVar 4) (mCons (mMulR 0 m_Want__add (mVar 7) (mVar 6)) (mCons (mLc false (mSeq (mVar 9)) (Tgt.nm 12).M tYesM (mOp oAdd (mVar 12) (mVar 6)) [12]) mNil))))) sNext)
def b_law_deed_9 : MS := (sIf (mTst (mOp (oEqA false) (mVar 3) (mC (.int 5)))) (sRet (mAp oTup (mCons (mVar 4) (mCons (mMulL 0 m_Want__rsub (mVar 6) (mVar 7)) (mCons (mLc false (mSeq (mVar 9)) (Tgt.nm 12).M tYesM (mOp oSub (mVar 6) (mVar 12)) [12]) mNil))))) sNext)
def b_law_deed_10 : MS := (sIf (mTst (mOp (oEqA false) (mVar 3) (mC (.int 6)))) (sRet (mAp oTup (mCons (mVar 4) (mCons (mBinO 0 m_Want__or (mVar 7) (mMake false 0 1 (vaM .pos 2 m_Want__init) [] (mCons (mVar 6) (mCons (mOp oAdd (mVar 6) (mC (.int 3))) mNil)))) (mCons (mOp (oCat false) (mVar 9) (mAp (oLst false) (mCons (mVar 6) (mCons (mOp oAdd (mVar 6) (mC (.int 3))) mNil)))) mNil))))) sNext)
def b_law_deed_11 : MS := (sIf (mTst (mOp (oEqA false) (mVar 3) (mC (.int 7)))) (sRet (mAp oTup (mCons (mVar 4) (mCons (mMeth 0 m_Want_without [] (mVar 7) (mCons (mMake false 0 1 (vaM .pos 1 m_Want__init) [] (mCons (mVar 6) mNil)) mNil)) (mCons (mLc false (mSeq (mVar 9)) (Tgt.nm 12).M (mTst (mOp (oEqA true) (mVar 12) (mVar 6))) (mVar 12) [12]) mNil))))) sNext)
def b_law_deed_12t_0 : MS := (sAsg (mLc false (mSeq (mVar 9)) (Tgt.nm 12).M (tOrM (mTst (mOp oLt (mVar 12) (mVar 6))) (mTst (mOp oGt (mVar 12) (mOp oAdd (mVar 6) (mC (.int 3)))))) (mVar 12) [12]) (gN 11))
def b_law_deed_12t_1 : MS := (sAsg (mOp (oCat false) (mVar 11) (mLc false (mRng2 (mVar 6) (mOp oAdd (mVar 6) (mC (.int 4)))) (Tgt.nm 12).M (mTst (mOp (oInD true) (mVar 12) (mVar 9))) (mVar 12) [12])) (gN 11))
def b_law_deed_12t_2 : MS := (sRet (mAp oTup (mCons (mVar 4) (mCons (mBinO 0 m_Want__xor (mCall (clM 0 m_Want_between) [] (mCons (mVar 6) (mCons (mOp oAdd (mVar 6) (mC (.int 3))) mNil))) (mVar 7)) (mCons (mVar 11) mNil)))))
def b_law_deed_12 : MS := (sIf (mTst (mOp (oEqA false) (mVar 3) (mC (.int 8)))) (sSeq b_law_deed_12t_0 (sSeq b_law_deed_12t_1 b_law_deed_12t_2)) sNext)
def b_law_deed_13 : MS := (sRet (mAp oTup (mCons (mVar 4) (mCons (mNegO 0 m_Want__neg (mVar 7)) (mCons (mLc false (mSeq (mVar 9)) (Tgt.nm 12).M tYesM (mUn oNeg (mVar 12)) [12]) mNil)))))
def b_law_deed : MS := (sSeq b_law_deed_0 (sSeq b_law_deed_1 (sSeq b_law_deed_2 (sSeq b_law_deed_3 (sSeq b_law_deed_4 (sSeq b_law_deed_5 (sSeq b_law_deed_6 (sSeq b_law_deed_7 (sSeq b_law_deed_8 (sSeq b_law_deed_9 (sSeq b_law_deed_10 (sSeq b_law_deed_11 (sSeq b_law_deed_12 b_law_deed_13)))))))))))))
def m_law_deed : MF := mDef 3 14 b_law_deed
theorem e_law_deed (x0 x1 x2 : D) (C : Store) : m_law_deed [x0, x1, x2] C = finS C.length (b_law_deed ⟨C.length, [some x0, some x1, some x2, none, none, none, none, none, none, none, none, none, none, none]⟩ C) := mDef_e rfl rfl
theorem ar_law_deed : Ar 3 m_law_deed := mDef_ar
theorem ok_law_deed (T : Txt K mg) : ∃ fd, FnG P w K mg base 8 (a_law_deed K) fd ["_law_bag_here", "_law_wants", "_law_lists"] (SpD (cn K) 3 m_law_deed) ∧ Binds K fd ["_law_bag_here", "_law_wants", "_law_lists"] [] ∧ PySem.W.keepIn K (.ref (a_law_deed K)) = true := by
  obtain ⟨fd_law_take, F_law_take, B_law_take, kp_law_take⟩ := ok_law_take (P := P) (w := w) (base := base) T
  obtain ⟨fd_Want__or, F_Want__or, B_Want__or, kp_Want__or⟩ := ok_Want__or (P := P) (w := w) (base := base) T
  obtain ⟨fd_Want__and, F_Want__and, B_Want__and, kp_Want__and⟩ := ok_Want__and (P := P) (w := w) (base := base) T
  obtain ⟨fd_Want__xor, F_Want__xor, B_Want__xor, kp_Want__xor⟩ := ok_Want__xor (P := P) (w := w) (base := base) T
  obtain ⟨fd_Want_without, F_Want_without, B_Want_without, kp_Want_without⟩ := ok_Want_without (P := P) (w := w) (base := base) T
  obtain ⟨fd_Want__add, F_Want__add, B_Want__add, kp_Want__add⟩ := ok_Want__add (P := P) (w := w) (base := base) T
  obtain ⟨fd_Want__rsub, F_Want__rsub, B_Want__rsub, kp_Want__rsub⟩ := ok_Want__rsub (P := P) (w := w) (base := base) T
  obtain ⟨fd_Want__init, F_Want__init, Bn0_Want__init, Bn1_Want__init, Bn2_Want__init, Bk_Want__init⟩ := ok_Want__init (P := P) (w := w) (base := base) T
  obtain ⟨fd_Want_between, F_Want_between, B_Want_between, kp_Want_between⟩ := ok_Want_between (P := P) (w := w) (base := base) T
  obtain ⟨fd_Want__neg, F_Want__neg, B_Want__neg, kp_Want__neg⟩ := ok_Want__neg (P := P) (w := w) (base := base) T
  obtain ⟨fd, F⟩ := T.f_law_deed
  refine ⟨fd, fn_ok (k := cn K) F sc_law_deed (by decide) fun cdv A outer s H E hr => ?_, F.bindsN fun _ _ _ _ _ _ us hl => match us, hl with | [_, _, _], _ => rfl, F.kp⟩
  have tk : Takes (cxOf (L2.CX P w) P w K mg base ["_law_bag_here", "_law_wants", "_law_lists", "_law_mode", "_law_at", "_law_by", "_law_k", "_law_one_here", "_law_other", "_law_xs", "_law_ys", "_law_late", "_law_x", "_law_y"] "_law_deed" (defScope s_law_deed) (a_law_deed K) cdv A outer s H E) (fun c d _ H => E c d H) := takes_of rfl rfl rfl rfl
  exact (dss_cons (ds_par (i := 3) (j := 4) rfl sc_law_deed.nd rfl rfl (by decide) rfl rfl (da_cons (de_call tk F_law_take ar_law_take (hr.mono (by decide)) (by rfl) T.g_law_take kp_law_take B_law_take .nil (fun _ _ _ => .nil) (da_cons (dv 0) (da_cons de_int da_nil))) (da_cons (de_call tk F_law_take ar_law_take (hr.mono (by decide)) (by rfl) T.g_law_take kp_law_take B_law_take .nil (fun _ _ _ => .nil) (da_cons (dv 0) (da_cons de_int da_nil))) da_nil)))
  (dss_cons (ds_asgT (de_tup (da_cons (de_call tk F_law_take ar_law_take (hr.mono (by decide)) (by rfl) T.g_law_take kp_law_take B_law_take .nil (fun _ _ _ => .nil) (da_cons (dv 0) (da_cons de_int da_nil))) (da_cons (de_op op_sub d_sub (de_call tk F_law_take ar_law_take (hr.mono (by decide)) (by rfl) T.g_law_take kp_law_take B_law_take .nil (fun _ _ _ => .nil) (da_cons (dv 0) (da_cons de_int da_nil))) de_int) da_nil))) (tg_tp [5, 6] rfl rfl (pgs_cons (pg_name (i := 5) sc_law_deed.nd rfl (Or.inl rfl)) (pgs_cons (pg_name (i := 6) sc_law_deed.nd rfl (Or.inr rfl)) pgs_nil))))
  (dss_cons (ds_par (i := 7) (j := 8) rfl sc_law_deed.nd rfl rfl (by decide) rfl rfl (da_cons (de_ix ix_seq d_ix (dv 1) (dv 4)) (da_cons (de_ix ix_seq d_ix (dv 1) (dv 5)) da_nil)))
  (dss_cons (ds_asgT (de_tup (da_cons (de_ix ix_seq d_ix (dv 2) (dv 4)) (da_cons (de_ix ix_seq d_ix (dv 2) (dv 5)) da_nil))) (tg_tp [9, 10] rfl rfl (pgs_cons (pg_name (i := 9) sc_law_deed.nd rfl (Or.inr rfl)) (pgs_cons (pg_name (i := 10) sc_law_deed.nd rfl (Or.inr rfl)) pgs_nil))))
  (dss_cons (ds_if (dt_cmp (op_eq.or (op_eqD hr.room.units)) d_eqA (dv 3) de_int (nomark _)) (dss_one (ds_ret (de_tup (da_cons (dv 4) (da_cons (de_binO 0 tk rfl (dv 7) (dv 8) T.sf_Want T.dn_Want__or.at_ T.dn_Want__or.fn F_Want__or ar_Want__or (hr.mono (by decide)) B_Want__or) (da_cons (de_op op_cat (d_cat false) (dv 9) (dv 10)) da_nil)))))) dss_nil)
  (dss_cons (ds_if (dt_cmp (op_eq.or (op_eqD hr.room.units)) d_eqA (dv 3) de_int (nomark _)) (dss_one (ds_ret (de_tup (da_cons (dv 4) (da_cons (de_binO 0 tk rfl (dv 7) (dv 8) T.sf_Want T.dn_Want__and.at_ T.dn_Want__and.fn F_Want__and ar_Want__and (hr.mono (by decide)) B_Want__and) (da_cons (de_lc (own := [("_law_x", 12)]) false rfl rfl sc_law_deed.nd (di_seq rfl (dv 9)) (blkOk_by (own := [("_law_x", 12)]) rfl) (by decide) (fun _ _ _ _ _ => (tg_nm (i := 12) sc_law_deed.nd rfl (by first | exact Or.inl rfl | exact Or.inr rfl))) (fun _ _ _ _ _ => (pts_one (dt_cmp (op_inA hr.u65) d_inD (dv 12) (dv 10) (by with_unfolding_all rfl)))) (fun _ _ _ _ _ => (dv 12))) da_nil)))))) dss_nil)
  (dss_cons (ds_if (dt_cmp (op_eq.or (op_eqD hr.room.units)) d_eqA (dv 3) de_int (nomark _)) (dss_cons (ds_setLc (i := 11) (own := [("_law_y", 13)]) false rfl rfl sc_law_deed.nd rfl rfl (sw_true rfl rfl rfl (by decide +kernel)) (di_seq rfl (dv 10)) (blkOk_by (own := [("_law_y", 13)]) rfl) (by decide) (fun _ _ _ _ _ => (tg_nm (i := 13) sc_law_deed.nd rfl (by first | exact Or.inl rfl | exact Or.inr rfl))) (fun _ _ _ _ _ => (pts_one (dt_cmp (op_notInA hr.u65) d_inD (dv 13) (dv 9) (by with_unfolding_all rfl)))) (fun _ _ _ _ _ => (dv 13)))
  (dss_one (ds_ret (de_tup (da_cons (dv 4) (da_cons (de_binO 0 tk rfl (dv 7) (dv 8) T.sf_Want T.dn_Want__xor.at_ T.dn_Want__xor.fn F_Want__xor ar_Want__xor (hr.mono (by decide)) B_Want__xor) (da_cons (de_op op_cat (d_cat false) (de_lc (own := [("_law_x", 12)]) false rfl rfl sc_law_deed.nd (di_seq rfl (dv 9)) (blkOk_by (own := [("_law_x", 12)]) rfl) (by decide) (fun _ _ _ _ _ => (tg_nm (i := 12) sc_law_deed.nd rfl (by first | exact Or.inl rfl | exact Or.inr rfl))) (fun _ _ _ _ _ => (pts_one (dt_cmp (op_notInA hr.u65) d_inD (dv 12) (dv 10) (by with_unfolding_all rfl)))) (fun _ _ _ _ _ => (dv 12))) (dv 11)) da_nil))))))) dss_nil)
  (dss_cons (ds_if (dt_cmp (op_eq.or (op_eqD hr.room.units)) d_eqA (dv 3) de_int (nomark _)) (dss_one (ds_ret (de_tup (da_cons (dv 4) (da_cons (de_meth 0 tk rfl (dv 7) T.cl_Want T.me_Want_without F_Want_without ar_Want_without nm_Want_without (hr.mono (by decide)) B_Want_without .nil (fun _ _ _ => .nil) (da_cons (dv 8) da_nil)) (da_cons (de_lc (own := [("_law_x", 12)]) false rfl rfl sc_law_deed.nd (di_seq rfl (dv 9)) (blkOk_by (own := [("_law_x", 12)]) rfl) (by decide) (fun _ _ _ _ _ => (tg_nm (i := 12) sc_law_deed.nd rfl (by first | exact Or.inl rfl | exact Or.inr rfl))) (fun _ _ _ _ _ => (pts_one (dt_cmp (op_notInA hr.u65) d_inD (dv 12) (dv 10) (by with_unfolding_all rfl)))) (fun _ _ _ _ _ => (dv 12))) da_nil)))))) dss_nil)
  (dss_cons (ds_if (dt_cmp (op_eq.or (op_eqD hr.room.units)) d_eqA (dv 3) de_int (nomark _)) (dss_one (ds_ret (de_tup (da_cons (dv 4) (da_cons (de_owR 0 tk rfl (dv 7) (dv 6) io_add T.ow_Want_add F_Want__add ar_Want__add (hr.mono (by decide)) B_Want__add) (da_cons (de_lc (own := [("_law_x", 12)]) false rfl rfl sc_law_deed.nd (di_seq rfl (dv 9)) (blkOk_by (own := [("_law_x", 12)]) rfl) (by decide) (fun _ _ _ _ _ => (tg_nm (i := 12) sc_law_deed.nd rfl (by first | exact Or.inl rfl | exact Or.inr rfl))) (fun _ _ _ _ _ => dts_nil) (fun _ _ _ _ _ => (de_op op_add d_add (dv 12) (dv 6)))) da_nil)))))) dss_nil)
  (dss_cons (ds_if (dt_cmp (op_eq.or (op_eqD hr.room.units)) d_eqA (dv 3) de_int (nomark _)) (dss_one (ds_ret (de_tup (da_cons (dv 4) (da_cons (de_owL 0 tk rfl (dv 6) (dv 7) io_sub T.ow_Want_sub F_Want__rsub ar_Want__rsub (hr.mono (by decide)) B_Want__rsub) (da_cons (de_lc (own := [("_law_x", 12)]) false rfl rfl sc_law_deed.nd (di_seq rfl (dv 9)) (blkOk_by (own := [("_law_x", 12)]) rfl) (by decide) (fun _ _ _ _ _ => (tg_nm (i := 12) sc_law_deed.nd rfl (by first | exact Or.inl rfl | exact Or.inr rfl))) (fun _ _ _ _ _ => dts_nil) (fun _ _ _ _ _ => (de_op op_sub d_sub (dv 6) (dv 12)))) da_nil)))))) dss_nil)
  (dss_cons (ds_if (dt_cmp (op_eq.or (op_eqD hr.room.units)) d_eqA (dv 3) de_int (nomark _)) (dss_one (ds_ret (de_tup (da_cons (dv 4) (da_cons (de_binO 0 tk rfl (dv 7) (de_makeW false 0 1 tk rfl T.mk_Want F_Want__init rfl (hr.mono (by decide)) (by rfl) T.g_Want Bn2_Want__init (by decide) (da_cons (dv 6) (da_cons (de_op op_add d_add (dv 6) de_int) da_nil))) T.sf_Want T.dn_Want__or.at_ T.dn_Want__or.fn F_Want__or ar_Want__or (hr.mono (by decide)) B_Want__or) (da_cons (de_op op_cat (d_cat false) (dv 9) (de_lst false (da_cons (dv 6) (da_cons (de_op op_add d_add (dv 6) de_int) da_nil)))) da_nil)))))) dss_nil)
  (dss_cons (ds_if (dt_cmp (op_eq.or (op_eqD hr.room.units)) d_eqA (dv 3) de_int (nomark _)) (dss_one (ds_ret (de_tup (da_cons (dv 4) (da_cons (de_meth 0 tk rfl (dv 7) T.cl_Want T.me_Want_without F_Want_without ar_Want_without nm_Want_without (hr.mono (by decide)) B_Want_without .nil (fun _ _ _ => .nil) (da_cons (de_makeW false 0 1 tk rfl T.mk_Want F_Want__init rfl (hr.mono (by decide)) (by rfl) T.g_Want Bn1_Want__init (by decide) (da_cons (dv 6) da_nil)) da_nil)) (da_cons (de_lc (own := [("_law_x", 12)]) false rfl rfl sc_law_deed.nd (di_seq rfl (dv 9)) (blkOk_by (own := [("_law_x", 12)]) rfl) (by decide) (fun _ _ _ _ _ => (tg_nm (i := 12) sc_law_deed.nd rfl (by first | exact Or.inl rfl | exact Or.inr rfl))) (fun _ _ _ _ _ => (pts_one (dt_cmp (op_ne.or (op_neD hr.room.units)) d_neA (dv 12) (dv 6) (nomark _)))) (fun _ _ _ _ _ => (dv 12))) da_nil)))))) dss_nil)
  (dss_cons (ds_if (dt_cmp (op_eq.or (op_eqD hr.room.units)) d_eqA (dv 3) de_int (nomark _)) (dss_cons (ds_setLc (i := 11) (own := [("_law_x", 12)]) false rfl rfl sc_law_deed.nd rfl rfl (sw_true rfl rfl rfl (by decide +kernel)) (di_seq rfl (dv 9)) (blkOk_by (own := [("_law_x", 12)]) rfl) (by decide) (fun _ _ _ _ _ => (tg_nm (i := 12) sc_law_deed.nd rfl (by first | exact Or.inl rfl | exact Or.inr rfl))) (fun _ _ _ _ _ => (pts_one (PW.pt (dw_or (dt_cmp op_lt d_lt (dv 12) (dv 6) (nomark _)) (dw_or1 (dt_cmp op_gt d_gt (dv 12) (de_op op_add d_add (dv 6) de_int) (nomark _))))))) (fun _ _ _ _ _ => (dv 12)))
  (dss_cons (ds_set (i := 11) sc_law_deed.nd rfl (Or.inl rfl) (de_op op_cat (d_cat false) (dv 11) (de_lc (own := [("_law_x", 12)]) false rfl rfl sc_law_deed.nd (di_rng2 (by rfl) T.n_range (dv 6) (de_op op_add d_add (dv 6) de_int)) (blkOk_by (own := [("_law_x", 12)]) rfl) (by decide) (fun _ _ _ _ _ => (tg_nm (i := 12) sc_law_deed.nd rfl (by first | exact Or.inl rfl | exact Or.inr rfl))) (fun _ _ _ _ _ => (pts_one (dt_cmp (op_notInA hr.u65) d_inD (dv 12) (dv 9) (by with_unfolding_all rfl)))) (fun _ _ _ _ _ => (dv 12)))))
  (dss_one (ds_ret (de_tup (da_cons (dv 4) (da_cons (de_binO 0 tk rfl (de_cmeth 0 tk rfl (by rfl) T.g_Want T.cm_Want_between F_Want_between ar_Want_between (hr.mono (by decide)) B_Want_between (da_cons (dv 6) (da_cons (de_op op_add d_add (dv 6) de_int) da_nil))) (dv 7) T.sf_Want T.dn_Want__xor.at_ T.dn_Want__xor.fn F_Want__xor ar_Want__xor (hr.mono (by decide)) B_Want__xor) (da_cons (dv 11) da_nil)))))))) dss_nil)
  (dss_one (ds_ret (de_tup (da_cons (dv 4) (da_cons (de_negO 0 tk rfl (dv 7) T.dn_Want__neg.at_ T.dn_Want__neg.fn F_Want__neg ar_Want__neg (hr.mono (by decide)) B_Want__neg) (da_cons (de_lc (own := [("_law_x", 12)]) false rfl rfl sc_law_deed.nd (di_seq rfl (dv 9)) (blkOk_by (own := [("_law_x", 12)]) rfl) (by decide) (fun _ _ _ _ _ => (tg_nm (i := 12) sc_law_deed.nd rfl (by first | exact Or.inl rfl | exact Or.inr rfl))) (fun _ _ _ _ _ => dts_nil) (fun _ _ _ _ _ => (de_un un_neg d_neg (dv 12)))) da_nil)))))))))))))))))))
theorem sc_law_asked : FnScope ["_law_bag_here", "_law_want", "_law_xs", "_law_due", "_law_mode", "_law_told", "_law_union", "_law_block", "_law_ends"] ["_law_bag_here", "_law_want", "_law_xs"] (defScope s_law_asked) := ⟨rfl, rfl, rfl, by decide +kernel, rfl, by decide +kernel, by decide +kernel⟩
def b_law_asked_0 : MS := (sPar [3, 4] (mCons (mAp (oSortS false) (mCons (mVar 2) mNil)) (mCons (mCall m_law_take [] (mCons (mVar 0) (mCons (mC (.int 5)) mNil))) mNil)))
def b_law_asked_1t_0 : MS := (sAsg (mMeth 0 m_Want_first [] (mVar 1) (mCons (mC (.int 40)) mNil)) (gN 5))
def b_law_asked_1t_1 : MS := (sIf (mTst (mOp (oEqA true) (mAp oRepr (mCons (mVar 5) mNil)) (mAp oRepr (mCons (mSlL false (mVar 3) mNoPart (mPart (mC (.int 40)))) mNil)))) (sRet (mC (.bl false))) sNext)
def b_law_asked_1t_2 : MS := (sDrop (mAppend (mVar 5) (mC (.int 7))))
def b_law_asked_1t_3 : MS := (sSetL (mC (.int 100)) (mVar 5) (mC (.int 0)))
def b_law_asked_1t_4 : MS := (sRet (mOp (oEqA false) (mMeth 0 m_Want_first [] (mVar 1) (mCons (mC (.int 3)) mNil)) (mSlL false (mVar 3) mNoPart (mPart (mC (.int 3))))))
def b_law_asked_1 : MS := (sIf (mTst (mOp (oEqA false) (mVar 4) (mC (.int 0)))) (sSeq b_law_asked_1t_0 (sSeq b_law_asked_1t_1 (sSeq b_law_asked_1t_2 (sSeq b_law_asked_1t_3 b_law_asked_1t_4)))) sNext)
def b_law_asked_2t_0 : MS := (sPar [5, 6] (mCons (mMeth 0 m_Want_blocks [] (mVar 1) mNil) (mCons (mMake false 0 1 (vaM .pos 0 m_Want__init) [] mNil) mNil)))
def b_law_asked_2t_1b_0 : MS := (sAsg (mBinO 0 m_Want__or (mVar 6) (mVar 7)) (gN 6))
def b_law_asked_2t_1 : MS := (sFor (mSeq (mVar 5)) (Tgt.nm 7).M b_law_asked_2t_1b_0)
def b_law_asked_2t_2 : MS := (sDrop (mAppend (mVar 5) (mMake false 0 1 (vaM .pos 1 m_Want__init) [] (mCons (mC (.int 100)) mNil))))
def b_law_asked_2t_3 : MS := (sRet (mAnd (mEqO false 0 m_Want__eq (mVar 6) (mVar 1)) (mOp (oEqA false) (mAp oLen (mCons (mMeth 0 m_Want_blocks [] (mVar 1) mNil) mNil)) (mOp oSub (mAp oLen (mCons (mVar 5) mNil)) (mC (.int 1))))))
def b_law_asked_2 : MS := (sIf (mTst (mOp (oEqA false) (mVar 4) (mC (.int 1)))) (sSeq b_law_asked_2t_0 (sSeq b_law_asked_2t_1 (sSeq b_law_asked_2t_2 b_law_asked_2t_3))) sNext)
def b_law_asked_3t_0 : MS := (sAsg (mIf (mTst (mOp (oEqA true) (mVar 3) (mAp (oLst false) mNil))) (mAp (oLst false) (mCons (mOp oIx (mVar 3) (mC (.int 0))) (mCons (mOp oIx (mVar 3) (mUn oNeg (mC (.int 1)))) mNil))) (mAp (oLst false) (mCons (mC .non) (mCons (mC .non) mNil)))) (gN 8))
def b_law_asked_3t_1 : MS := (sRet (mOp (oEqA false) (mAp (oLst false) (mCons (mProp 0 m_Want_low (mVar 1)) (mCons (mProp 0 m_Want_high (mVar 1)) mNil))) (mVar 8)))
def b_law_asked_3 : MS := (sIf (mTst (mOp (oEqA false) (mVar 4) (mC (.int 2)))) (sSeq b_law_asked_3t_0 b_law_asked_3t_1) sNext)
def b_law_asked_4t_0 : MS := (sAsg (mAp (oLst true) (mCons (mProp 0 m_Want_many (mVar 1)) (mCons (mBoolO 0 m_Want__bool (mVar 1)) (mCons (mInO false 0 m_Want__contains (mC (.int 0)) (mVar 1)) mNil)))) (gN 5))
def b_law_asked_4t_1 : MS := (sRet (mOp (oEqA false) (mVar 5) (mAp (oLst false) (mCons (mAp oLen (mCons (mVar 3) mNil)) (mCons (mOp (oEqA true) (mVar 3) (mAp (oLst false) mNil)) (mCons (mOp (oInD false) (mC (.int 0)) (mVar 3)) mNil))))))
def b_law_asked_4 : MS := (sIf (mTst (mOp (oEqA false) (mVar 4) (mC (.int 3)))) (sSeq b_law_asked_4t_0 b_law_asked_4t_1) sNext)
def b_law_asked_5 : MS := (sRet (mAnd (mMeth 0 m_Want_within [] (mVar 1) (mCons (mBinO 0 m_Want__or (mVar 1) (mMake false 0 1 (vaM .pos 1 m_Want__init) [] (mCons (mC (.int 1)) mNil))) mNil)) (mOp (oEqA false) (mEqO false 0 m_Want__eq (mVar 1) (mMake false 0 1 (vaM .pos 1 m_Want__init) [] (mCons (mC (.int 1)) mNil))) (mOp (oEqA false) (mVar 3) (mAp (oLst false) (mCons (mC (.int 1)) mNil))))))
def b_law_asked : MS := (sSeq b_law_asked_0 (sSeq b_law_asked_1 (sSeq b_law_asked_2 (sSeq b_law_asked_3 (sSeq b_law_asked_4 b_law_asked_5)))))
def m_law_asked : MF := mDef 3 9 b_law_asked
theorem e_law_asked (x0 x1 x2 : D) (C : Store) : m_law_asked [x0, x1, x2] C = finS C.length (b_law_asked ⟨C.length, [some x0, some x1, some x2, none, none, none, none, none, none]⟩ C) := mDef_e rfl rfl
theorem ar_law_asked : Ar 3 m_law_asked := mDef_ar
theorem ok_law_asked (T : Txt K mg) : ∃ fd, FnG P w K mg base 8 (a_law_asked K) fd ["_law_bag_here", "_law_want", "_law_xs"] (SpD (cn K) 3 m_law_asked) ∧ Binds K fd ["_law_bag_here", "_law_want", "_law_xs"] [] ∧ PySem.W.keepIn K (.ref (a_law_asked K)) = true := by
  obtain ⟨fd_law_take, F_law_take, B_law_take, kp_law_take⟩ := ok_law_take (P := P) (w := w) (base := base) T
  obtain ⟨fd_Want_first, F_Want_first, B_Want_first, kp_Want_first⟩ := ok_Want_first (P := P) (w := w) (base := base) T
  obtain ⟨fd_Want__init, F_Want__init, Bn0_Want__init, Bn1_Want__init, Bn2_Want__init, Bk_Want__init⟩ := ok_Want__init (P := P) (w := w) (base := base) T
  obtain ⟨fd_Want_blocks, F_Want_blocks, B_Want_blocks, kp_Want_blocks⟩ := ok_Want_blocks (P := P) (w := w) (base := base) T
  obtain ⟨fd_Want__or, F_Want__or, B_Want__or, kp_Want__or⟩ := ok_Want__or (P := P) (w := w) (base := base) T
  obtain ⟨fd_Want__eq, F_Want__eq, B_Want__eq, kp_Want__eq⟩ := ok_Want__eq (P := P) (w := w) (base := base) T
  obtain ⟨fd_Want_high, F_Want_high, B_Want_high, kp_Want_high⟩ := ok_Want_high (P := P) (w := w) (base := base) T
  obtain ⟨fd_Want_low, F_Want_low, B_Want_low, kp_Want_low⟩ := ok_Want_low (P := P) (w := w) (base := base) T
  obtain ⟨fd_Want__contains, F_Want__contains, B_Want__contains, kp_Want__contains⟩ := ok_Want__contains (P := P) (w := w) (base := base) T
  obtain ⟨fd_Want__bool, F_Want__bool, B_Want__bool, kp_Want__bool⟩ := ok_Want__bool (P := P) (w := w) (base := base) T
  obtain ⟨fd_Want_many, F_Want_many, B_Want_many, kp_Want_many⟩ := ok_Want_many (P := P) (w := w) (base := base) T
  obtain ⟨fd_Want_within, F_Want_within, B_Want_within, kp_Want_within⟩ := ok_Want_within (P := P) (w := w) (base := base) T
  obtain ⟨fd, F⟩ := T.f_law_asked
  refine ⟨fd, fn_ok (k := cn K) F sc_law_asked (by decide) fun cdv A outer s H E hr => ?_, F.bindsN fun _ _ _ _ _ _ us hl => match us, hl with | [_, _, _], _ => rfl, F.kp⟩
  have tk : Takes (cxOf (L2.CX P w) P w K mg base ["_law_bag_here", "_law_want", "_law_xs", "_law_due", "_law_mode", "_law_told", "_law_union", "_law_block", "_law_ends"] "_law_asked" (defScope s_law_asked) (a_law_asked K) cdv A outer s H E) (fun c d _ H => E c d H) := takes_of rfl rfl rfl rfl
  exact (dss_cons (ds_par (i := 3) (j := 4) rfl sc_law_asked.nd rfl rfl (by decide) rfl rfl (da_cons (de_sortS false rfl rfl (by rfl) T.n_sorted (by rfl) T.n_set (da_cons (dv 2) da_nil)) (da_cons (de_call tk F_law_take ar_law_take (hr.mono (by decide)) (by rfl) T.g_law_take kp_law_take B_law_take .nil (fun _ _ _ => .nil) (da_cons (dv 0) (da_cons de_int da_nil))) da_nil)))
  (dss_cons (ds_if (dt_cmp (op_eq.or (op_eqD hr.room.units)) d_eqA (dv 4) de_int (nomark _)) (dss_cons (ds_set (i := 5) sc_law_asked.nd rfl (Or.inl rfl) (de_meth 0 tk rfl (dv 1) T.cl_Want T.me_Want_first F_Want_first ar_Want_first nm_Want_first (hr.mono (by decide)) B_Want_first .nil (fun _ _ _ => .nil) (da_cons de_int da_nil)))
  (dss_cons (ds_if (dt_cmp (op_ne.or (op_neD hr.room.units)) d_neA (de_callB (call_reprD (hr.mono (by decide))) d_repr (by rfl) T.n_repr (by decide +kernel) (da_cons (dv 5) da_nil)) (de_callB (call_reprD (hr.mono (by decide))) d_repr (by rfl) T.n_repr (by decide +kernel) (da_cons (de_slL false rfl (dv 3) do_none (do_some de_int)) da_nil)) (nomark _)) (dss_one (ds_ret de_bl)) dss_nil)
  (dss_cons (ds_expr (de_append rfl (dv 5) de_int))
  (dss_cons (ds_setL de_int (pg_sub (dv 5) de_int set_list))
  (dss_one (ds_ret (de_cmp (op_eq.or (op_eqD hr.room.units)) d_eqA (de_meth 0 tk rfl (dv 1) T.cl_Want T.me_Want_first F_Want_first ar_Want_first nm_Want_first (hr.mono (by decide)) B_Want_first .nil (fun _ _ _ => .nil) (da_cons de_int da_nil)) (de_slL false rfl (dv 3) do_none (do_some de_int)) (nomark _)))))))) dss_nil)
  (dss_cons (ds_if (dt_cmp (op_eq.or (op_eqD hr.room.units)) d_eqA (dv 4) de_int (nomark _)) (dss_cons (ds_par (i := 5) (j := 6) rfl sc_law_asked.nd rfl rfl (by decide) rfl rfl (da_cons (de_meth0 0 tk rfl (dv 1) T.cl_Want T.me_Want_blocks F_Want_blocks ar_Want_blocks nm_Want_blocks (hr.mono (by decide)) B_Want_blocks .nil (fun _ _ _ => .nil)) (da_cons (de_makeW0 false 0 1 tk rfl T.mk_Want F_Want__init rfl (hr.mono (by decide)) (by rfl) T.g_Want Bn0_Want__init) da_nil)))
  (dss_cons (ds_for (passes_of rfl) rfl (di_seq rfl (dv 5)) (tg_nm (i := 7) sc_law_asked.nd rfl (Or.inl rfl)) (dss_one (ds_set (i := 6) sc_law_asked.nd rfl (Or.inl rfl) (de_binO 0 tk rfl (dv 6) (dv 7) T.sf_Want T.dn_Want__or.at_ T.dn_Want__or.fn F_Want__or ar_Want__or (hr.mono (by decide)) B_Want__or))))
  (dss_cons (ds_expr (de_append rfl (dv 5) (de_makeW false 0 1 tk rfl T.mk_Want F_Want__init rfl (hr.mono (by decide)) (by rfl) T.g_Want Bn1_Want__init (by decide) (da_cons de_int da_nil))))
  (dss_one (ds_ret (de_and (de_eqO 0 tk rfl (dv 6) (dv 1) T.eq_Want F_Want__eq ar_Want__eq (hr.mono (by decide)) B_Want__eq) (de_one (de_cmp (op_eq.or (op_eqD hr.room.units)) d_eqA (de_callB call_len_seq d_len (by rfl) T.n_len (by decide +kernel) (da_cons (de_meth0 0 tk rfl (dv 1) T.cl_Want T.me_Want_blocks F_Want_blocks ar_Want_blocks nm_Want_blocks (hr.mono (by decide)) B_Want_blocks .nil (fun _ _ _ => .nil)) da_nil)) (de_op op_sub d_sub (de_callB call_len_seq d_len (by rfl) T.n_len (by decide +kernel) (da_cons (dv 5) da_nil)) de_int) (nomark _))))))))) dss_nil)
  (dss_cons (ds_if (dt_cmp (op_eq.or (op_eqD hr.room.units)) d_eqA (dv 4) de_int (nomark _)) (dss_cons (ds_set (i := 8) sc_law_asked.nd rfl (Or.inl rfl) (de_if (dt_cmp (op_ne.or (op_neD hr.room.units)) d_neA (dv 3) (de_lst false da_nil) (nomark _)) (de_lst false (da_cons (de_ix ix_seq d_ix (dv 3) de_int) (da_cons (de_ix ix_seq d_ix (dv 3) (de_un un_neg d_neg de_int)) da_nil))) (de_lst false (da_cons de_non (da_cons de_non da_nil)))))
  (dss_one (ds_ret (de_cmp (op_eq.or (op_eqD hr.room.units)) d_eqA (de_lst false (da_cons (de_prop 0 rfl (dv 1) T.cl_Want T.pr_low F_Want_low ar_Want_low (hr.mono (by decide)) B_Want_low) (da_cons (de_prop 0 rfl (dv 1) T.cl_Want T.pr_high F_Want_high ar_Want_high (hr.mono (by decide)) B_Want_high) da_nil))) (dv 8) (nomark _))))) dss_nil)
  (dss_cons (ds_if (dt_cmp (op_eq.or (op_eqD hr.room.units)) d_eqA (dv 4) de_int (nomark _)) (dss_cons (ds_set (i := 5) sc_law_asked.nd rfl (Or.inl rfl) (de_lst true (da_cons (de_prop 0 rfl (dv 1) T.cl_Want T.pr_many F_Want_many ar_Want_many (hr.mono (by decide)) B_Want_many) (da_cons (de_boolO 0 tk rfl (dv 1) T.dn_Want__bool.at_ T.dn_Want__bool.fn F_Want__bool ar_Want__bool (hr.mono (by decide)) B_Want__bool (by rfl) T.n_bool) (da_cons (de_inO 0 tk de_int (dv 1) rfl T.dn_Want__contains.at_ T.dn_Want__contains.fn F_Want__contains ar_Want__contains (hr.mono (by decide)) B_Want__contains) da_nil)))))
  (dss_one (ds_ret (de_cmp (op_eq.or (op_eqD hr.room.units)) d_eqA (dv 5) (de_lst false (da_cons (de_callB call_len_seq d_len (by rfl) T.n_len (by decide +kernel) (da_cons (dv 3) da_nil)) (da_cons (de_cmp (op_ne.or (op_neD hr.room.units)) d_neA (dv 3) (de_lst false da_nil) (nomark _)) (da_cons (de_cmp (op_inA hr.u65) d_inD de_int (dv 3) (by with_unfolding_all rfl)) da_nil)))) (nomark _))))) dss_nil)
  (dss_one (ds_ret (de_and (de_meth 0 tk rfl (dv 1) T.cl_Want T.me_Want_within F_Want_within ar_Want_within nm_Want_within (hr.mono (by decide)) B_Want_within .nil (fun _ _ _ => .nil) (da_cons (de_binO 0 tk rfl (dv 1) (de_makeW false 0 1 tk rfl T.mk_Want F_Want__init rfl (hr.mono (by decide)) (by rfl) T.g_Want Bn1_Want__init (by decide) (da_cons de_int da_nil)) T.sf_Want T.dn_Want__or.at_ T.dn_Want__or.fn F_Want__or ar_Want__or (hr.mono (by decide)) B_Want__or) da_nil)) (de_one (de_cmp (op_eq.or (op_eqD hr.room.units)) d_eqA (de_eqO 0 tk rfl (dv 1) (de_makeW false 0 1 tk rfl T.mk_Want F_Want__init rfl (hr.mono (by decide)) (by rfl) T.g_Want Bn1_Want__init (by decide) (da_cons de_int da_nil)) T.eq_Want F_Want__eq ar_Want__eq (hr.mono (by decide)) B_Want__eq) (de_cmp (op_eq.or (op_eqD hr.room.units)) d_eqA (dv 3) (de_lst false (da_cons de_int da_nil)) (nomark _)) (nomark _)))))))))))
theorem sc_law : FnScope ["_law_script", "_law_bag_here", "_law_wants", "_law_lists", "_law_elders", "_law_trip", "_law_at", "_law_want", "_law_xs", "_law_k", "_law_asked_here"] ["_law_script"] (defScope s_law) := ⟨rfl, rfl, rfl, by decide +kernel, rfl, by decide +kernel, by decide +kernel⟩
def b_law_0 : MS := (sAsg (mCall m_law_bag [] (mCons (mVar 0) mNil)) (gN 1))
def b_law_1 : MS := (sPar [2, 3] (mCons (mAp (oLst true) (mCons (mMake false 0 1 (vaM .pos 0 m_Want__init) [] mNil) (mCons (mMake false 0 1 (vaM .pos 1 m_Want__init) [] (mCons (mC (.int 1)) mNil)) (mCons (mCall (clM 0 m_Want_between) [] (mCons (mUn oNeg (mC (.int 2))) (mCons (mC (.int 2)) mNil))) mNil)))) (mCons (mAp (oLst true) (mCons (mAp (oLst false) mNil) (mCons (mAp (oLst false) (mCons (mC (.int 1)) mNil)) (mCons (mAp (oLst false) (mCons (mUn oNeg (mC (.int 2))) (mCons (mUn oNeg (mC (.int 1))) (mCons (mC (.int 0)) (mCons (mC (.int 1)) (mCons (mC (.int 2)) mNil)))))) mNil)))) mNil)))
def b_law_2 : MS := (sAsg (mAp (oLst true) mNil) (gN 4))
def b_law_3b_0 : MS := (sAsg (mCall m_law_deed [] (mCons (mVar 1) (mCons (mVar 2) (mCons (mVar 3) mNil)))) (Tgt.tp [6, 7, 8]).M)
def b_law_3b_1 : MS := (sIf (mTst (mOp oLt (mVar 5) (mC (.int 12)))) (sDrop (mAppend (mVar 4) (mAp oTup (mCons (mOp oIx (mVar 2) (mVar 6)) (mCons (mOp oIx (mVar 3) (mVar 6)) mNil))))) sNext)
def b_law_3b_2 : MS := (sSet2 (mVar 7) (mSlL false (mAp (oSortSB false) (mCons (mVar 8) mNil)) mNoPart (mPart (mC (.int 60)))) (mVar 2) (mVar 6) (mVar 3) (mVar 6))
def b_law_3b_3t_0 : MS := (sSetL (mCall (clM 0 m_Want_between) [] (mCons (mC (.int 0)) (mCons (mC (.int 3)) mNil))) (mVar 2) (mVar 6))
def b_law_3b_3t_1 : MS := (sSetL (mAp (oLst false) (mCons (mC (.int 0)) (mCons (mC (.int 1)) (mCons (mC (.int 2)) (mCons (mC (.int 3)) mNil))))) (mVar 3) (mVar 6))
def b_law_3b_3 : MS := (sIf (mTst (mOp oGt (mAp oLenSB (mCons (mVar 8) mNil)) (mC (.int 60)))) (sSeq b_law_3b_3t_0 b_law_3b_3t_1) sNext)
def b_law_3b_4b_0 : MS := (sIf (tNotM (mTst (mCall m_law_is [] (mCons (mOp oIx (mVar 2) (mVar 9)) (mCons (mOp oIx (mVar 3) (mVar 9)) mNil))))) (sRet (mC (.bl false))) sNext)
def b_law_3b_4 : MS := (sFor (mRng1 (mC (.int 3))) (Tgt.nm 9).M b_law_3b_4b_0)
def b_law_3b_5 : MS := (sAsg (mCall m_law_take [] (mCons (mVar 1) (mCons (mC (.int 3)) mNil))) (gN 10))
def b_law_3b_6 : MS := (sIf (tNotM (mTst (mCall m_law_asked [] (mCons (mVar 1) (mCons (mOp oIx (mVar 2) (mVar 10)) (mCons (mOp oIx (mVar 3) (mVar 10)) mNil)))))) (sRet (mC (.bl false))) sNext)
def b_law_3 : MS := (sFor (mRng1 (mOp oAdd (mC (.int 10)) (mCall m_law_take [] (mCons (mVar 1) (mCons (mC (.int 21)) mNil))))) (Tgt.nm 5).M (sSeq b_law_3b_0 (sSeq b_law_3b_1 (sSeq b_law_3b_2 (sSeq b_law_3b_3 (sSeq b_law_3b_4 (sSeq b_law_3b_5 b_law_3b_6)))))))
def b_law_4b_0 : MS := (sIf (tNotM (mTst (mCall m_law_is [] (mCons (mVar 7) (mCons (mVar 8) mNil))))) (sRet (mC (.bl false))) sNext)
def b_law_4 : MS := (sFor (mSeq (mVar 4)) (Tgt.tp [7, 8]).M b_law_4b_0)
def b_law_5 : MS := (sRet (mC (.bl true)))
def b_law : MS := (sSeq b_law_0 (sSeq b_law_1 (sSeq b_law_2 (sSeq b_law_3 (sSeq b_law_4 b_law_5)))))
def m_law : MF := mDef 1 11 b_law
theorem e_law (x0 : D) (C : Store) : m_law [x0] C = finS C.length (b_law ⟨C.length, [some x0, none, none, none, none, none, none, none, none, none, none]⟩ C) := mDef_e rfl rfl
theorem ok_law (T : Txt K mg) : ∃ fd, FnG P w K mg base 9 (a_law K) fd ["_law_script"] (SpD (cn K) 1 m_law) ∧ Binds K fd ["_law_script"] [] ∧ PySem.W.keepIn K (.ref (a_law K)) = true := by
  obtain ⟨fd_law_bag, F_law_bag, B_law_bag, kp_law_bag⟩ := ok_law_bag (P := P) (w := w) (base := base) T
  obtain ⟨fd_Want_between, F_Want_between, B_Want_between, kp_Want_between⟩ := ok_Want_between (P := P) (w := w) (base := base) T
  obtain ⟨fd_Want__init, F_Want__init, Bn0_Want__init, Bn1_Want__init, Bn2_Want__init, Bk_Want__init⟩ := ok_Want__init (P := P) (w := w) (base := base) T
  obtain ⟨fd_law_take, F_law_take, B_law_take, kp_law_take⟩ := ok_law_take (P := P) (w := w) (base := base) T
  obtain ⟨fd_law_deed, F_law_deed, B_law_deed, kp_law_deed⟩ := ok_law_deed (P := P) (w := w) (base := base) T
  obtain ⟨fd_law_is, F_law_is, B_law_is, kp_law_is⟩ := ok_law_is (P := P) (w := w) (base := base) T
  obtain ⟨fd_law_asked, F_law_asked, B_law_asked, kp_law_asked⟩ := ok_law_asked (P := P) (w := w) (base := base) T
  obtain ⟨fd, F⟩ := T.f_law
  refine ⟨fd, fn_ok (k := cn K) F sc_law (by decide) fun cdv A outer s H E hr => ?_, F.bindsN fun _ _ _ _ _ _ us hl => match us, hl with | [_], _ => rfl, F.kp⟩
  have tk : Takes (cxOf (L2.CX P w) P w K mg base ["_law_script", "_law_bag_here", "_law_wants", "_law_lists", "_law_elders", "_law_trip", "_law_at", "_law_want", "_law_xs", "_law_k", "_law_asked_here"] "law" (defScope s_law) (a_law K) cdv A outer s H E) (fun c d _ H => E c d H) := takes_of rfl rfl rfl rfl
  exact (dss_cons (ds_set (i := 1) sc_law.nd rfl (Or.inl rfl) (de_call tk F_law_bag ar_law_bag (hr.mono (by decide)) (by rfl) T.g_law_bag kp_law_bag B_law_bag .nil (fun _ _ _ => .nil) (da_cons (dv 0) da_nil)))
  (dss_cons (ds_par (i := 2) (j := 3) rfl sc_law.nd rfl rfl (by decide) rfl rfl (da_cons (de_lst true (da_cons (de_makeW0 false 0 1 tk rfl T.mk_Want F_Want__init rfl (hr.mono (by decide)) (by rfl) T.g_Want Bn0_Want__init) (da_cons (de_makeW false 0 1 tk rfl T.mk_Want F_Want__init rfl (hr.mono (by decide)) (by rfl) T.g_Want Bn1_Want__init (by decide) (da_cons de_int da_nil)) (da_cons (de_cmeth 0 tk rfl (by rfl) T.g_Want T.cm_Want_between F_Want_between ar_Want_between (hr.mono (by decide)) B_Want_between (da_cons (de_un un_neg d_neg de_int) (da_cons de_int da_nil))) da_nil)))) (da_cons (de_lst true (da_cons (de_lst false da_nil) (da_cons (de_lst false (da_cons de_int da_nil)) (da_cons (de_lst false (da_cons (de_un un_neg d_neg de_int) (da_cons (de_un un_neg d_neg de_int) (da_cons de_int (da_cons de_int (da_cons de_int da_nil)))))) da_nil)))) da_nil)))
  (dss_cons (ds_set (i := 4) sc_law.nd rfl (Or.inl rfl) (de_lst true da_nil))
  (dss_cons (ds_for (passes_of rfl) rfl (di_rng1 (by rfl) T.n_range (de_op op_add d_add de_int (de_call tk F_law_take ar_law_take (hr.mono (by decide)) (by rfl) T.g_law_take kp_law_take B_law_take .nil (fun _ _ _ => .nil) (da_cons (dv 1) (da_cons de_int da_nil))))) (tg_nm (i := 5) sc_law.nd rfl (Or.inl rfl)) (dss_cons (ds_asgT (de_call tk F_law_deed ar_law_deed (hr.mono (by decide)) (by rfl) T.g_law_deed kp_law_deed B_law_deed .nil (fun _ _ _ => .nil) (da_cons (dv 1) (da_cons (dv 2) (da_cons (dv 3) da_nil)))) (tg_tp [6, 7, 8] rfl rfl (pgs_cons (pg_name (i := 6) sc_law.nd rfl (Or.inl rfl)) (pgs_cons (pg_name (i := 7) sc_law.nd rfl (Or.inl rfl)) (pgs_cons (pg_name (i := 8) sc_law.nd rfl (Or.inl rfl)) pgs_nil)))))
  (dss_cons (ds_if (dt_cmp op_lt d_lt (dv 5) de_int (nomark _)) (dss_one (ds_expr (de_append rfl (dv 4) (de_tup (da_cons (de_ix ix_seq d_ix (dv 2) (dv 6)) (da_cons (de_ix ix_seq d_ix (dv 3) (dv 6)) da_nil)))))) dss_nil)
  (dss_cons (ds_set2 rfl rfl (dv 7) (de_slL false rfl (de_sortSB false rfl rfl hr.u200 (by rfl) T.n_sorted (by rfl) T.n_set (da_cons (dv 8) da_nil)) do_none (do_some de_int)) (pg_sub (dv 2) (dv 6) set_list) (pg_sub (dv 3) (dv 6) set_list))
  (dss_cons (ds_if (dt_cmp op_gt d_gt (de_lenSB rfl rfl (by rfl) T.n_len (by rfl) T.n_set (da_cons (dv 8) da_nil)) de_int (nomark _)) (dss_cons (ds_setL (de_cmeth 0 tk rfl (by rfl) T.g_Want T.cm_Want_between F_Want_between ar_Want_between (hr.mono (by decide)) B_Want_between (da_cons de_int (da_cons de_int da_nil))) (pg_sub (dv 2) (dv 6) set_list))
  (dss_one (ds_setL (de_lst false (da_cons de_int (da_cons de_int (da_cons de_int (da_cons de_int da_nil))))) (pg_sub (dv 3) (dv 6) set_list)))) dss_nil)
  (dss_cons (ds_for (passes_of rfl) rfl (di_rng1 (by rfl) T.n_range de_int) (tg_nm (i := 9) sc_law.nd rfl (Or.inl rfl)) (dss_one (ds_if (dt_not (dt_val (de_call tk F_law_is ar_law_is (hr.mono (by decide)) (by rfl) T.g_law_is kp_law_is B_law_is .nil (fun _ _ _ => .nil) (da_cons (de_ix ix_seq d_ix (dv 2) (dv 9)) (da_cons (de_ix ix_seq d_ix (dv 3) (dv 9)) da_nil))))) (dss_one (ds_ret de_bl)) dss_nil)))
  (dss_cons (ds_set (i := 10) sc_law.nd rfl (Or.inl rfl) (de_call tk F_law_take ar_law_take (hr.mono (by decide)) (by rfl) T.g_law_take kp_law_take B_law_take .nil (fun _ _ _ => .nil) (da_cons (dv 1) (da_cons de_int da_nil))))
  (dss_one (ds_if (dt_not (dt_val (de_call tk F_law_asked ar_law_asked (hr.mono (by decide)) (by rfl) T.g_law_asked kp_law_asked B_law_asked .nil (fun _ _ _ => .nil) (da_cons (dv 1) (da_cons (de_ix ix_seq d_ix (dv 2) (dv 10)) (da_cons (de_ix ix_seq d_ix (dv 3) (dv 10)) da_nil)))))) (dss_one (ds_ret de_bl)) dss_nil)))))))))
  (dss_cons (ds_for (passes_of rfl) rfl (di_seq rfl (dv 4)) (tg_tp [7, 8] rfl rfl (pgs_cons (pg_name (i := 7) sc_law.nd rfl (Or.inl rfl)) (pgs_cons (pg_name (i := 8) sc_law.nd rfl (Or.inl rfl)) pgs_nil))) (dss_one (ds_if (dt_not (dt_val (de_call tk F_law_is ar_law_is (hr.mono (by decide)) (by rfl) T.g_law_is kp_law_is B_law_is .nil (fun _ _ _ => .nil) (da_cons (dv 7) (da_cons (dv 8) da_nil))))) (dss_one (ds_ret de_bl)) dss_nil)))
  (dss_one (ds_ret de_bl)))))))
end
end CL
set_option maxHeartbeats 0
namespace CL
open PySem L2 PySem.Spec PyProof.Rows CT
abbrev RR : PySem.W.OpenRow := PySem.W.OpenLaw.row PySem.Challenge.rw_contentties_k18_whole_registers_of_wants
abbrev hk : PySem.W.Hook := hookXs 6 fs fn
def ob (s : PySem.W.SharedT) : AlX := obGs 6 fs fn (HandSHeadRun.getT s)
def loose : List Str := (["_wall", "ContentError", "Wrong", "TooMany", "MOST", "is_integer", "is_number", "merged", "common", "rest", "moved", "mirrored", "halves_between", "stretches", "block_halves", "check_numbers"] : List Str) ++ (["halves_of", "halves_moved", "halves_mirrored", "run_text", "Want", "_law_bag", "_law_take", "_law_one", "_law_runs", "_law_is", "_law_deed", "_law_asked"] : List Str)
theorem run (w : World) : HandSHeadRun.RunEq RR (PySem.W.view RR.prog [33]) hk ob 20000 loose w := by
  intro os
  kernel_rfl
end CL
set_option maxHeartbeats 4000000
/-! S1: runs, in plain Lean. -/
namespace CT
abbrev Rn := Int × Int
/-- a run of the parity p -/
def RunOk (p : Int) (r : Rn) : Prop := r.1 ≤ r.2 ∧ r.1 % 2 = p ∧ r.2 % 2 = p
def Sep (r s : Rn) : Prop := r.2 + 2 < s.1
structure Canon (p : Int) (rs : List Rn) : Prop where
  ok : ∀ r ∈ rs, RunOk p r
  sep : rs.Pairwise Sep
def mR (rs : List Rn) (x : Int) : Prop := ∃ r ∈ rs, r.1 ≤ x ∧ x ≤ r.2
theorem canon_nil (p : Int) : Canon p [] := ⟨by simp, .nil⟩
theorem mR_nil (x : Int) : ¬ mR [] x := fun ⟨r, h, _⟩ => by cases h
theorem mR_cons {r : Rn} {rs : List Rn} {x : Int} : mR (r :: rs) x ↔ (r.1 ≤ x ∧ x ≤ r.2) ∨ mR rs x := by
  constructor
  · rintro ⟨s, hs, h⟩
    rcases List.mem_cons.mp hs with rfl | hs
    · exact .inl h
    · exact .inr ⟨s, hs, h⟩
  · rintro (h | ⟨s, hs, h⟩)
    · exact ⟨r, List.mem_cons_self .., h⟩
    · exact ⟨s, List.mem_cons_of_mem _ hs, h⟩
theorem mR_append {rs ss : List Rn} {x : Int} : mR (rs ++ ss) x ↔ mR rs x ∨ mR ss x := by
  constructor
  · rintro ⟨s, hs, h⟩
    rcases List.mem_append.mp hs with hs | hs
    · exact .inl ⟨s, hs, h⟩
    · exact .inr ⟨s, hs, h⟩
  · rintro (⟨s, hs, h⟩ | ⟨s, hs, h⟩)
    · exact ⟨s, List.mem_append_left _ hs, h⟩
    · exact ⟨s, List.mem_append_right _ hs, h⟩
theorem Canon.tail {p : Int} {r : Rn} {rs : List Rn} (h : Canon p (r :: rs)) : Canon p rs := ⟨fun s hs => h.ok s (List.mem_cons_of_mem _ hs), (List.pairwise_cons.mp h.sep).2⟩
theorem Canon.far {p : Int} {r : Rn} {rs : List Rn} (h : Canon p (r :: rs)) {x : Int} (hx : mR rs x) : r.2 + 2 < x := by
  obtain ⟨s, hs, h1, _⟩ := hx
  have := (List.pairwise_cons.mp h.sep).1 s hs
  unfold Sep at this
  omega
/-- canonical runs are one to one with sets -/
theorem canon_inj {p : Int} : ∀ {rs ss : List Rn}, Canon p rs → Canon p ss → (∀ x, x % 2 = p → (mR rs x ↔ mR ss x)) → rs = ss
  | [], [], _, _, _ => rfl
  | [], s :: ss, _, hs, h => by
    have ⟨a, b, c⟩ := hs.ok s (List.mem_cons_self ..)
    exact absurd ((h s.1 b).mpr (mR_cons.mpr (.inl ⟨Int.le_refl _, a⟩))) (mR_nil _)
  | r :: rs, [], hr, _, h => by
    have ⟨a, b, c⟩ := hr.ok r (List.mem_cons_self ..)
    exact absurd ((h r.1 b).mp (mR_cons.mpr (.inl ⟨Int.le_refl _, a⟩))) (mR_nil _)
  | r :: rs, s :: ss, hr, hs, h => by
    have ⟨a1, b1, c1⟩ := hr.ok r (List.mem_cons_self ..)
    have ⟨a2, b2, c2⟩ := hs.ok s (List.mem_cons_self ..)
    have e1 : r.1 = s.1 := by
      have m1 := (h r.1 b1).mp (mR_cons.mpr (.inl ⟨Int.le_refl _, a1⟩))
      have m2 := (h s.1 b2).mpr (mR_cons.mpr (.inl ⟨Int.le_refl _, a2⟩))
      rcases mR_cons.mp m1 with m1 | m1
      · rcases mR_cons.mp m2 with m2 | m2
        · omega
        · have := hr.far m2; omega
      · rcases mR_cons.mp m2 with m2 | m2
        · have := hs.far m1; omega
        · have := hs.far m1; have := hr.far m2; omega
    have e2 : r.2 = s.2 := by
      rcases Int.lt_trichotomy r.2 s.2 with q | q | q
      · have m := (h (r.2 + 2) (by omega)).mpr (mR_cons.mpr (.inl ⟨by omega, by omega⟩))
        rcases mR_cons.mp m with m | m
        · omega
        · have := hr.far m; omega
      · exact q
      · have m := (h (s.2 + 2) (by omega)).mp (mR_cons.mpr (.inl ⟨by omega, by omega⟩))
        rcases mR_cons.mp m with m | m
        · omega
        · have := hs.far m; omega
    have e : r = s := Prod.ext e1 e2
    subst e
    rw [canon_inj hr.tail hs.tail fun x hx => ?_]
    constructor
    · intro m
      rcases mR_cons.mp ((h x hx).mp (mR_cons.mpr (.inr m))) with q | q
      · have := hr.far m; omega
      · exact q
    · intro m
      rcases mR_cons.mp ((h x hx).mpr (mR_cons.mpr (.inr m))) with q | q
      · have := hs.far m; omega
      · exact q
/-! ### merged -/
def mstep (found : List Rn) (r : Rn) : List Rn := match found.getLast? with
  | some q => if r.1 ≤ q.2 + 2 then found.dropLast ++ [(q.1, max q.2 r.2)] else found ++ [r]
  | none => [r]
theorem last_split {α : Type} {l : List α} {q : α} (h : l.getLast? = some q) : l = l.dropLast ++ [q] := by
  have hne : l ≠ [] := fun e => by rw [e] at h; cases h
  have e := List.dropLast_concat_getLast hne
  rw [List.getLast?_eq_some_getLast hne] at h
  cases h
  exact e.symm
theorem mstep_ok {p : Int} {found : List Rn} {r : Rn} (h : Canon p found) (hr : RunOk p r) (ho : ∀ q ∈ found, q.1 ≤ r.1) : Canon p (mstep found r) ∧ (∀ x, x % 2 = p → (mR (mstep found r) x ↔ mR found x ∨ (r.1 ≤ x ∧ x ≤ r.2))) ∧ ∀ q ∈ mstep found r, q.1 ≤ r.1 := by
  unfold mstep
  cases e : found.getLast? with
  | none =>
    have e0 : found = [] := List.getLast?_eq_none_iff.mp e
    subst e0
    refine ⟨⟨by simpa using hr, by simp⟩, fun x hx => ?_, by simp⟩
    rw [mR_cons]
    constructor
    · rintro (q | q)
      · exact .inr q
      · exact absurd q (mR_nil _)
    · rintro (q | q)
      · exact absurd q (mR_nil _)
      · exact .inl q
  | some q =>
    have hs := last_split e
    generalize found.dropLast = f0 at hs
    subst hs
    obtain ⟨a1, b1, c1⟩ := hr
    have hq : RunOk p q := h.ok q (by simp)
    obtain ⟨a2, b2, c2⟩ := hq
    have hq1 := ho q (by simp)
    have hsep := List.pairwise_append.mp h.sep
    simp only
    by_cases hc : r.1 ≤ q.2 + 2
    · rw [if_pos hc]
      have gap : ∀ x, x % 2 = p → (q.1 ≤ x ∧ x ≤ max q.2 r.2 ↔ (q.1 ≤ x ∧ x ≤ q.2) ∨ (r.1 ≤ x ∧ x ≤ r.2)) := fun x hx => by
        constructor
        · rintro ⟨g1, g2⟩
          by_cases hx2 : x ≤ q.2
          · exact .inl ⟨g1, hx2⟩
          · exact .inr ⟨by omega, by omega⟩
        · rintro (g | g) <;> exact ⟨by omega, by omega⟩
      refine ⟨⟨fun s hs => ?_, ?_⟩, fun x hx => ?_, fun s hs => ?_⟩
      · rcases List.mem_append.mp hs with hs | hs
        · exact h.ok s (by simp [hs])
        · rw [List.mem_singleton.mp hs]
          refine ⟨?_, b2, ?_⟩ <;> simp only <;> omega
      · refine List.pairwise_append.mpr ⟨hsep.1, by simp, fun s hs t ht => ?_⟩
        rw [List.mem_singleton.mp ht]
        exact hsep.2.2 s hs q (by simp)
      · have g := gap x hx
        rw [mR_append, mR_append, mR_cons, mR_cons]
        simp only
        rw [g]
        constructor
        · rintro (z | (z | z) | z)
          · exact .inl (.inl z)
          · exact .inl (.inr (.inl z))
          · exact .inr z
          · exact absurd z (mR_nil _)
        · rintro ((z | z | z) | z)
          · exact .inl z
          · exact .inr (.inl (.inl z))
          · exact absurd z (mR_nil _)
          · exact .inr (.inl (.inr z))
      · rcases List.mem_append.mp hs with hs | hs
        · exact ho s (by simp [hs])
        · rw [List.mem_singleton.mp hs]
          exact hq1
    · rw [if_neg hc]
      refine ⟨⟨fun s hs => ?_, ?_⟩, fun x hx => ?_, fun s hs => ?_⟩
      · rcases List.mem_append.mp hs with hs | hs
        · exact h.ok s hs
        · rw [List.mem_singleton.mp hs]
          exact ⟨a1, b1, c1⟩
      · refine List.pairwise_append.mpr ⟨h.sep, by simp, fun s hs t ht => ?_⟩
        rw [List.mem_singleton.mp ht]
        unfold Sep
        rcases List.mem_append.mp hs with hs | hs
        · have h1 := hsep.2.2 s hs q (by simp)
          unfold Sep at h1
          omega
        · rw [List.mem_singleton.mp hs]
          omega
      · rw [mR_append, mR_cons]
        constructor
        · rintro (z | z | z)
          · exact .inl z
          · exact .inr z
          · exact absurd z (mR_nil _)
        · rintro (z | z)
          · exact .inl z
          · exact .inr (.inl z)
      · rcases List.mem_append.mp hs with hs | hs
        · exact ho s hs
        · rw [List.mem_singleton.mp hs]
          exact Int.le_refl _
theorem fold_ok {p : Int} : ∀ {l found : List Rn}, Canon p found → (∀ r ∈ l, RunOk p r) → l.Pairwise (fun r s => r.1 ≤ s.1) → (∀ q ∈ found, ∀ r ∈ l, q.1 ≤ r.1) → Canon p (l.foldl mstep found) ∧ ∀ x, x % 2 = p → (mR (l.foldl mstep found) x ↔ mR found x ∨ mR l x)
  | [], found, h, _, _, _ => ⟨h, fun x _ => ⟨fun z => .inl z, fun z => z.elim id fun z => absurd z (mR_nil _)⟩⟩
  | r :: l, found, h, ho, hs, hf => by
    obtain ⟨c1, c2, c3⟩ := mstep_ok h (ho r (List.mem_cons_self ..)) fun q hq => hf q hq r (List.mem_cons_self ..)
    have hs' := List.pairwise_cons.mp hs
    obtain ⟨d1, d2⟩ := fold_ok (l := l) c1 (fun s hs => ho s (List.mem_cons_of_mem _ hs)) hs'.2 fun q hq s hs => Int.le_trans (c3 q hq) (hs'.1 s hs)
    refine ⟨d1, fun x hx => ?_⟩
    show mR (l.foldl mstep (mstep found r)) x ↔ _
    rw [d2 x hx, c2 x hx, mR_cons, or_assoc]
theorem mstep_len (found : List Rn) (r : Rn) : (mstep found r).length ≤ found.length + 1 := by
  unfold mstep
  split
  · split
    · simp only [List.length_append, List.length_dropLast, List.length_cons, List.length_nil]; omega
    · simp
  · simp
theorem fold_len : ∀ (l found : List Rn), (l.foldl mstep found).length ≤ found.length + l.length
  | [], found => by simp
  | r :: l, found => by
    have h1 := fold_len l (mstep found r)
    have h2 := mstep_len found r
    simp only [List.foldl_cons, List.length_cons]
    omega
/-! ### numbers, one behind another (the law's own) -/
def lstep (p : Int) (found : List Rn) (x : Int) : List Rn := if x % 2 = p then (match found.getLast? with
  | some q => if x = q.2 + 2 then found.dropLast ++ [(q.1, x)] else found ++ [(x, x)]
  | none => [(x, x)]) else found
theorem lstep_eq {p : Int} {found : List Rn} {x : Int} (hx : x % 2 = p) (h : ∀ q ∈ found, q.2 < x) (hp : ∀ q ∈ found, q.2 % 2 = p) : lstep p found x = mstep found (x, x) := by
  unfold lstep mstep
  rw [if_pos hx]
  cases e : found.getLast? with
  | none => rfl
  | some q =>
    have hq : q ∈ found := List.mem_of_getLast? e
    have h1 := h q hq
    have h2 := hp q hq
    simp only
    by_cases hc : x = q.2 + 2
    · rw [if_pos hc, if_pos (by omega)]
      have : max q.2 x = x := by omega
      rw [this]
    · rw [if_neg hc, if_neg (by omega)]
theorem lfold_ok {p : Int} : ∀ {l : List Int} {found : List Rn}, Canon p found → l.Pairwise (· < ·) → (∀ q ∈ found, ∀ x ∈ l, q.2 < x) → Canon p (l.foldl (lstep p) found) ∧ ∀ x, x % 2 = p → (mR (l.foldl (lstep p) found) x ↔ mR found x ∨ x ∈ l)
  | [], found, h, _, _ => ⟨h, fun x _ => ⟨fun z => .inl z, fun z => z.elim id fun z => by cases z⟩⟩
  | y :: l, found, h, hs, hf => by
    have hs' := List.pairwise_cons.mp hs
    have hy : ∀ q ∈ found, q.2 < y := fun q hq => hf q hq y (List.mem_cons_self ..)
    by_cases hp : y % 2 = p
    · have e := lstep_eq hp hy (fun q hq => (h.ok q hq).2.2)
      obtain ⟨c1, c2, c3⟩ := mstep_ok h (r := (y, y)) ⟨Int.le_refl _, hp, hp⟩ fun q hq => by have := (h.ok q hq).1; have := hy q hq; simp only; omega
      have c4 : ∀ q ∈ mstep found (y, y), ∀ x ∈ l, q.2 < x := fun q hq x hx => by
        have hx1 := hs'.1 x hx
        have hm : mR (mstep found (y, y)) q.2 := ⟨q, hq, (c1.ok q hq).1, Int.le_refl _⟩
        rcases (c2 q.2 (c1.ok q hq).2.2).mp hm with z | z
        · obtain ⟨s, hs, z1, z2⟩ := z
          have := hy s hs
          omega
        · simp only at z
          omega
      rw [← e] at c1 c2 c4
      obtain ⟨d1, d2⟩ := lfold_ok (l := l) c1 hs'.2 c4
      refine ⟨d1, fun x hx => ?_⟩
      show mR (l.foldl (lstep p) (lstep p found y)) x ↔ _
      rw [d2 x hx, c2 x hx, List.mem_cons]
      simp only
      constructor
      · rintro ((z | z) | z)
        · exact .inl z
        · exact .inr (.inl (by omega))
        · exact .inr (.inr z)
      · rintro (z | z | z)
        · exact .inl (.inl z)
        · exact .inl (.inr (by omega))
        · exact .inr z
    · have e : lstep p found y = found := by unfold lstep; rw [if_neg hp]
      obtain ⟨d1, d2⟩ := lfold_ok (l := l) h hs'.2 fun q hq x hx => hf q hq x (List.mem_cons_of_mem _ hx)
      refine ⟨?_, fun x hx => ?_⟩
      · show Canon p (l.foldl (lstep p) (lstep p found y))
        rw [e]
        exact d1
      · show mR (l.foldl (lstep p) (lstep p found y)) x ↔ _
        rw [e, d2 x hx, List.mem_cons]
        constructor
        · rintro (z | z)
          · exact .inl z
          · exact .inr (.inr z)
        · rintro (z | z | z)
          · exact .inl z
          · rw [z] at hx; exact absurd hx hp
          · exact .inr z
theorem lstep_len (p : Int) (found : List Rn) (x : Int) : (lstep p found x).length ≤ found.length + 1 := by
  unfold lstep
  split
  · split
    · split
      · simp only [List.length_append, List.length_dropLast, List.length_cons, List.length_nil]; omega
      · simp
    · simp
  · omega
theorem lfold_len (p : Int) : ∀ (l : List Int) (found : List Rn), (l.foldl (lstep p) found).length ≤ found.length + l.length
  | [], found => by simp
  | r :: l, found => by
    have h1 := lfold_len p l (lstep p found r)
    have h2 := lstep_len p found r
    simp only [List.foldl_cons, List.length_cons]
    omega
/-! ### common -/
def inter (r s : Rn) : Rn := (max r.1 s.1, min r.2 s.2)
def comR (rs ss : List Rn) : List Rn := (rs.flatMap fun r => ss.map fun s => inter r s).filter fun t => decide (t.1 ≤ t.2)
theorem com_ok {p : Int} {rs ss : List Rn} (hr : Canon p rs) (hs : Canon p ss) : Canon p (comR rs ss) ∧ ∀ x, mR (comR rs ss) x ↔ mR rs x ∧ mR ss x := by
  refine ⟨⟨fun t ht => ?_, ?_⟩, fun x => ?_⟩
  · obtain ⟨h1, h2⟩ := List.mem_filter.mp ht
    obtain ⟨r, hr', h3⟩ := List.mem_flatMap.mp h1
    obtain ⟨s, hs', rfl⟩ := List.mem_map.mp h3
    obtain ⟨a1, b1, c1⟩ := hr.ok r hr'
    obtain ⟨a2, b2, c2⟩ := hs.ok s hs'
    have h4 : (inter r s).1 ≤ (inter r s).2 := of_decide_eq_true h2
    refine ⟨h4, ?_, ?_⟩
    · show max r.1 s.1 % 2 = p; omega
    · show min r.2 s.2 % 2 = p; omega
  · unfold comR
    have key : (rs.flatMap fun r => ss.map fun s => inter r s).Pairwise (fun t u => t.1 ≤ t.2 → u.1 ≤ u.2 → Sep t u) := by
      rw [List.pairwise_flatMap]
      refine ⟨fun r _ => ?_, ?_⟩
      · rw [List.pairwise_map]
        refine hs.sep.imp fun {s s'} h _ _ => ?_
        unfold Sep at h ⊢
        show min r.2 s.2 + 2 < max r.1 s'.1
        omega
      · refine hr.sep.imp fun {r r'} h t ht u hu _ _ => ?_
        obtain ⟨s, _, rfl⟩ := List.mem_map.mp ht
        obtain ⟨s', _, rfl⟩ := List.mem_map.mp hu
        unfold Sep at h ⊢
        show min r.2 s.2 + 2 < max r'.1 s'.1
        omega
    have k2 := key.sublist (List.filter_sublist (p := fun t => decide (t.1 ≤ t.2)))
    refine k2.imp_of_mem fun {t u} ht hu h => h (of_decide_eq_true (List.mem_filter.mp ht).2) (of_decide_eq_true (List.mem_filter.mp hu).2)
  · constructor
    · rintro ⟨t, ht, h1, h2⟩
      obtain ⟨h3, _⟩ := List.mem_filter.mp ht
      obtain ⟨r, hr', h4⟩ := List.mem_flatMap.mp h3
      obtain ⟨s, hs', rfl⟩ := List.mem_map.mp h4
      have h1 : max r.1 s.1 ≤ x := h1
      have h2 : x ≤ min r.2 s.2 := h2
      exact ⟨⟨r, hr', by omega, by omega⟩, ⟨s, hs', by omega, by omega⟩⟩
    · rintro ⟨⟨r, hr', h1, h2⟩, ⟨s, hs', h3, h4⟩⟩
      refine ⟨inter r s, List.mem_filter.mpr ⟨List.mem_flatMap.mpr ⟨r, hr', List.mem_map.mpr ⟨s, hs', rfl⟩⟩, decide_eq_true ?_⟩, ?_, ?_⟩
      · show max r.1 s.1 ≤ min r.2 s.2; omega
      · show max r.1 s.1 ≤ x; omega
      · show x ≤ min r.2 s.2; omega
/-! ### rest -/
def cutOne (o r : Rn) : List Rn := (if r.1 < o.1 then [(r.1, min r.2 (o.1 - 2))] else []) ++ (if o.2 < r.2 then [(max r.1 (o.2 + 2), r.2)] else [])
def cutR (found : List Rn) (o : Rn) : List Rn := found.flatMap (cutOne o)
theorem cutOne_mem {o r t : Rn} (ht : t ∈ cutOne o r) : (r.1 < o.1 ∧ t = (r.1, min r.2 (o.1 - 2))) ∨ (o.2 < r.2 ∧ t = (max r.1 (o.2 + 2), r.2)) := by
  unfold cutOne at ht
  rcases List.mem_append.mp ht with h | h
  · split at h
    · exact .inl ⟨by assumption, by simpa using h⟩
    · cases h
  · split at h
    · exact .inr ⟨by assumption, by simpa using h⟩
    · cases h
theorem cut_ok {p : Int} {found : List Rn} {o : Rn} (h : Canon p found) (ho : RunOk p o) : Canon p (cutR found o) ∧ ∀ x, x % 2 = p → (mR (cutR found o) x ↔ mR found x ∧ ¬ (o.1 ≤ x ∧ x ≤ o.2)) := by
  obtain ⟨oa, ob, oc⟩ := ho
  refine ⟨⟨fun t ht => ?_, ?_⟩, fun x hx => ?_⟩
  · obtain ⟨r, hr, h2⟩ := List.mem_flatMap.mp ht
    obtain ⟨a1, b1, c1⟩ := h.ok r hr
    rcases cutOne_mem h2 with ⟨q, rfl⟩ | ⟨q, rfl⟩
    · refine ⟨?_, ?_, ?_⟩ <;> simp only <;> omega
    · refine ⟨?_, ?_, ?_⟩ <;> simp only <;> omega
  · unfold cutR
    rw [List.pairwise_flatMap]
    refine ⟨fun r hr => ?_, ?_⟩
    · unfold cutOne
      refine List.pairwise_append.mpr ⟨by split <;> simp, by split <;> simp, fun t ht u hu => ?_⟩
      split at ht
      · split at hu
        · rw [List.mem_singleton.mp ht, List.mem_singleton.mp hu]
          unfold Sep
          simp only
          omega
        · cases hu
      · cases ht
    · refine h.sep.imp_of_mem fun {r r'} hr hr' hs t ht u hu => ?_
      obtain ⟨a1, b1, c1⟩ := h.ok r hr
      obtain ⟨a2, b2, c2⟩ := h.ok r' hr'
      unfold Sep at hs ⊢
      rcases cutOne_mem ht with ⟨q, rfl⟩ | ⟨q, rfl⟩ <;> rcases cutOne_mem hu with ⟨q', rfl⟩ | ⟨q', rfl⟩ <;> simp only <;> omega
  · constructor
    · rintro ⟨t, ht, h1, h2⟩
      obtain ⟨r, hr, h3⟩ := List.mem_flatMap.mp ht
      obtain ⟨a1, b1, c1⟩ := h.ok r hr
      rcases cutOne_mem h3 with ⟨q, rfl⟩ | ⟨q, rfl⟩ <;> simp only at h1 h2
      · exact ⟨⟨r, hr, by omega, by omega⟩, by omega⟩
      · exact ⟨⟨r, hr, by omega, by omega⟩, by omega⟩
    · rintro ⟨⟨r, hr, h1, h2⟩, h3⟩
      obtain ⟨a1, b1, c1⟩ := h.ok r hr
      by_cases hc : x < o.1
      · refine ⟨(r.1, min r.2 (o.1 - 2)), List.mem_flatMap.mpr ⟨r, hr, ?_⟩, h1, ?_⟩
        · unfold cutOne
          rw [if_pos (show r.1 < o.1 by omega)]
          simp
        · simp only; omega
      · refine ⟨(max r.1 (o.2 + 2), r.2), List.mem_flatMap.mpr ⟨r, hr, ?_⟩, ?_, h2⟩
        · unfold cutOne
          rw [if_pos (show o.2 < r.2 by omega)]
          simp
        · simp only; omega
theorem rest_ok {p : Int} : ∀ {os found : List Rn}, Canon p found → (∀ o ∈ os, RunOk p o) → Canon p (os.foldl cutR found) ∧ ∀ x, x % 2 = p → (mR (os.foldl cutR found) x ↔ mR found x ∧ ¬ mR os x)
  | [], found, h, _ => ⟨h, fun x _ => ⟨fun z => ⟨z, mR_nil _⟩, fun z => z.1⟩⟩
  | o :: os, found, h, ho => by
    obtain ⟨c1, c2⟩ := cut_ok h (ho o (List.mem_cons_self ..))
    obtain ⟨d1, d2⟩ := rest_ok (os := os) c1 fun q hq => ho q (List.mem_cons_of_mem _ hq)
    refine ⟨d1, fun x hx => ?_⟩
    show mR (os.foldl cutR (cutR found o)) x ↔ _
    rw [d2 x hx, c2 x hx, mR_cons, not_or, and_assoc]
theorem cutOne_len (o r : Rn) : (cutOne o r).length ≤ 2 := by
  unfold cutOne
  split <;> split <;> simp
end CT
set_option maxHeartbeats 4000000
namespace CL
open PySem L2 CT
/-! ### the bag -/
def bagC (a b c : Int) (cs : List Int) : Cell := .lst [.int a, .int b, .int c, .lst (cs.map .int)]
section
variable {a b c n : Int} {cs : List Int} {C : Store} {i : Nat}
theorem mul1 (x : Int) (C : Store) : oMul (.int x) (.int 48271) C = some (.int (x * 48271), C) := ev_mul C (by simp [cMul])
theorem mul2 (x : Int) (C : Store) : oMul (.int 7919) (.int x) C = some (.int (7919 * x), C) := ev_mul C (by simp [cMul])
theorem mul3 (x : Int) (C : Store) : oMul (.int x) (.int 39373) C = some (.int (x * 39373), C) := ev_mul C (by simp [cMul])
theorem mul4 (x : Int) (C : Store) : oMul (.int x) (.int 30011) C = some (.int (x * 30011), C) := ev_mul C (by simp [cMul])
theorem mod1 (x : Int) (C : Store) : oMod (.int x) (.int 2147483647) C = some (.int (x % 2147483647), C) := ev_mod C (by decide)
theorem mod2 (x : Int) (C : Store) : oMod (.int x) (.int 1000000007) C = some (.int (x % 1000000007), C) := ev_mod C (by decide)
theorem mod3 (x : Int) (C : Store) : oMod (.int x) (.int 998244353) C = some (.int (x % 998244353), C) := ev_mod C (by decide)
theorem div7 (x : Int) (C : Store) : oDiv (.int x) (.int 7) C = some (.int (x / 7), C) := ev_div C (by decide) (by decide)
theorem take_0 (hC : C[i]? = some (some (bagC 0 b c cs))) (hb : 0 ≤ b) (hb2 : b < 2147483647) (hc : 0 ≤ c) (hcs : ∀ x ∈ cs, 0 ≤ x) : ∃ a' b' s2 s3, 0 ≤ a' ∧ 0 ≤ b' ∧ b' < 2147483647 ∧
    b_law_take_0 ⟨C.length, [some (.cell i), some (.int n), none, none, none, none, none]⟩ C = .nx [some (.cell i), some (.int n), s2, s3, none, none, none] (C.set i (some (bagC a' b' (c + 1) cs))) := by
  have hi : i < C.length := (List.getElem?_eq_some_iff.mp hC).1
  have hC' : C[i]? = some (some (Cell.lst [.int 0, .int b, .int c, .lst (cs.map .int)])) := hC
  have gs : ∀ x : Option Cell, (C.set i x)[i]? = some x := fun x => List.getElem?_set_self hi
  by_cases h1 : c < cs.length
  · have h1' : c.toNat < cs.length := by omega
    have hcell : 0 ≤ cs[c.toNat] := hcs _ (List.getElem_mem h1')
    by_cases h2 : 1000000000000000000 ≤ cs[c.toNat]
    · refine ⟨cs[c.toNat], (b * 48271 + cs[c.toNat] % 2147483647 + 7919 * (c + 1)) % 2147483647, some (.int cs[c.toNat]), some (.int (b * 48271 + cs[c.toNat] % 2147483647 + 7919 * (c + 1))), hcell, ?_, ?_, ?e⟩
      case e => simp [b_law_take_0, b_law_take_0t_0, b_law_take_0t_1, b_law_take_0t_2, b_law_take_0t_3, b_law_take_0t_4, b_law_take_0t_5, oIx, vS, hC', atI, ixN, gs, oLen, h1, h1', hc, auK2, auK4, cL, wr, cbC, cbL, cb, stK4, h2, mul1, mul2, mod1, bagC]
      · exact Int.emod_nonneg _ (by decide)
      · exact Int.emod_lt_of_pos _ (by decide)
    · refine ⟨0, (b * 48271 + cs[c.toNat] % 2147483647 + 7919 * (c + 1)) % 2147483647, some (.int cs[c.toNat]), some (.int (b * 48271 + cs[c.toNat] % 2147483647 + 7919 * (c + 1))), by decide, ?_, ?_, ?e⟩
      case e => simp [b_law_take_0, b_law_take_0t_0, b_law_take_0t_1, b_law_take_0t_2, b_law_take_0t_3, b_law_take_0t_4, b_law_take_0t_5, oIx, vS, hC', atI, ixN, gs, oLen, h1, h1', hc, auK2, auK4, cL, wr, cbC, cbL, cb, stK4, h2, mul1, mul2, mod1, bagC]
      · exact Int.emod_nonneg _ (by decide)
      · exact Int.emod_lt_of_pos _ (by decide)
  · refine ⟨0, (b * 48271 + 0 % 2147483647 + 7919 * (c + 1)) % 2147483647, some (.int 0), some (.int (b * 48271 + 0 % 2147483647 + 7919 * (c + 1))), by decide, ?_, ?_, ?e⟩
    case e => simp [b_law_take_0, b_law_take_0t_0, b_law_take_0t_1, b_law_take_0t_2, b_law_take_0t_3, b_law_take_0t_4, b_law_take_0t_5, oIx, vS, hC', atI, ixN, gs, oLen, h1, hc, auK2, auK4, cL, wr, cbC, cbL, cb, stK4, mul1, mul2, mod1, bagC]
    · exact Int.emod_nonneg _ (by decide)
    · exact Int.emod_lt_of_pos _ (by decide)
theorem take_1 (hC : C[i]? = some (some (bagC a b c cs))) (ha : 0 < a) (hn : 0 < n) (hn2 : n < 4611686018427387904) {s2 s3 : Option D} :
    b_law_take_1 ⟨C.length, [some (.cell i), some (.int n), s2, s3, none, none, none]⟩ C = .rt (.int (a % n)) (C.set i (some (bagC (a / n) b c cs))) := by
  have hC' : C[i]? = some (some (Cell.lst [.int a, .int b, .int c, .lst (cs.map .int)])) := hC
  simp [b_law_take_1, b_law_take_1t_0, b_law_take_1t_1, b_law_take_1t_2, oIx, vS, hC', atI, ixN, ha, ev_mod C hn, ev_div C hn hn2, stK4, cL, wr, cbC, cbL, cb, bagC]
theorem take_1n (hC : C[i]? = some (some (bagC 0 b c cs))) {s2 s3 : Option D} :
    b_law_take_1 ⟨C.length, [some (.cell i), some (.int n), s2, s3, none, none, none]⟩ C = .nx [some (.cell i), some (.int n), s2, s3, none, none, none] C := by
  have hC' : C[i]? = some (some (Cell.lst [.int 0, .int b, .int c, .lst (cs.map .int)])) := hC
  simp [b_law_take_1, oIx, vS, hC', atI, ixN]
theorem mulB {x y : Int} (h1 : 0 ≤ x) (h2 : x < 1000000007) (C : Store) : oMul (.int x) (.int y) C = some (.int (x * y), C) := ev_mul C (by
  have e1 : decide (-(2 ^ 64) < x) = true := decide_eq_true (by omega)
  have e2 : decide (x < 2 ^ 64) = true := decide_eq_true (by omega)
  simp only [cMul, e1, e2, Bool.and_self, Bool.true_or])
theorem take_2 (hC : C[i]? = some (some (bagC a b c cs))) (hb : 0 ≤ b) (hn : 0 < n) {s2 s3 : Option D} : ∃ r, 0 ≤ r ∧ r < n ∧
    sSeq b_law_take_2 (sSeq b_law_take_3 b_law_take_4) ⟨C.length, [some (.cell i), some (.int n), s2, s3, none, none, none]⟩ C = .rt (.int r) C := by
  have hC' : C[i]? = some (some (Cell.lst [.int a, .int b, .int c, .lst (cs.map .int)])) := hC
  have e0 : 0 ≤ (b + 1) * 39373 % 1000000007 := Int.emod_nonneg _ (by decide)
  have e1 : (b + 1) * 39373 % 1000000007 < 1000000007 := Int.emod_lt_of_pos _ (by decide)
  refine ⟨((b + 1) * 39373 % 1000000007 * ((b + 1) * 39373 % 1000000007) % 998244353 * 30011 % 998244353 / 7) % n, Int.emod_nonneg _ (by omega), Int.emod_lt_of_pos _ hn, ?_⟩
  simp [b_law_take_2, b_law_take_3, b_law_take_4, oIx, vS, hC', atI, ixN, mul3, mod2, mulB e0 e1, mod3, mul4, div7, ev_mod C hn]
/-- a bag in the store -/
def Bag (i : Nat) (cs : List Int) (C : Store) : Prop := ∃ a b c, C[i]? = some (some (bagC a b c cs)) ∧ 0 ≤ a ∧ 0 ≤ b ∧ b < 2147483647 ∧ 0 ≤ c
theorem take_ok (hB : Bag i cs C) (hcs : ∀ x ∈ cs, 0 ≤ x) (hn : 0 < n) (hn2 : n < 4611686018427387904) : ∃ r x, m_law_take [.cell i, .int n] C = .ok (.int r) (C.set i (some x)) ∧ 0 ≤ r ∧ r < n ∧ Bag i cs (C.set i (some x)) := by
  obtain ⟨a, b, c, hC, ha, hb, hb2, hc⟩ := hB
  have hi : i < C.length := (List.getElem?_eq_some_iff.mp hC).1
  have gs : ∀ x : Option Cell, (C.set i x)[i]? = some x := fun x => List.getElem?_set_self hi
  have tk : ∀ x : Option Cell, (C.set i x).take C.length = C.set i x := fun x => List.take_of_length_le (by simp)
  have hC' : C[i]? = some (some (Cell.lst [.int a, .int b, .int c, .lst (cs.map .int)])) := hC
  have ld : ∀ x : Option Cell, (C.set i x).length = C.length := fun x => by simp
  by_cases h0 : a = 0
  · subst h0
    obtain ⟨a', b', s2, s3, h1, h2, h3, e⟩ := take_0 (n := n) hC hb hb2 hc hcs
    by_cases h4 : a' = 0
    · subst h4
      obtain ⟨r, r1, r2, e2⟩ := take_2 (n := n) (s2 := s2) (s3 := s3) (gs (some (bagC 0 b' (c + 1) cs))) h2 hn
      have e1 := take_1n (n := n) (s2 := s2) (s3 := s3) (gs (some (bagC 0 b' (c + 1) cs)))
      rw [ld] at e1 e2
      refine ⟨r, _, ?_, r1, r2, 0, b', c + 1, gs _, by decide, h2, h3, by omega⟩
      rw [e_law_take, b_law_take, ev_seq, e, seqK_nx, ev_seq, e1, seqK_nx, e2]
      simp [tk]
    · have e1 := take_1 (n := n) (s2 := s2) (s3 := s3) (gs (some (bagC a' b' (c + 1) cs))) (by omega) hn hn2
      rw [ld] at e1
      refine ⟨a' % n, bagC (a' / n) b' (c + 1) cs, ?_, Int.emod_nonneg _ (by omega), Int.emod_lt_of_pos _ hn, a' / n, b', c + 1, gs _, Int.ediv_nonneg h1 (by omega), h2, h3, by omega⟩
      rw [e_law_take, b_law_take, ev_seq, e, seqK_nx, ev_seq, e1]
      simp [tk]
  · have e1 := take_1 (n := n) (s2 := none) (s3 := none) hC (by omega) hn hn2
    refine ⟨a % n, bagC (a / n) b c cs, ?_, Int.emod_nonneg _ (by omega), Int.emod_lt_of_pos _ hn, a / n, b, c, gs _, Int.ediv_nonneg ha (by omega), hb, hb2, hc⟩
    have e : b_law_take_0 ⟨C.length, [some (.cell i), some (.int n), none, none, none, none, none]⟩ C = .nx [some (.cell i), some (.int n), none, none, none, none, none] C := by
      simp [b_law_take_0, oIx, vS, hC', atI, ixN, h0]
    rw [e_law_take, b_law_take, ev_seq, e, seqK_nx, ev_seq, e1]
    simp [tk]
end
end CL
set_option maxHeartbeats 4000000
/-! E2: loops, comprehensions, dicts worked out. -/
namespace CT
open PySem L2
@[simp] theorem tgt_nm (i : Nat) (d : D) (sl : List (Option D)) : (Tgt.nm i).M d sl = some (sl.set i (some d)) := rfl
@[simp] theorem tgt_tp (is : List Nat) (ds : List D) (sl : List (Option D)) : (Tgt.tp is).M (.tup ds) sl = setAll is ds sl := rfl
@[simp] theorem wipe0 (sl : List (Option D)) : wipeD sl [] = sl := rfl
@[simp] theorem wipe1 (sl : List (Option D)) (v : Nat) (vs : List Nat) : wipeD sl (v :: vs) = (wipeD sl vs).set v none := rfl
/-- what is walked stays: these items -/
structure PureIt (it : ItD) (xs : List D) : Prop where
  n : it.n = xs.length
  item : ∀ j C, j < xs.length → it.item j C = xs[j]?
  fin : ∀ C, it.fin C = true
theorem pure_C (xs : List D) : PureIt (itC xs) xs := ⟨rfl, fun _ _ _ => rfl, fun _ => rfl⟩
def rngI (lo : Int) (n : Nat) : List D := (List.range n).map fun i => D.int (lo + (i : Nat))
theorem pure_R (lo : Int) (n : Nat) : PureIt (itR lo n) (rngI lo n) := ⟨by simp [itR, rngI], fun j C hj => by
  have : j < n := by simpa [rngI] using hj
  simp [itR, rngI, this], fun _ => rfl⟩
theorem pure_P {it : ItD} {xs : List D} (h : PureIt it xs) : PureIt (prI it) ((List.range xs.length).zip xs |>.map fun p => D.tup [.int (p.1 : Nat), p.2]) := by
  refine ⟨by simp [prI, h.n], fun j C hj => ?_, fun C => h.fin C⟩
  have hj' : j < xs.length := by simpa using hj
  show (it.item j C).map _ = _
  rw [h.item j C hj', List.getElem?_map, List.getElem?_eq_getElem hj']
  simp [List.getElem?_zip_eq_some, hj']
/-! ### comprehensions that change nothing -/
theorem lc_go {it : ItD} {xs : List D} (p : PureIt it xs) {g : MG} {tt : MT} {te : ME} {C : Store} {sl : List (Option D)} {f : D → Bool} {h : D → D} (sz : xs.length ≤ 16777215)
    (st : ∀ x ∈ xs, ∃ sl1, g x sl = some sl1 ∧ ∀ acc, tt ⟨C.length, sl1⟩ (C ++ [some (.lst acc)]) = .ok (f x) (C ++ [some (.lst acc)]) ∧ (f x = true → te ⟨C.length, sl1⟩ (C ++ [some (.lst acc)]) = .ok (h x) (C ++ [some (.lst acc)]))) :
    ∀ r j, r + j = xs.length → lcN it g tt te C.length sl r j (C ++ [some (.lst (((xs.take j).filter f).map h))]) = .ok () (C ++ [some (.lst ((xs.filter f).map h))])
  | 0, j, e => by
    have ej : j = xs.length := by omega
    subst ej
    unfold lcN
    rw [if_pos (p.fin _), List.take_length]
  | r + 1, j, e => by
    have hj : j < xs.length := by omega
    obtain ⟨sl1, h1, h2⟩ := st xs[j] (List.getElem_mem hj)
    have ih := lc_go p sz st r (j + 1) (by omega)
    have tk : xs.take (j + 1) = xs.take j ++ [xs[j]] := (List.take_append_getElem hj).symm
    rw [tk, List.filter_append, List.map_append] at ih
    unfold lcN
    rw [p.item j _ hj, List.getElem?_eq_getElem hj]
    simp only [h1]
    obtain ⟨e1, e2⟩ := h2 (((xs.take j).filter f).map h)
    rw [e1]
    simp only [bn0_ok]
    cases hf : f xs[j] with
    | true =>
      rw [if_pos rfl, e2 hf]
      simp only [bn0_ok]
      have at_n : (C ++ [some (Cell.lst (((xs.take j).filter f).map h))])[C.length]? = some (some (.lst (((xs.take j).filter f).map h))) := by simp
      have hz : szN ((((xs.take j).filter f).map h).length + 1) = true := by
        have l1 : ((xs.take j).filter f).length ≤ (xs.take j).length := List.length_filter_le _ _
        have l2 : (xs.take j).length ≤ j := by simp; omega
        simp only [szN, List.length_map, decide_eq_true_eq]
        omega
      rw [at_n]
      simp only [hz, if_true]
      have es : (C ++ [some (Cell.lst (((xs.take j).filter f).map h))]).set C.length (some (.lst (((xs.take j).filter f).map h ++ [h xs[j]]))) = C ++ [some (.lst (((xs.take j).filter f).map h ++ [h xs[j]]))] := by simp
      rw [es]
      simpa [List.filter_cons, hf] using ih
    | false =>
      rw [if_neg (by decide)]
      simpa [List.filter_cons, hf] using ih
/-- [e for t in it if c], nothing changed: plain data -/
theorem ev_lc {mi : MI} {it : ItD} {xs : List D} (p : PureIt it xs) {g : MG} {tt : MT} {te : ME} {vs : List Nat} {F : Fr} {C : Store} (f : D → Bool) (h : D → D) (hi : mi F C = .ok it C) (sz : xs.length ≤ 16777215)
    (st : ∀ x ∈ xs, ∃ sl1, g x (wipeD F.sl vs) = some sl1 ∧ ∀ acc, tt ⟨C.length, sl1⟩ (C ++ [some (.lst acc)]) = .ok (f x) (C ++ [some (.lst acc)]) ∧ (f x = true → te ⟨C.length, sl1⟩ (C ++ [some (.lst acc)]) = .ok (h x) (C ++ [some (.lst acc)])))
    (hc : ∀ x ∈ xs, f x = true → cb C.length (h x) = true) : mLc false mi g tt te vs F C = .ok (.lst ((xs.filter f).map h)) C := by
  have e := lc_go p sz st it.n 0 (by rw [p.n]; omega)
  unfold mLc
  rw [hi]
  simp only [bnd_ok]
  simp only [List.take_zero, List.filter_nil, List.map_nil] at e
  rw [e]
  simp only [bn0_ok]
  have at_n : (C ++ [some (Cell.lst ((xs.filter f).map h))])[C.length]? = some (some (.lst ((xs.filter f).map h))) := by simp
  have hb : cbL C.length ((xs.filter f).map h) = true := by
    have : ∀ l : List D, (∀ x ∈ l, f x = true → cb C.length (h x) = true) → cbL C.length ((l.filter f).map h) = true := by
      intro l
      induction l with
      | nil => intro _; rfl
      | cons x l ih =>
        intro hl
        rw [List.filter_cons]
        split
        · rename_i hx
          show (cb C.length (h x) && cbL C.length ((l.filter f).map h)) = true
          rw [hl x (List.mem_cons_self ..) hx, ih fun y hy => hl y (List.mem_cons_of_mem _ hy)]
          rfl
        · exact ih fun y hy => hl y (List.mem_cons_of_mem _ hy)
    exact this xs hc
  unfold lcEnd
  rw [if_neg (by decide), at_n]
  simp [hb]
theorem ev_seqI {m : ME} {F : Fr} {C : Store} {d : D} {it : ItD} (h : m F C = .ok d C) (hi : itS d C = some it) : mSeq m F C = .ok it C := by
  unfold mSeq
  rw [h]
  simp [hi]
/-! ### two clauses -/
theorem lc_from {it : ItD} {xs : List D} (p : PureIt it xs) {g : MG} {tt : MT} {te : ME} {C : Store} {sl : List (Option D)} {f : D → Bool} {h : D → D} {a0 : List D} (sz : a0.length + xs.length ≤ 16777215)
    (st : ∀ x ∈ xs, ∃ sl1, g x sl = some sl1 ∧ ∀ acc, tt ⟨C.length, sl1⟩ (C ++ [some (.lst acc)]) = .ok (f x) (C ++ [some (.lst acc)]) ∧ (f x = true → te ⟨C.length, sl1⟩ (C ++ [some (.lst acc)]) = .ok (h x) (C ++ [some (.lst acc)]))) :
    ∀ r j, r + j = xs.length → lcN it g tt te C.length sl r j (C ++ [some (.lst (a0 ++ ((xs.take j).filter f).map h))]) = .ok () (C ++ [some (.lst (a0 ++ (xs.filter f).map h))])
  | 0, j, e => by
    have ej : j = xs.length := by omega
    subst ej
    unfold lcN
    rw [if_pos (p.fin _), List.take_length]
  | r + 1, j, e => by
    have hj : j < xs.length := by omega
    obtain ⟨sl1, h1, h2⟩ := st xs[j] (List.getElem_mem hj)
    have ih := lc_from p sz st r (j + 1) (by omega)
    have tk : xs.take (j + 1) = xs.take j ++ [xs[j]] := (List.take_append_getElem hj).symm
    rw [tk, List.filter_append, List.map_append] at ih
    unfold lcN
    rw [p.item j _ hj, List.getElem?_eq_getElem hj]
    simp only [h1]
    obtain ⟨e1, e2⟩ := h2 (a0 ++ ((xs.take j).filter f).map h)
    rw [e1]
    simp only [bn0_ok]
    cases hf : f xs[j] with
    | true =>
      rw [if_pos rfl, e2 hf]
      simp only [bn0_ok]
      have at_n : (C ++ [some (Cell.lst (a0 ++ ((xs.take j).filter f).map h))])[C.length]? = some (some (.lst (a0 ++ ((xs.take j).filter f).map h))) := by simp
      have hz : szN ((a0 ++ ((xs.take j).filter f).map h).length + 1) = true := by
        have l1 : ((xs.take j).filter f).length ≤ (xs.take j).length := List.length_filter_le _ _
        have l2 : (xs.take j).length ≤ j := by simp; omega
        simp only [szN, List.length_append, List.length_map, decide_eq_true_eq]
        omega
      rw [at_n]
      simp only [hz, if_true]
      have es : (C ++ [some (Cell.lst (a0 ++ ((xs.take j).filter f).map h))]).set C.length (some (.lst (a0 ++ ((xs.take j).filter f).map h ++ [h xs[j]]))) = C ++ [some (.lst (a0 ++ ((xs.take j).filter f).map h ++ [h xs[j]]))] := by simp
      rw [es]
      simpa [List.filter_cons, hf] using ih
    | false =>
      rw [if_neg (by decide)]
      simpa [List.filter_cons, hf] using ih
/-- what the two clauses make -/
def flat2 (xs : List D) (ys : D → List D) (f : D → D → Bool) (h : D → D → D) : List D := xs.flatMap fun x => ((ys x).filter (f x)).map (h x)
theorem flat2_len (xs : List D) (ys : D → List D) (f : D → D → Bool) (h : D → D → D) {m : Nat} (hy : ∀ x ∈ xs, (ys x).length ≤ m) : (flat2 xs ys f h).length ≤ xs.length * m := by
  unfold flat2
  induction xs with
  | nil => simp
  | cons x xs ih =>
    have h1 := ih fun y hy' => hy y (List.mem_cons_of_mem _ hy')
    have h2 : (((ys x).filter (f x)).map (h x)).length ≤ m := by
      rw [List.length_map]
      exact Nat.le_trans (List.length_filter_le _ _) (hy x (List.mem_cons_self ..))
    rw [List.flatMap_cons, List.length_append, List.length_cons, Nat.succ_mul]
    omega
theorem lc2_go {it : ItD} {xs : List D} (p : PureIt it xs) {g g1 : MG} {mi1 : MI} {tt1 : MT} {te : ME} {C : Store} {sl : List (Option D)} {vs1 : List Nat} {ys : D → List D} {f : D → D → Bool} {h : D → D → D} {m : Nat} (hy : ∀ x ∈ xs, (ys x).length ≤ m) (sz : xs.length * m ≤ 16000000) (sm : m ≤ 700000)
    (st : ∀ x ∈ xs, ∃ sl1, g x sl = some sl1 ∧ ∀ acc, (∃ it1, PureIt it1 (ys x) ∧ mi1 ⟨C.length, sl1⟩ (C ++ [some (.lst acc)]) = .ok it1 (C ++ [some (.lst acc)])) ∧
      ∀ y ∈ ys x, ∃ sl2, g1 y (wipeD sl1 vs1) = some sl2 ∧ ∀ acc, tt1 ⟨C.length, sl2⟩ (C ++ [some (.lst acc)]) = .ok (f x y) (C ++ [some (.lst acc)]) ∧ (f x y = true → te ⟨C.length, sl2⟩ (C ++ [some (.lst acc)]) = .ok (h x y) (C ++ [some (.lst acc)]))) :
    ∀ r j, r + j = xs.length → lc2N it g tYesM mi1 g1 tt1 te C.length sl vs1 r j (C ++ [some (.lst (flat2 (xs.take j) ys f h))]) = .ok () (C ++ [some (.lst (flat2 xs ys f h))])
  | 0, j, e => by
    have ej : j = xs.length := by omega
    subst ej
    unfold lc2N
    rw [if_pos (p.fin _), List.take_length]
  | r + 1, j, e => by
    have hj : j < xs.length := by omega
    obtain ⟨sl1, h1, h2⟩ := st xs[j] (List.getElem_mem hj)
    have ih := lc2_go p hy sz sm st r (j + 1) (by omega)
    have tk : xs.take (j + 1) = xs.take j ++ [xs[j]] := (List.take_append_getElem hj).symm
    have fl : flat2 (xs.take (j + 1)) ys f h = flat2 (xs.take j) ys f h ++ ((ys xs[j]).filter (f xs[j])).map (h xs[j]) := by
      rw [tk]
      unfold flat2
      rw [List.flatMap_append]
      simp only [List.flatMap_cons, List.flatMap_nil, List.append_nil]
    rw [fl] at ih
    unfold lc2N
    rw [p.item j _ hj, List.getElem?_eq_getElem hj]
    simp only [h1]
    obtain ⟨⟨it1, p1, em⟩, h3⟩ := h2 (flat2 (xs.take j) ys f h)
    show bn0 (R.ok true (C ++ [some (.lst (flat2 (xs.take j) ys f h))])) _ = _
    simp only [bn0_ok, if_true]
    rw [em]
    simp only [bn0_ok]
    have hl : (flat2 (xs.take j) ys f h).length ≤ j * m := by
      have := flat2_len (xs.take j) ys f h (m := m) fun x hx => hy x (List.mem_of_mem_take hx)
      have e2 : (xs.take j).length = j := by simp; omega
      rw [e2] at this
      exact this
    have hl2 : (ys xs[j]).length ≤ m := hy _ (List.getElem_mem hj)
    have hjm : j * m ≤ xs.length * m := Nat.mul_le_mul_right _ (Nat.le_of_lt hj)
    have ein := lc_from p1 (g := g1) (tt := tt1) (te := te) (C := C) (sl := wipeD sl1 vs1) (f := f xs[j]) (h := h xs[j]) (a0 := flat2 (xs.take j) ys f h) (by omega) h3 it1.n 0 (by rw [p1.n]; omega)
    simp only [List.take_zero, List.filter_nil, List.map_nil, List.append_nil] at ein
    rw [ein]
    simp only [bn0_ok]
    exact ih
theorem ev_lc2 {mi mi1 : MI} {it : ItD} {xs : List D} (p : PureIt it xs) {g g1 : MG} {tt1 : MT} {te : ME} {vs vs1 : List Nat} {F : Fr} {C : Store} (ys : D → List D) (f : D → D → Bool) (h : D → D → D) (m : Nat) (hi : mi F C = .ok it C) (hy : ∀ x ∈ xs, (ys x).length ≤ m) (sz : xs.length * m ≤ 16000000) (sm : m ≤ 700000)
    (st : ∀ x ∈ xs, ∃ sl1, g x (wipeD F.sl vs) = some sl1 ∧ ∀ acc, (∃ it1, PureIt it1 (ys x) ∧ mi1 ⟨C.length, sl1⟩ (C ++ [some (.lst acc)]) = .ok it1 (C ++ [some (.lst acc)])) ∧
      ∀ y ∈ ys x, ∃ sl2, g1 y (wipeD sl1 vs1) = some sl2 ∧ ∀ acc, tt1 ⟨C.length, sl2⟩ (C ++ [some (.lst acc)]) = .ok (f x y) (C ++ [some (.lst acc)]) ∧ (f x y = true → te ⟨C.length, sl2⟩ (C ++ [some (.lst acc)]) = .ok (h x y) (C ++ [some (.lst acc)])))
    (hc : ∀ x ∈ xs, ∀ y ∈ ys x, f x y = true → cb C.length (h x y) = true) : mLc2 false mi g tYesM mi1 g1 tt1 te vs vs1 F C = .ok (.lst (flat2 xs ys f h)) C := by
  have e := lc2_go p hy sz sm st it.n 0 (by rw [p.n]; omega)
  unfold mLc2
  rw [hi]
  simp only [bnd_ok]
  have e0 : flat2 (xs.take 0) ys f h = [] := by simp [flat2]
  rw [e0] at e
  rw [e]
  simp only [bn0_ok]
  have at_n : (C ++ [some (Cell.lst (flat2 xs ys f h))])[C.length]? = some (some (.lst (flat2 xs ys f h))) := by simp
  have all : ∀ l : List D, (∀ d ∈ l, cb C.length d = true) → cbL C.length l = true := by
    intro l
    induction l with
    | nil => intro _; rfl
    | cons d l ih =>
      intro hl
      show (cb C.length d && cbL C.length l) = true
      rw [hl d (List.mem_cons_self ..), ih fun x hx => hl x (List.mem_cons_of_mem _ hx)]
      rfl
  have hb : cbL C.length (flat2 xs ys f h) = true := by
    refine all _ fun d hd => ?_
    unfold flat2 at hd
    obtain ⟨x, hx, hd⟩ := List.mem_flatMap.mp hd
    obtain ⟨y, hy', rfl⟩ := List.mem_map.mp hd
    obtain ⟨hy1, hy2⟩ := List.mem_filter.mp hy'
    exact hc x hx y hy1 hy2
  unfold lcEnd
  rw [if_neg (by decide), at_n]
  simp [hb]
/-! ### dicts from pairs to numbers -/
abbrev Dc := List ((Int × Int) × Int)
def dp (d : Dc) (k : Int × Int) (n : Int) : Dc := if d.any (fun p => decide (p.1 = k)) = true then d.map fun p => if p.1 = k then (p.1, n) else p else d ++ [(k, n)]
end CT
set_option maxHeartbeats 4000000
/-! E3: walks over cells; own operators worked out. -/
namespace CT
open PySem L2
/-- what is walked stays while P holds: these items -/
structure ItOn (P : Store → Prop) (it : ItD) (xs : List D) : Prop where
  n : it.n = xs.length
  item : ∀ j C, P C → j < xs.length → it.item j C = xs[j]?
  fin : ∀ C, P C → it.fin C = true
theorem PureIt.on {it : ItD} {xs : List D} (h : PureIt it xs) (P : Store → Prop) : ItOn P it xs := ⟨h.n, fun j C _ => h.item j C, fun C _ => h.fin C⟩
theorem ItOn.imp {P P' : Store → Prop} {it : ItD} {xs : List D} (h : ItOn P it xs) (q : ∀ C, P' C → P C) : ItOn P' it xs := ⟨h.n, fun j C p => h.item j C (q C p), fun C p => h.fin C (q C p)⟩
/-- d is walked as xs wherever the store begins by C -/
def SeqIn (d : D) (xs : List D) (C : Store) : Prop := ∃ it, (∀ Y, itS d (C ++ Y) = some it) ∧ ItOn (fun S => ∃ Y, S = C ++ Y) it xs
theorem SeqIn.app {d : D} {xs : List D} {C : Store} (h : SeqIn d xs C) (Z : Store) : SeqIn d xs (C ++ Z) := by
  obtain ⟨it, h1, h2⟩ := h
  exact ⟨it, fun Y => by rw [List.append_assoc]; exact h1 _, h2.imp fun S ⟨Y, e⟩ => ⟨Z ++ Y, by rw [e, List.append_assoc]⟩⟩
/-! ### own operators -/
@[simp] theorem ev_revT {m : ME} {F : Fr} {C C1 : Store} {xs : List D} (h : m F C = .ok (.tup xs) C1) : mRevT m F C = .ok (.tup xs.reverse) C1 := by
  unfold mRevT
  rw [h]
  rfl
end CT
set_option maxHeartbeats 4000000
/-! E4: what a run must lead to, told backwards. -/
namespace CT
open PySem L2
/-! ### results -/
def wR0 {α : Type} (r : R α) (Q : α → Store → Prop) (E : Exc → Store → Prop) : Prop := match r with
  | .ok a C => Q a C
  | .exc e C => E e C
  | .stuck => False
/-- kept shut, so that no goal is worked out by chance -/
structure wR {α : Type} (r : R α) (Q : α → Store → Prop) (E : Exc → Store → Prop) : Prop where
  h : wR0 r Q E
structure wO (o : Option (D × Store)) (Q : D → Store → Prop) : Prop where
  h : ∃ d C, o = some (d, C) ∧ Q d C
structure wS (r : RS) (P : RS → Prop) : Prop where
  h : P r
structure wI (b : Bool) (p q : Prop) : Prop where
  h : if b = true then p else q
abbrev noX : Exc → Store → Prop := fun _ _ => False
section
variable {α β : Type} {Q : α → Store → Prop} {E : Exc → Store → Prop} {P : RS → Prop} {F : Fr} {C : Store}
theorem w_ok {a : α} (h : Q a C) : wR (.ok a C) Q E := ⟨h⟩
theorem w_of {r : R α} {a : α} {C' : Store} (e : r = .ok a C') (h : Q a C') : wR r Q E := by rw [e]; exact ⟨h⟩
theorem w_mono {r : R α} {Q' : α → Store → Prop} {E' : Exc → Store → Prop} (h : wR r Q' E') (q : ∀ a C, Q' a C → Q a C) (x : ∀ a C, E' a C → E a C) : wR r Q E := by
  cases r with
  | ok a C => exact ⟨q a C h.h⟩
  | exc e C => exact ⟨x e C h.h⟩
  | stuck => exact ⟨h.h⟩
theorem w_conv {r : R α} {Q' : α → Store → Prop} (h : wR r Q' noX) (q : ∀ a C, Q' a C → Q a C) : wR r Q E := w_mono h q fun _ _ z => z.elim
theorem w_eqv {r : R α} {a : α} {C : Store} (h : wR r (fun d C' => d = a ∧ C' = C) noX) : r = .ok a C := by
  cases r with
  | ok a C => obtain ⟨h1, h2⟩ := h.h; rw [h1, h2]
  | exc e C => exact h.h.elim
  | stuck => exact h.h.elim
theorem w_out {r : R α} (h : wR r Q noX) : ∃ a C, r = .ok a C ∧ Q a C := by
  cases r with
  | ok a C => exact ⟨a, C, rfl, h.h⟩
  | exc e C => exact h.h.elim
  | stuck => exact h.h.elim
theorem w_bnd {m : R α} {f : α → Store → R β} {Q : β → Store → Prop} (h : wR m (fun a C => wR (f a C) Q E) E) : wR (bnd m f) Q E := by
  cases m with
  | ok a C => exact h.h
  | exc e C => exact ⟨h.h⟩
  | stuck => exact ⟨h.h⟩
theorem w_bndS {m : R α} {sl : List (Option D)} {f : α → Store → RS} (h : wR m (fun a C => wS (f a C) P) (fun e C => P (.xc e sl C))) : wS (bndS sl m f) P := by
  cases m with
  | ok a C => exact h.h
  | exc e C => exact ⟨h.h⟩
  | stuck => exact h.h.elim
theorem wo_of {o : Option (D × Store)} {d : D} {C' : Store} {Q : D → Store → Prop} (e : o = some (d, C')) (h : Q d C') : wO o Q := ⟨d, C', e, h⟩
theorem w_ofO {o : Option (D × Store)} {Q : D → Store → Prop} (h : wO o Q) : wR (ofO o) Q E := by
  obtain ⟨d, C', e, q⟩ := h.h
  rw [e]
  exact ⟨q⟩
theorem gR {r : R α} (h : wR r Q E) : wR r Q E := h
theorem gO {o : Option (D × Store)} {Q : D → Store → Prop} (h : wO o Q) : wO o Q := h
theorem gS {r : RS} (h : wS r P) : wS r P := h
theorem gI {b : Bool} {p q : Prop} (h : wI b p q) : wI b p q := h
theorem wI_t {p q : Prop} (h : p) : wI true p q := ⟨h⟩
theorem wI_f {p q : Prop} (h : q) : wI false p q := ⟨h⟩
theorem wI_d {b : Prop} [Decidable b] {p q : Prop} (h : b → p) (g : ¬ b → q) : wI (decide b) p q := by
  by_cases hb : b
  · rw [decide_eq_true hb]; exact ⟨h hb⟩
  · rw [decide_eq_false hb]; exact ⟨g hb⟩
theorem wI_dt {b : Prop} [Decidable b] {p q : Prop} (hb : b) (h : p) : wI (decide b) p q := by rw [decide_eq_true hb]; exact ⟨h⟩
theorem wI_df {b : Prop} [Decidable b] {p q : Prop} (hb : ¬ b) (h : q) : wI (decide b) p q := by rw [decide_eq_false hb]; exact ⟨h⟩
theorem wI_not {b : Bool} {p q : Prop} (h : wI b q p) : wI (!b) p q := by cases b <;> exact ⟨h.h⟩
end
/-! ### expressions -/
section
variable {Q : D → Store → Prop} {E : Exc → Store → Prop} {F : Fr} {C : Store}
theorem w_var {i : Nat} {fl : Nat} {sl : List (Option D)} {d : D} (e : sl[i]? = some (some d)) (h : Q d C) : wR (mVar i ⟨fl, sl⟩ C) Q E := by
  refine w_of (a := d) (C' := C) ?_ h
  show (match sl[i]? with
    | some (some d) => R.ok d C
    | _ => R.stuck) = _
  rw [e]
theorem w_c {d : D} (h : Q d C) : wR (mC d F C) Q E := ⟨h⟩
theorem w_op {o : O2} {a b : ME} (h : wR (a F C) (fun x C1 => wR (b F C1) (fun y C2 => wO (o x y C2) Q) E) E) : wR (mOp o a b F C) Q E :=
  w_bnd (w_mono h (fun _ _ g => w_bnd (w_mono g (fun _ _ g => w_ofO g) fun _ _ z => z)) fun _ _ z => z)
theorem w_un {o : O1} {a : ME} (h : wR (a F C) (fun x C1 => wO (o x C1) Q) E) : wR (mUn o a F C) Q E :=
  w_bnd (w_mono h (fun _ _ g => w_ofO g) fun _ _ z => z)
theorem w_ap {o : OA} {a : MA} (h : wR (a F C) (fun x C1 => wO (o x C1) Q) E) : wR (mAp o a F C) Q E :=
  w_bnd (w_mono h (fun _ _ g => w_ofO g) fun _ _ z => z)
theorem w_nil {Q : List D → Store → Prop} (h : Q [] C) : wR (mNil F C) Q E := ⟨h⟩
theorem w_cons {a : ME} {r : MA} {Q : List D → Store → Prop} (h : wR (a F C) (fun x C1 => wR (r F C1) (fun xs C2 => Q (x :: xs) C2) E) E) : wR (mCons a r F C) Q E :=
  w_bnd (w_mono h (fun _ _ g => w_bnd (w_mono g (fun _ _ g => w_ok g) fun _ _ z => z)) fun _ _ z => z)
theorem w_call {m : MF} {dds : List D} {a : MA} (h : wR (a F C) (fun xs C1 => wR (m (xs ++ dds) C1) Q E) E) : wR (mCall m dds a F C) Q E := w_bnd h
theorem w_tst {a : ME} {Q : Bool → Store → Prop} (h : wR (a F C) (fun d C1 => ∃ b, d = .bl b ∧ Q b C1) E) : wR (mTst a F C) Q E :=
  w_bnd (w_mono h (fun d C1 g => by obtain ⟨b, rfl, q⟩ := g; exact w_ok q) fun _ _ z => z)
theorem w_bl {b : Bool} {q : Bool → Prop} (h : q b) : ∃ b', D.bl b = .bl b' ∧ q b' := ⟨b, rfl, h⟩
theorem w_tand {a b : MT} {Q : Bool → Store → Prop} (h : wR (a F C) (fun x C1 => wI x (wR (b F C1) Q E) (Q false C1)) E) : wR (tAndM a b F C) Q E :=
  w_bnd (w_mono h (fun x C1 g => by
    cases x
    · exact w_ok g.h
    · exact g.h) fun _ _ z => z)
theorem w_tor {a b : MT} {Q : Bool → Store → Prop} (h : wR (a F C) (fun x C1 => wI x (Q true C1) (wR (b F C1) Q E)) E) : wR (tOrM a b F C) Q E :=
  w_bnd (w_mono h (fun x C1 g => by
    cases x
    · exact g.h
    · exact w_ok g.h) fun _ _ z => z)
theorem w_tnot {a : MT} {Q : Bool → Store → Prop} (h : wR (a F C) (fun x C1 => Q (!x) C1) E) : wR (tNotM a F C) Q E := w_bnd (w_mono h (fun _ _ g => w_ok g) fun _ _ z => z)
theorem w_yes {Q : Bool → Store → Prop} (h : Q true C) : wR (tYesM F C) Q E := ⟨h⟩
theorem w_and {a b : ME} (h : wR (a F C) (fun d C1 => ∃ x, d = .bl x ∧ wI x (wR (b F C1) Q E) (Q (.bl false) C1)) E) : wR (mAnd a b F C) Q E :=
  w_bnd (w_mono h (fun d C1 g => by
    obtain ⟨x, rfl, q⟩ := g
    cases x
    · exact w_ok q.h
    · exact q.h) fun _ _ z => z)
theorem w_or {a b : ME} (h : wR (a F C) (fun d C1 => ∃ x, d = .bl x ∧ wI x (Q (.bl true) C1) (wR (b F C1) Q E)) E) : wR (mOr a b F C) Q E :=
  w_bnd (w_mono h (fun d C1 g => by
    obtain ⟨x, rfl, q⟩ := g
    cases x
    · exact q.h
    · exact w_ok q.h) fun _ _ z => z)
theorem w_not {a : ME} (h : wR (a F C) (fun d C1 => ∃ x, d = .bl x ∧ Q (.bl (!x)) C1) E) : wR (mNot a F C) Q E :=
  w_bnd (w_mono h (fun d C1 g => by obtain ⟨x, rfl, q⟩ := g; exact w_ok q) fun _ _ z => z)
theorem w_if {t : MT} {a b : ME} (h : wR (t F C) (fun x C1 => wI x (wR (a F C1) Q E) (wR (b F C1) Q E)) E) : wR (mIf t a b F C) Q E :=
  w_bnd (w_mono h (fun x C1 g => by cases x <;> exact g.h) fun _ _ z => z)
theorem w_chain {o o' : O2} {a b c : ME} (h : wR (a F C) (fun x C1 => wR (b F C1) (fun y C2 => wO (o x y C2) fun z C3 => ∃ t, z = .bl t ∧ wI t (wR (c F C3) (fun w C4 => wO (o' y w C4) Q) E) (Q (.bl false) C3)) E) E) : wR (mChain o o' a b c F C) Q E :=
  w_bnd (w_mono h (fun x C1 g => w_bnd (w_mono g (fun y C2 g => w_bnd (w_ofO (by
    obtain ⟨d, C3, e, t, rfl, q⟩ := g.h
    refine wo_of e ?_
    cases t
    · exact w_ok q.h
    · exact w_bnd (w_mono q.h (fun _ _ g => w_ofO g) fun _ _ z => z)))) fun _ _ z => z)) fun _ _ z => z)
theorem w_prop {c : Nat} {m : MF} {mo : ME} (h : wR (mo F C) (fun d C1 => ∃ fs, d = .obj c fs ∧ wR (m [d] C1) Q noX) E) : wR (mProp c m mo F C) Q E :=
  w_bnd (w_mono h (fun d C1 g => by
    obtain ⟨fs, rfl, q⟩ := g
    show wR (if c = c then (match m [.obj c fs] C1 with
      | .ok d C2 => R.ok d C2
      | _ => R.stuck) else R.stuck) Q E
    rw [if_pos rfl]
    obtain ⟨a, C2, e, q⟩ := w_out q
    rw [e]
    exact w_ok q) fun _ _ z => z)
theorem w_meth {c : Nat} {m : MF} {dds : List D} {mo : ME} {a : MA} (h : wR (mo F C) (fun d C1 => ∃ fs, d = .obj c fs ∧ wR (a F C1) (fun xs C2 => wR (m (d :: (xs ++ dds)) C2) Q E) E) E) : wR (mMeth c m dds mo a F C) Q E :=
  w_bnd (w_mono h (fun d C1 g => by
    obtain ⟨fs, rfl, q⟩ := g
    simp only [vO, if_true]
    exact w_bnd q) fun _ _ z => z)
theorem w_obj {c : Nat} {fs : List D} {q : Prop} (h : q) : ∃ gs, D.obj c fs = .obj c gs ∧ q := ⟨fs, rfl, h⟩
theorem w_dget {a b c : ME} (h : wR (a F C) (fun x C1 => (vD x C1).isSome = true ∧ wR (b F C1) (fun y C2 => wR (c F C2) (fun z C3 => wO (oDGet x y z C3) Q) E) E) E) : wR (mDGet a b c F C) Q E :=
  w_bnd (w_mono h (fun x C1 g => by
    rw [if_pos g.1]
    exact w_bnd (w_mono g.2 (fun _ _ g => w_bnd (w_mono g (fun _ _ g => w_ofO g) fun _ _ z => z)) fun _ _ z => z)) fun _ _ z => z)
theorem w_isi {kn : List Nat} {t : Cc} {m : ME} (h : wR (m F C) (fun d C1 => ∃ b, isi kn d C1 t = some b ∧ Q (.bl b) C1) E) : wR (mIsi kn t m F C) Q E :=
  w_bnd (w_mono h (fun d C1 g => by obtain ⟨b, e, q⟩ := g; rw [e]; exact w_ok q) fun _ _ z => z)
theorem w_isi2 {kn : List Nat} {t u : Cc} {m : ME} (h : wR (m F C) (fun d C1 => ∃ b b', isi kn d C1 t = some b ∧ isi kn d C1 u = some b' ∧ Q (.bl (b || b')) C1) E) : wR (mIsi2 kn t u m F C) Q E :=
  w_bnd (w_mono h (fun d C1 g => by obtain ⟨b, b', e, e', q⟩ := g; rw [e, e']; exact w_ok q) fun _ _ z => z)
theorem w_part {m : ME} {Q : Option Int → Store → Prop} (h : wR (m F C) (fun d C1 => ∃ i, d = .int i ∧ Q (some i) C1) E) : wR (mPart m F C) Q E :=
  w_bnd (w_mono h (fun d C1 g => by obtain ⟨b, rfl, q⟩ := g; exact w_ok q) fun _ _ z => z)
theorem w_noPart {Q : Option Int → Store → Prop} (h : Q none C) : wR (mNoPart F C) Q E := ⟨h⟩
theorem w_slL {own : Bool} {a : ME} {l u : Fr → Store → R (Option Int)} (h : wR (a F C) (fun x C1 => wR (l F C1) (fun lo C2 => wR (u F C2) (fun hi C3 => ∃ xs, vLs x C3 = some xs ∧ Q (mkL own (cutD xs lo hi) C3).1 (mkL own (cutD xs lo hi) C3).2) E) E) E) : wR (mSlL own a l u F C) Q E :=
  w_bnd (w_mono h (fun _ _ g => w_bnd (w_mono g (fun _ _ g => w_bnd (w_mono g (fun _ _ g => by obtain ⟨xs, e, q⟩ := g; simp only [e]; exact w_ok q) fun _ _ z => z)) fun _ _ z => z)) fun _ _ z => z)
theorem w_slA {a : ME} {l u : Fr → Store → R (Option Int)} (h : wR (a F C) (fun x C1 => wR (l F C1) (fun lo C2 => wR (u F C2) (fun hi C3 => ∃ xs, x = .tup xs ∧ Q (.tup (cutD xs lo hi)) C3) E) E) E) : wR (mSlA a l u F C) Q E :=
  w_bnd (w_mono h (fun _ _ g => w_bnd (w_mono g (fun lo _ g => w_bnd (w_mono g (fun hi _ g => by
    obtain ⟨xs, rfl, q⟩ := g
    simp only [vT]
    split
    · rename_i hh
      have e : cutD xs lo hi = xs := by
        unfold cutD
        rw [hh.1, hh.2]
        simp
      rw [e] at q
      exact w_ok q
    · exact w_ok q) fun _ _ z => z)) fun _ _ z => z)) fun _ _ z => z)
theorem w_int {i : Int} {q : Int → Prop} (h : q i) : ∃ j, D.int i = .int j ∧ q j := ⟨i, rfl, h⟩
end
/-! ### operators -/
section
variable {Q : D → Store → Prop} {C : Store}
theorem wo_add {a b : Int} (h : Q (.int (a + b)) C) : wO (oAdd (.int a) (.int b) C) Q := wo_of rfl h
theorem wo_sub {a b : Int} (h : Q (.int (a - b)) C) : wO (oSub (.int a) (.int b) C) Q := wo_of rfl h
theorem wo_neg {a : Int} (h : Q (.int (-a)) C) : wO (oNeg (.int a) C) Q := wo_of rfl h
theorem wo_lt {a b : Int} (h : Q (.bl (decide (a < b))) C) : wO (oLt (.int a) (.int b) C) Q := wo_of rfl h
theorem wo_le {a b : Int} (h : Q (.bl (decide (a ≤ b))) C) : wO (oLe (.int a) (.int b) C) Q := wo_of rfl h
theorem wo_gt {a b : Int} (h : Q (.bl (decide (b < a))) C) : wO (oGt (.int a) (.int b) C) Q := wo_of rfl h
theorem wo_ge {a b : Int} (h : Q (.bl (decide (b ≤ a))) C) : wO (oGe (.int a) (.int b) C) Q := wo_of rfl h
theorem wo_eq {a b : Int} (h : Q (.bl (decide (a = b))) C) : wO (oEqA false (.int a) (.int b) C) Q := wo_of rfl h
theorem wo_ne {a b : Int} (h : Q (.bl (!decide (a = b))) C) : wO (oEqA true (.int a) (.int b) C) Q := wo_of rfl h
theorem wo_eqS {a b : Str} (h : Q (.bl (decide (a = b))) C) : wO (oEqA false (.str a) (.str b) C) Q := wo_of rfl h
theorem wo_neS {a b : Str} (h : Q (.bl (!decide (a = b))) C) : wO (oEqA true (.str a) (.str b) C) Q := wo_of rfl h
theorem wo_mul {a b : Int} (e : cMul a b = true) (h : Q (.int (a * b)) C) : wO (oMul (.int a) (.int b) C) Q := wo_of (ev_mul C e) h
theorem wo_mod {a b : Int} (e : 0 < b) (h : Q (.int (a % b)) C) : wO (oMod (.int a) (.int b) C) Q := wo_of (ev_mod C e) h
theorem wo_div {a b : Int} (e : 0 < b) (e2 : b < 4611686018427387904) (h : Q (.int (a / b)) C) : wO (oDiv (.int a) (.int b) C) Q := wo_of (ev_div C e e2) h
theorem wo_min {a b : Int} (h : Q (.int (min a b)) C) : wO (oMin2 [.int a, .int b] C) Q := wo_of (ev_min C a b) h
theorem wo_max {a b : Int} (h : Q (.int (max a b)) C) : wO (oMax2 [.int a, .int b] C) Q := wo_of (ev_max C a b) h
theorem wo_int {a : Int} (h : Q (.int a) C) : wO (oInt [.int a] C) Q := wo_of rfl h
theorem wo_abs {a : Int} (h : Q (.int (a.natAbs : Int)) C) : wO (oAbs [.int a] C) Q := wo_of (ev_abs C a) h
theorem wo_lst {own : Bool} {xs : List D} (e : szN xs.length = true) (h : Q (mkL own xs C).1 (mkL own xs C).2) : wO (oLst own xs C) Q := by
  refine wo_of ?_ h
  unfold oLst
  rw [if_pos e]
theorem wo_lstF {xs : List D} (e : szN xs.length = true) (h : Q (.lst xs) C) : wO (oLst false xs C) Q := wo_lst e h
theorem wo_lstT {xs : List D} (e : szN xs.length = true) (h : Q (.cell C.length) (C ++ [some (.lst xs)])) : wO (oLst true xs C) Q := wo_lst e h
theorem w_dnewF {E : Exc → Store → Prop} {F : Fr} (h : Q (.dT [] []) C) : wR (mDNew false F C) Q E := ⟨h⟩
theorem w_dnewT {E : Exc → Store → Prop} {F : Fr} (h : Q (.cell C.length) (C ++ [some (.dT [] [])])) : wR (mDNew true F C) Q E := ⟨h⟩
theorem w_slLF {E : Exc → Store → Prop} {F : Fr} {a : ME} {l u : Fr → Store → R (Option Int)} (h : wR (a F C) (fun x C1 => wR (l F C1) (fun lo C2 => wR (u F C2) (fun hi C3 => ∃ xs, vLs x C3 = some xs ∧ Q (.lst (cutD xs lo hi)) C3) E) E) E) : wR (mSlL false a l u F C) Q E := w_slL h
theorem wo_tup {xs : List D} (e : szN xs.length = true) (h : Q (.tup xs) C) : wO (oTup xs C) Q := by
  refine wo_of ?_ h
  unfold oTup
  rw [if_pos e]
theorem wo_fld {c n : Nat} {fs : List D} {d : D} (e : fs[n]? = some d) (h : Q d C) : wO (oFld c n (.obj c fs) C) Q := by
  refine wo_of ?_ h
  rw [ev_fld, e]
  rfl
theorem wo_len {x : D} {xs : List D} (e : vS x C = some xs) (h : Q (.int xs.length) C) : wO (oLen [x] C) Q := by
  refine wo_of (d := .int xs.length) (C' := C) ?_ h
  simp only [oLen, e, Option.map_some]
theorem wo_ix {x : D} {xs : List D} {i : Int} {k : Nat} {d : D} (e : vS x C = some xs) (hi : i = k) (hk : xs[k]? = some d) (h : Q d C) : wO (oIx x (.int i) C) Q := by
  subst hi
  have hl : k < xs.length := (List.getElem?_eq_some_iff.mp hk).1
  have e2 : atI xs (k : Int) = some d := by
    unfold atI ixN
    have h0 : (0 : Int) ≤ k := by omega
    simp [hl]
    exact (List.getElem?_eq_some_iff.mp hk).2
  refine wo_of (d := d) (C' := C) ?_ h
  unfold oIx
  rw [e]
  simp only [Option.bind_some, e2, Option.map_some]
end
/-! ### statements -/
def thn (b : MS) (fl : Nat) (P : RS → Prop) : RS → Prop := fun r => match r with
  | .nx sl C => wS (b ⟨fl, sl⟩ C) P
  | r => P r
section
variable {P : RS → Prop} {F : Fr} {C : Store} {E : Exc → Store → Prop}
theorem w_seq {a b : MS} {fl : Nat} {sl : List (Option D)} (h : wS (a ⟨fl, sl⟩ C) (thn b fl P)) : wS (sSeq a b ⟨fl, sl⟩ C) P := by
  have h := h.h
  unfold sSeq
  cases e : a ⟨fl, sl⟩ C with
  | nx sl C1 => rw [e] at h; exact h
  | rt d C1 => rw [e] at h; exact ⟨h⟩
  | bk d C1 => rw [e] at h; exact ⟨h⟩
  | ct d C1 => rw [e] at h; exact ⟨h⟩
  | xc x d C1 => rw [e] at h; exact ⟨h⟩
  | stuck => rw [e] at h; exact ⟨h⟩
theorem thn_nx {b : MS} {fl : Nat} {sl : List (Option D)} (h : wS (b ⟨fl, sl⟩ C) P) : thn b fl P (.nx sl C) := h
theorem thn_rt {b : MS} {fl : Nat} {d : D} (h : P (.rt d C)) : thn b fl P (.rt d C) := h
theorem thn_bk {b : MS} {fl : Nat} {sl : List (Option D)} (h : P (.bk sl C)) : thn b fl P (.bk sl C) := h
theorem thn_ct {b : MS} {fl : Nat} {sl : List (Option D)} (h : P (.ct sl C)) : thn b fl P (.ct sl C) := h
theorem thn_xc {b : MS} {fl : Nat} {e : Exc} {sl : List (Option D)} (h : P (.xc e sl C)) : thn b fl P (.xc e sl C) := h
theorem w_next {fl : Nat} {sl : List (Option D)} (h : P (.nx sl C)) : wS (sNext ⟨fl, sl⟩ C) P := ⟨h⟩
theorem w_brk {fl : Nat} {sl : List (Option D)} (h : P (.bk sl C)) : wS (sBrk ⟨fl, sl⟩ C) P := ⟨h⟩
theorem w_cnt {fl : Nat} {sl : List (Option D)} (h : P (.ct sl C)) : wS (sCnt ⟨fl, sl⟩ C) P := ⟨h⟩
theorem w_drop {m : ME} {fl : Nat} {sl : List (Option D)} (h : wR (m ⟨fl, sl⟩ C) (fun _ C1 => P (.nx sl C1)) (fun e C1 => P (.xc e sl C1))) : wS (sDrop m ⟨fl, sl⟩ C) P := w_bndS (w_mono h (fun _ _ g => ⟨g⟩) fun _ _ z => z)
theorem w_ret {m : ME} {fl : Nat} {sl : List (Option D)} (h : wR (m ⟨fl, sl⟩ C) (fun d C1 => P (.rt d C1)) (fun e C1 => P (.xc e sl C1))) : wS (sRet m ⟨fl, sl⟩ C) P := w_bndS (w_mono h (fun _ _ g => ⟨g⟩) fun _ _ z => z)
theorem w_retN (h : P (.rt .non C)) : wS (sRetN F C) P := ⟨h⟩
theorem w_sif {t : MT} {a b : MS} {fl : Nat} {sl : List (Option D)} (h : wR (t ⟨fl, sl⟩ C) (fun x C1 => wI x (wS (a ⟨fl, sl⟩ C1) P) (wS (b ⟨fl, sl⟩ C1) P)) (fun e C1 => P (.xc e sl C1))) : wS (sIf t a b ⟨fl, sl⟩ C) P :=
  w_bndS (w_mono h (fun x C1 g => by cases x <;> exact g.h) fun _ _ z => z)
theorem w_asg {m : ME} {i fl : Nat} {sl : List (Option D)} (h : wR (m ⟨fl, sl⟩ C) (fun d C1 => P (.nx (sl.set i (some d)) C1)) (fun e C1 => P (.xc e sl C1))) : wS (sAsg m (gN i) ⟨fl, sl⟩ C) P := w_bndS (w_mono h (fun _ _ g => ⟨g⟩) fun _ _ z => z)
theorem w_asgT {m : ME} {is : List Nat} {fl : Nat} {sl : List (Option D)} (h : wR (m ⟨fl, sl⟩ C) (fun d C1 => ∃ ds sl', d = .tup ds ∧ setAll is ds sl = some sl' ∧ P (.nx sl' C1)) (fun e C1 => P (.xc e sl C1))) : wS (sAsg m (gT is) ⟨fl, sl⟩ C) P :=
  w_bndS (w_mono h (fun x C1 g => by obtain ⟨ds, sl', rfl, e, q⟩ := g; show wS (asgS (setAll is ds sl) C1) P; rw [e]; exact ⟨q⟩) fun _ _ z => z)
theorem w_par {m : MA} {is : List Nat} {fl : Nat} {sl : List (Option D)} (h : wR (m ⟨fl, sl⟩ C) (fun ds C1 => ∃ sl', setAll is ds sl = some sl' ∧ P (.nx sl' C1)) (fun e C1 => P (.xc e sl C1))) : wS (sPar is m ⟨fl, sl⟩ C) P :=
  w_bndS (w_mono h (fun x C1 g => by obtain ⟨sl', e, q⟩ := g; show wS (asgS (setAll is x sl) C1) P; rw [e]; exact ⟨q⟩) fun _ _ z => z)
theorem w_aug {i : Nat} {o : Int → Int → Int} {m : ME} {fl : Nat} {sl : List (Option D)} {a : Int} (e : sl[i]? = some (some (.int a))) (h : wR (m ⟨fl, sl⟩ C) (fun d C1 => ∃ b, d = .int b ∧ P (.nx (sl.set i (some (.int (o a b)))) C1)) (fun e C1 => P (.xc e sl C1))) : wS (sAug i o m ⟨fl, sl⟩ C) P := by
  unfold sAug
  simp only [e]
  refine w_bndS (w_mono h (fun x C1 g => ?_) fun _ _ z => z)
  obtain ⟨b, rfl, q⟩ := g
  exact ⟨q⟩
theorem w_raise {c n : Nat} {ma : MA} {fl : Nat} {sl : List (Option D)} (h : wR (ma ⟨fl, sl⟩ C) (fun ds C1 => ds.length = n ∧ P (.xc ⟨c, ds.reverse⟩ sl C1)) (fun e C1 => P (.xc e sl C1))) : wS (sRaise c n ma ⟨fl, sl⟩ C) P :=
  w_bndS (w_mono h (fun x C1 g => by rw [if_pos g.1]; exact ⟨g.2⟩) fun _ _ z => z)
theorem w_eq {r r' : RS} (e : r = r') (h : P r') : wS r P := by rw [e]; exact ⟨h⟩
/-- what stands behind a def's body -/
def fnl (n : Nat) (Q : D → Store → Prop) (E : Exc → Store → Prop) : RS → Prop := fun r => wR (finS n r) Q E
theorem w_fin {n : Nat} {r : RS} {Q : D → Store → Prop} (h : wS r (fnl n Q E)) : wR (finS n r) Q E := h.h
theorem fnl_int {n : Nat} {Q : D → Store → Prop} {i : Int} (h : Q (.int i) (C.take n)) : fnl n Q E (.rt (.int i) C) := w_ok h
theorem fnl_bl {n : Nat} {Q : D → Store → Prop} {i : Bool} (h : Q (.bl i) (C.take n)) : fnl n Q E (.rt (.bl i) C) := w_ok h
theorem fnl_non {n : Nat} {Q : D → Store → Prop} (h : Q .non (C.take n)) : fnl n Q E (.rt .non C) := w_ok h
theorem fnl_str {n : Nat} {Q : D → Store → Prop} {i : Str} (h : Q (.str i) (C.take n)) : fnl n Q E (.rt (.str i) C) := w_ok h
theorem fnl_nx {n : Nat} {Q : D → Store → Prop} {sl : List (Option D)} (h : Q .non (C.take n)) : fnl n Q E (.nx sl C) := w_ok h
theorem fnl_d {n : Nat} {Q : D → Store → Prop} {d : D} (e : ∀ i, d ≠ .cell i) (hc : cb n d = true) (h : Q d (C.take n)) : fnl n Q E (.rt d C) := by
  have z : fz n d C = d := by
    unfold fz
    split
    · exact absurd rfl (e _)
    · rfl
  show wR (fin n d C) Q E
  unfold fin
  rw [z, if_pos hc]
  exact w_ok h
end
/-! ### loops -/
def lpP (I : Nat → List (Option D) → Store → Prop) (j : Nat) (P : RS → Prop) : RS → Prop := fun r => match r with
  | .nx sl C => I j sl C
  | .ct sl C => I j sl C
  | .bk sl C => P (.nx sl C)
  | .rt d C => P (.rt d C)
  | .xc e sl C => P (.xc e sl C)
  | .stuck => False
theorem lp_nx {I : Nat → List (Option D) → Store → Prop} {j : Nat} {P : RS → Prop} {sl : List (Option D)} {C : Store} (h : I j sl C) : lpP I j P (.nx sl C) := h
theorem lp_rt {I : Nat → List (Option D) → Store → Prop} {j : Nat} {P : RS → Prop} {d : D} {C : Store} (h : P (.rt d C)) : lpP I j P (.rt d C) := h
theorem lp_bk {I : Nat → List (Option D) → Store → Prop} {j : Nat} {P : RS → Prop} {sl : List (Option D)} {C : Store} (h : P (.nx sl C)) : lpP I j P (.bk sl C) := h
theorem lp_xc {I : Nat → List (Option D) → Store → Prop} {j : Nat} {P : RS → Prop} {e : Exc} {sl : List (Option D)} {C : Store} (h : P (.xc e sl C)) : lpP I j P (.xc e sl C) := h
theorem loop_w {S : Store → Prop} {it : ItD} {xs : List D} (p : ItOn S it xs) {g : MG} {body : MS} {fl : Nat} {P : RS → Prop} (I : Nat → List (Option D) → Store → Prop) (hS : ∀ j sl C, I j sl C → S C)
    (step : ∀ j x sl C, xs[j]? = some x → I j sl C → ∃ sl1, g x sl = some sl1 ∧ wS (body ⟨fl, sl1⟩ C) (lpP I (j + 1) P)) (fin : ∀ sl C, I xs.length sl C → P (.nx sl C)) :
    ∀ r j sl C, r + j = xs.length → I j sl C → wS (loopN it g body fl r j sl C) P
  | 0, j, sl, C, h, i => by
    have e : j = xs.length := by omega
    subst e
    unfold loopN
    rw [if_pos (p.fin C (hS _ _ _ i))]
    exact ⟨fin sl C i⟩
  | r + 1, j, sl, C, h, i => by
    have hj : j < xs.length := by omega
    obtain ⟨sl1, h1, h2⟩ := step j xs[j] sl C (List.getElem?_eq_getElem hj) i
    unfold loopN
    rw [p.item j C (hS _ _ _ i) hj, List.getElem?_eq_getElem hj]
    simp only [h1]
    have h2 := h2.h
    unfold lpP at h2
    cases e : body ⟨fl, sl1⟩ C with
    | nx sl2 C2 => rw [e] at h2; exact loop_w p I hS step fin r (j + 1) sl2 C2 (by omega) h2
    | ct sl2 C2 => rw [e] at h2; exact loop_w p I hS step fin r (j + 1) sl2 C2 (by omega) h2
    | bk sl2 C2 => rw [e] at h2; exact ⟨h2⟩
    | rt d C2 => rw [e] at h2; exact ⟨h2⟩
    | xc x sl2 C2 => rw [e] at h2; exact ⟨h2⟩
    | stuck => rw [e] at h2; exact h2.elim
/-! ### comprehensions -/
theorem lc_w {S : Store → Prop} {it : ItD} {xs : List D} (p : ItOn S it xs) {g : MG} {tt : MT} {te : ME} {n : Nat} {sl : List (Option D)} (J : Nat → List D → Store → Prop) (hS : ∀ j acc C, J j acc C → S C) (hz : ∀ j acc C, J j acc C → acc.length < 16777216)
    (step : ∀ j x acc C, xs[j]? = some x → C[n]? = some (some (.lst acc)) → J j acc C → ∃ sl1, g x sl = some sl1 ∧ wR (tt ⟨n, sl1⟩ C) (fun b C1 => wI b (wR (te ⟨n, sl1⟩ C1) (fun y C2 => ∃ acc', C2[n]? = some (some (.lst acc')) ∧ acc'.length < 16777216 ∧ J (j + 1) (acc' ++ [y]) (C2.set n (some (.lst (acc' ++ [y])))) ∧ n < C2.length) noX) (∃ acc', C1[n]? = some (some (.lst acc')) ∧ J (j + 1) acc' C1)) noX) :
    ∀ r j acc C, r + j = xs.length → C[n]? = some (some (.lst acc)) → J j acc C → ∃ acc' C', lcN it g tt te n sl r j C = .ok () C' ∧ C'[n]? = some (some (.lst acc')) ∧ J xs.length acc' C'
  | 0, j, acc, C, h, c, i => by
    have e : j = xs.length := by omega
    subst e
    unfold lcN
    rw [if_pos (p.fin C (hS _ _ _ i))]
    exact ⟨acc, C, rfl, c, i⟩
  | r + 1, j, acc, C, h, c, i => by
    have hj : j < xs.length := by omega
    obtain ⟨sl1, h1, h2⟩ := step j xs[j] acc C (List.getElem?_eq_getElem hj) c i
    unfold lcN
    rw [p.item j C (hS _ _ _ i) hj, List.getElem?_eq_getElem hj]
    simp only [h1]
    obtain ⟨b, C1, e1, h3⟩ := w_out h2
    rw [e1]
    simp only [bn0_ok]
    cases b with
    | false =>
      obtain ⟨acc', c1, i1⟩ := h3.h
      rw [if_neg (by decide)]
      exact lc_w p J hS hz step r (j + 1) acc' C1 (by omega) c1 i1
    | true =>
      obtain ⟨y, C2, e2, acc', c2, z, i2, hn⟩ := w_out h3.h
      rw [if_pos rfl, e2]
      simp only [bn0_ok]
      rw [c2]
      have hs : szN (acc'.length + 1) = true := by simp only [szN, decide_eq_true_eq]; omega
      simp only [hs, if_true]
      exact lc_w p J hS hz step r (j + 1) (acc' ++ [y]) _ (by omega) (List.getElem?_set_self hn) i2
end CT
set_option maxHeartbeats 4000000
/-! E5: more steps told backwards. -/
namespace CT
open PySem L2
abbrev accS (C : Store) (acc : List D) : Store := C ++ [some (.lst acc)]
/-- [e for t in it if c], nothing changed -/
theorem w_lcP {mi : MI} {it : ItD} {xs : List D} {g : MG} {tt : MT} {te : ME} {vs : List Nat} {F : Fr} {C : Store} {Q : D → Store → Prop} {E : Exc → Store → Prop} (hi : mi F C = .ok it C) (p : PureIt it xs) (f : D → Bool) (h : D → D) (sz : xs.length ≤ 16777215)
    (st : ∀ x ∈ xs, ∃ sl1, g x (wipeD F.sl vs) = some sl1 ∧ ∀ acc, wR (tt ⟨C.length, sl1⟩ (accS C acc)) (fun b C' => b = f x ∧ C' = accS C acc) noX ∧ (f x = true → wR (te ⟨C.length, sl1⟩ (accS C acc)) (fun d C' => d = h x ∧ C' = accS C acc) noX))
    (hc : ∀ x ∈ xs, f x = true → cb C.length (h x) = true) (q : Q (.lst ((xs.filter f).map h)) C) : wR (mLc false mi g tt te vs F C) Q E := by
  refine w_of (ev_lc p f h hi sz (fun x hx => ?_) hc) q
  obtain ⟨sl1, h1, h2⟩ := st x hx
  refine ⟨sl1, h1, fun acc => ⟨?_, fun hf => ?_⟩⟩
  · obtain ⟨b, C', e, rfl, rfl⟩ := w_out (h2 acc).1
    exact e
  · obtain ⟨b, C', e, rfl, rfl⟩ := w_out ((h2 acc).2 hf)
    exact e
theorem fnl_p {n : Nat} {Q : D → Store → Prop} {E : Exc → Store → Prop} {d : D} {C : Store} (hc : cb 0 d = true) (h : Q d (C.take n)) : fnl n Q E (.rt d C) :=
  fnl_d (fun i e => by subst e; simp [cb] at hc) (cb_mono (Nat.zero_le _) hc) h
/-- an own list becomes plain data -/
theorem fnl_own {n : Nat} {Q : D → Store → Prop} {E : Exc → Store → Prop} {i : Nat} {xs : List D} {C : Store} (hi : n ≤ i) (hC : C[i]? = some (some (.lst xs))) (hc : cbL n xs = true) (h : Q (.lst xs) (C.take n)) : fnl n Q E (.rt (.cell i) C) := by
  show wR (fin n (.cell i) C) Q E
  have z : fz n (.cell i) C = .lst xs := by
    unfold fz
    simp [hC, hi]
  unfold fin
  rw [z, if_pos (by simpa [cb] using hc)]
  exact w_ok h
/-- a list of cells' store that has one cell more -/
theorem take_app {C Y : Store} {n : Nat} (h : C.length = n) : (C ++ Y).take n = C := by subst h; simp
theorem wo_tupL {xs : List D} {C : Store} {Q : D → Store → Prop} (h : Q (.tup xs) C) : wO (oTupOf [.lst xs] C) Q := wo_of rfl h
theorem wo_tupT {xs : List D} {C : Store} {Q : D → Store → Prop} (h : Q (.tup xs) C) : wO (oTupOf [.tup xs] C) Q := wo_of rfl h
theorem wo_tupC {xs : List D} {C : Store} {Q : D → Store → Prop} {i : Nat} (e : C[i]? = some (some (.lst xs))) (h : Q (.tup xs) C) : wO (oTupOf [.cell i] C) Q := wo_of (by simp [oTupOf, vL, e]) h
theorem wo_catF {xs ys : List D} {C : Store} {Q : D → Store → Prop} (e : xs.length + ys.length ≤ 16777216) (h : Q (.lst (xs ++ ys)) C) : wO (oCat false (.lst xs) (.lst ys) C) Q := wo_of (by simp [oCat, vL, szN, e, mkL]) h
theorem wo_listF {x : D} {xs : List D} {C : Store} {Q : D → Store → Prop} (e : vS x C = some xs) (h : Q (.lst xs) C) : wO (oListOf false [x] C) Q := wo_of (by simp [oListOf, e, mkL]) h
theorem get_new {C Y : Store} {c : Option Cell} : (C ++ c :: Y)[C.length]? = some c := by simp
/-! ### writing -/
theorem w_setL {me mo mi : ME} {fl : Nat} {sl : List (Option D)} {C : Store} {P : RS → Prop} (h : wR (me ⟨fl, sl⟩ C) (fun v C1 => wR (mo ⟨fl, sl⟩ C1) (fun o C2 => wR (mi ⟨fl, sl⟩ C2) (fun x C3 => ∃ n i ds j C4, x = .int n ∧ cL o C3 = some (i, ds) ∧ ixN ds.length n = some j ∧ wr fl i (.lst (ds.set j v)) C3 = some C4 ∧ P (.nx sl C4)) (fun e C => P (.xc e sl C))) (fun e C => P (.xc e sl C))) (fun e C => P (.xc e sl C))) : wS (sSetL me mo mi ⟨fl, sl⟩ C) P :=
  w_bndS (w_mono h (fun v C1 g => w_bndS (w_mono g (fun o C2 g => w_bndS (w_mono g (fun x C3 g => by
    obtain ⟨n, i, ds, j, C4, rfl, e1, e2, e3, q⟩ := g
    simp only [e1, e2, e3]
    exact ⟨q⟩) fun _ _ z => z)) fun _ _ z => z)) fun _ _ z => z)
theorem wr_hi {fl i : Nat} {c : Cell} {C : Store} (h : fl ≤ i) : wr fl i c C = some (C.set i (some c)) := by
  unfold wr
  rw [if_neg (fun z => by omega)]
theorem ixN_at {n : Nat} {i : Int} (h0 : 0 ≤ i) (h1 : i < n) : ixN n i = some i.toNat := by
  unfold ixN
  rw [if_pos h0, if_pos h1]
theorem w_append {mo me : ME} {F : Fr} {C : Store} {Q : D → Store → Prop} {E : Exc → Store → Prop} (h : wR (mo F C) (fun o C1 => (vL o C1).isSome = true ∧ wR (me F C1) (fun v C2 => ∃ i ds, cL o C2 = some (i, ds) ∧ F.fl ≤ i ∧ ds.length < 16777216 ∧ Q .non (C2.set i (some (.lst (ds ++ [v]))))) E) E) : wR (mAppend mo me F C) Q E := by
  unfold mAppend
  refine w_bnd (w_mono h (fun o C1 g => ?_) fun _ _ z => z)
  rw [if_pos g.1]
  refine w_bnd (w_mono g.2 (fun v C2 g => ?_) fun _ _ z => z)
  obtain ⟨i, ds, e, hi, hz, q⟩ := g
  have hs : szN (ds.length + 1) = true := by simp only [szN, decide_eq_true_eq]; omega
  simp only [e, hs, if_true, wr_hi hi]
  exact w_ok q
end CT
set_option maxHeartbeats 4000000
/-! E6: walks and comprehensions, step by step. -/
namespace CT
open PySem L2
section
variable {E : Exc → Store → Prop} {F : Fr} {C : Store} {P : RS → Prop}
theorem w_pre {a b : MS} {fl : Nat} {sl : List (Option D)} (h : wS (sSeq a b ⟨fl, sl⟩ C) P) : wS (a ⟨fl, sl⟩ C) (thn b fl P) := by
  have h := h.h
  refine ⟨?_⟩
  unfold sSeq at h
  cases e : a ⟨fl, sl⟩ C with
  | nx sl C1 => rw [e] at h; exact ⟨h⟩
  | rt d C1 => rw [e] at h; exact h
  | bk d C1 => rw [e] at h; exact h
  | ct d C1 => rw [e] at h; exact h
  | xc x d C1 => rw [e] at h; exact h
  | stuck => rw [e] at h; exact h
theorem w_forI {mi : MI} {g : MG} {body : MS} {fl : Nat} {sl : List (Option D)} (h : wR (mi ⟨fl, sl⟩ C) (fun it C1 => wS (loopN it g body fl it.n 0 sl C1) P) (fun e C1 => P (.xc e sl C1))) : wS (sFor mi g body ⟨fl, sl⟩ C) P := w_bndS h
theorem w_seqI {m : ME} {Q : ItD → Store → Prop} (h : wR (m F C) (fun d C1 => ∃ it, itS d C1 = some it ∧ Q it C1) E) : wR (mSeq m F C) Q E :=
  w_bnd (w_mono h (fun d C1 g => by obtain ⟨it, e, q⟩ := g; simp only [e]; exact w_ok q) fun _ _ z => z)
theorem w_enum {m : ME} {Q : ItD → Store → Prop} (h : wR (m F C) (fun d C1 => ∃ it, itS d C1 = some it ∧ Q (prI it) C1) E) : wR (mEnum m F C) Q E :=
  w_bnd (w_mono h (fun d C1 g => by obtain ⟨it, e, q⟩ := g; simp only [e]; exact w_ok q) fun _ _ z => z)
theorem w_itL {xs : List D} {q : ItD → Prop} (h : q (itC xs)) : ∃ it, itS (.lst xs) C = some it ∧ q it := ⟨_, rfl, h⟩
theorem w_itT {xs : List D} {q : ItD → Prop} (h : q (itC xs)) : ∃ it, itS (.tup xs) C = some it ∧ q it := ⟨_, rfl, h⟩
theorem w_itK {xs : List D} {q : ItD → Prop} (h : q (itC xs)) : ∃ it, itS (.kt xs) C = some it ∧ q it := ⟨_, rfl, h⟩
theorem w_itC {i : Nat} {xs : List D} {q : ItD → Prop} (e : C[i]? = some (some (.lst xs))) (h : q (itV i xs.length)) : ∃ it, itS (.cell i) C = some it ∧ q it := ⟨_, by simp [itS, e], h⟩
theorem w_rng1 {m : ME} {Q : ItD → Store → Prop} (h : wR (m F C) (fun d C1 => ∃ j, d = .int j ∧ inR j = true ∧ Q (itR 0 j.toNat) C1) E) : wR (mRng1 m F C) Q E :=
  w_bnd (w_mono h (fun d C1 g => by obtain ⟨j, rfl, e, q⟩ := g; simp only [e, if_true]; exact w_ok q) fun _ _ z => z)
theorem w_rng2 {m m2 : ME} {Q : ItD → Store → Prop} (h : wR (m F C) (fun d C1 => wR (m2 F C1) (fun e C2 => ∃ i j, d = .int i ∧ e = .int j ∧ inR i = true ∧ inR j = true ∧ Q (itR i (j - i).toNat) C2) E) E) : wR (mRng2 m m2 F C) Q E :=
  w_bnd (w_mono h (fun d C1 g => w_bnd (w_mono g (fun e C2 g => by obtain ⟨i, j, rfl, rfl, e1, e2, q⟩ := g; simp only [e1, e2, Bool.and_self, if_true]; exact w_ok q) fun _ _ z => z)) fun _ _ z => z)
theorem inR_of {j : Int} (h : -1000000000000 ≤ j) (h2 : j ≤ 1000000000000) : inR j = true := by
  have e1 : decide (-(2 ^ 62) ≤ j) = true := decide_eq_true (by omega)
  have e2 : decide (j < 2 ^ 62) = true := decide_eq_true (by omega)
  simp only [inR, e1, e2, Bool.and_self]
theorem loop_p {it : ItD} {xs : List D} (p : PureIt it xs) {g : MG} {body : MS} {fl : Nat} {sl : List (Option D)} (I : Nat → List (Option D) → Store → Prop) (i0 : I 0 sl C)
    (step : ∀ j x sl C, xs[j]? = some x → I j sl C → ∃ sl1, g x sl = some sl1 ∧ wS (body ⟨fl, sl1⟩ C) (lpP I (j + 1) P)) (fin : ∀ sl C, I xs.length sl C → P (.nx sl C)) : wS (loopN it g body fl it.n 0 sl C) P :=
  loop_w (p.on fun _ => True) I (fun _ _ _ _ => trivial) step fin it.n 0 sl C (by rw [p.n]; omega) i0
theorem loop_o {S : Store → Prop} {it : ItD} {xs : List D} (p : ItOn S it xs) {g : MG} {body : MS} {fl : Nat} {sl : List (Option D)} (I : Nat → List (Option D) → Store → Prop) (hS : ∀ j sl C, I j sl C → S C) (i0 : I 0 sl C)
    (step : ∀ j x sl C, xs[j]? = some x → I j sl C → ∃ sl1, g x sl = some sl1 ∧ wS (body ⟨fl, sl1⟩ C) (lpP I (j + 1) P)) (fin : ∀ sl C, I xs.length sl C → P (.nx sl C)) : wS (loopN it g body fl it.n 0 sl C) P :=
  loop_w p I hS step fin it.n 0 sl C (by rw [p.n]; omega) i0
theorem on_cell {i : Nat} {xs : List D} : ItOn (fun C => C[i]? = some (some (.lst xs))) (itV i xs.length) xs := ⟨rfl, fun j C h hj => by simp [itV, h], fun C h => by simp [itV, h]⟩
def lcR (it : ItD) (g : MG) (tt : MT) (te : ME) (vs : List Nat) (F : Fr) (C1 : Store) : R D := mLc false (fun _ C => .ok it C) g tt te vs F C1
theorem w_lcI {mi : MI} {g : MG} {tt : MT} {te : ME} {vs : List Nat} {Q : D → Store → Prop} (h : wR (mi F C) (fun it C1 => wR (lcR it g tt te vs F C1) Q E) E) : wR (mLc false mi g tt te vs F C) Q E := by
  unfold lcR mLc at h
  unfold mLc
  exact w_bnd h
theorem lc_p {it : ItD} {xs : List D} {g : MG} {tt : MT} {te : ME} {vs : List Nat} {Q : D → Store → Prop} (p : PureIt it xs) (f : D → Bool) (h : D → D) (sz : xs.length ≤ 16777215)
    (st : ∀ x ∈ xs, ∃ sl1, g x (wipeD F.sl vs) = some sl1 ∧ ∀ acc, wR (tt ⟨C.length, sl1⟩ (accS C acc)) (fun b C' => b = f x ∧ C' = accS C acc) noX ∧ (f x = true → wR (te ⟨C.length, sl1⟩ (accS C acc)) (fun d C' => d = h x ∧ C' = accS C acc) noX))
    (hc : ∀ x ∈ xs, f x = true → cb C.length (h x) = true) (q : Q (.lst ((xs.filter f).map h)) C) : wR (lcR it g tt te vs F C) Q E := w_lcP rfl p f h sz st hc q
end
end CT
set_option maxHeartbeats 4000000
/-! M22: the bag. -/
namespace CL
open PySem L2 CT
theorem filter_yes {α : Type} (l : List α) : l.filter (fun _ => true) = l := List.filter_eq_self.mpr fun _ _ => rfl
def absD : D → D
  | .int i => .int (i.natAbs : Int)
  | _ => .non
theorem bag_ok (ns : List Int) (hl : ns.length ≤ 63) : ∃ cs : List Int, (∀ c ∈ cs, 0 ≤ c) ∧ m_law_bag [scrD ns] [] = .ok (.cell 0) [some (bagC 0 1234567891 0 cs)] := by
  obtain ⟨ms, e, hm⟩ : ∃ ms : List Int, cutD (ns.map D.int) none (some 63) = ms.map D.int ∧ ms.length ≤ 63 := by
    refine ⟨(ns.drop (HT.sIx (ns.map D.int).length 0 none)).take (HT.sIx (ns.map D.int).length (ns.map D.int).length (some 63) - HT.sIx (ns.map D.int).length 0 none), ?_, ?_⟩
    · unfold cutD
      rw [List.map_take, List.map_drop]
    · rw [List.length_take, List.length_drop]
      omega
  refine ⟨ms.map fun i => (i.natAbs : Int), fun c hc => ?_, ?_⟩
  · obtain ⟨i, _, rfl⟩ := List.mem_map.mp hc
    omega
  have es : mSlL false (mVar 0) mNoPart (mPart (mC (.int 63))) ⟨0, [some (scrD ns), none]⟩ [] = .ok (.lst (ms.map D.int)) [] := by
    show ofO (some (mkL false (cutD (ns.map D.int) none (some 63)) [])) = _
    rw [e]
    rfl
  have el := ev_lc (pure_C (ms.map D.int)) (mi := mSeq (mSlL false (mVar 0) mNoPart (mPart (mC (.int 63))))) (g := (Tgt.nm 1).M) (tt := tYesM) (te := mAp oAbs (mCons (mVar 1) mNil)) (vs := [1]) (F := ⟨0, [some (scrD ns), none]⟩) (C := []) (fun _ => true) absD
    (ev_seqI (d := .lst (ms.map D.int)) es rfl) (by rw [List.length_map]; omega)
    (fun y hy => by
      obtain ⟨i, _, rfl⟩ := List.mem_map.mp hy
      exact ⟨[some (scrD ns), some (.int i)], by simp, fun acc => ⟨rfl, fun _ => by simp [absD]⟩⟩)
    (fun y hy _ => by
      obtain ⟨i, _, rfl⟩ := List.mem_map.mp hy
      rfl)
  rw [filter_yes, List.map_map] at el
  have eb : b_law_bag ⟨0, [some (scrD ns), none]⟩ [] = .rt (.cell 0) [some (bagC 0 1234567891 0 (ms.map fun i => (i.natAbs : Int)))] := by
    rw [b_law_bag, ev_sret, ev_ap, ev_cons, ev_c, consK_ok, ev_cons, ev_c, consK_ok, ev_cons, ev_c, consK_ok, ev_cons, el, consK_ok, ev_nil, consK2_ok, consK2_ok, consK2_ok, consK2_ok, apK_ok]
    have eo : ∀ x : D, oLst true [.int 0, .int 1234567891, .int 0, x] [] = some (.cell 0, [some (.lst [.int 0, .int 1234567891, .int 0, x])]) := fun x => by simp [oLst, szN, mkL]
    rw [eo, ev_ofO_some, retK_ok, bagC, List.map_map]
    rfl
  have ed : m_law_bag [scrD ns] [] = (match b_law_bag ⟨0, [some (scrD ns), none]⟩ [] with
    | .rt d C' => finO 0 d C'
    | .xc e _ C' => if cbL 0 e.fs = true then .exc e (C'.take 0) else .stuck
    | _ => .stuck) := rfl
  have cI := cbL_ints 0 (ms.map fun i => (i.natAbs : Int))
  rw [List.map_map] at cI
  rw [ed, eb]
  simp [finO, bagC, cbL, cb, cI]
theorem cbL_all {n : Nat} : ∀ {l : List D}, (∀ d ∈ l, cb n d = true) → cbL n l = true
  | [], _ => rfl
  | d :: l, h => by
    show (cb n d && cbL n l) = true
    rw [h d (List.mem_cons_self ..), cbL_all fun x hx => h x (List.mem_cons_of_mem _ hx)]
    rfl
@[simp] theorem dBools_map : ∀ l : List Bool, dBools (l.map D.bl) = some l
  | [] => rfl
  | x :: l => by
    show (dBools (l.map D.bl)).map _ = _
    rw [dBools_map l]
    rfl
@[simp] theorem dInts_map : ∀ l : List Int, dInts (l.map D.int) = some l
  | [] => rfl
  | x :: l => by
    show (dInts (l.map D.int)).map _ = _
    rw [dInts_map l]
    rfl
/-- a bag at i -/
def Bg (i : Nat) (C : Store) : Prop := ∃ cs, (∀ x ∈ cs, 0 ≤ x) ∧ Bag i cs C
/-- the bag alone has changed -/
def To (i : Nat) (C C' : Store) : Prop := ∃ x, C' = C.set i (some x) ∧ Bg i C'
section
variable {i : Nat} {C C' C'' Y Z : Store} {n : Int}
theorem Bg.lt (h : Bg i C) : i < C.length := by
  obtain ⟨cs, _, a, b, c, e, _⟩ := h
  exact (List.getElem?_eq_some_iff.mp e).1
theorem Bg.app (h : Bg i C) (Y : Store) : Bg i (C ++ Y) := by
  have hi := h.lt
  obtain ⟨cs, hcs, a, b, c, e, q⟩ := h
  exact ⟨cs, hcs, a, b, c, by rw [List.getElem?_append_left hi]; exact e, q⟩
theorem Bg.cut (hi : i < C.length) (h : Bg i (C ++ Y)) : Bg i C := by
  obtain ⟨cs, hcs, a, b, c, e, q⟩ := h
  exact ⟨cs, hcs, a, b, c, by rw [List.getElem?_append_left hi] at e; exact e, q⟩
theorem To.bg (h : To i C C') : Bg i C' := by
  obtain ⟨x, _, b⟩ := h
  exact b
theorem To.len (h : To i C C') : C'.length = C.length := by
  obtain ⟨x, rfl, _⟩ := h
  simp
theorem To.trans (h : To i C C') (g : To i C' C'') : To i C C'' := by
  obtain ⟨x, rfl, _⟩ := h
  obtain ⟨y, rfl, b⟩ := g
  exact ⟨y, by simp, b⟩
theorem To.refl (h : Bg i C) : To i C C := by
  obtain ⟨cs, hcs, a, b, c, e, q⟩ := h
  refine ⟨bagC a b c cs, ?_, cs, hcs, a, b, c, e, q⟩
  obtain ⟨h1, h2⟩ := List.getElem?_eq_some_iff.mp e
  have z := List.set_getElem_self (as := C) (i := i) h1
  rw [h2] at z
  exact z.symm
theorem To.cut (hi : i < C.length) (h : To i (C ++ Y) Z) : ∃ C', Z = C' ++ Y ∧ To i C C' := by
  obtain ⟨x, rfl, b⟩ := h
  rw [List.set_append_left _ _ hi] at b ⊢
  exact ⟨_, rfl, x, rfl, b.cut (by simpa using hi)⟩
theorem take_to (hB : Bg i C) (hn : 0 < n) (hn2 : n < 4611686018427387904) (Y : Store) : ∃ r C', m_law_take [.cell i, .int n] (C ++ Y) = .ok (.int r) (C' ++ Y) ∧ 0 ≤ r ∧ r < n ∧ To i C C' := by
  have hi := hB.lt
  obtain ⟨cs, hcs, hB'⟩ := hB.app Y
  obtain ⟨r, x, e, h1, h2, h3⟩ := take_ok hB' hcs hn hn2
  obtain ⟨C', e2, t⟩ := To.cut hi (⟨x, rfl, cs, hcs, h3⟩ : To i (C ++ Y) ((C ++ Y).set i (some x)))
  exact ⟨r, C', by rw [e, e2], h1, h2, t⟩
end
theorem To.get {i j : Nat} {C C' : Store} (h : To i C C') (hj : j ≠ i) : C'[j]? = C[j]? := by
  obtain ⟨x, rfl, _⟩ := h
  rw [List.getElem?_set_ne (Ne.symm hj)]
theorem To.tk {i : Nat} {C C' : Store} (h : To i C C') : C'.take C.length = C' := by
  rw [← h.len, List.take_length]
theorem take_w {i : Nat} {C : Store} {n : Int} {Q : D → Store → Prop} {E : Exc → Store → Prop} (hB : Bg i C) (hn : 0 < n) (hn2 : n < 4611686018427387904) (h : ∀ r C', 0 ≤ r → r < n → To i C C' → Q (.int r) C') : wR (m_law_take [.cell i, .int n] C) Q E := by
  obtain ⟨r, C', e, r0, r1, t⟩ := take_to hB hn hn2 []
  rw [List.append_nil, List.append_nil] at e
  exact w_of e (h r C' r0 r1 t)
end CL
set_option maxHeartbeats 4000000
namespace CL
open PySem L2 CT
/-! TK3: data that can be shown and compared. -/
mutual
def sm : PyData → Bool
  | .none => true
  | .bool _ => true
  | .int i => decide (i.natAbs < 1000000000000)
  | .list xs => smA xs
  | .tuple xs => smA xs
  | .str _ => false
  | .dict _ => false
def smA : List PyData → Bool
  | [] => true
  | x :: xs => sm x && smA xs
end
mutual
theorem sm_ok : ∀ p : PyData, sm p = true → p.showable = true ∧ p.hasDict = false ∧ p.leavesShort 13 = true
  | .none, _ => ⟨rfl, rfl, rfl⟩
  | .bool _, _ => ⟨rfl, rfl, rfl⟩
  | .int i, h => by
    have h' : i.natAbs < 10 ^ 12 := by simpa [sm] using h
    refine ⟨?_, rfl, ?_⟩
    · show decide (i.natAbs.log2 < 1920) = true
      refine decide_eq_true ?_
      by_cases z : i.natAbs = 0
      · rw [z]
        decide
      · exact (Nat.log2_lt z).mpr (Nat.lt_trans h' (by decide))
    · show decide ((PyData.shown (.int i)).length ≤ 13) = true
      exact decide_eq_true (PyData.shown_int_le h')
  | .list xs, h => by
    have := smA_ok xs (by simpa [sm] using h)
    refine ⟨?_, ?_, ?_⟩
    · simpa [PyData.showable] using this.1
    · simpa [PyData.hasDict] using this.2.1
    · simpa [PyData.leavesShort] using this.2.2
  | .tuple xs, h => by
    have := smA_ok xs (by simpa [sm] using h)
    refine ⟨?_, ?_, ?_⟩
    · simpa [PyData.showable] using this.1
    · simpa [PyData.hasDict] using this.2.1
    · simpa [PyData.leavesShort] using this.2.2
  | .str _, h => by simp [sm] at h
  | .dict _, h => by simp [sm] at h
theorem smA_ok : ∀ xs : List PyData, smA xs = true → PyData.showableAll xs = true ∧ PyData.hasDictAll xs = false ∧ PyData.leavesShortAll 13 xs = true
  | [], _ => ⟨rfl, rfl, rfl⟩
  | x :: xs, h => by
    simp only [smA, Bool.and_eq_true] at h
    obtain ⟨a1, a2, a3⟩ := sm_ok x h.1
    obtain ⟨b1, b2, b3⟩ := smA_ok xs h.2
    simp [PyData.showableAll, PyData.hasDictAll, PyData.leavesShortAll, a1, a2, a3, b1, b2, b3]
end
theorem repr_of {x : D} {C : Store} {p : PyData} (e : toP C x = some p) (h : repOk p = true) : oRepr [x] C = some (.str p.shown, C) := by
  simp [oRepr, e, h]
theorem wt_int {i : Int} (h : i.natAbs < 1000000000000) : (PyData.int i).weight ≤ 40 := by
  simp only [PyData.weight]
  split
  · omega
  · rename_i z
    have z' : i.natAbs ≠ 0 := by
      intro e
      apply z
      have : i = 0 := by omega
      rw [this]
      rfl
    have : i.natAbs.log2 < 40 := (Nat.log2_lt z').mpr (Nat.lt_trans h (by decide))
    omega
structure Gd (w dp : Nat) (x : D) (p : PyData) : Prop where
  tp : ∀ C, toP C x = some p
  cl : p.canLay0 = true
  sh : p.showable = true
  nd : p.hasDict = false
  ls : p.leavesShort 40 = true
  dp : p.depth ≤ dp
  wt : p.weight ≤ w
structure GdL (w dp : Nat) (xs : List D) (ps : List PyData) : Prop where
  tp : ∀ C, toPs C xs = some ps
  cl : PyData.canLayAll0 ps = true
  sh : PyData.showableAll ps = true
  nd : PyData.hasDictAll ps = false
  ls : PyData.leavesShortAll 40 ps = true
  dp : PyData.depthAll ps ≤ dp
  wt : PyData.weightAll ps ≤ xs.length * (w + 1)
  len : ps.length = xs.length
theorem gdl_nil {w dp : Nat} : GdL w dp [] [] := ⟨fun _ => rfl, rfl, rfl, rfl, rfl, by simp [PyData.depthAll], by simp [PyData.weightAll], rfl⟩
theorem gdl_cons {w dp : Nat} {x : D} {p : PyData} {xs : List D} {ps : List PyData} (h : Gd w dp x p) (t : GdL w dp xs ps) : GdL w dp (x :: xs) (p :: ps) := by
  refine ⟨fun C => ?_, ?_, ?_, ?_, ?_, ?_, ?_, ?_⟩
  · simp only [toPs, h.tp, t.tp]
  · simp [PyData.canLayAll0, h.cl, t.cl]
  · simp [PyData.showableAll, h.sh, t.sh]
  · simp [PyData.hasDictAll, h.nd, t.nd]
  · simp [PyData.leavesShortAll, h.ls, t.ls]
  · have h1 := h.dp
    have h2 := t.dp
    simp only [PyData.depthAll]
    omega
  · have h1 := h.wt
    have h2 := t.wt
    simp only [PyData.weightAll, List.length_cons, Nat.succ_mul]
    omega
  · simp [t.len]
theorem gdl_all {w dp : Nat} : ∀ {xs : List D}, (∀ x ∈ xs, ∃ p, Gd w dp x p) → ∃ ps, GdL w dp xs ps
  | [], _ => ⟨[], gdl_nil⟩
  | x :: xs, h => by
    obtain ⟨p, hp⟩ := h x (List.mem_cons_self ..)
    obtain ⟨ps, ht⟩ := gdl_all fun y hy => h y (List.mem_cons_of_mem _ hy)
    exact ⟨p :: ps, gdl_cons hp ht⟩
theorem gd_tup {w dp n : Nat} {xs : List D} {ps : List PyData} (h : GdL w dp xs ps) (hn : xs.length ≤ n) : Gd (n * (w + 1)) (dp + 1) (.tup xs) (.tuple ps) := by
  refine ⟨fun C => ?_, ?_, ?_, ?_, ?_, ?_, ?_⟩
  · simp only [toP, h.tp, Option.map_some]
  · simpa [PyData.canLay0] using h.cl
  · simpa [PyData.showable] using h.sh
  · simpa [PyData.hasDict] using h.nd
  · simpa [PyData.leavesShort] using h.ls
  · have := h.dp
    simp only [PyData.depth]
    omega
  · have := h.wt
    have z : xs.length * (w + 1) ≤ n * (w + 1) := Nat.mul_le_mul_right _ hn
    simp only [PyData.weight]
    omega
theorem gd_lst {w dp n : Nat} {xs : List D} {ps : List PyData} (h : GdL w dp xs ps) (hn : xs.length ≤ n) : Gd (n * (w + 1)) (dp + 1) (.lst xs) (.list ps) := by
  refine ⟨fun C => ?_, ?_, ?_, ?_, ?_, ?_, ?_⟩
  · simp only [toP, h.tp, Option.map_some]
  · simpa [PyData.canLay0] using h.cl
  · simpa [PyData.showable] using h.sh
  · simpa [PyData.hasDict] using h.nd
  · simpa [PyData.leavesShort] using h.ls
  · have := h.dp
    simp only [PyData.depth]
    omega
  · have := h.wt
    have z : xs.length * (w + 1) ≤ n * (w + 1) := Nat.mul_le_mul_right _ hn
    simp only [PyData.weight]
    omega
theorem Gd.mono {w w' dp dp' : Nat} {x : D} {p : PyData} (h : Gd w dp x p) (hw : w ≤ w') (hd : dp ≤ dp') : Gd w' dp' x p := ⟨h.tp, h.cl, h.sh, h.nd, h.ls, Nat.le_trans h.dp hd, Nat.le_trans h.wt hw⟩
theorem Gd.ok {w dp : Nat} {x : D} {p : PyData} (h : Gd w dp x p) (hw : w ≤ 300000) (hd : dp ≤ 60) : repOk p = true := by
  have h4 := PyData.shown_le 40 (by decide) p h.ls
  have h5 := h.wt
  have h6 := h.dp
  have hz : p.shown.length ≤ 16777216 := by omega
  have hd' : p.depth ≤ 60 := by omega
  simp [repOk, h.sh, h.nd, hd', szN, hz]
theorem Gd.repr {w dp : Nat} {x : D} {p : PyData} (h : Gd w dp x p) (hw : w ≤ 300000) (hd : dp ≤ 60) (C : Store) : oRepr [x] C = some (.str p.shown, C) := repr_of (h.tp C) (h.ok hw hd)
theorem gd_int {i : Int} (h : i.natAbs < 1000000000000) : Gd 40 0 (.int i) (.int i) := by
  have h1 := sm_ok (.int i) (by simpa [sm] using h)
  have h' : i.natAbs < 10 ^ 12 := h
  refine ⟨fun _ => rfl, rfl, h1.1, rfl, ?_, by simp [PyData.depth], wt_int h⟩
  have := PyData.shown_int_le h'
  simp only [PyData.leavesShort, decide_eq_true_eq]
  omega
end CL
set_option maxHeartbeats 4000000
namespace CL
open PySem L2 CT
local macro_rules | `(tactic| walk_at "w") => `(tactic| first | ((with_reducible apply gR); first | with_reducible refine w_var rfl ?_ | with_reducible apply w_cons | with_reducible apply w_c | with_reducible apply w_nil | with_reducible apply w_op | with_reducible apply w_ap | with_reducible apply w_call | with_reducible apply w_tst | with_reducible apply w_un | with_reducible apply w_tand | with_reducible apply w_tor | with_reducible apply w_tnot | with_reducible apply w_yes | with_reducible apply w_and | with_reducible apply w_or | with_reducible apply w_not | with_reducible apply w_if | with_reducible apply w_chain | with_reducible apply w_isi | with_reducible apply w_isi2 | with_reducible apply w_prop | with_reducible apply w_meth | with_reducible apply w_dget | with_reducible apply w_dnewF | with_reducible apply w_dnewT | with_reducible apply w_part | with_reducible apply w_noPart | with_reducible apply w_slLF | with_reducible apply w_slA | with_reducible apply w_ok | with_reducible apply w_ofO | with_reducible apply w_lcI | with_reducible apply w_seqI | with_reducible apply w_rng1 | with_reducible apply w_rng2 | with_reducible apply w_enum) | ((with_reducible apply gO); first | with_reducible apply wo_add | with_reducible apply wo_sub | with_reducible apply wo_lt | with_reducible apply wo_gt | with_reducible apply wo_eq | with_reducible apply wo_ne | with_reducible apply wo_le | with_reducible apply wo_ge | with_reducible apply wo_neg | with_reducible apply wo_eqS | with_reducible apply wo_neS | with_reducible apply wo_min | with_reducible apply wo_max | with_reducible apply wo_int | with_reducible apply wo_abs | with_reducible apply wo_tupL | with_reducible apply wo_tupT | with_reducible refine wo_tup (by with_unfolding_all rfl) ?_ | with_reducible refine wo_lstF (by with_unfolding_all rfl) ?_ | with_reducible refine wo_lstT (by with_unfolding_all rfl) ?_ | with_reducible apply wo_fld0 | with_reducible apply wo_fld1 | with_reducible apply wo_fld2) | ((with_reducible apply gS); first | with_reducible apply w_seq | with_reducible apply w_asg | with_reducible apply w_sif | with_reducible apply w_next | with_reducible apply w_ret | with_reducible apply w_par | with_reducible apply w_drop | with_reducible apply w_asgT | with_reducible apply w_retN | with_reducible apply w_brk | with_reducible apply w_cnt | with_reducible apply w_raise | with_reducible apply w_forI) | ((with_reducible apply gI); first | with_reducible apply wI_t | with_reducible apply wI_f | with_reducible apply wI_not) | with_reducible apply w_bl | with_reducible apply thn_nx | with_reducible apply w_int | with_reducible apply w_obj | with_reducible apply thn_rt | with_reducible apply lp_nx | with_reducible apply fnl_int | with_reducible apply fnl_bl | with_reducible apply fnl_non | with_reducible apply fnl_str | with_reducible apply fnl_nx | with_reducible apply thn_bk | with_reducible apply thn_ct | with_reducible apply thn_xc | with_reducible apply lp_rt | with_reducible apply lp_bk | with_reducible apply lp_xc | with_reducible apply w_itL | with_reducible apply w_itT | with_reducible apply w_itK)
local macro_rules | `(tactic| walk_at "p") => `(tactic| repeat walk_at "w")
/-! S2: runs as data; merged. -/
def le2 (p q : Int × Int) : Bool := decide (p.1 < q.1 ∨ (p.1 = q.1 ∧ p.2 ≤ q.2))
theorem le2_trans (a b c : Int × Int) (h1 : le2 a b = true) (h2 : le2 b c = true) : le2 a c = true := by
  simp only [le2, decide_eq_true_eq] at *
  omega
theorem le2_total (a b : Int × Int) : (le2 a b || le2 b a) = true := by
  simp only [le2, Bool.or_eq_true, decide_eq_true_eq]
  omega
def rD (r : Rn) : D := .tup [.int r.1, .int r.2]
def rsD (l : List Rn) : List D := l.map rD
def rP (r : Rn) : PyData := .tuple [.int r.1, .int r.2]
def rsP (l : List Rn) : List PyData := l.map rP
@[simp] theorem rsD_len (l : List Rn) : (rsD l).length = l.length := by simp [rsD]
theorem rsD_app (a b : List Rn) : rsD (a ++ b) = rsD a ++ rsD b := by simp [rsD]
theorem toPs_rs (C : Store) : ∀ l, toPs C (rsD l) = some (rsP l)
  | [] => rfl
  | r :: l => by
    have e := toPs_rs C l
    show (match toP C (rD r), toPs C (rsD l) with | some p, some ps => some (p :: ps) | _, _ => none) = _
    rw [e]
    rfl
theorem toP0s_rs : ∀ l, toP0s (rsD l) = some (rsP l)
  | [] => rfl
  | r :: l => by
    have e := toP0s_rs l
    show (match toP0 (rD r), toP0s (rsD l) with | some p, some ps => some (p :: ps) | _, _ => none) = _
    rw [e]
    rfl
theorem toP_tup (C : Store) (l : List Rn) : toP C (.tup (rsD l)) = some (.tuple (rsP l)) := by simp [toP, toPs_rs]
theorem toP_lst (C : Store) (l : List Rn) : toP C (.lst (rsD l)) = some (.list (rsP l)) := by simp [toP, toPs_rs]
theorem toP_cell {C : Store} {i : Nat} {l : List Rn} (h : C[i]? = some (some (.lst (rsD l)))) : toP C (.cell i) = some (.list (rsP l)) := by simp [toP, h, toP0s_rs]
theorem eqv_rs : ∀ a b : List Rn, PyData.eqvAll (rsP a) (rsP b) = decide (a = b)
  | [], [] => rfl
  | [], _ :: _ => rfl
  | _ :: _, [] => rfl
  | x :: a, y :: b => by
    have e := eqv_rs a b
    show (PyData.eqv (rP x) (rP y) && PyData.eqvAll (rsP a) (rsP b)) = _
    rw [e, Bool.eq_iff_iff]
    obtain ⟨x1, x2⟩ := x
    obtain ⟨y1, y2⟩ := y
    simp [PyData.eqv, PyData.eqvAll, rP]
theorem lay_rs : ∀ l : List Rn, PyData.canLayAll0 (rsP l) = true
  | [] => rfl
  | r :: l => by
    have e := lay_rs l
    show (PyData.canLay0 (rP r) && PyData.canLayAll0 (rsP l)) = true
    rw [e]
    rfl
theorem dep_rs : ∀ l : List Rn, PyData.depthAll (rsP l) ≤ 1
  | [] => by simp [rsP, PyData.depthAll]
  | r :: l => by
    have e := dep_rs l
    have e1 : (rP r).depth = 1 := rfl
    show max (rP r).depth (PyData.depthAll (rsP l)) ≤ 1
    omega
theorem shp_t (l : List Rn) : SeqAt.shaped (.tuple (rsP l)) = true := by
  have := dep_rs l
  have h : PyData.depthAll (rsP l) + 1 ≤ 64 := by omega
  simp [SeqAt.shaped, PyData.canLay0, lay_rs, PyData.depth, h]
theorem shp_l (l : List Rn) : SeqAt.shaped (.list (rsP l)) = true := by
  have := dep_rs l
  have h : PyData.depthAll (rsP l) + 1 ≤ 64 := by omega
  simp [SeqAt.shaped, PyData.canLay0, lay_rs, PyData.depth, h]
theorem ne_cell {C : Store} {i : Nat} {l : List Rn} (h : C[i]? = some (some (.lst (rsD l)))) : oEqA true (.cell i) (.lst []) C = some (.bl (!decide (l = [])), C) := by
  show oEqD true (.cell i) (.lst (rsD [])) C = _
  simp only [oEqD, toP_cell h, toP_lst, shp_l, PyData.eqv, eqv_rs, Bool.and_self, if_true]
def hvP (E O : List Rn) : PyData := .tuple [.tuple (rsP E), .tuple (rsP O)]
def hvD (E O : List Rn) : D := .tup [.tup (rsD E), .tup (rsD O)]
theorem toP_hv (C : Store) (E O : List Rn) : toP C (hvD E O) = some (hvP E O) := by
  have e1 := toP_tup C E
  have e2 := toP_tup C O
  simp [hvD, hvP, toP, toPs] at e1 e2 ⊢
  rw [toPs_rs, toPs_rs]
  rfl
theorem shp_hv (E O : List Rn) : SeqAt.shaped (hvP E O) = true := by
  have h1 := dep_rs E
  have h2 := dep_rs O
  have h : max (PyData.depthAll (rsP E) + 1) (PyData.depthAll (rsP O) + 1) + 1 ≤ 64 := by omega
  simp [hvP, SeqAt.shaped, PyData.canLay0, PyData.canLayAll0, lay_rs, PyData.depth, PyData.depthAll]
  omega
theorem eq_hv (E O E' O' : List Rn) (C : Store) : oEqA false (hvD E O) (hvD E' O') C = some (.bl (decide (E = E' ∧ O = O')), C) := by
  show oEqD false (hvD E O) (hvD E' O') C = _
  simp only [oEqD, toP_hv, shp_hv, Bool.and_self, if_true]
  have e : PyData.eqv (hvP E O) (hvP E' O') = decide (E = E' ∧ O = O') := by
    simp [hvP, PyData.eqv, PyData.eqvAll, eqv_rs]
  rw [e]
  rfl
def srt (l : List Rn) : List Rn := l.mergeSort le2
theorem le2_enc (C : Store) (p q : Rn) : PySem.W.dataLe false (encD C) (rD p) (rD q) = le2 p q := by
  have e := congrFun (congrFun (PySem.W.dataLe_ii (fun b : Int × Int => b.1) (fun b => b.2)) p) q
  exact e
theorem srtb_rs (l : List Rn) (C : Store) : srtb ((rsD l).map (encD C)) = true := by
  have e : ∀ p ∈ (rsD l).map (encD C), ∃ a b : Int, p = .tuple [.int a, .int b] := fun p hp => by
    obtain ⟨k, hk, rfl⟩ := List.mem_map.mp hp
    obtain ⟨q, _, rfl⟩ := List.mem_map.mp hk
    exact ⟨q.1, q.2, rfl⟩
  simp only [srtb, Bool.and_eq_true, Bool.or_eq_true, List.all_eq_true]
  refine ⟨fun x hx y hy => ?_, .inl fun x hx => ?_⟩
  · obtain ⟨a, b, rfl⟩ := e x hx
    obtain ⟨a', b', rfl⟩ := e y hy
    simp [PySem.W.alike, PySem.W.alikeAll]
  · obtain ⟨a, b, rfl⟩ := e x hx
    rfl
theorem all_rs (l : List Rn) (C : Store) : ((rsD l).all fun d => (toP C d).isSome && decide ((encD C d).depth ≤ 60)) = true := by
  simp only [List.all_eq_true]
  intro d hd
  obtain ⟨q, _, rfl⟩ := List.mem_map.mp hd
  have e1 : toP C (rD q) = some (rP q) := rfl
  have e2 : encD C (rD q) = rP q := rfl
  have e3 : (rP q).depth = 1 := rfl
  rw [e1, e2, e3]
  rfl
theorem sort_map (l : List Rn) (C : Store) : (rsD l).mergeSort (PySem.W.dataLe false (encD C)) = rsD (srt l) :=
  (List.map_mergeSort (r := le2) (s := PySem.W.dataLe false (encD C)) (f := rD) (l := l) (fun a _ b _ => (le2_enc C a b).symm)).symm
theorem sortQ_t (l : List Rn) (C : Store) : oSortQ false [.tup (rsD l)] C = some (.lst (rsD (srt l)), C) := by
  show (if (((rsD l).all fun d => (toP C d).isSome && decide ((encD C d).depth ≤ 60)) && srtb ((rsD l).map (encD C))) = true then some (mkL false ((rsD l).mergeSort (PySem.W.dataLe false (encD C))) C) else none) = _
  rw [all_rs, srtb_rs, sort_map]
  rfl
theorem sortQ_l (l : List Rn) (C : Store) : oSortQ false [.lst (rsD l)] C = some (.lst (rsD (srt l)), C) := by
  show (if (((rsD l).all fun d => (toP C d).isSome && decide ((encD C d).depth ≤ 60)) && srtb ((rsD l).map (encD C))) = true then some (mkL false ((rsD l).mergeSort (PySem.W.dataLe false (encD C))) C) else none) = _
  rw [all_rs, srtb_rs, sort_map]
  rfl
theorem srt_mem {l : List Rn} {r : Rn} : r ∈ srt l ↔ r ∈ l := List.mem_mergeSort
theorem srt_up (l : List Rn) : (srt l).Pairwise (fun r s => r.1 ≤ s.1) := (List.pairwise_mergeSort le2_trans le2_total l).imp fun {a b} h => by simp only [le2, decide_eq_true_eq] at h; omega
theorem srt_len (l : List Rn) : (srt l).length = l.length := List.length_mergeSort l
theorem srt_id {l : List Rn} (h : l.Pairwise (fun r s => r.1 < s.1)) : srt l = l := List.mergeSort_of_pairwise (h.imp fun {a b} h => by simp only [le2, decide_eq_true_eq]; omega)
/-- merged -/
def mgd (l : List Rn) : List Rn := (srt l).foldl mstep []
theorem mgd_ok {p : Int} {l : List Rn} (h : ∀ r ∈ l, RunOk p r) : Canon p (mgd l) ∧ ∀ x, x % 2 = p → (mR (mgd l) x ↔ mR l x) := by
  obtain ⟨h1, h2⟩ := fold_ok (l := srt l) (canon_nil p) (fun r hr => h r (srt_mem.mp hr)) (srt_up l) (by simp)
  refine ⟨h1, fun x hx => ?_⟩
  rw [mgd, h2 x hx]
  constructor
  · rintro (z | ⟨r, hr, z⟩)
    · exact absurd z (mR_nil _)
    · exact ⟨r, srt_mem.mp hr, z⟩
  · rintro ⟨r, hr, z⟩
    exact .inr ⟨r, srt_mem.mpr hr, z⟩
theorem fold_take {α β : Type} {f : β → α → β} {l : List α} {b : β} {j : Nat} {x : α} (h : l[j]? = some x) : (l.take (j + 1)).foldl f b = f ((l.take j).foldl f b) x := by
  obtain ⟨hj, e⟩ := List.getElem?_eq_some_iff.mp h
  rw [← List.take_append_getElem hj, e, List.foldl_append]
  rfl
theorem rs_get {l : List Rn} {j : Nat} {y : D} (h : (rsD l)[j]? = some y) : ∃ r, l[j]? = some r ∧ y = rD r := by
  rw [rsD, List.getElem?_map] at h
  obtain ⟨r, h1, h2⟩ := Option.map_eq_some_iff.mp h
  exact ⟨r, h1, h2.symm⟩
theorem wo_last {C : Store} {i : Nat} {l : List Rn} {q : Rn} {Q : D → Store → Prop} (hC : C[i]? = some (some (.lst (rsD l)))) (hl : l.getLast? = some q) (h : Q (rD q) C) : wO (oIx (.cell i) (.int (-1)) C) Q := by
  have hs := last_split hl
  refine wo_of (C' := C) (d := rD q) ?_ h
  have e : ixN (rsD l).length (-1) = some (l.length - 1) := by
    have : 0 < l.length := by rw [hs]; simp
    rw [rsD_len]
    unfold ixN
    rw [if_neg (by omega), if_pos (by omega)]
    congr 1
    omega
  have e2 : (rsD l)[l.length - 1]? = some (rD q) := by
    rw [rsD, List.getElem?_map, ← List.getLast?_eq_getElem?, hl]
    rfl
  simp only [oIx, vS, hC, Option.bind_some, atI, e, e2, Option.map_some]
end CL
set_option maxHeartbeats 4000000
namespace CL
open PySem L2 CT
local macro_rules | `(tactic| walk_at "w") => `(tactic| first | ((with_reducible apply gR); first | with_reducible refine w_var rfl ?_ | with_reducible apply w_cons | with_reducible apply w_c | with_reducible apply w_nil | with_reducible apply w_op | with_reducible apply w_ap | with_reducible apply w_call | with_reducible apply w_tst | with_reducible apply w_un | with_reducible apply w_tand | with_reducible apply w_tor | with_reducible apply w_tnot | with_reducible apply w_yes | with_reducible apply w_and | with_reducible apply w_or | with_reducible apply w_not | with_reducible apply w_if | with_reducible apply w_chain | with_reducible apply w_isi | with_reducible apply w_isi2 | with_reducible apply w_prop | with_reducible apply w_meth | with_reducible apply w_dget | with_reducible apply w_dnewF | with_reducible apply w_dnewT | with_reducible apply w_part | with_reducible apply w_noPart | with_reducible apply w_slLF | with_reducible apply w_slA | with_reducible apply w_ok | with_reducible apply w_ofO | with_reducible apply w_lcI | with_reducible apply w_seqI | with_reducible apply w_rng1 | with_reducible apply w_rng2 | with_reducible apply w_enum) | ((with_reducible apply gO); first | with_reducible apply wo_add | with_reducible apply wo_sub | with_reducible apply wo_lt | with_reducible apply wo_gt | with_reducible apply wo_eq | with_reducible apply wo_ne | with_reducible apply wo_le | with_reducible apply wo_ge | with_reducible apply wo_neg | with_reducible apply wo_eqS | with_reducible apply wo_neS | with_reducible apply wo_min | with_reducible apply wo_max | with_reducible apply wo_int | with_reducible apply wo_abs | with_reducible apply wo_tupL | with_reducible apply wo_tupT | with_reducible refine wo_tup (by with_unfolding_all rfl) ?_ | with_reducible refine wo_lstF (by with_unfolding_all rfl) ?_ | with_reducible refine wo_lstT (by with_unfolding_all rfl) ?_ | with_reducible apply wo_fld0 | with_reducible apply wo_fld1 | with_reducible apply wo_fld2) | ((with_reducible apply gS); first | with_reducible apply w_seq | with_reducible apply w_asg | with_reducible apply w_sif | with_reducible apply w_next | with_reducible apply w_ret | with_reducible apply w_par | with_reducible apply w_drop | with_reducible apply w_asgT | with_reducible apply w_retN | with_reducible apply w_brk | with_reducible apply w_cnt | with_reducible apply w_raise | with_reducible apply w_forI) | ((with_reducible apply gI); first | with_reducible apply wI_t | with_reducible apply wI_f | with_reducible apply wI_not) | with_reducible apply w_bl | with_reducible apply thn_nx | with_reducible apply w_int | with_reducible apply w_obj | with_reducible apply thn_rt | with_reducible apply lp_nx | with_reducible apply fnl_int | with_reducible apply fnl_bl | with_reducible apply fnl_non | with_reducible apply fnl_str | with_reducible apply fnl_nx | with_reducible apply thn_bk | with_reducible apply thn_ct | with_reducible apply thn_xc | with_reducible apply lp_rt | with_reducible apply lp_bk | with_reducible apply lp_xc | with_reducible apply w_itL | with_reducible apply w_itT | with_reducible apply w_itK)
local macro_rules | `(tactic| walk_at "p") => `(tactic| repeat walk_at "w")
local macro_rules | `(tactic| walk_at "w") => `(tactic| first | ((with_reducible apply gR); first | with_reducible refine w_var rfl ?_ | with_reducible apply w_cons | with_reducible apply w_c | with_reducible apply w_nil | with_reducible apply w_op | with_reducible apply w_ap | with_reducible apply w_call | with_reducible apply w_tst | with_reducible apply w_un | with_reducible apply w_tand | with_reducible apply w_tor | with_reducible apply w_tnot | with_reducible apply w_yes | with_reducible apply w_and | with_reducible apply w_or | with_reducible apply w_not | with_reducible apply w_if | with_reducible apply w_chain | with_reducible apply w_isi | with_reducible apply w_isi2 | with_reducible apply w_prop | with_reducible apply w_meth | with_reducible apply w_dget | with_reducible apply w_dnewF | with_reducible apply w_dnewT | with_reducible apply w_part | with_reducible apply w_noPart | with_reducible apply w_slLF | with_reducible apply w_slA | with_reducible apply w_ok | with_reducible apply w_ofO | with_reducible apply w_lcI | with_reducible apply w_seqI | with_reducible apply w_rng1 | with_reducible apply w_rng2 | with_reducible apply w_enum) | ((with_reducible apply gO); first | with_reducible apply wo_add | with_reducible apply wo_sub | with_reducible apply wo_lt | with_reducible apply wo_gt | with_reducible apply wo_eq | with_reducible apply wo_ne | with_reducible apply wo_le | with_reducible apply wo_ge | with_reducible apply wo_neg | with_reducible apply wo_eqS | with_reducible apply wo_neS | with_reducible apply wo_min | with_reducible apply wo_max | with_reducible apply wo_int | with_reducible apply wo_abs | with_reducible apply wo_tupL | with_reducible apply wo_tupT | with_reducible refine wo_tup (by with_unfolding_all rfl) ?_ | with_reducible refine wo_lstF (by with_unfolding_all rfl) ?_ | with_reducible refine wo_lstT (by with_unfolding_all rfl) ?_ | with_reducible apply wo_fld0 | with_reducible apply wo_fld1 | with_reducible apply wo_fld2) | ((with_reducible apply gS); first | with_reducible apply w_seq | with_reducible apply w_asg | with_reducible apply w_sif | with_reducible apply w_next | with_reducible apply w_ret | with_reducible apply w_par | with_reducible apply w_drop | with_reducible apply w_asgT | with_reducible apply w_retN | with_reducible apply w_brk | with_reducible apply w_cnt | with_reducible apply w_raise | with_reducible apply w_forI) | ((with_reducible apply gI); first | with_reducible apply wI_t | with_reducible apply wI_f | with_reducible apply wI_not) | with_reducible apply w_bl | with_reducible apply thn_nx | with_reducible apply w_int | with_reducible apply w_obj | with_reducible apply thn_rt | with_reducible apply lp_nx | with_reducible apply fnl_int | with_reducible apply fnl_bl | with_reducible apply fnl_non | with_reducible apply fnl_str | with_reducible apply fnl_nx | with_reducible apply thn_bk | with_reducible apply thn_ct | with_reducible apply thn_xc | with_reducible apply lp_rt | with_reducible apply lp_bk | with_reducible apply lp_xc | with_reducible apply w_itL | with_reducible apply w_itT | with_reducible apply w_itK)
local macro_rules | `(tactic| walk_at "p") => `(tactic| repeat walk_at "w")
/-! S3: merged, common, rest, walked. -/
section
variable {C : Store} {l : List Rn} {x : D}
theorem last_nil {l : List Rn} (h : l ≠ []) : ∃ q, l.getLast? = some q := ⟨l.getLast h, List.getLast?_eq_some_getLast h⟩
theorem set_last {l : List Rn} {q r : Rn} (h : l.getLast? = some q) : (rsD l).set (l.length - 1) (rD r) = rsD (l.dropLast ++ [r]) := by
  have hs := last_split h
  generalize l.dropLast = l0 at hs
  subst hs
  simp [rsD]
theorem merged_w (hx : ∀ S : Store, oSortQ false [x] S = some (.lst (rsD (srt l)), S)) (hl : l.length ≤ 10000) {Q : D → Store → Prop} {E : Exc → Store → Prop} (h : Q (.tup (rsD (mgd l))) C) : wR (m_merged [x] C) Q E := by
  rw [e_merged]
  apply w_fin
  unfold b_merged b_merged_0 b_merged_1
  walk_at "p"
  refine wo_of (hx _) ?_
  walk_at "p"
  refine loop_p (pure_C _) (fun j sl S => S = C ++ [some (.lst (rsD (((srt l).take j).foldl mstep [])))] ∧ ∃ s2 s3, sl = [some x, some (.cell C.length), s2, s3]) ⟨rfl, _, _, rfl⟩ ?_ ?_
  · rintro j y sl S hy ⟨rfl, s2, s3, rfl⟩
    obtain ⟨r, hr, rfl⟩ := rs_get hy
    have hf := fold_take (f := mstep) (b := []) hr
    have hjl : j < (srt l).length := (List.getElem?_eq_some_iff.mp hr).1
    rw [srt_len] at hjl
    have hln := fold_len ((srt l).take j) []
    rw [List.length_take, srt_len] at hln
    simp only [List.length_nil] at hln
    generalize ((srt l).take j).foldl mstep [] = f at hln hf ⊢
    have at_n : (C ++ [some (Cell.lst (rsD f))])[C.length]? = some (some (.lst (rsD f))) := by simp
    refine ⟨[some x, some (.cell C.length), some (.int r.1), some (.int r.2)], rfl, ?_⟩
    have app : (mstep f r = f ++ [r]) → wS (sDrop (mAppend (mVar 1) (mAp oTup (mCons (mVar 2) (mCons (mVar 3) mNil)))) ⟨C.length, [some x, some (.cell C.length), some (.int r.1), some (.int r.2)]⟩ (C ++ [some (.lst (rsD f))])) (lpP (fun j sl S => S = C ++ [some (.lst (rsD (((srt l).take j).foldl mstep [])))] ∧ ∃ s2 s3, sl = [some x, some (.cell C.length), s2, s3]) (j + 1) (thn b_merged_2 C.length (fnl C.length Q E))) := fun he => by
      walk_at "p"
      refine w_append ?_
      walk_at "p"
      refine ⟨by simp [vL, at_n], ?_⟩
      walk_at "p"
      refine ⟨C.length, rsD f, by simp only [cL, at_n], Nat.le_refl _, by rw [rsD_len]; omega, ?_⟩
      walk_at "p"
      refine ⟨?_, _, _, rfl⟩
      rw [hf, he]
      simp [rsD, rD]
    unfold b_merged_1b_0
    walk_at "p"
    refine wo_of (ne_cell at_n) ?_
    walk_at "p"
    refine wI_d (fun he => ?_) fun he => ?_
    · exact wI_f (app (by rw [he]; rfl))
    · obtain ⟨q, hq⟩ := last_nil he
      walk_at "p"
      refine wo_last at_n hq ?_
      walk_at "p"
      refine wo_ix rfl (k := 1) rfl rfl ?_
      walk_at "p"
      refine wI_d (fun hc => ?_) fun hc => ?_
      · refine w_setL ?_
        walk_at "p"
        refine wo_last at_n hq ?_
        walk_at "p"
        refine wo_ix rfl (k := 0) rfl rfl ?_
        walk_at "p"
        refine wo_last at_n hq ?_
        walk_at "p"
        refine wo_ix rfl (k := 1) rfl rfl ?_
        walk_at "p"
        refine ⟨-1, C.length, rsD f, f.length - 1, _, rfl, by simp only [cL, at_n], ?_, wr_hi (Nat.le_refl _), ?_⟩
        · have hp : 0 < f.length := List.length_pos_iff.mpr he
          rw [rsD_len]
          unfold ixN
          rw [if_neg (by omega), if_pos (by omega)]
          congr 1
          omega
        · walk_at "p"
          refine ⟨?_, _, _, rfl⟩
          rw [hf]
          have e1 : mstep f r = f.dropLast ++ [(q.1, max q.2 r.2)] := by
            unfold mstep
            rw [hq]
            simp only
            rw [if_pos hc]
          rw [e1, ← set_last (r := (q.1, max q.2 r.2)) hq]
          simp [rD]
      · exact app (by unfold mstep; rw [hq]; simp only; rw [if_neg hc])
  · rintro sl S ⟨rfl, s2, s3, rfl⟩
    walk_at "p"
    unfold b_merged_2
    walk_at "p"
    refine wo_tupC (xs := rsD (mgd l)) ?_ ?_
    · rw [rsD_len, List.take_length]
      simp [mgd]
    · walk_at "p"
      refine fnl_p ?_ (by simpa using h)
      exact cbL_all fun d hd => by obtain ⟨r, _, rfl⟩ := List.mem_map.mp hd; rfl
end
end CL
set_option maxHeartbeats 4000000
namespace CL
open PySem L2 CT
local macro_rules | `(tactic| walk_at "w") => `(tactic| first | ((with_reducible apply gR); first | with_reducible refine w_var rfl ?_ | with_reducible apply w_cons | with_reducible apply w_c | with_reducible apply w_nil | with_reducible apply w_op | with_reducible apply w_ap | with_reducible apply w_call | with_reducible apply w_tst | with_reducible apply w_un | with_reducible apply w_tand | with_reducible apply w_tor | with_reducible apply w_tnot | with_reducible apply w_yes | with_reducible apply w_and | with_reducible apply w_or | with_reducible apply w_not | with_reducible apply w_if | with_reducible apply w_chain | with_reducible apply w_isi | with_reducible apply w_isi2 | with_reducible apply w_prop | with_reducible apply w_meth | with_reducible apply w_dget | with_reducible apply w_dnewF | with_reducible apply w_dnewT | with_reducible apply w_part | with_reducible apply w_noPart | with_reducible apply w_slLF | with_reducible apply w_slA | with_reducible apply w_ok | with_reducible apply w_ofO | with_reducible apply w_lcI | with_reducible apply w_seqI | with_reducible apply w_rng1 | with_reducible apply w_rng2 | with_reducible apply w_enum) | ((with_reducible apply gO); first | with_reducible apply wo_add | with_reducible apply wo_sub | with_reducible apply wo_lt | with_reducible apply wo_gt | with_reducible apply wo_eq | with_reducible apply wo_ne | with_reducible apply wo_le | with_reducible apply wo_ge | with_reducible apply wo_neg | with_reducible apply wo_eqS | with_reducible apply wo_neS | with_reducible apply wo_min | with_reducible apply wo_max | with_reducible apply wo_int | with_reducible apply wo_abs | with_reducible apply wo_tupL | with_reducible apply wo_tupT | with_reducible refine wo_tup (by with_unfolding_all rfl) ?_ | with_reducible refine wo_lstF (by with_unfolding_all rfl) ?_ | with_reducible refine wo_lstT (by with_unfolding_all rfl) ?_ | with_reducible apply wo_fld0 | with_reducible apply wo_fld1 | with_reducible apply wo_fld2) | ((with_reducible apply gS); first | with_reducible apply w_seq | with_reducible apply w_asg | with_reducible apply w_sif | with_reducible apply w_next | with_reducible apply w_ret | with_reducible apply w_par | with_reducible apply w_drop | with_reducible apply w_asgT | with_reducible apply w_retN | with_reducible apply w_brk | with_reducible apply w_cnt | with_reducible apply w_raise | with_reducible apply w_forI) | ((with_reducible apply gI); first | with_reducible apply wI_t | with_reducible apply wI_f | with_reducible apply wI_not) | with_reducible apply w_bl | with_reducible apply thn_nx | with_reducible apply w_int | with_reducible apply w_obj | with_reducible apply thn_rt | with_reducible apply lp_nx | with_reducible apply fnl_int | with_reducible apply fnl_bl | with_reducible apply fnl_non | with_reducible apply fnl_str | with_reducible apply fnl_nx | with_reducible apply thn_bk | with_reducible apply thn_ct | with_reducible apply thn_xc | with_reducible apply lp_rt | with_reducible apply lp_bk | with_reducible apply lp_xc | with_reducible apply w_itL | with_reducible apply w_itT | with_reducible apply w_itK)
local macro_rules | `(tactic| walk_at "p") => `(tactic| repeat walk_at "w")
/-! S3b: runs appended. -/
theorem cb_rs (n : Nat) (l : List Rn) : cbL n (rsD l) = true := cbL_all fun d hd => by obtain ⟨r, _, rfl⟩ := List.mem_map.mp hd; rfl
theorem cb_tup (n : Nat) (l : List Rn) : cb n (.tup (rsD l)) = true := cb_rs n l
theorem appL {S : Store} {fl : Nat} {sl : List (Option D)} {io : Nat} {me : ME} {g : List Rn} {r : Rn} {P : RS → Prop} (h1 : sl[io]? = some (some (.cell S.length))) (hf : fl ≤ S.length) (hg : g.length < 16777216) (hv : wR (me ⟨fl, sl⟩ (S ++ [some (.lst (rsD g))])) (fun d C' => d = rD r ∧ C' = S ++ [some (.lst (rsD g))]) noX) (q : P (.nx sl (S ++ [some (.lst (rsD (g ++ [r])))]))) : wS (sDrop (mAppend (mVar io) me) ⟨fl, sl⟩ (S ++ [some (.lst (rsD g))])) P := by
  have at_n : (S ++ [some (Cell.lst (rsD g))])[S.length]? = some (some (.lst (rsD g))) := by simp
  refine w_drop (w_append (w_var h1 ⟨by simp [vL, at_n], w_conv hv ?_⟩))
  rintro d C' ⟨rfl, rfl⟩
  refine ⟨S.length, rsD g, by simp only [cL, at_n], hf, by rw [rsD_len]; exact hg, ?_⟩
  have e : (S ++ [some (Cell.lst (rsD g))]).set S.length (some (.lst (rsD g ++ [rD r]))) = S ++ [some (.lst (rsD (g ++ [r])))] := by simp [rsD]
  rw [e]
  exact q
end CL
set_option maxHeartbeats 4000000
namespace CL
open PySem L2 CT
theorem is_integer_int (x : Int) (C : Store) : m_is_integer [.int x] C = .ok (.bl true) C := by
  simp [m_is_integer, b_is_integer, ev_def, isi, tyD, isaT]
end CL
set_option maxHeartbeats 4000000
namespace CL
open PySem L2 CT
local macro_rules | `(tactic| walk_at "w") => `(tactic| first | ((with_reducible apply gR); first | with_reducible refine w_var rfl ?_ | with_reducible apply w_cons | with_reducible apply w_c | with_reducible apply w_nil | with_reducible apply w_op | with_reducible apply w_ap | with_reducible apply w_call | with_reducible apply w_tst | with_reducible apply w_un | with_reducible apply w_tand | with_reducible apply w_tor | with_reducible apply w_tnot | with_reducible apply w_yes | with_reducible apply w_and | with_reducible apply w_or | with_reducible apply w_not | with_reducible apply w_if | with_reducible apply w_chain | with_reducible apply w_isi | with_reducible apply w_isi2 | with_reducible apply w_prop | with_reducible apply w_meth | with_reducible apply w_dget | with_reducible apply w_dnewF | with_reducible apply w_dnewT | with_reducible apply w_part | with_reducible apply w_noPart | with_reducible apply w_slLF | with_reducible apply w_slA | with_reducible apply w_ok | with_reducible apply w_ofO | with_reducible apply w_lcI | with_reducible apply w_seqI | with_reducible apply w_rng1 | with_reducible apply w_rng2 | with_reducible apply w_enum) | ((with_reducible apply gO); first | with_reducible apply wo_add | with_reducible apply wo_sub | with_reducible apply wo_lt | with_reducible apply wo_gt | with_reducible apply wo_eq | with_reducible apply wo_ne | with_reducible apply wo_le | with_reducible apply wo_ge | with_reducible apply wo_neg | with_reducible apply wo_eqS | with_reducible apply wo_neS | with_reducible apply wo_min | with_reducible apply wo_max | with_reducible apply wo_int | with_reducible apply wo_abs | with_reducible apply wo_tupL | with_reducible apply wo_tupT | with_reducible refine wo_tup (by with_unfolding_all rfl) ?_ | with_reducible refine wo_lstF (by with_unfolding_all rfl) ?_ | with_reducible refine wo_lstT (by with_unfolding_all rfl) ?_ | with_reducible apply wo_fld0 | with_reducible apply wo_fld1 | with_reducible apply wo_fld2) | ((with_reducible apply gS); first | with_reducible apply w_seq | with_reducible apply w_asg | with_reducible apply w_sif | with_reducible apply w_next | with_reducible apply w_ret | with_reducible apply w_par | with_reducible apply w_drop | with_reducible apply w_asgT | with_reducible apply w_retN | with_reducible apply w_brk | with_reducible apply w_cnt | with_reducible apply w_raise | with_reducible apply w_forI) | ((with_reducible apply gI); first | with_reducible apply wI_t | with_reducible apply wI_f | with_reducible apply wI_not) | with_reducible apply w_bl | with_reducible apply thn_nx | with_reducible apply w_int | with_reducible apply w_obj | with_reducible apply thn_rt | with_reducible apply lp_nx | with_reducible apply fnl_int | with_reducible apply fnl_bl | with_reducible apply fnl_non | with_reducible apply fnl_str | with_reducible apply fnl_nx | with_reducible apply thn_bk | with_reducible apply thn_ct | with_reducible apply thn_xc | with_reducible apply lp_rt | with_reducible apply lp_bk | with_reducible apply lp_xc | with_reducible apply w_itL | with_reducible apply w_itT | with_reducible apply w_itK)
local macro_rules | `(tactic| walk_at "p") => `(tactic| repeat walk_at "w")
local macro_rules | `(tactic| walk_at "w") => `(tactic| first | ((with_reducible apply gR); first | with_reducible refine w_var rfl ?_ | with_reducible apply w_cons | with_reducible apply w_c | with_reducible apply w_nil | with_reducible apply w_op | with_reducible apply w_ap | with_reducible apply w_call | with_reducible apply w_tst | with_reducible apply w_un | with_reducible apply w_tand | with_reducible apply w_tor | with_reducible apply w_tnot | with_reducible apply w_yes | with_reducible apply w_and | with_reducible apply w_or | with_reducible apply w_not | with_reducible apply w_if | with_reducible apply w_chain | with_reducible apply w_isi | with_reducible apply w_isi2 | with_reducible apply w_prop | with_reducible apply w_meth | with_reducible apply w_dget | with_reducible apply w_dnewF | with_reducible apply w_dnewT | with_reducible apply w_part | with_reducible apply w_noPart | with_reducible apply w_slLF | with_reducible apply w_slA | with_reducible apply w_ok | with_reducible apply w_ofO | with_reducible apply w_lcI | with_reducible apply w_seqI | with_reducible apply w_rng1 | with_reducible apply w_rng2 | with_reducible apply w_enum) | ((with_reducible apply gO); first | with_reducible apply wo_add | with_reducible apply wo_sub | with_reducible apply wo_lt | with_reducible apply wo_gt | with_reducible apply wo_eq | with_reducible apply wo_ne | with_reducible apply wo_le | with_reducible apply wo_ge | with_reducible apply wo_neg | with_reducible apply wo_eqS | with_reducible apply wo_neS | with_reducible apply wo_min | with_reducible apply wo_max | with_reducible apply wo_int | with_reducible apply wo_abs | with_reducible apply wo_tupL | with_reducible apply wo_tupT | with_reducible refine wo_tup (by with_unfolding_all rfl) ?_ | with_reducible refine wo_lstF (by with_unfolding_all rfl) ?_ | with_reducible refine wo_lstT (by with_unfolding_all rfl) ?_ | with_reducible apply wo_fld0 | with_reducible apply wo_fld1 | with_reducible apply wo_fld2) | ((with_reducible apply gS); first | with_reducible apply w_seq | with_reducible apply w_asg | with_reducible apply w_sif | with_reducible apply w_next | with_reducible apply w_ret | with_reducible apply w_par | with_reducible apply w_drop | with_reducible apply w_asgT | with_reducible apply w_retN | with_reducible apply w_brk | with_reducible apply w_cnt | with_reducible apply w_raise | with_reducible apply w_forI) | ((with_reducible apply gI); first | with_reducible apply wI_t | with_reducible apply wI_f | with_reducible apply wI_not) | with_reducible apply w_bl | with_reducible apply thn_nx | with_reducible apply w_int | with_reducible apply w_obj | with_reducible apply thn_rt | with_reducible apply lp_nx | with_reducible apply fnl_int | with_reducible apply fnl_bl | with_reducible apply fnl_non | with_reducible apply fnl_str | with_reducible apply fnl_nx | with_reducible apply thn_bk | with_reducible apply thn_ct | with_reducible apply thn_xc | with_reducible apply lp_rt | with_reducible apply lp_bk | with_reducible apply lp_xc | with_reducible apply w_itL | with_reducible apply w_itT | with_reducible apply w_itK)
local macro_rules | `(tactic| walk_at "p") => `(tactic| repeat walk_at "w")
/-! S5: a Want made; without, within, |, &, ^, ==. -/
def wantD (E O : List Rn) : D := .obj 0 [hvD E O]
def sideL (p : Int) (xs : List Int) : List Rn := (xs.filter fun x => decide (x % 2 = p)).map fun x => (x, x)
def hvF (xs : List Int) : D → D
  | .int p => .tup (rsD (mgd (sideL p xs)))
  | _ => .non
def selD (A B : List Rn) : D → D
  | .int i => if i = 0 then .tup (rsD A) else .tup (rsD B)
  | _ => .non
def parD (p : Int) : D → Bool
  | .int x => decide (x % 2 = p)
  | _ => false
def ptD : D → D
  | .int x => .tup [.int x, .int x]
  | _ => .non
theorem side_map (p : Int) (xs : List Int) : ((xs.map D.int).filter (parD p)).map ptD = rsD (sideL p xs) := by
  rw [List.filter_map, List.map_map, rsD, sideL, List.map_map]
  rfl
theorem side_len (p : Int) (xs : List Int) : (sideL p xs).length ≤ xs.length := by
  rw [sideL, List.length_map]
  exact List.length_filter_le _ _
theorem cb_hv (n : Nat) (E O : List Rn) : cb n (hvD E O) = true := by
  show (cb n (.tup (rsD E)) && (cb n (.tup (rsD O)) && true)) = true
  rw [cb_tup, cb_tup]
  rfl
theorem cb_want (n : Nat) (E O : List Rn) : cb n (wantD E O) = true := by
  show (cb n (hvD E O) && true) = true
  rw [cb_hv]
  rfl
section
variable {C : Store} {Q : D → Store → Prop} {E : Exc → Store → Prop} {xs : List Int} {Ev Od Ew Ow : List Rn}
theorem wo_fld0 (h : Q (hvD Ev Od) C) : wO (oFld 0 0 (wantD Ev Od) C) Q := wo_fld rfl h
theorem is_number_w {x : Int} (h1 : -1000000000 ≤ x) (h2 : x ≤ 1000000000) (h : Q (.bl true) C) : wR (m_is_number [.int x] C) Q E := by
  rw [e_is_number]
  apply w_fin
  unfold b_is_number
  walk_at "p"
  refine w_of (is_integer_int x C) ?_
  walk_at "p"
  refine wI_dt h1 ?_
  walk_at "p"
  rw [decide_eq_true h2]
  simpa using h
theorem check_w (hb : ∀ x ∈ xs, -1000000000 ≤ x ∧ x ≤ 1000000000) (h : Q .non C) : wR (m_check_numbers [.tup (xs.map .int)] C) Q E := by
  rw [e_check_numbers]
  apply w_fin
  unfold b_check_numbers
  walk_at "p"
  refine loop_p (pure_P (pure_C _)) (fun j sl S => S = C ∧ ∃ s1 s2, sl = [some (.tup (xs.map .int)), s1, s2]) ⟨rfl, _, _, rfl⟩ ?_ ?_
  · rintro j y sl S hy ⟨rfl, s1, s2, rfl⟩
    obtain ⟨z, hz, rfl⟩ := List.mem_map.mp (List.mem_of_getElem? hy)
    obtain ⟨n, d⟩ := z
    obtain ⟨x, hx, rfl⟩ := List.mem_map.mp (List.of_mem_zip hz).2
    refine ⟨[some (.tup (xs.map .int)), some (.int n), some (.int x)], rfl, ?_⟩
    unfold b_check_numbersb_0
    walk_at "p"
    refine is_number_w (hb x hx).1 (hb x hx).2 ?_
    walk_at "p"
    exact ⟨rfl, _, _, rfl⟩
  · rintro sl S ⟨rfl, s1, s2, rfl⟩
    walk_at "p"
    simpa using h
theorem halves_of_w (hl : xs.length ≤ 10000) (h : Q (hvD (mgd (sideL 0 xs)) (mgd (sideL 1 xs))) C) : wR (m_halves_of [.tup (xs.map .int)] C) Q E := by
  rw [e_halves_of]
  apply w_fin
  unfold b_halves_of
  walk_at "p"
  refine lc_p (pure_C _) (fun _ => true) (hvF xs) (by simp) (fun x hx => ?_) (fun x hx _ => ?_) ?_
  · have hp : ∃ p : Int, x = .int p := by
      simp only [List.mem_cons, List.not_mem_nil, or_false] at hx
      rcases hx with rfl | rfl <;> exact ⟨_, rfl⟩
    obtain ⟨p, rfl⟩ := hp
    refine ⟨_, rfl, fun acc => ⟨?_, fun _ => ?_⟩⟩
    · walk_at "p"
      exact ⟨rfl, rfl⟩
    · walk_at "p"
      refine lc_p (pure_C _) (parD p) ptD (by simp; omega) (fun y hy => ?_) (fun y hy _ => ?_) ?_
      · obtain ⟨z, _, rfl⟩ := List.mem_map.mp hy
        refine ⟨_, rfl, fun acc => ⟨?_, fun _ => ?_⟩⟩
        · walk_at "p"
          refine wo_mod (by decide) ?_
          walk_at "p"
          exact ⟨rfl, rfl⟩
        · walk_at "p"
          exact ⟨rfl, rfl⟩
      · obtain ⟨z, _, rfl⟩ := List.mem_map.mp hy
        rfl
      · rw [side_map]
        walk_at "p"
        refine merged_w (fun S => sortQ_l _ S) (by have := side_len p xs; omega) ?_
        exact ⟨rfl, rfl⟩
  · simp only [List.mem_cons, List.not_mem_nil, or_false] at hx
    rcases hx with rfl | rfl <;> exact cb_tup _ _
  · walk_at "p"
    refine fnl_p (cb_hv _ _ _) ?_
    simpa [hvF, hvD] using h
theorem srtI_len1 : ∀ l : List Int, (srtI l).length ≤ l.length
  | [] => by simp [srtI]
  | y :: r => by
    have h1 := srtI_len1 r
    have h2 : ∀ l : List Int, (insI y l).length ≤ l.length + 1 := by
      intro l
      induction l with
      | nil => simp [insI]
      | cons z l ih =>
        unfold insI
        split
        · simp
        · split
          · simp
          · simp only [List.length_cons]; omega
    have h3 := h2 (srtI r)
    show (insI y (srtI r)).length ≤ _
    simp only [List.length_cons]
    omega
theorem lenSI_ok (h : xs.length < 64) : oLenSI [.tup (xs.map .int)] C = some (.int (srtI xs).length, C) := by
  simp only [oLenSI, vT, Option.bind_some, dInts_map, h, if_true]
theorem init_end {c : Cell} {h : D} {P : RS → Prop} {sl : List (Option D)} {me : ME} (h0 : sl[0]? = some (some (.cell C.length))) (hc : cb 0 h = true) (hv : wR (me ⟨C.length + 1, sl⟩ (C ++ [some (.ins 0 [])])) (fun d S => d = h ∧ S = C ++ [some (.ins 0 [])]) noX) (q : P (.nx sl (C ++ [some (.ins 0 [h])]))) : wS (sFldS 0 0 me (mVar 0) ⟨C.length + 1, sl⟩ (C ++ [some (.ins 0 [])])) P := by
  have e1 := w_eqv hv
  have e2 : mVar 0 ⟨C.length + 1, sl⟩ (C ++ [some (.ins 0 [])]) = .ok (.cell C.length) (C ++ [some (.ins 0 [])]) := by
    unfold mVar
    simp only [h0]
  have w : wr (C.length + 1) C.length (.ins 0 [h]) (C ++ [some (.ins 0 [])]) = some (C ++ [some (.ins 0 [h])]) := by
    unfold wr
    rw [if_neg (fun z => by have : cbC 0 (.ins 0 [h]) = (cb 0 h && true) := rfl; rw [this, hc] at z; cases z.2)]
    simp
  refine w_eq (r' := .nx sl (C ++ [some (.ins 0 [h])])) ?_ q
  unfold sFldS
  rw [e1]
  simp only [bndS_ok]
  rw [e2]
  have gt : (C ++ [some (Cell.ins 0 [])])[C.length]? = some (some (.ins 0 [])) := by simp
  simp only [bndS_ok, gt]
  rw [if_pos ⟨trivial, Nat.zero_le _⟩, if_neg (by simp)]
  simp only [List.nil_append]
  rw [w]
theorem init_kw : m_Want__init [.cell C.length, hvD Ev Od, .tup []] (C ++ [some (.ins 0 [])]) = .ok .non (C ++ [some (.ins 0 [hvD Ev Od])]) := by
  refine w_eqv ?_
  rw [e_Want__init]
  apply w_fin
  unfold b_Want__init b_Want__init_0 b_Want__init_1
  walk_at "p"
  refine check_w (xs := []) (by simp) ?_
  walk_at "p"
  refine wo_of (lenSI_ok (xs := []) (by simp)) ?_
  walk_at "p"
  refine wI_df (by decide) ?_
  walk_at "p"
  unfold b_Want__init_2
  have e : (C ++ [some (Cell.ins 0 [])]).length = C.length + 1 := by simp
  rw [e]
  refine init_end (c := .ins 0 []) (h := hvD Ev Od) rfl (cb_hv _ _ _) ?_ ?_
  · walk_at "p"
    refine wo_of (d := .bl false) (C' := _) rfl ?_
    walk_at "p"
    exact ⟨rfl, rfl⟩
  · walk_at "p"
    exact ⟨rfl, List.take_of_length_le (by simp)⟩
theorem init_pos (hb : ∀ x ∈ xs, -1000000000 ≤ x ∧ x ≤ 1000000000) (hl : xs.length ≤ 40) : m_Want__init [.cell C.length, .non, .tup (xs.map .int)] (C ++ [some (.ins 0 [])]) = .ok .non (C ++ [some (.ins 0 [hvD (mgd (sideL 0 xs)) (mgd (sideL 1 xs))])]) := by
  refine w_eqv ?_
  rw [e_Want__init]
  apply w_fin
  unfold b_Want__init b_Want__init_0 b_Want__init_1
  walk_at "p"
  refine check_w hb ?_
  walk_at "p"
  refine wo_of (lenSI_ok (by omega)) ?_
  walk_at "p"
  have := srtI_len1 xs
  refine wI_df (by omega) ?_
  walk_at "p"
  unfold b_Want__init_2
  have e : (C ++ [some (Cell.ins 0 [])]).length = C.length + 1 := by simp
  rw [e]
  refine init_end (c := .ins 0 []) (h := hvD (mgd (sideL 0 xs)) (mgd (sideL 1 xs))) rfl (cb_hv _ _ _) ?_ ?_
  · walk_at "p"
    refine wo_of (d := .bl true) (C' := _) rfl ?_
    walk_at "p"
    refine halves_of_w (by omega) ?_
    exact ⟨rfl, rfl⟩
  · walk_at "p"
    exact ⟨rfl, List.take_of_length_le (by simp)⟩
theorem mk_tail {F : Fr} {g : Vg} {n : Nat} {m : MF} {ma : MA} {ds : List D} {S : Store} (ha : ma F C = .ok ds S) (hi : vaM g n m (.cell S.length :: ds) (S ++ [some (.ins 0 [])]) = .ok .non (S ++ [some (.ins 0 [hvD Ev Od])])) : mMake false 0 1 (vaM g n m) [] ma F C = .ok (wantD Ev Od) S := by
  unfold mMake
  rw [ha]
  simp only [bnd_ok]
  rw [List.append_nil, hi]
  have gt : ∀ x : Option Cell, (S ++ [x])[S.length]? = some x := fun x => by simp
  simp only [gt]
  have c : cbL S.length [hvD Ev Od] = true := by
    show (cb S.length (hvD Ev Od) && true) = true
    rw [cb_hv]
    rfl
  simp [c, wantD]
theorem mk_kw {F : Fr} {me : ME} (h : wR (me F C) (fun d C1 => ∃ Ev Od, d = hvD Ev Od ∧ Q (wantD Ev Od) C1) noX) : wR (mMake false 0 1 (vaM .kw 1 m_Want__init) [] (mCons me mNil) F C) Q E := by
  obtain ⟨d, S, e, Ev, Od, rfl, q⟩ := w_out h
  refine w_of (mk_tail (Ev := Ev) (Od := Od) (S := S) (ds := [hvD Ev Od]) ?_ ?_) q
  · refine w_eqv ?_
    refine w_cons (w_of e (w_nil ⟨rfl, rfl⟩))
  · show m_Want__init [.cell S.length, hvD Ev Od, .tup []] _ = _
    exact init_kw
theorem mk_pos {F : Fr} {ma : MA} (hb : ∀ x ∈ xs, -1000000000 ≤ x ∧ x ≤ 1000000000) (hl : xs.length ≤ 40) {n : Nat} (hn : xs.length = n) (ha : ma F C = .ok (xs.map .int) C) : mMake false 0 1 (vaM .pos n m_Want__init) [] ma F C = .ok (wantD (mgd (sideL 0 xs)) (mgd (sideL 1 xs))) C := by
  refine mk_tail ha ?_
  unfold vaM
  rw [if_pos (by simp [hn])]
  exact init_pos hb hl
/-- a comprehension over (0, 1) that makes halves -/
theorem halves_lc {F : Fr} {k : Nat} {te : ME} {A B : List Rn} (hk : k < F.sl.length) (h0 : ∀ acc, te ⟨C.length, (F.sl.set k none).set k (some (.int 0))⟩ (accS C acc) = .ok (.tup (rsD A)) (accS C acc)) (h1 : ∀ acc, te ⟨C.length, (F.sl.set k none).set k (some (.int 1))⟩ (accS C acc) = .ok (.tup (rsD B)) (accS C acc)) (q : Q (hvD A B) C) :
    wR (mAp oTupOf (mCons (mLc false (mSeq (mAp oTup (mCons (mC (.int 0)) (mCons (mC (.int 1)) mNil)))) (Tgt.nm k).M tYesM te [k]) mNil) F C) Q E := by
  walk_at "p"
  refine lc_p (pure_C _) (fun _ => true) (selD A B) (by simp) (fun x hx => ?_) (fun x hx _ => ?_) ?_
  · simp only [List.mem_cons, List.not_mem_nil, or_false] at hx
    rcases hx with rfl | rfl
    · exact ⟨_, rfl, fun acc => ⟨w_yes ⟨rfl, rfl⟩, fun _ => w_of (h0 acc) ⟨rfl, rfl⟩⟩⟩
    · exact ⟨_, rfl, fun acc => ⟨w_yes ⟨rfl, rfl⟩, fun _ => w_of (h1 acc) ⟨rfl, rfl⟩⟩⟩
  · simp only [List.mem_cons, List.not_mem_nil, or_false] at hx
    rcases hx with rfl | rfl <;> exact cb_tup _ _
  · walk_at "p"
    simpa [hvD, selD] using q
end
end CL
set_option maxHeartbeats 4000000
namespace CL
open PySem L2 CT
local macro_rules | `(tactic| walk_at "w") => `(tactic| first | ((with_reducible apply gR); first | with_reducible refine w_var rfl ?_ | with_reducible apply w_cons | with_reducible apply w_c | with_reducible apply w_nil | with_reducible apply w_op | with_reducible apply w_ap | with_reducible apply w_call | with_reducible apply w_tst | with_reducible apply w_un | with_reducible apply w_tand | with_reducible apply w_tor | with_reducible apply w_tnot | with_reducible apply w_yes | with_reducible apply w_and | with_reducible apply w_or | with_reducible apply w_not | with_reducible apply w_if | with_reducible apply w_chain | with_reducible apply w_isi | with_reducible apply w_isi2 | with_reducible apply w_prop | with_reducible apply w_meth | with_reducible apply w_dget | with_reducible apply w_dnewF | with_reducible apply w_dnewT | with_reducible apply w_part | with_reducible apply w_noPart | with_reducible apply w_slLF | with_reducible apply w_slA | with_reducible apply w_ok | with_reducible apply w_ofO | with_reducible apply w_lcI | with_reducible apply w_seqI | with_reducible apply w_rng1 | with_reducible apply w_rng2 | with_reducible apply w_enum) | ((with_reducible apply gO); first | with_reducible apply wo_add | with_reducible apply wo_sub | with_reducible apply wo_lt | with_reducible apply wo_gt | with_reducible apply wo_eq | with_reducible apply wo_ne | with_reducible apply wo_le | with_reducible apply wo_ge | with_reducible apply wo_neg | with_reducible apply wo_eqS | with_reducible apply wo_neS | with_reducible apply wo_min | with_reducible apply wo_max | with_reducible apply wo_int | with_reducible apply wo_abs | with_reducible apply wo_tupL | with_reducible apply wo_tupT | with_reducible refine wo_tup (by with_unfolding_all rfl) ?_ | with_reducible refine wo_lstF (by with_unfolding_all rfl) ?_ | with_reducible refine wo_lstT (by with_unfolding_all rfl) ?_ | with_reducible apply wo_fld0 | with_reducible apply wo_fld1 | with_reducible apply wo_fld2) | ((with_reducible apply gS); first | with_reducible apply w_seq | with_reducible apply w_asg | with_reducible apply w_sif | with_reducible apply w_next | with_reducible apply w_ret | with_reducible apply w_par | with_reducible apply w_drop | with_reducible apply w_asgT | with_reducible apply w_retN | with_reducible apply w_brk | with_reducible apply w_cnt | with_reducible apply w_raise | with_reducible apply w_forI) | ((with_reducible apply gI); first | with_reducible apply wI_t | with_reducible apply wI_f | with_reducible apply wI_not) | with_reducible apply w_bl | with_reducible apply thn_nx | with_reducible apply w_int | with_reducible apply w_obj | with_reducible apply thn_rt | with_reducible apply lp_nx | with_reducible apply fnl_int | with_reducible apply fnl_bl | with_reducible apply fnl_non | with_reducible apply fnl_str | with_reducible apply fnl_nx | with_reducible apply thn_bk | with_reducible apply thn_ct | with_reducible apply thn_xc | with_reducible apply lp_rt | with_reducible apply lp_bk | with_reducible apply lp_xc | with_reducible apply w_itL | with_reducible apply w_itT | with_reducible apply w_itK)
local macro_rules | `(tactic| walk_at "p") => `(tactic| repeat walk_at "w")
local macro_rules | `(tactic| walk_at "w") => `(tactic| first | ((with_reducible apply gR); first | with_reducible refine w_var rfl ?_ | with_reducible apply w_cons | with_reducible apply w_c | with_reducible apply w_nil | with_reducible apply w_op | with_reducible apply w_ap | with_reducible apply w_call | with_reducible apply w_tst | with_reducible apply w_un | with_reducible apply w_tand | with_reducible apply w_tor | with_reducible apply w_tnot | with_reducible apply w_yes | with_reducible apply w_and | with_reducible apply w_or | with_reducible apply w_not | with_reducible apply w_if | with_reducible apply w_chain | with_reducible apply w_isi | with_reducible apply w_isi2 | with_reducible apply w_prop | with_reducible apply w_meth | with_reducible apply w_dget | with_reducible apply w_dnewF | with_reducible apply w_dnewT | with_reducible apply w_part | with_reducible apply w_noPart | with_reducible apply w_slLF | with_reducible apply w_slA | with_reducible apply w_ok | with_reducible apply w_ofO | with_reducible apply w_lcI | with_reducible apply w_seqI | with_reducible apply w_rng1 | with_reducible apply w_rng2 | with_reducible apply w_enum) | ((with_reducible apply gO); first | with_reducible apply wo_add | with_reducible apply wo_sub | with_reducible apply wo_lt | with_reducible apply wo_gt | with_reducible apply wo_eq | with_reducible apply wo_ne | with_reducible apply wo_le | with_reducible apply wo_ge | with_reducible apply wo_neg | with_reducible apply wo_eqS | with_reducible apply wo_neS | with_reducible apply wo_min | with_reducible apply wo_max | with_reducible apply wo_int | with_reducible apply wo_abs | with_reducible apply wo_tupL | with_reducible apply wo_tupT | with_reducible refine wo_tup (by with_unfolding_all rfl) ?_ | with_reducible refine wo_lstF (by with_unfolding_all rfl) ?_ | with_reducible refine wo_lstT (by with_unfolding_all rfl) ?_ | with_reducible apply wo_fld0 | with_reducible apply wo_fld1 | with_reducible apply wo_fld2) | ((with_reducible apply gS); first | with_reducible apply w_seq | with_reducible apply w_asg | with_reducible apply w_sif | with_reducible apply w_next | with_reducible apply w_ret | with_reducible apply w_par | with_reducible apply w_drop | with_reducible apply w_asgT | with_reducible apply w_retN | with_reducible apply w_brk | with_reducible apply w_cnt | with_reducible apply w_raise | with_reducible apply w_forI) | ((with_reducible apply gI); first | with_reducible apply wI_t | with_reducible apply wI_f | with_reducible apply wI_not) | with_reducible apply w_bl | with_reducible apply thn_nx | with_reducible apply w_int | with_reducible apply w_obj | with_reducible apply thn_rt | with_reducible apply lp_nx | with_reducible apply fnl_int | with_reducible apply fnl_bl | with_reducible apply fnl_non | with_reducible apply fnl_str | with_reducible apply fnl_nx | with_reducible apply thn_bk | with_reducible apply thn_ct | with_reducible apply thn_xc | with_reducible apply lp_rt | with_reducible apply lp_bk | with_reducible apply lp_xc | with_reducible apply w_itL | with_reducible apply w_itT | with_reducible apply w_itK)
local macro_rules | `(tactic| walk_at "p") => `(tactic| repeat walk_at "w")
/-! S6a: without, within, |, &, ^, ==, walked. -/
section
variable {C : Store} {Q : D → Store → Prop} {X : Exc → Store → Prop} {E O E' O' : List Rn}
theorem w_binO {c : Nat} {m : MF} {mo me : ME} {F : Fr} (h : wR (mo F C) (fun x C1 => wR (me F C1) (fun y C2 => (isC c x C2 && isC c y C2) = true ∧ wR (m [x, y] C2) Q X) X) X) : wR (mBinO c m mo me F C) Q X := by
  unfold mBinO
  refine w_bnd (w_mono h (fun x C1 g => w_bnd (w_mono g (fun y C2 g => ?_) fun _ _ z => z)) fun _ _ z => z)
  rw [if_pos g.1]
  exact g.2
theorem w_eqO {neg : Bool} {c : Nat} {m : MF} {mo me : ME} {F : Fr} (h : wR (mo F C) (fun x C1 => wR (me F C1) (fun y C2 => (isC c x C2 && okT c (tyD y C2)) = true ∧ wR (m [x, y] C2) (fun z C3 => ∃ t, z = .bl t ∧ Q (.bl (if neg = true then !t else t)) C3) X) X) X) : wR (mEqO neg c m mo me F C) Q X := by
  unfold mEqO
  refine w_bnd (w_mono h (fun x C1 g => w_bnd (w_mono g (fun y C2 g => ?_) fun _ _ z => z)) fun _ _ z => z)
  rw [if_pos g.1]
  unfold negB
  refine w_bnd (w_mono g.2 (fun z C3 g => ?_) fun _ _ z => z)
  obtain ⟨t, rfl, q⟩ := g
  exact w_ok q
theorem cat_t (A B : List Rn) (h : A.length + B.length ≤ 10000) : oCatT (.tup (rsD A)) (.tup (rsD B)) C = some (.tup (rsD (A ++ B)), C) := by
  have hz : szN ((rsD A).length + (rsD B).length) = true := by
    rw [rsD_len, rsD_len]
    simp [szN]
    omega
  simp only [oCatT, vT, hz, if_true]
  cases A with
  | nil => rfl
  | cons a A =>
    cases B with
    | nil => simp [rsD]
    | cons b B => simp [rsD]
theorem or_w (h1 : E.length + E'.length ≤ 10000) (h2 : O.length + O'.length ≤ 10000) (h : Q (wantD (mgd (E ++ E')) (mgd (O ++ O'))) C) : wR (m_Want__or [wantD E O, wantD E' O'] C) Q X := by
  rw [e_Want__or]
  apply w_fin
  unfold b_Want__or b_Want__or_0 b_Want__or_1
  walk_at "p"
  refine ⟨true, rfl, ?_⟩
  walk_at "p"
  refine mk_kw (halves_lc (A := mgd (E ++ E')) (B := mgd (O ++ O')) (k := 2) (by simp) (fun acc => w_eqv ?_) (fun acc => w_eqv ?_) ⟨_, _, rfl, fnl_p (cb_want _ _ _) (by simpa using h)⟩)
  · walk_at "p"
    refine wo_ix rfl (k := 0) rfl rfl ?_
    walk_at "p"
    refine wo_ix rfl (k := 0) rfl rfl ?_
    refine wo_of (cat_t _ _ h1) ?_
    walk_at "p"
    exact merged_w (fun S => sortQ_t _ S) (by simpa using h1) ⟨rfl, rfl⟩
  · walk_at "p"
    refine wo_ix rfl (k := 1) rfl rfl ?_
    walk_at "p"
    refine wo_ix rfl (k := 1) rfl rfl ?_
    refine wo_of (cat_t _ _ h2) ?_
    walk_at "p"
    exact merged_w (fun S => sortQ_t _ S) (by simpa using h2) ⟨rfl, rfl⟩
end
end CL
set_option maxHeartbeats 4000000
namespace CL
open PySem L2 CT
local macro_rules | `(tactic| walk_at "w") => `(tactic| first | ((with_reducible apply gR); first | with_reducible refine w_var rfl ?_ | with_reducible apply w_cons | with_reducible apply w_c | with_reducible apply w_nil | with_reducible apply w_op | with_reducible apply w_ap | with_reducible apply w_call | with_reducible apply w_tst | with_reducible apply w_un | with_reducible apply w_tand | with_reducible apply w_tor | with_reducible apply w_tnot | with_reducible apply w_yes | with_reducible apply w_and | with_reducible apply w_or | with_reducible apply w_not | with_reducible apply w_if | with_reducible apply w_chain | with_reducible apply w_isi | with_reducible apply w_isi2 | with_reducible apply w_prop | with_reducible apply w_meth | with_reducible apply w_dget | with_reducible apply w_dnewF | with_reducible apply w_dnewT | with_reducible apply w_part | with_reducible apply w_noPart | with_reducible apply w_slLF | with_reducible apply w_slA | with_reducible apply w_ok | with_reducible apply w_ofO | with_reducible apply w_lcI | with_reducible apply w_seqI | with_reducible apply w_rng1 | with_reducible apply w_rng2 | with_reducible apply w_enum) | ((with_reducible apply gO); first | with_reducible apply wo_add | with_reducible apply wo_sub | with_reducible apply wo_lt | with_reducible apply wo_gt | with_reducible apply wo_eq | with_reducible apply wo_ne | with_reducible apply wo_le | with_reducible apply wo_ge | with_reducible apply wo_neg | with_reducible apply wo_eqS | with_reducible apply wo_neS | with_reducible apply wo_min | with_reducible apply wo_max | with_reducible apply wo_int | with_reducible apply wo_abs | with_reducible apply wo_tupL | with_reducible apply wo_tupT | with_reducible refine wo_tup (by with_unfolding_all rfl) ?_ | with_reducible refine wo_lstF (by with_unfolding_all rfl) ?_ | with_reducible refine wo_lstT (by with_unfolding_all rfl) ?_ | with_reducible apply wo_fld0 | with_reducible apply wo_fld1 | with_reducible apply wo_fld2) | ((with_reducible apply gS); first | with_reducible apply w_seq | with_reducible apply w_asg | with_reducible apply w_sif | with_reducible apply w_next | with_reducible apply w_ret | with_reducible apply w_par | with_reducible apply w_drop | with_reducible apply w_asgT | with_reducible apply w_retN | with_reducible apply w_brk | with_reducible apply w_cnt | with_reducible apply w_raise | with_reducible apply w_forI) | ((with_reducible apply gI); first | with_reducible apply wI_t | with_reducible apply wI_f | with_reducible apply wI_not) | with_reducible apply w_bl | with_reducible apply thn_nx | with_reducible apply w_int | with_reducible apply w_obj | with_reducible apply thn_rt | with_reducible apply lp_nx | with_reducible apply fnl_int | with_reducible apply fnl_bl | with_reducible apply fnl_non | with_reducible apply fnl_str | with_reducible apply fnl_nx | with_reducible apply thn_bk | with_reducible apply thn_ct | with_reducible apply thn_xc | with_reducible apply lp_rt | with_reducible apply lp_bk | with_reducible apply lp_xc | with_reducible apply w_itL | with_reducible apply w_itT | with_reducible apply w_itK)
local macro_rules | `(tactic| walk_at "p") => `(tactic| repeat walk_at "w")
local macro_rules | `(tactic| walk_at "w") => `(tactic| first | ((with_reducible apply gR); first | with_reducible refine w_var rfl ?_ | with_reducible apply w_cons | with_reducible apply w_c | with_reducible apply w_nil | with_reducible apply w_op | with_reducible apply w_ap | with_reducible apply w_call | with_reducible apply w_tst | with_reducible apply w_un | with_reducible apply w_tand | with_reducible apply w_tor | with_reducible apply w_tnot | with_reducible apply w_yes | with_reducible apply w_and | with_reducible apply w_or | with_reducible apply w_not | with_reducible apply w_if | with_reducible apply w_chain | with_reducible apply w_isi | with_reducible apply w_isi2 | with_reducible apply w_prop | with_reducible apply w_meth | with_reducible apply w_dget | with_reducible apply w_dnewF | with_reducible apply w_dnewT | with_reducible apply w_part | with_reducible apply w_noPart | with_reducible apply w_slLF | with_reducible apply w_slA | with_reducible apply w_ok | with_reducible apply w_ofO | with_reducible apply w_lcI | with_reducible apply w_seqI | with_reducible apply w_rng1 | with_reducible apply w_rng2 | with_reducible apply w_enum) | ((with_reducible apply gO); first | with_reducible apply wo_add | with_reducible apply wo_sub | with_reducible apply wo_lt | with_reducible apply wo_gt | with_reducible apply wo_eq | with_reducible apply wo_ne | with_reducible apply wo_le | with_reducible apply wo_ge | with_reducible apply wo_neg | with_reducible apply wo_eqS | with_reducible apply wo_neS | with_reducible apply wo_min | with_reducible apply wo_max | with_reducible apply wo_int | with_reducible apply wo_abs | with_reducible apply wo_tupL | with_reducible apply wo_tupT | with_reducible refine wo_tup (by with_unfolding_all rfl) ?_ | with_reducible refine wo_lstF (by with_unfolding_all rfl) ?_ | with_reducible refine wo_lstT (by with_unfolding_all rfl) ?_ | with_reducible apply wo_fld0 | with_reducible apply wo_fld1 | with_reducible apply wo_fld2) | ((with_reducible apply gS); first | with_reducible apply w_seq | with_reducible apply w_asg | with_reducible apply w_sif | with_reducible apply w_next | with_reducible apply w_ret | with_reducible apply w_par | with_reducible apply w_drop | with_reducible apply w_asgT | with_reducible apply w_retN | with_reducible apply w_brk | with_reducible apply w_cnt | with_reducible apply w_raise | with_reducible apply w_forI) | ((with_reducible apply gI); first | with_reducible apply wI_t | with_reducible apply wI_f | with_reducible apply wI_not) | with_reducible apply w_bl | with_reducible apply thn_nx | with_reducible apply w_int | with_reducible apply w_obj | with_reducible apply thn_rt | with_reducible apply lp_nx | with_reducible apply fnl_int | with_reducible apply fnl_bl | with_reducible apply fnl_non | with_reducible apply fnl_str | with_reducible apply fnl_nx | with_reducible apply thn_bk | with_reducible apply thn_ct | with_reducible apply thn_xc | with_reducible apply lp_rt | with_reducible apply lp_bk | with_reducible apply lp_xc | with_reducible apply w_itL | with_reducible apply w_itT | with_reducible apply w_itK)
local macro_rules | `(tactic| walk_at "p") => `(tactic| repeat walk_at "w")
/-! S7: the law's own runs; the text of a Want. -/
def lawR (p : Int) (xs : List Int) : List Rn := (srtI xs).foldl (lstep p) []
def wtD (xs : List Int) : D := wantD (lawR 0 xs) (lawR 1 xs)
theorem lawR_ok (p : Int) (xs : List Int) : Canon p (lawR p xs) ∧ ∀ x, x % 2 = p → (mR (lawR p xs) x ↔ x ∈ xs) := by
  obtain ⟨h1, h2⟩ := lfold_ok (p := p) (l := srtI xs) (canon_nil p) srtI_up (by simp)
  refine ⟨h1, fun x hx => ?_⟩
  rw [lawR, h2 x hx, srtI_mem]
  exact ⟨fun z => z.elim (fun z => absurd z (mR_nil _)) id, .inr⟩
theorem lawR_of {p : Int} {xs : List Int} {rs : List Rn} (h : Canon p rs) (g : ∀ x, x % 2 = p → (mR rs x ↔ x ∈ xs)) : rs = lawR p xs :=
  canon_inj h (lawR_ok p xs).1 fun x hx => by rw [g x hx, (lawR_ok p xs).2 x hx]
theorem lawR_len (p : Int) (xs : List Int) : (lawR p xs).length ≤ xs.length := by
  have h1 := lfold_len p (srtI xs) []
  have h2 := srtI_len1 xs
  simp only [List.length_nil] at h1
  unfold lawR
  omega
theorem lawR_same {p : Int} {xs ys : List Int} (h : ∀ x, x ∈ xs ↔ x ∈ ys) : lawR p xs = lawR p ys := lawR_of (lawR_ok p xs).1 fun x hx => by rw [(lawR_ok p xs).2 x hx, h x]
theorem wtD_same {xs ys : List Int} (h : ∀ x, x ∈ xs ↔ x ∈ ys) : wtD xs = wtD ys := by
  unfold wtD
  rw [lawR_same h, lawR_same h]
theorem lawR_end {p : Int} {xs : List Int} {r : Rn} (h : r ∈ lawR p xs) : r.1 ∈ xs ∧ r.2 ∈ xs := by
  obtain ⟨a, b, c⟩ := (lawR_ok p xs).1.ok r h
  exact ⟨((lawR_ok p xs).2 r.1 b).mp ⟨r, h, Int.le_refl _, a⟩, ((lawR_ok p xs).2 r.2 c).mp ⟨r, h, a, Int.le_refl _⟩⟩
theorem lawR_side (p : Int) (xs : List Int) : mgd (sideL p xs) = lawR p xs := by
  obtain ⟨h1, h2⟩ := mgd_ok (p := p) (l := sideL p xs) fun r hr => by
    obtain ⟨x, hx, rfl⟩ := List.mem_map.mp hr
    have := of_decide_eq_true (List.mem_filter.mp hx).2
    exact ⟨Int.le_refl _, this, this⟩
  refine lawR_of h1 fun x hx => ?_
  rw [h2 x hx]
  constructor
  · rintro ⟨r, hr, z1, z2⟩
    obtain ⟨y, hy, rfl⟩ := List.mem_map.mp hr
    have : x = y := by simp only at z1 z2; omega
    rw [this]
    exact (List.mem_filter.mp hy).1
  · intro h
    exact ⟨(x, x), List.mem_map.mpr ⟨x, List.mem_filter.mpr ⟨h, decide_eq_true hx⟩, rfl⟩, Int.le_refl _, Int.le_refl _⟩
theorem lawR_iff (xs ys : List Int) : (lawR 0 xs = lawR 0 ys ∧ lawR 1 xs = lawR 1 ys) ↔ ∀ x, x ∈ xs ↔ x ∈ ys := by
  constructor
  · rintro ⟨h0, h1⟩ x
    rcases Int.emod_two_eq x with hx | hx
    · rw [← (lawR_ok 0 xs).2 x hx, ← (lawR_ok 0 ys).2 x hx, h0]
    · rw [← (lawR_ok 1 xs).2 x hx, ← (lawR_ok 1 ys).2 x hx, h1]
  · intro h
    exact ⟨lawR_same h, lawR_same h⟩
end CL
set_option maxHeartbeats 4000000
/-! S12: runs moved, mirrored, counted, spread out; in plain Lean. -/
namespace CT
/-! ### few runs are left -/
theorem cut_beyond {o : Rn} : ∀ {f : List Rn}, (∀ r ∈ f, o.2 < r.1) → (∀ r ∈ f, r.1 ≤ r.2) → o.1 ≤ o.2 → (cutR f o).length = f.length
  | [], _, _, _ => rfl
  | r :: f, h, g, ho => by
    have ih := cut_beyond (o := o) (f := f) (fun s hs => h s (List.mem_cons_of_mem _ hs)) (fun s hs => g s (List.mem_cons_of_mem _ hs)) ho
    have h1 := h r (List.mem_cons_self ..)
    have h2 := g r (List.mem_cons_self ..)
    show (cutOne o r ++ cutR f o).length = _
    rw [List.length_append, ih, List.length_cons]
    unfold cutOne
    rw [if_neg (by omega), if_pos (by omega)]
    simp
    omega
theorem cutR_len {p : Int} {o : Rn} (ho : RunOk p o) : ∀ {f : List Rn}, Canon p f → (cutR f o).length ≤ f.length + 1
  | [], _ => by simp [cutR]
  | r :: f, h => by
    have ih := cutR_len ho h.tail
    have ⟨a1, b1, c1⟩ := h.ok r (List.mem_cons_self ..)
    have o1 := ho.1
    show (cutOne o r ++ cutR f o).length ≤ _
    rw [List.length_append, List.length_cons]
    by_cases hc : o.2 < r.2
    · have hb : (cutR f o).length = f.length := cut_beyond (fun s hs => by
        have := (List.pairwise_cons.mp h.sep).1 s hs
        unfold Sep at this
        omega) (fun s hs => (h.ok s (List.mem_cons_of_mem _ hs)).1) o1
      have := cutOne_len o r
      omega
    · have : (cutOne o r).length ≤ 1 := by
        unfold cutOne
        rw [if_neg hc, List.append_nil]
        split <;> simp
      omega
theorem rest_len {p : Int} : ∀ {os f : List Rn}, Canon p f → (∀ o ∈ os, RunOk p o) → (os.foldl cutR f).length ≤ f.length + os.length
  | [], f, _, _ => by simp
  | o :: os, f, h, ho => by
    have h1 := cutR_len (ho o (List.mem_cons_self ..)) h
    have h2 := rest_len (os := os) (cut_ok h (ho o (List.mem_cons_self ..))).1 fun q hq => ho q (List.mem_cons_of_mem _ hq)
    rw [List.foldl_cons, List.length_cons]
    omega
/-! ### moved, mirrored -/
def movR (k : Int) (rs : List Rn) : List Rn := rs.map fun r => (r.1 + k, r.2 + k)
def mirR (m : Int) (rs : List Rn) : List Rn := rs.reverse.map fun r => (m - r.2, m - r.1)
theorem mov_ok {p q k : Int} {rs : List Rn} (h : Canon p rs) (hq : (p + k) % 2 = q) : Canon q (movR k rs) := by
  refine ⟨fun s hs => ?_, ?_⟩
  · obtain ⟨r, hr, rfl⟩ := List.mem_map.mp hs
    obtain ⟨a, b, c⟩ := h.ok r hr
    refine ⟨?_, ?_, ?_⟩ <;> simp only <;> omega
  · unfold movR
    rw [List.pairwise_map]
    exact h.sep.imp fun {r s} e => by unfold Sep at e ⊢; simp only; omega
theorem mov_mem {k x : Int} {rs : List Rn} : mR (movR k rs) x ↔ mR rs (x - k) := by
  constructor
  · rintro ⟨s, hs, h1, h2⟩
    obtain ⟨r, hr, rfl⟩ := List.mem_map.mp hs
    exact ⟨r, hr, by simp only at h1; omega, by simp only at h2; omega⟩
  · rintro ⟨r, hr, h1, h2⟩
    exact ⟨_, List.mem_map.mpr ⟨r, hr, rfl⟩, by simp only; omega, by simp only; omega⟩
theorem mir_ok {p q m : Int} {rs : List Rn} (h : Canon p rs) (hq : (m - p) % 2 = q) : Canon q (mirR m rs) := by
  refine ⟨fun s hs => ?_, ?_⟩
  · obtain ⟨r, hr, rfl⟩ := List.mem_map.mp hs
    obtain ⟨a, b, c⟩ := h.ok r (List.mem_reverse.mp hr)
    refine ⟨?_, ?_, ?_⟩ <;> simp only <;> omega
  · unfold mirR
    rw [List.pairwise_map, List.pairwise_reverse]
    exact h.sep.imp fun {r s} e => by unfold Sep at e ⊢; simp only; omega
theorem mir_mem {m x : Int} {rs : List Rn} : mR (mirR m rs) x ↔ mR rs (m - x) := by
  constructor
  · rintro ⟨s, hs, h1, h2⟩
    obtain ⟨r, hr, rfl⟩ := List.mem_map.mp hs
    exact ⟨r, List.mem_reverse.mp hr, by simp only at h2; omega, by simp only at h1; omega⟩
  · rintro ⟨r, hr, h1, h2⟩
    exact ⟨_, List.mem_map.mpr ⟨r, List.mem_reverse.mpr hr, rfl⟩, by simp only; omega, by simp only; omega⟩
theorem mov_len (k : Int) (rs : List Rn) : (movR k rs).length = rs.length := by simp [movR]
/-! ### spread out -/
def exR1 (r : Rn) : List Int := rgI2 r.1 (r.2 + 1)
def exR (rs : List Rn) : List Int := rs.flatMap exR1
theorem rgI2_mem {a b x : Int} : x ∈ rgI2 a b ↔ a ≤ x ∧ x < b ∧ (x - a) % 2 = 0 := by
  unfold rgI2 rn2
  rw [List.mem_map]
  constructor
  · rintro ⟨i, hi, rfl⟩
    have := List.mem_range.mp hi
    omega
  · rintro ⟨h1, h2, h3⟩
    exact ⟨((x - a) / 2).toNat, List.mem_range.mpr (by omega), by omega⟩
theorem rgI2_up (a b : Int) : (rgI2 a b).Pairwise (· < ·) := by
  unfold rgI2
  rw [List.pairwise_map]
  exact List.pairwise_lt_range.imp fun h => by omega
theorem rgI2_len (a b : Int) : (rgI2 a b).length = rn2 a b := by simp [rgI2]
theorem exR1_mem {p : Int} {r : Rn} (h : RunOk p r) {x : Int} : x ∈ exR1 r ↔ x % 2 = p ∧ r.1 ≤ x ∧ x ≤ r.2 := by
  obtain ⟨a, b, c⟩ := h
  unfold exR1
  rw [rgI2_mem]
  omega
theorem exR_mem {p : Int} {rs : List Rn} (h : Canon p rs) {x : Int} : x ∈ exR rs ↔ x % 2 = p ∧ mR rs x := by
  unfold exR
  rw [List.mem_flatMap]
  constructor
  · rintro ⟨r, hr, hx⟩
    obtain ⟨a, b⟩ := (exR1_mem (h.ok r hr)).mp hx
    exact ⟨a, r, hr, b⟩
  · rintro ⟨a, r, hr, b⟩
    exact ⟨r, hr, (exR1_mem (h.ok r hr)).mpr ⟨a, b⟩⟩
theorem exR_up {p : Int} {rs : List Rn} (h : Canon p rs) : (exR rs).Pairwise (· < ·) := by
  unfold exR
  rw [List.pairwise_flatMap]
  refine ⟨fun r _ => rgI2_up _ _, h.sep.imp_of_mem fun {r s} hr hs e x hx y hy => ?_⟩
  have h1 := (exR1_mem (h.ok r hr)).mp hx
  have h2 := (exR1_mem (h.ok s hs)).mp hy
  unfold Sep at e
  omega
def cntR (rs : List Rn) : Int := (rs.map fun r => (r.2 - r.1) / 2 + 1).sum
theorem exR_len {p : Int} : ∀ {rs : List Rn}, Canon p rs → ((exR rs).length : Int) = cntR rs
  | [], _ => rfl
  | r :: rs, h => by
    have ih := exR_len h.tail
    obtain ⟨a, b, c⟩ := h.ok r (List.mem_cons_self ..)
    have e : exR (r :: rs) = exR1 r ++ exR rs := rfl
    have e2 : cntR (r :: rs) = (r.2 - r.1) / 2 + 1 + cntR rs := by simp [cntR]
    rw [e, e2, List.length_append, ← ih]
    unfold exR1
    rw [rgI2_len]
    unfold rn2
    omega
theorem exR_app (a b : List Rn) : exR (a ++ b) = exR a ++ exR b := by simp [exR]
/-! ### ascending lists parted by parity -/
def par (p : Int) (x : Int) : Bool := decide (x % 2 = p)
theorem filt_up {l : List Int} (h : l.Pairwise (· < ·)) (f : Int → Bool) : (l.filter f).Pairwise (· < ·) := h.sublist List.filter_sublist
theorem ex_filt {p : Int} {rs : List Rn} {l : List Int} (h : Canon p rs) (hl : l.Pairwise (· < ·)) (hm : ∀ x, x % 2 = p → (mR rs x ↔ x ∈ l)) : exR rs = l.filter (par p) := by
  refine up_one (exR_up h) (filt_up hl _) fun x => ?_
  rw [exR_mem h, List.mem_filter]
  unfold par
  rw [decide_eq_true_eq]
  constructor
  · rintro ⟨a, b⟩
    exact ⟨(hm x a).mp b, a⟩
  · rintro ⟨a, b⟩
    exact ⟨b, (hm x b).mpr a⟩
theorem part_len (l : List Int) : (l.filter (par 0)).length + (l.filter (par 1)).length = l.length := by
  induction l with
  | nil => rfl
  | cons x l ih =>
    rcases Int.emod_two_eq x with h | h
    · have e0 : par 0 x = true := decide_eq_true h
      have e1 : par 1 x = false := decide_eq_false (by omega)
      rw [List.filter_cons_of_pos e0, List.filter_cons_of_neg (by rw [e1]; simp), List.length_cons, List.length_cons]
      omega
    · have e0 : par 0 x = false := decide_eq_false (by omega)
      have e1 : par 1 x = true := decide_eq_true h
      rw [List.filter_cons_of_neg (by rw [e0]; simp), List.filter_cons_of_pos e1, List.length_cons, List.length_cons]
      omega
theorem take_filt {f : Int → Bool} {x : Int} (hx : f x = true) : ∀ {l : List Int} {c : Nat}, x ∈ l.take c → x ∈ (l.filter f).take c
  | [], c, h => by simp at h
  | a :: l, 0, h => by simp at h
  | a :: l, c + 1, h => by
    rw [List.take_succ_cons, List.mem_cons] at h
    by_cases ha : f a = true
    · rw [List.filter_cons_of_pos ha, List.take_succ_cons, List.mem_cons]
      exact h.imp id fun z => take_filt hx z
    · rw [List.filter_cons_of_neg ha]
      rcases h with rfl | h
      · exact absurd hx ha
      · exact (List.take_subset_take_left _ (Nat.le_succ c)) (take_filt hx h)
theorem take_one : ∀ {c : Nat} {s l : List Int}, s.Pairwise (· < ·) → l.Pairwise (· < ·) → (∀ x ∈ s, x ∈ l) → (∀ x ∈ l.take c, x ∈ s) → s.take c = l.take c
  | 0, _, _, _, _, _, _ => by simp
  | c + 1, s, [], _, _, h, _ => by
    cases s with
    | nil => rfl
    | cons a s => exact absurd (h a (List.mem_cons_self ..)) (by simp)
  | c + 1, s, a :: l, hs, hl, h, g => by
    have ha := g a (by rw [List.take_succ_cons]; exact List.mem_cons_self ..)
    cases s with
    | nil => cases ha
    | cons b s =>
      have ⟨s1, s2⟩ := List.pairwise_cons.mp hs
      have ⟨l1, l2⟩ := List.pairwise_cons.mp hl
      have e : b = a := by
        rcases List.mem_cons.mp (h b (List.mem_cons_self ..)) with e | e
        · exact e
        · rcases List.mem_cons.mp ha with e' | e'
          · exact e'.symm
          · have := l1 b e
            have := s1 a e'
            omega
      subst e
      rw [List.take_succ_cons, List.take_succ_cons, take_one s2 l2 (fun x hx => ?_) (fun x hx => ?_)]
      · rcases List.mem_cons.mp (h x (List.mem_cons_of_mem _ hx)) with e | e
        · have := s1 x hx
          omega
        · exact e
      · rcases List.mem_cons.mp (g x (by rw [List.take_succ_cons]; exact List.mem_cons_of_mem _ hx)) with e | e
        · have := l1 x (List.mem_of_mem_take hx)
          omega
        · exact e
/-- the least c of both halves together -/
theorem first_one {s l : List Int} {c : Nat} (hl : l.Pairwise (· < ·)) (hs : s.Pairwise (· < ·)) (hm : ∀ x, x ∈ s ↔ x ∈ (l.filter (par 0)).take c ∨ x ∈ (l.filter (par 1)).take c) : s.take c = l.take c := by
  refine take_one hs hl (fun x hx => ?_) fun x hx => ?_
  · rcases (hm x).mp hx with h | h <;> exact (List.mem_filter.mp (List.mem_of_mem_take h)).1
  · rcases Int.emod_two_eq x with h | h
    · exact (hm x).mpr (.inl (take_filt (decide_eq_true h) hx))
    · exact (hm x).mpr (.inr (take_filt (decide_eq_true h) hx))
/-- the least of both halves -/
def loO : Option Int → Option Int → Option Int
  | none, b => b
  | a, none => a
  | some a, some b => some (min a b)
def hiO : Option Int → Option Int → Option Int
  | none, b => b
  | a, none => a
  | some a, some b => some (max a b)
theorem head_parts : ∀ {l : List Int}, l.Pairwise (· < ·) → loO (l.filter (par 0)).head? (l.filter (par 1)).head? = l.head?
  | [], _ => rfl
  | a :: l, h => by
    have ⟨h1, h2⟩ := List.pairwise_cons.mp h
    have up : ∀ (f : Int → Bool) b, (l.filter f).head? = some b → a < b := fun f b hb => h1 b (List.mem_filter.mp (List.mem_of_mem_head? hb)).1
    rcases Int.emod_two_eq a with ha | ha
    · have e0 : par 0 a = true := decide_eq_true ha
      have e1 : ¬ par 1 a = true := by simp [par]; omega
      rw [List.filter_cons_of_pos e0, List.filter_cons_of_neg e1]
      cases hb : (l.filter (par 1)).head? with
      | none => rfl
      | some b =>
        have := up _ b hb
        show some (min a b) = some a
        congr 1
        omega
    · have e0 : ¬ par 0 a = true := by simp [par]; omega
      have e1 : par 1 a = true := decide_eq_true ha
      rw [List.filter_cons_of_neg e0, List.filter_cons_of_pos e1]
      cases hb : (l.filter (par 0)).head? with
      | none => rfl
      | some b =>
        have := up _ b hb
        show some (min b a) = some a
        congr 1
        omega
theorem last_parts {l : List Int} (h : l.Pairwise (· < ·)) : hiO (l.filter (par 0)).getLast? (l.filter (par 1)).getLast? = l.getLast? := by
  rcases List.eq_nil_or_concat l with rfl | ⟨l, a, rfl⟩
  · rfl
  · rw [List.concat_eq_append] at h ⊢
    obtain ⟨_, _, h1⟩ := List.pairwise_append.mp h
    have up : ∀ (f : Int → Bool) b, (l.filter f).getLast? = some b → b < a := fun f b hb => h1 b (List.mem_filter.mp (List.mem_of_getLast? hb)).1 a (by simp)
    rw [List.filter_append, List.filter_append]
    rcases Int.emod_two_eq a with ha | ha
    · have e0 : par 0 a = true := decide_eq_true ha
      have e1 : par 1 a = false := by simp [par]; omega
      simp only [List.filter_cons, List.filter_nil, e0, e1, if_true, if_false, Bool.false_eq_true, List.append_nil, List.getLast?_concat]
      cases hb : (l.filter (par 1)).getLast? with
      | none => rfl
      | some b =>
        have := up _ b hb
        show some (max a b) = some a
        congr 1
        omega
    · have e0 : par 0 a = false := by simp [par]; omega
      have e1 : par 1 a = true := decide_eq_true ha
      simp only [List.filter_cons, List.filter_nil, e0, e1, if_true, if_false, Bool.false_eq_true, List.append_nil, List.getLast?_concat]
      cases hb : (l.filter (par 0)).getLast? with
      | none => rfl
      | some b =>
        have := up _ b hb
        show some (max b a) = some a
        congr 1
        omega
theorem ex_head {p : Int} {rs : List Rn} (h : Canon p rs) : (exR rs).head? = rs.head?.map (·.1) := by
  cases rs with
  | nil => rfl
  | cons r rs =>
    obtain ⟨a, b, c⟩ := h.ok r (List.mem_cons_self ..)
    have e : exR (r :: rs) = exR1 r ++ exR rs := rfl
    have e2 : ∃ t, exR1 r = r.1 :: t := by
      unfold exR1 rgI2
      have : rn2 r.1 (r.2 + 1) = (rn2 r.1 (r.2 + 1) - 1) + 1 := by unfold rn2; omega
      rw [this, List.range_succ_eq_map, List.map_cons]
      exact ⟨_, by simp; rfl⟩
    obtain ⟨t, e2⟩ := e2
    rw [e, e2]
    rfl
theorem ex_last {p : Int} {rs : List Rn} (h : Canon p rs) : (exR rs).getLast? = rs.getLast?.map (·.2) := by
  rcases List.eq_nil_or_concat rs with rfl | ⟨l, r, rfl⟩
  · rfl
  · rw [List.concat_eq_append] at h ⊢
    obtain ⟨a, b, c⟩ := h.ok r (by simp)
    have e2 : ∃ t, exR1 r = t ++ [r.2] := by
      unfold exR1 rgI2
      have : rn2 r.1 (r.2 + 1) = (rn2 r.1 (r.2 + 1) - 1) + 1 := by unfold rn2; omega
      rw [this, List.range_succ, List.map_append]
      refine ⟨_, congrArg _ ?_⟩
      simp only [List.map_cons, List.map_nil, List.cons.injEq, and_true]
      unfold rn2
      omega
    obtain ⟨t, e2⟩ := e2
    have e3 : exR [r] = exR1 r := by simp [exR]
    rw [exR_app, e3, e2, ← List.append_assoc, List.getLast?_concat, List.getLast?_concat]
    rfl
end CT
set_option maxHeartbeats 4000000
/-! S13: stretches and blocks, in plain Lean. -/
namespace CT
def bt2 (p lo hi : Int) : List Rn := if lo + (lo + p) % 2 ≤ hi - (hi + p) % 2 then [(lo + (lo + p) % 2, hi - (hi + p) % 2)] else []
theorem bt2_ok {p lo hi : Int} (hp : p = 0 ∨ p = 1) : Canon p (bt2 p lo hi) ∧ ∀ x, x % 2 = p → (mR (bt2 p lo hi) x ↔ lo ≤ x ∧ x ≤ hi) := by
  unfold bt2
  split
  · refine ⟨⟨fun r hr => ?_, by simp⟩, fun x hx => ?_⟩
    · rw [List.mem_singleton.mp hr]
      refine ⟨?_, ?_, ?_⟩ <;> simp only <;> omega
    · rw [mR_cons]
      constructor
      · rintro (⟨h1, h2⟩ | h)
        · simp only at h1 h2
          omega
        · exact absurd h (mR_nil _)
      · intro h
        refine .inl ⟨?_, ?_⟩ <;> simp only <;> omega
  · refine ⟨canon_nil p, fun x hx => ⟨fun h => absurd h (mR_nil _), fun h => ?_⟩⟩
    omega
theorem bt2_len (p lo hi : Int) : (bt2 p lo hi).length ≤ 1 := by
  unfold bt2
  split <;> simp
/-- is in the set of two sides -/
def inW (E O : List Rn) (x : Int) : Prop := (x % 2 = 0 ∧ mR E x) ∨ (x % 2 = 1 ∧ mR O x)
def links (E O : List Rn) : List Rn := comR E (movR (-1) O) ++ comR O (movR (-1) E)
def sstep (found : List Rn) (r : Rn) : List Rn := match found.getLast? with
  | some q => if r.1 ≤ q.2 then found.dropLast ++ [(q.1, max q.2 (r.2 + 1))] else found ++ [(r.1, r.2 + 1)]
  | none => [(r.1, r.2 + 1)]
def Apart (a b : Rn) : Prop := a.2 < b.1
theorem sstep_ok {f : List Rn} {r : Rn} (h : f.Pairwise Apart) (g : ∀ q ∈ f, q.1 < q.2) (hr : r.1 ≤ r.2) (ho : ∀ q ∈ f, q.1 ≤ r.1) :
    (sstep f r).Pairwise Apart ∧ (∀ q ∈ sstep f r, q.1 < q.2) ∧ (∀ x, mR (sstep f r) x ↔ mR f x ∨ (r.1 ≤ x ∧ x ≤ r.2 + 1)) ∧ ∀ q ∈ sstep f r, q.1 ≤ r.1 := by
  rcases List.eq_nil_or_concat f with rfl | ⟨l, q, rfl⟩
  · refine ⟨by simp [sstep], fun q hq => ?_, fun x => ?_, fun q hq => ?_⟩
    · rw [List.mem_singleton.mp hq]; simp only; omega
    · show mR [(r.1, r.2 + 1)] x ↔ _
      rw [mR_cons]
      exact ⟨fun z => z.elim .inr fun z => absurd z (mR_nil _), fun z => z.elim (fun z => absurd z (mR_nil _)) .inl⟩
    · rw [List.mem_singleton.mp hq]; exact Int.le_refl _
  · rw [List.concat_eq_append] at *
    obtain ⟨h1, h2, h3⟩ := List.pairwise_append.mp h
    have gq := g q (by simp)
    have oq := ho q (by simp)
    have e : sstep (l ++ [q]) r = if r.1 ≤ q.2 then l ++ [(q.1, max q.2 (r.2 + 1))] else (l ++ [q]) ++ [(r.1, r.2 + 1)] := by
      unfold sstep
      rw [List.getLast?_concat, List.dropLast_concat]
    rw [e]
    split
    · rename_i hc
      refine ⟨List.pairwise_append.mpr ⟨h1, by simp, fun a ha b hb => ?_⟩, fun s hs => ?_, fun x => ?_, fun s hs => ?_⟩
      · rw [List.mem_singleton.mp hb]
        exact h3 a ha q (by simp)
      · rcases List.mem_append.mp hs with hs | hs
        · exact g s (by simp [hs])
        · rw [List.mem_singleton.mp hs]; simp only; omega
      · rw [mR_append, mR_append, mR_cons, mR_cons]
        have n := mR_nil x
        simp only
        constructor
        · rintro (z | z | z)
          · exact .inl (.inl z)
          · by_cases hx : x ≤ q.2
            · exact .inl (.inr (.inl ⟨z.1, hx⟩))
            · exact .inr (by omega)
          · exact absurd z n
        · rintro ((z | z | z) | z)
          · exact .inl z
          · exact .inr (.inl (by omega))
          · exact absurd z n
          · exact .inr (.inl (by omega))
      · rcases List.mem_append.mp hs with hs | hs
        · exact ho s (by simp [hs])
        · rw [List.mem_singleton.mp hs]; exact oq
    · rename_i hc
      refine ⟨List.pairwise_append.mpr ⟨h, by simp, fun a ha b hb => ?_⟩, fun s hs => ?_, fun x => ?_, fun s hs => ?_⟩
      · rw [List.mem_singleton.mp hb]
        unfold Apart
        simp only
        rcases List.mem_append.mp ha with ha | ha
        · have := h3 a ha q (by simp)
          unfold Apart at this
          omega
        · rw [List.mem_singleton.mp ha]; omega
      · rcases List.mem_append.mp hs with hs | hs
        · exact g s hs
        · rw [List.mem_singleton.mp hs]; simp only; omega
      · rw [mR_append (rs := l ++ [q]), mR_cons]
        have n := mR_nil x
        simp only
        constructor
        · rintro (z | z | z)
          · exact .inl z
          · exact .inr z
          · exact absurd z n
        · rintro (z | z)
          · exact .inl z
          · exact .inr (.inl z)
      · rcases List.mem_append.mp hs with hs | hs
        · exact ho s hs
        · rw [List.mem_singleton.mp hs]; exact Int.le_refl _
theorem sfold_ok : ∀ {l f : List Rn}, f.Pairwise Apart → (∀ q ∈ f, q.1 < q.2) → (∀ r ∈ l, r.1 ≤ r.2) → l.Pairwise (fun r s => r.1 ≤ s.1) → (∀ q ∈ f, ∀ r ∈ l, q.1 ≤ r.1) →
    (l.foldl sstep f).Pairwise Apart ∧ (∀ q ∈ l.foldl sstep f, q.1 < q.2) ∧ ∀ x, mR (l.foldl sstep f) x ↔ mR f x ∨ ∃ r ∈ l, r.1 ≤ x ∧ x ≤ r.2 + 1
  | [], f, h, g, _, _, _ => ⟨h, g, fun x => ⟨.inl, fun z => z.elim id fun ⟨_, z, _⟩ => by cases z⟩⟩
  | r :: l, f, h, g, hr, hu, ho => by
    have ⟨u1, u2⟩ := List.pairwise_cons.mp hu
    obtain ⟨a, b, c, d⟩ := sstep_ok h g (hr r (List.mem_cons_self ..)) (fun q hq => ho q hq r (List.mem_cons_self ..))
    obtain ⟨a', b', c'⟩ := sfold_ok (l := l) a b (fun s hs => hr s (List.mem_cons_of_mem _ hs)) u2 (fun q hq s hs => Int.le_trans (d q hq) (u1 s hs))
    refine ⟨a', b', fun x => ?_⟩
    show mR (l.foldl sstep (sstep f r)) x ↔ _
    rw [c' x, c x]
    constructor
    · rintro ((z | z) | ⟨s, hs, z⟩)
      · exact .inl z
      · exact .inr ⟨r, List.mem_cons_self .., z⟩
      · exact .inr ⟨s, List.mem_cons_of_mem _ hs, z⟩
    · rintro (z | ⟨s, hs, z⟩)
      · exact .inl (.inl z)
      · rcases List.mem_cons.mp hs with rfl | hs
        · exact .inl (.inr z)
        · exact .inr ⟨s, hs, z⟩
theorem sstep_len (f : List Rn) (r : Rn) : (sstep f r).length ≤ f.length + 1 := by
  rcases List.eq_nil_or_concat f with rfl | ⟨l, q, rfl⟩
  · simp [sstep]
  · rw [List.concat_eq_append]
    have e : sstep (l ++ [q]) r = if r.1 ≤ q.2 then l ++ [(q.1, max q.2 (r.2 + 1))] else (l ++ [q]) ++ [(r.1, r.2 + 1)] := by
      unfold sstep
      rw [List.getLast?_concat, List.dropLast_concat]
    rw [e]
    split <;> simp
theorem sfold_len : ∀ (l f : List Rn), (l.foldl sstep f).length ≤ f.length + l.length
  | [], f => by simp
  | r :: l, f => by
    have h1 := sstep_len f r
    have h2 := sfold_len l (sstep f r)
    rw [List.foldl_cons, List.length_cons]
    omega
section
variable {E O : List Rn} (cE : Canon 0 E) (cO : Canon 1 O)
include cE cO
theorem link_in {r : Rn} (h : r ∈ links E O) {x : Int} (h1 : r.1 ≤ x) (h2 : x ≤ r.2 + 1) : inW E O x := by
  rcases List.mem_append.mp h with h | h
  · obtain ⟨c, m⟩ := com_ok cE (mov_ok (k := -1) cO (q := 0) (by decide))
    obtain ⟨a, b, d⟩ := c.ok r h
    rcases Int.emod_two_eq x with hx | hx
    · exact .inl ⟨hx, ((m x).mp ⟨r, h, h1, by omega⟩).1⟩
    · have := ((m (x - 1)).mp ⟨r, h, by omega, by omega⟩).2
      rw [mov_mem] at this
      exact .inr ⟨hx, by have e : x - 1 - -1 = x := by omega
                         rw [e] at this; exact this⟩
  · obtain ⟨c, m⟩ := com_ok cO (mov_ok (k := -1) cE (q := 1) (by decide))
    obtain ⟨a, b, d⟩ := c.ok r h
    rcases Int.emod_two_eq x with hx | hx
    · have := ((m (x - 1)).mp ⟨r, h, by omega, by omega⟩).2
      rw [mov_mem] at this
      exact .inl ⟨hx, by have e : x - 1 - -1 = x := by omega
                         rw [e] at this; exact this⟩
    · exact .inr ⟨hx, ((m x).mp ⟨r, h, h1, by omega⟩).1⟩
theorem link_of {x : Int} (h1 : inW E O x) (h2 : inW E O (x + 1)) : ∃ r ∈ links E O, r.1 ≤ x ∧ x ≤ r.2 := by
  rcases h1 with ⟨hx, h1⟩ | ⟨hx, h1⟩
  · rcases h2 with ⟨hy, h2⟩ | ⟨hy, h2⟩
    · omega
    · obtain ⟨c, m⟩ := com_ok cE (mov_ok (k := -1) cO (q := 0) (by decide))
      obtain ⟨r, hr, z⟩ := (m x).mpr ⟨h1, mov_mem.mpr (by have e : x - -1 = x + 1 := by omega
                                                          rw [e]; exact h2)⟩
      exact ⟨r, List.mem_append_left _ hr, z⟩
  · rcases h2 with ⟨hy, h2⟩ | ⟨hy, h2⟩
    · obtain ⟨c, m⟩ := com_ok cO (mov_ok (k := -1) cE (q := 1) (by decide))
      obtain ⟨r, hr, z⟩ := (m x).mpr ⟨h1, mov_mem.mpr (by have e : x - -1 = x + 1 := by omega
                                                          rw [e]; exact h2)⟩
      exact ⟨r, List.mem_append_right _ hr, z⟩
    · omega
theorem links_ok {r : Rn} (h : r ∈ links E O) : r.1 ≤ r.2 := by
  rcases List.mem_append.mp h with h | h
  · exact ((com_ok cE (mov_ok (k := -1) cO (q := 0) (by decide))).1.ok r h).1
  · exact ((com_ok cO (mov_ok (k := -1) cE (q := 1) (by decide))).1.ok r h).1
end
end CT
set_option maxHeartbeats 4000000
namespace CL
open PySem L2 CT
local macro_rules | `(tactic| walk_at "w") => `(tactic| first | ((with_reducible apply gR); first | with_reducible refine w_var rfl ?_ | with_reducible apply w_cons | with_reducible apply w_c | with_reducible apply w_nil | with_reducible apply w_op | with_reducible apply w_ap | with_reducible apply w_call | with_reducible apply w_tst | with_reducible apply w_un | with_reducible apply w_tand | with_reducible apply w_tor | with_reducible apply w_tnot | with_reducible apply w_yes | with_reducible apply w_and | with_reducible apply w_or | with_reducible apply w_not | with_reducible apply w_if | with_reducible apply w_chain | with_reducible apply w_isi | with_reducible apply w_isi2 | with_reducible apply w_prop | with_reducible apply w_meth | with_reducible apply w_dget | with_reducible apply w_dnewF | with_reducible apply w_dnewT | with_reducible apply w_part | with_reducible apply w_noPart | with_reducible apply w_slLF | with_reducible apply w_slA | with_reducible apply w_ok | with_reducible apply w_ofO | with_reducible apply w_lcI | with_reducible apply w_seqI | with_reducible apply w_rng1 | with_reducible apply w_rng2 | with_reducible apply w_enum) | ((with_reducible apply gO); first | with_reducible apply wo_add | with_reducible apply wo_sub | with_reducible apply wo_lt | with_reducible apply wo_gt | with_reducible apply wo_eq | with_reducible apply wo_ne | with_reducible apply wo_le | with_reducible apply wo_ge | with_reducible apply wo_neg | with_reducible apply wo_eqS | with_reducible apply wo_neS | with_reducible apply wo_min | with_reducible apply wo_max | with_reducible apply wo_int | with_reducible apply wo_abs | with_reducible apply wo_tupL | with_reducible apply wo_tupT | with_reducible refine wo_tup (by with_unfolding_all rfl) ?_ | with_reducible refine wo_lstF (by with_unfolding_all rfl) ?_ | with_reducible refine wo_lstT (by with_unfolding_all rfl) ?_ | with_reducible apply wo_fld0 | with_reducible apply wo_fld1 | with_reducible apply wo_fld2) | ((with_reducible apply gS); first | with_reducible apply w_seq | with_reducible apply w_asg | with_reducible apply w_sif | with_reducible apply w_next | with_reducible apply w_ret | with_reducible apply w_par | with_reducible apply w_drop | with_reducible apply w_asgT | with_reducible apply w_retN | with_reducible apply w_brk | with_reducible apply w_cnt | with_reducible apply w_raise | with_reducible apply w_forI) | ((with_reducible apply gI); first | with_reducible apply wI_t | with_reducible apply wI_f | with_reducible apply wI_not) | with_reducible apply w_bl | with_reducible apply thn_nx | with_reducible apply w_int | with_reducible apply w_obj | with_reducible apply thn_rt | with_reducible apply lp_nx | with_reducible apply fnl_int | with_reducible apply fnl_bl | with_reducible apply fnl_non | with_reducible apply fnl_str | with_reducible apply fnl_nx | with_reducible apply thn_bk | with_reducible apply thn_ct | with_reducible apply thn_xc | with_reducible apply lp_rt | with_reducible apply lp_bk | with_reducible apply lp_xc | with_reducible apply w_itL | with_reducible apply w_itT | with_reducible apply w_itK)
local macro_rules | `(tactic| walk_at "p") => `(tactic| repeat walk_at "w")
/-! S14: Wants as sets: the operators, blocks; no program in sight. -/
structure CW (E O : List Rn) : Prop where
  e : Canon 0 E
  o : Canon 1 O
theorem cw_nil : CW [] [] := ⟨canon_nil 0, canon_nil 1⟩
theorem inW_nil (x : Int) : ¬ inW [] [] x := fun h => h.elim (fun h => mR_nil _ h.2) fun h => mR_nil _ h.2
theorem inW_e {E O : List Rn} {x : Int} (hx : x % 2 = 0) : inW E O x ↔ mR E x := ⟨fun h => h.elim (·.2) fun h => by omega, fun h => .inl ⟨hx, h⟩⟩
theorem inW_o {E O : List Rn} {x : Int} (hx : x % 2 = 1) : inW E O x ↔ mR O x := ⟨fun h => h.elim (fun h => by omega) (·.2), fun h => .inr ⟨hx, h⟩⟩
theorem cw_ext {E O E' O' : List Rn} (h : CW E O) (h' : CW E' O') (g : ∀ x, inW E O x ↔ inW E' O' x) : E = E' ∧ O = O' :=
  ⟨canon_inj h.e h'.e fun x hx => by rw [← inW_e (O := O) hx, ← inW_e (O := O') hx]; exact g x, canon_inj h.o h'.o fun x hx => by rw [← inW_o (E := E) hx, ← inW_o (E := E') hx]; exact g x⟩
theorem law_cw (xs : List Int) : CW (lawR 0 xs) (lawR 1 xs) := ⟨(lawR_ok 0 xs).1, (lawR_ok 1 xs).1⟩
theorem law_in (xs : List Int) (x : Int) : inW (lawR 0 xs) (lawR 1 xs) x ↔ x ∈ xs := by
  rcases Int.emod_two_eq x with h | h
  · rw [inW_e h, (lawR_ok 0 xs).2 x h]
  · rw [inW_o h, (lawR_ok 1 xs).2 x h]
theorem law_of {E O : List Rn} {xs : List Int} (h : CW E O) (g : ∀ x, inW E O x ↔ x ∈ xs) : wantD E O = wtD xs := by
  obtain ⟨a, b⟩ := cw_ext h (law_cw xs) fun x => (g x).trans (law_in xs x).symm
  unfold wtD
  rw [a, b]
section
variable {E O E' O' : List Rn} (h : CW E O) (h' : CW E' O')
include h h'
theorem or_cw : CW (mgd (E ++ E')) (mgd (O ++ O')) :=
  ⟨(mgd_ok fun r hr => (List.mem_append.mp hr).elim (h.e.ok r) (h'.e.ok r)).1, (mgd_ok fun r hr => (List.mem_append.mp hr).elim (h.o.ok r) (h'.o.ok r)).1⟩
theorem or_in (x : Int) : inW (mgd (E ++ E')) (mgd (O ++ O')) x ↔ inW E O x ∨ inW E' O' x := by
  rcases Int.emod_two_eq x with hx | hx
  · rw [inW_e hx, inW_e hx, inW_e hx, (mgd_ok fun r hr => (List.mem_append.mp hr).elim (h.e.ok r) (h'.e.ok r)).2 x hx, mR_append]
  · rw [inW_o hx, inW_o hx, inW_o hx, (mgd_ok fun r hr => (List.mem_append.mp hr).elim (h.o.ok r) (h'.o.ok r)).2 x hx, mR_append]
theorem and_cw : CW (comR E E') (comR O O') := ⟨(com_ok h.e h'.e).1, (com_ok h.o h'.o).1⟩
theorem and_in (x : Int) : inW (comR E E') (comR O O') x ↔ inW E O x ∧ inW E' O' x := by
  rcases Int.emod_two_eq x with hx | hx
  · rw [inW_e hx, inW_e hx, inW_e hx, (com_ok h.e h'.e).2 x]
  · rw [inW_o hx, inW_o hx, inW_o hx, (com_ok h.o h'.o).2 x]
theorem sub_cw : CW (E'.foldl cutR E) (O'.foldl cutR O) := ⟨(rest_ok h.e h'.e.ok).1, (rest_ok h.o h'.o.ok).1⟩
theorem sub_in (x : Int) : inW (E'.foldl cutR E) (O'.foldl cutR O) x ↔ inW E O x ∧ ¬ inW E' O' x := by
  rcases Int.emod_two_eq x with hx | hx
  · rw [inW_e hx, inW_e hx, inW_e hx, (rest_ok h.e h'.e.ok).2 x hx]
  · rw [inW_o hx, inW_o hx, inW_o hx, (rest_ok h.o h'.o.ok).2 x hx]
end
def mvW (k : Int) (E O : List Rn) : List Rn × List Rn := if k % 2 = 0 then (movR k E, movR k O) else (movR k O, movR k E)
def miW (m : Int) (E O : List Rn) : List Rn × List Rn := if m % 2 = 0 then (mirR m E, mirR m O) else (mirR m O, mirR m E)
section
variable {E O : List Rn} (h : CW E O)
include h
theorem mv_cw (k : Int) : CW (mvW k E O).1 (mvW k E O).2 := by
  unfold mvW
  split
  · exact ⟨mov_ok h.e (by omega), mov_ok h.o (by omega)⟩
  · exact ⟨mov_ok h.o (by omega), mov_ok h.e (by omega)⟩
theorem mi_cw (m : Int) : CW (miW m E O).1 (miW m E O).2 := by
  unfold miW
  split
  · exact ⟨mir_ok h.e (by omega), mir_ok h.o (by omega)⟩
  · exact ⟨mir_ok h.o (by omega), mir_ok h.e (by omega)⟩
omit h in
theorem mv_in (k x : Int) : inW (mvW k E O).1 (mvW k E O).2 x ↔ inW E O (x - k) := by
  unfold mvW
  split <;> rcases Int.emod_two_eq x with hx | hx
  · rw [inW_e hx, inW_e (x := x - k) (by omega), mov_mem]
  · rw [inW_o hx, inW_o (x := x - k) (by omega), mov_mem]
  · rw [inW_e hx, inW_o (x := x - k) (by omega), mov_mem]
  · rw [inW_o hx, inW_e (x := x - k) (by omega), mov_mem]
omit h in
theorem mi_in (m x : Int) : inW (miW m E O).1 (miW m E O).2 x ↔ inW E O (m - x) := by
  unfold miW
  split <;> rcases Int.emod_two_eq x with hx | hx
  · rw [inW_e hx, inW_e (x := m - x) (by omega), mir_mem]
  · rw [inW_o hx, inW_o (x := m - x) (by omega), mir_mem]
  · rw [inW_e hx, inW_o (x := m - x) (by omega), mir_mem]
  · rw [inW_o hx, inW_e (x := m - x) (by omega), mir_mem]
/-! ### stretches, blocks -/
end
def strR (E O : List Rn) : List Rn := (srt (links E O)).foldl sstep []
section
variable {E O : List Rn} (h : CW E O)
include h
theorem str_ok : (strR E O).Pairwise Apart ∧ (∀ q ∈ strR E O, q.1 < q.2) ∧ ∀ x, mR (strR E O) x ↔ inW E O x ∧ (inW E O (x - 1) ∨ inW E O (x + 1)) := by
  obtain ⟨a, b, c⟩ := sfold_ok (l := srt (links E O)) (f := []) .nil (by simp) (fun r hr => links_ok h.e h.o (srt_mem.mp hr)) (srt_up _) (by simp)
  refine ⟨a, b, fun x => ?_⟩
  rw [strR, c x]
  constructor
  · rintro (z | ⟨r, hr, z1, z2⟩)
    · exact absurd z (mR_nil _)
    · have hr := srt_mem.mp hr
      have ok := links_ok h.e h.o hr
      refine ⟨link_in h.e h.o hr z1 z2, ?_⟩
      by_cases hx : x = r.1
      · exact .inr (link_in h.e h.o hr (by omega) (by omega))
      · exact .inl (link_in h.e h.o hr (by omega) (by omega))
  · rintro ⟨z, y | y⟩
    · have e : x - 1 + 1 = x := by omega
      obtain ⟨r, hr, q1, q2⟩ := link_of h.e h.o y (by rw [e]; exact z)
      exact .inr ⟨r, srt_mem.mpr hr, by omega, by omega⟩
    · obtain ⟨r, hr, q1, q2⟩ := link_of h.e h.o z y
      exact .inr ⟨r, srt_mem.mpr hr, q1, by omega⟩
end
def leftR (p : Int) (l rs : List Rn) : List Rn := l.foldl (fun f s => (bt2 p s.1 s.2).foldl cutR f) rs
theorem left_ok {p : Int} (hp : p = 0 ∨ p = 1) : ∀ {l rs : List Rn}, Canon p rs → Canon p (leftR p l rs) ∧ (leftR p l rs).length ≤ rs.length + l.length ∧ ∀ x, x % 2 = p → (mR (leftR p l rs) x ↔ mR rs x ∧ ¬ mR l x)
  | [], rs, h => ⟨h, by simp [leftR], fun x _ => ⟨fun z => ⟨z, mR_nil _⟩, fun z => z.1⟩⟩
  | s :: l, rs, h => by
    obtain ⟨b1, b2⟩ := bt2_ok (lo := s.1) (hi := s.2) hp
    obtain ⟨c1, c2⟩ := rest_ok h b1.ok
    have c3 := rest_len h b1.ok
    have c4 := bt2_len p s.1 s.2
    obtain ⟨d1, d2, d3⟩ := left_ok hp (l := l) c1
    refine ⟨d1, ?_, fun x hx => ?_⟩
    · show (leftR p l ((bt2 p s.1 s.2).foldl cutR rs)).length ≤ _
      rw [List.length_cons]
      omega
    · show mR (leftR p l ((bt2 p s.1 s.2).foldl cutR rs)) x ↔ _
      rw [d3 x hx, c2 x hx, b2 x hx, mR_cons, not_or, and_assoc]
abbrev Bk := Int × List Rn × List Rn
def blkS (E O : List Rn) : List Bk := (strR E O).map fun s => (s.1, bt2 0 s.1 s.2, bt2 1 s.1 s.2)
def blkE (l : List Rn) : List Bk := l.map fun r => (r.1, [r], [])
def blkO (l : List Rn) : List Bk := l.map fun r => (r.1, [], [r])
def blkL (E O : List Rn) : List Bk := blkS E O ++ blkE (leftR 0 (strR E O) E) ++ blkO (leftR 1 (strR E O) O)
theorem one_can {p : Int} {r : Rn} (h : RunOk p r) : Canon p [r] := ⟨fun s hs => by rw [List.mem_singleton.mp hs]; exact h, by simp⟩
section
variable {E O : List Rn} (h : CW E O)
include h
theorem blk_cw {b : Bk} (hb : b ∈ blkL E O) : CW b.2.1 b.2.2 := by
  rcases List.mem_append.mp hb with hb | hb
  · rcases List.mem_append.mp hb with hb | hb
    · obtain ⟨s, _, rfl⟩ := List.mem_map.mp hb
      exact ⟨(bt2_ok (.inl rfl)).1, (bt2_ok (.inr rfl)).1⟩
    · obtain ⟨r, hr, rfl⟩ := List.mem_map.mp hb
      exact ⟨one_can ((left_ok (.inl rfl) h.e).1.ok r hr), canon_nil 1⟩
  · obtain ⟨r, hr, rfl⟩ := List.mem_map.mp hb
    exact ⟨canon_nil 0, one_can ((left_ok (.inr rfl) h.o).1.ok r hr)⟩
omit h in
theorem bt2_in (lo hi x : Int) : inW (bt2 0 lo hi) (bt2 1 lo hi) x ↔ lo ≤ x ∧ x ≤ hi := by
  rcases Int.emod_two_eq x with hx | hx
  · rw [inW_e hx, (bt2_ok (.inl rfl)).2 x hx]
  · rw [inW_o hx, (bt2_ok (.inr rfl)).2 x hx]
theorem blk_in (x : Int) : (∃ b ∈ blkL E O, inW b.2.1 b.2.2 x) ↔ inW E O x := by
  obtain ⟨_, _, s3⟩ := str_ok h
  obtain ⟨_, _, e3⟩ := left_ok (.inl rfl) (l := strR E O) h.e
  obtain ⟨_, _, o3⟩ := left_ok (.inr rfl) (l := strR E O) h.o
  constructor
  · rintro ⟨b, hb, hx⟩
    rcases List.mem_append.mp hb with hb | hb
    · rcases List.mem_append.mp hb with hb | hb
      · obtain ⟨s, hs, rfl⟩ := List.mem_map.mp hb
        exact ((s3 x).mp ⟨s, hs, (bt2_in _ _ _).mp hx⟩).1
      · obtain ⟨r, hr, rfl⟩ := List.mem_map.mp hb
        rcases hx with ⟨hx, hm⟩ | ⟨hx, hm⟩
        · obtain ⟨q, hq, z⟩ := hm
          rw [List.mem_singleton.mp hq] at z
          exact .inl ⟨hx, ((e3 x hx).mp ⟨r, hr, z⟩).1⟩
        · exact absurd hm (mR_nil _)
    · obtain ⟨r, hr, rfl⟩ := List.mem_map.mp hb
      rcases hx with ⟨hx, hm⟩ | ⟨hx, hm⟩
      · exact absurd hm (mR_nil _)
      · obtain ⟨q, hq, z⟩ := hm
        rw [List.mem_singleton.mp hq] at z
        exact .inr ⟨hx, ((o3 x hx).mp ⟨r, hr, z⟩).1⟩
  · intro hx
    by_cases hs : mR (strR E O) x
    · obtain ⟨s, hs, z⟩ := hs
      exact ⟨_, List.mem_append_left _ (List.mem_append_left _ (List.mem_map.mpr ⟨s, hs, rfl⟩)), (bt2_in _ _ _).mpr z⟩
    · rcases hx with ⟨hx, hm⟩ | ⟨hx, hm⟩
      · obtain ⟨r, hr, z⟩ := (e3 x hx).mpr ⟨hm, hs⟩
        exact ⟨_, List.mem_append_left _ (List.mem_append_right _ (List.mem_map.mpr ⟨r, hr, rfl⟩)), .inl ⟨hx, r, List.mem_singleton.mpr rfl, z⟩⟩
      · obtain ⟨r, hr, z⟩ := (o3 x hx).mpr ⟨hm, hs⟩
        exact ⟨_, List.mem_append_right _ (List.mem_map.mpr ⟨r, hr, rfl⟩), .inr ⟨hx, r, List.mem_singleton.mpr rfl, z⟩⟩
end
end CL
set_option maxHeartbeats 4000000
/-! E7: own operators with an int, list(range), extend, two writes, told backwards. -/
namespace CT
open PySem L2
section
variable {Q : D → Store → Prop} {E : Exc → Store → Prop} {F : Fr} {C : Store}
theorem w_mulR {c : Nat} {m : MF} {mo me : ME} (h : wR (mo F C) (fun x C1 => wR (me F C1) (fun y C2 => ∃ i, y = .int i ∧ isC c x C2 = true ∧ wR (m [x, y] C2) Q E) E) E) : wR (mMulR c m mo me F C) Q E :=
  w_bnd (w_mono h (fun x C1 g => w_bnd (w_mono g (fun y C2 g => by
    obtain ⟨i, rfl, e, q⟩ := g
    simp only [e, if_true]
    exact q) fun _ _ z => z)) fun _ _ z => z)
theorem w_mulL {c : Nat} {m : MF} {mo me : ME} (h : wR (me F C) (fun x C1 => wR (mo F C1) (fun y C2 => ∃ i, x = .int i ∧ isC c y C2 = true ∧ wR (m [y, x] C2) Q E) E) E) : wR (mMulL c m me mo F C) Q E :=
  w_bnd (w_mono h (fun x C1 g => w_bnd (w_mono g (fun y C2 g => by
    obtain ⟨i, rfl, e, q⟩ := g
    simp only [e, if_true]
    exact q) fun _ _ z => z)) fun _ _ z => z)
theorem w_negO {c : Nat} {m : MF} {mo : ME} (h : wR (mo F C) (fun x C1 => isC c x C1 = true ∧ wR (m [x] C1) Q E) E) : wR (mNegO c m mo F C) Q E :=
  w_bnd (w_mono h (fun x C1 g => by
    obtain ⟨e, q⟩ := g
    simp only [e, if_true]
    exact q) fun _ _ z => z)
theorem w_revT {m : ME} (h : wR (m F C) (fun d C1 => ∃ xs, d = .tup xs ∧ Q (.tup xs.reverse) C1) E) : wR (mRevT m F C) Q E :=
  w_bnd (w_mono h (fun x C1 g => by
    obtain ⟨xs, rfl, q⟩ := g
    exact w_ok q) fun _ _ z => z)
theorem w_rng3F {m m2 m3 : ME} (h : wR (m F C) (fun x C1 => wR (m2 F C1) (fun y C2 => wR (m3 F C2) (fun z C3 => ∃ a b : Int, x = .int a ∧ y = .int b ∧ z = .int 2 ∧ rgOk2 a b = true ∧ Q (.lst ((rgI2 a b).map .int)) C3) E) E) E) : wR (mLRng3 false m m2 m3 F C) Q E :=
  w_bnd (w_mono h (fun x C1 g => w_bnd (w_mono g (fun y C2 g => w_bnd (w_mono g (fun z C3 g => by
    obtain ⟨a, b, rfl, rfl, rfl, e, q⟩ := g
    simp only [e, if_true]
    exact w_ok q) fun _ _ z => z)) fun _ _ z => z)) fun _ _ z => z)
theorem w_extend {mo me : ME} (h : wR (mo F C) (fun o C1 => (vL o C1).isSome = true ∧ wR (me F C1) (fun v C2 => ∃ i ds es, cL o C2 = some (i, ds) ∧ vL v C2 = some es ∧ F.fl ≤ i ∧ ds.length + es.length ≤ 16777216 ∧ Q .non (C2.set i (some (.lst (ds ++ es))))) E) E) : wR (mExtend mo me F C) Q E := by
  unfold mExtend
  refine w_bnd (w_mono h (fun o C1 g => ?_) fun _ _ z => z)
  rw [if_pos g.1]
  refine w_bnd (w_mono g.2 (fun v C2 g => ?_) fun _ _ z => z)
  obtain ⟨i, ds, es, e, e2, hi, hz, q⟩ := g
  have hs : szN (ds.length + es.length) = true := by simp only [szN, decide_eq_true_eq]; omega
  simp only [e, e2, hs, if_true, wr_hi hi]
  exact w_ok q
theorem w_set2 {m1 m2 mo mi mo2 mi2 : ME} {fl : Nat} {sl : List (Option D)} {P : RS → Prop} (h : wR (m1 ⟨fl, sl⟩ C) (fun v1 C1 => wR (m2 ⟨fl, sl⟩ C1) (fun v2 C2 => wS (sSeq (sSetL (mC v1) mo mi) (sSetL (mC v2) mo2 mi2) ⟨fl, sl⟩ C2) P) (fun e C => P (.xc e sl C))) (fun e C => P (.xc e sl C))) : wS (sSet2 m1 m2 mo mi mo2 mi2 ⟨fl, sl⟩ C) P :=
  w_bndS (w_mono h (fun v C1 g => w_bndS g) fun _ _ z => z)
theorem w_slLT {a : ME} {l u : Fr → Store → R (Option Int)} (h : wR (a F C) (fun x C1 => wR (l F C1) (fun lo C2 => wR (u F C2) (fun hi C3 => ∃ xs, vLs x C3 = some xs ∧ Q (.cell C3.length) (C3 ++ [some (.lst (cutD xs lo hi))])) E) E) E) : wR (mSlL true a l u F C) Q E := w_slL h
end
section
variable {Q : D → Store → Prop} {E : Exc → Store → Prop} {F : Fr} {C : Store}
theorem w_bO {c : Nat} {m : MF} {me : ME} (h : wR (me F C) (fun x C1 => ∃ fs, vO x C1 = some (c, fs) ∧ wR (m [x] C1) (fun d C2 => ∃ s, d = .bl s ∧ Q (.bl s) C2) noX) E) : wR (mBoolO c m me F C) Q E := by
  unfold mBoolO
  refine w_bnd (w_mono h (fun x C1 g => ?_) fun _ _ z => z)
  obtain ⟨fs, e, q⟩ := g
  simp only [e, if_true]
  obtain ⟨d, C2, e2, s, rfl, q⟩ := w_out q
  simp only [e2]
  exact w_ok q
theorem w_nO {neg : Bool} {c : Nat} {m : MF} {mo me : ME} (h : wR (me F C) (fun x C1 => wR (mo F C1) (fun y C2 => isC c y C2 = true ∧ wR (m [y, x] C2) (fun z C3 => ∃ t, z = .bl t ∧ Q (.bl (if neg = true then !t else t)) C3) E) E) E) : wR (mInO neg c m me mo F C) Q E := by
  unfold mInO
  refine w_bnd (w_mono h (fun x C1 g => w_bnd (w_mono g (fun y C2 g => ?_) fun _ _ z => z)) fun _ _ z => z)
  rw [if_pos g.1]
  unfold negB
  refine w_bnd (w_mono g.2 (fun z C3 g => ?_) fun _ _ z => z)
  obtain ⟨t, rfl, q⟩ := g
  exact w_ok q
end
/-! ### a comprehension whose list is an own one -/
section
variable {C : Store} {Q : D → Store → Prop} {X : Exc → Store → Prop} {F : Fr}
theorem w_lcO {mi : MI} {g : MG} {tt : MT} {te : ME} {vs : List Nat} (h : wR (mi F C) (fun it C1 => wR (mLc true (fun _ C => .ok it C) g tt te vs F C1) Q X) X) : wR (mLc true mi g tt te vs F C) Q X := by
  unfold mLc at h
  unfold mLc
  exact w_bnd h
theorem lc_own {it : ItD} {xs : List D} {g : MG} {te : ME} {vs : List Nat} (p : PureIt it xs) (h : D → D) (sz : xs.length ≤ 16777215)
    (st : ∀ x ∈ xs, ∃ sl1, g x (wipeD F.sl vs) = some sl1 ∧ ∀ acc, wR (te ⟨C.length, sl1⟩ (accS C acc)) (fun d C' => d = h x ∧ C' = accS C acc) noX)
    (q : Q (.cell C.length) (C ++ [some (.lst (xs.map h))])) : wR (mLc true (fun _ C => .ok it C) g tYesM te vs F C) Q X := by
  obtain ⟨acc, C', e, c, i⟩ := lc_w (tt := tYesM) (te := te) (g := g) (n := C.length) (sl := wipeD F.sl vs) (p.on fun _ => True) (fun j acc S => S = accS C acc ∧ acc = (xs.take j).map h ∧ j ≤ xs.length) (fun _ _ _ _ => trivial)
    (fun j acc S z => by rw [z.2.1]; simp; omega) (fun j x acc S hx hc z => by
      obtain ⟨rfl, hacc, hj⟩ := z
      obtain ⟨sl1, e, s⟩ := st x (List.mem_of_getElem? hx)
      have hjl : j < xs.length := (List.getElem?_eq_some_iff.mp hx).1
      refine ⟨sl1, e, w_yes (wI_t (w_mono (s acc) (fun d S z => ?_) fun _ _ z => z))⟩
      obtain ⟨rfl, rfl⟩ := z
      refine ⟨acc, get_new, by rw [hacc]; simp; omega, ⟨by simp [accS], ?_, by omega⟩, by simp [accS]⟩
      rw [hacc, ← List.take_append_getElem hjl, (List.getElem?_eq_some_iff.mp hx).2]
      simp) it.n 0 [] (C ++ [some (.lst [])]) (by rw [p.n]; omega) (by simp) ⟨rfl, rfl, Nat.zero_le _⟩
  obtain ⟨rfl, rfl, _⟩ := i
  unfold mLc
  simp only [bnd_ok]
  rw [e]
  simp only [bn0_ok]
  unfold lcEnd
  rw [if_pos rfl, List.take_length]
  exact w_ok q
end
/-! ### a def that hands back an own list -/
section
variable {Q : D → Store → Prop} {E : Exc → Store → Prop} {C : Store} {n : Nat}
def fnlO (n : Nat) (Q : D → Store → Prop) (E : Exc → Store → Prop) : RS → Prop := fun r => wR (finOS n r) Q E
theorem w_finO {r : RS} (h : wS r (fnlO n Q E)) : wR (finOS n r) Q E := h.h
theorem fnlO_own {i : Nat} {xs : List D} (hi : n ≤ i) (hC : C[i]? = some (some (.lst xs))) (hc : cbL n xs = true) (h : Q (.cell n) (C.take n ++ [some (.lst xs)])) : fnlO n Q E (.rt (.cell i) C) := by
  show wR (finO n (.cell i) C) Q E
  unfold finO
  simp only [hi, hC, hc, if_true]
  exact w_ok h
end
end CT
set_option maxHeartbeats 4000000
namespace CL
open PySem L2 CT
local macro_rules | `(tactic| walk_at "w") => `(tactic| first | ((with_reducible apply gR); first | with_reducible refine w_var rfl ?_ | with_reducible apply w_cons | with_reducible apply w_c | with_reducible apply w_nil | with_reducible apply w_op | with_reducible apply w_ap | with_reducible apply w_call | with_reducible apply w_tst | with_reducible apply w_un | with_reducible apply w_tand | with_reducible apply w_tor | with_reducible apply w_tnot | with_reducible apply w_yes | with_reducible apply w_and | with_reducible apply w_or | with_reducible apply w_not | with_reducible apply w_if | with_reducible apply w_chain | with_reducible apply w_isi | with_reducible apply w_isi2 | with_reducible apply w_prop | with_reducible apply w_meth | with_reducible apply w_dget | with_reducible apply w_dnewF | with_reducible apply w_dnewT | with_reducible apply w_part | with_reducible apply w_noPart | with_reducible apply w_slLF | with_reducible apply w_slA | with_reducible apply w_ok | with_reducible apply w_ofO | with_reducible apply w_lcI | with_reducible apply w_seqI | with_reducible apply w_rng1 | with_reducible apply w_rng2 | with_reducible apply w_enum) | ((with_reducible apply gO); first | with_reducible apply wo_add | with_reducible apply wo_sub | with_reducible apply wo_lt | with_reducible apply wo_gt | with_reducible apply wo_eq | with_reducible apply wo_ne | with_reducible apply wo_le | with_reducible apply wo_ge | with_reducible apply wo_neg | with_reducible apply wo_eqS | with_reducible apply wo_neS | with_reducible apply wo_min | with_reducible apply wo_max | with_reducible apply wo_int | with_reducible apply wo_abs | with_reducible apply wo_tupL | with_reducible apply wo_tupT | with_reducible refine wo_tup (by with_unfolding_all rfl) ?_ | with_reducible refine wo_lstF (by with_unfolding_all rfl) ?_ | with_reducible refine wo_lstT (by with_unfolding_all rfl) ?_ | with_reducible apply wo_fld0 | with_reducible apply wo_fld1 | with_reducible apply wo_fld2) | ((with_reducible apply gS); first | with_reducible apply w_seq | with_reducible apply w_asg | with_reducible apply w_sif | with_reducible apply w_next | with_reducible apply w_ret | with_reducible apply w_par | with_reducible apply w_drop | with_reducible apply w_asgT | with_reducible apply w_retN | with_reducible apply w_brk | with_reducible apply w_cnt | with_reducible apply w_raise | with_reducible apply w_forI) | ((with_reducible apply gI); first | with_reducible apply wI_t | with_reducible apply wI_f | with_reducible apply wI_not) | with_reducible apply w_bl | with_reducible apply thn_nx | with_reducible apply w_int | with_reducible apply w_obj | with_reducible apply thn_rt | with_reducible apply lp_nx | with_reducible apply fnl_int | with_reducible apply fnl_bl | with_reducible apply fnl_non | with_reducible apply fnl_str | with_reducible apply fnl_nx | with_reducible apply thn_bk | with_reducible apply thn_ct | with_reducible apply thn_xc | with_reducible apply lp_rt | with_reducible apply lp_bk | with_reducible apply lp_xc | with_reducible apply w_itL | with_reducible apply w_itT | with_reducible apply w_itK)
local macro_rules | `(tactic| walk_at "p") => `(tactic| repeat walk_at "w")
local macro_rules | `(tactic| walk_at "w") => `(tactic| first | ((with_reducible apply gR); first | with_reducible refine w_var rfl ?_ | with_reducible apply w_cons | with_reducible apply w_c | with_reducible apply w_nil | with_reducible apply w_op | with_reducible apply w_ap | with_reducible apply w_call | with_reducible apply w_tst | with_reducible apply w_un | with_reducible apply w_tand | with_reducible apply w_tor | with_reducible apply w_tnot | with_reducible apply w_yes | with_reducible apply w_and | with_reducible apply w_or | with_reducible apply w_not | with_reducible apply w_if | with_reducible apply w_chain | with_reducible apply w_isi | with_reducible apply w_isi2 | with_reducible apply w_prop | with_reducible apply w_meth | with_reducible apply w_dget | with_reducible apply w_dnewF | with_reducible apply w_dnewT | with_reducible apply w_part | with_reducible apply w_noPart | with_reducible apply w_slLF | with_reducible apply w_slA | with_reducible apply w_ok | with_reducible apply w_ofO | with_reducible apply w_lcI | with_reducible apply w_seqI | with_reducible apply w_rng1 | with_reducible apply w_rng2 | with_reducible apply w_enum) | ((with_reducible apply gO); first | with_reducible apply wo_add | with_reducible apply wo_sub | with_reducible apply wo_lt | with_reducible apply wo_gt | with_reducible apply wo_eq | with_reducible apply wo_ne | with_reducible apply wo_le | with_reducible apply wo_ge | with_reducible apply wo_neg | with_reducible apply wo_eqS | with_reducible apply wo_neS | with_reducible apply wo_min | with_reducible apply wo_max | with_reducible apply wo_int | with_reducible apply wo_abs | with_reducible apply wo_tupL | with_reducible apply wo_tupT | with_reducible refine wo_tup (by with_unfolding_all rfl) ?_ | with_reducible refine wo_lstF (by with_unfolding_all rfl) ?_ | with_reducible refine wo_lstT (by with_unfolding_all rfl) ?_ | with_reducible apply wo_fld0 | with_reducible apply wo_fld1 | with_reducible apply wo_fld2) | ((with_reducible apply gS); first | with_reducible apply w_seq | with_reducible apply w_asg | with_reducible apply w_sif | with_reducible apply w_next | with_reducible apply w_ret | with_reducible apply w_par | with_reducible apply w_drop | with_reducible apply w_asgT | with_reducible apply w_retN | with_reducible apply w_brk | with_reducible apply w_cnt | with_reducible apply w_raise | with_reducible apply w_forI) | ((with_reducible apply gI); first | with_reducible apply wI_t | with_reducible apply wI_f | with_reducible apply wI_not) | with_reducible apply w_bl | with_reducible apply thn_nx | with_reducible apply w_int | with_reducible apply w_obj | with_reducible apply thn_rt | with_reducible apply lp_nx | with_reducible apply fnl_int | with_reducible apply fnl_bl | with_reducible apply fnl_non | with_reducible apply fnl_str | with_reducible apply fnl_nx | with_reducible apply thn_bk | with_reducible apply thn_ct | with_reducible apply thn_xc | with_reducible apply lp_rt | with_reducible apply lp_bk | with_reducible apply lp_xc | with_reducible apply w_itL | with_reducible apply w_itT | with_reducible apply w_itK)
local macro_rules | `(tactic| walk_at "p") => `(tactic| repeat walk_at "w")
/-! S15: Wants moved, mirrored; walked. -/
theorem ne_tup (a b : List Rn) (C : Store) : oEqA true (.tup (rsD a)) (.tup (rsD b)) C = some (.bl (!decide (a = b)), C) := by
  show oEqD true (.tup (rsD a)) (.tup (rsD b)) C = _
  simp [oEqD, toP_tup, shp_t, PyData.eqv, eqv_rs]
def mvD (k : Int) : D → D
  | .tup [.int a, .int b] => .tup [.int (a + k), .int (b + k)]
  | _ => .non
def mirD (k : Int) : D → D
  | .tup [.int a, .int b] => .tup [.int (k - b), .int (k - a)]
  | _ => .non
section
variable {C : Store} {Q : D → Store → Prop} {X : Exc → Store → Prop} {E O rs : List Rn} {k : Int}
theorem moved_w (hl : rs.length ≤ 100000) (h : Q (.tup (rsD (movR k rs))) C) : wR (m_moved [.tup (rsD rs), .int k] C) Q X := by
  rw [e_moved]
  apply w_fin
  unfold b_moved
  walk_at "p"
  refine lc_p (pure_C _) (fun _ => true) (mvD k) (by rw [rsD_len]; omega) (fun x hx => ?_) (fun x hx _ => ?_) ?_
  · obtain ⟨r, _, rfl⟩ := List.mem_map.mp hx
    refine ⟨_, rfl, fun acc => ⟨w_yes ⟨rfl, rfl⟩, fun _ => ?_⟩⟩
    walk_at "p"
    exact ⟨rfl, rfl⟩
  · obtain ⟨r, _, rfl⟩ := List.mem_map.mp hx
    rfl
  · have e : ((rsD rs).filter fun _ => true).map (mvD k) = rsD (movR k rs) := by
      rw [filter_yes, rsD, rsD, movR, List.map_map, List.map_map]
      rfl
    rw [e]
    walk_at "p"
    exact fnl_p (cb_tup _ _) (by simpa using h)
theorem mirrored_w (hl : rs.length ≤ 100000) (h : Q (.tup (rsD (mirR k rs))) C) : wR (m_mirrored [.tup (rsD rs), .int k] C) Q X := by
  rw [e_mirrored]
  apply w_fin
  unfold b_mirrored
  walk_at "p"
  refine w_revT ?_
  walk_at "p"
  refine ⟨_, rfl, ?_⟩
  walk_at "p"
  have er : (rsD rs).reverse = rsD rs.reverse := by rw [rsD, rsD, List.map_reverse]
  rw [er]
  refine lc_p (pure_C _) (fun _ => true) (mirD k) (by rw [rsD_len, List.length_reverse]; omega) (fun x hx => ?_) (fun x hx _ => ?_) ?_
  · obtain ⟨r, _, rfl⟩ := List.mem_map.mp hx
    refine ⟨_, rfl, fun acc => ⟨w_yes ⟨rfl, rfl⟩, fun _ => ?_⟩⟩
    walk_at "p"
    exact ⟨rfl, rfl⟩
  · obtain ⟨r, _, rfl⟩ := List.mem_map.mp hx
    rfl
  · have e : ((rsD rs.reverse).filter fun _ => true).map (mirD k) = rsD (mirR k rs) := by
      rw [filter_yes, rsD, rsD, mirR, List.map_map, List.map_map]
      rfl
    rw [e]
    walk_at "p"
    exact fnl_p (cb_tup _ _) (by simpa using h)
theorem halves_moved_w (hE : E.length ≤ 100000) (hO : O.length ≤ 100000) (h : Q (hvD (mvW k E O).1 (mvW k E O).2) C) : wR (m_halves_moved [hvD E O, .int k] C) Q X := by
  rw [e_halves_moved]
  apply w_fin
  unfold b_halves_moved b_halves_moved_0 b_halves_moved_1
  walk_at "p"
  refine wo_ix rfl (k := 0) rfl rfl ?_
  walk_at "p"
  refine moved_w hE ?_
  walk_at "p"
  refine wo_ix rfl (k := 1) rfl rfl ?_
  walk_at "p"
  refine moved_w hO ?_
  walk_at "p"
  refine wo_mod (by decide) ?_
  walk_at "p"
  refine wI_d (fun e => ?_) fun e => ?_
  · walk_at "p"
    refine fnl_p (cb_hv _ _ _) ?_
    unfold mvW at h
    rw [if_pos e] at h
    simpa [hvD] using h
  · walk_at "p"
    refine wo_ix rfl (k := 1) rfl rfl ?_
    walk_at "p"
    refine wo_ix rfl (k := 0) rfl rfl ?_
    walk_at "p"
    refine fnl_p (cb_hv _ _ _) ?_
    unfold mvW at h
    rw [if_neg e] at h
    simpa [hvD] using h
theorem halves_mirrored_w (hE : E.length ≤ 100000) (hO : O.length ≤ 100000) (h : Q (hvD (miW k E O).1 (miW k E O).2) C) : wR (m_halves_mirrored [hvD E O, .int k] C) Q X := by
  rw [e_halves_mirrored]
  apply w_fin
  unfold b_halves_mirrored b_halves_mirrored_0 b_halves_mirrored_1
  walk_at "p"
  refine wo_ix rfl (k := 0) rfl rfl ?_
  walk_at "p"
  refine mirrored_w hE ?_
  walk_at "p"
  refine wo_ix rfl (k := 1) rfl rfl ?_
  walk_at "p"
  refine mirrored_w hO ?_
  walk_at "p"
  refine wo_mod (by decide) ?_
  walk_at "p"
  refine wI_d (fun e => ?_) fun e => ?_
  · walk_at "p"
    refine fnl_p (cb_hv _ _ _) ?_
    unfold miW at h
    rw [if_pos e] at h
    simpa [hvD] using h
  · walk_at "p"
    refine wo_ix rfl (k := 1) rfl rfl ?_
    walk_at "p"
    refine wo_ix rfl (k := 0) rfl rfl ?_
    walk_at "p"
    refine fnl_p (cb_hv _ _ _) ?_
    unfold miW at h
    rw [if_neg e] at h
    simpa [hvD] using h
theorem add_w (hE : E.length ≤ 100000) (hO : O.length ≤ 100000) (h : Q (wantD (mvW k E O).1 (mvW k E O).2) C) : wR (m_Want__add [wantD E O, .int k] C) Q X := by
  rw [e_Want__add]
  apply w_fin
  unfold b_Want__add b_Want__add_0 b_Want__add_1
  walk_at "p"
  refine w_of (is_integer_int k C) ?_
  walk_at "p"
  refine mk_kw ?_
  walk_at "p"
  refine halves_moved_w hE hO ⟨_, _, rfl, fnl_p (cb_want _ _ _) (by simpa using h)⟩
theorem rsub_w (hE : E.length ≤ 100000) (hO : O.length ≤ 100000) (h : Q (wantD (miW k E O).1 (miW k E O).2) C) : wR (m_Want__rsub [wantD E O, .int k] C) Q X := by
  rw [e_Want__rsub]
  apply w_fin
  unfold b_Want__rsub b_Want__rsub_0 b_Want__rsub_1
  walk_at "p"
  refine w_of (is_integer_int k C) ?_
  walk_at "p"
  refine mk_kw ?_
  walk_at "p"
  refine halves_mirrored_w hE hO ⟨_, _, rfl, fnl_p (cb_want _ _ _) (by simpa using h)⟩
theorem neg_w (hE : E.length ≤ 100000) (hO : O.length ≤ 100000) (h : Q (wantD (miW 0 E O).1 (miW 0 E O).2) C) : wR (m_Want__neg [wantD E O] C) Q X := by
  rw [e_Want__neg]
  apply w_fin
  unfold b_Want__neg
  walk_at "p"
  refine mk_kw ?_
  walk_at "p"
  refine halves_mirrored_w hE hO ⟨_, _, rfl, fnl_p (cb_want _ _ _) (by simpa using h)⟩
end
end CL
set_option maxHeartbeats 4000000
namespace CL
open PySem L2 CT
local macro_rules | `(tactic| walk_at "w") => `(tactic| first | ((with_reducible apply gR); first | with_reducible refine w_var rfl ?_ | with_reducible apply w_cons | with_reducible apply w_c | with_reducible apply w_nil | with_reducible apply w_op | with_reducible apply w_ap | with_reducible apply w_call | with_reducible apply w_tst | with_reducible apply w_un | with_reducible apply w_tand | with_reducible apply w_tor | with_reducible apply w_tnot | with_reducible apply w_yes | with_reducible apply w_and | with_reducible apply w_or | with_reducible apply w_not | with_reducible apply w_if | with_reducible apply w_chain | with_reducible apply w_isi | with_reducible apply w_isi2 | with_reducible apply w_prop | with_reducible apply w_meth | with_reducible apply w_dget | with_reducible apply w_dnewF | with_reducible apply w_dnewT | with_reducible apply w_part | with_reducible apply w_noPart | with_reducible apply w_slLF | with_reducible apply w_slA | with_reducible apply w_ok | with_reducible apply w_ofO | with_reducible apply w_lcI | with_reducible apply w_seqI | with_reducible apply w_rng1 | with_reducible apply w_rng2 | with_reducible apply w_enum) | ((with_reducible apply gO); first | with_reducible apply wo_add | with_reducible apply wo_sub | with_reducible apply wo_lt | with_reducible apply wo_gt | with_reducible apply wo_eq | with_reducible apply wo_ne | with_reducible apply wo_le | with_reducible apply wo_ge | with_reducible apply wo_neg | with_reducible apply wo_eqS | with_reducible apply wo_neS | with_reducible apply wo_min | with_reducible apply wo_max | with_reducible apply wo_int | with_reducible apply wo_abs | with_reducible apply wo_tupL | with_reducible apply wo_tupT | with_reducible refine wo_tup (by with_unfolding_all rfl) ?_ | with_reducible refine wo_lstF (by with_unfolding_all rfl) ?_ | with_reducible refine wo_lstT (by with_unfolding_all rfl) ?_ | with_reducible apply wo_fld0 | with_reducible apply wo_fld1 | with_reducible apply wo_fld2) | ((with_reducible apply gS); first | with_reducible apply w_seq | with_reducible apply w_asg | with_reducible apply w_sif | with_reducible apply w_next | with_reducible apply w_ret | with_reducible apply w_par | with_reducible apply w_drop | with_reducible apply w_asgT | with_reducible apply w_retN | with_reducible apply w_brk | with_reducible apply w_cnt | with_reducible apply w_raise | with_reducible apply w_forI) | ((with_reducible apply gI); first | with_reducible apply wI_t | with_reducible apply wI_f | with_reducible apply wI_not) | with_reducible apply w_bl | with_reducible apply thn_nx | with_reducible apply w_int | with_reducible apply w_obj | with_reducible apply thn_rt | with_reducible apply lp_nx | with_reducible apply fnl_int | with_reducible apply fnl_bl | with_reducible apply fnl_non | with_reducible apply fnl_str | with_reducible apply fnl_nx | with_reducible apply thn_bk | with_reducible apply thn_ct | with_reducible apply thn_xc | with_reducible apply lp_rt | with_reducible apply lp_bk | with_reducible apply lp_xc | with_reducible apply w_itL | with_reducible apply w_itT | with_reducible apply w_itK)
local macro_rules | `(tactic| walk_at "p") => `(tactic| repeat walk_at "w")
local macro_rules | `(tactic| walk_at "w") => `(tactic| first | ((with_reducible apply gR); first | with_reducible refine w_var rfl ?_ | with_reducible apply w_cons | with_reducible apply w_c | with_reducible apply w_nil | with_reducible apply w_op | with_reducible apply w_ap | with_reducible apply w_call | with_reducible apply w_tst | with_reducible apply w_un | with_reducible apply w_tand | with_reducible apply w_tor | with_reducible apply w_tnot | with_reducible apply w_yes | with_reducible apply w_and | with_reducible apply w_or | with_reducible apply w_not | with_reducible apply w_if | with_reducible apply w_chain | with_reducible apply w_isi | with_reducible apply w_isi2 | with_reducible apply w_prop | with_reducible apply w_meth | with_reducible apply w_dget | with_reducible apply w_dnewF | with_reducible apply w_dnewT | with_reducible apply w_part | with_reducible apply w_noPart | with_reducible apply w_slLF | with_reducible apply w_slA | with_reducible apply w_ok | with_reducible apply w_ofO | with_reducible apply w_lcI | with_reducible apply w_seqI | with_reducible apply w_rng1 | with_reducible apply w_rng2 | with_reducible apply w_enum) | ((with_reducible apply gO); first | with_reducible apply wo_add | with_reducible apply wo_sub | with_reducible apply wo_lt | with_reducible apply wo_gt | with_reducible apply wo_eq | with_reducible apply wo_ne | with_reducible apply wo_le | with_reducible apply wo_ge | with_reducible apply wo_neg | with_reducible apply wo_eqS | with_reducible apply wo_neS | with_reducible apply wo_min | with_reducible apply wo_max | with_reducible apply wo_int | with_reducible apply wo_abs | with_reducible apply wo_tupL | with_reducible apply wo_tupT | with_reducible refine wo_tup (by with_unfolding_all rfl) ?_ | with_reducible refine wo_lstF (by with_unfolding_all rfl) ?_ | with_reducible refine wo_lstT (by with_unfolding_all rfl) ?_ | with_reducible apply wo_fld0 | with_reducible apply wo_fld1 | with_reducible apply wo_fld2) | ((with_reducible apply gS); first | with_reducible apply w_seq | with_reducible apply w_asg | with_reducible apply w_sif | with_reducible apply w_next | with_reducible apply w_ret | with_reducible apply w_par | with_reducible apply w_drop | with_reducible apply w_asgT | with_reducible apply w_retN | with_reducible apply w_brk | with_reducible apply w_cnt | with_reducible apply w_raise | with_reducible apply w_forI) | ((with_reducible apply gI); first | with_reducible apply wI_t | with_reducible apply wI_f | with_reducible apply wI_not) | with_reducible apply w_bl | with_reducible apply thn_nx | with_reducible apply w_int | with_reducible apply w_obj | with_reducible apply thn_rt | with_reducible apply lp_nx | with_reducible apply fnl_int | with_reducible apply fnl_bl | with_reducible apply fnl_non | with_reducible apply fnl_str | with_reducible apply fnl_nx | with_reducible apply thn_bk | with_reducible apply thn_ct | with_reducible apply thn_xc | with_reducible apply lp_rt | with_reducible apply lp_bk | with_reducible apply lp_xc | with_reducible apply w_itL | with_reducible apply w_itT | with_reducible apply w_itK)
local macro_rules | `(tactic| walk_at "p") => `(tactic| repeat walk_at "w")
/-! S16: low, high, many, first of a Want; walked. -/
def neD2 : D → Bool
  | .tup (_ :: _) => true
  | _ => false
def hdD : D → D
  | .tup (.tup (d :: _) :: _) => d
  | _ => .non
def ltD : D → D
  | .tup xs => (match xs.getLast? with
    | some (.tup [_, d]) => d
    | _ => .non)
  | _ => .non
def oD : Option Int → D
  | some i => .int i
  | none => .non
theorem rs_last {l : List Rn} {r : Rn} (h : l.getLast? = some r) : (rsD l).getLast? = some (rD r) := by
  rw [rsD, List.getLast?_map, h]
  rfl
section
variable {C : Store} {Q : D → Store → Prop} {X : Exc → Store → Prop} {E O : List Rn}
theorem wo_lastT {l : List Rn} {r : Rn} (hl : l.getLast? = some r) (h : Q (rD r) C) : wO (oIx (.tup (rsD l)) (.int (-1)) C) Q := by
  have hp : 0 < l.length := by
    cases l with
    | nil => cases hl
    | cons _ _ => simp
  have e : atI (rsD l) (-1) = some (rD r) := by
    unfold atI ixN
    rw [if_neg (by decide), if_pos (by rw [rsD_len]; omega), rsD_len]
    have e1 : ((-1 : Int) + l.length).toNat = l.length - 1 := by omega
    show (rsD l)[((-1 : Int) + l.length).toNat]? = _
    rw [e1, ← rs_last hl, List.getLast?_eq_getElem?, rsD_len]
  refine wo_of (d := rD r) (C' := C) ?_ h
  show ((some (rsD l)).bind fun xs => (atI xs (-1)).map fun d => (d, C)) = _
  rw [Option.bind_some, e]
  rfl
theorem w_mnd {f : Int → Int → Int} {a b : ME} {F : Fr} (h : wR (a F C) (fun x C1 => wR (b F C1) (fun z C2 => ∃ ns, (vL x C2).bind dInts = some ns ∧ (match ns with | [] => Q z C2 | y :: ys => Q (.int (ys.foldl f y)) C2)) X) X) : wR (mMnD f a b F C) Q X := by
  unfold mMnD
  refine w_bnd (w_mono h (fun x C1 g => w_bnd (w_mono g (fun z C2 g => ?_) fun _ _ z => z)) fun _ _ z => z)
  obtain ⟨ns, e, g⟩ := g
  rw [e]
  cases ns with
  | nil => exact w_ok g
  | cons y ys => exact w_ok g
theorem two_t {y : D} (hy : y ∈ [D.tup (rsD E), D.tup (rsD O)]) : ∃ l : List Rn, y = .tup (rsD l) := by
  simp only [List.mem_cons, List.not_mem_nil, or_false] at hy
  rcases hy with rfl | rfl <;> exact ⟨_, rfl⟩
theorem lowA_w (h : Q (oD (loO (E.head?.map (·.1)) (O.head?.map (·.1)))) C) : wR (m_Want_low [wantD E O] C) Q X := by
  rw [e_Want_low]
  apply w_fin
  unfold b_Want_low
  walk_at "p"
  refine w_mnd ?_
  walk_at "p"
  refine ⟨_, rfl, ?_⟩
  refine lc_p (pure_C _) neD2 hdD (by simp) (fun y hy => ?_) (fun y hy hn => ?_) ?_
  · obtain ⟨l, rfl⟩ := two_t hy
    refine ⟨_, rfl, fun acc => ⟨?_, fun hn => ?_⟩⟩
    · walk_at "p"
      refine wo_of (ne_tup l [] _) ?_
      walk_at "p"
      cases l with
      | nil => exact ⟨rfl, rfl⟩
      | cons r l => exact ⟨rfl, rfl⟩
    · cases l with
      | nil => cases hn
      | cons r l =>
        walk_at "p"
        refine wo_ix rfl (k := 0) rfl rfl ?_
        walk_at "p"
        refine wo_ix rfl (k := 0) rfl rfl ?_
        exact ⟨rfl, rfl⟩
  · obtain ⟨l, rfl⟩ := two_t hy
    cases l with
    | nil => cases hn
    | cons r l => rfl
  · walk_at "p"
    cases E with
    | nil =>
      cases O with
      | nil =>
        refine ⟨[], rfl, ?_⟩
        exact fnl_p rfl (by rw [List.take_length]; exact h)
      | cons r O =>
        refine ⟨[r.1], rfl, ?_⟩
        exact fnl_p rfl (by rw [List.take_length]; exact h)
    | cons r E =>
      cases O with
      | nil =>
        refine ⟨[r.1], rfl, ?_⟩
        exact fnl_p rfl (by rw [List.take_length]; exact h)
      | cons r2 O =>
        refine ⟨[r.1, r2.1], rfl, ?_⟩
        exact fnl_p rfl (by rw [List.take_length]; exact h)
theorem highA_w (h : Q (oD (hiO (E.getLast?.map (·.2)) (O.getLast?.map (·.2)))) C) : wR (m_Want_high [wantD E O] C) Q X := by
  have lt : ∀ {l : List Rn} {r : Rn}, l.getLast? = some r → ltD (.tup (rsD l)) = .int r.2 := fun {l r} e => by
    unfold ltD
    simp only [rs_last e]
    rfl
  rw [e_Want_high]
  apply w_fin
  unfold b_Want_high
  walk_at "p"
  refine w_mnd ?_
  walk_at "p"
  refine ⟨_, rfl, ?_⟩
  refine lc_p (pure_C _) neD2 ltD (by simp) (fun y hy => ?_) (fun y hy hn => ?_) ?_
  · obtain ⟨l, rfl⟩ := two_t hy
    refine ⟨_, rfl, fun acc => ⟨?_, fun hn => ?_⟩⟩
    · walk_at "p"
      refine wo_of (ne_tup l [] _) ?_
      walk_at "p"
      cases l with
      | nil => exact ⟨rfl, rfl⟩
      | cons r l => exact ⟨rfl, rfl⟩
    · have hne : l ≠ [] := fun e => by subst e; cases hn
      obtain ⟨r, hr⟩ := last_nil hne
      walk_at "p"
      refine wo_lastT hr ?_
      walk_at "p"
      refine wo_ix rfl (k := 1) rfl rfl ?_
      exact ⟨(lt hr).symm, rfl⟩
  · obtain ⟨l, rfl⟩ := two_t hy
    have hne : l ≠ [] := fun e => by subst e; cases hn
    obtain ⟨r, hr⟩ := last_nil hne
    rw [lt hr]
    rfl
  · walk_at "p"
    by_cases hE : E = []
    · subst hE
      by_cases hO : O = []
      · subst hO
        refine ⟨[], rfl, ?_⟩
        exact fnl_p rfl (by rw [List.take_length]; exact h)
      · obtain ⟨r, hr⟩ := last_nil hO
        have f : neD2 (.tup (rsD O)) = true := by cases O with | nil => exact absurd rfl hO | cons _ _ => rfl
        refine ⟨[r.2], ?_, ?_⟩
        · simp only [List.filter_cons, f, show neD2 (.tup (rsD [])) = false from rfl, if_true, if_false, Bool.false_eq_true, List.filter_nil, List.map_cons, List.map_nil, lt hr]
          rfl
        · rw [hr] at h
          exact fnl_p rfl (by rw [List.take_length]; exact h)
    · obtain ⟨r, hr⟩ := last_nil hE
      have f : neD2 (.tup (rsD E)) = true := by cases E with | nil => exact absurd rfl hE | cons _ _ => rfl
      by_cases hO : O = []
      · subst hO
        refine ⟨[r.2], ?_, ?_⟩
        · simp only [List.filter_cons, f, show neD2 (.tup (rsD [])) = false from rfl, if_true, if_false, Bool.false_eq_true, List.filter_nil, List.map_cons, List.map_nil, lt hr]
          rfl
        · rw [hr] at h
          exact fnl_p rfl (by rw [List.take_length]; exact h)
      · obtain ⟨r2, hr2⟩ := last_nil hO
        have f2 : neD2 (.tup (rsD O)) = true := by cases O with | nil => exact absurd rfl hO | cons _ _ => rfl
        refine ⟨[r.2, r2.2], ?_, ?_⟩
        · simp only [List.filter_cons, f, f2, if_true, List.filter_nil, List.map_cons, List.map_nil, lt hr, lt hr2]
          rfl
        · rw [hr, hr2] at h
          exact fnl_p rfl (by rw [List.take_length]; exact h)
def cnD : D → D → D
  | _, .tup [.int a, .int b] => .int ((b - a) / 2 + 1)
  | _, _ => .non
def itD2 : D → List D
  | .tup xs => xs
  | _ => []
theorem flat_cn (E O : List Rn) : flat2 [.tup (rsD E), .tup (rsD O)] itD2 (fun _ _ => true) cnD = ((E ++ O).map fun r => (r.2 - r.1) / 2 + 1).map D.int := by
  have e : ∀ l : List Rn, ((rsD l).map (cnD (.tup (rsD l)))) = (l.map fun r => (r.2 - r.1) / 2 + 1).map D.int := fun l => by
    rw [rsD, List.map_map, List.map_map]
    rfl
  simp only [flat2, itD2, List.flatMap_cons, List.flatMap_nil, filter_yes, List.append_nil, List.map_append, e]
theorem many_w (hE : E.length ≤ 100000) (hO : O.length ≤ 100000) (h : Q (.int (cntR E + cntR O)) C) : wR (m_Want_many [wantD E O] C) Q X := by
  rw [e_Want_many]
  apply w_fin
  unfold b_Want_many
  walk_at "p"
  refine w_of (ev_lc2 (C := C) (pure_C [.tup (rsD E), .tup (rsD O)]) itD2 (fun _ _ => true) cnD 100000 (ev_seqI (d := hvD E O) rfl rfl) ?_ (by simp) (by omega) ?_ ?_) ?_
  · intro x hx
    simp only [List.mem_cons, List.not_mem_nil, or_false] at hx
    rcases hx with rfl | rfl <;> simpa [itD2]
  · intro x hx
    obtain ⟨l, rfl⟩ := two_t hx
    refine ⟨_, rfl, fun acc => ⟨⟨itC (rsD l), pure_C _, rfl⟩, fun y hy => ?_⟩⟩
    obtain ⟨r, _, rfl⟩ := List.mem_map.mp hy
    refine ⟨_, rfl, fun acc => ⟨rfl, fun _ => ?_⟩⟩
    refine w_eqv ?_
    walk_at "p"
    refine wo_div (by decide) (by decide) ?_
    walk_at "p"
    exact ⟨rfl, rfl⟩
  · intro x hx y hy _
    obtain ⟨l, rfl⟩ := two_t hx
    obtain ⟨r, _, rfl⟩ := List.mem_map.mp hy
    rfl
  · rw [flat_cn]
    walk_at "p"
    refine wo_of (d := .int ((E ++ O).map fun r => (r.2 - r.1) / 2 + 1).sum) (C' := C) (by simp only [oSum, vL, Option.bind_some, dInts_map, Option.map_some]) ?_
    have e : ((E ++ O).map fun r => (r.2 - r.1) / 2 + 1).sum = cntR E + cntR O := by simp [cntR]
    rw [e]
    exact fnl_p rfl (by simpa using h)
end
end CL
set_option maxHeartbeats 4000000
namespace CL
open PySem L2 CT
local macro_rules | `(tactic| walk_at "w") => `(tactic| first | ((with_reducible apply gR); first | with_reducible refine w_var rfl ?_ | with_reducible apply w_cons | with_reducible apply w_c | with_reducible apply w_nil | with_reducible apply w_op | with_reducible apply w_ap | with_reducible apply w_call | with_reducible apply w_tst | with_reducible apply w_un | with_reducible apply w_tand | with_reducible apply w_tor | with_reducible apply w_tnot | with_reducible apply w_yes | with_reducible apply w_and | with_reducible apply w_or | with_reducible apply w_not | with_reducible apply w_if | with_reducible apply w_chain | with_reducible apply w_isi | with_reducible apply w_isi2 | with_reducible apply w_prop | with_reducible apply w_meth | with_reducible apply w_dget | with_reducible apply w_dnewF | with_reducible apply w_dnewT | with_reducible apply w_part | with_reducible apply w_noPart | with_reducible apply w_slLF | with_reducible apply w_slA | with_reducible apply w_ok | with_reducible apply w_ofO | with_reducible apply w_lcI | with_reducible apply w_seqI | with_reducible apply w_rng1 | with_reducible apply w_rng2 | with_reducible apply w_enum) | ((with_reducible apply gO); first | with_reducible apply wo_add | with_reducible apply wo_sub | with_reducible apply wo_lt | with_reducible apply wo_gt | with_reducible apply wo_eq | with_reducible apply wo_ne | with_reducible apply wo_le | with_reducible apply wo_ge | with_reducible apply wo_neg | with_reducible apply wo_eqS | with_reducible apply wo_neS | with_reducible apply wo_min | with_reducible apply wo_max | with_reducible apply wo_int | with_reducible apply wo_abs | with_reducible apply wo_tupL | with_reducible apply wo_tupT | with_reducible refine wo_tup (by with_unfolding_all rfl) ?_ | with_reducible refine wo_lstF (by with_unfolding_all rfl) ?_ | with_reducible refine wo_lstT (by with_unfolding_all rfl) ?_ | with_reducible apply wo_fld0 | with_reducible apply wo_fld1 | with_reducible apply wo_fld2) | ((with_reducible apply gS); first | with_reducible apply w_seq | with_reducible apply w_asg | with_reducible apply w_sif | with_reducible apply w_next | with_reducible apply w_ret | with_reducible apply w_par | with_reducible apply w_drop | with_reducible apply w_asgT | with_reducible apply w_retN | with_reducible apply w_brk | with_reducible apply w_cnt | with_reducible apply w_raise | with_reducible apply w_forI) | ((with_reducible apply gI); first | with_reducible apply wI_t | with_reducible apply wI_f | with_reducible apply wI_not) | with_reducible apply w_bl | with_reducible apply thn_nx | with_reducible apply w_int | with_reducible apply w_obj | with_reducible apply thn_rt | with_reducible apply lp_nx | with_reducible apply fnl_int | with_reducible apply fnl_bl | with_reducible apply fnl_non | with_reducible apply fnl_str | with_reducible apply fnl_nx | with_reducible apply thn_bk | with_reducible apply thn_ct | with_reducible apply thn_xc | with_reducible apply lp_rt | with_reducible apply lp_bk | with_reducible apply lp_xc | with_reducible apply w_itL | with_reducible apply w_itT | with_reducible apply w_itK)
local macro_rules | `(tactic| walk_at "p") => `(tactic| repeat walk_at "w")
local macro_rules | `(tactic| walk_at "w") => `(tactic| first | ((with_reducible apply gR); first | with_reducible refine w_var rfl ?_ | with_reducible apply w_cons | with_reducible apply w_c | with_reducible apply w_nil | with_reducible apply w_op | with_reducible apply w_ap | with_reducible apply w_call | with_reducible apply w_tst | with_reducible apply w_un | with_reducible apply w_tand | with_reducible apply w_tor | with_reducible apply w_tnot | with_reducible apply w_yes | with_reducible apply w_and | with_reducible apply w_or | with_reducible apply w_not | with_reducible apply w_if | with_reducible apply w_chain | with_reducible apply w_isi | with_reducible apply w_isi2 | with_reducible apply w_prop | with_reducible apply w_meth | with_reducible apply w_dget | with_reducible apply w_dnewF | with_reducible apply w_dnewT | with_reducible apply w_part | with_reducible apply w_noPart | with_reducible apply w_slLF | with_reducible apply w_slA | with_reducible apply w_ok | with_reducible apply w_ofO | with_reducible apply w_lcI | with_reducible apply w_seqI | with_reducible apply w_rng1 | with_reducible apply w_rng2 | with_reducible apply w_enum) | ((with_reducible apply gO); first | with_reducible apply wo_add | with_reducible apply wo_sub | with_reducible apply wo_lt | with_reducible apply wo_gt | with_reducible apply wo_eq | with_reducible apply wo_ne | with_reducible apply wo_le | with_reducible apply wo_ge | with_reducible apply wo_neg | with_reducible apply wo_eqS | with_reducible apply wo_neS | with_reducible apply wo_min | with_reducible apply wo_max | with_reducible apply wo_int | with_reducible apply wo_abs | with_reducible apply wo_tupL | with_reducible apply wo_tupT | with_reducible refine wo_tup (by with_unfolding_all rfl) ?_ | with_reducible refine wo_lstF (by with_unfolding_all rfl) ?_ | with_reducible refine wo_lstT (by with_unfolding_all rfl) ?_ | with_reducible apply wo_fld0 | with_reducible apply wo_fld1 | with_reducible apply wo_fld2) | ((with_reducible apply gS); first | with_reducible apply w_seq | with_reducible apply w_asg | with_reducible apply w_sif | with_reducible apply w_next | with_reducible apply w_ret | with_reducible apply w_par | with_reducible apply w_drop | with_reducible apply w_asgT | with_reducible apply w_retN | with_reducible apply w_brk | with_reducible apply w_cnt | with_reducible apply w_raise | with_reducible apply w_forI) | ((with_reducible apply gI); first | with_reducible apply wI_t | with_reducible apply wI_f | with_reducible apply wI_not) | with_reducible apply w_bl | with_reducible apply thn_nx | with_reducible apply w_int | with_reducible apply w_obj | with_reducible apply thn_rt | with_reducible apply lp_nx | with_reducible apply fnl_int | with_reducible apply fnl_bl | with_reducible apply fnl_non | with_reducible apply fnl_str | with_reducible apply fnl_nx | with_reducible apply thn_bk | with_reducible apply thn_ct | with_reducible apply thn_xc | with_reducible apply lp_rt | with_reducible apply lp_bk | with_reducible apply lp_xc | with_reducible apply w_itL | with_reducible apply w_itT | with_reducible apply w_itK)
local macro_rules | `(tactic| walk_at "p") => `(tactic| repeat walk_at "w")
/-! S17: lists of ints sorted; first of a Want. -/
def sI (ns : List Int) : List Int := ns.mergeSort fun a b => decide (a ≤ b)
theorem sI_mem {ns : List Int} {x : Int} : x ∈ sI ns ↔ x ∈ ns := List.mem_mergeSort
theorem sI_le (ns : List Int) : (sI ns).Pairwise (· ≤ ·) := (List.pairwise_mergeSort (le := fun a b : Int => decide (a ≤ b)) (fun a b c h1 h2 => by simp only [decide_eq_true_eq] at *; omega) (fun a b => by simp only [Bool.or_eq_true, decide_eq_true_eq]; omega) ns).imp fun h => of_decide_eq_true h
theorem lt_of_le_nd : ∀ {l : List Int}, l.Pairwise (· ≤ ·) → l.Nodup → l.Pairwise (· < ·)
  | [], _, _ => .nil
  | x :: l, h, d => by
    obtain ⟨h1, h2⟩ := List.pairwise_cons.mp h
    obtain ⟨d1, d2⟩ := List.nodup_cons.mp d
    refine List.pairwise_cons.mpr ⟨fun y hy => ?_, lt_of_le_nd h2 d2⟩
    have a := h1 y hy
    have b : x ≠ y := fun z => d1 (z ▸ hy)
    omega
theorem sI_up {ns : List Int} (h : ns.Nodup) : (sI ns).Pairwise (· < ·) := lt_of_le_nd (sI_le ns) ((List.mergeSort_perm ns _).nodup_iff.mpr h)
theorem up_nd {l : List Int} (h : l.Pairwise (· < ·)) : l.Nodup := h.imp fun e => by omega
theorem le_enc (C : Store) (p q : Int) : PySem.W.dataLe false (encD C) (.int p) (.int q) = decide (p ≤ q) := congrFun (congrFun (PySem.W.dataLe_int fun b : Int => b) p) q
theorem sort_ints (l : List Int) (C : Store) : (l.map D.int).mergeSort (PySem.W.dataLe false (encD C)) = (sI l).map D.int :=
  (List.map_mergeSort (r := fun a b => decide (a ≤ b)) (s := PySem.W.dataLe false (encD C)) (f := D.int) (l := l) (fun a _ b _ => (le_enc C a b).symm)).symm
theorem ok_ints (l : List Int) (C : Store) : (((l.map D.int).all fun d => (toP C d).isSome && decide ((encD C d).depth ≤ 60)) && srtb ((l.map D.int).map (encD C))) = true := by
  have e : ∀ p ∈ (l.map D.int).map (encD C), ∃ a : Int, p = .int a := fun p hp => by
    obtain ⟨k, hk, rfl⟩ := List.mem_map.mp hp
    obtain ⟨q, _, rfl⟩ := List.mem_map.mp hk
    exact ⟨q, rfl⟩
  simp only [Bool.and_eq_true, srtb, Bool.or_eq_true, List.all_eq_true]
  refine ⟨fun d hd => ?_, fun x hx y hy => ?_, .inr fun x hx => ?_⟩
  · obtain ⟨q, _, rfl⟩ := List.mem_map.mp hd
    exact ⟨rfl, decide_eq_true (show (0 : Nat) ≤ 60 by decide)⟩
  · obtain ⟨a, rfl⟩ := e x hx
    obtain ⟨b, rfl⟩ := e y hy
    rfl
  · obtain ⟨a, rfl⟩ := e x hx
    rfl
theorem sortQ_i {own : Bool} {d : D} {ns : List Int} {C : Store} (h : vL d C = some (ns.map .int)) : oSortQ own [d] C = some (mkL own ((sI ns).map .int) C) := by
  have e := ok_ints ns C
  simp only [oSortQ, oSortL, h, e, if_true, sort_ints]
theorem rn2_cut (a h : Int) (n : Nat) (ha : a ≤ h) : rn2 a (min h (a + 2 * n - 2) + 1) = min n (rn2 a (h + 1)) := by
  unfold rn2
  omega
theorem rgI2_cut (r : Rn) (n : Nat) (h : r.1 ≤ r.2) : rgI2 r.1 (min r.2 (r.1 + 2 * n - 2) + 1) = (exR1 r).take n := by
  unfold exR1 rgI2
  rw [rn2_cut _ _ _ h, ← List.map_take, List.take_range]
theorem ex_step (l : List Rn) (r : Rn) (c : Nat) : (exR (l ++ [r])).take c = (exR l).take c ++ (exR1 r).take (c - (exR l).length) := by
  have e3 : exR [r] = exR1 r := by simp [exR]
  rw [exR_app, e3, List.take_append]
section
variable {C : Store} {Q : D → Store → Prop} {X : Exc → Store → Prop} {E O : List Rn}
theorem first_in {l : List Rn} {b : List Int} {c : Nat} {s0 s1 s5 s6 s7 : Option D} {fl : Nat} {P : RS → Prop} (hr : ∀ r ∈ l, r.1 ≤ r.2 ∧ -1000000000000 ≤ r.1 ∧ r.2 ≤ 1000000000000) (hc : c ≤ 2000) (hb : b.length ≤ 10000) (hf : fl ≤ C.length)
    (fin : ∀ s4 s5 s6 s7, P (.nx [s0, s1, some (.cell C.length), some (.tup (rsD l)), s4, s5, s6, s7] (C ++ [some (.lst ((b ++ (exR l).take c).map .int))]))) :
    wS (b_Want_first_1b_1 ⟨fl, [s0, s1, some (.cell C.length), some (.tup (rsD l)), some (.int c), s5, s6, s7]⟩ (C ++ [some (.lst (b.map .int))])) P := by
  unfold b_Want_first_1b_1
  walk_at "p"
  refine loop_p (pure_C _) (fun j sl S => S = C ++ [some (.lst ((b ++ (exR (l.take j)).take c).map .int))] ∧ ∃ s5 s6 s7, sl = [s0, s1, some (.cell C.length), some (.tup (rsD l)), some (.int ((c - (exR (l.take j)).length : Nat))), s5, s6, s7]) ⟨by simp [exR], s5, s6, s7, by simp [exR]⟩ ?_ ?_
  · rintro j y sl S hy ⟨rfl, t5, t6, t7, rfl⟩
    obtain ⟨r, hr', rfl⟩ := rs_get hy
    obtain ⟨r1, r2, r3⟩ := hr r (List.mem_of_getElem? hr')
    have hjl : j < l.length := (List.getElem?_eq_some_iff.mp hr').1
    have tkj : l.take (j + 1) = l.take j ++ [r] := by
      rw [← (List.getElem?_eq_some_iff.mp hr').2]
      exact (List.take_append_getElem hjl).symm
    have st := ex_step (l.take j) r c
    have ln : (exR (l.take (j + 1))).length = (exR (l.take j)).length + (exR1 r).length := by
      have e3 : exR [r] = exR1 r := by simp [exR]
      rw [tkj, exR_app, e3, List.length_append]
    have lz : ((exR (l.take j)).take c).length ≤ c := by rw [List.length_take]; omega
    rw [← tkj] at st
    have cutE := rgI2_cut r (c - (exR (l.take j)).length) r1
    have hz : (rgI2 r.1 (min r.2 (r.1 + 2 * ((c - (exR (l.take j)).length : Nat)) - 2) + 1)).length ≤ 2000 := by
      rw [cutE, List.length_take]
      omega
    refine ⟨[s0, s1, some (.cell C.length), some (.tup (rsD l)), some (.int ((c - (exR (l.take j)).length : Nat))), some (.int r.1), some (.int r.2), t7], rfl, ?_⟩
    generalize (exR (l.take j)).take c = g at st lz
    generalize hn : c - (exR (l.take j)).length = n at cutE st hz
    walk_at "p"
    unfold b_Want_first_1b_1b_0
    walk_at "p"
    refine w_rng3F ?_
    walk_at "p"
    refine wo_mul (by simp [cMul]) ?_
    walk_at "p"
    refine ⟨_, _, rfl, rfl, rfl, ?_, ?_⟩
    · rw [rgI2_len] at hz
      simp only [rgOk2, Bool.and_eq_true, decide_eq_true_eq]
      omega
    · rw [cutE]
      rw [cutE] at hz
      walk_at "p"
      unfold b_Want_first_1b_1b_1
      have at_n : (C ++ [some (Cell.lst ((b ++ g).map .int))])[C.length]? = some (some (.lst ((b ++ g).map .int))) := by simp
      walk_at "p"
      refine w_extend ?_
      walk_at "p"
      refine ⟨by simp [vL, at_n], ?_⟩
      walk_at "p"
      refine ⟨C.length, (b ++ g).map .int, ((exR1 r).take n).map .int, by simp only [cL, at_n], rfl, hf, by simp only [List.length_map, List.length_append]; omega, ?_⟩
      walk_at "p"
      unfold b_Want_first_1b_1b_2
      refine w_aug rfl ?_
      walk_at "p"
      refine wo_len (xs := ((exR1 r).take n).map .int) rfl ?_
      refine ⟨_, rfl, ?_⟩
      have ev : ((c - (exR (l.take (j + 1))).length : Nat) : Int) = (n : Int) - ((((exR1 r).take n).map D.int).length : Nat) := by
        rw [ln, List.length_map, List.length_take]
        omega
      refine ⟨by rw [st]; simp, some (.int r.1), some (.int r.2), some (.lst (((exR1 r).take n).map .int)), ?_⟩
      rw [ev]
      rfl
  · rintro sl S ⟨rfl, t5, t6, t7, rfl⟩
    rw [rsD_len, List.take_length]
    exact fin _ _ _ _
theorem first_w {c : Nat} {xs : List Int} (h : CW E O) (hx : ∀ x, inW E O x ↔ x ∈ xs) (hr : ∀ r ∈ E ++ O, -1000000000000 ≤ r.1 ∧ r.2 ≤ 1000000000000) (hc : c ≤ 1000) (q : Q (.cell C.length) (C ++ [some (.lst (((srtI xs).take c).map .int))])) : wR (m_Want_first [wantD E O, .int c] C) Q X := by
  have re : ∀ r ∈ E, r.1 ≤ r.2 ∧ -1000000000000 ≤ r.1 ∧ r.2 ≤ 1000000000000 := fun r m => ⟨(h.e.ok r m).1, hr r (List.mem_append_left _ m)⟩
  have ro : ∀ r ∈ O, r.1 ≤ r.2 ∧ -1000000000000 ≤ r.1 ∧ r.2 ≤ 1000000000000 := fun r m => ⟨(h.o.ok r m).1, hr r (List.mem_append_right _ m)⟩
  have eE : exR E = (srtI xs).filter (par 0) := ex_filt h.e srtI_up fun x hp => by rw [srtI_mem, ← hx x, inW_e hp]
  have eO : exR O = (srtI xs).filter (par 1) := ex_filt h.o srtI_up fun x hp => by rw [srtI_mem, ← hx x, inW_o hp]
  rw [e_Want_first]
  apply w_finO
  unfold b_Want_first b_Want_first_0 b_Want_first_1
  walk_at "p"
  refine ⟨_, rfl, ?_⟩
  refine loop_p (pure_C _) (fun j sl S => S = C ++ [some (.lst ((match j with | 0 => [] | 1 => (exR E).take c | _ => (exR E).take c ++ (exR O).take c : List Int).map .int))] ∧ ∃ s3 s4 s5 s6 s7, sl = [some (wantD E O), some (.int c), some (.cell C.length), s3, s4, s5, s6, s7]) ⟨rfl, _, _, _, _, _, rfl⟩ ?_ ?_
  · rintro j y sl S hy ⟨rfl, s3, s4, s5, s6, s7, rfl⟩
    match j, hy with
    | 0, hy =>
      cases hy
      refine ⟨_, rfl, ?_⟩
      walk_at "p"
      unfold b_Want_first_1b_0
      walk_at "p"
      refine first_in (b := []) re (by omega) (by simp) (Nat.le_refl _) fun s4 s5 s6 s7 => ?_
      exact ⟨by simp, _, _, _, _, _, rfl⟩
    | 1, hy =>
      cases hy
      refine ⟨_, rfl, ?_⟩
      walk_at "p"
      unfold b_Want_first_1b_0
      walk_at "p"
      refine first_in (b := (exR E).take c) ro (by omega) (by rw [List.length_take]; omega) (Nat.le_refl _) fun s4 s5 s6 s7 => ?_
      exact ⟨by simp, _, _, _, _, _, rfl⟩
    | j + 2, hy => exact absurd hy (by simp)
  · rintro sl S ⟨rfl, s3, s4, s5, s6, s7, rfl⟩
    walk_at "p"
    unfold b_Want_first_2
    walk_at "p"
    refine w_slLT ?_
    walk_at "p"
    have at_n : ∀ l : List D, (C ++ [some (Cell.lst l)])[C.length]? = some (some (.lst l)) := fun l => by simp
    refine wo_of (sortQ_i (own := false) (ns := (exR E).take c ++ (exR O).take c) (by simp [vL])) ?_
    walk_at "p"
    refine ⟨_, rfl, ?_⟩
    have nd : ((exR E).take c ++ (exR O).take c).Nodup := by
      refine List.nodup_append.mpr ⟨(up_nd (exR_up h.e)).sublist (List.take_sublist ..), (up_nd (exR_up h.o)).sublist (List.take_sublist ..), fun a ha b hb e => ?_⟩
      subst e
      have h1 := ((exR_mem h.e).mp (List.mem_of_mem_take ha)).1
      have h2 := ((exR_mem h.o).mp (List.mem_of_mem_take hb)).1
      omega
    have key : (sI ((exR E).take c ++ (exR O).take c)).take c = (srtI xs).take c := by
      refine first_one srtI_up (sI_up nd) fun x => ?_
      rw [sI_mem, List.mem_append, eE, eO]
    have ct : cutD ((sI ((exR E).take c ++ (exR O).take c)).map D.int) none (some (c : Int)) = ((srtI xs).take c).map .int := by
      rw [← key]
      have e : ¬ ((c : Int) < 0) := by omega
      simp [cutD, HT.sIx, e, List.take_eq_take_iff]
    rw [ct]
    refine fnlO_own (xs := ((srtI xs).take c).map .int) (by simp) (by simp) (cbL_all fun d hd => by obtain ⟨z, _, rfl⟩ := List.mem_map.mp hd; rfl) ?_
    simpa using q
end
end CL
set_option maxHeartbeats 4000000
namespace CL
open PySem L2 CT
local macro_rules | `(tactic| walk_at "w") => `(tactic| first | ((with_reducible apply gR); first | with_reducible refine w_var rfl ?_ | with_reducible apply w_cons | with_reducible apply w_c | with_reducible apply w_nil | with_reducible apply w_op | with_reducible apply w_ap | with_reducible apply w_call | with_reducible apply w_tst | with_reducible apply w_un | with_reducible apply w_tand | with_reducible apply w_tor | with_reducible apply w_tnot | with_reducible apply w_yes | with_reducible apply w_and | with_reducible apply w_or | with_reducible apply w_not | with_reducible apply w_if | with_reducible apply w_chain | with_reducible apply w_isi | with_reducible apply w_isi2 | with_reducible apply w_prop | with_reducible apply w_meth | with_reducible apply w_dget | with_reducible apply w_dnewF | with_reducible apply w_dnewT | with_reducible apply w_part | with_reducible apply w_noPart | with_reducible apply w_slLF | with_reducible apply w_slA | with_reducible apply w_ok | with_reducible apply w_ofO | with_reducible apply w_lcI | with_reducible apply w_seqI | with_reducible apply w_rng1 | with_reducible apply w_rng2 | with_reducible apply w_enum) | ((with_reducible apply gO); first | with_reducible apply wo_add | with_reducible apply wo_sub | with_reducible apply wo_lt | with_reducible apply wo_gt | with_reducible apply wo_eq | with_reducible apply wo_ne | with_reducible apply wo_le | with_reducible apply wo_ge | with_reducible apply wo_neg | with_reducible apply wo_eqS | with_reducible apply wo_neS | with_reducible apply wo_min | with_reducible apply wo_max | with_reducible apply wo_int | with_reducible apply wo_abs | with_reducible apply wo_tupL | with_reducible apply wo_tupT | with_reducible refine wo_tup (by with_unfolding_all rfl) ?_ | with_reducible refine wo_lstF (by with_unfolding_all rfl) ?_ | with_reducible refine wo_lstT (by with_unfolding_all rfl) ?_ | with_reducible apply wo_fld0 | with_reducible apply wo_fld1 | with_reducible apply wo_fld2) | ((with_reducible apply gS); first | with_reducible apply w_seq | with_reducible apply w_asg | with_reducible apply w_sif | with_reducible apply w_next | with_reducible apply w_ret | with_reducible apply w_par | with_reducible apply w_drop | with_reducible apply w_asgT | with_reducible apply w_retN | with_reducible apply w_brk | with_reducible apply w_cnt | with_reducible apply w_raise | with_reducible apply w_forI) | ((with_reducible apply gI); first | with_reducible apply wI_t | with_reducible apply wI_f | with_reducible apply wI_not) | with_reducible apply w_bl | with_reducible apply thn_nx | with_reducible apply w_int | with_reducible apply w_obj | with_reducible apply thn_rt | with_reducible apply lp_nx | with_reducible apply fnl_int | with_reducible apply fnl_bl | with_reducible apply fnl_non | with_reducible apply fnl_str | with_reducible apply fnl_nx | with_reducible apply thn_bk | with_reducible apply thn_ct | with_reducible apply thn_xc | with_reducible apply lp_rt | with_reducible apply lp_bk | with_reducible apply lp_xc | with_reducible apply w_itL | with_reducible apply w_itT | with_reducible apply w_itK)
local macro_rules | `(tactic| walk_at "p") => `(tactic| repeat walk_at "w")
local macro_rules | `(tactic| walk_at "w") => `(tactic| first | ((with_reducible apply gR); first | with_reducible refine w_var rfl ?_ | with_reducible apply w_cons | with_reducible apply w_c | with_reducible apply w_nil | with_reducible apply w_op | with_reducible apply w_ap | with_reducible apply w_call | with_reducible apply w_tst | with_reducible apply w_un | with_reducible apply w_tand | with_reducible apply w_tor | with_reducible apply w_tnot | with_reducible apply w_yes | with_reducible apply w_and | with_reducible apply w_or | with_reducible apply w_not | with_reducible apply w_if | with_reducible apply w_chain | with_reducible apply w_isi | with_reducible apply w_isi2 | with_reducible apply w_prop | with_reducible apply w_meth | with_reducible apply w_dget | with_reducible apply w_dnewF | with_reducible apply w_dnewT | with_reducible apply w_part | with_reducible apply w_noPart | with_reducible apply w_slLF | with_reducible apply w_slA | with_reducible apply w_ok | with_reducible apply w_ofO | with_reducible apply w_lcI | with_reducible apply w_seqI | with_reducible apply w_rng1 | with_reducible apply w_rng2 | with_reducible apply w_enum) | ((with_reducible apply gO); first | with_reducible apply wo_add | with_reducible apply wo_sub | with_reducible apply wo_lt | with_reducible apply wo_gt | with_reducible apply wo_eq | with_reducible apply wo_ne | with_reducible apply wo_le | with_reducible apply wo_ge | with_reducible apply wo_neg | with_reducible apply wo_eqS | with_reducible apply wo_neS | with_reducible apply wo_min | with_reducible apply wo_max | with_reducible apply wo_int | with_reducible apply wo_abs | with_reducible apply wo_tupL | with_reducible apply wo_tupT | with_reducible refine wo_tup (by with_unfolding_all rfl) ?_ | with_reducible refine wo_lstF (by with_unfolding_all rfl) ?_ | with_reducible refine wo_lstT (by with_unfolding_all rfl) ?_ | with_reducible apply wo_fld0 | with_reducible apply wo_fld1 | with_reducible apply wo_fld2) | ((with_reducible apply gS); first | with_reducible apply w_seq | with_reducible apply w_asg | with_reducible apply w_sif | with_reducible apply w_next | with_reducible apply w_ret | with_reducible apply w_par | with_reducible apply w_drop | with_reducible apply w_asgT | with_reducible apply w_retN | with_reducible apply w_brk | with_reducible apply w_cnt | with_reducible apply w_raise | with_reducible apply w_forI) | ((with_reducible apply gI); first | with_reducible apply wI_t | with_reducible apply wI_f | with_reducible apply wI_not) | with_reducible apply w_bl | with_reducible apply thn_nx | with_reducible apply w_int | with_reducible apply w_obj | with_reducible apply thn_rt | with_reducible apply lp_nx | with_reducible apply fnl_int | with_reducible apply fnl_bl | with_reducible apply fnl_non | with_reducible apply fnl_str | with_reducible apply fnl_nx | with_reducible apply thn_bk | with_reducible apply thn_ct | with_reducible apply thn_xc | with_reducible apply lp_rt | with_reducible apply lp_bk | with_reducible apply lp_xc | with_reducible apply w_itL | with_reducible apply w_itT | with_reducible apply w_itK)
local macro_rules | `(tactic| walk_at "p") => `(tactic| repeat walk_at "w")
/-! S4: common, rest, walked. -/
def inD : D → D → D
  | .tup [.int a, .int b], .tup [.int c, .int d] => .tup [.int (max a c), .int (min b d)]
  | _, _ => .non
def leD : D → Bool
  | .tup [.int a, .int b] => decide (a ≤ b)
  | _ => false
theorem canon_up {p : Int} {l : List Rn} (h : Canon p l) : l.Pairwise (fun r s => r.1 < s.1) := h.sep.imp_of_mem fun {r s} hr hs e => by
  have := (h.ok r hr).1
  unfold CT.Sep at e
  omega
theorem flat_rs (rs ss : List Rn) : flat2 (rsD rs) (fun _ => rsD ss) (fun _ _ => true) inD = rsD (rs.flatMap fun r => ss.map fun s => inter r s) := by
  unfold flat2 rsD
  rw [List.flatMap_map, List.map_flatMap]
  congr 1
  funext r
  simp only [filter_yes]
  rw [List.map_map, List.map_map]
  rfl
theorem filt_rs (l : List Rn) : (rsD l).filter leD = rsD (l.filter fun t => decide (t.1 ≤ t.2)) := by
  rw [rsD, List.filter_map]
  rfl
theorem flat_len (rs ss : List Rn) : (rs.flatMap fun r => ss.map fun s => inter r s).length = rs.length * ss.length := by
  induction rs with
  | nil => simp
  | cons r rs ih => rw [List.flatMap_cons, List.length_append, ih, List.length_map, List.length_cons, Nat.succ_mul, Nat.add_comm]
section
variable {C : Store} {rs ss : List Rn} {Q : D → Store → Prop} {E : Exc → Store → Prop}
theorem common_w {p : Int} (hr : Canon p rs) (hs : Canon p ss) (h1 : rs.length ≤ 1000) (h2 : ss.length ≤ 1000) (h : Q (.tup (rsD (comR rs ss))) C) : wR (m_common [.tup (rsD rs), .tup (rsD ss)] C) Q E := by
  have hm : rs.length * ss.length ≤ 1000000 := Nat.mul_le_mul h1 h2
  rw [e_common]
  apply w_fin
  unfold b_common b_common_0
  walk_at "p"
  refine w_of (ev_lc2 (C := C) (pure_C (rsD rs)) (fun _ => rsD ss) (fun _ _ => true) inD ss.length (ev_seqI rfl rfl) (by simp) (by rw [rsD_len]; omega) (by omega) ?_ ?_) ?_
  · intro x hx
    obtain ⟨r, _, rfl⟩ := List.mem_map.mp hx
    refine ⟨_, rfl, fun acc => ⟨⟨itC (rsD ss), pure_C _, rfl⟩, fun y hy => ?_⟩⟩
    obtain ⟨s, _, rfl⟩ := List.mem_map.mp hy
    refine ⟨_, rfl, fun acc => ⟨rfl, fun _ => ?_⟩⟩
    refine w_eqv ?_
    walk_at "p"
    exact ⟨rfl, rfl⟩
  · intro x hx y hy _
    obtain ⟨r, _, rfl⟩ := List.mem_map.mp hx
    obtain ⟨s, _, rfl⟩ := List.mem_map.mp hy
    rfl
  · rw [flat_rs]
    walk_at "p"
    unfold b_common_1
    walk_at "p"
    refine lc_p (pure_C _) leD id (by rw [rsD_len, flat_len]; omega) (fun x hx => ?_) (fun x hx _ => ?_) ?_
    · obtain ⟨r, _, rfl⟩ := List.mem_map.mp hx
      refine ⟨_, rfl, fun acc => ⟨?_, fun _ => ?_⟩⟩
      · walk_at "p"
        refine wo_ix rfl (k := 0) rfl rfl ?_
        walk_at "p"
        refine wo_ix rfl (k := 1) rfl rfl ?_
        walk_at "p"
        exact ⟨rfl, rfl⟩
      · walk_at "p"
        exact ⟨rfl, rfl⟩
    · obtain ⟨r, _, rfl⟩ := List.mem_map.mp hx
      rfl
    · rw [filt_rs, List.map_id]
      walk_at "p"
      refine wo_of (sortQ_l _ _) ?_
      walk_at "p"
      have e : srt ((rs.flatMap fun r => ss.map fun s => inter r s).filter fun t => decide (t.1 ≤ t.2)) = comR rs ss := srt_id (canon_up (com_ok hr hs).1)
      rw [e]
      refine fnl_p (cb_tup _ _) (by simpa using h)
theorem flat_take {α β : Type} {f : α → List β} {l : List α} {j : Nat} {x : α} (h : l[j]? = some x) : (l.take (j + 1)).flatMap f = (l.take j).flatMap f ++ f x := by
  obtain ⟨hj, e⟩ := List.getElem?_eq_some_iff.mp h
  rw [← List.take_append_getElem hj, e, List.flatMap_append]
  simp
theorem cut_len2 (o : Rn) : ∀ f : List Rn, (f.flatMap (cutOne o)).length ≤ 2 * f.length
  | [] => by simp
  | r :: f => by
    have h1 := cut_len2 o f
    have h2 := cutOne_len o r
    rw [List.flatMap_cons, List.length_append, List.length_cons]
    omega
theorem rest_in {S : Store} {it : ItD} {f : List Rn} {o : Rn} {s0 s1 s2 s6 s7 : Option D} {fl : Nat} {P : RS → Prop} (p : ItOn (fun S' => ∃ g, S' = S ++ [some (.lst g)]) it (rsD f)) (hl : f.length ≤ 8000000) (hf : fl ≤ S.length)
    (fin : ∀ s6 s7, P (.nx [s0, s1, s2, some (.int o.1), some (.int o.2), some (.cell S.length), s6, s7] (S ++ [some (.lst (rsD (cutR f o)))]))) :
    wS (loopN it (Tgt.tp [6, 7]).M (sSeq b_rest_1b_1b_0 b_rest_1b_1b_1) fl it.n 0 [s0, s1, s2, some (.int o.1), some (.int o.2), some (.cell S.length), s6, s7] (S ++ [some (.lst [])])) P := by
  refine loop_o p (fun j sl S' => S' = S ++ [some (.lst (rsD ((f.take j).flatMap (cutOne o))))] ∧ ∃ s6 s7, sl = [s0, s1, s2, some (.int o.1), some (.int o.2), some (.cell S.length), s6, s7]) (fun j sl C h => ⟨_, h.1⟩) ⟨by simp [rsD], _, _, rfl⟩ ?_ ?_
  · rintro j y sl S' hy ⟨rfl, t6, t7, rfl⟩
    obtain ⟨r, hr, rfl⟩ := rs_get hy
    have hft := flat_take (f := cutOne o) hr
    have hjl : j < f.length := (List.getElem?_eq_some_iff.mp hr).1
    have hln := cut_len2 o (f.take j)
    rw [List.length_take] at hln
    refine ⟨[s0, s1, s2, some (.int o.1), some (.int o.2), some (.cell S.length), some (.int r.1), some (.int r.2)], rfl, ?_⟩
    generalize (f.take j).flatMap (cutOne o) = g at hln hft ⊢
    have two : ∀ g' : List Rn, g'.length ≤ g.length + 1 → (∀ (u : List Rn), u = (if o.2 < r.2 then [(max r.1 (o.2 + 2), r.2)] else []) → (f.take (j + 1)).flatMap (cutOne o) = g' ++ u) → wS (b_rest_1b_1b_1 ⟨fl, [s0, s1, s2, some (.int o.1), some (.int o.2), some (.cell S.length), some (.int r.1), some (.int r.2)]⟩ (S ++ [some (.lst (rsD g'))])) (lpP (fun j sl S' => S' = S ++ [some (.lst (rsD ((f.take j).flatMap (cutOne o))))] ∧ ∃ s6 s7, sl = [s0, s1, s2, some (.int o.1), some (.int o.2), some (.cell S.length), s6, s7]) (j + 1) P) := by
      intro g' hg' he
      unfold b_rest_1b_1b_1
      walk_at "p"
      refine wI_d (fun hc => ?_) fun hc => ?_
      · refine appL (r := (max r.1 (o.2 + 2), r.2)) rfl hf (by omega) ?_ ?_
        · walk_at "p"
          exact ⟨rfl, rfl⟩
        · walk_at "p"
          exact ⟨by rw [he _ rfl, if_pos hc], _, _, rfl⟩
      · walk_at "p"
        exact ⟨by rw [he _ rfl, if_neg hc, List.append_nil], _, _, rfl⟩
    walk_at "p"
    unfold b_rest_1b_1b_0
    walk_at "p"
    refine wI_d (fun hc => ?_) fun hc => ?_
    · refine appL (r := (r.1, min r.2 (o.1 - 2))) rfl hf (by omega) ?_ ?_
      · walk_at "p"
        exact ⟨rfl, rfl⟩
      · walk_at "w"
        refine two _ (by simp) ?_
        rintro u rfl
        rw [hft, cutOne, if_pos hc, List.append_assoc]
    · walk_at "w"
      walk_at "w"
      refine two _ (by omega) ?_
      rintro u rfl
      rw [hft, cutOne, if_neg hc, List.nil_append]
  · rintro sl S' ⟨rfl, t6, t7, rfl⟩
    have e : (f.take (rsD f).length).flatMap (cutOne o) = cutR f o := by rw [rsD_len, List.take_length]; rfl
    rw [e]
    exact fin t6 t7
def RestOk (rs ss : List Rn) : Prop := ∀ j, ((ss.take j).foldl cutR rs).length ≤ 4000000
theorem restOk_can {p : Int} {rs ss : List Rn} (h : Canon p rs) (g : Canon p ss) (hz : rs.length + ss.length ≤ 10000) : RestOk rs ss := fun j => by
  have h1 := rest_len (os := ss.take j) h fun o ho => g.ok o (List.mem_of_mem_take ho)
  rw [List.length_take] at h1
  omega
theorem rest_w (hz : RestOk rs ss) (h : Q (.tup (rsD (ss.foldl cutR rs))) C) : wR (m_rest [.tup (rsD rs), .tup (rsD ss)] C) Q E := by
  rw [e_rest]
  apply w_fin
  unfold b_rest b_rest_0
  walk_at "p"
  refine wo_listF (xs := rsD rs) rfl ?_
  walk_at "p"
  unfold b_rest_1
  walk_at "p"
  refine loop_p (pure_C _) (fun j sl S => ∃ (Y : Store) (x : D) (s3 s4 s5 s6 s7 : Option D), S = C ++ Y ∧ (x = .lst (rsD ((ss.take j).foldl cutR rs)) ∨ ∃ i, x = .cell i ∧ C.length ≤ i ∧ S[i]? = some (some (.lst (rsD ((ss.take j).foldl cutR rs))))) ∧ sl = [some (.tup (rsD rs)), some (.tup (rsD ss)), some x, s3, s4, s5, s6, s7]) ⟨[], _, _, _, _, _, _, by simp, .inl rfl, rfl⟩ ?_ ?_
  · rintro j y sl S hy ⟨Y, x, s3, s4, s5, s6, s7, rfl, hx, rfl⟩
    obtain ⟨o, ho, rfl⟩ := rs_get hy
    have hf := fold_take (f := cutR) (b := rs) ho
    have hjl : j < ss.length := (List.getElem?_eq_some_iff.mp ho).1
    have hln := hz j
    generalize (ss.take j).foldl cutR rs = f at hln hf hx ⊢
    refine ⟨[some (.tup (rsD rs)), some (.tup (rsD ss)), some x, some (.int o.1), some (.int o.2), s5, s6, s7], rfl, ?_⟩
    have fin : ∀ s6 s7, thn b_rest_1b_2 C.length (lpP (fun j sl S => ∃ (Y : Store) (x : D) (s3 s4 s5 s6 s7 : Option D), S = C ++ Y ∧ (x = .lst (rsD ((ss.take j).foldl cutR rs)) ∨ ∃ i, x = .cell i ∧ C.length ≤ i ∧ S[i]? = some (some (.lst (rsD ((ss.take j).foldl cutR rs))))) ∧ sl = [some (.tup (rsD rs)), some (.tup (rsD ss)), some x, s3, s4, s5, s6, s7]) (j + 1) (thn b_rest_2 C.length (fnl C.length Q E))) (.nx [some (.tup (rsD rs)), some (.tup (rsD ss)), some x, some (.int o.1), some (.int o.2), some (.cell (C ++ Y).length), s6, s7] (C ++ Y ++ [some (.lst (rsD (cutR f o)))])) := by
      intro s6 s7
      walk_at "w"
      unfold b_rest_1b_2
      walk_at "p"
      refine ⟨Y ++ [some (.lst (rsD (cutR f o)))], .cell (C ++ Y).length, _, _, _, _, _, by simp, .inr ⟨_, rfl, by simp, ?_⟩, rfl⟩
      rw [hf]
      simp
    unfold b_rest_1b_0
    walk_at "p"
    unfold b_rest_1b_1
    walk_at "p"
    rcases hx with rfl | ⟨i, rfl, hi, hC⟩
    · walk_at "p"
      refine rest_in ((pure_C _).on _) (by omega) (by simp) fin
    · have hi2 : i < (C ++ Y).length := (List.getElem?_eq_some_iff.mp hC).1
      have hC2 : ∀ g : Option Cell, (C ++ Y ++ [g])[i]? = some (some (.lst (rsD f))) := fun g => by rw [List.getElem?_append_left hi2]; exact hC
      refine w_itC (hC2 _) ?_
      refine rest_in ⟨on_cell.1, fun j C h hj => ?_, fun C h => ?_⟩ (by omega) (by simp) fin
      · obtain ⟨g, rfl⟩ := h
        exact on_cell.2 j _ (hC2 _) hj
      · obtain ⟨g, rfl⟩ := h
        exact on_cell.3 _ (hC2 _)
  · rintro sl S ⟨Y, x, s3, s4, s5, s6, s7, rfl, hx, rfl⟩
    rw [rsD_len, List.take_length] at hx
    walk_at "p"
    unfold b_rest_2
    walk_at "p"
    rcases hx with rfl | ⟨i, rfl, hi, hC⟩
    · walk_at "p"
      exact fnl_p (cb_tup _ _) (by simpa using h)
    · refine wo_tupC hC ?_
      walk_at "p"
      exact fnl_p (cb_tup _ _) (by simpa using h)
end
end CL
set_option maxHeartbeats 4000000
namespace CL
open PySem L2 CT
local macro_rules | `(tactic| walk_at "w") => `(tactic| first | ((with_reducible apply gR); first | with_reducible refine w_var rfl ?_ | with_reducible apply w_cons | with_reducible apply w_c | with_reducible apply w_nil | with_reducible apply w_op | with_reducible apply w_ap | with_reducible apply w_call | with_reducible apply w_tst | with_reducible apply w_un | with_reducible apply w_tand | with_reducible apply w_tor | with_reducible apply w_tnot | with_reducible apply w_yes | with_reducible apply w_and | with_reducible apply w_or | with_reducible apply w_not | with_reducible apply w_if | with_reducible apply w_chain | with_reducible apply w_isi | with_reducible apply w_isi2 | with_reducible apply w_prop | with_reducible apply w_meth | with_reducible apply w_dget | with_reducible apply w_dnewF | with_reducible apply w_dnewT | with_reducible apply w_part | with_reducible apply w_noPart | with_reducible apply w_slLF | with_reducible apply w_slA | with_reducible apply w_ok | with_reducible apply w_ofO | with_reducible apply w_lcI | with_reducible apply w_seqI | with_reducible apply w_rng1 | with_reducible apply w_rng2 | with_reducible apply w_enum) | ((with_reducible apply gO); first | with_reducible apply wo_add | with_reducible apply wo_sub | with_reducible apply wo_lt | with_reducible apply wo_gt | with_reducible apply wo_eq | with_reducible apply wo_ne | with_reducible apply wo_le | with_reducible apply wo_ge | with_reducible apply wo_neg | with_reducible apply wo_eqS | with_reducible apply wo_neS | with_reducible apply wo_min | with_reducible apply wo_max | with_reducible apply wo_int | with_reducible apply wo_abs | with_reducible apply wo_tupL | with_reducible apply wo_tupT | with_reducible refine wo_tup (by with_unfolding_all rfl) ?_ | with_reducible refine wo_lstF (by with_unfolding_all rfl) ?_ | with_reducible refine wo_lstT (by with_unfolding_all rfl) ?_ | with_reducible apply wo_fld0 | with_reducible apply wo_fld1 | with_reducible apply wo_fld2) | ((with_reducible apply gS); first | with_reducible apply w_seq | with_reducible apply w_asg | with_reducible apply w_sif | with_reducible apply w_next | with_reducible apply w_ret | with_reducible apply w_par | with_reducible apply w_drop | with_reducible apply w_asgT | with_reducible apply w_retN | with_reducible apply w_brk | with_reducible apply w_cnt | with_reducible apply w_raise | with_reducible apply w_forI) | ((with_reducible apply gI); first | with_reducible apply wI_t | with_reducible apply wI_f | with_reducible apply wI_not) | with_reducible apply w_bl | with_reducible apply thn_nx | with_reducible apply w_int | with_reducible apply w_obj | with_reducible apply thn_rt | with_reducible apply lp_nx | with_reducible apply fnl_int | with_reducible apply fnl_bl | with_reducible apply fnl_non | with_reducible apply fnl_str | with_reducible apply fnl_nx | with_reducible apply thn_bk | with_reducible apply thn_ct | with_reducible apply thn_xc | with_reducible apply lp_rt | with_reducible apply lp_bk | with_reducible apply lp_xc | with_reducible apply w_itL | with_reducible apply w_itT | with_reducible apply w_itK)
local macro_rules | `(tactic| walk_at "p") => `(tactic| repeat walk_at "w")
local macro_rules | `(tactic| walk_at "w") => `(tactic| first | ((with_reducible apply gR); first | with_reducible refine w_var rfl ?_ | with_reducible apply w_cons | with_reducible apply w_c | with_reducible apply w_nil | with_reducible apply w_op | with_reducible apply w_ap | with_reducible apply w_call | with_reducible apply w_tst | with_reducible apply w_un | with_reducible apply w_tand | with_reducible apply w_tor | with_reducible apply w_tnot | with_reducible apply w_yes | with_reducible apply w_and | with_reducible apply w_or | with_reducible apply w_not | with_reducible apply w_if | with_reducible apply w_chain | with_reducible apply w_isi | with_reducible apply w_isi2 | with_reducible apply w_prop | with_reducible apply w_meth | with_reducible apply w_dget | with_reducible apply w_dnewF | with_reducible apply w_dnewT | with_reducible apply w_part | with_reducible apply w_noPart | with_reducible apply w_slLF | with_reducible apply w_slA | with_reducible apply w_ok | with_reducible apply w_ofO | with_reducible apply w_lcI | with_reducible apply w_seqI | with_reducible apply w_rng1 | with_reducible apply w_rng2 | with_reducible apply w_enum) | ((with_reducible apply gO); first | with_reducible apply wo_add | with_reducible apply wo_sub | with_reducible apply wo_lt | with_reducible apply wo_gt | with_reducible apply wo_eq | with_reducible apply wo_ne | with_reducible apply wo_le | with_reducible apply wo_ge | with_reducible apply wo_neg | with_reducible apply wo_eqS | with_reducible apply wo_neS | with_reducible apply wo_min | with_reducible apply wo_max | with_reducible apply wo_int | with_reducible apply wo_abs | with_reducible apply wo_tupL | with_reducible apply wo_tupT | with_reducible refine wo_tup (by with_unfolding_all rfl) ?_ | with_reducible refine wo_lstF (by with_unfolding_all rfl) ?_ | with_reducible refine wo_lstT (by with_unfolding_all rfl) ?_ | with_reducible apply wo_fld0 | with_reducible apply wo_fld1 | with_reducible apply wo_fld2) | ((with_reducible apply gS); first | with_reducible apply w_seq | with_reducible apply w_asg | with_reducible apply w_sif | with_reducible apply w_next | with_reducible apply w_ret | with_reducible apply w_par | with_reducible apply w_drop | with_reducible apply w_asgT | with_reducible apply w_retN | with_reducible apply w_brk | with_reducible apply w_cnt | with_reducible apply w_raise | with_reducible apply w_forI) | ((with_reducible apply gI); first | with_reducible apply wI_t | with_reducible apply wI_f | with_reducible apply wI_not) | with_reducible apply w_bl | with_reducible apply thn_nx | with_reducible apply w_int | with_reducible apply w_obj | with_reducible apply thn_rt | with_reducible apply lp_nx | with_reducible apply fnl_int | with_reducible apply fnl_bl | with_reducible apply fnl_non | with_reducible apply fnl_str | with_reducible apply fnl_nx | with_reducible apply thn_bk | with_reducible apply thn_ct | with_reducible apply thn_xc | with_reducible apply lp_rt | with_reducible apply lp_bk | with_reducible apply lp_xc | with_reducible apply w_itL | with_reducible apply w_itT | with_reducible apply w_itK)
local macro_rules | `(tactic| walk_at "p") => `(tactic| repeat walk_at "w")
/-! B1: Want.between. -/
section
variable {C : Store} {Q : D → Store → Prop} {X : Exc → Store → Prop}
def btw (p lo hi : Int) : List Rn := if lo + (lo + p) % 2 ≤ hi - (hi + p) % 2 then [(lo + (lo + p) % 2, hi - (hi + p) % 2)] else []
theorem halves_between_w {lo hi : Int} (h : Q (hvD (btw 0 lo hi) (btw 1 lo hi)) C) : wR (m_halves_between [.int lo, .int hi] C) Q X := by
  rw [e_halves_between]
  apply w_fin
  unfold b_halves_between b_halves_between_0 b_halves_between_1
  walk_at "p"
  refine loop_p (pure_C _) (fun j sl S => S = C ++ [some (.lst ((([0, 1] : List Int).take j).map fun p => .tup (rsD (btw p lo hi))))] ∧ ∃ s3 s4 s5, sl = [some (.int lo), some (.int hi), some (.cell C.length), s3, s4, s5]) ⟨rfl, _, _, _, rfl⟩ ?_ ?_
  · rintro j y sl S hy ⟨rfl, s3, s4, s5, rfl⟩
    have hj : j < 2 := (List.getElem?_eq_some_iff.mp hy).1
    obtain ⟨p, rfl, tkj⟩ : ∃ p : Int, y = .int p ∧ ([0, 1] : List Int).take (j + 1) = ([0, 1] : List Int).take j ++ [p] := by
      match j, hj with
      | 0, _ => exact ⟨0, by simpa using hy.symm, rfl⟩
      | 1, _ => exact ⟨1, by simpa using hy.symm, rfl⟩
    refine ⟨[some (.int lo), some (.int hi), some (.cell C.length), some (.int p), s4, s5], rfl, ?_⟩
    generalize hg : ((([0, 1] : List Int).take j).map fun p => D.tup (rsD (btw p lo hi))) = g
    have hgl : g.length ≤ 2 := by rw [← hg]; simp; omega
    have at_n : (C ++ [some (Cell.lst g)])[C.length]? = some (some (.lst g)) := by simp
    walk_at "p"
    unfold b_halves_between_1b_0
    walk_at "p"
    refine wo_mod (by decide) ?_
    walk_at "p"
    refine wo_mod (by decide) ?_
    walk_at "p"
    refine ⟨_, rfl, ?_⟩
    walk_at "p"
    unfold b_halves_between_1b_1
    walk_at "p"
    refine w_append ?_
    walk_at "p"
    refine ⟨by simp [vL, at_n], ?_⟩
    walk_at "p"
    have fin : ∀ d : D, d = .tup (rsD (btw p lo hi)) → ∃ i ds, cL (.cell C.length) (C ++ [some (Cell.lst g)]) = some (i, ds) ∧ C.length ≤ i ∧ ds.length < 16777216 ∧ lpP (fun j sl S => S = C ++ [some (.lst ((([0, 1] : List Int).take j).map fun p => .tup (rsD (btw p lo hi))))] ∧ ∃ s3 s4 s5, sl = [some (.int lo), some (.int hi), some (.cell C.length), s3, s4, s5]) (j + 1) (thn b_halves_between_2 C.length (fnl C.length Q X)) (.nx [some (.int lo), some (.int hi), some (.cell C.length), some (.int p), some (.int (lo + (lo + p) % 2)), some (.int (hi - (hi + p) % 2))] ((C ++ [some (Cell.lst g)]).set i (some (.lst (ds ++ [d]))))) := by
      rintro d rfl
      refine ⟨C.length, g, by simp only [cL, at_n], Nat.le_refl _, by omega, lp_nx ⟨?_, _, _, _, rfl⟩⟩
      rw [tkj, ← hg]
      simp
    refine wI_d (fun he => ?_) fun he => ?_
    · walk_at "p"
      exact fin _ (by unfold btw; rw [if_pos he]; rfl)
    · walk_at "p"
      exact fin _ (by unfold btw; rw [if_neg he]; rfl)
  · rintro sl S ⟨rfl, s3, s4, s5, rfl⟩
    walk_at "p"
    unfold b_halves_between_2
    walk_at "p"
    refine wo_ix (x := .cell C.length) (xs := [.tup (rsD (btw 0 lo hi)), .tup (rsD (btw 1 lo hi))]) (k := 0) (by simp [vS]) rfl rfl ?_
    walk_at "p"
    refine wo_ix (x := .cell C.length) (xs := [.tup (rsD (btw 0 lo hi)), .tup (rsD (btw 1 lo hi))]) (k := 1) (by simp [vS]) rfl rfl ?_
    walk_at "p"
    exact fnl_p (cb_hv _ _ _) (by rw [take_app rfl]; exact h)
theorem w_mkC {F : Fr} {i c nf : Nat} {m : MF} {me : ME} (e : F.sl[i]? = some (some (.cls c))) (h : wR (mMake false c nf (vaM .kw 1 m) [] (mCons me mNil) F C) Q X) : wR (mMkC i c nf m me F C) Q X := by
  unfold mMkC
  rw [e]
  simp only [if_true]
  exact h
theorem between_w {lo hi : Int} (h1 : -1000000000 ≤ lo ∧ lo ≤ 1000000000) (h2 : -1000000000 ≤ hi ∧ hi ≤ 1000000000) (h : Q (wantD (btw 0 lo hi) (btw 1 lo hi)) C) : wR (clM 0 m_Want_between [.int lo, .int hi] C) Q X := by
  show wR (m_Want_between [.cls 0, .int lo, .int hi] C) Q X
  rw [e_Want_between]
  apply w_fin
  unfold b_Want_between b_Want_between_0
  walk_at "p"
  refine check_w (xs := [lo, hi]) (by simpa using ⟨h1, h2⟩) ?_
  walk_at "p"
  unfold b_Want_between_1
  walk_at "p"
  refine w_mkC rfl (mk_kw ?_)
  walk_at "p"
  exact halves_between_w ⟨_, _, rfl, fnl_p (cb_want _ _ _) (by rw [List.take_length]; exact h)⟩
end
end CL
set_option maxHeartbeats 4000000
namespace CL
open PySem L2 CT
local macro_rules | `(tactic| walk_at "w") => `(tactic| first | ((with_reducible apply gR); first | with_reducible refine w_var rfl ?_ | with_reducible apply w_cons | with_reducible apply w_c | with_reducible apply w_nil | with_reducible apply w_op | with_reducible apply w_ap | with_reducible apply w_call | with_reducible apply w_tst | with_reducible apply w_un | with_reducible apply w_tand | with_reducible apply w_tor | with_reducible apply w_tnot | with_reducible apply w_yes | with_reducible apply w_and | with_reducible apply w_or | with_reducible apply w_not | with_reducible apply w_if | with_reducible apply w_chain | with_reducible apply w_isi | with_reducible apply w_isi2 | with_reducible apply w_prop | with_reducible apply w_meth | with_reducible apply w_dget | with_reducible apply w_dnewF | with_reducible apply w_dnewT | with_reducible apply w_part | with_reducible apply w_noPart | with_reducible apply w_slLF | with_reducible apply w_slA | with_reducible apply w_ok | with_reducible apply w_ofO | with_reducible apply w_lcI | with_reducible apply w_seqI | with_reducible apply w_rng1 | with_reducible apply w_rng2 | with_reducible apply w_enum) | ((with_reducible apply gO); first | with_reducible apply wo_add | with_reducible apply wo_sub | with_reducible apply wo_lt | with_reducible apply wo_gt | with_reducible apply wo_eq | with_reducible apply wo_ne | with_reducible apply wo_le | with_reducible apply wo_ge | with_reducible apply wo_neg | with_reducible apply wo_eqS | with_reducible apply wo_neS | with_reducible apply wo_min | with_reducible apply wo_max | with_reducible apply wo_int | with_reducible apply wo_abs | with_reducible apply wo_tupL | with_reducible apply wo_tupT | with_reducible refine wo_tup (by with_unfolding_all rfl) ?_ | with_reducible refine wo_lstF (by with_unfolding_all rfl) ?_ | with_reducible refine wo_lstT (by with_unfolding_all rfl) ?_ | with_reducible apply wo_fld0 | with_reducible apply wo_fld1 | with_reducible apply wo_fld2) | ((with_reducible apply gS); first | with_reducible apply w_seq | with_reducible apply w_asg | with_reducible apply w_sif | with_reducible apply w_next | with_reducible apply w_ret | with_reducible apply w_par | with_reducible apply w_drop | with_reducible apply w_asgT | with_reducible apply w_retN | with_reducible apply w_brk | with_reducible apply w_cnt | with_reducible apply w_raise | with_reducible apply w_forI) | ((with_reducible apply gI); first | with_reducible apply wI_t | with_reducible apply wI_f | with_reducible apply wI_not) | with_reducible apply w_bl | with_reducible apply thn_nx | with_reducible apply w_int | with_reducible apply w_obj | with_reducible apply thn_rt | with_reducible apply lp_nx | with_reducible apply fnl_int | with_reducible apply fnl_bl | with_reducible apply fnl_non | with_reducible apply fnl_str | with_reducible apply fnl_nx | with_reducible apply thn_bk | with_reducible apply thn_ct | with_reducible apply thn_xc | with_reducible apply lp_rt | with_reducible apply lp_bk | with_reducible apply lp_xc | with_reducible apply w_itL | with_reducible apply w_itT | with_reducible apply w_itK)
local macro_rules | `(tactic| walk_at "p") => `(tactic| repeat walk_at "w")
local macro_rules | `(tactic| walk_at "w") => `(tactic| first | ((with_reducible apply gR); first | with_reducible refine w_var rfl ?_ | with_reducible apply w_cons | with_reducible apply w_c | with_reducible apply w_nil | with_reducible apply w_op | with_reducible apply w_ap | with_reducible apply w_call | with_reducible apply w_tst | with_reducible apply w_un | with_reducible apply w_tand | with_reducible apply w_tor | with_reducible apply w_tnot | with_reducible apply w_yes | with_reducible apply w_and | with_reducible apply w_or | with_reducible apply w_not | with_reducible apply w_if | with_reducible apply w_chain | with_reducible apply w_isi | with_reducible apply w_isi2 | with_reducible apply w_prop | with_reducible apply w_meth | with_reducible apply w_dget | with_reducible apply w_dnewF | with_reducible apply w_dnewT | with_reducible apply w_part | with_reducible apply w_noPart | with_reducible apply w_slLF | with_reducible apply w_slA | with_reducible apply w_ok | with_reducible apply w_ofO | with_reducible apply w_lcI | with_reducible apply w_seqI | with_reducible apply w_rng1 | with_reducible apply w_rng2 | with_reducible apply w_enum) | ((with_reducible apply gO); first | with_reducible apply wo_add | with_reducible apply wo_sub | with_reducible apply wo_lt | with_reducible apply wo_gt | with_reducible apply wo_eq | with_reducible apply wo_ne | with_reducible apply wo_le | with_reducible apply wo_ge | with_reducible apply wo_neg | with_reducible apply wo_eqS | with_reducible apply wo_neS | with_reducible apply wo_min | with_reducible apply wo_max | with_reducible apply wo_int | with_reducible apply wo_abs | with_reducible apply wo_tupL | with_reducible apply wo_tupT | with_reducible refine wo_tup (by with_unfolding_all rfl) ?_ | with_reducible refine wo_lstF (by with_unfolding_all rfl) ?_ | with_reducible refine wo_lstT (by with_unfolding_all rfl) ?_ | with_reducible apply wo_fld0 | with_reducible apply wo_fld1 | with_reducible apply wo_fld2) | ((with_reducible apply gS); first | with_reducible apply w_seq | with_reducible apply w_asg | with_reducible apply w_sif | with_reducible apply w_next | with_reducible apply w_ret | with_reducible apply w_par | with_reducible apply w_drop | with_reducible apply w_asgT | with_reducible apply w_retN | with_reducible apply w_brk | with_reducible apply w_cnt | with_reducible apply w_raise | with_reducible apply w_forI) | ((with_reducible apply gI); first | with_reducible apply wI_t | with_reducible apply wI_f | with_reducible apply wI_not) | with_reducible apply w_bl | with_reducible apply thn_nx | with_reducible apply w_int | with_reducible apply w_obj | with_reducible apply thn_rt | with_reducible apply lp_nx | with_reducible apply fnl_int | with_reducible apply fnl_bl | with_reducible apply fnl_non | with_reducible apply fnl_str | with_reducible apply fnl_nx | with_reducible apply thn_bk | with_reducible apply thn_ct | with_reducible apply thn_xc | with_reducible apply lp_rt | with_reducible apply lp_bk | with_reducible apply lp_xc | with_reducible apply w_itL | with_reducible apply w_itT | with_reducible apply w_itK)
local macro_rules | `(tactic| walk_at "p") => `(tactic| repeat walk_at "w")
/-! S18: stretches, blocks of a Want; walked. -/
theorem btw_bt2 (p lo hi : Int) : btw p lo hi = bt2 p lo hi := rfl
def bP (b : Bk) : PyData := .tuple [.int b.1, hvP b.2.1 b.2.2]
def blkD (b : Bk) : D := .tup [.int b.1, hvD b.2.1 b.2.2]
def hv2 (b : Bk) : D := hvD b.2.1 b.2.2
theorem toP_blk (C : Store) (b : Bk) : toP C (blkD b) = some (bP b) := by
  have e := toP_hv C b.2.1 b.2.2
  show (match toP C (.int b.1), toPs C [hvD b.2.1 b.2.2] with | some p, some ps => some (p :: ps) | _, _ => none).map PyData.tuple = _
  have e2 : toPs C [hvD b.2.1 b.2.2] = some [hvP b.2.1 b.2.2] := by
    show (match toP C (hvD b.2.1 b.2.2), toPs C [] with | some p, some ps => some (p :: ps) | _, _ => none) = _
    rw [e]
    rfl
  rw [e2]
  rfl
theorem enc_blk (C : Store) (b : Bk) : encD C (blkD b) = bP b := by
  unfold encD
  rw [toP_blk]
  rfl
theorem alk_rs : ∀ a b : List Rn, PySem.W.alikeAll (rsP a) (rsP b) = true
  | [], [] => rfl
  | [], _ :: _ => rfl
  | _ :: _, [] => rfl
  | x :: a, y :: b => by
    have e := alk_rs a b
    show (PySem.W.alike (rP x) (rP y) && PySem.W.alikeAll (rsP a) (rsP b)) = true
    rw [e]
    rfl
theorem alk_bP (a b : Bk) : PySem.W.alike (bP a) (bP b) = true := by
  have e1 := alk_rs a.2.1 b.2.1
  have e2 := alk_rs a.2.2 b.2.2
  show (true && ((PySem.W.alikeAll (rsP a.2.1) (rsP b.2.1) && (PySem.W.alikeAll (rsP a.2.2) (rsP b.2.2) && true)) && true)) = true
  rw [e1, e2]
  rfl
theorem dep_bP (b : Bk) : (bP b).depth ≤ 60 := by
  have h1 := dep_rs b.2.1
  have h2 := dep_rs b.2.2
  simp only [bP, hvP, PyData.depth, PyData.depthAll]
  omega
theorem ok_blk (l : List Bk) (C : Store) : (((l.map blkD).all fun d => (toP C d).isSome && decide ((encD C d).depth ≤ 60)) && srtb ((l.map blkD).map (encD C))) = true := by
  have e : ∀ p ∈ (l.map blkD).map (encD C), ∃ b : Bk, p = bP b := fun p hp => by
    obtain ⟨k, hk, rfl⟩ := List.mem_map.mp hp
    obtain ⟨q, _, rfl⟩ := List.mem_map.mp hk
    exact ⟨q, enc_blk C q⟩
  simp only [Bool.and_eq_true, srtb, Bool.or_eq_true, List.all_eq_true]
  refine ⟨fun d hd => ?_, fun x hx y hy => ?_, .inl fun x hx => ?_⟩
  · obtain ⟨q, _, rfl⟩ := List.mem_map.mp hd
    rw [toP_blk, enc_blk]
    exact ⟨rfl, decide_eq_true (dep_bP q)⟩
  · obtain ⟨a, rfl⟩ := e x hx
    obtain ⟨b, rfl⟩ := e y hy
    exact alk_bP a b
  · obtain ⟨a, rfl⟩ := e x hx
    rfl
def srtB (l : List Bk) : List Bk := l.mergeSort fun a b => PySem.W.dataLe false bP a b
theorem srtB_mem {l : List Bk} {b : Bk} : b ∈ srtB l ↔ b ∈ l := List.mem_mergeSort
theorem srtB_len (l : List Bk) : (srtB l).length = l.length := List.length_mergeSort l
theorem sort_blk (l : List Bk) (C : Store) : (l.map blkD).mergeSort (PySem.W.dataLe false (encD C)) = (srtB l).map blkD :=
  (List.map_mergeSort (r := fun a b => PySem.W.dataLe false bP a b) (s := PySem.W.dataLe false (encD C)) (f := blkD) (l := l) (fun a _ b _ => by rw [PySem.W.dataLe_eq, PySem.W.dataLe_eq]; simp only [enc_blk])).symm
theorem sortQ_b {own : Bool} {d : D} {l : List Bk} {C : Store} (h : vL d C = some (l.map blkD)) : oSortQ own [d] C = some (mkL own ((srtB l).map blkD) C) := by
  have e := ok_blk l C
  simp only [oSortQ, oSortL, h, e, if_true, sort_blk]
theorem com_len {p : Int} {a b : List Rn} (h1 : a.length ≤ 1000) (h2 : b.length ≤ 1000) : (comR a b).length ≤ a.length * b.length := by
  unfold comR
  rw [← flat_len]
  exact List.length_filter_le _ _
section
variable {C : Store} {Q : D → Store → Prop} {X : Exc → Store → Prop} {E O : List Rn}
theorem links_len (hE : E.length ≤ 60) (hO : O.length ≤ 60) : (links E O).length ≤ 7200 := by
  have h1 := com_len (p := 0) (a := E) (b := movR (-1) O) (by omega) (by rw [mov_len]; omega)
  have h2 := com_len (p := 0) (a := O) (b := movR (-1) E) (by omega) (by rw [mov_len]; omega)
  rw [mov_len] at h1 h2
  have h3 : E.length * O.length ≤ 60 * 60 := Nat.mul_le_mul hE hO
  have h4 : O.length * E.length ≤ 60 * 60 := Nat.mul_le_mul hO hE
  unfold links
  rw [List.length_append]
  omega
theorem str_len (hE : E.length ≤ 60) (hO : O.length ≤ 60) : (strR E O).length ≤ 7200 := by
  have h1 := links_len hE hO
  have h2 := sfold_len (srt (links E O)) []
  rw [srt_len] at h2
  simp only [List.length_nil] at h2
  unfold strR
  omega
theorem stretches_w (h : CW E O) (hE : E.length ≤ 60) (hO : O.length ≤ 60) (q : Q (.lst (rsD (strR E O))) C) : wR (m_stretches [.tup (rsD E), .tup (rsD O)] C) Q X := by
  have hl := links_len hE hO
  rw [e_stretches]
  apply w_fin
  unfold b_stretches b_stretches_0 b_stretches_1
  walk_at "p"
  refine moved_w (by omega) ?_
  walk_at "p"
  refine common_w h.e (mov_ok (k := -1) h.o (q := 0) (by decide)) (by omega) (by rw [mov_len]; omega) ?_
  walk_at "p"
  refine wo_listF rfl ?_
  walk_at "p"
  refine moved_w (by omega) ?_
  walk_at "p"
  refine common_w h.o (mov_ok (k := -1) h.e (q := 1) (by decide)) (by omega) (by rw [mov_len]; omega) ?_
  walk_at "p"
  refine wo_listF rfl ?_
  walk_at "p"
  have lk : rsD (comR E (movR (-1) O)) ++ rsD (comR O (movR (-1) E)) = rsD (links E O) := (rsD_app _ _).symm
  refine wo_catF (by rw [← List.length_append, lk, rsD_len]; omega) ?_
  rw [lk]
  generalize hL : links E O = L at hl
  walk_at "p"
  unfold b_stretches_2
  walk_at "p"
  refine wo_of (sortQ_l _ _) ?_
  walk_at "p"
  refine loop_p (pure_C _) (fun j sl S => S = C ++ [some (.lst (rsD (((srt L).take j).foldl sstep [])))] ∧ ∃ s4 s5, sl = [some (.tup (rsD E)), some (.tup (rsD O)), some (.lst (rsD L)), some (.cell C.length), s4, s5]) ⟨rfl, _, _, rfl⟩ ?_ ?_
  · rintro j y sl S hy ⟨rfl, s4, s5, rfl⟩
    obtain ⟨r, hr, rfl⟩ := rs_get hy
    have hf := fold_take (f := sstep) (b := []) hr
    have hjl : j < (srt L).length := (List.getElem?_eq_some_iff.mp hr).1
    rw [srt_len] at hjl
    have hln := sfold_len ((srt L).take j) []
    rw [List.length_take, srt_len] at hln
    simp only [List.length_nil] at hln
    generalize ((srt L).take j).foldl sstep [] = f at hln hf ⊢
    have at_n : (C ++ [some (Cell.lst (rsD f))])[C.length]? = some (some (.lst (rsD f))) := by simp
    refine ⟨[some (.tup (rsD E)), some (.tup (rsD O)), some (.lst (rsD L)), some (.cell C.length), some (.int r.1), some (.int r.2)], rfl, ?_⟩
    have app : (sstep f r = f ++ [(r.1, r.2 + 1)]) → wS (sDrop (mAppend (mVar 3) (mAp oTup (mCons (mVar 4) (mCons (mOp oAdd (mVar 5) (mC (.int 1))) mNil)))) ⟨C.length, [some (.tup (rsD E)), some (.tup (rsD O)), some (.lst (rsD L)), some (.cell C.length), some (.int r.1), some (.int r.2)]⟩ (C ++ [some (.lst (rsD f))])) (lpP (fun j sl S => S = C ++ [some (.lst (rsD (((srt L).take j).foldl sstep [])))] ∧ ∃ s4 s5, sl = [some (.tup (rsD E)), some (.tup (rsD O)), some (.lst (rsD L)), some (.cell C.length), s4, s5]) (j + 1) (CT.thn b_stretches_3 C.length (fnl C.length Q X))) := fun he => by
      refine appL (r := (r.1, r.2 + 1)) rfl (Nat.le_refl _) (by omega) ?_ ?_
      · walk_at "p"
        exact ⟨rfl, rfl⟩
      · walk_at "p"
        exact ⟨by rw [hf, he], _, _, rfl⟩
    unfold b_stretches_2b_0
    walk_at "p"
    refine wo_of (ne_cell at_n) ?_
    walk_at "p"
    refine wI_d (fun he => ?_) fun he => ?_
    · exact wI_f (app (by rw [he]; rfl))
    · obtain ⟨q, hq⟩ := last_nil he
      walk_at "p"
      refine wo_last at_n hq ?_
      walk_at "p"
      refine wo_ix rfl (k := 1) rfl rfl ?_
      walk_at "p"
      refine wI_d (fun hc => ?_) fun hc => ?_
      · refine w_setL ?_
        walk_at "p"
        refine wo_last at_n hq ?_
        walk_at "p"
        refine wo_ix rfl (k := 0) rfl rfl ?_
        walk_at "p"
        refine wo_last at_n hq ?_
        walk_at "p"
        refine wo_ix rfl (k := 1) rfl rfl ?_
        walk_at "p"
        refine ⟨-1, C.length, rsD f, f.length - 1, _, rfl, by simp only [cL, at_n], ?_, wr_hi (Nat.le_refl _), ?_⟩
        · have hp : 0 < f.length := List.length_pos_iff.mpr he
          rw [rsD_len]
          unfold ixN
          rw [if_neg (by omega), if_pos (by omega)]
          congr 1
          omega
        · walk_at "p"
          refine ⟨?_, _, _, rfl⟩
          rw [hf]
          have e1 : sstep f r = f.dropLast ++ [(q.1, max q.2 (r.2 + 1))] := by
            unfold CT.sstep
            rw [hq]
            simp only
            rw [if_pos hc]
          rw [e1, ← set_last (r := (q.1, max q.2 (r.2 + 1))) hq]
          simp [rD]
      · exact app (by unfold CT.sstep; rw [hq]; simp only; rw [if_neg hc])
  · rintro sl S ⟨rfl, s4, s5, rfl⟩
    rw [rsD_len, List.take_length]
    walk_at "p"
    unfold b_stretches_3
    walk_at "p"
    subst hL
    refine fnl_own (xs := rsD (strR E O)) (Nat.le_refl _) (by simp [strR]) (cb_rs _ _) ?_
    simpa using q
theorem left_w {p : Int} {l rs : List Rn} {s : Rn} (hp : p = 0 ∨ p = 1) (c : Canon p rs) (hl : rs.length + l.length ≤ 9000) (q : Q (.tup (rsD ((bt2 p s.1 s.2).foldl cutR (leftR p l rs)))) C) : wR (m_rest [.tup (rsD (leftR p l rs)), .tup (rsD (bt2 p s.1 s.2))] C) Q X := by
  obtain ⟨a, b, _⟩ := left_ok hp (l := l) c
  have := bt2_len p s.1 s.2
  exact rest_w (restOk_can a (bt2_ok hp).1 (by omega)) q
theorem left_snoc (p : Int) (l rs : List Rn) (s : Rn) : leftR p (l ++ [s]) rs = (bt2 p s.1 s.2).foldl cutR (leftR p l rs) := by
  unfold leftR
  rw [List.foldl_append]
  rfl
def bkS (s : Rn) : Bk := (s.1, bt2 0 s.1 s.2, bt2 1 s.1 s.2)
def bkE (r : Rn) : Bk := (r.1, [r], [])
def bkO (r : Rn) : Bk := (r.1, [], [r])
theorem appB {S : Store} {fl : Nat} {sl : List (Option D)} {io : Nat} {me : ME} {g : List Bk} {b : Bk} {P : RS → Prop} (h1 : sl[io]? = some (some (.cell S.length))) (hf : fl ≤ S.length) (hg : g.length < 16777216) (hv : wR (me ⟨fl, sl⟩ (S ++ [some (.lst (g.map blkD))])) (fun d C' => d = blkD b ∧ C' = S ++ [some (.lst (g.map blkD))]) noX) (q : P (.nx sl (S ++ [some (.lst ((g ++ [b]).map blkD))]))) : wS (sDrop (mAppend (mVar io) me) ⟨fl, sl⟩ (S ++ [some (.lst (g.map blkD))])) P := by
  have at_n : (S ++ [some (Cell.lst (g.map blkD))])[S.length]? = some (some (.lst (g.map blkD))) := by simp
  refine w_drop (w_append (w_var h1 ⟨by simp [vL, at_n], w_conv hv ?_⟩))
  rintro d C' ⟨rfl, rfl⟩
  refine ⟨S.length, g.map blkD, by simp only [cL, at_n], hf, by rw [List.length_map]; exact hg, ?_⟩
  have e : (S ++ [some (Cell.lst (g.map blkD))]).set S.length (some (.lst (g.map blkD ++ [blkD b]))) = S ++ [some (.lst ((g ++ [b]).map blkD))] := by simp
  rw [e]
  exact q
theorem take_snoc {α : Type} {l : List α} {j : Nat} {x : α} (h : l[j]? = some x) : l.take (j + 1) = l.take j ++ [x] := by
  obtain ⟨hj, e⟩ := List.getElem?_eq_some_iff.mp h
  rw [← e]
  exact (List.take_append_getElem hj).symm
def sndD : D → D
  | .tup [_, d] => d
  | _ => .non
theorem block_halves_w (h : CW E O) (hE : E.length ≤ 60) (hO : O.length ≤ 60) (q : Q (.lst ((srtB (blkL E O)).map hv2)) C) : wR (m_block_halves [.tup (rsD E), .tup (rsD O)] C) Q X := by
  have hs := str_len hE hO
  obtain ⟨_, le, _⟩ := left_ok (.inl rfl) (l := strR E O) h.e
  obtain ⟨_, lo, _⟩ := left_ok (.inr rfl) (l := strR E O) h.o
  rw [e_block_halves]
  apply w_fin
  unfold b_block_halves b_block_halves_0 b_block_halves_1
  walk_at "p"
  refine ⟨_, rfl, ?_⟩
  walk_at "p"
  refine stretches_w h hE hO ?_
  generalize hL : strR E O = L at hs le lo
  walk_at "p"
  refine loop_p (pure_C _) (fun j sl S => S = C ++ [some (.lst (((L.take j).map bkS).map blkD))] ∧ ∃ s4 s5 s6 s7, sl = [some (.tup (rsD E)), some (.tup (rsD O)), some (.cell C.length), some (.lst [.tup (rsD (leftR 0 (L.take j) E)), .tup (rsD (leftR 1 (L.take j) O))]), s4, s5, s6, s7]) ⟨rfl, _, _, _, _, rfl⟩ ?_ ?_
  · rintro j y sl S hy ⟨rfl, s4, s5, s6, s7, rfl⟩
    obtain ⟨s, hs', rfl⟩ := rs_get hy
    have tk := take_snoc hs'
    have lt : (L.take j).length ≤ 7200 := by rw [List.length_take]; omega
    refine ⟨_, rfl, ?_⟩
    generalize L.take j = M at lt tk
    walk_at "p"
    unfold b_block_halves_1b_0
    walk_at "p"
    refine halves_between_w ?_
    rw [btw_bt2, btw_bt2]
    walk_at "p"
    unfold b_block_halves_1b_1
    refine appB (g := M.map bkS) (b := bkS s) rfl (Nat.le_refl _) (by rw [List.length_map]; omega) ?_ ?_
    · walk_at "p"
      exact ⟨rfl, rfl⟩
    · walk_at "p"
      unfold b_block_halves_1b_2
      walk_at "p"
      refine wo_ix rfl (k := 0) rfl rfl ?_
      walk_at "p"
      refine wo_ix rfl (k := 0) rfl rfl ?_
      walk_at "p"
      refine left_w (.inl rfl) h.e (by omega) ?_
      walk_at "p"
      refine wo_ix rfl (k := 1) rfl rfl ?_
      walk_at "p"
      refine wo_ix rfl (k := 1) rfl rfl ?_
      walk_at "p"
      refine left_w (.inr rfl) h.o (by omega) ?_
      walk_at "p"
      refine ⟨by rw [tk]; simp, some (.int s.1), some (.int s.2), some (hvD (bt2 0 s.1 s.2) (bt2 1 s.1 s.2)), s7, ?_⟩
      rw [tk, left_snoc, left_snoc]
      rfl
  · rintro sl S ⟨rfl, s4, s5, s6, s7, rfl⟩
    rw [rsD_len, List.take_length]
    walk_at "p"
    unfold b_block_halves_2
    walk_at "p"
    refine wo_ix rfl (k := 0) rfl rfl ?_
    walk_at "p"
    refine loop_p (pure_C _) (fun j sl S => S = C ++ [some (.lst ((L.map bkS ++ ((leftR 0 L E).take j).map bkE).map blkD))] ∧ ∃ s7, sl = [some (.tup (rsD E)), some (.tup (rsD O)), some (.cell C.length), some (.lst [.tup (rsD (leftR 0 L E)), .tup (rsD (leftR 1 L O))]), s4, s5, s6, s7]) ⟨by simp, _, rfl⟩ ?_ ?_
    · rintro j y sl S hy ⟨rfl, t7, rfl⟩
      obtain ⟨s, hs', rfl⟩ := rs_get hy
      have tk := take_snoc hs'
      refine ⟨_, rfl, ?_⟩
      unfold b_block_halves_2b_0
      refine appB (b := bkE s) rfl (Nat.le_refl _) (by simp only [List.length_append, List.length_map, List.length_take]; omega) ?_ ?_
      · walk_at "p"
        refine wo_ix rfl (k := 0) rfl rfl ?_
        walk_at "p"
        exact ⟨rfl, rfl⟩
      · walk_at "p"
        exact ⟨by rw [tk]; simp, _, rfl⟩
    · rintro sl S ⟨rfl, t7, rfl⟩
      rw [rsD_len, List.take_length]
      walk_at "p"
      unfold b_block_halves_3
      walk_at "p"
      refine wo_ix rfl (k := 1) rfl rfl ?_
      walk_at "p"
      refine loop_p (pure_C _) (fun j sl S => S = C ++ [some (.lst ((L.map bkS ++ (leftR 0 L E).map bkE ++ ((leftR 1 L O).take j).map bkO).map blkD))] ∧ ∃ s7, sl = [some (.tup (rsD E)), some (.tup (rsD O)), some (.cell C.length), some (.lst [.tup (rsD (leftR 0 L E)), .tup (rsD (leftR 1 L O))]), s4, s5, s6, s7]) ⟨by simp, _, rfl⟩ ?_ ?_
      · rintro j y sl S hy ⟨rfl, u7, rfl⟩
        obtain ⟨s, hs', rfl⟩ := rs_get hy
        have tk := take_snoc hs'
        refine ⟨_, rfl, ?_⟩
        unfold b_block_halves_3b_0
        refine appB (b := bkO s) rfl (Nat.le_refl _) (by simp only [List.length_append, List.length_map, List.length_take]; omega) ?_ ?_
        · walk_at "p"
          refine wo_ix rfl (k := 0) rfl rfl ?_
          walk_at "p"
          exact ⟨rfl, rfl⟩
        · walk_at "p"
          exact ⟨by rw [tk]; simp, _, rfl⟩
      · rintro sl S ⟨rfl, u7, rfl⟩
        rw [rsD_len, List.take_length]
        walk_at "p"
        unfold b_block_halves_4
        walk_at "p"
        have eb : L.map bkS ++ (leftR 0 L E).map bkE ++ (leftR 1 L O).map bkO = blkL E O := by
          subst hL
          rfl
        rw [eb]
        refine wo_of (sortQ_b (l := blkL E O) (by simp [vL])) ?_
        walk_at "p"
        have lb : (blkL E O).length ≤ 30000 := by
          rw [← eb]
          simp only [List.length_append, List.length_map]
          omega
        refine lc_p (pure_C _) (fun _ => true) sndD (by rw [List.length_map, srtB_len]; omega) (fun x hx => ?_) (fun x hx _ => ?_) ?_
        · obtain ⟨b, _, rfl⟩ := List.mem_map.mp hx
          refine ⟨_, rfl, fun acc => ⟨w_yes ⟨rfl, rfl⟩, fun _ => ?_⟩⟩
          walk_at "p"
          exact ⟨rfl, rfl⟩
        · obtain ⟨b, _, rfl⟩ := List.mem_map.mp hx
          exact cb_hv _ _ _
        · have e : (((srtB (blkL E O)).map blkD).filter fun _ => true).map sndD = (srtB (blkL E O)).map hv2 := by
            rw [filter_yes, List.map_map]
            rfl
          rw [e]
          refine fnl_p (cbL_all fun d hd => by obtain ⟨b, _, rfl⟩ := List.mem_map.mp hd; exact cb_hv _ _ _) ?_
          simpa using q
end
end CL
set_option maxHeartbeats 4000000
namespace CL
open PySem L2 CT
local macro_rules | `(tactic| walk_at "w") => `(tactic| first | ((with_reducible apply gR); first | with_reducible refine w_var rfl ?_ | with_reducible apply w_cons | with_reducible apply w_c | with_reducible apply w_nil | with_reducible apply w_op | with_reducible apply w_ap | with_reducible apply w_call | with_reducible apply w_tst | with_reducible apply w_un | with_reducible apply w_tand | with_reducible apply w_tor | with_reducible apply w_tnot | with_reducible apply w_yes | with_reducible apply w_and | with_reducible apply w_or | with_reducible apply w_not | with_reducible apply w_if | with_reducible apply w_chain | with_reducible apply w_isi | with_reducible apply w_isi2 | with_reducible apply w_prop | with_reducible apply w_meth | with_reducible apply w_dget | with_reducible apply w_dnewF | with_reducible apply w_dnewT | with_reducible apply w_part | with_reducible apply w_noPart | with_reducible apply w_slLF | with_reducible apply w_slA | with_reducible apply w_ok | with_reducible apply w_ofO | with_reducible apply w_lcI | with_reducible apply w_seqI | with_reducible apply w_rng1 | with_reducible apply w_rng2 | with_reducible apply w_enum) | ((with_reducible apply gO); first | with_reducible apply wo_add | with_reducible apply wo_sub | with_reducible apply wo_lt | with_reducible apply wo_gt | with_reducible apply wo_eq | with_reducible apply wo_ne | with_reducible apply wo_le | with_reducible apply wo_ge | with_reducible apply wo_neg | with_reducible apply wo_eqS | with_reducible apply wo_neS | with_reducible apply wo_min | with_reducible apply wo_max | with_reducible apply wo_int | with_reducible apply wo_abs | with_reducible apply wo_tupL | with_reducible apply wo_tupT | with_reducible refine wo_tup (by with_unfolding_all rfl) ?_ | with_reducible refine wo_lstF (by with_unfolding_all rfl) ?_ | with_reducible refine wo_lstT (by with_unfolding_all rfl) ?_ | with_reducible apply wo_fld0 | with_reducible apply wo_fld1 | with_reducible apply wo_fld2) | ((with_reducible apply gS); first | with_reducible apply w_seq | with_reducible apply w_asg | with_reducible apply w_sif | with_reducible apply w_next | with_reducible apply w_ret | with_reducible apply w_par | with_reducible apply w_drop | with_reducible apply w_asgT | with_reducible apply w_retN | with_reducible apply w_brk | with_reducible apply w_cnt | with_reducible apply w_raise | with_reducible apply w_forI) | ((with_reducible apply gI); first | with_reducible apply wI_t | with_reducible apply wI_f | with_reducible apply wI_not) | with_reducible apply w_bl | with_reducible apply thn_nx | with_reducible apply w_int | with_reducible apply w_obj | with_reducible apply thn_rt | with_reducible apply lp_nx | with_reducible apply fnl_int | with_reducible apply fnl_bl | with_reducible apply fnl_non | with_reducible apply fnl_str | with_reducible apply fnl_nx | with_reducible apply thn_bk | with_reducible apply thn_ct | with_reducible apply thn_xc | with_reducible apply lp_rt | with_reducible apply lp_bk | with_reducible apply lp_xc | with_reducible apply w_itL | with_reducible apply w_itT | with_reducible apply w_itK)
local macro_rules | `(tactic| walk_at "p") => `(tactic| repeat walk_at "w")
local macro_rules | `(tactic| walk_at "w") => `(tactic| first | ((with_reducible apply gR); first | with_reducible refine w_var rfl ?_ | with_reducible apply w_cons | with_reducible apply w_c | with_reducible apply w_nil | with_reducible apply w_op | with_reducible apply w_ap | with_reducible apply w_call | with_reducible apply w_tst | with_reducible apply w_un | with_reducible apply w_tand | with_reducible apply w_tor | with_reducible apply w_tnot | with_reducible apply w_yes | with_reducible apply w_and | with_reducible apply w_or | with_reducible apply w_not | with_reducible apply w_if | with_reducible apply w_chain | with_reducible apply w_isi | with_reducible apply w_isi2 | with_reducible apply w_prop | with_reducible apply w_meth | with_reducible apply w_dget | with_reducible apply w_dnewF | with_reducible apply w_dnewT | with_reducible apply w_part | with_reducible apply w_noPart | with_reducible apply w_slLF | with_reducible apply w_slA | with_reducible apply w_ok | with_reducible apply w_ofO | with_reducible apply w_lcI | with_reducible apply w_seqI | with_reducible apply w_rng1 | with_reducible apply w_rng2 | with_reducible apply w_enum) | ((with_reducible apply gO); first | with_reducible apply wo_add | with_reducible apply wo_sub | with_reducible apply wo_lt | with_reducible apply wo_gt | with_reducible apply wo_eq | with_reducible apply wo_ne | with_reducible apply wo_le | with_reducible apply wo_ge | with_reducible apply wo_neg | with_reducible apply wo_eqS | with_reducible apply wo_neS | with_reducible apply wo_min | with_reducible apply wo_max | with_reducible apply wo_int | with_reducible apply wo_abs | with_reducible apply wo_tupL | with_reducible apply wo_tupT | with_reducible refine wo_tup (by with_unfolding_all rfl) ?_ | with_reducible refine wo_lstF (by with_unfolding_all rfl) ?_ | with_reducible refine wo_lstT (by with_unfolding_all rfl) ?_ | with_reducible apply wo_fld0 | with_reducible apply wo_fld1 | with_reducible apply wo_fld2) | ((with_reducible apply gS); first | with_reducible apply w_seq | with_reducible apply w_asg | with_reducible apply w_sif | with_reducible apply w_next | with_reducible apply w_ret | with_reducible apply w_par | with_reducible apply w_drop | with_reducible apply w_asgT | with_reducible apply w_retN | with_reducible apply w_brk | with_reducible apply w_cnt | with_reducible apply w_raise | with_reducible apply w_forI) | ((with_reducible apply gI); first | with_reducible apply wI_t | with_reducible apply wI_f | with_reducible apply wI_not) | with_reducible apply w_bl | with_reducible apply thn_nx | with_reducible apply w_int | with_reducible apply w_obj | with_reducible apply thn_rt | with_reducible apply lp_nx | with_reducible apply fnl_int | with_reducible apply fnl_bl | with_reducible apply fnl_non | with_reducible apply fnl_str | with_reducible apply fnl_nx | with_reducible apply thn_bk | with_reducible apply thn_ct | with_reducible apply thn_xc | with_reducible apply lp_rt | with_reducible apply lp_bk | with_reducible apply lp_xc | with_reducible apply w_itL | with_reducible apply w_itT | with_reducible apply w_itK)
local macro_rules | `(tactic| walk_at "p") => `(tactic| repeat walk_at "w")
/-! S6e: evens, odds. -/
section
variable {C : Store} {Q : D → Store → Prop} {X : Exc → Store → Prop} {E O : List Rn}
theorem evens_w (h : Q (.tup (rsD E)) C) : wR (m_Want_evens [wantD E O] C) Q X := by
  rw [e_Want_evens]
  apply w_fin
  unfold b_Want_evens
  walk_at "p"
  refine wo_ix rfl (k := 0) rfl rfl ?_
  walk_at "p"
  exact fnl_p (cb_tup _ _) (by simpa using h)
theorem odds_w (h : Q (.tup (rsD O)) C) : wR (m_Want_odds [wantD E O] C) Q X := by
  rw [e_Want_odds]
  apply w_fin
  unfold b_Want_odds
  walk_at "p"
  refine wo_ix rfl (k := 1) rfl rfl ?_
  walk_at "p"
  exact fnl_p (cb_tup _ _) (by simpa using h)
end
end CL
set_option maxHeartbeats 4000000
namespace CL
open PySem L2 CT
local macro_rules | `(tactic| walk_at "w") => `(tactic| first | ((with_reducible apply gR); first | with_reducible refine w_var rfl ?_ | with_reducible apply w_cons | with_reducible apply w_c | with_reducible apply w_nil | with_reducible apply w_op | with_reducible apply w_ap | with_reducible apply w_call | with_reducible apply w_tst | with_reducible apply w_un | with_reducible apply w_tand | with_reducible apply w_tor | with_reducible apply w_tnot | with_reducible apply w_yes | with_reducible apply w_and | with_reducible apply w_or | with_reducible apply w_not | with_reducible apply w_if | with_reducible apply w_chain | with_reducible apply w_isi | with_reducible apply w_isi2 | with_reducible apply w_prop | with_reducible apply w_meth | with_reducible apply w_dget | with_reducible apply w_dnewF | with_reducible apply w_dnewT | with_reducible apply w_part | with_reducible apply w_noPart | with_reducible apply w_slLF | with_reducible apply w_slA | with_reducible apply w_ok | with_reducible apply w_ofO | with_reducible apply w_lcI | with_reducible apply w_seqI | with_reducible apply w_rng1 | with_reducible apply w_rng2 | with_reducible apply w_enum) | ((with_reducible apply gO); first | with_reducible apply wo_add | with_reducible apply wo_sub | with_reducible apply wo_lt | with_reducible apply wo_gt | with_reducible apply wo_eq | with_reducible apply wo_ne | with_reducible apply wo_le | with_reducible apply wo_ge | with_reducible apply wo_neg | with_reducible apply wo_eqS | with_reducible apply wo_neS | with_reducible apply wo_min | with_reducible apply wo_max | with_reducible apply wo_int | with_reducible apply wo_abs | with_reducible apply wo_tupL | with_reducible apply wo_tupT | with_reducible refine wo_tup (by with_unfolding_all rfl) ?_ | with_reducible refine wo_lstF (by with_unfolding_all rfl) ?_ | with_reducible refine wo_lstT (by with_unfolding_all rfl) ?_ | with_reducible apply wo_fld0 | with_reducible apply wo_fld1 | with_reducible apply wo_fld2) | ((with_reducible apply gS); first | with_reducible apply w_seq | with_reducible apply w_asg | with_reducible apply w_sif | with_reducible apply w_next | with_reducible apply w_ret | with_reducible apply w_par | with_reducible apply w_drop | with_reducible apply w_asgT | with_reducible apply w_retN | with_reducible apply w_brk | with_reducible apply w_cnt | with_reducible apply w_raise | with_reducible apply w_forI) | ((with_reducible apply gI); first | with_reducible apply wI_t | with_reducible apply wI_f | with_reducible apply wI_not) | with_reducible apply w_bl | with_reducible apply thn_nx | with_reducible apply w_int | with_reducible apply w_obj | with_reducible apply thn_rt | with_reducible apply lp_nx | with_reducible apply fnl_int | with_reducible apply fnl_bl | with_reducible apply fnl_non | with_reducible apply fnl_str | with_reducible apply fnl_nx | with_reducible apply thn_bk | with_reducible apply thn_ct | with_reducible apply thn_xc | with_reducible apply lp_rt | with_reducible apply lp_bk | with_reducible apply lp_xc | with_reducible apply w_itL | with_reducible apply w_itT | with_reducible apply w_itK)
local macro_rules | `(tactic| walk_at "p") => `(tactic| repeat walk_at "w")
local macro_rules | `(tactic| walk_at "w") => `(tactic| first | ((with_reducible apply gR); first | with_reducible refine w_var rfl ?_ | with_reducible apply w_cons | with_reducible apply w_c | with_reducible apply w_nil | with_reducible apply w_op | with_reducible apply w_ap | with_reducible apply w_call | with_reducible apply w_tst | with_reducible apply w_un | with_reducible apply w_tand | with_reducible apply w_tor | with_reducible apply w_tnot | with_reducible apply w_yes | with_reducible apply w_and | with_reducible apply w_or | with_reducible apply w_not | with_reducible apply w_if | with_reducible apply w_chain | with_reducible apply w_isi | with_reducible apply w_isi2 | with_reducible apply w_prop | with_reducible apply w_meth | with_reducible apply w_dget | with_reducible apply w_dnewF | with_reducible apply w_dnewT | with_reducible apply w_part | with_reducible apply w_noPart | with_reducible apply w_slLF | with_reducible apply w_slA | with_reducible apply w_ok | with_reducible apply w_ofO | with_reducible apply w_lcI | with_reducible apply w_seqI | with_reducible apply w_rng1 | with_reducible apply w_rng2 | with_reducible apply w_enum) | ((with_reducible apply gO); first | with_reducible apply wo_add | with_reducible apply wo_sub | with_reducible apply wo_lt | with_reducible apply wo_gt | with_reducible apply wo_eq | with_reducible apply wo_ne | with_reducible apply wo_le | with_reducible apply wo_ge | with_reducible apply wo_neg | with_reducible apply wo_eqS | with_reducible apply wo_neS | with_reducible apply wo_min | with_reducible apply wo_max | with_reducible apply wo_int | with_reducible apply wo_abs | with_reducible apply wo_tupL | with_reducible apply wo_tupT | with_reducible refine wo_tup (by with_unfolding_all rfl) ?_ | with_reducible refine wo_lstF (by with_unfolding_all rfl) ?_ | with_reducible refine wo_lstT (by with_unfolding_all rfl) ?_ | with_reducible apply wo_fld0 | with_reducible apply wo_fld1 | with_reducible apply wo_fld2) | ((with_reducible apply gS); first | with_reducible apply w_seq | with_reducible apply w_asg | with_reducible apply w_sif | with_reducible apply w_next | with_reducible apply w_ret | with_reducible apply w_par | with_reducible apply w_drop | with_reducible apply w_asgT | with_reducible apply w_retN | with_reducible apply w_brk | with_reducible apply w_cnt | with_reducible apply w_raise | with_reducible apply w_forI) | ((with_reducible apply gI); first | with_reducible apply wI_t | with_reducible apply wI_f | with_reducible apply wI_not) | with_reducible apply w_bl | with_reducible apply thn_nx | with_reducible apply w_int | with_reducible apply w_obj | with_reducible apply thn_rt | with_reducible apply lp_nx | with_reducible apply fnl_int | with_reducible apply fnl_bl | with_reducible apply fnl_non | with_reducible apply fnl_str | with_reducible apply fnl_nx | with_reducible apply thn_bk | with_reducible apply thn_ct | with_reducible apply thn_xc | with_reducible apply lp_rt | with_reducible apply lp_bk | with_reducible apply lp_xc | with_reducible apply w_itL | with_reducible apply w_itT | with_reducible apply w_itK)
local macro_rules | `(tactic| walk_at "p") => `(tactic| repeat walk_at "w")
/-! S6: without, within, |, &, ^, ==, walked. -/
section
variable {C : Store} {Q : D → Store → Prop} {X : Exc → Store → Prop} {E O E' O' : List Rn}
theorem without_w (h1 : RestOk E E') (h2 : RestOk O O') (h : Q (wantD (E'.foldl cutR E) (O'.foldl cutR O)) C) : wR (m_Want_without [wantD E O, wantD E' O'] C) Q X := by
  rw [e_Want_without]
  apply w_fin
  unfold b_Want_without
  walk_at "p"
  refine mk_kw (halves_lc (A := E'.foldl cutR E) (B := O'.foldl cutR O) (k := 2) (by simp) (fun acc => w_eqv ?_) (fun acc => w_eqv ?_) ⟨_, _, rfl, fnl_p (cb_want _ _ _) (by simpa using h)⟩)
  · walk_at "p"
    refine wo_ix rfl (k := 0) rfl rfl ?_
    walk_at "p"
    refine wo_ix rfl (k := 0) rfl rfl ?_
    walk_at "p"
    exact rest_w h1 ⟨rfl, rfl⟩
  · walk_at "p"
    refine wo_ix rfl (k := 1) rfl rfl ?_
    walk_at "p"
    refine wo_ix rfl (k := 1) rfl rfl ?_
    walk_at "p"
    exact rest_w h2 ⟨rfl, rfl⟩
theorem within_w (h1 : RestOk E E') (h2 : RestOk O O') (h : Q (.bl (decide (E'.foldl cutR E = [] ∧ O'.foldl cutR O = []))) C) : wR (m_Want_within [wantD E O, wantD E' O'] C) Q X := by
  rw [e_Want_within]
  apply w_fin
  unfold b_Want_within
  walk_at "p"
  refine ⟨_, rfl, ?_⟩
  walk_at "p"
  refine without_w h1 h2 ?_
  walk_at "p"
  refine wo_of (eq_hv _ _ [] [] _) ?_
  walk_at "p"
  simpa using h
theorem and_w (c1 : Canon 0 E) (c2 : Canon 0 E') (c3 : Canon 1 O) (c4 : Canon 1 O') (h1 : E.length ≤ 1000) (h2 : E'.length ≤ 1000) (h3 : O.length ≤ 1000) (h4 : O'.length ≤ 1000) (h : Q (wantD (comR E E') (comR O O')) C) : wR (m_Want__and [wantD E O, wantD E' O'] C) Q X := by
  rw [e_Want__and]
  apply w_fin
  unfold b_Want__and b_Want__and_0 b_Want__and_1
  walk_at "p"
  refine ⟨true, rfl, ?_⟩
  walk_at "p"
  refine mk_kw (halves_lc (A := comR E E') (B := comR O O') (k := 2) (by simp) (fun acc => w_eqv ?_) (fun acc => w_eqv ?_) ⟨_, _, rfl, fnl_p (cb_want _ _ _) (by simpa using h)⟩)
  · walk_at "p"
    refine wo_ix rfl (k := 0) rfl rfl ?_
    walk_at "p"
    refine wo_ix rfl (k := 0) rfl rfl ?_
    walk_at "p"
    exact common_w c1 c2 h1 h2 ⟨rfl, rfl⟩
  · walk_at "p"
    refine wo_ix rfl (k := 1) rfl rfl ?_
    walk_at "p"
    refine wo_ix rfl (k := 1) rfl rfl ?_
    walk_at "p"
    exact common_w c3 c4 h3 h4 ⟨rfl, rfl⟩
theorem xor_w (h1 : RestOk E E') (h2 : RestOk O O') (h3 : RestOk E' E) (h4 : RestOk O' O) (h5 : (E'.foldl cutR E).length + (E.foldl cutR E').length ≤ 10000) (h6 : (O'.foldl cutR O).length + (O.foldl cutR O').length ≤ 10000)
    (h : Q (wantD (mgd (E'.foldl cutR E ++ E.foldl cutR E')) (mgd (O'.foldl cutR O ++ O.foldl cutR O'))) C) : wR (m_Want__xor [wantD E O, wantD E' O'] C) Q X := by
  rw [e_Want__xor]
  apply w_fin
  unfold b_Want__xor b_Want__xor_0 b_Want__xor_1
  walk_at "p"
  refine ⟨true, rfl, ?_⟩
  walk_at "p"
  refine w_binO ?_
  walk_at "p"
  refine ⟨_, rfl, ?_⟩
  walk_at "p"
  refine without_w h1 h2 ?_
  walk_at "p"
  refine ⟨_, rfl, ?_⟩
  walk_at "p"
  refine without_w h3 h4 ⟨rfl, ?_⟩
  refine or_w h5 h6 ?_
  exact fnl_p (cb_want _ _ _) (by simpa using h)
theorem eq_w (h : Q (.bl (decide (E = E' ∧ O = O'))) C) : wR (m_Want__eq [wantD E O, wantD E' O'] C) Q X := by
  rw [e_Want__eq]
  apply w_fin
  unfold b_Want__eq
  walk_at "p"
  refine ⟨true, rfl, ?_⟩
  walk_at "p"
  refine wo_of (eq_hv _ _ _ _ _) ?_
  walk_at "p"
  simpa using h
end
end CL
set_option maxHeartbeats 4000000
namespace CL
open PySem L2 CT
local macro_rules | `(tactic| walk_at "w") => `(tactic| first | ((with_reducible apply gR); first | with_reducible refine w_var rfl ?_ | with_reducible apply w_cons | with_reducible apply w_c | with_reducible apply w_nil | with_reducible apply w_op | with_reducible apply w_ap | with_reducible apply w_call | with_reducible apply w_tst | with_reducible apply w_un | with_reducible apply w_tand | with_reducible apply w_tor | with_reducible apply w_tnot | with_reducible apply w_yes | with_reducible apply w_and | with_reducible apply w_or | with_reducible apply w_not | with_reducible apply w_if | with_reducible apply w_chain | with_reducible apply w_isi | with_reducible apply w_isi2 | with_reducible apply w_prop | with_reducible apply w_meth | with_reducible apply w_dget | with_reducible apply w_dnewF | with_reducible apply w_dnewT | with_reducible apply w_part | with_reducible apply w_noPart | with_reducible apply w_slLF | with_reducible apply w_slA | with_reducible apply w_ok | with_reducible apply w_ofO | with_reducible apply w_lcI | with_reducible apply w_seqI | with_reducible apply w_rng1 | with_reducible apply w_rng2 | with_reducible apply w_enum) | ((with_reducible apply gO); first | with_reducible apply wo_add | with_reducible apply wo_sub | with_reducible apply wo_lt | with_reducible apply wo_gt | with_reducible apply wo_eq | with_reducible apply wo_ne | with_reducible apply wo_le | with_reducible apply wo_ge | with_reducible apply wo_neg | with_reducible apply wo_eqS | with_reducible apply wo_neS | with_reducible apply wo_min | with_reducible apply wo_max | with_reducible apply wo_int | with_reducible apply wo_abs | with_reducible apply wo_tupL | with_reducible apply wo_tupT | with_reducible refine wo_tup (by with_unfolding_all rfl) ?_ | with_reducible refine wo_lstF (by with_unfolding_all rfl) ?_ | with_reducible refine wo_lstT (by with_unfolding_all rfl) ?_ | with_reducible apply wo_fld0 | with_reducible apply wo_fld1 | with_reducible apply wo_fld2) | ((with_reducible apply gS); first | with_reducible apply w_seq | with_reducible apply w_asg | with_reducible apply w_sif | with_reducible apply w_next | with_reducible apply w_ret | with_reducible apply w_par | with_reducible apply w_drop | with_reducible apply w_asgT | with_reducible apply w_retN | with_reducible apply w_brk | with_reducible apply w_cnt | with_reducible apply w_raise | with_reducible apply w_forI) | ((with_reducible apply gI); first | with_reducible apply wI_t | with_reducible apply wI_f | with_reducible apply wI_not) | with_reducible apply w_bl | with_reducible apply thn_nx | with_reducible apply w_int | with_reducible apply w_obj | with_reducible apply thn_rt | with_reducible apply lp_nx | with_reducible apply fnl_int | with_reducible apply fnl_bl | with_reducible apply fnl_non | with_reducible apply fnl_str | with_reducible apply fnl_nx | with_reducible apply thn_bk | with_reducible apply thn_ct | with_reducible apply thn_xc | with_reducible apply lp_rt | with_reducible apply lp_bk | with_reducible apply lp_xc | with_reducible apply w_itL | with_reducible apply w_itT | with_reducible apply w_itK)
local macro_rules | `(tactic| walk_at "p") => `(tactic| repeat walk_at "w")
local macro_rules | `(tactic| walk_at "w") => `(tactic| first | ((with_reducible apply gR); first | with_reducible refine w_var rfl ?_ | with_reducible apply w_cons | with_reducible apply w_c | with_reducible apply w_nil | with_reducible apply w_op | with_reducible apply w_ap | with_reducible apply w_call | with_reducible apply w_tst | with_reducible apply w_un | with_reducible apply w_tand | with_reducible apply w_tor | with_reducible apply w_tnot | with_reducible apply w_yes | with_reducible apply w_and | with_reducible apply w_or | with_reducible apply w_not | with_reducible apply w_if | with_reducible apply w_chain | with_reducible apply w_isi | with_reducible apply w_isi2 | with_reducible apply w_prop | with_reducible apply w_meth | with_reducible apply w_dget | with_reducible apply w_dnewF | with_reducible apply w_dnewT | with_reducible apply w_part | with_reducible apply w_noPart | with_reducible apply w_slLF | with_reducible apply w_slA | with_reducible apply w_ok | with_reducible apply w_ofO | with_reducible apply w_lcI | with_reducible apply w_seqI | with_reducible apply w_rng1 | with_reducible apply w_rng2 | with_reducible apply w_enum) | ((with_reducible apply gO); first | with_reducible apply wo_add | with_reducible apply wo_sub | with_reducible apply wo_lt | with_reducible apply wo_gt | with_reducible apply wo_eq | with_reducible apply wo_ne | with_reducible apply wo_le | with_reducible apply wo_ge | with_reducible apply wo_neg | with_reducible apply wo_eqS | with_reducible apply wo_neS | with_reducible apply wo_min | with_reducible apply wo_max | with_reducible apply wo_int | with_reducible apply wo_abs | with_reducible apply wo_tupL | with_reducible apply wo_tupT | with_reducible refine wo_tup (by with_unfolding_all rfl) ?_ | with_reducible refine wo_lstF (by with_unfolding_all rfl) ?_ | with_reducible refine wo_lstT (by with_unfolding_all rfl) ?_ | with_reducible apply wo_fld0 | with_reducible apply wo_fld1 | with_reducible apply wo_fld2) | ((with_reducible apply gS); first | with_reducible apply w_seq | with_reducible apply w_asg | with_reducible apply w_sif | with_reducible apply w_next | with_reducible apply w_ret | with_reducible apply w_par | with_reducible apply w_drop | with_reducible apply w_asgT | with_reducible apply w_retN | with_reducible apply w_brk | with_reducible apply w_cnt | with_reducible apply w_raise | with_reducible apply w_forI) | ((with_reducible apply gI); first | with_reducible apply wI_t | with_reducible apply wI_f | with_reducible apply wI_not) | with_reducible apply w_bl | with_reducible apply thn_nx | with_reducible apply w_int | with_reducible apply w_obj | with_reducible apply thn_rt | with_reducible apply lp_nx | with_reducible apply fnl_int | with_reducible apply fnl_bl | with_reducible apply fnl_non | with_reducible apply fnl_str | with_reducible apply fnl_nx | with_reducible apply thn_bk | with_reducible apply thn_ct | with_reducible apply thn_xc | with_reducible apply lp_rt | with_reducible apply lp_bk | with_reducible apply lp_xc | with_reducible apply w_itL | with_reducible apply w_itT | with_reducible apply w_itK)
local macro_rules | `(tactic| walk_at "p") => `(tactic| repeat walk_at "w")
/-! S8: the law's _runs, _want, _is. -/
section
variable {C : Store} {Q : D → Store → Prop} {X : Exc → Store → Prop} {xs ys : List Int} {p : Int}
theorem sortS_ok (h : xs.length < 64) : oSortS false [.lst (xs.map .int)] C = some (.lst ((srtI xs).map .int), C) := by
  simp only [oSortS, vL, Option.bind_some, dInts_map, h, if_true]
  rfl
theorem runs_w (hl : xs.length < 64) (h : Q (.tup (rsD (lawR p xs))) C) : wR (m_law_runs [.lst (xs.map .int), .int p] C) Q X := by
  have hln := srtI_len1 xs
  rw [e_law_runs]
  apply w_fin
  unfold b_law_runs b_law_runs_0 b_law_runs_1
  walk_at "p"
  refine wo_of (sortS_ok hl) ?_
  walk_at "p"
  refine loop_p (pure_C _) (fun j sl S => S = C ++ [some (.lst (rsD (((srtI xs).take j).foldl (lstep p) [])))] ∧ ∃ s3, sl = [some (.lst (xs.map .int)), some (.int p), some (.cell C.length), s3]) ⟨rfl, _, rfl⟩ ?_ ?_
  · rintro j y sl S hy ⟨rfl, s3, rfl⟩
    rw [List.getElem?_map] at hy
    obtain ⟨x, hx, rfl⟩ := Option.map_eq_some_iff.mp hy
    have hf := fold_take (f := lstep p) (b := []) hx
    have hjl : j < (srtI xs).length := (List.getElem?_eq_some_iff.mp hx).1
    have hlj := lfold_len p ((srtI xs).take j) []
    rw [List.length_take] at hlj
    simp only [List.length_nil] at hlj
    generalize ((srtI xs).take j).foldl (lstep p) [] = f at hlj hf ⊢
    have at_n : (C ++ [some (Cell.lst (rsD f))])[C.length]? = some (some (.lst (rsD f))) := by simp
    refine ⟨[some (.lst (xs.map .int)), some (.int p), some (.cell C.length), some (.int x)], rfl, ?_⟩
    unfold b_law_runs_1b_0
    walk_at "p"
    refine wo_mod (by decide) ?_
    walk_at "p"
    refine wI_d (fun hp => ?_) fun hp => ?_
    · walk_at "p"
      refine wo_of (ne_cell at_n) ?_
      walk_at "p"
      have app : lstep p f x = f ++ [(x, x)] → wS (sDrop (mAppend (mVar 2) (mAp oTup (mCons (mVar 3) (mCons (mVar 3) mNil)))) ⟨C.length, [some (.lst (xs.map .int)), some (.int p), some (.cell C.length), some (.int x)]⟩ (C ++ [some (.lst (rsD f))])) (lpP (fun j sl S => S = C ++ [some (.lst (rsD (((srtI xs).take j).foldl (lstep p) [])))] ∧ ∃ s3, sl = [some (.lst (xs.map .int)), some (.int p), some (.cell C.length), s3]) (j + 1) (thn b_law_runs_2 C.length (fnl C.length Q X))) := fun he => by
        refine appL (r := (x, x)) rfl (Nat.le_refl _) (by omega) ?_ ?_
        · walk_at "p"
          exact ⟨rfl, rfl⟩
        · walk_at "p"
          exact ⟨by rw [hf, he], _, rfl⟩
      refine wI_d (fun he => ?_) fun he => ?_
      · exact wI_f (app (by unfold lstep; rw [if_pos hp, he]; rfl))
      · obtain ⟨q, hq⟩ := last_nil he
        walk_at "p"
        refine wo_last at_n hq ?_
        walk_at "p"
        refine wo_ix rfl (k := 1) rfl rfl ?_
        walk_at "p"
        refine wI_d (fun hc => ?_) fun hc => ?_
        · refine w_setL ?_
          walk_at "p"
          refine wo_last at_n hq ?_
          walk_at "p"
          refine wo_ix rfl (k := 0) rfl rfl ?_
          walk_at "p"
          refine ⟨-1, C.length, rsD f, f.length - 1, _, rfl, by simp only [cL, at_n], ?_, wr_hi (Nat.le_refl _), ?_⟩
          · have hp : 0 < f.length := List.length_pos_iff.mpr he
            rw [rsD_len]
            unfold ixN
            rw [if_neg (by omega), if_pos (by omega)]
            congr 1
            omega
          · walk_at "p"
            refine ⟨?_, _, rfl⟩
            have e1 : lstep p f x = f.dropLast ++ [(q.1, x)] := by
              unfold lstep
              rw [if_pos hp, hq]
              simp only
              rw [if_pos hc]
            rw [hf, e1, ← set_last (r := (q.1, x)) hq]
            simp [rD]
        · exact app (by unfold lstep; rw [if_pos hp, hq]; simp only; rw [if_neg hc])
    · walk_at "p"
      refine ⟨?_, _, rfl⟩
      rw [hf]
      unfold lstep
      rw [if_neg hp]
  · rintro sl S ⟨rfl, s3, rfl⟩
    walk_at "p"
    unfold b_law_runs_2
    walk_at "p"
    refine wo_tupC (xs := rsD (lawR p xs)) ?_ ?_
    · rw [List.length_map, List.take_length]
      simp [lawR]
    · walk_at "p"
      exact fnl_p (cb_tup _ _) (by simpa using h)
theorem gd_runs {l : List Rn} (hl : l.length ≤ 63) (hb : ∀ r ∈ l, r.1.natAbs < 1000000000000 ∧ r.2.natAbs < 1000000000000) : ∃ p, Gd (63 * 83) 2 (.tup (rsD l)) p := by
  obtain ⟨ps, g⟩ := gdl_all (w := 82) (dp := 1) (xs := rsD l) fun x hx => by
    obtain ⟨r, hr, rfl⟩ := List.mem_map.mp hx
    obtain ⟨b1, b2⟩ := hb r hr
    exact ⟨_, (gd_tup (n := 2) (gdl_cons (gd_int b1) (gdl_cons (gd_int b2) gdl_nil)) (by simp)).mono (by decide) (by decide)⟩
  exact ⟨_, gd_tup g (by simpa using hl)⟩
def Small (xs : List Int) : Prop := xs.length < 64 ∧ ∀ x ∈ xs, -1000000000 ≤ x ∧ x ≤ 1000000000
theorem Small.runs (h : Small xs) (p : Int) : (lawR p xs).length ≤ 63 ∧ ∀ r ∈ lawR p xs, r.1.natAbs < 1000000000000 ∧ r.2.natAbs < 1000000000000 := by
  have := lawR_len p xs
  have := h.1
  refine ⟨by omega, fun r hr => ?_⟩
  obtain ⟨m1, m2⟩ := lawR_end hr
  have := h.2 _ m1
  have := h.2 _ m2
  omega
theorem is_w (hx : Small xs) (hs : ∀ x, x ∈ ys ↔ x ∈ xs) (h : Q (.bl true) C) : wR (m_law_is [wtD ys, .lst (xs.map .int)] C) Q X := by
  obtain ⟨l0, b0⟩ := hx.runs 0
  obtain ⟨l1, b1⟩ := hx.runs 1
  obtain ⟨p0, g0⟩ := gd_runs l0 b0
  obtain ⟨p1, g1⟩ := gd_runs l1 b1
  have g := gd_lst (n := 2) (gdl_cons g0 (gdl_cons g1 gdl_nil)) (by simp)
  rw [wtD_same hs, e_law_is]
  apply w_fin
  unfold b_law_is b_law_is_0 b_law_is_1 b_law_is_2
  walk_at "p"
  refine ⟨true, rfl, ?_⟩
  walk_at "p"
  refine runs_w hx.1 ?_
  walk_at "p"
  refine runs_w hx.1 ?_
  walk_at "p"
  refine ⟨_, rfl, ?_⟩
  refine evens_w ?_
  walk_at "p"
  refine ⟨_, rfl, ?_⟩
  refine odds_w ?_
  walk_at "p"
  refine wo_of (g.repr (by decide) (by decide) C) ?_
  walk_at "p"
  refine wo_of (g.repr (by decide) (by decide) C) ?_
  walk_at "p"
  rw [decide_eq_true rfl, List.take_length]
  exact h
end
end CL
set_option maxHeartbeats 4000000
namespace CL
open PySem L2 CT
local macro_rules | `(tactic| walk_at "w") => `(tactic| first | ((with_reducible apply gR); first | with_reducible refine w_var rfl ?_ | with_reducible apply w_cons | with_reducible apply w_c | with_reducible apply w_nil | with_reducible apply w_op | with_reducible apply w_ap | with_reducible apply w_call | with_reducible apply w_tst | with_reducible apply w_un | with_reducible apply w_tand | with_reducible apply w_tor | with_reducible apply w_tnot | with_reducible apply w_yes | with_reducible apply w_and | with_reducible apply w_or | with_reducible apply w_not | with_reducible apply w_if | with_reducible apply w_chain | with_reducible apply w_isi | with_reducible apply w_isi2 | with_reducible apply w_prop | with_reducible apply w_meth | with_reducible apply w_dget | with_reducible apply w_dnewF | with_reducible apply w_dnewT | with_reducible apply w_part | with_reducible apply w_noPart | with_reducible apply w_slLF | with_reducible apply w_slA | with_reducible apply w_ok | with_reducible apply w_ofO | with_reducible apply w_lcI | with_reducible apply w_seqI | with_reducible apply w_rng1 | with_reducible apply w_rng2 | with_reducible apply w_enum) | ((with_reducible apply gO); first | with_reducible apply wo_add | with_reducible apply wo_sub | with_reducible apply wo_lt | with_reducible apply wo_gt | with_reducible apply wo_eq | with_reducible apply wo_ne | with_reducible apply wo_le | with_reducible apply wo_ge | with_reducible apply wo_neg | with_reducible apply wo_eqS | with_reducible apply wo_neS | with_reducible apply wo_min | with_reducible apply wo_max | with_reducible apply wo_int | with_reducible apply wo_abs | with_reducible apply wo_tupL | with_reducible apply wo_tupT | with_reducible refine wo_tup (by with_unfolding_all rfl) ?_ | with_reducible refine wo_lstF (by with_unfolding_all rfl) ?_ | with_reducible refine wo_lstT (by with_unfolding_all rfl) ?_ | with_reducible apply wo_fld0 | with_reducible apply wo_fld1 | with_reducible apply wo_fld2) | ((with_reducible apply gS); first | with_reducible apply w_seq | with_reducible apply w_asg | with_reducible apply w_sif | with_reducible apply w_next | with_reducible apply w_ret | with_reducible apply w_par | with_reducible apply w_drop | with_reducible apply w_asgT | with_reducible apply w_retN | with_reducible apply w_brk | with_reducible apply w_cnt | with_reducible apply w_raise | with_reducible apply w_forI) | ((with_reducible apply gI); first | with_reducible apply wI_t | with_reducible apply wI_f | with_reducible apply wI_not) | with_reducible apply w_bl | with_reducible apply thn_nx | with_reducible apply w_int | with_reducible apply w_obj | with_reducible apply thn_rt | with_reducible apply lp_nx | with_reducible apply fnl_int | with_reducible apply fnl_bl | with_reducible apply fnl_non | with_reducible apply fnl_str | with_reducible apply fnl_nx | with_reducible apply thn_bk | with_reducible apply thn_ct | with_reducible apply thn_xc | with_reducible apply lp_rt | with_reducible apply lp_bk | with_reducible apply lp_xc | with_reducible apply w_itL | with_reducible apply w_itT | with_reducible apply w_itK)
local macro_rules | `(tactic| walk_at "p") => `(tactic| repeat walk_at "w")
local macro_rules | `(tactic| walk_at "w") => `(tactic| first | ((with_reducible apply gR); first | with_reducible refine w_var rfl ?_ | with_reducible apply w_cons | with_reducible apply w_c | with_reducible apply w_nil | with_reducible apply w_op | with_reducible apply w_ap | with_reducible apply w_call | with_reducible apply w_tst | with_reducible apply w_un | with_reducible apply w_tand | with_reducible apply w_tor | with_reducible apply w_tnot | with_reducible apply w_yes | with_reducible apply w_and | with_reducible apply w_or | with_reducible apply w_not | with_reducible apply w_if | with_reducible apply w_chain | with_reducible apply w_isi | with_reducible apply w_isi2 | with_reducible apply w_prop | with_reducible apply w_meth | with_reducible apply w_dget | with_reducible apply w_dnewF | with_reducible apply w_dnewT | with_reducible apply w_part | with_reducible apply w_noPart | with_reducible apply w_slLF | with_reducible apply w_slA | with_reducible apply w_ok | with_reducible apply w_ofO | with_reducible apply w_lcI | with_reducible apply w_seqI | with_reducible apply w_rng1 | with_reducible apply w_rng2 | with_reducible apply w_enum) | ((with_reducible apply gO); first | with_reducible apply wo_add | with_reducible apply wo_sub | with_reducible apply wo_lt | with_reducible apply wo_gt | with_reducible apply wo_eq | with_reducible apply wo_ne | with_reducible apply wo_le | with_reducible apply wo_ge | with_reducible apply wo_neg | with_reducible apply wo_eqS | with_reducible apply wo_neS | with_reducible apply wo_min | with_reducible apply wo_max | with_reducible apply wo_int | with_reducible apply wo_abs | with_reducible apply wo_tupL | with_reducible apply wo_tupT | with_reducible refine wo_tup (by with_unfolding_all rfl) ?_ | with_reducible refine wo_lstF (by with_unfolding_all rfl) ?_ | with_reducible refine wo_lstT (by with_unfolding_all rfl) ?_ | with_reducible apply wo_fld0 | with_reducible apply wo_fld1 | with_reducible apply wo_fld2) | ((with_reducible apply gS); first | with_reducible apply w_seq | with_reducible apply w_asg | with_reducible apply w_sif | with_reducible apply w_next | with_reducible apply w_ret | with_reducible apply w_par | with_reducible apply w_drop | with_reducible apply w_asgT | with_reducible apply w_retN | with_reducible apply w_brk | with_reducible apply w_cnt | with_reducible apply w_raise | with_reducible apply w_forI) | ((with_reducible apply gI); first | with_reducible apply wI_t | with_reducible apply wI_f | with_reducible apply wI_not) | with_reducible apply w_bl | with_reducible apply thn_nx | with_reducible apply w_int | with_reducible apply w_obj | with_reducible apply thn_rt | with_reducible apply lp_nx | with_reducible apply fnl_int | with_reducible apply fnl_bl | with_reducible apply fnl_non | with_reducible apply fnl_str | with_reducible apply fnl_nx | with_reducible apply thn_bk | with_reducible apply thn_ct | with_reducible apply thn_xc | with_reducible apply lp_rt | with_reducible apply lp_bk | with_reducible apply lp_xc | with_reducible apply w_itL | with_reducible apply w_itT | with_reducible apply w_itK)
local macro_rules | `(tactic| walk_at "p") => `(tactic| repeat walk_at "w")
/-! K1: in, bool, low, stepped of a Want. -/
def inR1 (x : Int) (r : Rn) : Bool := decide (r.1 ≤ x) && decide (x ≤ r.2)
def hasW (E O : List Rn) (x : Int) : Bool := (if x % 2 = 0 then E else O).any (inR1 x)
def inRD (x : Int) : D → D
  | .tup [.int a, .int b] => .bl (inR1 x (a, b))
  | _ => .non
theorem any_bls (l : List Bool) (C : Store) : oAny [.lst (l.map .bl)] C = some (.bl (l.any id), C) := by
  simp [oAny, vL]
section
variable {C : Store} {Q : D → Store → Prop} {X : Exc → Store → Prop} {E O : List Rn} {xs : List Int} {x : Int}
theorem hasW_law : hasW (lawR 0 xs) (lawR 1 xs) x = decide (x ∈ xs) := by
  unfold hasW
  rw [Bool.eq_iff_iff, decide_eq_true_eq, List.any_eq_true]
  have key : ∀ p, x % 2 = p → ((∃ r ∈ lawR p xs, inR1 x r = true) ↔ x ∈ xs) := fun p hp => by
    rw [← (lawR_ok p xs).2 x hp]
    unfold mR inR1
    simp only [Bool.and_eq_true, decide_eq_true_eq]
  rcases Int.emod_two_eq x with h | h
  · rw [if_pos h]
    exact key 0 h
  · rw [if_neg (by omega)]
    exact key 1 h
theorem contains_w (hE : E.length ≤ 1000) (hO : O.length ≤ 1000) (h : Q (.bl (hasW E O x)) C) : wR (m_Want__contains [wantD E O, .int x] C) Q X := by
  rw [e_Want__contains]
  apply w_fin
  unfold b_Want__contains b_Want__contains_0
  walk_at "p"
  refine w_of (is_integer_int x C) ?_
  walk_at "p"
  unfold b_Want__contains_1
  walk_at "p"
  refine wo_mod (by decide) ?_
  have go : ∀ l : List Rn, l.length ≤ 1000 → l = (if x % 2 = 0 then E else O) → wR (lcR (itC (rsD l)) (Tgt.tp [2, 3]).M tYesM (mChain oLe oLe (mVar 2) (mVar 1) (mVar 3)) [2, 3] ⟨C.length, [some (wantD E O), some (.int x), none, none]⟩ C) (fun d C1 => wR (mNil ⟨C.length, [some (wantD E O), some (.int x), none, none]⟩ C1) (fun ds C2 => wO (oAny (d :: ds) C2) fun d C3 => fnl C.length Q X (.rt d C3)) (fun e C1 => fnl C.length Q X (.xc e [some (wantD E O), some (.int x), none, none] C1))) (fun e C1 => fnl C.length Q X (.xc e [some (wantD E O), some (.int x), none, none] C1)) := by
    intro l hl el
    refine lc_p (pure_C _) (fun _ => true) (inRD x) (by rw [rsD_len]; omega) (fun y hy => ?_) (fun y hy _ => ?_) ?_
    · obtain ⟨r, _, rfl⟩ := List.mem_map.mp hy
      refine ⟨_, rfl, fun acc => ⟨w_yes ⟨rfl, rfl⟩, fun _ => ?_⟩⟩
      walk_at "p"
      refine wI_d (fun h1 => ?_) fun h1 => ?_
      · walk_at "p"
        exact ⟨by simp [inRD, rD, inR1, h1], rfl⟩
      · exact ⟨by simp [inRD, rD, inR1, h1], rfl⟩
    · obtain ⟨r, _, rfl⟩ := List.mem_map.mp hy
      rfl
    · have e : (((rsD l).filter fun _ => true).map (inRD x)) = (l.map (inR1 x)).map .bl := by
        rw [filter_yes, rsD, List.map_map, List.map_map]
        rfl
      rw [e]
      walk_at "p"
      refine wo_of (any_bls _ _) ?_
      walk_at "p"
      have e2 : (l.map (inR1 x)).any id = hasW E O x := by
        unfold hasW
        rw [← el]
        simp
      rw [e2, List.take_length]
      exact h
  rcases Int.emod_two_eq x with hx | hx
  · rw [hx]
    refine wo_ix rfl (k := 0) rfl rfl ?_
    walk_at "p"
    exact go E hE (by rw [if_pos hx])
  · rw [hx]
    refine wo_ix rfl (k := 1) rfl rfl ?_
    walk_at "p"
    exact go O hO (by rw [if_neg (by omega)])
theorem w_orT {a b : ME} {F : Fr} (h : wR (a F C) (fun d C1 => ∃ l : List Rn, d = .tup (rsD l) ∧ ((l = [] → wR (b F C1) Q X) ∧ (l ≠ [] → Q d C1))) X) : wR (mOrT a b F C) Q X := by
  unfold mOrT
  refine w_bnd (w_mono h (fun d C1 g => ?_) fun _ _ z => z)
  obtain ⟨l, rfl, g1, g2⟩ := g
  simp only [vT]
  cases l with
  | nil => exact g1 rfl
  | cons r l => exact w_ok (g2 (by simp))
theorem boolT_rs (l : List Rn) : oBoolT [.tup (rsD l)] C = some (.bl (!l.isEmpty), C) := by
  cases l <;> rfl
def someW (E O : List Rn) : Bool := !(E.isEmpty && O.isEmpty)
theorem bool_w (h : Q (.bl (someW E O)) C) : wR (m_Want__bool [wantD E O] C) Q X := by
  rw [e_Want__bool]
  apply w_fin
  unfold b_Want__bool
  walk_at "p"
  refine w_orT ?_
  walk_at "p"
  refine wo_ix rfl (k := 0) rfl rfl ⟨E, rfl, fun e => ?_, fun e => ?_⟩
  · walk_at "p"
    refine wo_ix rfl (k := 1) rfl rfl ?_
    walk_at "p"
    refine wo_of (boolT_rs _) ?_
    walk_at "p"
    rw [List.take_length]
    subst e
    exact h
  · walk_at "p"
    refine wo_of (boolT_rs _) ?_
    walk_at "p"
    rw [List.take_length]
    have e2 : (!E.isEmpty) = someW E O := by
      cases E with
      | nil => exact absurd rfl e
      | cons r E => rfl
    rw [e2]
    exact h
end
end CL
set_option maxHeartbeats 4000000
namespace CL
open PySem L2 CT
local macro_rules | `(tactic| walk_at "w") => `(tactic| first | ((with_reducible apply gR); first | with_reducible refine w_var rfl ?_ | with_reducible apply w_cons | with_reducible apply w_c | with_reducible apply w_nil | with_reducible apply w_op | with_reducible apply w_ap | with_reducible apply w_call | with_reducible apply w_tst | with_reducible apply w_un | with_reducible apply w_tand | with_reducible apply w_tor | with_reducible apply w_tnot | with_reducible apply w_yes | with_reducible apply w_and | with_reducible apply w_or | with_reducible apply w_not | with_reducible apply w_if | with_reducible apply w_chain | with_reducible apply w_isi | with_reducible apply w_isi2 | with_reducible apply w_prop | with_reducible apply w_meth | with_reducible apply w_dget | with_reducible apply w_dnewF | with_reducible apply w_dnewT | with_reducible apply w_part | with_reducible apply w_noPart | with_reducible apply w_slLF | with_reducible apply w_slA | with_reducible apply w_ok | with_reducible apply w_ofO | with_reducible apply w_lcI | with_reducible apply w_seqI | with_reducible apply w_rng1 | with_reducible apply w_rng2 | with_reducible apply w_enum) | ((with_reducible apply gO); first | with_reducible apply wo_add | with_reducible apply wo_sub | with_reducible apply wo_lt | with_reducible apply wo_gt | with_reducible apply wo_eq | with_reducible apply wo_ne | with_reducible apply wo_le | with_reducible apply wo_ge | with_reducible apply wo_neg | with_reducible apply wo_eqS | with_reducible apply wo_neS | with_reducible apply wo_min | with_reducible apply wo_max | with_reducible apply wo_int | with_reducible apply wo_abs | with_reducible apply wo_tupL | with_reducible apply wo_tupT | with_reducible refine wo_tup (by with_unfolding_all rfl) ?_ | with_reducible refine wo_lstF (by with_unfolding_all rfl) ?_ | with_reducible refine wo_lstT (by with_unfolding_all rfl) ?_ | with_reducible apply wo_fld0 | with_reducible apply wo_fld1 | with_reducible apply wo_fld2) | ((with_reducible apply gS); first | with_reducible apply w_seq | with_reducible apply w_asg | with_reducible apply w_sif | with_reducible apply w_next | with_reducible apply w_ret | with_reducible apply w_par | with_reducible apply w_drop | with_reducible apply w_asgT | with_reducible apply w_retN | with_reducible apply w_brk | with_reducible apply w_cnt | with_reducible apply w_raise | with_reducible apply w_forI) | ((with_reducible apply gI); first | with_reducible apply wI_t | with_reducible apply wI_f | with_reducible apply wI_not) | with_reducible apply w_bl | with_reducible apply thn_nx | with_reducible apply w_int | with_reducible apply w_obj | with_reducible apply thn_rt | with_reducible apply lp_nx | with_reducible apply fnl_int | with_reducible apply fnl_bl | with_reducible apply fnl_non | with_reducible apply fnl_str | with_reducible apply fnl_nx | with_reducible apply thn_bk | with_reducible apply thn_ct | with_reducible apply thn_xc | with_reducible apply lp_rt | with_reducible apply lp_bk | with_reducible apply lp_xc | with_reducible apply w_itL | with_reducible apply w_itT | with_reducible apply w_itK)
local macro_rules | `(tactic| walk_at "p") => `(tactic| repeat walk_at "w")
/-! L1: lists of ints as data: ==, in. -/
theorem toPs_is (C : Store) : ∀ l : List Int, toPs C (l.map D.int) = some (l.map .int)
  | [] => rfl
  | x :: l => by
    have e := toPs_is C l
    show (match toP C (.int x), toPs C (l.map D.int) with | some p, some ps => some (p :: ps) | _, _ => none) = _
    rw [e]
    rfl
theorem eqv_is : ∀ as bs : List Int, PyData.eqvAll (as.map .int) (bs.map .int) = decide (as = bs)
  | [], [] => rfl
  | [], b :: bs => rfl
  | a :: as, [] => rfl
  | a :: as, b :: bs => by
    show (PyData.eqv (.int a) (.int b) && PyData.eqvAll (as.map .int) (bs.map .int)) = _
    rw [eqv_is as bs, Bool.eq_iff_iff]
    simp [PyData.eqv]
theorem lay_is : ∀ l : List Int, PyData.canLayAll0 (l.map .int) = true
  | [] => rfl
  | a :: l => by simp [PyData.canLayAll0, PyData.canLay0, lay_is l]
theorem dep_is : ∀ l : List Int, PyData.depthAll (l.map .int) ≤ 0
  | [] => by simp [PyData.depthAll]
  | a :: l => by
    have := dep_is l
    simp only [List.map_cons, PyData.depthAll, PyData.depth]
    omega
theorem shp_li (l : List Int) : SeqAt.shaped (.list (l.map .int)) = true := by
  have h3 := dep_is l
  have h4 : (PyData.list (l.map .int)).depth ≤ 64 := by simp only [PyData.depth]; omega
  simp [SeqAt.shaped, PyData.canLay0, lay_is, h4]
theorem toP_li (C : Store) (l : List Int) : toP C (.lst (l.map .int)) = some (.list (l.map .int)) := by
  show (toPs C (l.map D.int)).map PyData.list = _
  rw [toPs_is]
  rfl
theorem eq_li (as bs : List Int) (C : Store) : oEqA false (.lst (as.map .int)) (.lst (bs.map .int)) C = some (.bl (decide (as = bs)), C) := by
  show oEqD false _ _ C = _
  simp only [oEqD, toP_li, shp_li, Bool.and_self, if_true, PyData.eqv, eqv_is]
  rfl
theorem any_is (x : Int) : ∀ l : List Int, ((l.map PyData.int).any fun z => PyData.eqv z (.int x)) = decide (x ∈ l)
  | [] => by simp
  | y :: l => by
    have e := any_is x l
    rw [List.map_cons, List.any_cons, e, Bool.eq_iff_iff]
    simp only [PyData.eqv, Bool.or_eq_true, beq_iff_eq, decide_eq_true_eq, List.mem_cons]
    constructor
    · rintro (h | h)
      · exact .inl h.symm
      · exact .inr h
    · rintro (h | h)
      · exact .inl h.symm
      · exact .inr h
theorem in_li (neg : Bool) (x : Int) (l : List Int) (C : Store) : oInD neg (.int x) (.lst (l.map .int)) C = some (.bl (if neg = true then !decide (x ∈ l) else decide (x ∈ l)), C) := by
  have h : SeqAt.shaped (.int x) = true := rfl
  have e : toP C (.int x) = some (.int x) := rfl
  simp only [oInD, toP_li, e, itemsP, h, shp_li, Bool.and_self, if_true, any_is]
end CL
set_option maxHeartbeats 4000000
namespace CL
open PySem L2 CT
local macro_rules | `(tactic| walk_at "w") => `(tactic| first | ((with_reducible apply gR); first | with_reducible refine w_var rfl ?_ | with_reducible apply w_cons | with_reducible apply w_c | with_reducible apply w_nil | with_reducible apply w_op | with_reducible apply w_ap | with_reducible apply w_call | with_reducible apply w_tst | with_reducible apply w_un | with_reducible apply w_tand | with_reducible apply w_tor | with_reducible apply w_tnot | with_reducible apply w_yes | with_reducible apply w_and | with_reducible apply w_or | with_reducible apply w_not | with_reducible apply w_if | with_reducible apply w_chain | with_reducible apply w_isi | with_reducible apply w_isi2 | with_reducible apply w_prop | with_reducible apply w_meth | with_reducible apply w_dget | with_reducible apply w_dnewF | with_reducible apply w_dnewT | with_reducible apply w_part | with_reducible apply w_noPart | with_reducible apply w_slLF | with_reducible apply w_slA | with_reducible apply w_ok | with_reducible apply w_ofO | with_reducible apply w_lcI | with_reducible apply w_seqI | with_reducible apply w_rng1 | with_reducible apply w_rng2 | with_reducible apply w_enum) | ((with_reducible apply gO); first | with_reducible apply wo_add | with_reducible apply wo_sub | with_reducible apply wo_lt | with_reducible apply wo_gt | with_reducible apply wo_eq | with_reducible apply wo_ne | with_reducible apply wo_le | with_reducible apply wo_ge | with_reducible apply wo_neg | with_reducible apply wo_eqS | with_reducible apply wo_neS | with_reducible apply wo_min | with_reducible apply wo_max | with_reducible apply wo_int | with_reducible apply wo_abs | with_reducible apply wo_tupL | with_reducible apply wo_tupT | with_reducible refine wo_tup (by with_unfolding_all rfl) ?_ | with_reducible refine wo_lstF (by with_unfolding_all rfl) ?_ | with_reducible refine wo_lstT (by with_unfolding_all rfl) ?_ | with_reducible apply wo_fld0 | with_reducible apply wo_fld1 | with_reducible apply wo_fld2) | ((with_reducible apply gS); first | with_reducible apply w_seq | with_reducible apply w_asg | with_reducible apply w_sif | with_reducible apply w_next | with_reducible apply w_ret | with_reducible apply w_par | with_reducible apply w_drop | with_reducible apply w_asgT | with_reducible apply w_retN | with_reducible apply w_brk | with_reducible apply w_cnt | with_reducible apply w_raise | with_reducible apply w_forI) | ((with_reducible apply gI); first | with_reducible apply wI_t | with_reducible apply wI_f | with_reducible apply wI_not) | with_reducible apply w_bl | with_reducible apply thn_nx | with_reducible apply w_int | with_reducible apply w_obj | with_reducible apply thn_rt | with_reducible apply lp_nx | with_reducible apply fnl_int | with_reducible apply fnl_bl | with_reducible apply fnl_non | with_reducible apply fnl_str | with_reducible apply fnl_nx | with_reducible apply thn_bk | with_reducible apply thn_ct | with_reducible apply thn_xc | with_reducible apply lp_rt | with_reducible apply lp_bk | with_reducible apply lp_xc | with_reducible apply w_itL | with_reducible apply w_itT | with_reducible apply w_itK)
local macro_rules | `(tactic| walk_at "p") => `(tactic| repeat walk_at "w")
local macro_rules | `(tactic| walk_at "w") => `(tactic| first | ((with_reducible apply gR); first | with_reducible refine w_var rfl ?_ | with_reducible apply w_cons | with_reducible apply w_c | with_reducible apply w_nil | with_reducible apply w_op | with_reducible apply w_ap | with_reducible apply w_call | with_reducible apply w_tst | with_reducible apply w_un | with_reducible apply w_tand | with_reducible apply w_tor | with_reducible apply w_tnot | with_reducible apply w_yes | with_reducible apply w_and | with_reducible apply w_or | with_reducible apply w_not | with_reducible apply w_if | with_reducible apply w_chain | with_reducible apply w_isi | with_reducible apply w_isi2 | with_reducible apply w_prop | with_reducible apply w_meth | with_reducible apply w_dget | with_reducible apply w_dnewF | with_reducible apply w_dnewT | with_reducible apply w_part | with_reducible apply w_noPart | with_reducible apply w_slLF | with_reducible apply w_slA | with_reducible apply w_ok | with_reducible apply w_ofO | with_reducible apply w_lcI | with_reducible apply w_seqI | with_reducible apply w_rng1 | with_reducible apply w_rng2 | with_reducible apply w_enum) | ((with_reducible apply gO); first | with_reducible apply wo_add | with_reducible apply wo_sub | with_reducible apply wo_lt | with_reducible apply wo_gt | with_reducible apply wo_eq | with_reducible apply wo_ne | with_reducible apply wo_le | with_reducible apply wo_ge | with_reducible apply wo_neg | with_reducible apply wo_eqS | with_reducible apply wo_neS | with_reducible apply wo_min | with_reducible apply wo_max | with_reducible apply wo_int | with_reducible apply wo_abs | with_reducible apply wo_tupL | with_reducible apply wo_tupT | with_reducible refine wo_tup (by with_unfolding_all rfl) ?_ | with_reducible refine wo_lstF (by with_unfolding_all rfl) ?_ | with_reducible refine wo_lstT (by with_unfolding_all rfl) ?_ | with_reducible apply wo_fld0 | with_reducible apply wo_fld1 | with_reducible apply wo_fld2) | ((with_reducible apply gS); first | with_reducible apply w_seq | with_reducible apply w_asg | with_reducible apply w_sif | with_reducible apply w_next | with_reducible apply w_ret | with_reducible apply w_par | with_reducible apply w_drop | with_reducible apply w_asgT | with_reducible apply w_retN | with_reducible apply w_brk | with_reducible apply w_cnt | with_reducible apply w_raise | with_reducible apply w_forI) | ((with_reducible apply gI); first | with_reducible apply wI_t | with_reducible apply wI_f | with_reducible apply wI_not) | with_reducible apply w_bl | with_reducible apply thn_nx | with_reducible apply w_int | with_reducible apply w_obj | with_reducible apply thn_rt | with_reducible apply lp_nx | with_reducible apply fnl_int | with_reducible apply fnl_bl | with_reducible apply fnl_non | with_reducible apply fnl_str | with_reducible apply fnl_nx | with_reducible apply thn_bk | with_reducible apply thn_ct | with_reducible apply thn_xc | with_reducible apply lp_rt | with_reducible apply lp_bk | with_reducible apply lp_xc | with_reducible apply w_itL | with_reducible apply w_itT | with_reducible apply w_itK)
local macro_rules | `(tactic| walk_at "p") => `(tactic| repeat walk_at "w")
/-! S19: Wants that are told by lists: the operators, blocks. -/
def wb (b : Bk) : D := wantD b.2.1 b.2.2
def mkW : D → D
  | d => .obj 0 [d]
theorem cb_is (n : Nat) (l : List Int) : cb n (.lst (l.map .int)) = true := cbL_all fun d hd => by obtain ⟨x, _, rfl⟩ := List.mem_map.mp hd; rfl
/-- a list of up to 60 ints, ascending -/
structure Lk (B : Int) (xs : List Int) : Prop where
  len : xs.length ≤ 60
  up : xs.Pairwise (· < ·)
  bd : ∀ x ∈ xs, -B ≤ x ∧ x ≤ B
theorem Lk.mono {B B' : Int} {xs : List Int} (h : Lk B xs) (g : B ≤ B') : Lk B' xs := ⟨h.len, h.up, fun x hx => by have := h.bd x hx; omega⟩
theorem Lk.small {B : Int} {xs : List Int} (h : Lk B xs) (g : B ≤ 1000000000) : Small xs := ⟨by have := h.len; omega, fun x hx => by have := h.bd x hx; omega⟩
theorem Lk.srt {B : Int} {xs : List Int} (h : Lk B xs) : srtI xs = xs := up_one srtI_up h.up fun x => srtI_mem
theorem law_len2 (xs : List Int) : (lawR 0 xs).length ≤ xs.length ∧ (lawR 1 xs).length ≤ xs.length := ⟨lawR_len 0 xs, lawR_len 1 xs⟩
section
variable {C : Store} {Q : D → Store → Prop} {X : Exc → Store → Prop} {E O : List Rn} {xs ys : List Int} {k : Int}
theorem blocks_w (h : CW E O) (hE : E.length ≤ 60) (hO : O.length ≤ 60) (q : Q (.cell C.length) (C ++ [some (.lst ((srtB (blkL E O)).map wb))])) : wR (m_Want_blocks [wantD E O] C) Q X := by
  have hb : (blkL E O).length ≤ 30000 := by
    have hs := str_len hE hO
    obtain ⟨_, le, _⟩ := left_ok (.inl rfl) (l := strR E O) h.e
    obtain ⟨_, lo, _⟩ := left_ok (.inr rfl) (l := strR E O) h.o
    simp only [blkL, blkS, blkE, blkO, List.length_append, List.length_map]
    omega
  rw [e_Want_blocks]
  apply w_finO
  unfold b_Want_blocks
  walk_at "p"
  refine w_lcO ?_
  walk_at "p"
  refine wo_ix rfl (k := 0) rfl rfl ?_
  walk_at "p"
  refine wo_ix rfl (k := 1) rfl rfl ?_
  walk_at "p"
  refine block_halves_w h hE hO ?_
  walk_at "p"
  refine lc_own (pure_C _) mkW (by rw [List.length_map, srtB_len]; omega) (fun x hx => ?_) ?_
  · obtain ⟨b, _, rfl⟩ := List.mem_map.mp hx
    refine ⟨_, rfl, fun acc => ?_⟩
    refine mk_kw ?_
    walk_at "p"
    exact ⟨_, _, rfl, rfl, rfl⟩
  · have e : ((srtB (blkL E O)).map hv2).map mkW = (srtB (blkL E O)).map wb := by
      rw [List.map_map]
      rfl
    rw [e]
    refine fnlO_own (xs := (srtB (blkL E O)).map wb) (Nat.le_refl _) (by simp) (cbL_all fun d hd => by obtain ⟨b, _, rfl⟩ := List.mem_map.mp hd; exact cb_want _ _ _) ?_
    simpa using q
theorem bl_or (hx : xs.length + ys.length ≤ 9000) (q : Q (wtD (xs ++ ys)) C) : wR (m_Want__or [wtD xs, wtD ys] C) Q X := by
  have a := law_len2 xs
  have b := law_len2 ys
  refine or_w (by omega) (by omega) ?_
  rw [law_of (or_cw (law_cw xs) (law_cw ys)) (xs := xs ++ ys) fun x => by rw [or_in (law_cw xs) (law_cw ys), law_in, law_in, List.mem_append]]
  exact q
theorem bl_and (hx : xs.length ≤ 1000) (hy : ys.length ≤ 1000) (q : Q (wtD (xs.filter fun x => decide (x ∈ ys))) C) : wR (m_Want__and [wtD xs, wtD ys] C) Q X := by
  have a := law_len2 xs
  have b := law_len2 ys
  refine and_w (law_cw xs).e (law_cw ys).e (law_cw xs).o (law_cw ys).o (by omega) (by omega) (by omega) (by omega) ?_
  rw [law_of (and_cw (law_cw xs) (law_cw ys)) (xs := xs.filter fun x => decide (x ∈ ys)) fun x => by rw [and_in (law_cw xs) (law_cw ys), law_in, law_in, List.mem_filter, decide_eq_true_eq]]
  exact q
theorem bl_ok (hx : xs.length + ys.length ≤ 9000) : RestOk (lawR 0 xs) (lawR 0 ys) ∧ RestOk (lawR 1 xs) (lawR 1 ys) := by
  have a := law_len2 xs
  have b := law_len2 ys
  exact ⟨restOk_can (law_cw xs).e (law_cw ys).e (by omega), restOk_can (law_cw xs).o (law_cw ys).o (by omega)⟩
theorem bl_sub (hx : xs.length + ys.length ≤ 9000) (q : Q (wtD (xs.filter fun x => !decide (x ∈ ys))) C) : wR (m_Want_without [wtD xs, wtD ys] C) Q X := by
  refine without_w (bl_ok hx).1 (bl_ok hx).2 ?_
  rw [law_of (sub_cw (law_cw xs) (law_cw ys)) (xs := xs.filter fun x => !decide (x ∈ ys)) fun x => by rw [sub_in (law_cw xs) (law_cw ys), law_in, law_in, List.mem_filter]; simp]
  exact q
theorem bl_xor (hx : xs.length + ys.length ≤ 4000) (q : Q (wtD (xs.filter (fun x => !decide (x ∈ ys)) ++ ys.filter fun x => !decide (x ∈ xs))) C) : wR (m_Want__xor [wtD xs, wtD ys] C) Q X := by
  have a := law_len2 xs
  have b := law_len2 ys
  have r1 := rest_len (law_cw xs).e (law_cw ys).e.ok
  have r2 := rest_len (law_cw xs).o (law_cw ys).o.ok
  have r3 := rest_len (law_cw ys).e (law_cw xs).e.ok
  have r4 := rest_len (law_cw ys).o (law_cw xs).o.ok
  refine xor_w (bl_ok (by omega)).1 (bl_ok (by omega)).2 (bl_ok (by omega)).1 (bl_ok (by omega)).2 (by omega) (by omega) ?_
  have c1 := sub_cw (law_cw xs) (law_cw ys)
  have c2 := sub_cw (law_cw ys) (law_cw xs)
  rw [law_of (or_cw c1 c2) (xs := xs.filter (fun x => !decide (x ∈ ys)) ++ ys.filter fun x => !decide (x ∈ xs)) fun x => by
    rw [or_in c1 c2, sub_in (law_cw xs) (law_cw ys), sub_in (law_cw ys) (law_cw xs), law_in, law_in, List.mem_append, List.mem_filter, List.mem_filter]
    simp]
  exact q
theorem bl_add (hx : xs.length ≤ 9000) (q : Q (wtD (xs.map (· + k))) C) : wR (m_Want__add [wtD xs, .int k] C) Q X := by
  have a := law_len2 xs
  refine add_w (by omega) (by omega) ?_
  rw [law_of (mv_cw (law_cw xs) k) (xs := xs.map (· + k)) fun x => by
    rw [mv_in, law_in, List.mem_map]
    constructor
    · intro h; exact ⟨_, h, by omega⟩
    · rintro ⟨y, hy, rfl⟩
      have e : y + k - k = y := by omega
      rw [e]
      exact hy]
  exact q
theorem mi_law (xs : List Int) (k : Int) : wantD (miW k (lawR 0 xs) (lawR 1 xs)).1 (miW k (lawR 0 xs) (lawR 1 xs)).2 = wtD (xs.map (k - ·)) :=
  law_of (mi_cw (law_cw xs) k) fun x => by
    rw [mi_in, law_in, List.mem_map]
    constructor
    · intro h; exact ⟨_, h, by omega⟩
    · rintro ⟨y, hy, rfl⟩
      have e : k - (k - y) = y := by omega
      rw [e]
      exact hy
theorem bl_rsub (hx : xs.length ≤ 9000) (q : Q (wtD (xs.map (k - ·))) C) : wR (m_Want__rsub [wtD xs, .int k] C) Q X := by
  have a := law_len2 xs
  refine rsub_w (by omega) (by omega) ?_
  rw [mi_law]
  exact q
theorem bl_neg (hx : xs.length ≤ 9000) (q : Q (wtD (xs.map (0 - ·))) C) : wR (m_Want__neg [wtD xs] C) Q X := by
  have a := law_len2 xs
  refine neg_w (by omega) (by omega) ?_
  rw [mi_law]
  exact q
theorem btw_law (lo hi : Int) (n : Nat) (e : (hi - lo + 1).toNat = n) : wantD (btw 0 lo hi) (btw 1 lo hi) = wtD ((List.range n).map fun i => lo + (i : Nat)) := by
  rw [btw_bt2, btw_bt2]
  refine law_of ⟨(bt2_ok (.inl rfl)).1, (bt2_ok (.inr rfl)).1⟩ fun x => ?_
  rw [bt2_in, List.mem_map]
  constructor
  · intro h
    exact ⟨(x - lo).toNat, List.mem_range.mpr (by omega), by omega⟩
  · rintro ⟨i, hi, rfl⟩
    have := List.mem_range.mp hi
    omega
theorem mk_law (hb : ∀ x ∈ xs, -1000000000 ≤ x ∧ x ≤ 1000000000) (hl : xs.length ≤ 40) {F : Fr} {ma : MA} {n : Nat} (hn : xs.length = n) (ha : ma F C = .ok (xs.map .int) C) (q : Q (wtD xs) C) : wR (mMake false 0 1 (vaM .pos n m_Want__init) [] ma F C) Q X := by
  refine w_of (mk_pos hb hl hn ha) ?_
  rw [lawR_side, lawR_side]
  exact q
end
end CL
set_option maxHeartbeats 4000000
namespace CL
open PySem L2 CT
local macro_rules | `(tactic| walk_at "w") => `(tactic| first | ((with_reducible apply gR); first | with_reducible refine w_var rfl ?_ | with_reducible apply w_cons | with_reducible apply w_c | with_reducible apply w_nil | with_reducible apply w_op | with_reducible apply w_ap | with_reducible apply w_call | with_reducible apply w_tst | with_reducible apply w_un | with_reducible apply w_tand | with_reducible apply w_tor | with_reducible apply w_tnot | with_reducible apply w_yes | with_reducible apply w_and | with_reducible apply w_or | with_reducible apply w_not | with_reducible apply w_if | with_reducible apply w_chain | with_reducible apply w_isi | with_reducible apply w_isi2 | with_reducible apply w_prop | with_reducible apply w_meth | with_reducible apply w_dget | with_reducible apply w_dnewF | with_reducible apply w_dnewT | with_reducible apply w_part | with_reducible apply w_noPart | with_reducible apply w_slLF | with_reducible apply w_slA | with_reducible apply w_ok | with_reducible apply w_ofO | with_reducible apply w_lcI | with_reducible apply w_seqI | with_reducible apply w_rng1 | with_reducible apply w_rng2 | with_reducible apply w_enum) | ((with_reducible apply gO); first | with_reducible apply wo_add | with_reducible apply wo_sub | with_reducible apply wo_lt | with_reducible apply wo_gt | with_reducible apply wo_eq | with_reducible apply wo_ne | with_reducible apply wo_le | with_reducible apply wo_ge | with_reducible apply wo_neg | with_reducible apply wo_eqS | with_reducible apply wo_neS | with_reducible apply wo_min | with_reducible apply wo_max | with_reducible apply wo_int | with_reducible apply wo_abs | with_reducible apply wo_tupL | with_reducible apply wo_tupT | with_reducible refine wo_tup (by with_unfolding_all rfl) ?_ | with_reducible refine wo_lstF (by with_unfolding_all rfl) ?_ | with_reducible refine wo_lstT (by with_unfolding_all rfl) ?_ | with_reducible apply wo_fld0 | with_reducible apply wo_fld1 | with_reducible apply wo_fld2) | ((with_reducible apply gS); first | with_reducible apply w_seq | with_reducible apply w_asg | with_reducible apply w_sif | with_reducible apply w_next | with_reducible apply w_ret | with_reducible apply w_par | with_reducible apply w_drop | with_reducible apply w_asgT | with_reducible apply w_retN | with_reducible apply w_brk | with_reducible apply w_cnt | with_reducible apply w_raise | with_reducible apply w_forI) | ((with_reducible apply gI); first | with_reducible apply wI_t | with_reducible apply wI_f | with_reducible apply wI_not) | with_reducible apply w_bl | with_reducible apply thn_nx | with_reducible apply w_int | with_reducible apply w_obj | with_reducible apply thn_rt | with_reducible apply lp_nx | with_reducible apply fnl_int | with_reducible apply fnl_bl | with_reducible apply fnl_non | with_reducible apply fnl_str | with_reducible apply fnl_nx | with_reducible apply thn_bk | with_reducible apply thn_ct | with_reducible apply thn_xc | with_reducible apply lp_rt | with_reducible apply lp_bk | with_reducible apply lp_xc | with_reducible apply w_itL | with_reducible apply w_itT | with_reducible apply w_itK)
local macro_rules | `(tactic| walk_at "p") => `(tactic| repeat walk_at "w")
local macro_rules | `(tactic| walk_at "w") => `(tactic| first | ((with_reducible apply gR); first | with_reducible refine w_var rfl ?_ | with_reducible apply w_cons | with_reducible apply w_c | with_reducible apply w_nil | with_reducible apply w_op | with_reducible apply w_ap | with_reducible apply w_call | with_reducible apply w_tst | with_reducible apply w_un | with_reducible apply w_tand | with_reducible apply w_tor | with_reducible apply w_tnot | with_reducible apply w_yes | with_reducible apply w_and | with_reducible apply w_or | with_reducible apply w_not | with_reducible apply w_if | with_reducible apply w_chain | with_reducible apply w_isi | with_reducible apply w_isi2 | with_reducible apply w_prop | with_reducible apply w_meth | with_reducible apply w_dget | with_reducible apply w_dnewF | with_reducible apply w_dnewT | with_reducible apply w_part | with_reducible apply w_noPart | with_reducible apply w_slLF | with_reducible apply w_slA | with_reducible apply w_ok | with_reducible apply w_ofO | with_reducible apply w_lcI | with_reducible apply w_seqI | with_reducible apply w_rng1 | with_reducible apply w_rng2 | with_reducible apply w_enum) | ((with_reducible apply gO); first | with_reducible apply wo_add | with_reducible apply wo_sub | with_reducible apply wo_lt | with_reducible apply wo_gt | with_reducible apply wo_eq | with_reducible apply wo_ne | with_reducible apply wo_le | with_reducible apply wo_ge | with_reducible apply wo_neg | with_reducible apply wo_eqS | with_reducible apply wo_neS | with_reducible apply wo_min | with_reducible apply wo_max | with_reducible apply wo_int | with_reducible apply wo_abs | with_reducible apply wo_tupL | with_reducible apply wo_tupT | with_reducible refine wo_tup (by with_unfolding_all rfl) ?_ | with_reducible refine wo_lstF (by with_unfolding_all rfl) ?_ | with_reducible refine wo_lstT (by with_unfolding_all rfl) ?_ | with_reducible apply wo_fld0 | with_reducible apply wo_fld1 | with_reducible apply wo_fld2) | ((with_reducible apply gS); first | with_reducible apply w_seq | with_reducible apply w_asg | with_reducible apply w_sif | with_reducible apply w_next | with_reducible apply w_ret | with_reducible apply w_par | with_reducible apply w_drop | with_reducible apply w_asgT | with_reducible apply w_retN | with_reducible apply w_brk | with_reducible apply w_cnt | with_reducible apply w_raise | with_reducible apply w_forI) | ((with_reducible apply gI); first | with_reducible apply wI_t | with_reducible apply wI_f | with_reducible apply wI_not) | with_reducible apply w_bl | with_reducible apply thn_nx | with_reducible apply w_int | with_reducible apply w_obj | with_reducible apply thn_rt | with_reducible apply lp_nx | with_reducible apply fnl_int | with_reducible apply fnl_bl | with_reducible apply fnl_non | with_reducible apply fnl_str | with_reducible apply fnl_nx | with_reducible apply thn_bk | with_reducible apply thn_ct | with_reducible apply thn_xc | with_reducible apply lp_rt | with_reducible apply lp_bk | with_reducible apply lp_xc | with_reducible apply w_itL | with_reducible apply w_itT | with_reducible apply w_itK)
local macro_rules | `(tactic| walk_at "p") => `(tactic| repeat walk_at "w")
/-! S20: the deeds of k18. -/
def lI (xs : List Int) : D := .lst (xs.map .int)
theorem filt_D {f : D → Bool} {g : Int → Bool} (h : ∀ x, f (.int x) = g x) (xs : List Int) : ((xs.map D.int).filter f).map id = (xs.filter g).map D.int := by
  rw [List.map_id, List.filter_map]
  congr 1
  exact List.filter_congr fun x _ => h x
def mapI (f : Int → Int) : D → D
  | .int x => .int (f x)
  | _ => .non
theorem map_D (f : Int → Int) (xs : List Int) : (((xs.map D.int).filter fun _ => true).map (mapI f)) = (xs.map f).map D.int := by
  rw [filter_yes, List.map_map, List.map_map]
  rfl
def rgL (lo : Int) (n : Nat) : List Int := (List.range n).map fun i => lo + (i : Nat)
theorem rng_ints (lo : Int) (n : Nat) : rngI lo n = (rgL lo n).map D.int := by
  unfold rngI rgL
  rw [List.map_map]
  rfl
section
variable {C : Store} {Q : D → Store → Prop} {X : Exc → Store → Prop} {xs ys : List Int} {F : Fr}
/-- [x for x in xs if ..] over ints -/
theorem lcFp {k : Nat} {tt : MT} {it : ItD} (p : PureIt it (xs.map D.int)) (g : Int → Bool) (hk : k < F.sl.length) (hl : xs.length ≤ 100000) (st : ∀ x acc, wR (tt ⟨C.length, (F.sl.set k none).set k (some (.int x))⟩ (accS C acc)) (fun b C' => b = g x ∧ C' = accS C acc) noX) (q : Q (.lst ((xs.filter g).map .int)) C) :
    wR (lcR it (Tgt.nm k).M tt (mVar k) [k] F C) Q X := by
  have fe : ∀ x, (fun d => match d with | D.int x => g x | _ => false : D → Bool) (.int x) = g x := fun x => rfl
  refine lc_p p (fun d => match d with | D.int x => g x | _ => false) id (by rw [List.length_map]; omega) (fun x hx => ?_) (fun x hx _ => ?_) (by rw [filt_D fe]; exact q)
  · obtain ⟨z, _, rfl⟩ := List.mem_map.mp hx
    have e1 : ((F.sl.set k none).set k (some (.int z)))[k]? = some (some (.int z)) := by
      rw [List.getElem?_set_self]
      simpa using hk
    exact ⟨_, rfl, fun acc => ⟨st z acc, fun _ => w_var e1 ⟨rfl, rfl⟩⟩⟩
  · obtain ⟨z, _, rfl⟩ := List.mem_map.mp hx
    rfl
theorem lcF {k : Nat} {tt : MT} (g : Int → Bool) (hk : k < F.sl.length) (hl : xs.length ≤ 100000) (st : ∀ x acc, wR (tt ⟨C.length, (F.sl.set k none).set k (some (.int x))⟩ (accS C acc)) (fun b C' => b = g x ∧ C' = accS C acc) noX) (q : Q (.lst ((xs.filter g).map .int)) C) :
    wR (lcR (itC (xs.map D.int)) (Tgt.nm k).M tt (mVar k) [k] F C) Q X := lcFp (pure_C _) g hk hl st q
theorem lcInp {neg : Bool} {k n : Nat} {it : ItD} (p : PureIt it (xs.map D.int)) (hk : k < F.sl.length) (hkn : n ≠ k) (hl : xs.length ≤ 100000) (e : F.sl[n]? = some (some (.lst (ys.map .int)))) (q : Q (.lst ((xs.filter fun x => if neg = true then !decide (x ∈ ys) else decide (x ∈ ys)).map .int)) C) :
    wR (lcR it (Tgt.nm k).M (mTst (mOp (oInD neg) (mVar k) (mVar n))) (mVar k) [k] F C) Q X := by
  refine lcFp p _ hk hl (fun x acc => ?_) q
  have e1 : ((F.sl.set k none).set k (some (.int x)))[k]? = some (some (.int x)) := by
    rw [List.getElem?_set_self]
    simpa using hk
  have e2 : ((F.sl.set k none).set k (some (D.int x)))[n]? = some (some (.lst (ys.map .int))) := by
    rw [List.getElem?_set_ne (Ne.symm hkn), List.getElem?_set_ne (Ne.symm hkn)]
    exact e
  exact w_tst (w_op (w_var e1 (w_var e2 (wo_of (in_li neg x ys _) (w_bl ⟨rfl, rfl⟩)))))
theorem lcIn {neg : Bool} {k n : Nat} (hk : k < F.sl.length) (hkn : n ≠ k) (hl : xs.length ≤ 100000) (e : F.sl[n]? = some (some (.lst (ys.map .int)))) (q : Q (.lst ((xs.filter fun x => if neg = true then !decide (x ∈ ys) else decide (x ∈ ys)).map .int)) C) :
    wR (lcR (itC (xs.map D.int)) (Tgt.nm k).M (mTst (mOp (oInD neg) (mVar k) (mVar n))) (mVar k) [k] F C) Q X := by
  exact lcInp (pure_C _) hk hkn hl e q
/-- [f(x) for x in xs] over ints -/
theorem lcM {k : Nat} {te : ME} (f : Int → Int) (hl : xs.length ≤ 100000) (st : ∀ x acc, wR (te ⟨C.length, (F.sl.set k none).set k (some (.int x))⟩ (accS C acc)) (fun d C' => d = .int (f x) ∧ C' = accS C acc) noX) (q : Q (.lst ((xs.map f).map .int)) C) :
    wR (lcR (itC (xs.map D.int)) (Tgt.nm k).M tYesM te [k] F C) Q X := by
  refine lc_p (pure_C _) (fun _ => true) (mapI f) (by rw [List.length_map]; omega) (fun x hx => ?_) (fun x hx _ => ?_) (by rw [map_D]; exact q)
  · obtain ⟨z, _, rfl⟩ := List.mem_map.mp hx
    exact ⟨_, rfl, fun acc => ⟨w_yes ⟨rfl, rfl⟩, fun _ => st z acc⟩⟩
  · obtain ⟨z, _, rfl⟩ := List.mem_map.mp hx
    rfl
end
section
variable {C : Store} {Q : D → Store → Prop} {X : Exc → Store → Prop} {ws : List (List Int)} {B : Int}
theorem cb_res (a : Int) (ys : List Int) : cb 0 (.tup [.int a, wtD ys, .lst (ys.map .int)]) = true := by
  have e1 : cb 0 (wtD ys) = true := cb_want _ _ _
  have e2 := cb_is 0 ys
  show (true && (cb 0 (wtD ys) && (cb 0 (.lst (ys.map .int)) && true))) = true
  rw [e1, e2]
  rfl
theorem deed_w (hB : Bg 0 C) (h1 : C[1]? = some (some (.lst (ws.map wtD)))) (h2 : C[2]? = some (some (.lst (ws.map lI)))) (hl : ws.length = 3) (hk : ∀ xs ∈ ws, Lk B xs) (b0 : 0 ≤ B) (b1 : B ≤ 1000)
    (h : ∀ (a : Nat) (ys : List Int) (C' : Store), a < 3 → ys.length ≤ 130 → (∀ y ∈ ys, -(B + 8) ≤ y ∧ y ≤ B + 8) → To 0 C C' → Q (.tup [.int a, wtD ys, .lst (ys.map .int)]) C') : wR (m_law_deed [.cell 0, .cell 1, .cell 2] C) Q X := by
  rw [e_law_deed]
  apply w_fin
  unfold b_law_deed b_law_deed_0 b_law_deed_1
  walk_at "p"
  refine take_w hB (by decide) (by decide) fun m C1 m0 m1 t1 => ?_
  walk_at "p"
  refine take_w t1.bg (by decide) (by decide) fun r C2 r0 r1 t2 => ?_
  walk_at "p"
  refine ⟨_, rfl, ?_⟩
  walk_at "p"
  refine w_asgT ?_
  walk_at "p"
  refine take_w (t1.trans t2).bg (by decide) (by decide) fun r2 C3 r20 r21 t3 => ?_
  walk_at "p"
  refine take_w ((t1.trans t2).trans t3).bg (by decide) (by decide) fun r3 C4 r30 r31 t4 => ?_
  have t := ((t1.trans t2).trans t3).trans t4
  have g1 : C4[1]? = some (some (.lst (ws.map wtD))) := by rw [t.get (by decide)]; exact h1
  have g2 : C4[2]? = some (some (.lst (ws.map lI))) := by rw [t.get (by decide)]; exact h2
  obtain ⟨a, rfl, ha⟩ : ∃ a : Nat, r = (a : Int) ∧ a < 3 := ⟨r.toNat, by omega, by omega⟩
  obtain ⟨c, rfl, hc⟩ : ∃ c : Nat, r2 = (c : Int) ∧ c < 3 := ⟨r2.toNat, by omega, by omega⟩
  obtain ⟨xs, hxs⟩ : ∃ xs, ws[a]? = some xs := ⟨_, List.getElem?_eq_getElem (by omega)⟩
  obtain ⟨ys, hys⟩ : ∃ ys, ws[c]? = some ys := ⟨_, List.getElem?_eq_getElem (by omega)⟩
  have kx := hk xs (List.mem_of_getElem? hxs)
  have ky := hk ys (List.mem_of_getElem? hys)
  have lx := kx.len
  have ly := ky.len
  have s1 : vS (.cell 1) C4 = some (ws.map wtD) := by simp [vS, g1]
  have s2 : vS (.cell 2) C4 = some (ws.map lI) := by simp [vS, g2]
  have mx : (ws.map wtD)[a]? = some (wtD xs) := by rw [List.getElem?_map, hxs]; rfl
  have my : (ws.map wtD)[c]? = some (wtD ys) := by rw [List.getElem?_map, hys]; rfl
  have nx : (ws.map lI)[a]? = some (lI xs) := by rw [List.getElem?_map, hxs]; rfl
  have ny : (ws.map lI)[c]? = some (lI ys) := by rw [List.getElem?_map, hys]; rfl
  walk_at "p"
  refine ⟨_, _, rfl, rfl, ?_⟩
  walk_at "p"
  unfold b_law_deed_2
  walk_at "p"
  refine wo_ix s1 rfl mx ?_
  walk_at "p"
  refine wo_ix s1 rfl my ?_
  walk_at "p"
  refine ⟨_, rfl, ?_⟩
  walk_at "p"
  unfold b_law_deed_3
  walk_at "p"
  refine w_asgT ?_
  walk_at "p"
  refine wo_ix s2 rfl nx ?_
  walk_at "p"
  refine wo_ix s2 rfl ny ?_
  walk_at "p"
  refine ⟨_, _, rfl, rfl, ?_⟩
  walk_at "p"
  obtain ⟨k, hkk⟩ : ∃ k, r3 - 4 = k := ⟨_, rfl⟩
  have k0 : -4 ≤ k := by omega
  have k1 : k ≤ 4 := by omega
  rw [hkk]
  have fin : ∀ (zs : List Int) (d : D), d = wtD zs → zs.length ≤ 130 → (∀ y ∈ zs, -(B + 8) ≤ y ∧ y ≤ B + 8) → fnl C.length Q X (.rt (.tup [.int a, d, .lst (zs.map .int)]) C4) := by
    rintro zs d rfl z1 z2
    refine fnl_p (cb_res _ _) ?_
    rw [t.tk]
    exact h a zs C4 ha z1 z2 t
  have bx : ∀ x ∈ xs, -(B + 8) ≤ x ∧ x ≤ B + 8 := fun x hx => by have := kx.bd x hx; omega
  have by' : ∀ x ∈ ys, -(B + 8) ≤ x ∧ x ≤ B + 8 := fun x hx => by have := ky.bd x hx; omega
  have lf : ∀ (f : Int → Bool) (zs : List Int), zs.length ≤ 60 → (zs.filter f).length ≤ 60 := fun f zs hz => Nat.le_trans (List.length_filter_le _ _) hz
  unfold b_law_deed_4
  walk_at "p"
  refine wI_d (fun _ => ?_) fun _ => ?_
  · walk_at "p"
    refine w_binO ?_
    walk_at "p"
    refine ⟨rfl, ?_⟩
    refine bl_or (by omega) ?_
    walk_at "p"
    refine wo_catF (by rw [List.length_map, List.length_map]; omega) ?_
    walk_at "p"
    rw [← List.map_append]
    exact fin _ _ rfl (by rw [List.length_append]; omega) fun y hy => (List.mem_append.mp hy).elim (bx y) (by' y)
  walk_at "p"
  unfold b_law_deed_5
  walk_at "p"
  refine wI_d (fun _ => ?_) fun _ => ?_
  · walk_at "p"
    refine w_binO ?_
    walk_at "p"
    refine ⟨rfl, ?_⟩
    refine bl_and (by omega) (by omega) ?_
    walk_at "p"
    refine ⟨_, rfl, ?_⟩
    refine lcIn (neg := false) (ys := ys) (by simp) (by decide) (by omega) rfl ?_
    walk_at "p"
    exact fin _ _ rfl (Nat.le_trans (lf _ _ lx) (by decide)) fun y hy => bx y (List.mem_filter.mp hy).1
  walk_at "p"
  unfold b_law_deed_6
  walk_at "p"
  refine wI_d (fun _ => ?_) fun _ => ?_
  · walk_at "p"
    unfold b_law_deed_6t_0
    walk_at "p"
    refine ⟨_, rfl, ?_⟩
    refine lcIn (neg := true) (ys := xs) (by simp) (by decide) (by omega) rfl ?_
    walk_at "p"
    unfold b_law_deed_6t_1
    walk_at "p"
    refine w_binO ?_
    walk_at "p"
    refine ⟨rfl, ?_⟩
    refine bl_xor (by omega) ?_
    walk_at "p"
    refine ⟨_, rfl, ?_⟩
    refine lcIn (neg := true) (ys := ys) (by simp) (by decide) (by omega) rfl ?_
    have l1 := lf (fun x => if true = true then !decide (x ∈ ys) else decide (x ∈ ys)) xs lx
    have l2 := lf (fun x => if true = true then !decide (x ∈ xs) else decide (x ∈ xs)) ys ly
    walk_at "p"
    refine wo_catF (by rw [List.length_map, List.length_map]; omega) ?_
    walk_at "p"
    rw [← List.map_append]
    exact fin _ _ rfl (by rw [List.length_append]; omega) fun y hy => (List.mem_append.mp hy).elim (fun h => bx y (List.mem_filter.mp h).1) fun h => by' y (List.mem_filter.mp h).1
  walk_at "p"
  unfold b_law_deed_7
  walk_at "p"
  refine wI_d (fun _ => ?_) fun _ => ?_
  · walk_at "p"
    refine ⟨_, rfl, ?_⟩
    walk_at "p"
    refine bl_sub (by omega) ?_
    walk_at "p"
    refine ⟨_, rfl, ?_⟩
    refine lcIn (neg := true) (ys := ys) (by simp) (by decide) (by omega) rfl ?_
    walk_at "p"
    exact fin _ _ rfl (Nat.le_trans (lf _ _ lx) (by decide)) fun y hy => bx y (List.mem_filter.mp hy).1
  walk_at "p"
  unfold b_law_deed_8
  walk_at "p"
  refine wI_d (fun _ => ?_) fun _ => ?_
  · walk_at "p"
    refine w_mulR ?_
    walk_at "p"
    refine ⟨rfl, ?_⟩
    refine bl_add (by omega) ?_
    walk_at "p"
    refine ⟨_, rfl, ?_⟩
    refine lcM (fun x => x + k) (by omega) (fun x acc => ?_) ?_
    · walk_at "p"
      exact ⟨rfl, rfl⟩
    walk_at "p"
    refine fin _ _ rfl (by rw [List.length_map]; omega) fun y hy => ?_
    obtain ⟨x, hx, rfl⟩ := List.mem_map.mp hy
    have := kx.bd x hx
    omega
  walk_at "p"
  unfold b_law_deed_9
  walk_at "p"
  refine wI_d (fun _ => ?_) fun _ => ?_
  · walk_at "p"
    refine w_mulL ?_
    walk_at "p"
    refine ⟨rfl, ?_⟩
    refine bl_rsub (by omega) ?_
    walk_at "p"
    refine ⟨_, rfl, ?_⟩
    refine lcM (fun x => k - x) (by omega) (fun x acc => ?_) ?_
    · walk_at "p"
      exact ⟨rfl, rfl⟩
    walk_at "p"
    refine fin _ _ rfl (by rw [List.length_map]; omega) fun y hy => ?_
    obtain ⟨x, hx, rfl⟩ := List.mem_map.mp hy
    have := kx.bd x hx
    omega
  walk_at "p"
  unfold b_law_deed_10
  walk_at "p"
  refine wI_d (fun _ => ?_) fun _ => ?_
  · walk_at "p"
    refine w_binO ?_
    walk_at "p"
    refine mk_law (xs := [k, k + 3]) (fun x hx => ?_) (by simp) rfl rfl ?_
    · simp only [List.mem_cons, List.not_mem_nil, or_false] at hx
      omega
    refine ⟨rfl, ?_⟩
    refine bl_or (by simp; omega) ?_
    walk_at "p"
    refine wo_catF (by simp; omega) ?_
    walk_at "p"
    have e : xs.map D.int ++ [.int k, .int (k + 3)] = (xs ++ [k, k + 3]).map D.int := by simp
    rw [e]
    refine fin _ _ rfl (by simp; omega) fun y hy => ?_
    rcases List.mem_append.mp hy with hy | hy
    · exact bx y hy
    · simp only [List.mem_cons, List.not_mem_nil, or_false] at hy
      omega
  walk_at "p"
  unfold b_law_deed_11
  walk_at "p"
  refine wI_d (fun _ => ?_) fun _ => ?_
  · walk_at "p"
    refine ⟨_, rfl, ?_⟩
    walk_at "p"
    refine mk_law (xs := [k]) (fun x hx => ?_) (by simp) rfl rfl ?_
    · simp only [List.mem_cons, List.not_mem_nil, or_false] at hx
      omega
    walk_at "p"
    refine bl_sub (by simp; omega) ?_
    walk_at "p"
    refine ⟨_, rfl, ?_⟩
    refine lcF (fun x => !decide (x = k)) (by simp) (by omega) (fun x acc => ?_) ?_
    · walk_at "p"
      exact ⟨rfl, rfl⟩
    walk_at "p"
    refine fin _ _ ?_ (Nat.le_trans (lf _ _ lx) (by decide)) fun y hy => bx y (List.mem_filter.mp hy).1
    congr 1
    exact List.filter_congr fun x _ => by simp
  walk_at "p"
  unfold b_law_deed_12
  walk_at "p"
  refine wI_d (fun _ => ?_) fun _ => ?_
  · walk_at "p"
    unfold b_law_deed_12t_0
    walk_at "p"
    refine ⟨_, rfl, ?_⟩
    refine lcF (fun x => decide (x < k) || decide (k + 3 < x)) (by simp) (by omega) (fun x acc => ?_) ?_
    · walk_at "p"
      refine wI_d (fun e => ⟨by simp [e], rfl⟩) fun e => ?_
      walk_at "p"
      exact ⟨by simp [e], rfl⟩
    walk_at "p"
    unfold b_law_deed_12t_1
    walk_at "p"
    refine ⟨_, _, rfl, rfl, inR_of (by omega) (by omega), inR_of (by omega) (by omega), ?_⟩
    have e4 : (k + 4 - k).toNat = 4 := by omega
    rw [e4]
    have pr : PureIt (itR k 4) ((rgL k 4).map D.int) := by rw [← rng_ints]; exact pure_R k 4
    refine lcInp (neg := true) (ys := xs) pr (by simp) (by decide) (by simp [rgL]) rfl ?_
    have l1 := lf (fun x => decide (x < k) || decide (k + 3 < x)) xs lx
    have l2 := List.length_filter_le (fun x => if true = true then !decide (x ∈ xs) else decide (x ∈ xs)) (rgL k 4)
    have l3 : (rgL k 4).length = 4 := by simp [rgL]
    refine wo_catF (by rw [List.length_map, List.length_map]; omega) ?_
    rw [← List.map_append]
    walk_at "p"
    unfold b_law_deed_12t_2
    walk_at "p"
    refine w_binO ?_
    walk_at "p"
    refine between_w (by omega) (by omega) ?_
    rw [btw_law k (k + 3) 4 (by omega)]
    walk_at "p"
    refine ⟨rfl, ?_⟩
    refine bl_xor (xs := rgL k 4) (by omega) ?_
    walk_at "p"
    have rm : ∀ x, x ∈ rgL k 4 ↔ k ≤ x ∧ x ≤ k + 3 := fun x => by
      unfold rgL
      rw [List.mem_map]
      constructor
      · rintro ⟨i, hi, rfl⟩
        have := List.mem_range.mp hi
        omega
      · intro h
        exact ⟨(x - k).toNat, List.mem_range.mpr (by omega), by omega⟩
    refine fin _ _ (wtD_same fun x => ?_) (by rw [List.length_append]; omega) fun y hy => ?_
    · simp only [List.mem_append, List.mem_filter, rm, if_true, Bool.not_eq_true', decide_eq_false_iff_not, Bool.or_eq_true, decide_eq_true_eq]
      constructor
      · rintro (⟨⟨h1, h2⟩, h3⟩ | ⟨h1, h2⟩)
        · exact .inr ⟨⟨h1, h2⟩, h3⟩
        · exact .inl ⟨h1, by omega⟩
      · rintro (⟨h1, h2⟩ | ⟨⟨h1, h2⟩, h3⟩)
        · exact .inr ⟨h1, by omega⟩
        · exact .inl ⟨⟨h1, h2⟩, h3⟩
    · rcases List.mem_append.mp hy with hy | hy
      · exact bx y (List.mem_filter.mp hy).1
      · have := (rm y).mp (List.mem_filter.mp hy).1
        omega
  walk_at "p"
  unfold b_law_deed_13
  walk_at "p"
  refine w_negO ?_
  walk_at "p"
  refine ⟨rfl, ?_⟩
  refine bl_neg (by omega) ?_
  walk_at "p"
  refine ⟨_, rfl, ?_⟩
  refine lcM (fun x => 0 - x) (by omega) (fun x acc => ?_) ?_
  · walk_at "p"
    exact ⟨by simp, rfl⟩
  walk_at "p"
  refine fin _ _ rfl (by rw [List.length_map]; omega) fun y hy => ?_
  obtain ⟨x, hx, rfl⟩ := List.mem_map.mp hy
  have := kx.bd x hx
  omega
end
end CL
set_option maxHeartbeats 4000000
namespace CL
open PySem L2 CT
local macro_rules | `(tactic| walk_at "w") => `(tactic| first | ((with_reducible apply gR); first | with_reducible refine w_var rfl ?_ | with_reducible apply w_cons | with_reducible apply w_c | with_reducible apply w_nil | with_reducible apply w_op | with_reducible apply w_ap | with_reducible apply w_call | with_reducible apply w_tst | with_reducible apply w_un | with_reducible apply w_tand | with_reducible apply w_tor | with_reducible apply w_tnot | with_reducible apply w_yes | with_reducible apply w_and | with_reducible apply w_or | with_reducible apply w_not | with_reducible apply w_if | with_reducible apply w_chain | with_reducible apply w_isi | with_reducible apply w_isi2 | with_reducible apply w_prop | with_reducible apply w_meth | with_reducible apply w_dget | with_reducible apply w_dnewF | with_reducible apply w_dnewT | with_reducible apply w_part | with_reducible apply w_noPart | with_reducible apply w_slLF | with_reducible apply w_slA | with_reducible apply w_ok | with_reducible apply w_ofO | with_reducible apply w_lcI | with_reducible apply w_seqI | with_reducible apply w_rng1 | with_reducible apply w_rng2 | with_reducible apply w_enum) | ((with_reducible apply gO); first | with_reducible apply wo_add | with_reducible apply wo_sub | with_reducible apply wo_lt | with_reducible apply wo_gt | with_reducible apply wo_eq | with_reducible apply wo_ne | with_reducible apply wo_le | with_reducible apply wo_ge | with_reducible apply wo_neg | with_reducible apply wo_eqS | with_reducible apply wo_neS | with_reducible apply wo_min | with_reducible apply wo_max | with_reducible apply wo_int | with_reducible apply wo_abs | with_reducible apply wo_tupL | with_reducible apply wo_tupT | with_reducible refine wo_tup (by with_unfolding_all rfl) ?_ | with_reducible refine wo_lstF (by with_unfolding_all rfl) ?_ | with_reducible refine wo_lstT (by with_unfolding_all rfl) ?_ | with_reducible apply wo_fld0 | with_reducible apply wo_fld1 | with_reducible apply wo_fld2) | ((with_reducible apply gS); first | with_reducible apply w_seq | with_reducible apply w_asg | with_reducible apply w_sif | with_reducible apply w_next | with_reducible apply w_ret | with_reducible apply w_par | with_reducible apply w_drop | with_reducible apply w_asgT | with_reducible apply w_retN | with_reducible apply w_brk | with_reducible apply w_cnt | with_reducible apply w_raise | with_reducible apply w_forI) | ((with_reducible apply gI); first | with_reducible apply wI_t | with_reducible apply wI_f | with_reducible apply wI_not) | with_reducible apply w_bl | with_reducible apply thn_nx | with_reducible apply w_int | with_reducible apply w_obj | with_reducible apply thn_rt | with_reducible apply lp_nx | with_reducible apply fnl_int | with_reducible apply fnl_bl | with_reducible apply fnl_non | with_reducible apply fnl_str | with_reducible apply fnl_nx | with_reducible apply thn_bk | with_reducible apply thn_ct | with_reducible apply thn_xc | with_reducible apply lp_rt | with_reducible apply lp_bk | with_reducible apply lp_xc | with_reducible apply w_itL | with_reducible apply w_itT | with_reducible apply w_itK)
local macro_rules | `(tactic| walk_at "p") => `(tactic| repeat walk_at "w")
local macro_rules | `(tactic| walk_at "w") => `(tactic| first | ((with_reducible apply gR); first | with_reducible refine w_var rfl ?_ | with_reducible apply w_cons | with_reducible apply w_c | with_reducible apply w_nil | with_reducible apply w_op | with_reducible apply w_ap | with_reducible apply w_call | with_reducible apply w_tst | with_reducible apply w_un | with_reducible apply w_tand | with_reducible apply w_tor | with_reducible apply w_tnot | with_reducible apply w_yes | with_reducible apply w_and | with_reducible apply w_or | with_reducible apply w_not | with_reducible apply w_if | with_reducible apply w_chain | with_reducible apply w_isi | with_reducible apply w_isi2 | with_reducible apply w_prop | with_reducible apply w_meth | with_reducible apply w_dget | with_reducible apply w_dnewF | with_reducible apply w_dnewT | with_reducible apply w_part | with_reducible apply w_noPart | with_reducible apply w_slLF | with_reducible apply w_slA | with_reducible apply w_ok | with_reducible apply w_ofO | with_reducible apply w_lcI | with_reducible apply w_seqI | with_reducible apply w_rng1 | with_reducible apply w_rng2 | with_reducible apply w_enum) | ((with_reducible apply gO); first | with_reducible apply wo_add | with_reducible apply wo_sub | with_reducible apply wo_lt | with_reducible apply wo_gt | with_reducible apply wo_eq | with_reducible apply wo_ne | with_reducible apply wo_le | with_reducible apply wo_ge | with_reducible apply wo_neg | with_reducible apply wo_eqS | with_reducible apply wo_neS | with_reducible apply wo_min | with_reducible apply wo_max | with_reducible apply wo_int | with_reducible apply wo_abs | with_reducible apply wo_tupL | with_reducible apply wo_tupT | with_reducible refine wo_tup (by with_unfolding_all rfl) ?_ | with_reducible refine wo_lstF (by with_unfolding_all rfl) ?_ | with_reducible refine wo_lstT (by with_unfolding_all rfl) ?_ | with_reducible apply wo_fld0 | with_reducible apply wo_fld1 | with_reducible apply wo_fld2) | ((with_reducible apply gS); first | with_reducible apply w_seq | with_reducible apply w_asg | with_reducible apply w_sif | with_reducible apply w_next | with_reducible apply w_ret | with_reducible apply w_par | with_reducible apply w_drop | with_reducible apply w_asgT | with_reducible apply w_retN | with_reducible apply w_brk | with_reducible apply w_cnt | with_reducible apply w_raise | with_reducible apply w_forI) | ((with_reducible apply gI); first | with_reducible apply wI_t | with_reducible apply wI_f | with_reducible apply wI_not) | with_reducible apply w_bl | with_reducible apply thn_nx | with_reducible apply w_int | with_reducible apply w_obj | with_reducible apply thn_rt | with_reducible apply lp_nx | with_reducible apply fnl_int | with_reducible apply fnl_bl | with_reducible apply fnl_non | with_reducible apply fnl_str | with_reducible apply fnl_nx | with_reducible apply thn_bk | with_reducible apply thn_ct | with_reducible apply thn_xc | with_reducible apply lp_rt | with_reducible apply lp_bk | with_reducible apply lp_xc | with_reducible apply w_itL | with_reducible apply w_itT | with_reducible apply w_itK)
local macro_rules | `(tactic| walk_at "p") => `(tactic| repeat walk_at "w")
/-! S21: what k18 asks between the deeds. -/
theorem toP_ci {C : Store} {i : Nat} {l : List Int} (h : C[i]? = some (some (.lst (l.map .int)))) : toP C (.cell i) = some (.list (l.map .int)) := by
  have e : ∀ l : List Int, toP0s (l.map D.int) = some (l.map .int) := fun l => by
    induction l with
    | nil => rfl
    | cons x l ih =>
      show (match toP0 (.int x), toP0s (l.map D.int) with | some p, some ps => some (p :: ps) | _, _ => none) = _
      rw [ih]
      rfl
  show (match C[i]? with | some (some (.lst xs)) => (toP0s xs).map PyData.list | _ => none) = _
  rw [h]
  simp only [e, Option.map_some]
theorem repr_is {C : Store} {d : D} {l : List Int} (e : toP C d = some (.list (l.map .int))) (hl : l.length ≤ 1000) (hb : ∀ x ∈ l, x.natAbs < 1000000000000) : oRepr [d] C = some (.str (PyData.list (l.map .int)).shown, C) := by
  obtain ⟨ps, g⟩ := gdl_all (w := 40) (dp := 0) (xs := l.map D.int) fun x hx => by
    obtain ⟨z, hz, rfl⟩ := List.mem_map.mp hx
    exact ⟨_, gd_int (hb z hz)⟩
  have g2 := gd_lst (n := 1000) g (by rw [List.length_map]; exact hl)
  have e2 := g2.tp C
  rw [toP_li] at e2
  have e3 := Option.some.inj e2
  rw [← e3] at g2
  exact repr_of e (g2.ok (by decide) (by decide))
theorem eq_ci {C : Store} {i : Nat} {as bs : List Int} (h : C[i]? = some (some (.lst (as.map .int)))) : oEqA false (.cell i) (.lst (bs.map .int)) C = some (.bl (decide (as = bs)), C) := by
  show oEqD false _ _ C = _
  simp only [oEqD, toP_ci h, toP_li, shp_li, Bool.and_self, if_true, PyData.eqv, eqv_is]
  rfl
theorem ne_li (as bs : List Int) (C : Store) : oEqA true (.lst (as.map .int)) (.lst (bs.map .int)) C = some (.bl (!decide (as = bs)), C) := by
  show oEqD true _ _ C = _
  simp only [oEqD, toP_li, shp_li, Bool.and_self, if_true, PyData.eqv, eqv_is]
theorem cut_n {xs : List Int} (n : Nat) : cutD (xs.map D.int) none (some (n : Int)) = (xs.take n).map .int := by
  have e : ¬ ((n : Int) < 0) := by omega
  simp [cutD, HT.sIx, e, List.take_eq_take_iff]
section
variable {C : Store} {Q : D → Store → Prop} {X : Exc → Store → Prop} {xs : List Int} {B : Int}
theorem sorted_w (h : Lk B xs) : oSortS false [.lst (xs.map .int)] C = some (.lst (xs.map .int), C) := by
  have := sortS_ok (C := C) (xs := xs) (by have := h.len; omega)
  rw [h.srt] at this
  exact this
theorem Lk.ends (h : Lk B xs) (hB : B ≤ 1000000) : ∀ r ∈ lawR 0 xs ++ lawR 1 xs, -1000000000000 ≤ r.1 ∧ r.2 ≤ 1000000000000 := by
  intro r hr
  rcases List.mem_append.mp hr with hr | hr
  · obtain ⟨a, b⟩ := lawR_end hr
    have := h.bd _ a
    have := h.bd _ b
    omega
  · obtain ⟨a, b⟩ := lawR_end hr
    have := h.bd _ a
    have := h.bd _ b
    omega
theorem bl_first {c : Nat} (h : Lk B xs) (hB : B ≤ 1000000) (hc : c ≤ 1000) (q : Q (.cell C.length) (C ++ [some (.lst ((xs.take c).map .int))])) : wR (m_Want_first [wtD xs, .int c] C) Q X := by
  refine first_w (law_cw xs) (law_in xs) (h.ends hB) hc ?_
  rw [h.srt]
  exact q
theorem ask0_w {fl : Nat} {s0 s4 s5 s6 s7 s8 : Option D} {P : RS → Prop} (h : Lk B xs) (hB : B ≤ 1000000) (hf : fl ≤ C.length) (q : ∀ Y, P (.rt (.bl true) (C ++ Y))) : wS (sSeq b_law_asked_1t_0 (sSeq b_law_asked_1t_1 (sSeq b_law_asked_1t_2 (sSeq b_law_asked_1t_3 b_law_asked_1t_4))) ⟨fl, [s0, some (wtD xs), some (.lst (xs.map .int)), some (.lst (xs.map .int)), s4, s5, s6, s7, s8]⟩ C) P := by
  have bd : ∀ x ∈ xs, x.natAbs < 1000000000000 := fun x hx => by have := h.bd x hx; omega
  have hl := h.len
  walk_at "p"
  unfold b_law_asked_1t_0
  walk_at "p"
  refine ⟨_, rfl, ?_⟩
  walk_at "p"
  refine bl_first (c := 40) h hB (by decide) ?_
  have at_n : ∀ l : List D, (C ++ [some (Cell.lst l)])[C.length]? = some (some (.lst l)) := fun l => by simp
  walk_at "p"
  unfold b_law_asked_1t_1
  walk_at "p"
  refine wo_of (repr_is (l := xs.take 40) (toP_ci (at_n _)) (by rw [List.length_take]; omega) fun x hx => bd x (List.mem_of_mem_take hx)) ?_
  walk_at "p"
  refine ⟨_, rfl, ?_⟩
  rw [show (40 : Int) = ((40 : Nat) : Int) from rfl, cut_n]
  walk_at "p"
  refine wo_of (repr_is (l := xs.take 40) (toP_li _ _) (by rw [List.length_take]; omega) fun x hx => bd x (List.mem_of_mem_take hx)) ?_
  walk_at "p"
  refine wI_dt rfl ?_
  walk_at "p"
  unfold b_law_asked_1t_2
  walk_at "p"
  refine w_append ?_
  walk_at "p"
  refine ⟨by simp [vL, at_n], ?_⟩
  walk_at "p"
  refine ⟨C.length, (xs.take 40).map .int, by simp only [cL, at_n], hf, by rw [List.length_map, List.length_take]; omega, ?_⟩
  walk_at "p"
  have e1 : (C ++ [some (Cell.lst ((xs.take 40).map .int))]).set C.length (some (.lst ((xs.take 40).map .int ++ [.int 7]))) = C ++ [some (.lst ((xs.take 40 ++ [7]).map .int))] := by simp
  rw [e1]
  unfold b_law_asked_1t_3
  refine w_setL ?_
  walk_at "p"
  refine ⟨0, C.length, (xs.take 40 ++ [7]).map .int, 0, _, rfl, by simp only [cL, at_n], ?_, wr_hi hf, ?_⟩
  · exact ixN_at (i := 0) (by decide) (by simp only [List.length_map, List.length_append, List.length_cons, List.length_nil]; omega)
  walk_at "p"
  have e2 : ∀ l : List D, (C ++ [some (Cell.lst ((xs.take 40 ++ [7]).map .int))]).set C.length (some (.lst l)) = C ++ [some (.lst l)] := fun l => by simp
  rw [e2]
  unfold b_law_asked_1t_4
  walk_at "p"
  refine ⟨_, rfl, ?_⟩
  walk_at "p"
  refine bl_first (c := 3) h hB (by decide) ?_
  walk_at "p"
  refine ⟨_, rfl, ?_⟩
  rw [show (3 : Int) = ((3 : Nat) : Int) from rfl, cut_n]
  refine wo_of (eq_ci (as := xs.take 3) (by simp)) ?_
  rw [decide_eq_true rfl]
  walk_at "p"
  have := q ([some (.lst (((xs.take 40 ++ [7]).map D.int).set 0 (.int 100)))] ++ [some (.lst ((xs.take 3).map .int))])
  rw [← List.append_assoc] at this
  exact this
end
end CL
set_option maxHeartbeats 4000000
namespace CL
open PySem L2 CT
local macro_rules | `(tactic| walk_at "w") => `(tactic| first | ((with_reducible apply gR); first | with_reducible refine w_var rfl ?_ | with_reducible apply w_cons | with_reducible apply w_c | with_reducible apply w_nil | with_reducible apply w_op | with_reducible apply w_ap | with_reducible apply w_call | with_reducible apply w_tst | with_reducible apply w_un | with_reducible apply w_tand | with_reducible apply w_tor | with_reducible apply w_tnot | with_reducible apply w_yes | with_reducible apply w_and | with_reducible apply w_or | with_reducible apply w_not | with_reducible apply w_if | with_reducible apply w_chain | with_reducible apply w_isi | with_reducible apply w_isi2 | with_reducible apply w_prop | with_reducible apply w_meth | with_reducible apply w_dget | with_reducible apply w_dnewF | with_reducible apply w_dnewT | with_reducible apply w_part | with_reducible apply w_noPart | with_reducible apply w_slLF | with_reducible apply w_slA | with_reducible apply w_ok | with_reducible apply w_ofO | with_reducible apply w_lcI | with_reducible apply w_seqI | with_reducible apply w_rng1 | with_reducible apply w_rng2 | with_reducible apply w_enum) | ((with_reducible apply gO); first | with_reducible apply wo_add | with_reducible apply wo_sub | with_reducible apply wo_lt | with_reducible apply wo_gt | with_reducible apply wo_eq | with_reducible apply wo_ne | with_reducible apply wo_le | with_reducible apply wo_ge | with_reducible apply wo_neg | with_reducible apply wo_eqS | with_reducible apply wo_neS | with_reducible apply wo_min | with_reducible apply wo_max | with_reducible apply wo_int | with_reducible apply wo_abs | with_reducible apply wo_tupL | with_reducible apply wo_tupT | with_reducible refine wo_tup (by with_unfolding_all rfl) ?_ | with_reducible refine wo_lstF (by with_unfolding_all rfl) ?_ | with_reducible refine wo_lstT (by with_unfolding_all rfl) ?_ | with_reducible apply wo_fld0 | with_reducible apply wo_fld1 | with_reducible apply wo_fld2) | ((with_reducible apply gS); first | with_reducible apply w_seq | with_reducible apply w_asg | with_reducible apply w_sif | with_reducible apply w_next | with_reducible apply w_ret | with_reducible apply w_par | with_reducible apply w_drop | with_reducible apply w_asgT | with_reducible apply w_retN | with_reducible apply w_brk | with_reducible apply w_cnt | with_reducible apply w_raise | with_reducible apply w_forI) | ((with_reducible apply gI); first | with_reducible apply wI_t | with_reducible apply wI_f | with_reducible apply wI_not) | with_reducible apply w_bl | with_reducible apply thn_nx | with_reducible apply w_int | with_reducible apply w_obj | with_reducible apply thn_rt | with_reducible apply lp_nx | with_reducible apply fnl_int | with_reducible apply fnl_bl | with_reducible apply fnl_non | with_reducible apply fnl_str | with_reducible apply fnl_nx | with_reducible apply thn_bk | with_reducible apply thn_ct | with_reducible apply thn_xc | with_reducible apply lp_rt | with_reducible apply lp_bk | with_reducible apply lp_xc | with_reducible apply w_itL | with_reducible apply w_itT | with_reducible apply w_itK)
local macro_rules | `(tactic| walk_at "p") => `(tactic| repeat walk_at "w")
local macro_rules | `(tactic| walk_at "w") => `(tactic| first | ((with_reducible apply gR); first | with_reducible refine w_var rfl ?_ | with_reducible apply w_cons | with_reducible apply w_c | with_reducible apply w_nil | with_reducible apply w_op | with_reducible apply w_ap | with_reducible apply w_call | with_reducible apply w_tst | with_reducible apply w_un | with_reducible apply w_tand | with_reducible apply w_tor | with_reducible apply w_tnot | with_reducible apply w_yes | with_reducible apply w_and | with_reducible apply w_or | with_reducible apply w_not | with_reducible apply w_if | with_reducible apply w_chain | with_reducible apply w_isi | with_reducible apply w_isi2 | with_reducible apply w_prop | with_reducible apply w_meth | with_reducible apply w_dget | with_reducible apply w_dnewF | with_reducible apply w_dnewT | with_reducible apply w_part | with_reducible apply w_noPart | with_reducible apply w_slLF | with_reducible apply w_slA | with_reducible apply w_ok | with_reducible apply w_ofO | with_reducible apply w_lcI | with_reducible apply w_seqI | with_reducible apply w_rng1 | with_reducible apply w_rng2 | with_reducible apply w_enum) | ((with_reducible apply gO); first | with_reducible apply wo_add | with_reducible apply wo_sub | with_reducible apply wo_lt | with_reducible apply wo_gt | with_reducible apply wo_eq | with_reducible apply wo_ne | with_reducible apply wo_le | with_reducible apply wo_ge | with_reducible apply wo_neg | with_reducible apply wo_eqS | with_reducible apply wo_neS | with_reducible apply wo_min | with_reducible apply wo_max | with_reducible apply wo_int | with_reducible apply wo_abs | with_reducible apply wo_tupL | with_reducible apply wo_tupT | with_reducible refine wo_tup (by with_unfolding_all rfl) ?_ | with_reducible refine wo_lstF (by with_unfolding_all rfl) ?_ | with_reducible refine wo_lstT (by with_unfolding_all rfl) ?_ | with_reducible apply wo_fld0 | with_reducible apply wo_fld1 | with_reducible apply wo_fld2) | ((with_reducible apply gS); first | with_reducible apply w_seq | with_reducible apply w_asg | with_reducible apply w_sif | with_reducible apply w_next | with_reducible apply w_ret | with_reducible apply w_par | with_reducible apply w_drop | with_reducible apply w_asgT | with_reducible apply w_retN | with_reducible apply w_brk | with_reducible apply w_cnt | with_reducible apply w_raise | with_reducible apply w_forI) | ((with_reducible apply gI); first | with_reducible apply wI_t | with_reducible apply wI_f | with_reducible apply wI_not) | with_reducible apply w_bl | with_reducible apply thn_nx | with_reducible apply w_int | with_reducible apply w_obj | with_reducible apply thn_rt | with_reducible apply lp_nx | with_reducible apply fnl_int | with_reducible apply fnl_bl | with_reducible apply fnl_non | with_reducible apply fnl_str | with_reducible apply fnl_nx | with_reducible apply thn_bk | with_reducible apply thn_ct | with_reducible apply thn_xc | with_reducible apply lp_rt | with_reducible apply lp_bk | with_reducible apply lp_xc | with_reducible apply w_itL | with_reducible apply w_itT | with_reducible apply w_itK)
local macro_rules | `(tactic| walk_at "p") => `(tactic| repeat walk_at "w")
/-! S22: blocks, ends, counts asked. -/
def uni (L : List Bk) (x : Int) : Prop := ∃ b ∈ L, inW b.2.1 b.2.2 x
open Classical in
noncomputable def pick (L : List Bk) (xs : List Int) : List Int := xs.filter fun x => decide (uni L x)
open Classical in
theorem pick_mem {L : List Bk} {xs : List Int} {x : Int} : x ∈ pick L xs ↔ x ∈ xs ∧ uni L x := by
  unfold pick
  rw [List.mem_filter]
  exact and_congr Iff.rfl decide_eq_true_iff
theorem eq_tri {i : Nat} {S : Store} {n : Int} {a b : Bool} (h : S[i]? = some (some (.lst [.int n, .bl a, .bl b]))) : oEqA false (.cell i) (.lst [.int n, .bl a, .bl b]) S = some (.bl true, S) := by
  have e : toP S (.cell i) = some (.list [.int n, .bool a, .bool b]) := by
    show (match S[i]? with | some (some (.lst xs)) => (toP0s xs).map PyData.list | _ => none) = _
    rw [h]
    rfl
  have e2 : toP S (.lst [.int n, .bl a, .bl b]) = some (.list [.int n, .bool a, .bool b]) := rfl
  show oEqD false _ _ S = _
  simp [oEqD, e, e2, SeqAt.shaped, PyData.canLay0, PyData.canLayAll0, PyData.depth, PyData.depthAll, PyData.eqv, PyData.eqvAll]
theorem pick_len (L : List Bk) (xs : List Int) : (pick L xs).length ≤ xs.length := List.length_filter_le _ _
theorem blk_wt {E O : List Rn} {xs : List Int} (h : CW E O) (hx : ∀ x, inW E O x ↔ x ∈ xs) {b : Bk} (hb : b ∈ blkL E O) : wb b = wtD (pick [b] xs) := by
  refine law_of (blk_cw h hb) fun x => ?_
  rw [pick_mem]
  constructor
  · intro z
    exact ⟨(hx x).mp ((blk_in h x).mp ⟨b, hb, z⟩), b, List.mem_singleton.mpr rfl, z⟩
  · rintro ⟨_, c, hc, z⟩
    rw [List.mem_singleton.mp hc] at z
    exact z
section
variable {C : Store} {Q : D → Store → Prop} {X : Exc → Store → Prop} {xs : List Int} {B : Int} {fl : Nat} {s0 s4 s5 s6 s7 s8 : Option D} {P : RS → Prop}
theorem ask1_w (h : Lk B xs) (hf : fl ≤ C.length) (q : ∀ Y, P (.rt (.bl true) (C ++ Y))) : wS (sSeq b_law_asked_2t_0 (sSeq b_law_asked_2t_1 (sSeq b_law_asked_2t_2 b_law_asked_2t_3)) ⟨fl, [s0, some (wtD xs), some (.lst (xs.map .int)), some (.lst (xs.map .int)), s4, s5, s6, s7, s8]⟩ C) P := by
  have hl := h.len
  have ll := law_len2 xs
  have cw := law_cw xs
  have cin := law_in xs
  have bw : ∀ b ∈ srtB (blkL (lawR 0 xs) (lawR 1 xs)), wb b = wtD (pick [b] xs) := fun b hb => blk_wt cw cin (srtB_mem.mp hb)
  have bi : ∀ x ∈ xs, uni (srtB (blkL (lawR 0 xs) (lawR 1 xs))) x := fun x hx => by
    obtain ⟨b, hb, z⟩ := (blk_in cw x).mpr ((cin x).mpr hx)
    exact ⟨b, srtB_mem.mpr hb, z⟩
  walk_at "p"
  unfold b_law_asked_2t_0
  walk_at "p"
  refine ⟨_, rfl, ?_⟩
  walk_at "p"
  refine blocks_w cw (by omega) (by omega) ?_
  generalize hL : srtB (blkL (lawR 0 xs) (lawR 1 xs)) = L at bw bi
  have hLl : L.length ≤ 30000 := by
    rw [← hL, srtB_len]
    have hs := str_len (E := lawR 0 xs) (O := lawR 1 xs) (by omega) (by omega)
    obtain ⟨_, le, _⟩ := left_ok (.inl rfl) (l := strR (lawR 0 xs) (lawR 1 xs)) cw.e
    obtain ⟨_, lo, _⟩ := left_ok (.inr rfl) (l := strR (lawR 0 xs) (lawR 1 xs)) cw.o
    simp only [blkL, blkS, blkE, blkO, List.length_append, List.length_map]
    omega
  walk_at "p"
  refine mk_law (xs := []) (by simp) (by simp) rfl rfl ?_
  walk_at "p"
  refine ⟨_, rfl, ?_⟩
  walk_at "p"
  unfold b_law_asked_2t_1
  have at_n : ∀ l : List D, (C ++ [some (Cell.lst l)])[C.length]? = some (some (.lst l)) := fun l => by simp
  walk_at "p"
  refine w_itC (at_n _) ?_
  refine loop_o on_cell (fun j sl S => S = C ++ [some (.lst (L.map wb))] ∧ ∃ s7, sl = [s0, some (wtD xs), some (.lst (xs.map .int)), some (.lst (xs.map .int)), s4, some (.cell C.length), some (wtD (pick (L.take j) xs)), s7, s8]) (fun j sl S z => by rw [z.1]; exact at_n _) ⟨rfl, s7, ?_⟩ ?_ ?_
  · have e : wtD (pick (L.take 0) xs) = wtD [] := wtD_same fun x => by rw [pick_mem]; simp [uni]
    rw [e]
    rfl
  · rintro j y sl S hy ⟨rfl, t7, rfl⟩
    rw [List.getElem?_map] at hy
    obtain ⟨b, hb, rfl⟩ := Option.map_eq_some_iff.mp hy
    have tk := take_snoc hb
    have hbw := bw b (List.mem_of_getElem? hb)
    refine ⟨_, rfl, ?_⟩
    unfold b_law_asked_2t_1b_0
    walk_at "p"
    refine w_binO ?_
    walk_at "p"
    refine ⟨rfl, ?_⟩
    have pl := pick_len (L.take j) xs
    have pl2 := pick_len [b] xs
    rw [hbw]
    refine bl_or (by omega) ?_
    walk_at "p"
    refine ⟨rfl, some (wtD (pick [b] xs)), ?_⟩
    have e : wtD (pick (L.take (j + 1)) xs) = wtD (pick (L.take j) xs ++ pick [b] xs) := wtD_same fun x => by
      rw [List.mem_append, pick_mem, pick_mem, pick_mem, tk]
      simp only [uni, List.mem_append, List.mem_singleton]
      constructor
      · rintro ⟨h1, c, hc | hc, h2⟩
        · exact .inl ⟨h1, c, hc, h2⟩
        · exact .inr ⟨h1, c, hc, h2⟩
      · rintro (⟨h1, c, hc, h2⟩ | ⟨h1, c, hc, h2⟩)
        · exact ⟨h1, c, .inl hc, h2⟩
        · exact ⟨h1, c, .inr hc, h2⟩
    rw [e]
    rfl
  · rintro sl S ⟨rfl, t7, rfl⟩
    rw [List.length_map, List.take_length]
    have e : wtD (pick L xs) = wtD xs := wtD_same fun x => by
      rw [pick_mem]
      exact ⟨fun z => z.1, fun z => ⟨z, bi x z⟩⟩
    rw [e]
    walk_at "p"
    unfold b_law_asked_2t_2
    walk_at "p"
    refine w_append ?_
    walk_at "p"
    refine ⟨by simp [vL, at_n], ?_⟩
    refine mk_law (xs := [100]) (by simp) (by simp) rfl rfl ?_
    refine ⟨C.length, L.map wb, by simp only [cL, at_n], hf, by rw [List.length_map]; omega, ?_⟩
    walk_at "p"
    have e1 : (C ++ [some (Cell.lst (L.map wb))]).set C.length (some (.lst (L.map wb ++ [wtD [100]]))) = C ++ [some (.lst (L.map wb ++ [wtD [100]]))] := by simp
    rw [e1]
    unfold b_law_asked_2t_3
    walk_at "p"
    refine w_eqO ?_
    walk_at "p"
    refine ⟨rfl, eq_w ⟨_, rfl, ?_⟩⟩
    refine ⟨true, by simp, wI_t ?_⟩
    walk_at "p"
    refine ⟨_, rfl, ?_⟩
    walk_at "p"
    refine blocks_w cw (by omega) (by omega) ?_
    rw [hL]
    walk_at "p"
    refine wo_len (xs := L.map wb) (by simp [vS]) ?_
    walk_at "p"
    refine wo_len (xs := L.map wb ++ [wtD [100]]) (by simp [vS]) ?_
    walk_at "p"
    have ed : decide (((L.map wb).length : Int) = ((L.map wb ++ [wtD [100]]).length : Int) - 1) = true := by
      rw [decide_eq_true_eq, List.length_append]
      simp
    rw [ed]
    have := q ([some (.lst (L.map wb ++ [wtD [100]]))] ++ [some (.lst (L.map wb))])
    rw [← List.append_assoc] at this
    exact this
theorem ex_law (h : Lk B xs) : exR (lawR 0 xs) = xs.filter (par 0) ∧ exR (lawR 1 xs) = xs.filter (par 1) :=
  ⟨ex_filt (law_cw xs).e h.up fun x hp => (lawR_ok 0 xs).2 x hp, ex_filt (law_cw xs).o h.up fun x hp => (lawR_ok 1 xs).2 x hp⟩
theorem low_law (h : Lk B xs) : loO ((lawR 0 xs).head?.map (·.1)) ((lawR 1 xs).head?.map (·.1)) = xs.head? := by
  rw [← ex_head (law_cw xs).e, ← ex_head (law_cw xs).o, (ex_law h).1, (ex_law h).2]
  exact head_parts h.up
theorem high_law (h : Lk B xs) : hiO ((lawR 0 xs).getLast?.map (·.2)) ((lawR 1 xs).getLast?.map (·.2)) = xs.getLast? := by
  rw [← ex_last (law_cw xs).e, ← ex_last (law_cw xs).o, (ex_law h).1, (ex_law h).2]
  exact last_parts h.up
theorem cnt_law (h : Lk B xs) : cntR (lawR 0 xs) + cntR (lawR 1 xs) = xs.length := by
  rw [← exR_len (law_cw xs).e, ← exR_len (law_cw xs).o, (ex_law h).1, (ex_law h).2]
  have := part_len xs
  omega
theorem some_law : someW (lawR 0 xs) (lawR 1 xs) = !decide (xs = []) := by
  rw [Bool.eq_iff_iff]
  unfold someW
  simp only [Bool.not_eq_true', Bool.and_eq_false_iff, decide_eq_false_iff_not, List.isEmpty_eq_false_iff]
  constructor
  · rintro (h | h) e
    · subst e; exact h rfl
    · subst e; exact h rfl
  · intro h
    obtain ⟨x, ys, rfl⟩ : ∃ x ys, xs = x :: ys := by
      cases xs with
      | nil => exact absurd rfl h
      | cons x ys => exact ⟨x, ys, rfl⟩
    rcases Int.emod_two_eq x with hx | hx
    · refine .inl fun e => ?_
      have := ((lawR_ok 0 (x :: ys)).2 x hx).mpr (List.mem_cons_self ..)
      rw [e] at this
      exact mR_nil _ this
    · refine .inr fun e => ?_
      have := ((lawR_ok 1 (x :: ys)).2 x hx).mpr (List.mem_cons_self ..)
      rw [e] at this
      exact mR_nil _ this
theorem ask2_w (h : Lk B xs) (q : P (.rt (.bl true) C)) : wS (sSeq b_law_asked_3t_0 b_law_asked_3t_1 ⟨fl, [s0, some (wtD xs), some (.lst (xs.map .int)), some (.lst (xs.map .int)), s4, s5, s6, s7, s8]⟩ C) P := by
  walk_at "p"
  unfold b_law_asked_3t_0
  walk_at "p"
  refine wo_of (ne_li xs [] _) ?_
  walk_at "p"
  have fin : ∀ (a b : Option Int), xs.head? = a → xs.getLast? = b → wS (b_law_asked_3t_1 ⟨fl, [s0, some (wtD xs), some (.lst (xs.map .int)), some (.lst (xs.map .int)), s4, s5, s6, s7, some (.lst [oD a, oD b])]⟩ C) P := by
    rintro a b ha hb
    unfold b_law_asked_3t_1
    walk_at "p"
    refine ⟨_, rfl, ?_⟩
    refine lowA_w ?_
    rw [low_law h, ha]
    walk_at "p"
    refine ⟨_, rfl, ?_⟩
    refine highA_w ?_
    rw [high_law h, hb]
    walk_at "p"
    refine wo_of (d := .bl true) (C' := C) ?_ ?_
    · show oEqD false (.lst [oD a, oD b]) (.lst [oD a, oD b]) C = _
      cases a <;> cases b <;> simp [oEqD, oD, toP, toPs, SeqAt.shaped, PyData.canLay0, PyData.canLayAll0, PyData.depth, PyData.depthAll, PyData.eqv, PyData.eqvAll]
    · walk_at "p"
      exact q
  refine wI_d (fun e => ?_) fun e => ?_
  · subst e
    walk_at "p"
    exact fin none none rfl rfl
  · obtain ⟨a, ys, rfl⟩ : ∃ x ys, xs = x :: ys := by
      cases xs with
      | nil => exact absurd rfl e
      | cons x ys => exact ⟨x, ys, rfl⟩
    obtain ⟨b, hb⟩ : ∃ b, (a :: ys).getLast? = some b := ⟨_, List.getLast?_eq_some_getLast (by simp)⟩
    have hix : atI ((a :: ys).map D.int) (-1) = some (.int b) := by
      unfold atI ixN
      rw [if_neg (by decide), if_pos (by simp; omega)]
      have e1 : ((-1 : Int) + ((a :: ys).map D.int).length).toNat = ((a :: ys).map D.int).length - 1 := by simp; omega
      show ((a :: ys).map D.int)[((-1 : Int) + ((a :: ys).map D.int).length).toNat]? = _
      rw [e1, ← List.getLast?_eq_getElem?, List.getLast?_map, hb]
      rfl
    walk_at "p"
    refine wo_ix rfl (k := 0) rfl rfl ?_
    walk_at "p"
    refine wo_of (d := .int b) (C' := C) ?_ ?_
    · show ((some ((a :: ys).map D.int)).bind fun xs => (atI xs (-1)).map fun d => (d, C)) = _
      rw [Option.bind_some, hix]
      rfl
    · walk_at "p"
      exact fin (some a) (some b) rfl hb
theorem ask3_w (h : Lk B xs) (q : ∀ Y, P (.rt (.bl true) (C ++ Y))) : wS (sSeq b_law_asked_4t_0 b_law_asked_4t_1 ⟨fl, [s0, some (wtD xs), some (.lst (xs.map .int)), some (.lst (xs.map .int)), s4, s5, s6, s7, s8]⟩ C) P := by
  have hl := h.len
  have ll := law_len2 xs
  walk_at "p"
  unfold b_law_asked_4t_0
  walk_at "p"
  refine ⟨_, rfl, ?_⟩
  refine many_w (by omega) (by omega) ?_
  rw [cnt_law h]
  walk_at "p"
  refine w_bO ?_
  walk_at "p"
  refine ⟨_, rfl, ?_⟩
  refine bool_w ⟨_, rfl, ?_⟩
  rw [some_law]
  walk_at "p"
  refine w_nO ?_
  walk_at "p"
  refine ⟨rfl, ?_⟩
  refine contains_w (by omega) (by omega) ⟨_, rfl, ?_⟩
  rw [hasW_law]
  walk_at "p"
  unfold b_law_asked_4t_1
  walk_at "p"
  refine wo_len (xs := xs.map .int) rfl ?_
  walk_at "p"
  refine wo_of (ne_li xs [] _) ?_
  walk_at "p"
  refine wo_of (in_li false 0 xs _) ?_
  walk_at "p"
  rw [List.length_map]
  refine wo_of (eq_tri (by simp)) ?_
  walk_at "p"
  exact q _
theorem ask4_w (h : Lk B xs) (q : P (.rt (.bl true) C)) : wS (b_law_asked_5 ⟨fl, [s0, some (wtD xs), some (.lst (xs.map .int)), some (.lst (xs.map .int)), s4, s5, s6, s7, s8]⟩ C) P := by
  have hl := h.len
  unfold b_law_asked_5
  walk_at "p"
  refine ⟨_, rfl, ?_⟩
  walk_at "p"
  refine w_binO ?_
  walk_at "p"
  refine mk_law (xs := [1]) (by simp) (by simp) rfl rfl ?_
  refine ⟨rfl, ?_⟩
  refine bl_or (by simp; omega) ?_
  walk_at "p"
  have okk := bl_ok (xs := xs) (ys := xs ++ [1]) (by simp; omega)
  refine within_w okk.1 okk.2 ?_
  have c1 := sub_cw (law_cw xs) (law_cw (xs ++ [1]))
  have c2 : (lawR 0 (xs ++ [1])).foldl cutR (lawR 0 xs) = [] ∧ (lawR 1 (xs ++ [1])).foldl cutR (lawR 1 xs) = [] := cw_ext c1 cw_nil fun x => by
    rw [sub_in (law_cw xs) (law_cw (xs ++ [1])), law_in, law_in]
    constructor
    · rintro ⟨h1, h2⟩
      exact absurd (List.mem_append_left _ h1) h2
    · intro z
      exact absurd z (inW_nil x)
  rw [decide_eq_true c2]
  refine ⟨true, rfl, wI_t ?_⟩
  walk_at "p"
  refine w_eqO ?_
  walk_at "p"
  refine mk_law (xs := [1]) (by simp) (by simp) rfl rfl ?_
  refine ⟨rfl, eq_w ⟨_, rfl, ?_⟩⟩
  walk_at "p"
  refine wo_of (eq_li xs [1] _) ?_
  walk_at "p"
  have e : decide (lawR 0 xs = lawR 0 [1] ∧ lawR 1 xs = lawR 1 [1]) = decide (xs = [1]) := by
    rw [Bool.eq_iff_iff, decide_eq_true_eq, decide_eq_true_eq, lawR_iff]
    constructor
    · intro z
      exact up_one h.up (by simp) z
    · rintro rfl x
      exact Iff.rfl
  rw [e]
  refine wo_of (d := .bl true) (C' := C) ?_ ?_
  · show oEqD false (.bl _) (.bl _) C = _
    simp [oEqD, toP, SeqAt.shaped, PyData.canLay0, PyData.depth, PyData.eqv]
  · walk_at "p"
    exact q
end
end CL
set_option maxHeartbeats 4000000
namespace CL
open PySem L2 CT
local macro_rules | `(tactic| walk_at "w") => `(tactic| first | ((with_reducible apply gR); first | with_reducible refine w_var rfl ?_ | with_reducible apply w_cons | with_reducible apply w_c | with_reducible apply w_nil | with_reducible apply w_op | with_reducible apply w_ap | with_reducible apply w_call | with_reducible apply w_tst | with_reducible apply w_un | with_reducible apply w_tand | with_reducible apply w_tor | with_reducible apply w_tnot | with_reducible apply w_yes | with_reducible apply w_and | with_reducible apply w_or | with_reducible apply w_not | with_reducible apply w_if | with_reducible apply w_chain | with_reducible apply w_isi | with_reducible apply w_isi2 | with_reducible apply w_prop | with_reducible apply w_meth | with_reducible apply w_dget | with_reducible apply w_dnewF | with_reducible apply w_dnewT | with_reducible apply w_part | with_reducible apply w_noPart | with_reducible apply w_slLF | with_reducible apply w_slA | with_reducible apply w_ok | with_reducible apply w_ofO | with_reducible apply w_lcI | with_reducible apply w_seqI | with_reducible apply w_rng1 | with_reducible apply w_rng2 | with_reducible apply w_enum) | ((with_reducible apply gO); first | with_reducible apply wo_add | with_reducible apply wo_sub | with_reducible apply wo_lt | with_reducible apply wo_gt | with_reducible apply wo_eq | with_reducible apply wo_ne | with_reducible apply wo_le | with_reducible apply wo_ge | with_reducible apply wo_neg | with_reducible apply wo_eqS | with_reducible apply wo_neS | with_reducible apply wo_min | with_reducible apply wo_max | with_reducible apply wo_int | with_reducible apply wo_abs | with_reducible apply wo_tupL | with_reducible apply wo_tupT | with_reducible refine wo_tup (by with_unfolding_all rfl) ?_ | with_reducible refine wo_lstF (by with_unfolding_all rfl) ?_ | with_reducible refine wo_lstT (by with_unfolding_all rfl) ?_ | with_reducible apply wo_fld0 | with_reducible apply wo_fld1 | with_reducible apply wo_fld2) | ((with_reducible apply gS); first | with_reducible apply w_seq | with_reducible apply w_asg | with_reducible apply w_sif | with_reducible apply w_next | with_reducible apply w_ret | with_reducible apply w_par | with_reducible apply w_drop | with_reducible apply w_asgT | with_reducible apply w_retN | with_reducible apply w_brk | with_reducible apply w_cnt | with_reducible apply w_raise | with_reducible apply w_forI) | ((with_reducible apply gI); first | with_reducible apply wI_t | with_reducible apply wI_f | with_reducible apply wI_not) | with_reducible apply w_bl | with_reducible apply thn_nx | with_reducible apply w_int | with_reducible apply w_obj | with_reducible apply thn_rt | with_reducible apply lp_nx | with_reducible apply fnl_int | with_reducible apply fnl_bl | with_reducible apply fnl_non | with_reducible apply fnl_str | with_reducible apply fnl_nx | with_reducible apply thn_bk | with_reducible apply thn_ct | with_reducible apply thn_xc | with_reducible apply lp_rt | with_reducible apply lp_bk | with_reducible apply lp_xc | with_reducible apply w_itL | with_reducible apply w_itT | with_reducible apply w_itK)
local macro_rules | `(tactic| walk_at "p") => `(tactic| repeat walk_at "w")
local macro_rules | `(tactic| walk_at "w") => `(tactic| first | ((with_reducible apply gR); first | with_reducible refine w_var rfl ?_ | with_reducible apply w_cons | with_reducible apply w_c | with_reducible apply w_nil | with_reducible apply w_op | with_reducible apply w_ap | with_reducible apply w_call | with_reducible apply w_tst | with_reducible apply w_un | with_reducible apply w_tand | with_reducible apply w_tor | with_reducible apply w_tnot | with_reducible apply w_yes | with_reducible apply w_and | with_reducible apply w_or | with_reducible apply w_not | with_reducible apply w_if | with_reducible apply w_chain | with_reducible apply w_isi | with_reducible apply w_isi2 | with_reducible apply w_prop | with_reducible apply w_meth | with_reducible apply w_dget | with_reducible apply w_dnewF | with_reducible apply w_dnewT | with_reducible apply w_part | with_reducible apply w_noPart | with_reducible apply w_slLF | with_reducible apply w_slA | with_reducible apply w_ok | with_reducible apply w_ofO | with_reducible apply w_lcI | with_reducible apply w_seqI | with_reducible apply w_rng1 | with_reducible apply w_rng2 | with_reducible apply w_enum) | ((with_reducible apply gO); first | with_reducible apply wo_add | with_reducible apply wo_sub | with_reducible apply wo_lt | with_reducible apply wo_gt | with_reducible apply wo_eq | with_reducible apply wo_ne | with_reducible apply wo_le | with_reducible apply wo_ge | with_reducible apply wo_neg | with_reducible apply wo_eqS | with_reducible apply wo_neS | with_reducible apply wo_min | with_reducible apply wo_max | with_reducible apply wo_int | with_reducible apply wo_abs | with_reducible apply wo_tupL | with_reducible apply wo_tupT | with_reducible refine wo_tup (by with_unfolding_all rfl) ?_ | with_reducible refine wo_lstF (by with_unfolding_all rfl) ?_ | with_reducible refine wo_lstT (by with_unfolding_all rfl) ?_ | with_reducible apply wo_fld0 | with_reducible apply wo_fld1 | with_reducible apply wo_fld2) | ((with_reducible apply gS); first | with_reducible apply w_seq | with_reducible apply w_asg | with_reducible apply w_sif | with_reducible apply w_next | with_reducible apply w_ret | with_reducible apply w_par | with_reducible apply w_drop | with_reducible apply w_asgT | with_reducible apply w_retN | with_reducible apply w_brk | with_reducible apply w_cnt | with_reducible apply w_raise | with_reducible apply w_forI) | ((with_reducible apply gI); first | with_reducible apply wI_t | with_reducible apply wI_f | with_reducible apply wI_not) | with_reducible apply w_bl | with_reducible apply thn_nx | with_reducible apply w_int | with_reducible apply w_obj | with_reducible apply thn_rt | with_reducible apply lp_nx | with_reducible apply fnl_int | with_reducible apply fnl_bl | with_reducible apply fnl_non | with_reducible apply fnl_str | with_reducible apply fnl_nx | with_reducible apply thn_bk | with_reducible apply thn_ct | with_reducible apply thn_xc | with_reducible apply lp_rt | with_reducible apply lp_bk | with_reducible apply lp_xc | with_reducible apply w_itL | with_reducible apply w_itT | with_reducible apply w_itK)
local macro_rules | `(tactic| walk_at "p") => `(tactic| repeat walk_at "w")
/-! S23: the law k18. -/
def elD (xs : List Int) : D := .tup [wtD xs, lI xs]
theorem Bg.set {i j : Nat} {C : Store} {x : Option Cell} (h : Bg i C) (hj : j ≠ i) : Bg i (C.set j x) := by
  obtain ⟨cs, hcs, a, b, c, e, q⟩ := h
  exact ⟨cs, hcs, a, b, c, by rw [List.getElem?_set_ne hj]; exact e, q⟩
section
variable {C : Store} {Q : D → Store → Prop} {X : Exc → Store → Prop} {xs : List Int} {B : Int} {P : RS → Prop}
theorem asked_w (hB : Bg 0 C) (h : Lk B xs) (b1 : B ≤ 1000) (q : ∀ C', To 0 C C' → Q (.bl true) C') : wR (m_law_asked [.cell 0, wtD xs, .lst (xs.map .int)] C) Q X := by
  rw [e_law_asked]
  apply w_fin
  unfold b_law_asked b_law_asked_0
  walk_at "p"
  refine wo_of (sorted_w h) ?_
  walk_at "p"
  refine take_w hB (by decide) (by decide) fun m C1 m0 m1 t1 => ?_
  have fin : ∀ Y, fnl C.length Q X (.rt (.bl true) (C1 ++ Y)) := fun Y => by
    have e : (C1 ++ Y).take C.length = C1 := by rw [← t1.len]; simp
    refine fnl_p rfl ?_
    rw [e]
    exact q C1 t1
  have fin0 : fnl C.length Q X (.rt (.bl true) C1) := by
    have := fin []
    rwa [List.append_nil] at this
  have hf : C.length ≤ C1.length := by rw [t1.len]; exact Nat.le_refl _
  walk_at "p"
  refine ⟨_, rfl, ?_⟩
  walk_at "p"
  unfold b_law_asked_1
  walk_at "p"
  refine wI_d (fun _ => ?_) fun _ => ?_
  · exact ask0_w h (by omega) hf fin
  walk_at "p"
  unfold b_law_asked_2
  walk_at "p"
  refine wI_d (fun _ => ?_) fun _ => ?_
  · exact ask1_w h hf fin
  walk_at "p"
  unfold b_law_asked_3
  walk_at "p"
  refine wI_d (fun _ => ?_) fun _ => ?_
  · exact ask2_w h fin0
  walk_at "p"
  unfold b_law_asked_4
  walk_at "p"
  refine wI_d (fun _ => ?_) fun _ => ?_
  · exact ask3_w h fin
  walk_at "p"
  exact ask4_w h fin0
/-- a place of an own list is written -/
theorem setAt {me mi : ME} {fl i a : Nat} {sl : List (Option D)} {io : Nat} {ds : List D} {v : D} (h0 : sl[io]? = some (some (.cell i))) (hi : fl ≤ i) (hC : C[i]? = some (some (.lst ds))) (ha : a < ds.length) (hv : wR (me ⟨fl, sl⟩ C) (fun d C' => d = v ∧ C' = C) noX) (hx : wR (mi ⟨fl, sl⟩ C) (fun d C' => d = .int a ∧ C' = C) noX) (q : P (.nx sl (C.set i (some (.lst (ds.set a v)))))) : wS (sSetL me (mVar io) mi ⟨fl, sl⟩ C) P := by
  refine w_setL (w_conv hv ?_)
  rintro d C' ⟨rfl, rfl⟩
  refine w_var h0 (w_conv hx ?_)
  rintro d2 C' ⟨rfl, rfl⟩
  have e : ixN ds.length (a : Int) = some a := by
    have := ixN_at (n := ds.length) (i := (a : Int)) (by omega) (by omega)
    rw [this]
    congr 1
  exact ⟨(a : Int), i, ds, a, _, rfl, by simp only [cL, hC], e, wr_hi hi, q⟩
theorem sortSB_ok {ys : List Int} (h : ys.length < 4000) : oSortSB false [.lst (ys.map .int)] C = some (.lst ((srtI ys).map .int), C) := by
  simp only [oSortSB, vL, Option.bind_some, dInts_map, h, if_true]
  rfl
theorem lenSB_ok {ys : List Int} (h : ys.length < 4000) : oLenSB [.lst (ys.map .int)] C = some (.int (srtI ys).length, C) := by
  simp only [oLenSB, vL, Option.bind_some, dInts_map, h, if_true]
end
/-- the registers -/
structure Rg (S : Store) (ws : List (List Int)) (B : Int) : Prop where
  bg : Bg 0 S
  one : S[1]? = some (some (.lst (ws.map wtD)))
  two : S[2]? = some (some (.lst (ws.map lI)))
  len : ws.length = 3
  ok : ∀ xs ∈ ws, Lk B xs
  sz : S.length = 4
def El (S : Store) (es : List (List Int)) : Prop := S[3]? = some (some (.lst (es.map elD))) ∧ ∀ xs ∈ es, Lk 1000 xs
theorem Rg.to {S S' : Store} {ws : List (List Int)} {B : Int} (h : Rg S ws B) (t : To 0 S S') : Rg S' ws B :=
  ⟨t.bg, by rw [t.get (by decide)]; exact h.one, by rw [t.get (by decide)]; exact h.two, h.len, h.ok, by rw [t.len]; exact h.sz⟩
theorem El.to {S S' : Store} {es : List (List Int)} (h : El S es) (t : To 0 S S') : El S' es := ⟨by rw [t.get (by decide)]; exact h.1, h.2⟩
section
variable {C : Store} {Q : D → Store → Prop} {X : Exc → Store → Prop} {ws es : List (List Int)} {B : Int} {P : RS → Prop}
/-- one trip -/
theorem trip_w {j : Nat} {ns : D} {s6 s7 s8 s9 s10 : Option D} (h : Rg C ws B) (e : El C es) (hz : es.length ≤ j) (hj : j < 31) (b0 : 0 ≤ B) (b1 : B ≤ 900)
    (q : ∀ C' ws' es' s6 s7 s8 s9 s10, Rg C' ws' (B + 8) → El C' es' → es'.length ≤ j + 1 → P (.nx [some ns, some (.cell 0), some (.cell 1), some (.cell 2), some (.cell 3), some (.int j), s6, s7, s8, s9, s10] C')) :
    wS (sSeq b_law_3b_0 (sSeq b_law_3b_1 (sSeq b_law_3b_2 (sSeq b_law_3b_3 (sSeq b_law_3b_4 (sSeq b_law_3b_5 b_law_3b_6))))) ⟨0, [some ns, some (.cell 0), some (.cell 1), some (.cell 2), some (.cell 3), some (.int j), s6, s7, s8, s9, s10]⟩ C) P := by
  walk_at "p"
  unfold b_law_3b_0
  refine w_asgT ?_
  walk_at "p"
  refine deed_w h.bg h.one h.two h.len h.ok b0 (by omega) fun a ys C1 ha yl yb t1 => ?_
  refine ⟨_, _, rfl, rfl, ?_⟩
  have h1 := h.to t1
  have e1 := e.to t1
  obtain ⟨xs, hxs⟩ : ∃ xs, ws[a]? = some xs := ⟨_, List.getElem?_eq_getElem (by have := h.len; omega)⟩
  have kx := h.ok xs (List.mem_of_getElem? hxs)
  have hwl := h.len
  -- behind the elders
  have main : ∀ C2 es2, Rg C2 ws B → El C2 es2 → es2.length ≤ j + 1 → wS (sSeq b_law_3b_2 (sSeq b_law_3b_3 (sSeq b_law_3b_4 (sSeq b_law_3b_5 b_law_3b_6))) ⟨0, [some ns, some (.cell 0), some (.cell 1), some (.cell 2), some (.cell 3), some (.int j), some (.int a), some (wtD ys), some (.lst (ys.map .int)), s9, s10]⟩ C2) P := by
    intro C2 es2 h2 e2 z2
    have hsz := h2.sz
    have rest : ∀ C3 ws3, Rg C3 ws3 (B + 8) → El C3 es2 → wS (sSeq b_law_3b_4 (sSeq b_law_3b_5 b_law_3b_6) ⟨0, [some ns, some (.cell 0), some (.cell 1), some (.cell 2), some (.cell 3), some (.int j), some (.int a), some (wtD ys), some (.lst (ys.map .int)), s9, s10]⟩ C3) P := by
      intro C3 ws3 h3 e3
      have gt : ∀ k : Nat, k < 3 → ∃ zs, ws3[k]? = some zs ∧ Lk (B + 8) zs := fun k hk => by
        have hl3 := h3.len
        exact ⟨ws3[k], List.getElem?_eq_getElem (by omega), h3.ok _ (List.getElem_mem _)⟩
      have s1 : vS (.cell 1) C3 = some (ws3.map wtD) := by simp [vS, h3.one]
      have s2 : vS (.cell 2) C3 = some (ws3.map lI) := by simp [vS, h3.two]
      walk_at "p"
      unfold b_law_3b_4
      walk_at "p"
      refine ⟨by decide, ?_⟩
      refine loop_p (pure_R 0 _) (fun k sl S => S = C3 ∧ ∃ s9, sl = [some ns, some (.cell 0), some (.cell 1), some (.cell 2), some (.cell 3), some (.int j), some (.int a), some (wtD ys), some (.lst (ys.map .int)), s9, s10]) ⟨rfl, _, rfl⟩ ?_ ?_
      · rintro k y sl S hy ⟨rfl, t9, rfl⟩
        have hk : k < 3 := by
          have := (List.getElem?_eq_some_iff.mp hy).1
          simpa [rngI] using this
        have ey : y = .int (k : Int) := by
          have := (List.getElem?_eq_some_iff.mp hy).2
          rw [← this]
          simp [rngI]
        subst ey
        obtain ⟨zs, hzs, kz⟩ := gt k hk
        refine ⟨_, rfl, ?_⟩
        unfold b_law_3b_4b_0
        walk_at "p"
        refine wo_ix s1 rfl (d := wtD zs) (by rw [List.getElem?_map, hzs]; rfl) ?_
        walk_at "p"
        refine wo_ix s2 rfl (d := lI zs) (by rw [List.getElem?_map, hzs]; rfl) ?_
        walk_at "p"
        refine is_w (kz.small (by omega)) (fun x => Iff.rfl) ?_
        walk_at "p"
        exact ⟨rfl, _, rfl⟩
      · rintro sl S ⟨rfl, t9, rfl⟩
        walk_at "p"
        unfold b_law_3b_5
        walk_at "p"
        refine take_w h3.bg (by decide) (by decide) fun r C4 r0 r1 t4 => ?_
        have h4 := h3.to t4
        have e4 := e3.to t4
        obtain ⟨c, rfl, hc⟩ : ∃ c : Nat, r = (c : Int) ∧ c < 3 := ⟨r.toNat, by omega, by omega⟩
        obtain ⟨zs, hzs, kz⟩ := gt c hc
        have s1 : vS (.cell 1) C4 = some (ws3.map wtD) := by simp [vS, h4.one]
        have s2 : vS (.cell 2) C4 = some (ws3.map lI) := by simp [vS, h4.two]
        walk_at "p"
        unfold b_law_3b_6
        walk_at "p"
        refine wo_ix s1 rfl (d := wtD zs) (by rw [List.getElem?_map, hzs]; rfl) ?_
        walk_at "p"
        refine wo_ix s2 rfl (d := lI zs) (by rw [List.getElem?_map, hzs]; rfl) ?_
        walk_at "p"
        refine asked_w h4.bg kz (by omega) fun C5 t5 => ?_
        walk_at "p"
        exact q C5 ws3 es2 _ _ _ _ _ (h4.to t5) (e4.to t5) z2
    walk_at "p"
    unfold b_law_3b_2
    refine w_set2 ?_
    walk_at "p"
    refine wo_of (sortSB_ok (by omega)) ?_
    walk_at "p"
    refine ⟨_, rfl, ?_⟩
    rw [show (60 : Int) = ((60 : Nat) : Int) from rfl, cut_n]
    walk_at "p"
    refine setAt (a := a) (ds := ws.map wtD) (v := wtD ys) rfl (Nat.zero_le _) h2.one (by rw [List.length_map]; omega) (w_c ⟨rfl, rfl⟩) (w_var rfl ⟨rfl, rfl⟩) ?_
    walk_at "p"
    refine setAt (a := a) (ds := ws.map lI) (v := lI ((srtI ys).take 60)) rfl (Nat.zero_le _) (by rw [List.getElem?_set_ne (by decide)]; exact h2.two) (by rw [List.length_map]; omega) (w_c ⟨rfl, rfl⟩) (w_var rfl ⟨rfl, rfl⟩) ?_
    walk_at "p"
    unfold b_law_3b_3
    walk_at "p"
    refine wo_of (lenSB_ok (by omega)) ?_
    walk_at "p"
    have ew : ∀ zs : List Int, (ws.map wtD).set a (wtD zs) = (ws.set a zs).map wtD := fun zs => by rw [List.map_set]
    have el : ∀ zs : List Int, (ws.map lI).set a (lI zs) = (ws.set a zs).map lI := fun zs => by rw [List.map_set]
    have okS : ∀ zs, Lk (B + 8) zs → ∀ x ∈ ws.set a zs, Lk (B + 8) x := fun zs hzs x hx => by
      rcases List.mem_or_eq_of_mem_set hx with hx | rfl
      · exact (h.ok x hx).mono (by omega)
      · exact hzs
    refine wI_d (fun hg => ?_) fun hg => ?_
    · walk_at "p"
      unfold b_law_3b_3t_0
      refine setAt (a := a) (ds := (ws.map wtD).set a (wtD ys)) (v := wtD [0, 1, 2, 3]) rfl (Nat.zero_le _) (by rw [List.getElem?_set_ne (by decide), List.getElem?_set_self (by omega)]) (by rw [List.length_set, List.length_map]; omega) ?_ (w_var rfl ⟨rfl, rfl⟩) ?_
      · walk_at "p"
        refine between_w (by decide) (by decide) ?_
        exact ⟨(btw_law 0 3 4 (by decide)).trans rfl, rfl⟩
      walk_at "p"
      unfold b_law_3b_3t_1
      refine setAt (a := a) (ds := (ws.map lI).set a (lI ((srtI ys).take 60))) (v := lI [0, 1, 2, 3]) rfl (Nat.zero_le _) (by rw [List.getElem?_set_ne (by decide), List.getElem?_set_self (by simp; omega)]) (by rw [List.length_set, List.length_map]; omega) ?_ (w_var rfl ⟨rfl, rfl⟩) ?_
      · walk_at "p"
        exact ⟨rfl, rfl⟩
      walk_at "w"
      refine rest _ (ws.set a [0, 1, 2, 3]) ⟨?_, ?_, ?_, by rw [List.length_set]; exact hwl, okS _ ⟨by simp, by simp, by simp; omega⟩, by simp [hsz]⟩ ⟨?_, e2.2⟩
      · exact ((((h2.bg.set (by decide)).set (by decide)).set (by decide)).set (by decide))
      · rw [List.getElem?_set_ne (by decide), List.getElem?_set_self (by simp; omega), List.set_set, ew]
      · rw [List.getElem?_set_self (by simp; omega), List.set_set, el]
      · rw [List.getElem?_set_ne (by decide), List.getElem?_set_ne (by decide), List.getElem?_set_ne (by decide), List.getElem?_set_ne (by decide)]
        exact e2.1
    · walk_at "p"
      have hl60 : (srtI ys).length ≤ 60 := by omega
      have et : (srtI ys).take 60 = srtI ys := List.take_of_length_le hl60
      have kk : Lk (B + 8) (srtI ys) := ⟨hl60, srtI_up, fun x hx => yb x (srtI_mem.mp hx)⟩
      have ey : wtD ys = wtD (srtI ys) := wtD_same fun x => srtI_mem.symm
      rw [et]
      have r := rest ((C2.set 1 (some (.lst ((ws.map wtD).set a (wtD ys))))).set 2 (some (.lst ((ws.map lI).set a (lI (srtI ys)))))) (ws.set a (srtI ys)) ⟨(h2.bg.set (by decide)).set (by decide), ?_, ?_, by rw [List.length_set]; exact hwl, okS _ kk, by simp [hsz]⟩ ⟨?_, e2.2⟩
      · exact w_pre r
      · rw [List.getElem?_set_ne (by decide), List.getElem?_set_self (by omega), ey, ew]
      · rw [List.getElem?_set_self (by simp; omega), el]
      · rw [List.getElem?_set_ne (by decide), List.getElem?_set_ne (by decide)]
        exact e2.1
  walk_at "p"
  unfold b_law_3b_1
  walk_at "p"
  refine wI_d (fun _ => ?_) fun _ => ?_
  · walk_at "p"
    refine w_append ?_
    walk_at "p"
    refine ⟨by simp [vL, e1.1], ?_⟩
    walk_at "p"
    refine wo_ix (x := .cell 1) (xs := ws.map wtD) (by simp [vS, h1.one]) rfl (d := wtD xs) (by rw [List.getElem?_map, hxs]; rfl) ?_
    walk_at "p"
    refine wo_ix (x := .cell 2) (xs := ws.map lI) (by simp [vS, h1.two]) rfl (d := lI xs) (by rw [List.getElem?_map, hxs]; rfl) ?_
    walk_at "p"
    refine ⟨3, es.map elD, by simp only [cL, e1.1], Nat.zero_le _, by rw [List.length_map]; omega, ?_⟩
    walk_at "p"
    have hsz := h1.sz
    refine w_pre (main (C1.set 3 (some (.lst (es.map elD ++ [elD xs])))) (es ++ [xs]) ⟨h1.bg.set (by decide), ?_, ?_, hwl, h1.ok, by simp [hsz]⟩ ⟨?_, fun z hz' => ?_⟩ (by simp; omega))
    · rw [List.getElem?_set_ne (by decide)]; exact h1.one
    · rw [List.getElem?_set_ne (by decide)]; exact h1.two
    · rw [List.getElem?_set_self (by omega), List.map_append]; rfl
    · rcases List.mem_append.mp hz' with hz' | hz'
      · exact e.2 z hz'
      · rw [List.mem_singleton.mp hz']
        exact kx.mono (by omega)
  · walk_at "p"
    exact w_pre (main C1 es h1 e1 (by omega))
end
theorem law_true (ns : List Int) (hl : ns.length ≤ 63) : ∃ C, m_law [scrD ns] [] = .ok (.bl true) C := by
  obtain ⟨cs, hcs, eb⟩ := bag_ok ns hl
  have hB : Bg 0 [some (bagC 0 1234567891 0 cs)] := ⟨cs, hcs, 0, 1234567891, 0, rfl, by decide, by decide, by decide, by decide⟩
  refine ⟨[], w_eqv ?_⟩
  rw [e_law]
  apply w_fin
  unfold b_law b_law_0
  walk_at "p"
  refine w_of eb ?_
  walk_at "p"
  unfold b_law_1
  walk_at "p"
  refine mk_law (xs := []) (by simp) (by simp) rfl rfl ?_
  walk_at "p"
  refine mk_law (xs := [1]) (by simp) (by simp) rfl rfl ?_
  walk_at "p"
  refine between_w (by decide) (by decide) ?_
  rw [show wantD (btw 0 (-2) 2) (btw 1 (-2) 2) = wtD [-2, -1, 0, 1, 2] from (btw_law (-2) 2 5 (by decide)).trans rfl]
  walk_at "p"
  refine ⟨_, rfl, ?_⟩
  walk_at "p"
  unfold b_law_2
  walk_at "p"
  unfold b_law_3
  walk_at "p"
  generalize hS : ([some (bagC 0 1234567891 0 cs)] : Store) = S0 at hB
  have l0 : S0.length = 1 := by rw [← hS]; rfl
  have R0 : Rg (((S0 ++ [some (.lst [wtD [], wtD [1], wtD [-2, -1, 0, 1, 2]])]) ++ [some (.lst [.lst [], .lst [.int 1], .lst [.int (-2), .int (-1), .int 0, .int 1, .int 2]])]) ++ [some (.lst [])]) [[], [1], [-2, -1, 0, 1, 2]] 10 := by
    refine ⟨((hB.app _).app _).app _, by rw [← hS]; rfl, by rw [← hS]; rfl, rfl, fun xs hx => ?_, by simp [l0]⟩
    simp only [List.mem_cons, List.not_mem_nil, or_false] at hx
    rcases hx with rfl | rfl | rfl
    · exact ⟨by simp, by simp, by simp⟩
    · exact ⟨by simp, by simp, by simp⟩
    · exact ⟨by simp, by simp, by simp⟩
  have E0 : El (((S0 ++ [some (.lst [wtD [], wtD [1], wtD [-2, -1, 0, 1, 2]])]) ++ [some (.lst [.lst [], .lst [.int 1], .lst [.int (-2), .int (-1), .int 0, .int 1, .int 2]])]) ++ [some (.lst [])]) [] := ⟨by rw [← hS]; rfl, by simp⟩
  refine take_w R0.bg (by decide) (by decide) fun r C1 r0 r1 t1 => ?_
  have R1 := R0.to t1
  have E1 := E0.to t1
  walk_at "p"
  refine ⟨inR_of (by omega) (by omega), ?_⟩
  refine loop_p (pure_R 0 _) (fun j sl S => j ≤ 30 → ∃ ws es s5 s6 s7 s8 s9 s10, Rg S ws (10 + 8 * j) ∧ El S es ∧ es.length ≤ j ∧ sl = [some (scrD ns), some (.cell 0), some (.cell 1), some (.cell 2), some (.cell 3), s5, s6, s7, s8, s9, s10]) (fun _ => ⟨_, [], none, none, none, none, none, none, R1, E1, by simp, by simp [l0]⟩) ?_ ?_
  · rintro j y sl S hy hI
    have hj : j < (10 + r).toNat := by
      have := (List.getElem?_eq_some_iff.mp hy).1
      simpa [rngI] using this
    have ey : y = .int (j : Int) := by
      have := (List.getElem?_eq_some_iff.mp hy).2
      rw [← this]
      simp [rngI]
    subst ey
    obtain ⟨ws, es, s5, s6, s7, s8, s9, s10, R, E, z, rfl⟩ := hI (by omega)
    refine ⟨_, rfl, ?_⟩
    refine trip_w R E z (by omega) (by omega) (by omega) fun C' ws' es' t6 t7 t8 t9 t10 R' E' z' => ?_
    refine fun _ => ⟨ws', es', _, _, _, _, _, _, ?_, E', z', rfl⟩
    have e : (10 + 8 * ((j + 1 : Nat) : Int)) = 10 + 8 * (j : Int) + 8 := by omega
    rw [e]
    exact R'
  · rintro sl S hI
    have hn : (rngI 0 (10 + r).toNat).length ≤ 30 := by
      simp [rngI]
      omega
    obtain ⟨ws, es, s5, s6, s7, s8, s9, s10, R, E, z, rfl⟩ := hI hn
    walk_at "p"
    unfold b_law_4
    walk_at "p"
    refine w_itC E.1 ?_
    refine loop_o on_cell (fun j sl T => T = S ∧ ∃ s7 s8, sl = [some (scrD ns), some (.cell 0), some (.cell 1), some (.cell 2), some (.cell 3), s5, s6, s7, s8, s9, s10]) (fun j sl T z => by rw [z.1]; exact E.1) ⟨rfl, _, _, rfl⟩ ?_ ?_
    · rintro j y sl T hy ⟨rfl, t7, t8, rfl⟩
      rw [List.getElem?_map] at hy
      obtain ⟨xs, hxs, rfl⟩ := Option.map_eq_some_iff.mp hy
      refine ⟨_, rfl, ?_⟩
      unfold b_law_4b_0
      walk_at "p"
      refine is_w ((E.2 xs (List.mem_of_getElem? hxs)).small (by decide)) (fun x => Iff.rfl) ?_
      walk_at "p"
      exact ⟨rfl, _, _, rfl⟩
    · rintro sl T ⟨rfl, t7, t8, rfl⟩
      walk_at "p"
      unfold b_law_5
      walk_at "p"
      exact ⟨rfl, rfl⟩
end CL
set_option maxHeartbeats 0
namespace CL
open PySem L2 PySem.Spec PyProof.Rows CT
theorem room0 : RoomG 9 callerA := ⟨⟨rfl, by decide, by decide⟩, rfl⟩
theorem law_sp {K : PySem.W.Frag} {H : Hp} {a : Addr} {ns : List Int} (hl : ns.length ≤ 63) (hO : Only H) (h : SqL K H a (ns.map V.int)) : SpD (cn K) 1 m_law [.ref a] H (fun v _ => v = .bl true) fun _ _ _ => False := by
  obtain ⟨C, e⟩ := law_true ns hl
  refine ⟨rfl, fun _ => 0, [], [scrD ns], ⟨fun i c z => (nomatch z), fun i j c e z => (nomatch z)⟩, .cons (rep_scr hO h) .nil, ?_⟩
  rw [e]
  intro A' H' v _ _ r
  cases r
  rfl
theorem ob_eq (s : PySem.W.SharedT) : ob s = hk.obs s.abs := obGs_eq s
end CL
open PySem PySem.W PySem.Calls PyProof.Rows
theorem PySem.Challenge.cw_contentties_k18_whole_registers_of_wants_holds : PySem.Challenge.rw_contentties_k18_whole_registers_of_wants.Holds := by
  w_on; o_law
  refine HandSHeadRun.head_any (r := OpenLaw.row PySem.Challenge.rw_contentties_k18_whole_registers_of_wants) (q := view (OpenLaw.row PySem.Challenge.rw_contentties_k18_whole_registers_of_wants).prog [33]) (H := CL.hk) (ob := CL.ob) (M := 20000) (loose := CL.loose) (d := HandSHeadRun.topDef (OpenLaw.row PySem.Challenge.rw_contentties_k18_whole_registers_of_wants).prog 33) (kwd := []) CL.ob_eq
    (by kernel_rfl) (fun s => by kernel_rfl) CL.run (by kernel_rfl) (by kernel_rfl) (by kernel_rfl) (by rfl) (by first | assumption | decide +kernel) (by decide +kernel) ⟨rfl, rfl, rfl, rfl, rfl, by decide +kernel⟩ ?hw ?hc
  case hw => w_witness2
  case hc =>
    refine Att.attach_callB (l := PySem.Challenge.rw_contentties_k18_whole_registers_of_wants) (n := 63) rfl (by kernel_rfl) fun w s₀ s₁ mg mb fa o pm cd doc a vs ns G Y ho hd hcd hmg0 hobj hints hlen hbits hg => ?_
    obtain ⟨K, KX, c⟩ := Y
    have hmg : mg ("law" : PySem.Str) = some (.ref fa) := by
      have e : (HandSHeadRun.topDef (OpenLaw.row PySem.Challenge.rw_contentties_k18_whole_registers_of_wants).prog 33).name = ("law" : PySem.Str) := by kernel_rfl
      rw [← e]
      exact hmg0
    have T := CL.txt KX G.T.g c
    have e := hmg.symm.trans T.g_law
    cases e
    exact CT.law_core KX G.T.g G.T.b G.T.builtins G.T.nolimit hg hobj hints (Nat.le_trans hlen (by decide)) (fun base h1 h2 s H e0 q => by
      obtain ⟨fd, F, B, _⟩ := CL.ok_law (P := (PySem.Challenge.rw_contentties_k18_whole_registers_of_wants).prog) (w := w) (base := base) T
      exact F.run callerA [] s H ⟨[.ref a], []⟩ [.ref a] [.ref a] _ _ CL.room0 e0 (B s [.ref a] (fun b o e => (e0.bs b o (h1 b o e)).1) rfl) (.cons rfl .nil) q) (fun H hO hS => CL.law_sp hlen hO hS)
