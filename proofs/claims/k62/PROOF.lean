import PyProof.Rows.All
import Wide.All
import OpenK.AllK
import Wide.FinOn
import HandS.ForMost
import HandS.Exc
import HandS.CallSlots
import HandS.Wide
import HandS.Style
import HandS.More
import HandS.Defaults
import HandS.WordsExc
import HandS.Property
import PyProof.ReprRoads
import HandS.TupAny
import HandS.RaiseMore
import HandS.IsInst
import HandS.Codes
import HandS.Conv
import KE.SortData
import KE.KDictSum
import KE.KDictCopyH
import KE.GoesMore
import HandS.Iter
import HandS.Words
import HandS.Head0
import HandS.Head1
import HandS.Head2
import HandS.HeadEnd
import HandS.HeadHook1
import HandS.HeadHook2
import HandS.EndBits
import OpenK.KMeth
import HandS.SlotsOwn
import KE.KRevSl
import HandS.ExcInit
import HandS.ExcField
import HandS.ExcIs
import HandS.SetFor
import HandS.TupSets
import HandS.Strs
import KE.DataFind
import HandS.MakeKwOnly
import HandS.FStr
import HandS.Text
import KE.KCallOwn
import HandS.ClsMeth
import HandS.CallLocal
import HandS.HeadNt
import HandS.Small
import HandS.Flow
import HandS.TupMul
import HandS.Zip
import KE.DataMinMax
import HandS.SortKw
import KE.KOpsOwn
import HandS.SetBool
import HandS.OwnEq
import KE.KTupSum
import HandS.TryMany
import KE.GoesEnum
import PySem.Challenge.RW_contentties_k62_strip_laid_out
set_option Elab.async false
set_option linter.all false
set_option maxRecDepth 100000
set_option maxHeartbeats 4000000
/-! DL1: plain data, a store of changing cells, how they lie in the abstract heap; expressions. -/
namespace CT
open PySem L2
/-! ### the domain -/
inductive D where
  | non | bl (b : Bool) | int (i : Int) | str (s : Str)
  | lst (xs : List D) | tup (xs : List D) | scr (xs : List D) | kt (xs : List D)
  | obj (c : Nat) (fs : List D)
  | dT (ks : List (List Key)) (vs : List D)
  | cell (i : Nat)
  | exn (c : Nat) (fs : List D)
  | cls (c : Nat)
inductive Cell where
  | lst (xs : List D)
  | dT (ks : List (List Key)) (vs : List D)
  | ins (c : Nat) (fs : List D)
abbrev Store := List (Option Cell)
structure Exc where
  c : Nat
  fs : List D
inductive R (α : Type) where
  | ok (a : α) (C : Store)
  | exc (e : Exc) (C : Store)
  | stuck
/-- a def's frame: the cells below fl are its callers'; the slots -/
structure Fr where
  fl : Nat
  sl : List (Option D)
abbrev ME := Fr → Store → R D
def ofO : Option (D × Store) → R D
  | some (d, C) => .ok d C
  | none => .stuck
def bnd {α β : Type} (m : R α) (f : α → Store → R β) : R β := match m with
  | .ok a C => f a C
  | .exc e C => .exc e C
  | .stuck => .stuck
@[simp] theorem bnd_ok {α β : Type} (a : α) (C : Store) (f : α → Store → R β) : bnd (.ok a C) f = f a C := rfl
@[simp] theorem bnd_exc {α β : Type} (e : Exc) (C : Store) (f : α → Store → R β) : bnd (.exc e C) f = .exc e C := rfl
@[simp] theorem bnd_stuck {α β : Type} (f : α → Store → R β) : bnd .stuck f = .stuck := rfl
mutual
def cb (n : Nat) : D → Bool
  | .lst xs => cbL n xs
  | .tup xs => cbL n xs
  | .scr xs => cbL n xs
  | .kt xs => cbL n xs
  | .obj _ fs => cbL n fs
  | .exn _ fs => cbL n fs
  | .cls _ => true
  | .dT _ vs => cbL n vs
  | .cell i => decide (i < n)
  | .non => true | .bl _ => true | .int _ => true | .str _ => true
def cbL (n : Nat) : List D → Bool
  | [] => true
  | d :: ds => cb n d && cbL n ds
end
/-! ### how data lie in the heap -/
structure Cn where
  K : PySem.W.Frag
  cl : Nat → Addr
  fn : Nat → List Str
  /-- the error that is held: its place, its class, its dict -/
  ex : Option (Addr × Nat × Addr) := none
def Live (A : Nat → Addr) (C : Store) (a : Addr) : Prop := ∃ i c, C[i]? = some (some c) ∧ A i = a
/-- the written part's list -/
def KL (K : PySem.W.Frag) (a : Addr) (xs : List V) : Prop := ∃ (o : Obj) (its : Array Value) (n : Nat), List.lookup a K = some o ∧ o.cls = Value.type "list" ∧ o.dict = none ∧ o.data = Data.seq its n ∧ its.size ≤ sizeLine ∧ Vals xs its.toList
/-- the written part's tuple -/
def KT (K : PySem.W.Frag) (a : Addr) (xs : List V) : Prop := ∃ o its n, List.lookup a K = some o ∧ o.cls = Value.type "tuple" ∧ o.data = Data.seq its n ∧ its.size ≤ sizeLine ∧ Vals xs its.toList
/-- a dict with tuple keys; one that is not empty may be locked -/
def RdT (H : Hp) (a : Addr) (kvs : List (List Key × V)) : Prop := H a = some (.dT kvs) ∨ (kvs ≠ [] ∧ ∃ o, H a = some (.frz o (.dT kvs)))
theorem RdT.rd {H : Hp} {a : Addr} {kvs : List (List Key × V)} (h : RdT H a kvs) : Rd H a (.dT kvs) := h.elim .inl fun z => .inr z.2
mutual
inductive Rep (k : Cn) (A : Nat → Addr) (C : Store) (H : Hp) : V → D → Prop where
  | non : Rep k A C H .non .non
  | bl (b : Bool) : Rep k A C H (.bl b) (.bl b)
  | int (i : Int) : Rep k A C H (.int i) (.int i)
  | str (s : Str) : Rep k A C H (.str s) (.str s)
  | lst {a : Addr} {vs : List V} {ds : List D} : ¬ Live A C a → H a = some (.lst vs) → RepL k A C H vs ds → Rep k A C H (.ref a) (.lst ds)
  | tup {a : Addr} {vs : List V} {ds : List D} : ¬ Live A C a → H a = some (.tup vs) → RepL k A C H vs ds → Rep k A C H (.ref a) (.tup ds)
  | ktup {a : Addr} {vs : List V} {ds : List D} : KT k.K a vs → RepL k A C H vs ds → Rep k A C H (.ref a) (.kt ds)
  | scr {a : Addr} {vs : List V} {ds : List D} {o : Obj} : ¬ Live A C a → H a = some (.frz o (.lst vs)) → RepL k A C H vs ds → Rep k A C H (.ref a) (.scr ds)
  | kscr {a : Addr} {vs : List V} {ds : List D} : KL k.K a vs → RepL k A C H vs ds → Rep k A C H (.ref a) (.scr ds)
  | obj {a dx : Addr} {c : Nat} {vs : List V} {ds : List D} : ¬ Live A C a → H a = some (.ins (k.cl c) dx ((k.fn c).zip vs)) → vs.length = (k.fn c).length → RepL k A C H vs ds → Rep k A C H (.ref a) (.obj c ds)
  | dT {a : Addr} {kvs : List (List Key × V)} {ds : List D} : ¬ Live A C a → RdT H a kvs → RepL k A C H (kvs.map (·.2)) ds → Rep k A C H (.ref a) (.dT (kvs.map (·.1)) ds)
  | cell {i : Nat} : i < C.length → Rep k A C H (.ref (A i)) (.cell i)
  | cls (c : Nat) : Rep k A C H (.ref (k.cl c)) (.cls c)
  | exn {a dd : Addr} {c : Nat} {vs : List V} {ds : List D} : k.ex = some (a, c, dd) → ¬ Live A C dd → H dd = some (.xd ((k.fn c).zip vs)) → vs.length = (k.fn c).length → RepL k A C H vs ds → Rep k A C H (.ref a) (.exn c ds)
inductive RepL (k : Cn) (A : Nat → Addr) (C : Store) (H : Hp) : List V → List D → Prop where
  | nil : RepL k A C H [] []
  | cons {v : V} {d : D} {vs : List V} {ds : List D} : Rep k A C H v d → RepL k A C H vs ds → RepL k A C H (v :: vs) (d :: ds)
end
section
variable {k : Cn} {A A' : Nat → Addr} {C C' : Store} {H H' : Hp} {v : V} {d : D} {vs : List V} {ds : List D}
theorem RepL.length : ∀ {vs : List V} {ds : List D}, RepL k A C H vs ds → vs.length = ds.length
  | _, _, .nil => rfl
  | _, _, .cons _ t => by simp [RepL.length t]
theorem RepL.get : ∀ {vs : List V} {ds : List D} {i : Nat} {d : D}, RepL k A C H vs ds → ds[i]? = some d → ∃ v, vs[i]? = some v ∧ Rep k A C H v d
  | _, _, _, _, .nil, e => by simp at e
  | _, _, 0, _, .cons r _, e => by simp at e; subst e; exact ⟨_, rfl, r⟩
  | _, _, i + 1, d, .cons _ t, e => by
    obtain ⟨u, h1, h2⟩ := RepL.get (i := i) (d := d) t (by simpa using e)
    exact ⟨u, by simpa using h1, h2⟩
theorem RepL.append : ∀ {vs ws : List V} {ds es : List D}, RepL k A C H vs ds → RepL k A C H ws es → RepL k A C H (vs ++ ws) (ds ++ es)
  | _, _, _, _, .nil, t => t
  | _, _, _, _, .cons r s, t => .cons r (RepL.append s t)
theorem RepL.take : ∀ {vs : List V} {ds : List D} (n : Nat), RepL k A C H vs ds → RepL k A C H (vs.take n) (ds.take n)
  | _, _, 0, _ => by simp; exact .nil
  | _, _, _ + 1, .nil => .nil
  | _, _, n + 1, .cons r t => .cons r (RepL.take n t)
theorem RepL.drop : ∀ {vs : List V} {ds : List D} (n : Nat), RepL k A C H vs ds → RepL k A C H (vs.drop n) (ds.drop n)
  | _, _, 0, r => r
  | _, _, _ + 1, .nil => .nil
  | _, _, n + 1, .cons _ t => RepL.drop n t
theorem RepL.set {v : V} {d : D} (r : Rep k A C H v d) : ∀ {vs : List V} {ds : List D} (i : Nat), RepL k A C H vs ds → RepL k A C H (vs.set i v) (ds.set i d)
  | _, _, _, .nil => .nil
  | _, _, 0, .cons _ t => .cons r t
  | _, _, i + 1, .cons q t => .cons q (RepL.set r i t)
theorem RepL.rev : ∀ {vs : List V} {ds : List D}, RepL k A C H vs ds → RepL k A C H vs.reverse ds.reverse
  | _, _, .nil => .nil
  | _, _, .cons r t => by
    rw [List.reverse_cons, List.reverse_cons]
    exact (RepL.rev t).append (.cons r .nil)
theorem RepL.rep : ∀ {vs : List V} {ds : List D} (n : Nat), RepL k A C H vs ds → RepL k A C H (List.replicate n vs).flatten (List.replicate n ds).flatten
  | _, _, 0, _ => by simp; exact .nil
  | _, _, n + 1, r => by
    rw [List.replicate_succ, List.replicate_succ, List.flatten_cons, List.flatten_cons]
    exact r.append (RepL.rep n r)
/-- every reading stays if the not-live objects stay and the live ones are the old ones, or new -/
structure Kp (A : Nat → Addr) (C : Store) (H : Hp) (A' : Nat → Addr) (C' : Store) (H' : Hp) : Prop where
  at_ : ∀ a o, ¬ Live A C a → H a = some o → ¬ Live A' C' a ∧ H' a = some o
  ix : ∀ i, i < C.length → A' i = A i
  len : C.length ≤ C'.length
  fz : ∀ a o (u : List (List Key × V)), H a = some (.frz o (.dT u)) → H' a = some (.frz o (.dT u))
theorem Kp.rd {a : Addr} {u : List (List Key × V)} (q : Kp A C H A' C' H') (l : ¬ Live A C a) (h : RdT H a u) : ¬ Live A' C' a ∧ RdT H' a u := by
  rcases h with h | ⟨ne, o, h⟩
  · exact ⟨(q.at_ _ _ l h).1, .inl (q.at_ _ _ l h).2⟩
  · exact ⟨(q.at_ _ _ l h).1, .inr ⟨ne, o, (q.at_ _ _ l h).2⟩⟩
mutual
theorem Rep.kp (q : Kp A C H A' C' H') : ∀ {v : V} {d : D}, Rep k A C H v d → Rep k A' C' H' v d
  | _, _, .non => .non
  | _, _, .bl b => .bl b
  | _, _, .int i => .int i
  | _, _, .str s => .str s
  | _, _, .lst l h r => .lst (q.at_ _ _ l h).1 (q.at_ _ _ l h).2 (r.kp q)
  | _, _, .tup l h r => .tup (q.at_ _ _ l h).1 (q.at_ _ _ l h).2 (r.kp q)
  | _, _, .ktup h r => .ktup h (r.kp q)
  | _, _, .scr l h r => .scr (q.at_ _ _ l h).1 (q.at_ _ _ l h).2 (r.kp q)
  | _, _, .kscr h r => .kscr h (r.kp q)
  | _, _, .obj l h z r => .obj (q.at_ _ _ l h).1 (q.at_ _ _ l h).2 z (r.kp q)
  | _, _, .dT l h r => .dT (q.rd l h).1 (q.rd l h).2 (r.kp q)
  | _, _, .cell (i := i) hi => by
    rw [← q.ix i hi]
    exact .cell (Nat.lt_of_lt_of_le hi q.len)
  | _, _, .exn x l h z r => .exn x (q.at_ _ _ l h).1 (q.at_ _ _ l h).2 z (r.kp q)
  | _, _, .cls c => .cls c
theorem RepL.kp (q : Kp A C H A' C' H') : ∀ {vs : List V} {ds : List D}, RepL k A C H vs ds → RepL k A' C' H' vs ds
  | _, _, .nil => .nil
  | _, _, .cons r t => .cons (r.kp q) (t.kp q)
end
mutual
theorem Rep.cb : ∀ {v : V} {d : D}, Rep k A C H v d → cb C.length d = true
  | _, _, .non => rfl
  | _, _, .bl b => rfl
  | _, _, .int i => rfl
  | _, _, .str s => rfl
  | _, _, .lst l h r => by simpa [CT.cb] using r.cb
  | _, _, .tup l h r => by simpa [CT.cb] using r.cb
  | _, _, .ktup h r => by simpa [CT.cb] using r.cb
  | _, _, .scr l h r => by simpa [CT.cb] using r.cb
  | _, _, .kscr h r => by simpa [CT.cb] using r.cb
  | _, _, .obj l h z r => by simpa [CT.cb] using r.cb
  | _, _, .dT l h r => by simpa [CT.cb] using r.cb
  | _, _, .cell (i := i) hi => by simpa [CT.cb] using hi
  | _, _, .exn x l h z r => by simpa [CT.cb] using r.cb
  | _, _, .cls c => rfl
theorem RepL.cb : ∀ {vs : List V} {ds : List D}, RepL k A C H vs ds → cbL C.length ds = true
  | _, _, .nil => rfl
  | _, _, .cons r t => by simp [CT.cbL, r.cb, t.cb]
end
/-- fewer live cells, all that is named still there -/
structure Fw (A : Nat → Addr) (C C' : Store) : Prop where
  lv : ∀ a, Live A C' a → Live A C a
mutual
theorem Rep.fw (q : Fw A C C') : ∀ {v : V} {d : D}, Rep k A C H v d → CT.cb C'.length d = true → Rep k A C' H v d
  | _, _, .non, _ => .non
  | _, _, .bl b, _ => .bl b
  | _, _, .int i, _ => .int i
  | _, _, .str s, _ => .str s
  | _, _, .lst l h r, z => .lst (fun y => l (q.lv _ y)) h (r.fw q (by simpa [CT.cb] using z))
  | _, _, .tup l h r, z => .tup (fun y => l (q.lv _ y)) h (r.fw q (by simpa [CT.cb] using z))
  | _, _, .ktup h r, z => .ktup h (r.fw q (by simpa [CT.cb] using z))
  | _, _, .scr l h r, z => .scr (fun y => l (q.lv _ y)) h (r.fw q (by simpa [CT.cb] using z))
  | _, _, .kscr h r, z => .kscr h (r.fw q (by simpa [CT.cb] using z))
  | _, _, .obj l h e r, z => .obj (fun y => l (q.lv _ y)) h e (r.fw q (by simpa [CT.cb] using z))
  | _, _, .dT l h r, z => .dT (fun y => l (q.lv _ y)) h (r.fw q (by simpa [CT.cb] using z))
  | _, _, .cell (i := i) hi, z => .cell (by simpa [CT.cb] using z)
  | _, _, .exn x l h e r, z => .exn x (fun y => l (q.lv _ y)) h e (r.fw q (by simpa [CT.cb] using z))
  | _, _, .cls c, _ => .cls c
theorem RepL.fw (q : Fw A C C') : ∀ {vs : List V} {ds : List D}, RepL k A C H vs ds → CT.cbL C'.length ds = true → RepL k A C' H vs ds
  | _, _, .nil, _ => .nil
  | _, _, .cons r t, z => by
    simp [CT.cbL] at z
    exact .cons (r.fw q z.1) (t.fw q z.2)
end
end
/-! ### the store -/
def CellAt (k : Cn) (A : Nat → Addr) (C : Store) (H : Hp) (a : Addr) : Cell → Prop
  | .lst ds => ∃ vs, H a = some (.lst vs) ∧ RepL k A C H vs ds
  | .dT ks ds => ∃ kvs : List (List Key × V), H a = some (.dT kvs) ∧ kvs.map (·.1) = ks ∧ RepL k A C H (kvs.map (·.2)) ds
  | .ins c ds => ∃ dx vs, H a = some (.ins (k.cl c) dx (((k.fn c).take ds.length).zip vs)) ∧ ds.length ≤ (k.fn c).length ∧ RepL k A C H vs ds
structure StOk (k : Cn) (A : Nat → Addr) (C : Store) (H : Hp) : Prop where
  at_ : ∀ i c, C[i]? = some (some c) → CellAt k A C H (A i) c
  inj : ∀ i j c e, C[i]? = some (some c) → C[j]? = some (some e) → A i = A j → i = j
def cbC (n : Nat) : Cell → Bool
  | .lst ds => cbL n ds
  | .dT _ ds => cbL n ds
  | .ins _ ds => cbL n ds
def LowC (f : Nat) (C : Store) : Prop := ∀ i c, i < f → C[i]? = some (some c) → cbC f c = true
/-- what held of values holds on; the callers' cells name the callers' cells alone -/
structure Stp (k : Cn) (fl : Nat) (A : Nat → Addr) (C : Store) (H : Hp) (A' : Nat → Addr) (C' : Store) (H' : Hp) : Prop where
  rep : ∀ v d, Rep k A C H v d → Rep k A' C' H' v d
  len : C.length ≤ C'.length
  low : ∀ f, f ≤ fl → f ≤ C.length → LowC f C → LowC f C'
  frz : ∀ a o (u : List (List Key × V)), H a = some (.frz o (.dT u)) → H' a = some (.frz o (.dT u))
section
variable {k : Cn} {fl : Nat} {A A' A'' : Nat → Addr} {C C' C'' : Store} {H H' H'' : Hp} {v : V} {d : D} {vs : List V} {ds : List D}
theorem Stp.trans (a : Stp k fl A C H A' C' H') (b : Stp k fl A' C' H' A'' C'' H'') : Stp k fl A C H A'' C'' H'' :=
  ⟨fun v d h => b.rep v d (a.rep v d h), Nat.le_trans a.len b.len, fun f h1 h2 h => b.low f h1 (Nat.le_trans h2 a.len) (a.low f h1 h2 h), fun x o u h => b.frz x o u (a.frz x o u h)⟩
theorem CellAt.kp {c : Cell} {a : Addr} (q : Kp A C H A' C' H') (h : H' a = H a) (x : CellAt k A C H a c) : CellAt k A' C' H' a c := by
  cases c with
  | lst ds => obtain ⟨vs, e, r⟩ := x; exact ⟨vs, by rw [h]; exact e, r.kp q⟩
  | dT ks ds => obtain ⟨kvs, e, z, r⟩ := x; exact ⟨kvs, by rw [h]; exact e, z, r.kp q⟩
  | ins c ds => obtain ⟨dx, vs, e, z, r⟩ := x; exact ⟨dx, vs, by rw [h]; exact e, z, r.kp q⟩
theorem CellAt.there {c : Cell} {a : Addr} (x : CellAt k A C H a c) : ∃ o, H a = some o := by
  cases c with
  | lst ds => obtain ⟨vs, e, r⟩ := x; exact ⟨_, e⟩
  | dT ks ds => obtain ⟨kvs, e, z, r⟩ := x; exact ⟨_, e⟩
  | ins c ds => obtain ⟨dx, vs, e, z, r⟩ := x; exact ⟨_, e⟩
/-- a new object, not live -/
theorem kp_new {p : Addr} {o : HO} (h : H p = none) : Kp A C H A C (upd H p o) :=
  ⟨fun a u l e => ⟨l, by rw [upd_ne (ne_of_none e h)]; exact e⟩, fun _ _ => rfl, Nat.le_refl _, fun a o u e => by rw [upd_ne (ne_of_none e h)]; exact e⟩
theorem StOk.new {p : Addr} {o : HO} (x : StOk k A C H) (h : H p = none) : StOk k A C (upd H p o) :=
  ⟨fun i c e => by
    have y := x.at_ i c e
    obtain ⟨u, hu⟩ := y.there
    exact y.kp (kp_new h) (upd_ne (ne_of_none hu h)), x.inj⟩
/-- a new object that becomes a cell -/
def ext (A : Nat → Addr) (n : Nat) (p : Addr) : Nat → Addr := fun j => if j = n then p else A j
theorem live_ext {p : Addr} {c : Cell} {a : Addr} (l : Live (ext A C.length p) (C ++ [some c]) a) : Live A C a ∨ a = p := by
  obtain ⟨i, c', e, rfl⟩ := l
  by_cases hi : i < C.length
  · rw [List.getElem?_append_left hi] at e
    refine .inl ⟨i, c', e, ?_⟩
    unfold ext
    rw [if_neg (Nat.ne_of_lt hi)]
  · have hl : i < (C ++ [some c]).length := (List.getElem?_eq_some_iff.mp e).1
    rw [List.length_append] at hl
    have : i = C.length := by simp at hl; omega
    subst this
    refine .inr ?_
    unfold ext
    rw [if_pos rfl]
theorem kp_cell {p : Addr} {o : HO} {c : Cell} (x : StOk k A C H) (h : H p = none) : Kp A C H (ext A C.length p) (C ++ [some c]) (upd H p o) :=
  ⟨fun a u l e => ⟨fun y => (live_ext y).elim l (fun z => by rw [z, h] at e; cases e), by rw [upd_ne (ne_of_none e h)]; exact e⟩, fun i hi => by unfold ext; rw [if_neg (Nat.ne_of_lt hi)], by simp, fun a o u e => by rw [upd_ne (ne_of_none e h)]; exact e⟩
theorem StOk.cell {p : Addr} {o : HO} {c : Cell} (x : StOk k A C H) (h : H p = none) (y : CellAt k (ext A C.length p) (C ++ [some c]) (upd H p o) p c) : StOk k (ext A C.length p) (C ++ [some c]) (upd H p o) := by
  have old : ∀ i c', (C ++ [some c])[i]? = some (some c') → i < C.length → C[i]? = some (some c') ∧ ext A C.length p i = A i := fun i c' e hi => by
    rw [List.getElem?_append_left hi] at e
    exact ⟨e, by unfold ext; rw [if_neg (Nat.ne_of_lt hi)]⟩
  have new : ∀ i c', (C ++ [some c])[i]? = some (some c') → ¬ i < C.length → i = C.length ∧ c' = c := fun i c' e hi => by
    have hl : i < (C ++ [some c]).length := (List.getElem?_eq_some_iff.mp e).1
    rw [List.length_append] at hl
    have : i = C.length := by simp at hl; omega
    subst this
    simp at e
    exact ⟨rfl, e.symm⟩
  have pos : ext A C.length p C.length = p := by unfold ext; rw [if_pos rfl]
  refine ⟨fun i c' e => ?_, fun i j c1 c2 e1 e2 z => ?_⟩
  · by_cases hi : i < C.length
    · obtain ⟨e', ea⟩ := old i c' e hi
      rw [ea]
      have w := x.at_ i c' e'
      obtain ⟨u, hu⟩ := w.there
      exact w.kp (kp_cell x h) (upd_ne (ne_of_none hu h))
    · obtain ⟨rfl, rfl⟩ := new i c' e hi
      rw [pos]
      exact y
  · have far : ∀ i c', C[i]? = some (some c') → A i ≠ p := fun i c' e z => by
      obtain ⟨u, hu⟩ := (x.at_ i c' e).there
      rw [z, h] at hu
      cases hu
    by_cases hi : i < C.length
    · obtain ⟨f1, a1⟩ := old i c1 e1 hi
      by_cases hj : j < C.length
      · obtain ⟨f2, a2⟩ := old j c2 e2 hj
        rw [a1, a2] at z
        exact x.inj i j _ _ f1 f2 z
      · obtain ⟨rfl, rfl⟩ := new j c2 e2 hj
        rw [a1, pos] at z
        exact absurd z (far i _ f1)
    · obtain ⟨rfl, rfl⟩ := new i c1 e1 hi
      by_cases hj : j < C.length
      · obtain ⟨f2, a2⟩ := old j c2 e2 hj
        rw [pos, a2] at z
        exact absurd z.symm (far j _ f2)
      · obtain ⟨rfl, _⟩ := new j c2 e2 hj
        rfl
/-- the store's end is forgotten -/
theorem fw_take (n : Nat) : Fw A C (C.take n) := ⟨fun a ⟨i, c, e, z⟩ => by
  by_cases hi : i < n
  · rw [List.getElem?_take_of_lt hi] at e
    exact ⟨i, c, e, z⟩
  · rw [List.getElem?_eq_none (by simp; omega)] at e
    cases e⟩
theorem CellAt.fw {c : Cell} {a : Addr} (q : Fw A C C') (x : CellAt k A C H a c) (z : cbC C'.length c = true) : CellAt k A C' H a c := by
  cases c with
  | lst ds => obtain ⟨vs, e, r⟩ := x; exact ⟨vs, e, r.fw q z⟩
  | dT ks ds => obtain ⟨kvs, e, y, r⟩ := x; exact ⟨kvs, e, y, r.fw q z⟩
  | ins c ds => obtain ⟨dx, vs, e, y, r⟩ := x; exact ⟨dx, vs, e, y, r.fw q z⟩
theorem CellAt.cb {c : Cell} {a : Addr} (x : CellAt k A C H a c) : cbC C.length c = true := by
  cases c with
  | lst ds => obtain ⟨vs, e, r⟩ := x; exact r.cb
  | dT ks ds => obtain ⟨kvs, e, y, r⟩ := x; exact r.cb
  | ins c ds => obtain ⟨dx, vs, e, y, r⟩ := x; exact r.cb
/-- at a call every cell is below the floor -/
theorem StOk.low (x : StOk k A C H) : LowC C.length C := fun i c _ e => (x.at_ i c e).cb
theorem StOk.take {n : Nat} (x : StOk k A C H) (hn : n ≤ C.length) (h : LowC n C) : StOk k A (C.take n) H := by
  have get : ∀ i c, (C.take n)[i]? = some (some c) → i < n ∧ C[i]? = some (some c) := fun i c e => by
    by_cases hi : i < n
    · rw [List.getElem?_take_of_lt hi] at e
      exact ⟨hi, e⟩
    · rw [List.getElem?_eq_none (by simp; omega)] at e
      cases e
  have ln : (C.take n).length = n := by rw [List.length_take]; omega
  refine ⟨fun i c e => ?_, fun i j c e h1 h2 z => x.inj i j c e (get i c h1).2 (get j e h2).2 z⟩
  obtain ⟨hi, e'⟩ := get i c e
  exact (x.at_ i c e').fw (fw_take n) (by rw [ln]; exact h i c hi e')
end
/-! ### frames -/
structure SR (k : Cn) (A : Nat → Addr) (F : Fr) (C : Store) (σ : L2.St) (H : Hp) : Prop where
  st : StOk k A C H
  low : LowC F.fl C
  fl : F.fl ≤ C.length
  len : F.sl.length = σ.length
  sl : ∀ (i : Nat) (d : D), F.sl[i]? = some (some d) → ∃ v : V, σ[i]? = some (some v) ∧ Rep k A C H v d
section
variable {k : Cn} {A A' A1 : Nat → Addr} {F : Fr} {C C' C1 : Store} {H H' H1 : Hp} {σ : L2.St} {fl : Nat}
theorem SR.set {i : Nat} {v : V} {d : D} (s : SR k A F C σ H) (r : Rep k A C H v d) : SR k A ⟨F.fl, F.sl.set i (some d)⟩ C (σ.set i (some v)) H :=
  ⟨s.st, s.low, s.fl, by simp [s.len], fun j e h => by
    have h' : (F.sl.set i (some d))[j]? = some (some e) := h
    by_cases hij : i = j
    · subst hij
      by_cases hl : i < F.sl.length
      · rw [List.getElem?_set_self hl] at h'
        refine ⟨v, List.getElem?_set_self (by rw [← s.len]; exact hl), ?_⟩
        rw [← Option.some.inj (Option.some.inj h')]
        exact r
      · rw [List.getElem?_eq_none (by simp; omega)] at h'
        cases h'
    · rw [List.getElem?_set_ne hij] at h'
      obtain ⟨u, h1, h2⟩ := s.sl j e h'
      exact ⟨u, by rw [List.getElem?_set_ne hij]; exact h1, h2⟩⟩
variable {α β γ δ : Type} {rel : (Nat → Addr) → Store → Hp → β → α → Prop} {rel2 : (Nat → Addr) → Store → Hp → δ → γ → Prop} {m : R α} {Q : α → Store → (Nat → Addr) → Hp → β → Prop} {W : XK}
end
abbrev MA := Fr → Store → R (List D)
abbrev MT := Fr → Store → R Bool
end CT
set_option maxHeartbeats 4000000
/-! DL2: expressions over data: names, constants, operators, displays, subscripts, calls of built-ins. -/
namespace CT
open PySem L2
/-! ### names, constants -/
def mVar (i : Nat) : ME := fun F C => match F.sl[i]? with
  | some (some d) => .ok d C
  | _ => .stuck
def mC (d : D) : ME := fun _ C => .ok d C
/-! ### operators -/
abbrev O2 := D → D → Store → Option (D × Store)
abbrev O1 := D → Store → Option (D × Store)
abbrev OA := List D → Store → Option (D × Store)
def mOp (o : O2) (a b : ME) : ME := fun F C => bnd (a F C) fun x C1 => bnd (b F C1) fun y C2 => ofO (o x y C2)
def mUn (o : O1) (a : ME) : ME := fun F C => bnd (a F C) fun x C1 => ofO (o x C1)
def mNil : MA := fun _ C => .ok [] C
def mCons (a : ME) (r : MA) : MA := fun F C => bnd (a F C) fun x C1 => bnd (r F C1) fun xs C2 => .ok (x :: xs) C2
def mAp (o : OA) (a : MA) : ME := fun F C => bnd (a F C) fun xs C1 => ofO (o xs C1)
/-! ### tests, and, or, not -/
def mTst (a : ME) : MT := fun F C => bnd (a F C) fun x C1 => match x with
  | .bl b => .ok b C1
  | _ => .stuck
def tAndM (a b : MT) : MT := fun F C => bnd (a F C) fun x C1 => if x = true then b F C1 else .ok false C1
def tOrM (a b : MT) : MT := fun F C => bnd (a F C) fun x C1 => if x = true then .ok true C1 else b F C1
def tNotM (a : MT) : MT := fun F C => bnd (a F C) fun x C1 => .ok (!x) C1
def mAnd (a b : ME) : ME := fun F C => bnd (a F C) fun x C1 => match x with
  | .bl true => b F C1
  | .bl false => .ok (.bl false) C1
  | _ => .stuck
def mOr (a b : ME) : ME := fun F C => bnd (a F C) fun x C1 => match x with
  | .bl true => .ok (.bl true) C1
  | .bl false => b F C1
  | _ => .stuck
def mNot (a : ME) : ME := fun F C => bnd (a F C) fun x C1 => match x with
  | .bl b => .ok (.bl (!b)) C1
  | _ => .stuck
def mIf (t : MT) (a b : ME) : ME := fun F C => bnd (t F C) fun x C1 => if x = true then a F C1 else b F C1
/-! ### numbers -/
def oI0 (g : Int → Int → D) : O2 := fun x y C => match x, y with
  | .int i, .int j => some (g i j, C)
  | _, _ => none
def oAdd : O2 := oI0 fun i j => .int (i + j)
def oSub : O2 := oI0 fun i j => .int (i - j)
def oLt : O2 := oI0 fun i j => .bl (decide (i < j))
def oLe : O2 := oI0 fun i j => .bl (decide (i ≤ j))
def oGt : O2 := oI0 fun i j => .bl (decide (j < i))
def oGe : O2 := oI0 fun i j => .bl (decide (j ≤ i))
def oNeg : O1 := fun x C => match x with
  | .int i => some (.int (-i), C)
  | _ => none
/-! ### a chain of two comparisons -/
def mChain (o o' : O2) (a b c : ME) : ME := fun F C => bnd (a F C) fun x C1 => bnd (b F C1) fun y C2 => bnd (ofO (o x y C2)) fun z C3 => match z with
  | .bl true => bnd (c F C3) fun w C4 => ofO (o' y w C4)
  | .bl false => .ok (.bl false) C3
  | _ => .stuck
end CT
set_option maxHeartbeats 4000000
/-! DL3: lists, tuples, dicts over data. -/
namespace CT
open PySem L2
/-! ### what a datum is as a list, a tuple, a dict -/
def vL (d : D) (C : Store) : Option (List D) := match d with
  | .lst xs => some xs
  | .cell i => match C[i]? with
    | some (some (.lst xs)) => some xs
    | _ => none
  | _ => none
def vT : D → Option (List D)
  | .tup xs => some xs
  | .kt xs => some xs
  | _ => none
def vD (d : D) (C : Store) : Option (List (List Key) × List D) := match d with
  | .dT ks vs => some (ks, vs)
  | .cell i => match C[i]? with
    | some (some (.dT ks vs)) => some (ks, vs)
    | _ => none
  | _ => none
section
variable {k : Cn} {A : Nat → Addr} {C : Store} {H : Hp} {v : V} {d : D} {ds : List D}
/-! ### new lists, tuples, dicts: own cells or plain data -/
def mkL (own : Bool) (ds : List D) (C : Store) : D × Store := if own = true then (.cell C.length, C ++ [some (.lst ds)]) else (.lst ds, C)
def mkD (own : Bool) (ks : List (List Key)) (ds : List D) (C : Store) : D × Store := if own = true then (.cell C.length, C ++ [some (.dT ks ds)]) else (.dT ks ds, C)
end
/-! ### displays -/
def szN (n : Nat) : Bool := decide (n ≤ 16777216)
def oLst (own : Bool) : OA := fun xs C => if szN xs.length = true then some (mkL own xs C) else none
def oTup : OA := fun xs C => if szN xs.length = true then some (.tup xs, C) else none
section
variable {X : Cx} {k : Cn} {W : WX} {es : List Expr} {ma : MA} {pos : Pos}
/-- {} whose keys will be tuples -/
def mDNew (own : Bool) : ME := fun _ C => .ok (mkD own [] [] C).1 (mkD own [] [] C).2
end
/-! ### subscripts -/
/-! ### dicts with tuple keys -/
def keyL : List D → Option (List Key)
  | [] => some []
  | .int i :: r => (keyL r).map fun l => .inl i :: l
  | .str s :: r => (keyL r).map fun l => .inr s :: l
  | _ :: _ => none
def lookT : List (List Key) → List D → List Key → Option D
  | k :: ks, d :: ds, key => if k = key then some d else lookT ks ds key
  | _, _, _ => none
def setT : List (List Key) → List D → List Key → D → List D
  | k :: ks, d :: ds, key, x => (if k = key then x else d) :: setT ks ds key x
  | _, _, _, _ => []
def putT (ks : List (List Key)) (ds : List D) (key : List Key) (x : D) : List (List Key) × List D := if (ks.any fun k => decide (k = key)) = true then (ks, setT ks ds key x) else (ks ++ [key], ds ++ [x])
def oDGet (x y z : D) (C : Store) : Option (D × Store) := match y with
  | .tup ds => (vD x C).bind fun p => (keyL ds).map fun key => ((lookT p.1 p.2 key).getD z, C)
  | _ => none
def mDGet (a b c : ME) : ME := fun F C => bnd (a F C) fun x C1 => if (vD x C1).isSome = true then bnd (b F C1) fun y C2 => bnd (c F C2) fun z C3 => ofO (oDGet x y z C3) else .stuck
end CT
set_option maxHeartbeats 4000000
/-! DL4: statements, defs over data. -/
namespace CT
open PySem L2
inductive RS where
  | nx (sl : List (Option D)) (C : Store)
  | rt (d : D) (C : Store)
  | bk (sl : List (Option D)) (C : Store)
  | ct (sl : List (Option D)) (C : Store)
  | xc (e : Exc) (sl : List (Option D)) (C : Store)
  | stuck
abbrev MS := Fr → Store → RS
/-! ### simple statements -/
def bndS {α : Type} (sl : List (Option D)) (m : R α) (f : α → Store → RS) : RS := match m with
  | .ok a C => f a C
  | .exc e C => .xc e sl C
  | .stuck => .stuck
@[simp] theorem bndS_ok {α : Type} (sl : List (Option D)) (a : α) (C : Store) (f : α → Store → RS) : bndS sl (.ok a C) f = f a C := rfl
@[simp] theorem bndS_exc {α : Type} (sl : List (Option D)) (e : Exc) (C : Store) (f : α → Store → RS) : bndS sl (.exc e C) f = .xc e sl C := rfl
@[simp] theorem bndS_stuck {α : Type} (sl : List (Option D)) (f : α → Store → RS) : bndS (α := α) sl .stuck f = .stuck := rfl
def sNext : MS := fun F C => .nx F.sl C
def sSeq (a b : MS) : MS := fun F C => match a F C with
  | .nx sl C1 => b ⟨F.fl, sl⟩ C1
  | r => r
def sBrk : MS := fun F C => .bk F.sl C
def sCnt : MS := fun F C => .ct F.sl C
def sDrop (m : ME) : MS := fun F C => bndS F.sl (m F C) fun _ C1 => .nx F.sl C1
def sRet (m : ME) : MS := fun F C => bndS F.sl (m F C) fun d C1 => .rt d C1
def sRetN : MS := fun F C => .rt .non C
def sIf (t : MT) (a b : MS) : MS := fun F C => bndS F.sl (t F C) fun x C1 => if x = true then a F C1 else b F C1
/-! ### targets -/
abbrev MG := D → List (Option D) → Option (List (Option D))
def gN (i : Nat) : MG := fun d sl => some (sl.set i (some d))
def setAll : List Nat → List D → List (Option D) → Option (List (Option D))
  | [], [], sl => some sl
  | i :: is, d :: ds, sl => setAll is ds (sl.set i (some d))
  | _, _, _ => none
def gT (is : List Nat) : MG := fun d sl => (vT d).bind fun ds => setAll is ds sl
end CT
set_option maxHeartbeats 4000000
/-! DL5: stores, loops over data. -/
namespace CT
open PySem L2
section
variable {X : Cx} {k : Cn} {W : WX} {E : Ends} {σ : L2.St} {H : Hp}
/-! ### assignments -/
def sAsg (m : ME) (g : MG) : MS := fun F C => bndS F.sl (m F C) fun d C1 => match g d F.sl with
  | some sl => .nx sl C1
  | none => .stuck
/-- a, b = x, y of plain local names -/
def sPar (is : List Nat) (m : MA) : MS := fun F C => bndS F.sl (m F C) fun ds C1 => match setAll is ds F.sl with
  | some sl => .nx sl C1
  | none => .stuck
end
/-! ### cells written -/
/-- the cell is written with c: below the floor c names no cells -/
def wr (fl : Nat) (i : Nat) (c : Cell) (C : Store) : Option Store := if i < fl ∧ cbC 0 c = false then none else some (C.set i (some c))
/-- the list cell's place and items -/
def cL (d : D) (C : Store) : Option (Nat × List D) := match d with
  | .cell i => match C[i]? with
    | some (some (.lst xs)) => some (i, xs)
    | _ => none
  | _ => none
def cD (d : D) (C : Store) : Option (Nat × List (List Key) × List D) := match d with
  | .cell i => match C[i]? with
    | some (some (.dT ks vs)) => some (i, ks, vs)
    | _ => none
  | _ => none
/-- xs[i] = e -/
def sSetL (me mo mi : ME) : MS := fun F C => bndS F.sl (me F C) fun v C1 => bndS F.sl (mo F C1) fun o C2 => bndS F.sl (mi F C2) fun x C3 => match x, cL o C3 with
  | .int n, some (i, ds) => match ixN ds.length n with
    | some j => match wr F.fl i (.lst (ds.set j v)) C3 with
      | some C4 => .nx F.sl C4
      | none => .stuck
    | none => .stuck
  | _, _ => .stuck
/-- d[k] = e -/
def sPut (me mo mi : ME) : MS := fun F C => bndS F.sl (me F C) fun v C1 => bndS F.sl (mo F C1) fun o C2 => bndS F.sl (mi F C2) fun x C3 => match x, cD o C3 with
  | .tup ds, some (i, ks, vs) => match keyL ds with
    | some key => if szN (ks.length + 1) = true then match wr F.fl i (.dT (putT ks vs key v).1 (putT ks vs key v).2) C3 with
      | some C4 => .nx F.sl C4
      | none => .stuck
      else .stuck
    | none => .stuck
  | _, _ => .stuck
/-! ### list methods that write -/
end CT
set_option maxHeartbeats 4000000
/-! DL6: targets, loops, comprehensions over data. -/
namespace CT
open PySem L2
/-! ### targets of names -/
inductive Tgt where
  | nm (i : Nat) | tp (is : List Nat)
  /-- (a, b, ..), c -/
  | np (is : List Nat) (l : Nat)
/-- (a, b, ..), c = .. -/
def gNP (is : List Nat) (l : Nat) : MG := fun d sl => match vT d with
  | some [a, b] => (gT is a sl).bind fun s => gN l b s
  | _ => none
def Tgt.M : Tgt → MG
  | .nm i => gN i
  | .tp is => gT is
  | .np is l => gNP is l
def wipeD (sl : List (Option D)) : List Nat → List (Option D)
  | [] => sl
  | v :: vs => (wipeD sl vs).set v none
/-! ### what is walked -/
structure ItD where
  n : Nat
  item : Nat → Store → Option D
  fin : Store → Bool
abbrev MI := Fr → Store → R ItD
/-! ### for -/
def loopN (it : ItD) (g : MG) (body : MS) (fl : Nat) : Nat → Nat → List (Option D) → Store → RS
  | 0, _, sl, C => if it.fin C = true then .nx sl C else .stuck
  | r + 1, j, sl, C => match it.item j C with
    | none => .stuck
    | some d => match g d sl with
      | none => .stuck
      | some sl1 => match body ⟨fl, sl1⟩ C with
        | .nx sl2 C2 => loopN it g body fl r (j + 1) sl2 C2
        | .ct sl2 C2 => loopN it g body fl r (j + 1) sl2 C2
        | .bk sl2 C2 => .nx sl2 C2
        | .rt d C2 => .rt d C2
        | .xc e sl2 C2 => .xc e sl2 C2
        | .stuck => .stuck
def sFor (mi : MI) (g : MG) (body : MS) : MS := fun F C => bndS F.sl (mi F C) fun it C1 => loopN it g body F.fl it.n 0 F.sl C1
/-! ### list comprehensions -/
def bn0 {α β : Type} (m : R α) (f : α → Store → R β) : R β := match m with
  | .ok a C => f a C
  | _ => .stuck
@[simp] theorem bn0_ok {α β : Type} (a : α) (C : Store) (f : α → Store → R β) : bn0 (.ok a C) f = f a C := rfl
def lcN (it : ItD) (g : MG) (tt : MT) (te : ME) (n : Nat) (sl : List (Option D)) : Nat → Nat → Store → R Unit
  | 0, _, C => if it.fin C = true then .ok () C else .stuck
  | r + 1, j, C => match it.item j C with
    | none => .stuck
    | some d => match g d sl with
      | none => .stuck
      | some sl1 => bn0 (tt ⟨n, sl1⟩ C) fun b C1 => if b = true then bn0 (te ⟨n, sl1⟩ C1) fun y C2 => match C2[n]? with
          | some (some (.lst acc)) => if szN (acc.length + 1) = true then lcN it g tt te n sl r (j + 1) (C2.set n (some (.lst (acc ++ [y])))) else .stuck
          | _ => .stuck
        else lcN it g tt te n sl r (j + 1) C1
/-- behind the loop: an own list; or plain data, the cell forgotten -/
def lcEnd (own : Bool) (n : Nat) (C : Store) : R D := if own = true then .ok (.cell n) C else match C[n]? with
  | some (some (.lst acc)) => if cbL n acc = true then .ok (.lst acc) (C.take n) else .stuck
  | _ => .stuck
def mLc (own : Bool) (mi : MI) (g : MG) (tt : MT) (te : ME) (vs : List Nat) : ME := fun F C => bnd (mi F C) fun it C1 => bn0 (lcN it g tt te C1.length (wipeD F.sl vs) it.n 0 (C1 ++ [some (.lst [])])) fun _ C2 => lcEnd own C1.length C2
end CT
set_option maxHeartbeats 4000000
/-! DL7: what is walked; defs. -/
namespace CT
open PySem L2
section
variable {X : Cx} {k : Cn} {W : WX} {E : Ends} {σ : L2.St} {H : Hp}
/-! ### lists and tuples -/
def itC (xs : List D) : ItD := ⟨xs.length, fun j _ => xs[j]?, fun _ => true⟩
def itV (i n : Nat) : ItD := ⟨n, fun j C => match C[i]? with
    | some (some (.lst ys)) => if ys.length = n then ys[j]? else none
    | _ => none, fun C => match C[i]? with
    | some (some (.lst ys)) => decide (ys.length = n)
    | _ => false⟩
def itS (d : D) (C : Store) : Option ItD := match d with
  | .tup xs => some (itC xs)
  | .kt xs => some (itC xs)
  | .lst xs => some (itC xs)
  | .cell i => match C[i]? with
    | some (some (.lst ys)) => some (itV i ys.length)
    | _ => none
  | _ => none
def mSeq (m : ME) : MI := fun F C => bnd (m F C) fun d C1 => match itS d C1 with
  | some it => .ok it C1
  | none => .stuck
/-! ### ranges -/
def inR (i : Int) : Bool := decide (-(2 ^ 62) ≤ i) && decide (i < 2 ^ 62)
def itR (lo : Int) (n : Nat) : ItD := ⟨n, fun j _ => some (.int (lo + j)), fun _ => true⟩
def mRng1 (a : ME) : MI := fun F C => bnd (a F C) fun d C1 => match d with
  | .int j => if inR j = true then .ok (itR 0 j.toNat) C1 else .stuck
  | _ => .stuck
def mRng2 (a b : ME) : MI := fun F C => bnd (a F C) fun d C1 => bnd (b F C1) fun e C2 => match d, e with
  | .int i, .int j => if (inR i && inR j) = true then .ok (itR i (j - i).toNat) C2 else .stuck
  | _, _ => .stuck
end
/-! ### defs -/
abbrev MF := List D → Store → R D
/-- what a def hands back: an own list or dict that it made becomes plain data; its cells are forgotten -/
def fz (n : Nat) (d : D) (C : Store) : D := match d with
  | .cell i => if i < n then d else match C[i]? with
    | some (some (.lst xs)) => .lst xs
    | some (some (.dT ks vs)) => .dT ks vs
    | _ => d
  | _ => d
def fin (n : Nat) (d : D) (C : Store) : R D := if cb n (fz n d C) = true then .ok (fz n d C) (C.take n) else .stuck
end CT
set_option maxHeartbeats 4000000
/-! DL8: defs, calls, instances over data. -/
namespace CT
open PySem L2 PySem.Spec PyProof.Rows
/-! ### defs that know that no repr runs around them -/
structure RoomG (lev : Nat) (A : Around) : Prop where
  room : Room lev A
  gd : A.guards = some []
/-! ### calls -/
def mCall (m : MF) (dds : List D) (a : MA) : ME := fun F C => bnd (a F C) fun ds C1 => m (ds ++ dds) C1
section
variable {X : Cx} {k : Cn} {W : WX} {σ : L2.St} {H : Hp} {Q : VK} {lev : Nat} {f C p g : Addr} {fd : FuncData} {ps : List Str} {np : Nat} {m : MF} {dvs : List V} {dds : List D} {ds : List Value} {x nm : Str} {pn pos apos : Pos} {e o : Expr} {es : List Expr} {ma : MA} {mo : ME}
/-! ### instances -/
/-- the class and the attributes of an instance -/
def vO (d : D) (C : Store) : Option (Nat × List D) := match d with
  | .obj c fs => some (c, fs)
  | .cell i => match C[i]? with
    | some (some (.ins c fs)) => some (c, fs)
    | _ => none
  | _ => none
/-- o.f, the n-th attribute of the class c -/
def oFld (c n : Nat) : O1 := fun x C => match vO x C with
  | some (c', fs) => if c' = c then (fs[n]?).map fun d => (d, C) else none
  | none => none
/-! ### methods, properties -/
/-- the receiver is an instance of c -/
def mMeth (c : Nat) (m : MF) (dds : List D) (mo : ME) (a : MA) : ME := fun F C => bnd (mo F C) fun x C1 => match vO x C1 with
  | some (c', _) => if c' = c then bnd (a F C1) fun ds C2 => m (x :: (ds ++ dds)) C2 else .stuck
  | none => .stuck
end
end CT
set_option maxHeartbeats 4000000
/-! DL9: built-in functions over data. -/
namespace CT
open PySem L2 PySem.Spec PyProof.Rows
/-! ### data as the library's own -/
mutual
def toP0 : D → Option PyData
  | .non => some .none
  | .bl b => some (.bool b)
  | .int i => some (.int i)
  | .str s => some (.str s)
  | .lst xs => (toP0s xs).map .list
  | .tup xs => (toP0s xs).map .tuple
  | .kt xs => (toP0s xs).map .tuple
  | .scr _ => none | .obj _ _ => none | .dT _ _ => none | .cell _ => none | .exn _ _ => none | .cls _ => none
def toP0s : List D → Option (List PyData)
  | [] => some []
  | d :: ds => match toP0 d, toP0s ds with
    | some p, some ps => some (p :: ps)
    | _, _ => none
end
mutual
/-- cells are looked into, one deep -/
def toP (C : Store) : D → Option PyData
  | .non => some .none
  | .bl b => some (.bool b)
  | .int i => some (.int i)
  | .str s => some (.str s)
  | .lst xs => (toPs C xs).map .list
  | .tup xs => (toPs C xs).map .tuple
  | .kt xs => (toPs C xs).map .tuple
  | .cell i => match C[i]? with
    | some (some (.lst xs)) => (toP0s xs).map .list
    | _ => none
  | .scr _ => none | .obj _ _ => none | .dT _ _ => none | .exn _ _ => none | .cls _ => none
def toPs (C : Store) : List D → Option (List PyData)
  | [] => some []
  | d :: ds => match toP C d, toPs C ds with
    | some p, some ps => some (p :: ps)
    | _, _ => none
end
/-! ### == and != of data -/
def oEqD (neg : Bool) : O2 := fun x y C => match toP C x, toP C y with
  | some p, some q => if (SeqAt.shaped p && SeqAt.shaped q) = true then some (.bl (if neg = true then !PyData.eqv p q else PyData.eqv p q), C) else none
  | _, _ => none
/-! ### repr -/
def repOk (p : PyData) : Bool := p.showable && !p.hasDict && decide (p.depth ≤ 60) && szN p.shown.length
/-! ### len, sums, least, greatest, conversions -/
def dInts : List D → Option (List Int)
  | [] => some []
  | .int i :: r => (dInts r).map fun l => i :: l
  | _ :: _ => none
@[simp] theorem dInts_map (ns : List Int) : dInts (ns.map D.int) = some ns := by
  induction ns with
  | nil => rfl
  | cons n r ih => simp [dInts, ih]
def dBools : List D → Option (List Bool)
  | [] => some []
  | .bl i :: r => (dBools r).map fun l => i :: l
  | _ :: _ => none
@[simp] theorem dBools_map (ns : List Bool) : dBools (ns.map D.bl) = some ns := by
  induction ns with
  | nil => rfl
  | cons n r ih => simp [dBools, ih]
def o2I (g : Int → Int → Int) : OA := fun xs C => match xs with
  | [.int i, .int j] => some (.int (g i j), C)
  | _ => none
def oMax2 : OA := o2I fun i j => if j > i then j else i
def oMin2 : OA := o2I fun i j => if j < i then j else i
def oAbs : OA := fun xs C => match xs with
  | [.int i] => some (.int (if i < 0 then -i else i), C)
  | _ => none
def oInt : OA := fun xs C => match xs with
  | [.int i] => some (.int i, C)
  | [.bl b] => some (.int (if b then 1 else 0), C)
  | _ => none
/-- tuple(list), tuple(tuple) -/
def oTupOf : OA := fun xs C => match xs with
  | [.tup ys] => some (.tup ys, C)
  | [.kt ys] => some (.kt ys, C)
  | [d] => (vL d C).map fun ys => (.tup ys, C)
  | _ => none
/-! ### + and * of lists, + of tuples -/
/-! ### slices of lists -/
def mNoPart : Fr → Store → R (Option Int) := fun _ C => .ok none C
def mPart (m : ME) : Fr → Store → R (Option Int) := fun F C => bnd (m F C) fun d C1 => match d with
  | .int i => .ok (some i) C1
  | _ => .stuck
def cutD (xs : List D) (lo hi : Option Int) : List D := (xs.drop (HT.sIx xs.length 0 lo)).take (HT.sIx xs.length xs.length hi - HT.sIx xs.length 0 lo)
def vLs (d : D) (C : Store) : Option (List D) := match d with
  | .scr xs => some xs
  | _ => vL d C
/-- xs[lo:hi] of a list, a new list -/
def mSlL (own : Bool) (a : ME) (l h : Fr → Store → R (Option Int)) : ME := fun F C => bnd (a F C) fun x C1 => bnd (l F C1) fun lo C2 => bnd (h F C2) fun hi C3 => match vLs x C3 with
  | some xs => ofO (some (mkL own (cutD xs lo hi) C3))
  | none => .stuck
end CT
set_option maxHeartbeats 4000000
/-! DLA: instances made, attributes stored, properties, isinstance. -/
namespace CT
open PySem L2 PySem.Spec PyProof.Rows
/-! ### C(..) -/
end CT
set_option maxHeartbeats 4000000
/-! DLB: properties, isinstance, comprehensions as statements, two clauses. -/
namespace CT
open PySem L2 PySem.Spec PyProof.Rows
/-! ### o.f, a property -/
def mProp (c : Nat) (m : MF) (mo : ME) : ME := fun F C => bnd (mo F C) fun x C1 => match vO x C1 with
  | some (c', _) => if c' = c then (match m [x] C1 with
    | .ok d C2 => .ok d C2
    | _ => .stuck) else .stuck
  | none => .stuck
/-! ### isinstance -/
inductive Bt where
  | int | bool | str | list | tuple | dict | none
  deriving DecidableEq
def Bt.name : Bt → String
  | .int => "int" | .bool => "bool" | .str => "str" | .list => "list" | .tuple => "tuple" | .dict => "dict" | .none => "NoneType"
inductive Cc where
  | ty (b : Bt) | own (c : Nat)
def isaT : Bt → Bt → Bool
  | .bool, .int => true
  | a, b => decide (a = b)
def tyD (d : D) (C : Store) : Option Cc := match d with
  | .non => some (.ty .none) | .bl _ => some (.ty .bool) | .int _ => some (.ty .int) | .str _ => some (.ty .str)
  | .lst _ => some (.ty .list) | .tup _ => some (.ty .tuple) | .kt _ => some (.ty .tuple) | .dT [] _ => some (.ty .dict) | .dT (_ :: _) _ => none
  | .obj c _ => some (.own c)
  | .scr _ => none
  | .exn _ _ => none
  | .cls _ => none
  | .cell i => match C[i]? with
    | some (some (.lst _)) => some (.ty .list)
    | some (some (.dT _ _)) => some (.ty .dict)
    | some (some (.ins c _)) => some (.own c)
    | _ => none
def isi (kn : List Nat) (d : D) (C : Store) (t : Cc) : Option Bool := match tyD d C with
  | some (.ty a) => (match t with
    | .ty b => some (isaT a b)
    | .own _ => some false)
  | some (.own c) => if c ∈ kn then (match t with
    | .ty _ => some false
    | .own c' => some (decide (c = c'))) else none
  | none => none
def mIsi (kn : List Nat) (t : Cc) (m : ME) : ME := fun F C => bnd (m F C) fun d C1 => match isi kn d C1 t with
  | some b => .ok (.bl b) C1
  | none => .stuck
def mIsi2 (kn : List Nat) (t u : Cc) (m : ME) : ME := fun F C => bnd (m F C) fun d C1 => match isi kn d C1 t, isi kn d C1 u with
  | some b, some b' => .ok (.bl (b || b')) C1
  | _, _ => .stuck
def Cc.val (k : Cn) : Cc → Value
  | .ty b => .type b.name
  | .own c => .ref (k.cl c)
def Cc.v (k : Cn) : Cc → V
  | .ty b => .ty b.name
  | .own c => .ref (k.cl c)
theorem Cc.cls {k : Cn} (t : Cc) : ClsV (t.v k) (t.val k) := by
  cases t with
  | ty b => exact .ty _
  | own c => exact .own _
end CT
set_option maxHeartbeats 4000000
/-! DLC: isinstance as an expression; comprehensions that are assigned, and of two clauses; xs[i] += e; membership; list(range(..)). -/
namespace CT
open PySem L2 PySem.Spec PyProof.Rows
section
variable {X : Cx} {k : Cn} {W : WX} {σ : L2.St} {H : Hp} {Q : VK} {E : Ends}
/-! ### tests of a clause -/
def tYesM : MT := fun _ C => .ok true C
/-! ### y = [..] -/
/-! ### two clauses -/
/-! ### xs[i] += e -/
def sAugL (o : Int → Int → Int) (mo mi me : ME) : MS := fun F C => bndS F.sl (mo F C) fun l C1 => bndS F.sl (mi F C1) fun x C2 => match x, cL l C2 with
  | .int n, some (_, ds) => if 0 ≤ n then (match ds[n.toNat]? with
    | some (.int a) => bndS F.sl (me F C2) fun v C3 => (match v, cL l C3 with
      | .int b, some (i, es) => (match ixN es.length n with
        | some j => (match wr F.fl i (.lst (es.set j (.int (o a b)))) C3 with
          | some C4 => .nx F.sl C4
          | none => .stuck)
        | none => .stuck)
      | _, _ => .stuck)
    | _ => .stuck) else .stuck
  | _, _ => .stuck
/-! ### x in a tuple or list of data -/
end
end CT
set_option maxHeartbeats 4000000
/-! DLD: list(range(..)), sorted(..), dict(..). -/
namespace CT
open PySem L2 PySem.Spec PyProof.Rows
/-! ### sorted -/
end CT
set_option maxHeartbeats 4000000
/-! DLE: sorted and dict(d) over data. -/
namespace CT
open PySem L2 PySem.Spec PyProof.Rows
/-! ### dict(d), keys that are tuples -/
end CT
set_option maxHeartbeats 4000000
/-! DLF: dict(d) over data; enumerate. -/
namespace CT
open PySem L2 PySem.Spec PyProof.Rows
/-! ### a list of unlike numbers -/
inductive BT where
  | lf | nd (l : BT) (x : Nat) (r : BT)
def BT.ins (x : Nat) : BT → Option BT
  | .lf => some (.nd .lf x .lf)
  | .nd l y r => bif Nat.blt x y then (match l.ins x with
      | some l' => some (.nd l' y r)
      | none => none) else bif Nat.blt y x then (match r.ins x with
      | some r' => some (.nd l y r')
      | none => none) else none
/-! ### enumerate(tuple) -/
def prI (it : ItD) : ItD := ⟨it.n, fun j C => (it.item j C).map fun x => .tup [.int (j : Nat), x], it.fin⟩
def mEnum (m : ME) : MI := fun F C => bnd (m F C) fun d C1 => match itS d C1 with
  | some it => .ok (prI it) C1
  | none => .stuck
end CT
set_option maxHeartbeats 4000000
/-! DLG: what the head tells (defs by addresses, checks), the law's end for data. -/
namespace CT
open PySem L2 PySem.Spec PyProof.Rows
/-! ### defs, by where they stand -/
structure DefX where
  adr : PySem.W.Frag → Addr
  name : Str
  qual : Str
  params : Arguments
  body : List Stmt
  scope : Scope
  dfl : PySem.W.Frag → List V := fun _ => []
def fnX (K : PySem.W.Frag) (a : Addr) : He.FnW := match K.lookup a with
  | some ⟨_, _, .func fd, _⟩ => some (fd.name, fd.qualname, fd.params, fd.body, fd.scope, fd.globals, fd.closure, fd.builtins)
  | _ => none
def DefX.val (d : DefX) : He.FnW := some (d.name, d.qual, d.params, .stmts d.body, d.scope, mainGlobals, [], builtinsNs)
def DefX.ok (K : PySem.W.Frag) (d : DefX) : Bool := PySem.W.keepIn K (.ref (d.adr K)) && (match K.lookup (d.adr K) with
  | some ⟨_, _, .func fd, _⟩ => PySem.W.codeIn K fd.code d.qual && He.dflB K fd.defaults (d.dfl K)
  | _ => false)
/-! ### the head's look -/
abbrev AlX : Type := Bool × List He.FnW
def obX (fs : List (PySem.W.Frag → Bool)) (fn : List DefX) (K : PySem.W.Frag) : AlX := ((fs.all fun f => f K) && fn.all fun d => d.ok K, fn.map fun d => fnX K (d.adr K))
def vlX (fn : List DefX) : AlX := (true, fn.map DefX.val)
def SaysX (fs : List (PySem.W.Frag → Bool)) (fn : List DefX) (K : PySem.W.Frag) : Prop := obX fs fn K = vlX fn
/-! ### checks -/
section
variable {K : PySem.W.Frag}
/-- a property's object, its getter -/
def prA (K : PySem.W.Frag) (C : Addr) (f : Str) : Addr := He.ma K C f
def prG (K : PySem.W.Frag) (C : Addr) (f : Str) : Addr := match PySem.W.recIn K (prA K C f) "property" with
  | some (.ref g :: _) => g
  | _ => 0
def prB (x f : Str) (K : PySem.W.Frag) : Bool := He.eqO (PySem.W.findIn K (.ref (He.ga K x)) f) (some (some (.ref (prA K (He.ga K x) f)))) && (He.eqO (PySem.W.specialIn K (.ref (prA K (He.ga K x) f)) "__get__") (some (some (.builtin "property.__get__"))) &&
  (decide (PySem.W.takesIn K (.ref (prA K (He.ga K x) f)) = some true) && (match PySem.W.recIn K (prA K (He.ga K x) f) "property" with
    | some (.ref _ :: _) => true
    | _ => false)))
def allBt : List Bt := [.int, .bool, .str, .list, .tuple, .dict, .none]
def insB (C : Addr) (K : PySem.W.Frag) : Bool := PySem.W.plainGet K C Str.empty && (PySem.W.hasDictIn K C && (PySem.W.plainOver K C && (He.eqO (PySem.W.findIn K (.ref C) "__setattr__") (some (some (.builtin "object.__setattr__"))) &&
  (He.eqO (PySem.W.findIn K (.ref C) "__class__") (some (some (.builtin "object.__class__"))) && (He.eqO (PySem.W.specialIn K (.builtin "object.__class__") "__get__") (some (some (.builtin "getset_descriptor.__get__"))) &&
  (decide (PySem.W.takesIn K (.builtin "object.__class__") = some true) && (decide (PySem.W.mroIn K C (.type "object") = some true) && decide (PySem.W.kitOne K (.ref C) (.ref C) = some true))))))))
def isaB (cl : PySem.W.Frag → Nat → Addr) (kn : List Nat) (K : PySem.W.Frag) : Bool := (kn.all fun c => insB (cl K c) K) && ((kn.all fun c => kn.all fun c' => decide (PySem.W.kitOne K (.ref (cl K c)) (.ref (cl K c')) = some (decide (c = c')))) &&
  (kn.all fun c => allBt.all fun b => decide (PySem.W.kitOne K (.ref (cl K c)) (.type b.name) = some false) && decide (PySem.W.kitOne K (.type b.name) (.ref (cl K c)) = some false)))
/-- an empty tuple of the written part -/
def ktB (a : PySem.W.Frag → Addr) (K : PySem.W.Frag) : Bool := match K.lookup (a K) with
  | some ⟨.type c, _, .seq its _, _⟩ => decide (c = "tuple") && decide (its.size = 0)
  | _ => false
end
/-! ### the end -/
end CT
set_option maxHeartbeats 4000000
/-! DLH: a def that hands back a list of its own, to be changed by its caller. -/
namespace CT
open PySem L2 PySem.Spec PyProof.Rows
end CT
set_option maxHeartbeats 4000000
/-! DLI: comparisons as tests. -/
namespace CT
open PySem L2 PySem.Spec PyProof.Rows
/-! ### == and !=, scalars or data -/
def oEqA (neg : Bool) : O2 := fun x y C => match x, y with
  | .int a, .int b => some (.bl (if neg = true then !decide (a = b) else decide (a = b)), C)
  | .str a, .str b => some (.bl (if neg = true then !decide (a = b) else decide (a = b)), C)
  | x, y => oEqD neg x y C
end CT
set_option maxHeartbeats 4000000
/-! DLJ: operators that a class defines: ==, !=, +, in, []. -/
namespace CT
open PySem L2 PySem.Spec PyProof.Rows
end CT
set_option maxHeartbeats 4000000
/-! DLK: != by an own __eq__; x[i] by an own __getitem__. -/
namespace CT
open PySem L2 PySem.Spec PyProof.Rows
end CT
set_option maxHeartbeats 4000000
/-! DLL: own operators over data. -/
namespace CT
open PySem L2 PySem.Spec PyProof.Rows
/-! ### the terms -/
/-! ### readings -/
end CT
set_option maxHeartbeats 4000000
/-! DLM: what the head says of own operators. -/
namespace CT
open PySem L2 PySem.Spec PyProof.Rows
section
variable {K : PySem.W.Frag}
def dnB (x f : Str) (K : PySem.W.Frag) : Bool := He.eqO (PySem.W.findIn K (.ref (He.ga K x)) f) (some (some (.ref (He.ma K (He.ga K x) f)))) && (PySem.W.isFn K (.ref (He.ma K (He.ga K x) f)) && PySem.W.fnIn K (He.ma K (He.ga K x) f))
def eqB (x : Str) (K : PySem.W.Frag) : Bool := dnB x "__eq__" K && (He.eqO (PySem.W.findIn K (.ref (He.ga K x)) "__ne__") (some (some (.builtin "object.__ne__"))) && (decide (PySem.W.mroIn K (He.ga K x) (.type "object") = some true) &&
  ((allBt.all fun b => decide (PySem.W.subIn K (.type b.name) (.ref (He.ga K x)) = some false)) && insB (He.ga K x) K)))
def sfB (x : Str) (K : PySem.W.Frag) : Bool := PySem.W.selfFirst K (He.ga K x)
end
end CT
set_option maxHeartbeats 4000000
/-! DLN: t[::-1], xs[::-1], t[lo:hi]. -/
namespace CT
open PySem L2 PySem.Spec PyProof.Rows HT
def mRevT (m : ME) : ME := fun F C => bnd (m F C) fun x C1 => match vT x with
  | some xs => .ok (.tup xs.reverse) C1
  | none => .stuck
/-- t[lo:hi], the whole tuple too -/
def mSlA (a : ME) (l h : Fr → Store → R (Option Int)) : ME := fun F C => bnd (a F C) fun x C1 => bnd (l F C1) fun lo C2 => bnd (h F C2) fun hi C3 => match vT x with
  | some xs => if HT.sIx xs.length 0 lo = 0 ∧ HT.sIx xs.length xs.length hi = xs.length then .ok x C3 else .ok (.tup (cutD xs lo hi)) C3
  | none => .stuck
end CT
set_option maxHeartbeats 4000000
/-! DLO: errors of the program's own: made and raised. -/
namespace CT
open PySem L2 PySem.Spec PyProof.Rows
/-! ### what the head says of an error class -/
def oexB (x : Str) (K : PySem.W.Frag) : Bool := (match K.lookup (He.ga K x) with
    | some ⟨.type t, _, .cls cd, sl⟩ => decide (t = "type") && (cd.hasDict && (!cd.hasDel && (match cd.mro, sl.toList with
      | .ref C' :: bm, [_, _, _, _, some (.builtin n), _] => decide (C' = He.ga K x) && (decide (n = "ValueError.__new__") && PySem.HandSPX.refsVE bm)
      | _, _ => false)))
    | _ => false) && (He.eqO (PySem.W.findIn K (.ref (He.ga K x)) "__setattr__") (some (some (.builtin "object.__setattr__"))) && (decide (PySem.W.subIn K (.ref (He.ga K x)) (.type "BaseException") = some true) &&
      (decide (PySem.W.typeIn K (.ref (He.ga K x)) = some (.type "type")) && PySem.W.keepIn K (.ref (He.ga K x)))))
def xiB (x : Str) (K : PySem.W.Frag) : Bool := oexB x K && (He.eqO (PySem.W.findIn K (.ref (He.ga K x)) "__init__") (some (some (.ref (He.ma K (He.ga K x) "__init__")))) && decide (PySem.W.typeIn K (.ref (He.ma K (He.ga K x) "__init__")) = some (.type "function")))
/-! ### __init__: one field, two fields -/
/-! ### raise C(e, ..) -/
def sRaise (c n : Nat) (ma : MA) : MS := fun F C => bndS F.sl (ma F C) fun ds C1 => if ds.length = n then .xc ⟨c, ds.reverse⟩ F.sl C1 else .stuck
end CT
set_option maxHeartbeats 4000000
/-! DLP: try: .. except C as n: .. return; the error is held as data. -/
namespace CT
open PySem L2 PySem.Spec PyProof.Rows
mutual
/-- no held error within -/
def nx : D → Bool
  | .lst xs => nxL xs
  | .tup xs => nxL xs
  | .scr xs => nxL xs
  | .kt xs => nxL xs
  | .obj _ fs => nxL fs
  | .dT _ vs => nxL vs
  | .exn _ _ => false
  | .cls _ => true
  | .cell _ => true | .non => true | .bl _ => true | .int _ => true | .str _ => true
def nxL : List D → Bool
  | [] => true
  | d :: ds => nx d && nxL ds
end
/-- k, with the error at a held -/
def Cn.hold (k : Cn) (a : Addr) (c : Nat) (dd : Addr) : Cn := { k with ex := some (a, c, dd) }
section
variable {k : Cn} {A A' : Nat → Addr} {C C' : Store} {H H' : Hp} {a dd : Addr} {c : Nat} {fl : Nat}
mutual
theorem Rep.nx (hk : k.ex = none) : ∀ {v : V} {d : D}, Rep k A C H v d → CT.nx d = true
  | _, _, .non => rfl
  | _, _, .bl b => rfl
  | _, _, .int i => rfl
  | _, _, .str s => rfl
  | _, _, .lst l h r => by simpa [CT.nx] using r.nx hk
  | _, _, .tup l h r => by simpa [CT.nx] using r.nx hk
  | _, _, .ktup h r => by simpa [CT.nx] using r.nx hk
  | _, _, .scr l h r => by simpa [CT.nx] using r.nx hk
  | _, _, .kscr h r => by simpa [CT.nx] using r.nx hk
  | _, _, .obj l h z r => by simpa [CT.nx] using r.nx hk
  | _, _, .dT l h r => by simpa [CT.nx] using r.nx hk
  | _, _, .cell hi => rfl
  | _, _, .cls c => rfl
  | _, _, .exn x l h z r => by rw [hk] at x; cases x
theorem RepL.nx (hk : k.ex = none) : ∀ {vs : List V} {ds : List D}, RepL k A C H vs ds → CT.nxL ds = true
  | _, _, .nil => rfl
  | _, _, .cons r t => by simp [CT.nxL, r.nx hk, t.nx hk]
end
mutual
theorem Rep.up (hk : k.ex = none) : ∀ {v : V} {d : D}, Rep k A C H v d → Rep (k.hold a c dd) A C H v d
  | _, _, .non => .non
  | _, _, .bl b => .bl b
  | _, _, .int i => .int i
  | _, _, .str s => .str s
  | _, _, .lst l h r => .lst l h (r.up hk)
  | _, _, .tup l h r => .tup l h (r.up hk)
  | _, _, .ktup h r => .ktup h (r.up hk)
  | _, _, .scr l h r => .scr l h (r.up hk)
  | _, _, .kscr h r => .kscr h (r.up hk)
  | _, _, .obj l h z r => .obj l h z (r.up hk)
  | _, _, .dT l h r => .dT l h (r.up hk)
  | _, _, .cell hi => .cell hi
  | _, _, .cls c => .cls c
  | _, _, .exn x l h z r => by rw [hk] at x; cases x
theorem RepL.up (hk : k.ex = none) : ∀ {vs : List V} {ds : List D}, RepL k A C H vs ds → RepL (k.hold a c dd) A C H vs ds
  | _, _, .nil => .nil
  | _, _, .cons r t => .cons (r.up hk) (t.up hk)
end
theorem StOk.up (hk : k.ex = none) (st : StOk k A C H) : StOk (k.hold a c dd) A C H := by
  refine ⟨fun i x e => ?_, st.inj⟩
  have q := st.at_ i x e
  cases x with
  | lst ds => obtain ⟨vs, h1, r⟩ := q; exact ⟨vs, h1, r.up hk⟩
  | dT ks ds => obtain ⟨vs, h1, h2, r⟩ := q; exact ⟨vs, h1, h2, r.up hk⟩
  | ins c' ds => obtain ⟨dx, vs, h1, h2, r⟩ := q; exact ⟨dx, vs, h1, h2, r.up hk⟩
end
end CT
set_option maxHeartbeats 4000000
/-! DLQ: isinstance of the held error. -/
namespace CT
open PySem L2 PySem.Spec PyProof.Rows PySem.W
section
variable {X : Cx} {k : Cn} {W : WX} {σ : L2.St} {H : Hp} {Q : VK}
def excA (C : Addr) (K : Frag) : Bool := He.eqO (findIn K (.ref C) "__getattribute__") (some (some (.builtin "BaseException.__getattribute__"))) && (He.eqO (findIn K (.ref C) "__getattr__") (some none) && (decide (subIn K (.ref C) (.type "BaseException") = some true) && (hasDictIn K C &&
  (He.eqO (findIn K (.ref C) "__class__") (some (some (.builtin "object.__class__"))) && (He.eqO (specialIn K (.builtin "object.__class__") "__get__") (some (some (.builtin "getset_descriptor.__get__"))) && (decide (takesIn K (.builtin "object.__class__") = some true) && decide (mroIn K C (.type "object") = some true)))))))
def xsB (cl : Frag → Nat → Addr) (kn : List Nat) (K : Frag) : Bool := (kn.all fun c => excA (cl K c) K) && kn.all fun c => kn.all fun c' => decide (kitOne K (.ref (cl K c)) (.ref (cl K c')) = some (decide (c = c')))
/-- what an except clause says of the classes -/
def exmB (cl : Frag → Nat → Addr) (x : Str) (cs ds : List Nat) (K : Frag) : Bool := (cs.all fun c => decide (exmOne K (.ref (cl K c)) (.ref (He.ga K x)) = some true)) && ds.all fun c => decide (exmOne K (.ref (cl K c)) (.ref (He.ga K x)) = some false)
end
end CT
set_option maxHeartbeats 4000000
/-! DLR: web * k. -/
namespace CT
open PySem L2 PySem.Spec PyProof.Rows PySem.W
/-! ### over data -/
end CT
set_option maxHeartbeats 4000000
/-! DLS: is None; sorted(set(xs)) of ints, len(set(xs)) of tuples of ints. -/
namespace CT
open PySem L2 PySem.Spec PyProof.Rows
/-! ### is None, is not None -/
/-! ### set(xs), xs a list of ints -/
end CT
set_option maxHeartbeats 4000000
/-! E1: how the terms of the layer are worked out. -/
namespace CT
open PySem L2
/-! ### named steps; simp looks at what is done first alone -/
def getV (o : Option (Option D)) (C : Store) : R D := match o with
  | some (some d) => .ok d C
  | _ => .stuck
@[simp] theorem getV_some (d : D) (C : Store) : getV (some (some d)) C = .ok d C := rfl
def thenS (r : RS) (f : List (Option D) → Store → RS) : RS := match r with
  | .nx sl C => f sl C
  | r => r
@[simp] theorem thenS_nx (sl : List (Option D)) (C : Store) (f : List (Option D) → Store → RS) : thenS (.nx sl C) f = f sl C := rfl
@[simp] theorem thenS_rt (d : D) (C : Store) (f : List (Option D) → Store → RS) : thenS (.rt d C) f = .rt d C := rfl
@[simp] theorem thenS_bk (sl : List (Option D)) (C : Store) (f : List (Option D) → Store → RS) : thenS (.bk sl C) f = .bk sl C := rfl
@[simp] theorem thenS_ct (sl : List (Option D)) (C : Store) (f : List (Option D) → Store → RS) : thenS (.ct sl C) f = .ct sl C := rfl
def asB (d : D) (C : Store) : R Bool := match d with
  | .bl b => .ok b C
  | _ => .stuck
@[simp] theorem asB_bl (b : Bool) (C : Store) : asB (.bl b) C = .ok b C := rfl
def asgS (o : Option (List (Option D))) (C : Store) : RS := match o with
  | some sl => .nx sl C
  | none => .stuck
@[simp] theorem asgS_some (sl : List (Option D)) (C : Store) : asgS (some sl) C = .nx sl C := rfl
def finS (n : Nat) (r : RS) : R D := match r with
  | .nx _ C' => fin n .non C'
  | .rt d C' => fin n d C'
  | .xc e _ C' => if cbL n e.fs = true then .exc e (C'.take n) else .stuck
  | _ => .stuck
@[simp] theorem finS_nx (n : Nat) (sl : List (Option D)) (C : Store) : finS n (.nx sl C) = fin n .non C := rfl
@[simp] theorem finS_rt (n : Nat) (d : D) (C : Store) : finS n (.rt d C) = fin n d C := rfl
@[simp] theorem fin_int (n : Nat) (i : Int) (C : Store) : fin n (.int i) C = .ok (.int i) (C.take n) := rfl
@[simp] theorem fin_bl (n : Nat) (i : Bool) (C : Store) : fin n (.bl i) C = .ok (.bl i) (C.take n) := rfl
@[simp] theorem fin_non (n : Nat) (C : Store) : fin n .non C = .ok .non (C.take n) := rfl
@[simp] theorem fin_str (n : Nat) (i : Str) (C : Store) : fin n (.str i) C = .ok (.str i) (C.take n) := rfl
section
variable (fl : Nat) (sl : List (Option D)) (C : Store) (F : Fr)
@[simp] theorem ev_var (i : Nat) : mVar i ⟨fl, sl⟩ C = getV sl[i]? C := rfl
@[simp] theorem ev_c (d : D) : mC d F C = .ok d C := rfl
@[simp] theorem ev_nil : mNil F C = .ok [] C := rfl
@[simp] theorem ev_next : sNext F C = .nx F.sl C := rfl
@[simp] theorem ev_yes : tYesM F C = .ok true C := rfl
@[simp] theorem ev_retN : sRetN F C = .rt .non C := rfl
@[simp] theorem ev_gN (i : Nat) (d : D) : gN i d sl = some (sl.set i (some d)) := rfl
@[simp] theorem ev_ofO_some (d : D) : ofO (some (d, C)) = .ok d C := rfl
@[simp] theorem ev_ofO_none : ofO none = .stuck := rfl
@[simp] theorem ev_add (a b : Int) : oAdd (.int a) (.int b) C = some (.int (a + b), C) := rfl
@[simp] theorem ev_sub (a b : Int) : oSub (.int a) (.int b) C = some (.int (a - b), C) := rfl
@[simp] theorem ev_lt (a b : Int) : oLt (.int a) (.int b) C = some (.bl (decide (a < b)), C) := rfl
@[simp] theorem ev_le (a b : Int) : oLe (.int a) (.int b) C = some (.bl (decide (a ≤ b)), C) := rfl
@[simp] theorem ev_gt (a b : Int) : oGt (.int a) (.int b) C = some (.bl (decide (b < a)), C) := rfl
@[simp] theorem ev_ge (a b : Int) : oGe (.int a) (.int b) C = some (.bl (decide (b ≤ a)), C) := rfl
@[simp] theorem ev_neg (a : Int) : oNeg (.int a) C = some (.int (-a), C) := rfl
@[simp] theorem ev_min (a b : Int) : oMin2 [.int a, .int b] C = some (.int (min a b), C) := by
  show some (D.int (if b < a then b else a), C) = _
  congr 3
  by_cases h : b < a
  · rw [if_pos h]; omega
  · rw [if_neg h]; omega
@[simp] theorem ev_max (a b : Int) : oMax2 [.int a, .int b] C = some (.int (max a b), C) := by
  show some (D.int (if b > a then b else a), C) = _
  congr 3
  by_cases h : b > a
  · rw [if_pos h]; omega
  · rw [if_neg h]; omega
@[simp] theorem ev_int (a : Int) : oInt [.int a] C = some (.int a, C) := rfl
@[simp] theorem ev_abs (a : Int) : oAbs [.int a] C = some (.int (a.natAbs : Int), C) := by
  show some (D.int (if a < 0 then -a else a), C) = _
  congr 3
  by_cases h : a < 0
  · rw [if_pos h]; omega
  · rw [if_neg h]; omega
@[simp] theorem ev_eq (a b : Int) : oEqA false (.int a) (.int b) C = some (.bl (decide (a = b)), C) := rfl
@[simp] theorem ev_ne (a b : Int) : oEqA true (.int a) (.int b) C = some (.bl (!decide (a = b)), C) := rfl
@[simp] theorem ev_eqS (a b : Str) : oEqA false (.str a) (.str b) C = some (.bl (decide (a = b)), C) := rfl
@[simp] theorem ev_neS (a b : Str) : oEqA true (.str a) (.str b) C = some (.bl (!decide (a = b)), C) := rfl
end
/-! ### what is done next, as constants -/
section
variable {α β : Type}
def opK2 (o : O2) (x : D) (m : R D) : R D := bnd m fun y C2 => ofO (o x y C2)
@[simp] theorem opK2_ok (o : O2) (x y : D) (C : Store) : opK2 o x (.ok y C) = ofO (o x y C) := rfl
def opK (o : O2) (b : ME) (F : Fr) (m : R D) : R D := bnd m fun x C1 => opK2 o x (b F C1)
@[simp] theorem opK_ok (o : O2) (b : ME) (F : Fr) (x : D) (C : Store) : opK o b F (.ok x C) = opK2 o x (b F C) := rfl
@[simp] theorem ev_op (o : O2) (a b : ME) (F : Fr) (C : Store) : mOp o a b F C = opK o b F (a F C) := rfl
def unK (o : O1) (m : R D) : R D := bnd m fun x C1 => ofO (o x C1)
@[simp] theorem unK_ok (o : O1) (x : D) (C : Store) : unK o (.ok x C) = ofO (o x C) := rfl
@[simp] theorem ev_un (o : O1) (a : ME) (F : Fr) (C : Store) : mUn o a F C = unK o (a F C) := rfl
def consK2 (x : D) (m : R (List D)) : R (List D) := bnd m fun xs C2 => .ok (x :: xs) C2
@[simp] theorem consK2_ok (x : D) (xs : List D) (C : Store) : consK2 x (.ok xs C) = .ok (x :: xs) C := rfl
def consK (r : MA) (F : Fr) (m : R D) : R (List D) := bnd m fun x C1 => consK2 x (r F C1)
@[simp] theorem consK_ok (r : MA) (F : Fr) (x : D) (C : Store) : consK r F (.ok x C) = consK2 x (r F C) := rfl
@[simp] theorem ev_cons (a : ME) (r : MA) (F : Fr) (C : Store) : mCons a r F C = consK r F (a F C) := rfl
def apK (o : OA) (m : R (List D)) : R D := bnd m fun xs C1 => ofO (o xs C1)
@[simp] theorem apK_ok (o : OA) (xs : List D) (C : Store) : apK o (.ok xs C) = ofO (o xs C) := rfl
@[simp] theorem ev_ap (o : OA) (a : MA) (F : Fr) (C : Store) : mAp o a F C = apK o (a F C) := rfl
def tstK (m : R D) : R Bool := bnd m asB
@[simp] theorem tstK_ok (b : Bool) (C : Store) : tstK (.ok (.bl b) C) = .ok b C := rfl
@[simp] theorem ev_tst (a : ME) (F : Fr) (C : Store) : mTst a F C = tstK (a F C) := rfl
def tandK (b : MT) (F : Fr) (m : R Bool) : R Bool := bnd m fun x C1 => if x = true then b F C1 else .ok false C1
@[simp] theorem tandK_t (b : MT) (F : Fr) (C : Store) : tandK b F (.ok true C) = b F C := rfl
@[simp] theorem tandK_f (b : MT) (F : Fr) (C : Store) : tandK b F (.ok false C) = .ok false C := rfl
@[simp] theorem ev_tand (a b : MT) (F : Fr) (C : Store) : tAndM a b F C = tandK b F (a F C) := rfl
def torK (b : MT) (F : Fr) (m : R Bool) : R Bool := bnd m fun x C1 => if x = true then .ok true C1 else b F C1
@[simp] theorem torK_t (b : MT) (F : Fr) (C : Store) : torK b F (.ok true C) = .ok true C := rfl
@[simp] theorem torK_f (b : MT) (F : Fr) (C : Store) : torK b F (.ok false C) = b F C := rfl
@[simp] theorem ev_tor (a b : MT) (F : Fr) (C : Store) : tOrM a b F C = torK b F (a F C) := rfl
def tnotK (m : R Bool) : R Bool := bnd m fun x C1 => .ok (!x) C1
@[simp] theorem tnotK_ok (x : Bool) (C : Store) : tnotK (.ok x C) = .ok (!x) C := rfl
@[simp] theorem ev_tnot (a : MT) (F : Fr) (C : Store) : tNotM a F C = tnotK (a F C) := rfl
def ifK (a b : ME) (F : Fr) (m : R Bool) : R D := bnd m fun x C1 => if x = true then a F C1 else b F C1
@[simp] theorem ifK_t (a b : ME) (F : Fr) (C : Store) : ifK a b F (.ok true C) = a F C := rfl
@[simp] theorem ifK_f (a b : ME) (F : Fr) (C : Store) : ifK a b F (.ok false C) = b F C := rfl
@[simp] theorem ev_if (t : MT) (a b : ME) (F : Fr) (C : Store) : mIf t a b F C = ifK a b F (t F C) := rfl
def andK (b : ME) (F : Fr) (m : R D) : R D := bnd m fun x C1 => match x with
  | .bl true => b F C1
  | .bl false => .ok (.bl false) C1
  | _ => .stuck
@[simp] theorem andK_t (b : ME) (F : Fr) (C : Store) : andK b F (.ok (.bl true) C) = b F C := rfl
@[simp] theorem andK_f (b : ME) (F : Fr) (C : Store) : andK b F (.ok (.bl false) C) = .ok (.bl false) C := rfl
@[simp] theorem ev_and (a b : ME) (F : Fr) (C : Store) : mAnd a b F C = andK b F (a F C) := rfl
def orK (b : ME) (F : Fr) (m : R D) : R D := bnd m fun x C1 => match x with
  | .bl true => .ok (.bl true) C1
  | .bl false => b F C1
  | _ => .stuck
@[simp] theorem orK_t (b : ME) (F : Fr) (C : Store) : orK b F (.ok (.bl true) C) = .ok (.bl true) C := rfl
@[simp] theorem orK_f (b : ME) (F : Fr) (C : Store) : orK b F (.ok (.bl false) C) = b F C := rfl
@[simp] theorem ev_or (a b : ME) (F : Fr) (C : Store) : mOr a b F C = orK b F (a F C) := rfl
def notK (m : R D) : R D := bnd m fun x C1 => match x with
  | .bl b => .ok (.bl (!b)) C1
  | _ => .stuck
@[simp] theorem notK_ok (b : Bool) (C : Store) : notK (.ok (.bl b) C) = .ok (.bl (!b)) C := rfl
@[simp] theorem ev_not (a : ME) (F : Fr) (C : Store) : mNot a F C = notK (a F C) := rfl
def chK4 (o' : O2) (y : D) (m : R D) : R D := bnd m fun w C4 => ofO (o' y w C4)
@[simp] theorem chK4_ok (o' : O2) (y w : D) (C : Store) : chK4 o' y (.ok w C) = ofO (o' y w C) := rfl
def chK3 (o' : O2) (c : ME) (F : Fr) (y : D) (m : R D) : R D := bnd m fun z C3 => match z with
  | .bl true => chK4 o' y (c F C3)
  | .bl false => .ok (.bl false) C3
  | _ => .stuck
@[simp] theorem chK3_t (o' : O2) (c : ME) (F : Fr) (y : D) (C : Store) : chK3 o' c F y (.ok (.bl true) C) = chK4 o' y (c F C) := rfl
@[simp] theorem chK3_f (o' : O2) (c : ME) (F : Fr) (y : D) (C : Store) : chK3 o' c F y (.ok (.bl false) C) = .ok (.bl false) C := rfl
def chK2 (o o' : O2) (c : ME) (F : Fr) (x : D) (m : R D) : R D := bnd m fun y C2 => chK3 o' c F y (ofO (o x y C2))
@[simp] theorem chK2_ok (o o' : O2) (c : ME) (F : Fr) (x y : D) (C : Store) : chK2 o o' c F x (.ok y C) = chK3 o' c F y (ofO (o x y C)) := rfl
def chK (o o' : O2) (b c : ME) (F : Fr) (m : R D) : R D := bnd m fun x C1 => chK2 o o' c F x (b F C1)
@[simp] theorem chK_ok (o o' : O2) (b c : ME) (F : Fr) (x : D) (C : Store) : chK o o' b c F (.ok x C) = chK2 o o' c F x (b F C) := rfl
@[simp] theorem ev_chain (o o' : O2) (a b c : ME) (F : Fr) (C : Store) : mChain o o' a b c F C = chK o o' b c F (a F C) := rfl
def seqK (b : MS) (fl : Nat) (r : RS) : RS := match r with
  | .nx sl C1 => b ⟨fl, sl⟩ C1
  | r => r
@[simp] theorem seqK_nx (b : MS) (fl : Nat) (sl : List (Option D)) (C : Store) : seqK b fl (.nx sl C) = b ⟨fl, sl⟩ C := rfl
@[simp] theorem seqK_rt (b : MS) (fl : Nat) (d : D) (C : Store) : seqK b fl (.rt d C) = .rt d C := rfl
@[simp] theorem ev_seq (a b : MS) (F : Fr) (C : Store) : sSeq a b F C = seqK b F.fl (a F C) := by
  unfold sSeq seqK
  cases a F C <;> rfl
def dropK (sl : List (Option D)) (m : R D) : RS := bndS sl m fun _ C1 => .nx sl C1
@[simp] theorem dropK_ok (sl : List (Option D)) (d : D) (C : Store) : dropK sl (.ok d C) = .nx sl C := rfl
@[simp] theorem ev_sdrop (m : ME) (F : Fr) (C : Store) : sDrop m F C = dropK F.sl (m F C) := rfl
def retK (sl : List (Option D)) (m : R D) : RS := bndS sl m fun d C1 => .rt d C1
@[simp] theorem retK_ok (sl : List (Option D)) (d : D) (C : Store) : retK sl (.ok d C) = .rt d C := rfl
@[simp] theorem ev_sret (m : ME) (F : Fr) (C : Store) : sRet m F C = retK F.sl (m F C) := rfl
def sifK (a b : MS) (F : Fr) (m : R Bool) : RS := bndS F.sl m fun x C1 => if x = true then a F C1 else b F C1
@[simp] theorem sifK_t (a b : MS) (F : Fr) (C : Store) : sifK a b F (.ok true C) = a F C := rfl
@[simp] theorem sifK_f (a b : MS) (F : Fr) (C : Store) : sifK a b F (.ok false C) = b F C := rfl
@[simp] theorem ev_sif (t : MT) (a b : MS) (F : Fr) (C : Store) : sIf t a b F C = sifK a b F (t F C) := rfl
def asgK (g : MG) (sl : List (Option D)) (m : R D) : RS := bndS sl m fun d C1 => asgS (g d sl) C1
@[simp] theorem asgK_ok (g : MG) (sl : List (Option D)) (d : D) (C : Store) : asgK g sl (.ok d C) = asgS (g d sl) C := rfl
@[simp] theorem ev_asg (m : ME) (g : MG) (F : Fr) (C : Store) : sAsg m g F C = asgK g F.sl (m F C) := rfl
def parK (is : List Nat) (sl : List (Option D)) (m : R (List D)) : RS := bndS sl m fun ds C1 => asgS (setAll is ds sl) C1
@[simp] theorem parK_ok (is : List Nat) (sl : List (Option D)) (ds : List D) (C : Store) : parK is sl (.ok ds C) = asgS (setAll is ds sl) C := rfl
@[simp] theorem ev_par (is : List Nat) (m : MA) (F : Fr) (C : Store) : sPar is m F C = parK is F.sl (m F C) := rfl
@[simp] theorem setAll_nil (sl : List (Option D)) : setAll [] [] sl = some sl := rfl
@[simp] theorem setAll_cons (i : Nat) (is : List Nat) (d : D) (ds : List D) (sl : List (Option D)) : setAll (i :: is) (d :: ds) sl = setAll is ds (sl.set i (some d)) := rfl
@[simp] theorem ev_gT (is : List Nat) (ds : List D) (sl : List (Option D)) : gT is (.tup ds) sl = setAll is ds sl := rfl
def callK (m : MF) (dds : List D) (r : R (List D)) : R D := bnd r fun ds C1 => m (ds ++ dds) C1
@[simp] theorem callK_ok (m : MF) (dds ds : List D) (C : Store) : callK m dds (.ok ds C) = m (ds ++ dds) C := rfl
@[simp] theorem ev_call (m : MF) (dds : List D) (a : MA) (F : Fr) (C : Store) : mCall m dds a F C = callK m dds (a F C) := rfl
def forK (g : MG) (body : MS) (F : Fr) (m : R ItD) : RS := bndS F.sl m fun it C1 => loopN it g body F.fl it.n 0 F.sl C1
@[simp] theorem forK_ok (g : MG) (body : MS) (F : Fr) (it : ItD) (C : Store) : forK g body F (.ok it C) = loopN it g body F.fl it.n 0 F.sl C := rfl
@[simp] theorem ev_for (mi : MI) (g : MG) (body : MS) (F : Fr) (C : Store) : sFor mi g body F C = forK g body F (mi F C) := rfl
/-! #### methods, properties, dicts -/
def mthK2 (m : MF) (dds : List D) (x : D) (r : R (List D)) : R D := bnd r fun ds C2 => m (x :: (ds ++ dds)) C2
@[simp] theorem mthK2_ok (m : MF) (dds ds : List D) (x : D) (C : Store) : mthK2 m dds x (.ok ds C) = m (x :: (ds ++ dds)) C := rfl
def mthK (c : Nat) (m : MF) (dds : List D) (a : MA) (F : Fr) (r : R D) : R D := bnd r fun x C1 => match vO x C1 with
  | some (c', _) => if c' = c then mthK2 m dds x (a F C1) else .stuck
  | none => .stuck
@[simp] theorem mthK_ok (c : Nat) (m : MF) (dds : List D) (a : MA) (F : Fr) (fs : List D) (C : Store) : mthK c m dds a F (.ok (.obj c fs) C) = mthK2 m dds (.obj c fs) (a F C) := by
  show (if c = c then mthK2 m dds (.obj c fs) (a F C) else .stuck) = _
  rw [if_pos rfl]
@[simp] theorem ev_meth (c : Nat) (m : MF) (dds : List D) (mo : ME) (a : MA) (F : Fr) (C : Store) : mMeth c m dds mo a F C = mthK c m dds a F (mo F C) := rfl
def prpK (c : Nat) (m : MF) (r : R D) : R D := bnd r fun x C1 => match vO x C1 with
  | some (c', _) => if c' = c then (match m [x] C1 with
    | .ok d C2 => .ok d C2
    | _ => .stuck) else .stuck
  | none => .stuck
@[simp] theorem ev_prop (c : Nat) (m : MF) (mo : ME) (F : Fr) (C : Store) : mProp c m mo F C = prpK c m (mo F C) := rfl
@[simp] theorem ev_fld (c n : Nat) (fs : List D) (C : Store) : oFld c n (.obj c fs) C = (fs[n]?).map fun d => (d, C) := by
  unfold oFld
  simp [vO]
def getK3 (x y : D) (m : R D) : R D := bnd m fun z C3 => ofO (oDGet x y z C3)
@[simp] theorem getK3_ok (x y z : D) (C : Store) : getK3 x y (.ok z C) = ofO (oDGet x y z C) := rfl
def getK2 (c : ME) (F : Fr) (x : D) (m : R D) : R D := bnd m fun y C2 => getK3 x y (c F C2)
@[simp] theorem getK2_ok (c : ME) (F : Fr) (x y : D) (C : Store) : getK2 c F x (.ok y C) = getK3 x y (c F C) := rfl
def getK (b c : ME) (F : Fr) (m : R D) : R D := bnd m fun x C1 => if (vD x C1).isSome = true then getK2 c F x (b F C1) else .stuck
@[simp] theorem ev_dget (a b c : ME) (F : Fr) (C : Store) : mDGet a b c F C = getK b c F (a F C) := rfl
def isiK (kn : List Nat) (t : Cc) (m : R D) : R D := bnd m fun d C1 => match isi kn d C1 t with
  | some b => .ok (.bl b) C1
  | none => .stuck
@[simp] theorem ev_isi (kn : List Nat) (t : Cc) (m : ME) (F : Fr) (C : Store) : mIsi kn t m F C = isiK kn t (m F C) := rfl
@[simp] theorem isiK_ok (kn : List Nat) (t : Cc) (d : D) (C : Store) : isiK kn t (.ok d C) = ofO ((isi kn d C t).map fun b => (.bl b, C)) := by
  show (match isi kn d C t with
    | some b => R.ok (D.bl b) C
    | none => R.stuck) = _
  cases isi kn d C t <;> rfl
/-! #### lists written -/
def stK4 (F : Fr) (v o : D) (x : D) (C3 : Store) : RS := match x, cL o C3 with
  | .int n, some (i, ds) => match ixN ds.length n with
    | some j => match wr F.fl i (.lst (ds.set j v)) C3 with
      | some C4 => .nx F.sl C4
      | none => .stuck
    | none => .stuck
  | _, _ => .stuck
def stK3 (F : Fr) (v o : D) (m : R D) : RS := bndS F.sl m fun x C3 => stK4 F v o x C3
@[simp] theorem stK3_ok (F : Fr) (v o x : D) (C : Store) : stK3 F v o (.ok x C) = stK4 F v o x C := rfl
def stK2 (mi : ME) (F : Fr) (v : D) (m : R D) : RS := bndS F.sl m fun o C2 => stK3 F v o (mi F C2)
@[simp] theorem stK2_ok (mi : ME) (F : Fr) (v o : D) (C : Store) : stK2 mi F v (.ok o C) = stK3 F v o (mi F C) := rfl
def stK (mo mi : ME) (F : Fr) (m : R D) : RS := bndS F.sl m fun v C1 => stK2 mi F v (mo F C1)
@[simp] theorem stK_ok (mo mi : ME) (F : Fr) (v : D) (C : Store) : stK mo mi F (.ok v C) = stK2 mi F v (mo F C) := rfl
@[simp] theorem ev_setL (me mo mi : ME) (F : Fr) (C : Store) : sSetL me mo mi F C = stK mo mi F (me F C) := rfl
def auK4 (o : Int → Int → Int) (F : Fr) (l : D) (n a : Int) (v : D) (C3 : Store) : RS := match v, cL l C3 with
  | .int b, some (i, es) => (match ixN es.length n with
    | some j => (match wr F.fl i (.lst (es.set j (.int (o a b)))) C3 with
      | some C4 => .nx F.sl C4
      | none => .stuck)
    | none => .stuck)
  | _, _ => .stuck
def auK3 (o : Int → Int → Int) (F : Fr) (l : D) (n a : Int) (m : R D) : RS := bndS F.sl m fun v C3 => auK4 o F l n a v C3
@[simp] theorem auK3_ok (o : Int → Int → Int) (F : Fr) (l : D) (n a : Int) (v : D) (C : Store) : auK3 o F l n a (.ok v C) = auK4 o F l n a v C := rfl
def auK2 (o : Int → Int → Int) (me : ME) (F : Fr) (l : D) (x : D) (C2 : Store) : RS := match x, cL l C2 with
  | .int n, some (_, ds) => if 0 ≤ n then (match ds[n.toNat]? with
    | some (.int a) => auK3 o F l n a (me F C2)
    | _ => .stuck) else .stuck
  | _, _ => .stuck
def auK1 (o : Int → Int → Int) (me : ME) (F : Fr) (l : D) (m : R D) : RS := bndS F.sl m fun x C2 => auK2 o me F l x C2
@[simp] theorem auK1_ok (o : Int → Int → Int) (me : ME) (F : Fr) (l x : D) (C : Store) : auK1 o me F l (.ok x C) = auK2 o me F l x C := rfl
def auK (o : Int → Int → Int) (mi me : ME) (F : Fr) (m : R D) : RS := bndS F.sl m fun l C1 => auK1 o me F l (mi F C1)
@[simp] theorem auK_ok (o : Int → Int → Int) (mi me : ME) (F : Fr) (l : D) (C : Store) : auK o mi me F (.ok l C) = auK1 o me F l (mi F C) := rfl
@[simp] theorem ev_augL (o : Int → Int → Int) (mo mi me : ME) (F : Fr) (C : Store) : sAugL o mo mi me F C = auK o mi me F (mo F C) := rfl
@[simp] theorem cbL_ints (n : Nat) : ∀ cs : List Int, cbL n (cs.map D.int) = true
  | [] => rfl
  | c :: cs => by
    show (cb n (.int c) && cbL n (cs.map D.int)) = true
    rw [cbL_ints n cs]
    rfl
end
end CT
set_option maxHeartbeats 4000000
/-! DLT: sorted(set(xs)) of ints, len(set(xs)) of tuples of ints. -/
namespace CT
open PySem L2 PySem.Spec PyProof.Rows
/-! ### unlike members, ascending -/
def insI (x : Int) : List Int → List Int
  | [] => [x]
  | y :: r => if x < y then x :: y :: r else if x = y then y :: r else y :: insI x r
def srtI (ns : List Int) : List Int := ns.foldr insI []
theorem insI_mem {x z : Int} : ∀ {l : List Int}, z ∈ insI x l ↔ z = x ∨ z ∈ l
  | [] => by simp [insI]
  | y :: r => by
    unfold insI
    split
    · simp
    · split
      · rename_i h; subst h; simp
      · simp only [List.mem_cons, insI_mem (l := r)]
        constructor
        · rintro (h | h | h) <;> simp [h]
        · rintro (h | h | h) <;> simp [h]
theorem srtI_mem {z : Int} : ∀ {l : List Int}, z ∈ srtI l ↔ z ∈ l
  | [] => by simp [srtI]
  | y :: r => by
    show z ∈ insI y (srtI r) ↔ _
    rw [insI_mem, srtI_mem (l := r), List.mem_cons]
/-! ### unlike rows -/
/-! ### the calls -/
/-! ### over data -/
end CT
set_option maxHeartbeats 4000000
/-! DLU: repr of an empty dict. -/
namespace CT
open PySem L2 PySem.Spec PyProof.Rows
end CT
set_option maxHeartbeats 4000000
/-! DLV: l.count(x) over data. -/
namespace CT
open PySem L2 PySem.Spec PyProof.Rows
end CT
set_option maxHeartbeats 4000000
/-! DLW: a class whose __init__ takes *numbers and a keyword. -/
namespace CT
open PySem L2 PySem.Spec PyProof.Rows
abbrev tupO (its : List Value) : Obj := { cls := .type "tuple", data := .seq its.toArray }
abbrev pushT (s : Shared) (its : List Value) : Shared := { s with heap := s.heap.push (tupO its) }
/-- binding makes a tuple of the rest -/
def BindsW (s : Shared) (fd : FuncData) (args : Args) (binds : List (Str × Value)) (its : List Value) : Prop :=
  ∀ (M : Model) (A : Around) (E : Value → Shared → Prop) (Q : List (Str × Value) → Shared → Prop), Q binds (pushT s its) → wpAny M A (bindArgs fd args) Q E s
structure FnW (P : Program) (w : World) (K : PySem.W.Frag) (mg : Str → Option Value) (base : Heap) (lev : Nat) (f : Addr) (fd : FuncData) (ps : List Str) (sp : Sp) : Prop where
  len : ∀ vs H Q E, sp vs H Q E → vs.length = ps.length
  run : ∀ (A : Around) (outer : List Env) (s : Shared) (H : Hp) (args : Args) (us its : List Value) (vs ws : List V) (Q : VK) (E : XK), RoomG lev A → Env0 P w K mg base A outer s H → its.length ≤ sizeLine → Vals ws its → BindsW s fd args (ps.zip us) its → Vals vs us → sp vs (upd H s.heap.objs.size (.tup ws)) Q E →
    codeAny (model P w) A (.call (.ref f) args) (CR (L2.CX P w) outer P w H s Q E) s
/-! ### C(e, ..), C(k = e) -/
/-- what the call's arguments become: the keyword's value, the rest -/
inductive Vg where
  | pos | kw
def Vg.d : Vg → List D → D × List D
  | .pos, ds => (.non, ds)
  | .kw, ds => (ds.headD .non, [])
def Vg.v : Vg → List V → V × List V
  | .pos, ds => (.non, ds)
  | .kw, ds => (ds.headD .non, [])
section
variable {k : Cn} {A : Nat → Addr} {C : Store} {H : Hp}
theorem Vg.rep (g : Vg) {vs : List V} {ds : List D} (r : RepL k A C H vs ds) : Rep k A C H (g.v vs).1 (g.d ds).1 ∧ RepL k A C H (g.v vs).2 (g.d ds).2 := by
  cases g with
  | pos => exact ⟨.non, r⟩
  | kw => cases r with
    | nil => exact ⟨.non, .nil⟩
    | cons h t => exact ⟨h, .nil⟩
end
end CT
set_option maxHeartbeats 4000000
/-! DLX: len(set(t)) of a tuple of ints; sorted(t); str(n), f-strings, join. -/
namespace CT
open PySem L2 PySem.Spec PyProof.Rows
/-! ### len(set(t)) -/
/-! ### sorted(t) -/
end CT
set_option maxHeartbeats 4000000
/-! DLY: sorted of lists or tuples; str(n), f-strings, join; str(o) by the class's own __str__. -/
namespace CT
open PySem L2 PySem.Spec PyProof.Rows
end CT
set_option maxHeartbeats 4000000
/-! DLZ: binding of *numbers and a keyword that is None by itself. -/
namespace CT
open PySem L2 PySem.Spec PyProof.Rows
def kwB (a : PySem.W.Frag → Addr) (kn : Str) (K : PySem.W.Frag) : Bool := match K.lookup (a K) with
  | some ⟨_, _, .func fd, _⟩ => (match fd.kwdefaults with
    | .ref D => He.eqO (PySem.W.nsIn K D kn) (some (some .none))
    | _ => false)
  | _ => false
end CT
set_option maxHeartbeats 4000000
/-! DM1: classmethods (C.m(..), cls(k = e)); + of texts. -/
namespace CT
open PySem L2 PySem.Spec PyProof.Rows
end CT
set_option maxHeartbeats 4000000
/-! DM2: the head's Hook where attributes of classes are read. -/
namespace CT
open PySem L2 PySem.Spec PyProof.Rows
end CT
set_option maxHeartbeats 8000000
set_option pp.maxSteps 60
namespace CL
open PySem L2 PySem.Spec PyProof.Rows CT
def top (i : Nat) : Stmt := PySem.Challenge.pw_contentties_k62_strip_laid_out.main.body.getD i (.Pass ⟨0, 0, 0, 0⟩)
def mem (i j : Nat) : Stmt := match top i with
  | .ClassDef _ _ _ b _ _ _ _ _ _ _ => b.getD j (.Pass ⟨0, 0, 0, 0⟩)
  | s => s
def clA (K : PySem.W.Frag) (c : Nat) : Addr := match c with
  | 0 => He.ga K "Web"
  | 1 => He.ga K "Want"
  | 3 => He.ga K "Cell"
  | 4 => He.ga K "Strip"
  | 2 => He.ga K "TooMany"
  | _ => 0
abbrev s_TooMany__init : Stmt := mem 4 0
abbrev a_TooMany__init (K : PySem.W.Frag) : Addr := He.ma K (He.ga K "TooMany") "__init__"
abbrev s_is_integer : Stmt := top 10
abbrev a_is_integer (K : PySem.W.Frag) : Addr := He.ga K "is_integer"
abbrev s_is_number : Stmt := top 11
abbrev a_is_number (K : PySem.W.Frag) : Addr := He.ga K "is_number"
abbrev s_is_count : Stmt := top 12
abbrev a_is_count (K : PySem.W.Frag) : Addr := He.ga K "is_count"
abbrev s_merged : Stmt := top 14
abbrev a_merged (K : PySem.W.Frag) : Addr := He.ga K "merged"
abbrev s_check_numbers : Stmt := top 21
abbrev a_check_numbers (K : PySem.W.Frag) : Addr := He.ga K "check_numbers"
abbrev s_halves_of : Stmt := top 22
abbrev a_halves_of (K : PySem.W.Frag) : Addr := He.ga K "halves_of"
abbrev s_Want__init : Stmt := mem 26 0
abbrev a_Want__init (K : PySem.W.Frag) : Addr := He.ma K (He.ga K "Want") "__init__"
abbrev s_Want_evens : Stmt := mem 26 3
abbrev a_Want_evens (K : PySem.W.Frag) : Addr := prG K (He.ga K "Want") "evens"
abbrev s_Want_odds : Stmt := mem 26 4
abbrev a_Want_odds (K : PySem.W.Frag) : Addr := prG K (He.ga K "Want") "odds"
abbrev s_Want_low : Stmt := mem 26 5
abbrev a_Want_low (K : PySem.W.Frag) : Addr := prG K (He.ga K "Want") "low"
abbrev s_Want_high : Stmt := mem 26 6
abbrev a_Want_high (K : PySem.W.Frag) : Addr := prG K (He.ga K "Want") "high"
abbrev s_Want__or : Stmt := mem 26 15
abbrev a_Want__or (K : PySem.W.Frag) : Addr := He.ma K (He.ga K "Want") "__or__"
abbrev s_Want__bool : Stmt := mem 26 24
abbrev a_Want__bool (K : PySem.W.Frag) : Addr := He.ma K (He.ga K "Want") "__bool__"
abbrev s_Want__eq : Stmt := mem 26 25
abbrev a_Want__eq (K : PySem.W.Frag) : Addr := He.ma K (He.ga K "Want") "__eq__"
abbrev s_is_tie : Stmt := top 28
abbrev a_is_tie (K : PySem.W.Frag) : Addr := He.ga K "is_tie"
abbrev s_summed : Stmt := top 29
abbrev a_summed (K : PySem.W.Frag) : Addr := He.ga K "summed"
abbrev s_grid_of : Stmt := top 30
abbrev a_grid_of (K : PySem.W.Frag) : Addr := He.ga K "grid_of"
abbrev s_Web__init : Stmt := mem 31 0
abbrev a_Web__init (K : PySem.W.Frag) : Addr := He.ma K (He.ga K "Web") "__init__"
abbrev s_is_cell_want : Stmt := top 33
abbrev a_is_cell_want (K : PySem.W.Frag) : Addr := He.ga K "is_cell_want"
abbrev s_Cell__init : Stmt := mem 34 0
abbrev a_Cell__init (K : PySem.W.Frag) : Addr := He.ma K (He.ga K "Cell") "__init__"
abbrev s_Cell__len : Stmt := mem 34 1
abbrev a_Cell__len (K : PySem.W.Frag) : Addr := He.ma K (He.ga K "Cell") "__len__"
abbrev s_Cell__eq : Stmt := mem 34 2
abbrev a_Cell__eq (K : PySem.W.Frag) : Addr := He.ma K (He.ga K "Cell") "__eq__"
abbrev s_is_onward : Stmt := top 35
abbrev a_is_onward (K : PySem.W.Frag) : Addr := He.ga K "is_onward"
abbrev s_inner_ties : Stmt := top 36
abbrev a_inner_ties (K : PySem.W.Frag) : Addr := He.ga K "inner_ties"
abbrev s_Strip__init : Stmt := mem 37 0
abbrev a_Strip__init (K : PySem.W.Frag) : Addr := He.ma K (He.ga K "Strip") "__init__"
abbrev s_Strip__eq : Stmt := mem 37 1
abbrev a_Strip__eq (K : PySem.W.Frag) : Addr := He.ma K (He.ga K "Strip") "__eq__"
abbrev s_Strip_wants_of : Stmt := mem 37 2
abbrev a_Strip_wants_of (K : PySem.W.Frag) : Addr := He.ma K (He.ga K "Strip") "wants_of"
abbrev s_Strip_web_of : Stmt := mem 37 3
abbrev a_Strip_web_of (K : PySem.W.Frag) : Addr := He.ma K (He.ga K "Strip") "web_of"
abbrev s_Strip_mirrored : Stmt := mem 37 4
abbrev a_Strip_mirrored (K : PySem.W.Frag) : Addr := He.ma K (He.ga K "Strip") "mirrored"
abbrev s_law_bag : Stmt := top 39
abbrev a_law_bag (K : PySem.W.Frag) : Addr := He.ga K "_law_bag"
abbrev s_law_take : Stmt := top 40
abbrev a_law_take (K : PySem.W.Frag) : Addr := He.ga K "_law_take"
abbrev s_law_want : Stmt := top 41
abbrev a_law_want (K : PySem.W.Frag) : Addr := He.ga K "_law_want"
abbrev s_law_cell : Stmt := top 42
abbrev a_law_cell (K : PySem.W.Frag) : Addr := He.ga K "_law_cell"
abbrev s_law_strip : Stmt := top 43
abbrev a_law_strip (K : PySem.W.Frag) : Addr := He.ga K "_law_strip"
abbrev s_law_near : Stmt := top 44
abbrev a_law_near (K : PySem.W.Frag) : Addr := He.ga K "_law_near"
abbrev s_law_any : Stmt := top 45
abbrev a_law_any (K : PySem.W.Frag) : Addr := He.ga K "_law_any"
abbrev s_law_plan : Stmt := top 46
abbrev a_law_plan (K : PySem.W.Frag) : Addr := He.ga K "_law_plan"
abbrev s_law_strip_ties : Stmt := top 47
abbrev a_law_strip_ties (K : PySem.W.Frag) : Addr := He.ga K "_law_strip_ties"
abbrev s_law_strip_lists : Stmt := top 48
abbrev a_law_strip_lists (K : PySem.W.Frag) : Addr := He.ga K "_law_strip_lists"
abbrev s_law_web : Stmt := top 49
abbrev a_law_web (K : PySem.W.Frag) : Addr := He.ga K "_law_web"
abbrev s_law_turned : Stmt := top 50
abbrev a_law_turned (K : PySem.W.Frag) : Addr := He.ga K "_law_turned"
abbrev s_law_ties_of : Stmt := top 51
abbrev a_law_ties_of (K : PySem.W.Frag) : Addr := He.ga K "_law_ties_of"
abbrev s_law_is_laid : Stmt := top 52
abbrev a_law_is_laid (K : PySem.W.Frag) : Addr := He.ga K "_law_is_laid"
abbrev s_law : Stmt := top 53
abbrev a_law (K : PySem.W.Frag) : Addr := He.ga K "law"
def d_Web__init (K : PySem.W.Frag) : Addr := He.dflAt ("Web", some "__init__") 0 K
def fs : List (PySem.W.Frag → Bool) := [(He.Fa.free "abs").ok,
  (He.Fa.free "all").ok,
  (He.Fa.free "any").ok,
  (He.Fa.free "bool").ok,
  (He.Fa.free "enumerate").ok,
  (He.Fa.free "int").ok,
  (He.Fa.free "isinstance").ok,
  (He.Fa.free "len").ok,
  (He.Fa.free "list").ok,
  (He.Fa.free "max").ok,
  (He.Fa.free "min").ok,
  (He.Fa.free "range").ok,
  (He.Fa.free "set").ok,
  (He.Fa.free "sorted").ok,
  (He.Fa.free "tuple").ok,
  (He.Fa.int "MOST" 1000000000).ok,
  (He.Fa.glo "is_integer").ok,
  (He.Fa.glo "is_number").ok,
  (He.Fa.glo "is_count").ok,
  (He.Fa.glo "merged").ok,
  (He.Fa.glo "check_numbers").ok,
  (He.Fa.glo "halves_of").ok,
  (He.Fa.glo "is_tie").ok,
  (He.Fa.glo "summed").ok,
  (He.Fa.glo "grid_of").ok,
  (He.Fa.glo "is_cell_want").ok,
  (He.Fa.glo "is_onward").ok,
  (He.Fa.glo "inner_ties").ok,
  (He.Fa.glo "_law_bag").ok,
  (He.Fa.glo "_law_take").ok,
  (He.Fa.glo "_law_want").ok,
  (He.Fa.glo "_law_cell").ok,
  (He.Fa.glo "_law_strip").ok,
  (He.Fa.glo "_law_near").ok,
  (He.Fa.glo "_law_any").ok,
  (He.Fa.glo "_law_plan").ok,
  (He.Fa.glo "_law_strip_ties").ok,
  (He.Fa.glo "_law_strip_lists").ok,
  (He.Fa.glo "_law_web").ok,
  (He.Fa.glo "_law_turned").ok,
  (He.Fa.glo "_law_ties_of").ok,
  (He.Fa.glo "_law_is_laid").ok,
  (He.Fa.glo "law").ok,
  (He.Fa.glo "Web").ok,
  (He.Fa.cls "Web").ok,
  (He.Fa.noat "Web" "size").ok,
  (He.Fa.noat "Web" "grid").ok,
  (He.Fa.noat "Web" "ties").ok,
  (He.Fa.mkr "Web").ok,
  (He.Fa.glo "Want").ok,
  (He.Fa.cls "Want").ok,
  (He.Fa.noat "Want" "halves").ok,
  (He.Fa.mkr "Want").ok,
  (He.Fa.glo "Cell").ok,
  (He.Fa.cls "Cell").ok,
  (He.Fa.noat "Cell" "wishes").ok,
  (He.Fa.noat "Cell" "inner").ok,
  (He.Fa.mkr "Cell").ok,
  (He.Fa.glo "Strip").ok,
  (He.Fa.cls "Strip").ok,
  (He.Fa.noat "Strip" "head").ok,
  (He.Fa.noat "Strip" "cell").ok,
  (He.Fa.noat "Strip" "tail").ok,
  (He.Fa.noat "Strip" "onward").ok,
  (He.Fa.noat "Strip" "width").ok,
  (He.Fa.mkr "Strip").ok,
  kwB a_Want__init "halves",
  prB "Want" "evens",
  prB "Want" "odds",
  prB "Want" "low",
  prB "Want" "high",
  dnB "Want" "__or__",
  dnB "Want" "__bool__",
  dnB "Want" "__eq__",
  ktB d_Web__init,
  dnB "Cell" "__len__",
  dnB "Cell" "__eq__",
  dnB "Strip" "__eq__",
  (He.Fa.meth "Strip" "wants_of").ok,
  (He.Fa.meth "Strip" "web_of").ok,
  (He.Fa.meth "Strip" "mirrored").ok,
  (He.Fa.glo "TooMany").ok,
  xiB "TooMany",
  (He.Fa.noat "TooMany" "limit").ok,
  exmB clA "TooMany" [2] [],
  xsB clA [2],
  eqB "Cell",
  eqB "Strip",
  eqB "Want",
  sfB "Want",
  isaB clA [0, 1, 3, 4]]
def dx_TooMany__init : DefX := ⟨a_TooMany__init, "__init__", "TooMany.__init__", defArgs s_TooMany__init, defBody s_TooMany__init, defScope s_TooMany__init, fun _ => []⟩
def dx_is_integer : DefX := ⟨a_is_integer, "is_integer", "is_integer", defArgs s_is_integer, defBody s_is_integer, defScope s_is_integer, fun _ => []⟩
def dx_is_number : DefX := ⟨a_is_number, "is_number", "is_number", defArgs s_is_number, defBody s_is_number, defScope s_is_number, fun _ => []⟩
def dx_is_count : DefX := ⟨a_is_count, "is_count", "is_count", defArgs s_is_count, defBody s_is_count, defScope s_is_count, fun _ => []⟩
def dx_merged : DefX := ⟨a_merged, "merged", "merged", defArgs s_merged, defBody s_merged, defScope s_merged, fun _ => []⟩
def dx_check_numbers : DefX := ⟨a_check_numbers, "check_numbers", "check_numbers", defArgs s_check_numbers, defBody s_check_numbers, defScope s_check_numbers, fun _ => []⟩
def dx_halves_of : DefX := ⟨a_halves_of, "halves_of", "halves_of", defArgs s_halves_of, defBody s_halves_of, defScope s_halves_of, fun _ => []⟩
def dx_Want__init : DefX := ⟨a_Want__init, "__init__", "Want.__init__", defArgs s_Want__init, defBody s_Want__init, defScope s_Want__init, fun _ => []⟩
def dx_Want_evens : DefX := ⟨a_Want_evens, "evens", "Want.evens", defArgs s_Want_evens, defBody s_Want_evens, defScope s_Want_evens, fun _ => []⟩
def dx_Want_odds : DefX := ⟨a_Want_odds, "odds", "Want.odds", defArgs s_Want_odds, defBody s_Want_odds, defScope s_Want_odds, fun _ => []⟩
def dx_Want_low : DefX := ⟨a_Want_low, "low", "Want.low", defArgs s_Want_low, defBody s_Want_low, defScope s_Want_low, fun _ => []⟩
def dx_Want_high : DefX := ⟨a_Want_high, "high", "Want.high", defArgs s_Want_high, defBody s_Want_high, defScope s_Want_high, fun _ => []⟩
def dx_Want__or : DefX := ⟨a_Want__or, "__or__", "Want.__or__", defArgs s_Want__or, defBody s_Want__or, defScope s_Want__or, fun _ => []⟩
def dx_Want__bool : DefX := ⟨a_Want__bool, "__bool__", "Want.__bool__", defArgs s_Want__bool, defBody s_Want__bool, defScope s_Want__bool, fun _ => []⟩
def dx_Want__eq : DefX := ⟨a_Want__eq, "__eq__", "Want.__eq__", defArgs s_Want__eq, defBody s_Want__eq, defScope s_Want__eq, fun _ => []⟩
def dx_is_tie : DefX := ⟨a_is_tie, "is_tie", "is_tie", defArgs s_is_tie, defBody s_is_tie, defScope s_is_tie, fun _ => []⟩
def dx_summed : DefX := ⟨a_summed, "summed", "summed", defArgs s_summed, defBody s_summed, defScope s_summed, fun _ => []⟩
def dx_grid_of : DefX := ⟨a_grid_of, "grid_of", "grid_of", defArgs s_grid_of, defBody s_grid_of, defScope s_grid_of, fun _ => []⟩
def dx_Web__init : DefX := ⟨a_Web__init, "__init__", "Web.__init__", defArgs s_Web__init, defBody s_Web__init, defScope s_Web__init, fun K => [V.ref (d_Web__init K)]⟩
def dx_is_cell_want : DefX := ⟨a_is_cell_want, "is_cell_want", "is_cell_want", defArgs s_is_cell_want, defBody s_is_cell_want, defScope s_is_cell_want, fun _ => []⟩
def dx_Cell__init : DefX := ⟨a_Cell__init, "__init__", "Cell.__init__", defArgs s_Cell__init, defBody s_Cell__init, defScope s_Cell__init, fun K => [V.int 0]⟩
def dx_Cell__len : DefX := ⟨a_Cell__len, "__len__", "Cell.__len__", defArgs s_Cell__len, defBody s_Cell__len, defScope s_Cell__len, fun _ => []⟩
def dx_Cell__eq : DefX := ⟨a_Cell__eq, "__eq__", "Cell.__eq__", defArgs s_Cell__eq, defBody s_Cell__eq, defScope s_Cell__eq, fun _ => []⟩
def dx_is_onward : DefX := ⟨a_is_onward, "is_onward", "is_onward", defArgs s_is_onward, defBody s_is_onward, defScope s_is_onward, fun _ => []⟩
def dx_inner_ties : DefX := ⟨a_inner_ties, "inner_ties", "inner_ties", defArgs s_inner_ties, defBody s_inner_ties, defScope s_inner_ties, fun _ => []⟩
def dx_Strip__init : DefX := ⟨a_Strip__init, "__init__", "Strip.__init__", defArgs s_Strip__init, defBody s_Strip__init, defScope s_Strip__init, fun _ => []⟩
def dx_Strip__eq : DefX := ⟨a_Strip__eq, "__eq__", "Strip.__eq__", defArgs s_Strip__eq, defBody s_Strip__eq, defScope s_Strip__eq, fun _ => []⟩
def dx_Strip_wants_of : DefX := ⟨a_Strip_wants_of, "wants_of", "Strip.wants_of", defArgs s_Strip_wants_of, defBody s_Strip_wants_of, defScope s_Strip_wants_of, fun _ => []⟩
def dx_Strip_web_of : DefX := ⟨a_Strip_web_of, "web_of", "Strip.web_of", defArgs s_Strip_web_of, defBody s_Strip_web_of, defScope s_Strip_web_of, fun _ => []⟩
def dx_Strip_mirrored : DefX := ⟨a_Strip_mirrored, "mirrored", "Strip.mirrored", defArgs s_Strip_mirrored, defBody s_Strip_mirrored, defScope s_Strip_mirrored, fun _ => []⟩
def dx_law_bag : DefX := ⟨a_law_bag, "_law_bag", "_law_bag", defArgs s_law_bag, defBody s_law_bag, defScope s_law_bag, fun _ => []⟩
def dx_law_take : DefX := ⟨a_law_take, "_law_take", "_law_take", defArgs s_law_take, defBody s_law_take, defScope s_law_take, fun _ => []⟩
def dx_law_want : DefX := ⟨a_law_want, "_law_want", "_law_want", defArgs s_law_want, defBody s_law_want, defScope s_law_want, fun _ => []⟩
def dx_law_cell : DefX := ⟨a_law_cell, "_law_cell", "_law_cell", defArgs s_law_cell, defBody s_law_cell, defScope s_law_cell, fun _ => []⟩
def dx_law_strip : DefX := ⟨a_law_strip, "_law_strip", "_law_strip", defArgs s_law_strip, defBody s_law_strip, defScope s_law_strip, fun _ => []⟩
def dx_law_near : DefX := ⟨a_law_near, "_law_near", "_law_near", defArgs s_law_near, defBody s_law_near, defScope s_law_near, fun _ => []⟩
def dx_law_any : DefX := ⟨a_law_any, "_law_any", "_law_any", defArgs s_law_any, defBody s_law_any, defScope s_law_any, fun _ => []⟩
def dx_law_plan : DefX := ⟨a_law_plan, "_law_plan", "_law_plan", defArgs s_law_plan, defBody s_law_plan, defScope s_law_plan, fun _ => []⟩
def dx_law_strip_ties : DefX := ⟨a_law_strip_ties, "_law_strip_ties", "_law_strip_ties", defArgs s_law_strip_ties, defBody s_law_strip_ties, defScope s_law_strip_ties, fun _ => []⟩
def dx_law_strip_lists : DefX := ⟨a_law_strip_lists, "_law_strip_lists", "_law_strip_lists", defArgs s_law_strip_lists, defBody s_law_strip_lists, defScope s_law_strip_lists, fun _ => []⟩
def dx_law_web : DefX := ⟨a_law_web, "_law_web", "_law_web", defArgs s_law_web, defBody s_law_web, defScope s_law_web, fun _ => []⟩
def dx_law_turned : DefX := ⟨a_law_turned, "_law_turned", "_law_turned", defArgs s_law_turned, defBody s_law_turned, defScope s_law_turned, fun _ => []⟩
def dx_law_ties_of : DefX := ⟨a_law_ties_of, "_law_ties_of", "_law_ties_of", defArgs s_law_ties_of, defBody s_law_ties_of, defScope s_law_ties_of, fun _ => []⟩
def dx_law_is_laid : DefX := ⟨a_law_is_laid, "_law_is_laid", "_law_is_laid", defArgs s_law_is_laid, defBody s_law_is_laid, defScope s_law_is_laid, fun _ => []⟩
def dx_law : DefX := ⟨a_law, "law", "law", defArgs s_law, defBody s_law, defScope s_law, fun _ => []⟩
def fn : List DefX := [dx_TooMany__init, dx_is_integer, dx_is_number, dx_is_count, dx_merged, dx_check_numbers, dx_halves_of, dx_Want__init, dx_Want_evens, dx_Want_odds, dx_Want_low, dx_Want_high, dx_Want__or, dx_Want__bool, dx_Want__eq, dx_is_tie, dx_summed, dx_grid_of, dx_Web__init, dx_is_cell_want, dx_Cell__init, dx_Cell__len, dx_Cell__eq, dx_is_onward, dx_inner_ties, dx_Strip__init, dx_Strip__eq, dx_Strip_wants_of, dx_Strip_web_of, dx_Strip_mirrored, dx_law_bag, dx_law_take, dx_law_want, dx_law_cell, dx_law_strip, dx_law_near, dx_law_any, dx_law_plan, dx_law_strip_ties, dx_law_strip_lists, dx_law_web, dx_law_turned, dx_law_ties_of, dx_law_is_laid, dx_law]
end CL
set_option maxHeartbeats 4000000
/-! DM28: the head's Hook, its objects gathered by a walk that marks what it has seen in one number. -/
namespace CT
open PySem L2 PySem.Spec PyProof.Rows
/-- the addresses that are not marked, each once -/
def erB : Nat → List Addr → List Addr
  | _, [] => []
  | seen, a :: r => match Nat.beq (Nat.land (Nat.shiftRight seen a) 1) 1 with
    | true => erB seen r
    | false => a :: erB (Nat.lor seen (Nat.shiftLeft 1 a)) r
def mkB : Nat → List Addr → Nat
  | seen, [] => seen
  | seen, a :: r => mkB (Nat.lor seen (Nat.shiftLeft 1 a)) r
def nxB (g : Addr → Option Obj) : List Addr → List Addr
  | [] => []
  | a :: r => (match g a with
    | some o => He.refsD o
    | none => []) ++ nxB g r
def digB (g : Addr → Option Obj) : Nat → Nat → List Addr → List Addr
  | 0, _, _ => []
  | n + 1, seen, f => (fun t => t ++ digB g n (mkB seen t) t) (erB seen (nxB g f))
def agB (g : Addr → Option Obj) (n : Nat) : List Addr := mainGlobals :: (digB g n (Nat.shiftLeft 1 mainGlobals) [mainGlobals] ++ [cStatics])
def obGb (n : Nat) (fs : List (PySem.W.Frag → Bool)) (fn : List DefX) (g : Addr → Option Obj) : AlX := obX fs fn (He.frG g (agB g n))
def hookXb (n : Nat) (fs : List (PySem.W.Frag → Bool)) (fn : List DefX) : PySem.W.Hook where
  α := AlX
  obs := fun s => obGb n fs fn s.heap.get?
  val := fun _ => vlX fn
  says := fun _ h => ∃ K : PySem.W.Frag, K.In h ∧ SaysX fs fn K
  of := fun _ _ e => ⟨_, He.frG_in, e⟩
  keeps := fun _ _ _ ⟨K, hK, c⟩ k => ⟨K, PySem.W.Frag.In.keeps hK k, c⟩
end CT
set_option maxHeartbeats 0
namespace CL
open PySem L2 PySem.Spec PyProof.Rows CT
abbrev RR : PySem.W.OpenRow := PySem.W.OpenLaw.row PySem.Challenge.rw_contentties_k62_strip_laid_out
abbrev hk : PySem.W.Hook := hookXb 6 fs fn
def ob (s : PySem.W.SharedT) : AlX := obGb 6 fs fn (HandSHeadRun.getT s)
def loose : List Str := (["_wall", "ContentError", "Wrong", "TooMany", "BadTie", "TooFew", "Unequal", "MOST", "is_integer", "is_number", "is_count", "merged", "common", "rest", "moved", "mirrored"] : List Str) ++ (["halves_between", "check_numbers", "halves_of", "halves_moved", "halves_mirrored", "run_text", "Want", "is_tie", "summed", "grid_of", "Web", "is_cell_want", "Cell", "is_onward", "inner_ties", "Strip"] : List Str) ++ (["_law_bag", "_law_take", "_law_want", "_law_cell", "_law_strip", "_law_near", "_law_any", "_law_plan", "_law_strip_ties", "_law_strip_lists", "_law_web", "_law_turned", "_law_ties_of", "_law_is_laid"] : List Str)
section
open HandSHeadRun PySem.W PySem.Calls
theorem run_looks (w : World) (os : OsState) : (HandSHeadRun.endF (HandSHeadRun.stepQ (HandSHeadRun.denQ HandSHeadRun.tabQ) RR.prog w) 20000 RR.prog w os).map (fun s => HandSHeadRun.looksF RR.prog (boot_heap w.params) s.abs) = some (true) := by kernel_rfl
theorem run_seen (w : World) (os : OsState) : (HandSHeadRun.endF (HandSHeadRun.stepQ (HandSHeadRun.denQ HandSHeadRun.tabQ) RR.prog w) 20000 RR.prog w os).map (fun s => HandSHeadRun.seenQ (PySem.W.view RR.prog [53]) loose (importedModules RR.prog.main.body) (fun s => xlAt (PySem.W.view RR.prog [53]) [] s && recOk RR.toRowW.records s) s.abs) = some (openGood (PySem.W.view RR.prog [53]) loose) := by kernel_rfl
theorem run_ob (w : World) (os : OsState) : (HandSHeadRun.endF (HandSHeadRun.stepQ (HandSHeadRun.denQ HandSHeadRun.tabQ) RR.prog w) 20000 RR.prog w os).map (ob) = some (hk.val w) := by kernel_rfl
theorem opt3 {α β γ : Type _} {δ : Type _} {x : Option α} {f : α → β} {g : α → γ} {h : α → δ} {a : β} {b : γ} {c : δ} (h1 : x.map f = some a) (h2 : x.map g = some b) (h3 : x.map h = some c) : x.map (fun s => (f s, g s, h s)) = some (a, b, c) := by
  cases x with
  | none => cases h1
  | some s =>
    have e1 : f s = a := Option.some.inj h1
    have e2 : g s = b := Option.some.inj h2
    have e3 : h s = c := Option.some.inj h3
    show some (f s, g s, h s) = some (a, b, c)
    rw [e1, e2, e3]
end
theorem run (w : World) : HandSHeadRun.RunEq RR (PySem.W.view RR.prog [53]) hk ob 20000 loose w := by
  intro os
  have z := opt3 (run_looks w os) (run_seen w os) (run_ob w os)
  exact z
end CL
/-! DM3: is True; t * n; bool(o) by the class's own __bool__; a or b of tuples, bool(t). -/
namespace CT
/-! ### t * n -/
/-! ### a or b of tuples; bool(t) -/
end CT
/-! DM4: bool(o) by the class's own __bool__. -/
namespace CT
/-! ### bool(o) -/
end CT
/-! DM5: zip of two tuples; min and max of a list of ints with a default. -/
namespace CT
end CT
/-! DM6: min and max of a list of ints with a default. -/
namespace CT
end CT
/-! DM7: x + k, k + x, x - k, k - x, -x for an own x and an int k. -/
namespace CT
end CT
/-! DM8: list(range(a, b, 2)); sorted(set(xs)), len(set(xs)) of up to 4,000 ints. -/
namespace CT
/-! ### sets of more ints -/
end CT
/-! DM9: xs[i], ys[j] = e, f. -/
namespace CT
end CT
/-! DM10: a def that hands back an own list, as an equation. -/
namespace CT
end CT
/-! DM11: {x for u in a if .. for x in b if ..} of ints, two clauses; its members in a list beside the heap. -/
namespace CT
end CT
/-! DM12: sorted({x for u in a if .. for x in b if ..}) over data. -/
namespace CT
end CT
/-! DM13: min and max of one list of ints, not empty. -/
namespace CT
end CT
/-! DM14: in, not in by an own __contains__, as values and as tests. -/
namespace CT
end CT
/-! DM15: == and != of two lists of own objects that are equal item by item. -/
namespace CT
end CT
/-! DM16: an own object as a test, by the class's own __bool__. -/
namespace CT
end CT
/-! DM17: xs.reverse(). -/
namespace CT
end CT
/-! DM18: while, of at most so many turns. -/
namespace CT
end CT
/-! DM19: a def that hands back data with own lists and dicts inside: all become plain data. -/
namespace CT
end CT
/-! DM20: == of two tuples of own objects that are equal item by item. -/
namespace CT
end CT
/-! DM21: sum of a tuple of ints. -/
namespace CT
end CT
/-! DM22: try with several clauses, each with a name (the same slot); each clause's suite returns. -/
namespace CT
/-! ### repr in a clause's suite -/
end CT
/-! DM23: x += y, x -= y of a name that holds an instance with an own __iadd__, __isub__. -/
namespace CT
end CT
/-! DM24a: what the head says for DM24. -/
namespace CT
end CT
/-! DM24: x[i] = v, x[i] += v by own __getitem__, __setitem__; == and != with an instance of another own class. -/
namespace CT
end CT
/-! DM25: sorted(set(list of pairs of ints from 0 to 63)); list(d) of a dict with tuple keys. -/
namespace CT
/-! ### list(d) -/
end CT
/-! DM26: t * 1. -/
namespace CT
end CT
/-! DM30: t * 0. -/
namespace CT
end CT
/-! DM46: len(o) by the class's own __len__. -/
namespace CT
/-! ### len(o) -/
end CT
/-! DM47: x += y of a name that holds an own list, y a list. -/
namespace CT
end CT
/-! S1: runs, in plain Lean. -/
namespace CT
/-! ### merged -/
/-! ### numbers, one behind another (the law's own) -/
/-! ### common -/
/-! ### rest -/
end CT
/-! E2: loops, comprehensions, dicts worked out. -/
namespace CT
/-! ### comprehensions that change nothing -/
/-! ### two clauses -/
/-! ### dicts from pairs to numbers -/
end CT
/-! E3: walks over cells; own operators worked out. -/
namespace CT
/-! ### own operators -/
end CT
/-! E4: what a run must lead to, told backwards. -/
namespace CT
/-! ### results -/
/-! ### expressions -/
/-! ### operators -/
/-! ### statements -/
/-! ### loops -/
/-! ### comprehensions -/
end CT
/-! E5: more steps told backwards. -/
namespace CT
/-! ### writing -/
end CT
/-! E6: walks and comprehensions, step by step. -/
namespace CT
end CT
/-! M22: the bag. -/
/-! E7: own operators with an int, list(range), extend, two writes, told backwards. -/
namespace CT
/-! ### a comprehension whose list is an own one -/
/-! ### a def that hands back an own list -/
end CT
/-! S12: runs moved, mirrored, counted, spread out; in plain Lean. -/
namespace CT
/-! ### few runs are left -/
/-! ### moved, mirrored -/
/-! ### spread out -/
/-! ### ascending lists parted by parity -/
end CT
/-! S13: stretches and blocks, in plain Lean. -/
namespace CT
end CT
/-! DM32: d[k] += e on a dict with tuple keys; x *= e of ints. -/
namespace CT
end CT
/-! DM33: zip of two sequences, each a list or a tuple. -/
namespace CT
end CT
/-! E9: comprehensions and walks over lists of values that are written as data. -/
namespace CT
/-! ### x *= e, d[k] += e -/
end CT
/-! M2: sums of ties, grids, webs. -/
/-! M3: a web is made. -/
/-! M4: Web(size, ties). -/
/-! M5: Web(size, ties), made. -/
/-! M6: the instance. -/
/-! M7: total, degrees, within, changed, crossing. -/
/-! M9: plain facts on sums. -/
set_option Elab.async false
set_option linter.all false
set_option maxRecDepth 100000
set_option maxHeartbeats 4000000
/-! DL1: plain data, a store of changing cells, how they lie in the abstract heap; expressions. -/
namespace CT
open PySem L2
/-! ### the domain -/
/-! ### how data lie in the heap -/
section
variable {k : Cn} {A A' : Nat → Addr} {C C' : Store} {H H' : Hp} {v : V} {d : D} {vs : List V} {ds : List D}
theorem RepL.getV : ∀ {vs : List V} {ds : List D} {i : Nat} {v : V}, RepL k A C H vs ds → vs[i]? = some v → ∃ d, ds[i]? = some d ∧ Rep k A C H v d
  | _, _, _, _, .nil, e => by simp at e
  | _, _, 0, _, .cons r _, e => by simp at e; subst e; exact ⟨_, rfl, r⟩
  | _, _, i + 1, d, .cons _ t, e => by
    obtain ⟨u, h1, h2⟩ := RepL.getV (i := i) (v := d) t (by simpa using e)
    exact ⟨u, by simpa using h1, h2⟩
theorem RepL.ints : ∀ {ns : List Int}, RepL k A C H (ns.map V.int) (ns.map D.int)
  | [] => .nil
  | n :: ns => .cons (.int n) RepL.ints
theorem RepL.ints_inv : ∀ {ns : List Int} {vs : List V}, RepL k A C H vs (ns.map D.int) → vs = ns.map V.int
  | [], _, .nil => rfl
  | n :: ns, _, .cons r t => by
    cases r
    rw [RepL.ints_inv t]
    rfl
theorem RepL.bls_inv : ∀ {ns : List Bool} {vs : List V}, RepL k A C H vs (ns.map D.bl) → vs = ns.map V.bl
  | [], _, .nil => rfl
  | n :: ns, _, .cons r t => by
    cases r
    rw [RepL.bls_inv t]
    rfl
end
/-! ### the store -/
section
variable {k : Cn} {fl : Nat} {A A' A'' : Nat → Addr} {C C' C'' : Store} {H H' H'' : Hp} {v : V} {d : D} {vs : List V} {ds : List D}
theorem Stp.refl : Stp k fl A C H A C H := ⟨fun _ _ h => h, Nat.le_refl _, fun _ _ _ h => h, fun _ _ _ h => h⟩
theorem Stp.reps (a : Stp k fl A C H A' C' H') : ∀ {vs : List V} {ds : List D}, RepL k A C H vs ds → RepL k A' C' H' vs ds
  | _, _, .nil => .nil
  | _, _, .cons r t => .cons (a.rep _ _ r) (a.reps t)
theorem Kp.stp (q : Kp A C H A' C' H') (h : ∀ f, f ≤ fl → f ≤ C.length → LowC f C → LowC f C') : Stp k fl A C H A' C' H' := ⟨fun _ _ r => r.kp q, q.len, h, q.fz⟩
theorem Kp.stp0 (q : Kp A C H A' C H') : Stp k fl A C H A' C H' := q.stp fun _ _ _ h => h
theorem low_app {c : Option Cell} {f : Nat} (hf : f ≤ C.length) (h : LowC f C) : LowC f (C ++ [c]) := fun i e hi he => by
  rw [List.getElem?_append_left (Nat.lt_of_lt_of_le hi hf)] at he
  exact h i e hi he
mutual
theorem cb_mono {n m : Nat} (h : n ≤ m) : ∀ {d : D}, cb n d = true → cb m d = true
  | .non, _ => rfl
  | .bl _, _ => rfl
  | .int _, _ => rfl
  | .str _, _ => rfl
  | .lst xs, z => by simp only [cb] at z ⊢; exact cbL_mono h z
  | .tup xs, z => by simp only [cb] at z ⊢; exact cbL_mono h z
  | .scr xs, z => by simp only [cb] at z ⊢; exact cbL_mono h z
  | .kt xs, z => by simp only [cb] at z ⊢; exact cbL_mono h z
  | .obj _ xs, z => by simp only [cb] at z ⊢; exact cbL_mono h z
  | .exn _ xs, z => by simp only [cb] at z ⊢; exact cbL_mono h z
  | .cls _, _ => rfl
  | .dT _ xs, z => by simp only [cb] at z ⊢; exact cbL_mono h z
  | .cell i, z => by simp only [cb, decide_eq_true_eq] at z ⊢; omega
theorem cbL_mono {n m : Nat} (h : n ≤ m) : ∀ {ds : List D}, cbL n ds = true → cbL m ds = true
  | [], _ => rfl
  | d :: ds, z => by
    simp only [cbL, Bool.and_eq_true] at z ⊢
    exact ⟨cb_mono h z.1, cbL_mono h z.2⟩
end
theorem cbC_mono {n m : Nat} (h : n ≤ m) {c : Cell} (z : cbC n c = true) : cbC m c = true := by
  cases c <;> exact cbL_mono h z
/-- a write: below the floor no cells are named -/
theorem low_set {i : Nat} {c : Cell} (hc : i < fl → cbC 0 c = true) {f : Nat} (hf : f ≤ fl) (h : LowC f C) : LowC f (C.set i (some c)) := fun j e hj he => by
  by_cases hij : i = j
  · subst hij
    by_cases hl : i < C.length
    · rw [List.getElem?_set_self hl] at he
      rw [← Option.some.inj (Option.some.inj he)]
      exact cbC_mono (Nat.zero_le _) (hc (by omega))
    · rw [List.getElem?_eq_none (by simp; omega)] at he
      cases he
  · rw [List.getElem?_set_ne hij] at he
    exact h j e hj he
theorem low_take {f n : Nat} (h : LowC f C) : LowC f (C.take n) := fun j e hj he => by
  by_cases hn : j < n
  · rw [List.getElem?_take_of_lt hn] at he
    exact h j e hj he
  · rw [List.getElem?_eq_none (by simp; omega)] at he
    cases he
theorem StOk.live (x : StOk k A C H) {a : Addr} (l : Live A C a) : ∃ o, H a = some o := by
  obtain ⟨i, c, e, rfl⟩ := l
  exact (x.at_ i c e).there
theorem StOk.notLive (x : StOk k A C H) {a : Addr} (h : H a = none) : ¬ Live A C a := fun l => by
  obtain ⟨o, e⟩ := x.live l
  rw [h] at e
  cases e
/-- a cell changes -/
theorem live_set {i : Nat} {c c0 : Cell} {a : Addr} (hi : C[i]? = some (some c0)) (l : Live A (C.set i (some c)) a) : Live A C a := by
  obtain ⟨j, c', e, rfl⟩ := l
  by_cases hj : i = j
  · subst hj
    exact ⟨i, c0, hi, rfl⟩
  · rw [List.getElem?_set_ne hj] at e
    exact ⟨j, c', e, rfl⟩
theorem CellAt.nofz {c : Cell} {a : Addr} (x : CellAt k A C H a c) (o : Obj) (u : HO) : H a ≠ some (.frz o u) := fun z => by
  cases c with
  | lst ds => obtain ⟨vs, e, r⟩ := x; rw [z] at e; cases e
  | dT ks ds => obtain ⟨kvs, e, y, r⟩ := x; rw [z] at e; cases e
  | ins c ds => obtain ⟨dx, vs, e, y, r⟩ := x; rw [z] at e; cases e
theorem kp_write {i : Nat} {c c0 : Cell} {o : HO} (st : StOk k A C H) (hi : C[i]? = some (some c0)) : Kp A C H A (C.set i (some c)) (upd H (A i) o) :=
  ⟨fun a u l e => ⟨fun y => l (live_set hi y), by rw [upd_ne (fun z => l ⟨i, c0, hi, z.symm⟩)]; exact e⟩, fun _ _ => rfl, by simp, fun a o u e => by
    rw [upd_ne (fun z => (st.at_ i _ hi).nofz o (.dT u) (by rw [← z]; exact e))]
    exact e⟩
theorem StOk.write {i : Nat} {c c0 : Cell} {o : HO} (x : StOk k A C H) (hi : C[i]? = some (some c0)) (y : CellAt k A (C.set i (some c)) (upd H (A i) o) (A i) c) : StOk k A (C.set i (some c)) (upd H (A i) o) := by
  have get : ∀ j c', (C.set i (some c))[j]? = some (some c') → j ≠ i → C[j]? = some (some c') := fun j c' e hj => by
    rw [List.getElem?_set_ne (Ne.symm hj)] at e
    exact e
  have here : ∀ c', (C.set i (some c))[i]? = some (some c') → c' = c := fun c' e => by
    rw [List.getElem?_set_self (List.getElem?_eq_some_iff.mp hi).1] at e
    exact (Option.some.inj (Option.some.inj e)).symm
  have some_ : ∀ j c', (C.set i (some c))[j]? = some (some c') → ∃ c'', C[j]? = some (some c'') := fun j c' e => by
    by_cases hj : j = i
    · rw [hj]
      exact ⟨c0, hi⟩
    · exact ⟨c', get j c' e hj⟩
  refine ⟨fun j c' e => ?_, fun j l c1 c2 e1 e2 z => ?_⟩
  · by_cases hj : j = i
    · subst hj
      rw [here c' e]
      exact y
    · have e' := get j c' e hj
      exact (x.at_ j c' e').kp (kp_write x hi) (upd_ne (fun z => hj (x.inj j i _ _ e' hi z)))
  · obtain ⟨d1, f1⟩ := some_ j c1 e1
    obtain ⟨d2, f2⟩ := some_ l c2 e2
    exact x.inj j l _ _ f1 f2 z
theorem Rep.cut {n : Nat} (hn : n ≤ C.length) (r : Rep k A C H v d) (h : CT.cb n d = true) : Rep k A (C.take n) H v d :=
  r.fw (fw_take n) (by rw [List.length_take, Nat.min_eq_left hn]; exact h)
theorem RepL.cut {n : Nat} (hn : n ≤ C.length) (r : RepL k A C H vs ds) (h : CT.cbL n ds = true) : RepL k A (C.take n) H vs ds :=
  r.fw (fw_take n) (by rw [List.length_take, Nat.min_eq_left hn]; exact h)
end
/-! ### frames -/
/-- behind a computation m that began at A, C, H -/
def Aft (k : Cn) (fl : Nat) (A : Nat → Addr) (C : Store) (H : Hp) {α β : Type} (rel : (Nat → Addr) → Store → Hp → β → α → Prop) (m : R α) (Q : α → Store → (Nat → Addr) → Hp → β → Prop) (W : XK) : Prop := match m with
  | .ok d C' => ∀ A' H' v, Stp k fl A C H A' C' H' → StOk k A' C' H' → rel A' C' H' v d → Q d C' A' H' v
  | .exc e C' => ∀ A' H' dd vs, Stp k fl A C H A' C' H' → StOk k A' C' H' → H' dd = some (.xd ((k.fn e.c).zip vs)) → vs.length = (k.fn e.c).length → RepL k A' C' H' vs e.fs → W (.ref (k.cl e.c)) (some dd) H'
  | .stuck => False
section
variable {k : Cn} {A A' A1 : Nat → Addr} {F : Fr} {C C' C1 : Store} {H H' H1 : Hp} {σ : L2.St} {fl : Nat}
theorem SR.step (s : SR k A F C σ H) (p : Stp k F.fl A C H A' C' H') (st : StOk k A' C' H') : SR k A' F C' σ H' :=
  ⟨st, p.low _ (Nat.le_refl _) s.fl s.low, Nat.le_trans s.fl p.len, s.len, fun i d e => let ⟨v, h1, h2⟩ := s.sl i d e; ⟨v, h1, p.rep v d h2⟩⟩
theorem SR.unset {i : Nat} (s : SR k A F C σ H) : SR k A ⟨F.fl, F.sl.set i none⟩ C (σ.set i none) H :=
  ⟨s.st, s.low, s.fl, by simp [s.len], fun j e h => by
    have h' : (F.sl.set i none)[j]? = some (some e) := h
    by_cases hij : i = j
    · subst hij
      by_cases hl : i < F.sl.length
      · rw [List.getElem?_set_self hl] at h'
        cases h'
      · rw [List.getElem?_eq_none (by simp; omega)] at h'
        cases h'
    · rw [List.getElem?_set_ne hij] at h'
      obtain ⟨u, h1, h2⟩ := s.sl j e h'
      exact ⟨u, by rw [List.getElem?_set_ne hij]; exact h1, h2⟩⟩
variable {α β γ δ : Type} {rel : (Nat → Addr) → Store → Hp → β → α → Prop} {rel2 : (Nat → Addr) → Store → Hp → δ → γ → Prop} {m : R α} {Q : α → Store → (Nat → Addr) → Hp → β → Prop} {W : XK}
theorem Aft.shift (s : Stp k fl A C H A1 C1 H1) (h : Aft k fl A C H rel m Q W) : Aft k fl A1 C1 H1 rel m Q W := by
  cases m with
  | ok d C' => exact fun A' H' v p st r => h A' H' v (s.trans p) st r
  | exc e C' => exact fun A' H' dd vs p st x l r => h A' H' dd vs (s.trans p) st x l r
  | stuck => exact h
theorem Aft.mono {Q' : α → Store → (Nat → Addr) → Hp → β → Prop} (h : Aft k fl A C H rel m Q W) (hq : ∀ d C' A' H' v, Stp k fl A C H A' C' H' → StOk k A' C' H' → rel A' C' H' v d → Q d C' A' H' v → Q' d C' A' H' v) : Aft k fl A C H rel m Q' W := by
  cases m with
  | ok d C' => exact fun A' H' v p st r => hq _ _ _ _ _ p st r (h A' H' v p st r)
  | exc e C' => exact h
  | stuck => exact h
theorem Aft.bnd {f : α → Store → R γ} {Q : γ → Store → (Nat → Addr) → Hp → δ → Prop} (h : Aft k fl A C H rel2 (bnd m f) Q W) :
    Aft k fl A C H rel m (fun d C1 A1 H1 v => Aft k fl A1 C1 H1 rel2 (f d C1) Q W) W := by
  cases m with
  | ok d C' => exact fun A' H' v p st r => Aft.shift p h
  | exc e C' => exact h
  | stuck => exact h
end
abbrev RepD (k : Cn) : (Nat → Addr) → Store → Hp → V → D → Prop := fun A C H v d => Rep k A C H v d
abbrev RepDs (k : Cn) : (Nat → Addr) → Store → Hp → List V → List D → Prop := fun A C H v d => RepL k A C H v d
/-- an expression's reading by data -/
def LE (k : Cn) (W : WX) (m : ME) : TE := fun σ H Q => ∃ A F C, SR k A F C σ H ∧ Aft k F.fl A C H (RepD k) (m F C) (fun _ _ _ H' v => Q v H') (fun c d H' => W c d σ H')
def LA (k : Cn) (W : WX) (m : MA) : TA := fun σ H Q => ∃ A F C, SR k A F C σ H ∧ Aft k F.fl A C H (RepDs k) (m F C) (fun _ _ _ H' v => Q v H') (fun c d H' => W c d σ H')
def LT (k : Cn) (W : WX) (m : MT) : TT := fun σ H Q => ∃ A F C, SR k A F C σ H ∧ Aft k F.fl A C H (fun _ _ _ (v d : Bool) => v = d) (m F C) (fun _ _ _ H' v => Q v H') (fun c d H' => W c d σ H')
end CT
set_option maxHeartbeats 4000000
/-! DL2: expressions over data: names, constants, operators, displays, subscripts, calls of built-ins. -/
namespace CT
open PySem L2
theorem _root_.L2.PE.cq {X : Cx} {e : Expr} {t t' : TE} (h : PE X e t) (c : ∀ σ H Q, t' σ H Q → t σ H Q) : PE X e t' := ⟨fun pins s σ H Q I q => h.run pins s σ H Q I (c σ H Q q)⟩
theorem _root_.L2.PT.cq {X : Cx} {e : Expr} {t t' : TT} (h : PT X e t) (c : ∀ σ H Q, t' σ H Q → t σ H Q) : PT X e t' := ⟨fun pins s σ H Q I q => h.run pins s σ H Q I (c σ H Q q)⟩
theorem _root_.L2.PW.cq {X : Cx} {e : Expr} {t t' : TT} (h : PW X e t) (c : ∀ σ H Q, t' σ H Q → t σ H Q) : PW X e t' := ⟨fun w pins s σ H Q I q => h.run w pins s σ H Q I (c σ H Q q)⟩
theorem _root_.L2.PA.cq {X : Cx} {e : List Expr} {t t' : TA} (h : PA X e t) (c : ∀ σ H Q, t' σ H Q → t σ H Q) : PA X e t' := ⟨fun p pins s σ H Q I q => h.run p pins s σ H Q I (c σ H Q q)⟩
theorem _root_.L2.PS.cq {X : Cx} {e : Stmt} {t t' : TS} (h : PS X e t) (c : ∀ D σ H, t' D σ H → t D σ H) : PS X e t' := ⟨fun pins s σ H Q I q => h.run pins s σ H Q I (c Q σ H q)⟩
theorem _root_.L2.PSs.cq {X : Cx} {e : List Stmt} {t t' : TS} (h : PSs X e t) (c : ∀ D σ H, t' D σ H → t D σ H) : PSs X e t' := ⟨fun pins s σ H Q I q => h.run pins s σ H Q I (c Q σ H q)⟩
/-! ### names, constants -/
section
variable {X : Cx} {k : Cn} {W : WX}
theorem le_var {i : Nat} {σ : L2.St} {H : Hp} {Q : VK} (h : LE k W (mVar i) σ H Q) : tVar i σ H Q := by
  obtain ⟨A, F, C, s, h⟩ := h
  unfold mVar at h
  split at h
  · rename_i d e
    obtain ⟨v, h1, h2⟩ := s.sl i d e
    exact ⟨v, h1, h A H v Stp.refl s.st h2⟩
  · exact h.elim
theorem dv (i : Nat) {x : Str} {pos : Pos} (hN : X.N[i]? = some x := by rfl) (hv : Vis X.env.scope x := by first | exact Or.inl rfl | exact Or.inr (Or.inl rfl) | exact Or.inr (Or.inr rfl)) (hd : (x == ("__debug__" : Str)) = false := by decide)
    (hcd : (x == ("__classdict__" : Str)) = false := by decide) : PE X (.Name x pos) (LE k W (mVar i)) := (pe_var hN hv hd hcd).cq fun _ _ _ h => le_var h
/-- a value that every heap reads as d -/
theorem le_c {v : V} {d : D} (hr : ∀ A C H, Rep k A C H v d) {σ : L2.St} {H : Hp} {Q : VK} (h : LE k W (mC d) σ H Q) : tC v σ H Q := by
  obtain ⟨A, F, C, s, h⟩ := h
  exact h A H v Stp.refl s.st (hr _ _ _)
theorem de_int {i j pos} : PE X (.Constant (.int i) j pos) (LE k W (mC (.int i))) := pe_int.cq fun _ _ _ h => le_c (fun _ _ _ => .int i) h
theorem de_bl {i j pos} : PE X (.Constant (.bool i) j pos) (LE k W (mC (.bl i))) := pe_bl.cq fun _ _ _ h => le_c (fun _ _ _ => .bl i) h
theorem de_non {j pos} : PE X (.Constant .none j pos) (LE k W (mC .non)) := pe_non.cq fun _ _ _ h => le_c (fun _ _ _ => .non) h
theorem de_str {i j pos} : PE X (.Constant (.str i) j pos) (LE k W (mC (.str i))) := pe_str.cq fun _ _ _ h => le_c (fun _ _ _ => .str i) h
theorem de_glob {x : Str} {v : V} {d : D} {u : Value} {pos : Pos} (hr : ∀ A C H, Rep k A C H v d) (hg : Gl X x) (hm : X.mg x = some u) (r : RelV v u) (hd : (x == ("__debug__" : Str)) = false := by decide) : PE X (.Name x pos) (LE k W (mC d)) :=
  (pe_glob hg hm r hd).cq fun _ _ _ h => le_c hr h
end
/-! ### operators -/
/-- an operation on values that the data's operation o tells -/
def OpD (k : Cn) (r : R2) (o : O2) : Prop := ∀ fl A C H x y dx dy d C' (Q : VK), fl ≤ C.length → LowC fl C → StOk k A C H → Rep k A C H x dx → Rep k A C H y dy → o dx dy C = some (d, C') →
  (∀ A' H' v, Stp k fl A C H A' C' H' → StOk k A' C' H' → Rep k A' C' H' v d → Q v H') → r x y H Q
def UnD (k : Cn) (r : V → Hp → VK → Prop) (o : O1) : Prop := ∀ fl A C H x dx d C' (Q : VK), fl ≤ C.length → LowC fl C → StOk k A C H → Rep k A C H x dx → o dx C = some (d, C') →
  (∀ A' H' v, Stp k fl A C H A' C' H' → StOk k A' C' H' → Rep k A' C' H' v d → Q v H') → r x H Q
def ApD (k : Cn) (r : List V → Hp → VK → Prop) (o : OA) : Prop := ∀ fl A C H x dx d C' (Q : VK), fl ≤ C.length → LowC fl C → StOk k A C H → RepL k A C H x dx → o dx C = some (d, C') →
  (∀ A' H' v, Stp k fl A C H A' C' H' → StOk k A' C' H' → Rep k A' C' H' v d → Q v H') → r x H Q
theorem aft_ofO {k : Cn} {fl : Nat} {A : Nat → Addr} {C : Store} {H : Hp} {W : XK} {o : Option (D × Store)} {Q : D → Store → (Nat → Addr) → Hp → V → Prop} (h : Aft k fl A C H (RepD k) (ofO o) Q W) :
    ∃ d C', o = some (d, C') ∧ ∀ A' H' v, Stp k fl A C H A' C' H' → StOk k A' C' H' → Rep k A' C' H' v d → Q d C' A' H' v := by
  cases o with
  | none => exact h.elim
  | some p => exact ⟨p.1, p.2, rfl, h⟩
section
variable {X : Cx} {k : Cn} {W : WX} {σ : L2.St} {H : Hp} {Q : VK}
theorem le_op {r : R2} {o : O2} {ma mb : ME} (ho : OpD k r o) (h : LE k W (mOp o ma mb) σ H Q) : tOp r (LE k W ma) (LE k W mb) σ H Q := by
  obtain ⟨A, F, C, s, h⟩ := h
  refine ⟨A, F, C, s, (Aft.bnd (rel := RepD k) h).mono fun dx C1 A1 H1 x p1 st1 rx h1 => ?_⟩
  have s1 := s.step p1 st1
  refine ⟨A1, F, C1, s1, (Aft.bnd (rel := RepD k) h1).mono fun dy C2 A2 H2 y p2 st2 ry h2 => ?_⟩
  have s2 := s1.step p2 st2
  obtain ⟨d, C', e, q⟩ := aft_ofO h2
  exact ho F.fl A2 C2 H2 x y dx dy d C' Q s2.fl s2.low st2 (p2.rep _ _ rx) ry e q
theorem le_un {r : V → Hp → VK → Prop} {o : O1} {ma : ME} (ho : UnD k r o) (h : LE k W (mUn o ma) σ H Q) : tUn r (LE k W ma) σ H Q := by
  obtain ⟨A, F, C, s, h⟩ := h
  refine ⟨A, F, C, s, (Aft.bnd (rel := RepD k) h).mono fun dx C1 A1 H1 x p1 st1 rx h1 => ?_⟩
  have s1 := s.step p1 st1
  obtain ⟨d, C', e, q⟩ := aft_ofO h1
  exact ho F.fl A1 C1 H1 x dx d C' Q s1.fl s1.low st1 rx e q
theorem la_nil {Q : List V → Hp → Prop} (h : LA k W mNil σ H Q) : tNil σ H Q := by
  obtain ⟨A, F, C, s, h⟩ := h
  exact h A H [] Stp.refl s.st .nil
theorem la_cons {Q : List V → Hp → Prop} {ma : ME} {mr : MA} (h : LA k W (mCons ma mr) σ H Q) : tCons (LE k W ma) (LA k W mr) σ H Q := by
  obtain ⟨A, F, C, s, h⟩ := h
  refine ⟨A, F, C, s, (Aft.bnd (rel := RepD k) h).mono fun dx C1 A1 H1 x p1 st1 rx h1 => ?_⟩
  have s1 := s.step p1 st1
  refine ⟨A1, F, C1, s1, (Aft.bnd (rel := RepDs k) h1).mono fun dy C2 A2 H2 y p2 st2 ry h2 => ?_⟩
  exact h2 A2 H2 (x :: y) Stp.refl st2 (.cons (p2.rep _ _ rx) ry)
theorem le_ap {r : List V → Hp → VK → Prop} {o : OA} {ma : MA} (ho : ApD k r o) (h : LE k W (mAp o ma) σ H Q) : tCB r (LA k W ma) σ H Q := by
  obtain ⟨A, F, C, s, h⟩ := h
  refine ⟨A, F, C, s, (Aft.bnd (rel := RepDs k) h).mono fun dx C1 A1 H1 x p1 st1 rx h1 => ?_⟩
  have s1 := s.step p1 st1
  obtain ⟨d, C', e, q⟩ := aft_ofO h1
  exact ho F.fl A1 C1 H1 x dx d C' Q s1.fl s1.low st1 rx e q
theorem de_op {a b : Expr} {pos : Pos} {op : Operator} {r : R2} {o : O2} {ma mb : ME} (hR : OpR X (binaryOp op) r) (hD : OpD k r o) (ha : PE X a (LE k W ma)) (hb : PE X b (LE k W mb)) : PE X (.BinOp a op b pos) (LE k W (mOp o ma mb)) :=
  (pe_op hR ha hb).cq fun _ _ _ h => le_op hD h
theorem de_cmp {a b : Expr} {pos : Pos} {op : CmpOp} {r : R2} {o : O2} {ma mb : ME} (hR : OpR X (compareOp op) r) (hD : OpD k r o) (ha : PE X a (LE k W ma)) (hb : PE X b (LE k W mb)) (hm : behindInMarks op b = false) : PE X (.Compare a [op] [b] pos) (LE k W (mOp o ma mb)) :=
  (pe_cmpR hR ha hb hm).cq fun _ _ _ h => le_op hD h
theorem de_un {a : Expr} {pos : Pos} {op : UnaryOp} {r : V → Hp → VK → Prop} {o : O1} {ma : ME} (hR : UnR X (unaryOp op) r) (hD : UnD k r o) (ha : PE X a (LE k W ma)) : PE X (.UnaryOp op a pos) (LE k W (mUn o ma)) :=
  (pe_un hR ha).cq fun _ _ _ h => le_un hD h
theorem de_ix {a b : Expr} {pos : Pos} {r : R2} {o : O2} {ma mb : ME} (hR : IxR X r) (hD : OpD k r o) (ha : PE X a (LE k W ma)) (hb : PE X b (LE k W mb)) (hs : PlainIx b := by exact fun _ _ => rfl) : PE X (.Subscript a b pos) (LE k W (mOp o ma mb)) :=
  (pe_ix hR ha hb hs).cq fun _ _ _ h => le_op hD h
theorem da_nil : PA X [] (LA k W mNil) := pa_nil.cq fun _ _ _ h => la_nil h
theorem da_cons {e : Expr} {es : List Expr} {ma : ME} {mr : MA} (ha : PE X e (LE k W ma)) (hr : PA X es (LA k W mr)) (hs : starEach (e :: es) X.env = (false, eval e X.env) :: starEach es X.env := by rfl) : PA X (e :: es) (LA k W (mCons ma mr)) :=
  (pa_cons ha hr hs).cq fun _ _ _ h => la_cons h
theorem de_callB {x : Str} {id : String} {e : Expr} {es : List Expr} {p pos : Pos} {r : List V → Hp → VK → Prop} {o : OA} {ma : MA} (hc : CallR X (.builtin id) r) (hD : ApD k r o) (hg : Gl X x) (hm : X.mg x = none) (hv : bootBuiltins x = some (.builtin id))
    (ha : PA X (e :: es) (LA k W ma)) (hn : x ≠ "__name__" := by decide) (hdb : (x == ("__debug__" : Str)) = false := by decide) (he : starEach (e :: es) X.env = (false, eval e X.env) :: starEach es X.env := by rfl) (hpl : (backTo pos (starEach es X.env)).any (·.1) = false := by rfl) :
    PE X (.Call (.Name x p) (e :: es) [] pos) (LE k W (mAp o ma)) := (pe_callB hc hg hm hv ha hn hdb he hpl).cq fun _ _ _ h => le_ap hD h
theorem de_callTy {x : Str} {id : String} {e : Expr} {es : List Expr} {p pos : Pos} {r : List V → Hp → VK → Prop} {o : OA} {ma : MA} (hc : CallR X (.type id) r) (hD : ApD k r o) (hg : Gl X x) (hm : X.mg x = none) (hv : bootBuiltins x = some (.type id))
    (ha : PA X (e :: es) (LA k W ma)) (hn : x ≠ "__name__" := by decide) (hdb : (x == ("__debug__" : Str)) = false := by decide) (he : starEach (e :: es) X.env = (false, eval e X.env) :: starEach es X.env := by rfl) (hpl : (backTo pos (starEach es X.env)).any (·.1) = false := by rfl) :
    PE X (.Call (.Name x p) (e :: es) [] pos) (LE k W (mAp o ma)) := (pe_callTy hc hg hm hv ha hn hdb he hpl).cq fun _ _ _ h => le_ap hD h
end
/-! ### tests, and, or, not -/
abbrev RepB : (Nat → Addr) → Store → Hp → Bool → Bool → Prop := fun _ _ _ v d => v = d
section
variable {X : Cx} {k : Cn} {W : WX} {σ : L2.St} {H : Hp}
theorem lt_val {ma : ME} {Q : Bool → Hp → Prop} (h : LT k W (mTst ma) σ H Q) : tB (LE k W ma) σ H Q := by
  obtain ⟨A, F, C, s, h⟩ := h
  refine ⟨A, F, C, s, (Aft.bnd (rel := RepD k) h).mono fun dx C1 A1 H1 x p1 st1 rx h1 => ?_⟩
  cases rx with
  | bl b => exact ⟨b, rfl, h1 A1 H1 b Stp.refl st1 rfl⟩
  | _ => exact h1.elim
theorem dt_val {e : Expr} {ma : ME} (h : PE X e (LE k W ma)) (he : ∀ whole, isTrue e X.env whole = (do let v ← whole; standAt e.pos; holding [v] (truthy v)) := by intro _; rfl) : PT X e (LT k W (mTst ma)) :=
  (pt_val h he).cq fun _ _ _ h => lt_val h
theorem lt_and {a b : MT} {Q : Bool → Hp → Prop} (h : LT k W (tAndM a b) σ H Q) : tAnd (LT k W a) (LT k W b) σ H Q := by
  obtain ⟨A, F, C, s, h⟩ := h
  refine ⟨A, F, C, s, (Aft.bnd (rel := RepB) h).mono fun dx C1 A1 H1 x p1 st1 rx h1 => ?_⟩
  have rx : x = dx := rx
  subst rx
  cases x with
  | true => exact iteT ⟨A1, F, C1, s.step p1 st1, h1⟩
  | false => exact iteF (h1 A1 H1 false Stp.refl st1 rfl)
theorem lt_or {a b : MT} {Q : Bool → Hp → Prop} (h : LT k W (tOrM a b) σ H Q) : tOr (LT k W a) (LT k W b) σ H Q := by
  obtain ⟨A, F, C, s, h⟩ := h
  refine ⟨A, F, C, s, (Aft.bnd (rel := RepB) h).mono fun dx C1 A1 H1 x p1 st1 rx h1 => ?_⟩
  have rx : x = dx := rx
  subst rx
  cases x with
  | true => exact iteT (h1 A1 H1 true Stp.refl st1 rfl)
  | false => exact iteF ⟨A1, F, C1, s.step p1 st1, h1⟩
theorem lt_not {a : MT} {Q : Bool → Hp → Prop} (h : LT k W (tNotM a) σ H Q) : tNot (LT k W a) σ H Q := by
  obtain ⟨A, F, C, s, h⟩ := h
  refine ⟨A, F, C, s, (Aft.bnd (rel := RepB) h).mono fun dx C1 A1 H1 x p1 st1 rx h1 => ?_⟩
  have rx : x = dx := rx
  subst rx
  exact h1 A1 H1 (!x) Stp.refl st1 rfl
theorem dw_and1 {a : Expr} {pos : Pos} {m : MT} (ha : PT X a (LT k W m)) : PW X (.BoolOp .And [a] pos) (LT k W m) := pw_and1 ha
theorem dw_or1 {a : Expr} {pos : Pos} {m : MT} (ha : PT X a (LT k W m)) : PW X (.BoolOp .Or [a] pos) (LT k W m) := pw_or1 ha
theorem dw_and {a b : Expr} {rest : List Expr} {pos : Pos} {m n : MT} (ha : PT X a (LT k W m)) (hb : PW X (.BoolOp .And (b :: rest) pos) (LT k W n)) : PW X (.BoolOp .And (a :: b :: rest) pos) (LT k W (tAndM m n)) := (pw_and ha hb).cq fun _ _ _ h => lt_and h
theorem dw_or {a b : Expr} {rest : List Expr} {pos : Pos} {m n : MT} (ha : PT X a (LT k W m)) (hb : PW X (.BoolOp .Or (b :: rest) pos) (LT k W n)) : PW X (.BoolOp .Or (a :: b :: rest) pos) (LT k W (tOrM m n)) := (pw_or ha hb).cq fun _ _ _ h => lt_or h
theorem dt_not {a : Expr} {pos : Pos} {m : MT} (ha : PT X a (LT k W m)) : PT X (.UnaryOp .Not a pos) (LT k W (tNotM m)) := (pt_not ha).cq fun _ _ _ h => lt_not h
theorem le_and {a b : ME} {Q : VK} (h : LE k W (mAnd a b) σ H Q) : tAndV (LE k W a) (LE k W b) σ H Q := by
  obtain ⟨A, F, C, s, h⟩ := h
  refine ⟨A, F, C, s, (Aft.bnd (rel := RepD k) h).mono fun dx C1 A1 H1 x p1 st1 rx h1 => ?_⟩
  cases rx with
  | bl b =>
    refine ⟨b, rfl, ?_⟩
    cases b with
    | true => exact iteT ⟨A1, F, C1, s.step p1 st1, h1⟩
    | false => exact iteF (h1 A1 H1 (.bl false) Stp.refl st1 (.bl false))
  | _ => exact h1.elim
theorem le_not {a : ME} {Q : VK} (h : LE k W (mNot a) σ H Q) : tNotV (LE k W a) σ H Q := by
  obtain ⟨A, F, C, s, h⟩ := h
  refine ⟨A, F, C, s, (Aft.bnd (rel := RepD k) h).mono fun dx C1 A1 H1 x p1 st1 rx h1 => ?_⟩
  cases rx with
  | bl b => exact ⟨b, rfl, h1 A1 H1 (.bl (!b)) Stp.refl st1 (.bl _)⟩
  | _ => exact h1.elim
theorem le_if {t : MT} {a b : ME} {Q : VK} (h : LE k W (mIf t a b) σ H Q) : tIf (LT k W t) (LE k W a) (LE k W b) σ H Q := by
  obtain ⟨A, F, C, s, h⟩ := h
  refine ⟨A, F, C, s, (Aft.bnd (rel := RepB) h).mono fun dx C1 A1 H1 x p1 st1 rx h1 => ?_⟩
  have rx : x = dx := rx
  subst rx
  cases x with
  | true => exact iteT ⟨A1, F, C1, s.step p1 st1, h1⟩
  | false => exact iteF ⟨A1, F, C1, s.step p1 st1, h1⟩
theorem de_one {op} {a : Expr} {pos : Pos} {m : ME} (h : PE X a (LE k W m)) : PE X (.BoolOp op [a] pos) (LE k W m) := pe_one h
theorem de_and {a b : Expr} {rest : List Expr} {pos : Pos} {m n : ME} (ha : PE X a (LE k W m)) (hb : PE X (.BoolOp .And (b :: rest) pos) (LE k W n)) : PE X (.BoolOp .And (a :: b :: rest) pos) (LE k W (mAnd m n)) := (pe_and ha hb).cq fun _ _ _ h => le_and h
theorem de_not {a : Expr} {pos : Pos} {m : ME} (ha : PE X a (LE k W m)) : PE X (.UnaryOp .Not a pos) (LE k W (mNot m)) := (pe_not ha).cq fun _ _ _ h => le_not h
theorem de_if {c a b : Expr} {pos : Pos} {t : MT} {m n : ME} (hc : PT X c (LT k W t)) (ha : PE X a (LE k W m)) (hb : PE X b (LE k W n)) : PE X (.IfExp c a b pos) (LE k W (mIf t m n)) := (pe_ifExp hc ha hb).cq fun _ _ _ h => le_if h
end
/-! ### numbers -/
def oI (c : Int → Int → Bool) (g : Int → Int → D) : O2 := fun x y C => match x, y with
  | .int i, .int j => if c i j = true then some (g i j, C) else none
  | _, _ => none
theorem opD_I0 {k : Cn} {g : Int → Int → V} {g' : Int → Int → D} (hg : ∀ i j A C H, Rep k A C H (g i j) (g' i j)) : OpD k (rI0 g) (oI0 g') := by
  intro fl A C H x y dx dy d C' Q hf hl st rx ry e q
  unfold oI0 at e
  split at e
  · cases rx; cases ry; cases e
    exact ⟨_, _, rfl, rfl, q A H _ Stp.refl st (hg _ _ _ _ _)⟩
  · cases e
theorem opD_I {k : Cn} {P : Int → Int → Prop} {c : Int → Int → Bool} {g : Int → Int → V} {g' : Int → Int → D} (hc : ∀ i j, c i j = true → P i j) (hg : ∀ i j A C H, Rep k A C H (g i j) (g' i j)) : OpD k (rI P g) (oI c g') := by
  intro fl A C H x y dx dy d C' Q hf hl st rx ry e q
  unfold oI at e
  split at e
  · split at e
    · rename_i h
      cases rx; cases ry; cases e
      exact ⟨_, _, rfl, rfl, hc _ _ h, q A H _ Stp.refl st (hg _ _ _ _ _)⟩
    · cases e
  · cases e
def cMul (i j : Int) : Bool := (decide (-(2 ^ 64) < i) && decide (i < 2 ^ 64)) || (decide (-(2 ^ 64) < j) && decide (j < 2 ^ 64))
def oMul : O2 := oI cMul fun i j => .int (i * j)
def cDiv (i j : Int) : Bool := decide (0 < j) && decide (j < 4611686018427387904)
def oDiv : O2 := oI cDiv fun i j => .int (i / j)
def oMod : O2 := oI (fun _ j => decide (0 < j)) fun i j => .int (i % j)
section
variable {k : Cn}
theorem d_add : OpD k (rI0 fun i j => .int (i + j)) oAdd := opD_I0 fun i j _ _ _ => .int _
theorem d_sub : OpD k (rI0 fun i j => .int (i - j)) oSub := opD_I0 fun i j _ _ _ => .int _
theorem d_mul : OpD k (rI CMul fun i j => .int (i * j)) oMul := opD_I (fun i j h => by
  simp only [cMul, Bool.or_eq_true, Bool.and_eq_true, decide_eq_true_eq] at h
  exact h) fun i j _ _ _ => .int _
theorem d_div : OpD k (rI CDivW fun i j => .int (i / j)) oDiv := opD_I (fun i j h => by
  simp only [cDiv, Bool.and_eq_true, decide_eq_true_eq] at h
  refine ⟨h.1, Nat.lt_of_lt_of_le ((Nat.log2_lt (by omega)).mpr (show j.natAbs < 2 ^ 62 by omega)) (by decide)⟩) fun i j _ _ _ => .int _
theorem d_mod : OpD k (rI (fun _ j => 0 < j) fun i j => .int (i % j)) oMod := opD_I (fun i j h => by simpa using h) fun i j _ _ _ => .int _
theorem d_lt : OpD k (rI0 fun i j => .bl (decide (i < j))) oLt := opD_I0 fun i j _ _ _ => .bl _
theorem d_le : OpD k (rI0 fun i j => .bl (decide (i ≤ j))) oLe := opD_I0 fun i j _ _ _ => .bl _
theorem d_gt : OpD k (rI0 fun i j => .bl (decide (j < i))) oGt := opD_I0 fun i j _ _ _ => .bl _
theorem d_ge : OpD k (rI0 fun i j => .bl (decide (j ≤ i))) oGe := opD_I0 fun i j _ _ _ => .bl _
theorem d_neg : UnD k (rU fun i => .int (-i)) oNeg := by
  intro fl A C H x dx d C' Q hf hl st rx e q
  unfold oNeg at e
  split at e
  · cases rx; cases e
    exact ⟨_, rfl, q A H _ Stp.refl st (.int _)⟩
  · cases e
end
/-! ### a chain of two comparisons -/
theorem le_chain {k : Cn} {W : WX} {σ : L2.St} {H : Hp} {Q : VK} {r r' : R2} {o o' : O2} {ma mb mc : ME} (ho : OpD k r o) (ho' : OpD k r' o') (h : LE k W (mChain o o' ma mb mc) σ H Q) : tChain r r' (LE k W ma) (LE k W mb) (LE k W mc) σ H Q := by
  obtain ⟨A, F, C, s, h⟩ := h
  refine ⟨A, F, C, s, (Aft.bnd (rel := RepD k) h).mono fun dx C1 A1 H1 x p1 st1 rx h1 => ?_⟩
  have s1 := s.step p1 st1
  refine ⟨A1, F, C1, s1, (Aft.bnd (rel := RepD k) h1).mono fun dy C2 A2 H2 y p2 st2 ry h2 => ?_⟩
  have s2 := s1.step p2 st2
  obtain ⟨d, C', e, q⟩ := aft_ofO (Aft.bnd (rel := RepD k) h2)
  refine ho F.fl A2 C2 H2 x y dx dy d C' _ s2.fl s2.low st2 (p2.rep _ _ rx) ry e fun A3 H3 z p3 st3 rz => ?_
  have h3 := q A3 H3 z p3 st3 rz
  cases rz with
  | bl b =>
    refine ⟨b, rfl, ?_⟩
    cases b with
    | true =>
      have s3 := s2.step p3 st3
      refine iteT ⟨A3, F, C', s3, (Aft.bnd (rel := RepD k) h3).mono fun dw C4 A4 H4 w p4 st4 rw h4 => ?_⟩
      have s4 := s3.step p4 st4
      obtain ⟨d', C'', e', q'⟩ := aft_ofO h4
      exact ho' F.fl A4 C4 H4 y w dy dw d' C'' Q s4.fl s4.low st4 (p4.rep _ _ (p3.rep _ _ ry)) rw e' q'
    | false => exact iteF (h3 A3 H3 (.bl false) Stp.refl st3 (.bl false))
  | _ => exact h3.elim
theorem de_chain {X : Cx} {k : Cn} {W : WX} {a b c : Expr} {pos : Pos} {op op' : CmpOp} {r r' : R2} {o o' : O2} {ma mb mc : ME} (hR : OpR X (compareOp op) r) (hD : OpD k r o) (hR' : OpR X (compareOp op') r') (hD' : OpD k r' o') (ha : PE X a (LE k W ma)) (hb : PE X b (LE k W mb)) (hc : PE X c (LE k W mc))
    (hm : lastMarks [op, op'] [b, c] = false := by with_unfolding_all rfl) : PE X (.Compare a [op, op'] [b, c] pos) (LE k W (mChain o o' ma mb mc)) :=
  (pe_chain hR hR' ha hb hc hm).cq fun _ _ _ h => le_chain hD hD' h
end CT
set_option maxHeartbeats 4000000
/-! DL3: lists, tuples, dicts over data. -/
namespace CT
open PySem L2
/-! ### what a datum is as a list, a tuple, a dict -/
def vS (d : D) (C : Store) : Option (List D) := match d with
  | .tup xs => some xs
  | .kt xs => some xs
  | .lst xs => some xs
  | .cell i => match C[i]? with
    | some (some (.lst xs)) => some xs
    | _ => none
  | _ => none
section
variable {k : Cn} {A : Nat → Addr} {C : Store} {H : Hp} {v : V} {d : D} {ds : List D}
theorem vL_at (st : StOk k A C H) (r : Rep k A C H v d) (e : vL d C = some ds) : ∃ a vs, v = .ref a ∧ H a = some (.lst vs) ∧ RepL k A C H vs ds := by
  cases r with
  | lst l h q => cases e; exact ⟨_, _, rfl, h, q⟩
  | cell hi =>
    rename_i i
    simp only [vL] at e
    split at e
    · rename_i xs ec
      cases e
      obtain ⟨vs, h, q⟩ := st.at_ i _ ec
      exact ⟨_, vs, rfl, h, q⟩
    · cases e
  | _ => cases e
theorem vT_at (r : Rep k A C H v d) (e : vT d = some ds) : ∃ a vs, v = .ref a ∧ SqT k.K H a vs ∧ RepL k A C H vs ds := by
  cases r with
  | tup l h q => cases e; exact ⟨_, _, rfl, .inl (.inl h), q⟩
  | ktup h q => cases e; exact ⟨_, _, rfl, .inr h, q⟩
  | _ => cases e
theorem vS_at (st : StOk k A C H) (r : Rep k A C H v d) (e : vS d C = some ds) : ∃ a vs, v = .ref a ∧ (SqL k.K H a vs ∨ SqT k.K H a vs) ∧ RepL k A C H vs ds := by
  cases r with
  | lst l h q => cases e; exact ⟨_, _, rfl, .inl (.inl (.inl h)), q⟩
  | tup l h q => cases e; exact ⟨_, _, rfl, .inr (.inl (.inl h)), q⟩
  | ktup h q => cases e; exact ⟨_, _, rfl, .inr (.inr h), q⟩
  | cell hi =>
    rename_i i
    simp only [vS] at e
    split at e
    · rename_i xs ec
      cases e
      obtain ⟨vs, h, q⟩ := st.at_ i _ ec
      exact ⟨_, vs, rfl, .inl (.inl (.inl h)), q⟩
    · cases e
  | _ => cases e
theorem vD_at {ks : List (List Key)} (st : StOk k A C H) (r : Rep k A C H v d) (e : vD d C = some (ks, ds)) : ∃ a kvs, v = .ref a ∧ Rd H a (.dT kvs) ∧ kvs.map (·.1) = ks ∧ RepL k A C H (kvs.map (·.2)) ds := by
  cases r with
  | dT l h q => cases e; exact ⟨_, _, rfl, h.rd, rfl, q⟩
  | cell hi =>
    rename_i i
    simp only [vD] at e
    split at e
    · rename_i xs ec
      cases e
      obtain ⟨vs, h, z, q⟩ := st.at_ i _ ec
      exact ⟨_, vs, rfl, .inl h, z, q⟩
    · cases e
  | _ => cases e
theorem dgT {H : Hp} {a b : Addr} {kvs : List (List Key × V)} {k : List Key} (e : Rd H a (.dT kvs)) (eb : H b = some (.tup (k.map kV))) : DGet H a (.ref b) (valV kvs k) := .inr ⟨kvs, k, b, e, rfl, eb, rfl⟩
/-! ### new lists, tuples, dicts: own cells or plain data -/
theorem ext_at (A : Nat → Addr) (n : Nat) (p : Addr) : ext A n p n = p := if_pos rfl
theorem rep_new {p : Addr} (n : Nat) (c : Cell) {H : Hp} {C : Store} : Rep k (ext A C.length p) (C ++ [some c]) H (.ref p) (.cell C.length) := by
  have h : Rep k (ext A C.length p) (C ++ [some c]) H (.ref (ext A C.length p C.length)) (.cell C.length) := .cell (by simp)
  rw [ext_at] at h
  exact h
theorem fresh_L {fl : Nat} {own : Bool} {p : Addr} {vs : List V} (hf : fl ≤ C.length) (st : StOk k A C H) (r : RepL k A C H vs ds) (h : H p = none) :
    ∃ A', Stp k fl A C H A' (mkL own ds C).2 (upd H p (.lst vs)) ∧ StOk k A' (mkL own ds C).2 (upd H p (.lst vs)) ∧ Rep k A' (mkL own ds C).2 (upd H p (.lst vs)) (.ref p) (mkL own ds C).1 := by
  cases own with
  | true =>
    have q : Kp A C H (ext A C.length p) (C ++ [some (.lst ds)]) (upd H p (.lst vs)) := kp_cell (k := k) st h
    exact ⟨ext A C.length p, q.stp fun f h1 h2 l => low_app h2 l, st.cell h ⟨vs, upd_same, r.kp q⟩, rep_new C.length _⟩
  | false =>
    have q : Kp A C H A C (upd H p (.lst vs)) := kp_new h
    exact ⟨A, q.stp0, st.new h, .lst (st.notLive h) upd_same (r.kp q)⟩
theorem fresh_T {fl : Nat} {p : Addr} {vs : List V} (st : StOk k A C H) (r : RepL k A C H vs ds) (h : H p = none) :
    Stp k fl A C H A C (upd H p (.tup vs)) ∧ StOk k A C (upd H p (.tup vs)) ∧ Rep k A C (upd H p (.tup vs)) (.ref p) (.tup ds) := by
  have q : Kp A C H A C (upd H p (.tup vs)) := kp_new h
  exact ⟨q.stp0, st.new h, .tup (st.notLive h) upd_same (r.kp q)⟩
theorem fresh_D {fl : Nat} {own : Bool} {p : Addr} {kvs : List (List Key × V)} (hf : fl ≤ C.length) (st : StOk k A C H) (r : RepL k A C H (kvs.map (·.2)) ds) (h : H p = none) :
    ∃ A', Stp k fl A C H A' (mkD own (kvs.map (·.1)) ds C).2 (upd H p (.dT kvs)) ∧ StOk k A' (mkD own (kvs.map (·.1)) ds C).2 (upd H p (.dT kvs)) ∧ Rep k A' (mkD own (kvs.map (·.1)) ds C).2 (upd H p (.dT kvs)) (.ref p) (mkD own (kvs.map (·.1)) ds C).1 := by
  cases own with
  | true =>
    have q : Kp A C H (ext A C.length p) (C ++ [some (.dT (kvs.map (·.1)) ds)]) (upd H p (.dT kvs)) := kp_cell (k := k) st h
    exact ⟨ext A C.length p, q.stp fun f h1 h2 l => low_app h2 l, st.cell h ⟨kvs, upd_same, rfl, r.kp q⟩, rep_new C.length _⟩
  | false =>
    have q : Kp A C H A C (upd H p (.dT kvs)) := kp_new h
    exact ⟨A, q.stp0, st.new h, .dT (st.notLive h) (.inl upd_same) (r.kp q)⟩
end
/-! ### displays -/
theorem szN_le {n : Nat} (h : szN n = true) : n ≤ sizeLine := by
  rw [sizeLine_eq]
  exact of_decide_eq_true h
section
variable {X : Cx} {k : Cn} {W : WX} {es : List Expr} {ma : MA} {pos : Pos}
theorem le_lst {own : Bool} {σ : L2.St} {H : Hp} {Q : VK} (h : LE k W (mAp (oLst own) ma) σ H Q) : tLst (LA k W ma) σ H Q := by
  obtain ⟨A, F, C, s, h⟩ := h
  refine ⟨A, F, C, s, (Aft.bnd (rel := RepDs k) h).mono fun dx C1 A1 H1 x p1 st1 rx h1 => ?_⟩
  have s1 := s.step p1 st1
  obtain ⟨d, C', e, q⟩ := aft_ofO h1
  unfold oLst at e
  split at e
  · rename_i hz
    refine ⟨by rw [rx.length]; exact szN_le hz, fun p hp => ?_⟩
    obtain ⟨A2, w1, w2, w3⟩ := fresh_L (own := own) s1.fl st1 rx hp
    have e1 := Option.some.inj e
    rw [e1] at w1 w2 w3
    exact q A2 _ _ w1 w2 w3
  · cases e
theorem de_lst (own : Bool) (h : PA X es (LA k W ma)) : PE X (.List es pos) (LE k W (mAp (oLst own) ma)) := (pe_lst h).cq fun _ _ _ h => le_lst h
theorem le_tup {σ : L2.St} {H : Hp} {Q : VK} (h : LE k W (mAp oTup ma) σ H Q) : tTup (LA k W ma) σ H Q := by
  obtain ⟨A, F, C, s, h⟩ := h
  refine ⟨A, F, C, s, (Aft.bnd (rel := RepDs k) h).mono fun dx C1 A1 H1 x p1 st1 rx h1 => ?_⟩
  obtain ⟨d, C', e, q⟩ := aft_ofO h1
  unfold oTup at e
  split at e
  · rename_i hz
    cases e
    refine ⟨by rw [rx.length]; exact szN_le hz, fun p hp => ?_⟩
    obtain ⟨w1, w2, w3⟩ := fresh_T st1 rx hp
    exact q A1 _ _ w1 w2 w3
  · cases e
theorem de_tup {x1} (h : PA X es (LA k W ma)) : PE X (.Tuple es x1 pos) (LE k W (mAp oTup ma)) := (pe_tup h).cq fun _ _ _ h => le_tup h
theorem de_dnew (own : Bool) : PE X (.Dict [] [] pos) (LE k W (mDNew own)) := pe_dnewT.cq fun σ H Q h => by
  obtain ⟨A, F, C, s, h⟩ := h
  intro p hp
  obtain ⟨A2, w1, w2, w3⟩ := fresh_D (own := own) (kvs := []) (ds := []) s.fl s.st .nil hp
  exact h A2 _ _ w1 w2 w3
end
/-! ### subscripts -/
def oIx : O2 := fun x y C => match y with
  | .int i => (vS x C).bind fun xs => (atI xs i).map fun d => (d, C)
  | _ => none
theorem atI_rep {k : Cn} {A : Nat → Addr} {C : Store} {H : Hp} {vs : List V} {ds : List D} {i : Int} {d : D} (r : RepL k A C H vs ds) (h : atI ds i = some d) : ∃ v, atI vs i = some v ∧ Rep k A C H v d := by
  unfold atI at h ⊢
  rw [r.length]
  cases e : ixN ds.length i with
  | none => rw [e] at h; cases h
  | some j =>
    rw [e] at h
    exact r.get h
theorem d_ix {k : Cn} : OpD k (rIx k.K) oIx := by
  intro fl A C H x y dx dy d C' Q hf hl st rx ry e q
  cases ry with
  | int i =>
    simp only [oIx] at e
    cases ev : vS dx C with
    | none => rw [ev] at e; cases e
    | some xs =>
      rw [ev] at e
      simp only [Option.bind_some, Option.map_eq_some_iff] at e
      obtain ⟨d', e1, e2⟩ := e
      cases e2
      obtain ⟨a, vs, rfl, hs, r⟩ := vS_at st rx ev
      obtain ⟨v, hv, rv⟩ := atI_rep r e1
      rcases hs with hs | hs
      · exact .inl ⟨a, vs, i, v, rfl, rfl, hs, hv, q A H v Stp.refl st rv⟩
      · exact .inr (.inl ⟨a, vs, i, v, rfl, rfl, hs, hv, q A H v Stp.refl st rv⟩)
  | _ => cases e
/-! ### dicts with tuple keys -/
theorem keyL_rep {k : Cn} {A : Nat → Addr} {C : Store} {H : Hp} : ∀ {vs : List V} {ds : List D} {ks : List Key}, RepL k A C H vs ds → keyL ds = some ks → vs = ks.map kV
  | _, _, _, .nil, e => by cases e; rfl
  | _, _, _, .cons r t, e => by
    cases r with
    | int i =>
      simp only [keyL, Option.map_eq_some_iff] at e
      obtain ⟨l, e1, e2⟩ := e
      cases e2
      rw [keyL_rep t e1]
      rfl
    | str s =>
      simp only [keyL, Option.map_eq_some_iff] at e
      obtain ⟨l, e1, e2⟩ := e
      cases e2
      rw [keyL_rep t e1]
      rfl
    | _ => cases e
theorem lookT_rep {k : Cn} {A : Nat → Addr} {C : Store} {H : Hp} (key : List Key) : ∀ {kvs : List (List Key × V)} {ds : List D}, RepL k A C H (kvs.map (·.2)) ds →
    (∀ d, lookT (kvs.map (·.1)) ds key = some d → ∃ v, valV kvs key = some v ∧ Rep k A C H v d) ∧ (lookT (kvs.map (·.1)) ds key = none → valV kvs key = none)
  | [], _, .nil => ⟨fun d h => (by cases h), fun _ => rfl⟩
  | p :: kvs, _, .cons r t => by
    have ih := lookT_rep key t
    by_cases e : p.1 = key
    · refine ⟨fun d h => ?_, fun h => ?_⟩
      · simp only [List.map_cons, lookT, if_pos e] at h
        cases h
        exact ⟨p.2, valV_pos e, r⟩
      · simp only [List.map_cons, lookT, if_pos e] at h
        cases h
    · refine ⟨fun d h => ?_, fun h => ?_⟩
      · simp only [List.map_cons, lookT, if_neg e] at h
        obtain ⟨v, h1, h2⟩ := ih.1 d h
        exact ⟨v, by rw [valV_neg e]; exact h1, h2⟩
      · simp only [List.map_cons, lookT, if_neg e] at h
        rw [valV_neg e]
        exact ih.2 h
theorem setT_rep {k : Cn} {A : Nat → Addr} {C : Store} {H : Hp} {v : V} {x : D} (key : List Key) (rx : Rep k A C H v x) : ∀ {kvs : List (List Key × V)} {ds : List D}, RepL k A C H (kvs.map (·.2)) ds →
    RepL k A C H ((kvs.map fun kv => if kv.1 = key then (kv.1, v) else kv).map (·.2)) (setT (kvs.map (·.1)) ds key x)
  | [], _, .nil => .nil
  | p :: kvs, _, .cons r t => by
    have ih := setT_rep key rx t
    by_cases e : p.1 = key
    · simp only [setT, List.map_cons, if_pos e]
      exact .cons rx ih
    · simp only [setT, List.map_cons, if_neg e]
      exact .cons r ih
theorem keys_map (key : List Key) (v : V) : ∀ kvs : List (List Key × V), (kvs.map fun kv => if kv.1 = key then (kv.1, v) else kv).map (·.1) = kvs.map (·.1)
  | [] => rfl
  | p :: kvs => by
    simp only [List.map_cons, keys_map key v kvs]
    split <;> rfl
theorem putK_rep {k : Cn} {A : Nat → Addr} {C : Store} {H : Hp} {v : V} {x : D} (key : List Key) (rx : Rep k A C H v x) {kvs : List (List Key × V)} {ds : List D} (r : RepL k A C H (kvs.map (·.2)) ds) :
    (putK kvs key v).map (·.1) = (putT (kvs.map (·.1)) ds key x).1 ∧ RepL k A C H ((putK kvs key v).map (·.2)) (putT (kvs.map (·.1)) ds key x).2 := by
  have ea : ((kvs.map (·.1)).any fun k => decide (k = key)) = (kvs.any fun kv => decide (kv.1 = key)) := by rw [List.any_map]; rfl
  unfold putK putT
  rw [ea]
  split
  · exact ⟨keys_map key v kvs, setT_rep key rx r⟩
  · rw [List.map_append, List.map_append]
    exact ⟨rfl, r.append (.cons rx .nil)⟩
/-- d[y] -/
def oDIx : O2 := fun x y C => match y with
  | .tup ds => (vD x C).bind fun p => (keyL ds).bind fun key => (lookT p.1 p.2 key).map fun d => (d, C)
  | _ => none
/-- a key that lies in the heap as a tuple -/
theorem key_at {k : Cn} {A : Nat → Addr} {C : Store} {H : Hp} {y : V} {ds : List D} {key : List Key} (r : Rep k A C H y (.tup ds)) (hk : keyL ds = some key) : ∃ b, y = .ref b ∧ H b = some (.tup (key.map kV)) := by
  cases r with
  | tup l h t =>
    have e := keyL_rep t hk
    subst e
    exact ⟨_, rfl, h⟩
section
variable {X : Cx} {k : Cn} {W : WX} {σ : L2.St} {H : Hp} {Q : VK}
theorem le_dix {ma mb : ME} (h : LE k W (mOp oDIx ma mb) σ H Q) : tDGet (LE k W ma) (LE k W mb) σ H Q := by
  obtain ⟨A, F, C, s, h⟩ := h
  refine ⟨A, F, C, s, (Aft.bnd (rel := RepD k) h).mono fun dx C1 A1 H1 x p1 st1 rx h1 => ?_⟩
  have s1 := s.step p1 st1
  refine ⟨A1, F, C1, s1, (Aft.bnd (rel := RepD k) h1).mono fun dy C2 A2 H2 y p2 st2 ry h2 => ?_⟩
  obtain ⟨d, C', e, q⟩ := aft_ofO h2
  unfold oDIx at e
  split at e
  · rename_i ds
    simp only [Option.bind_eq_some_iff, Option.map_eq_some_iff] at e
    obtain ⟨⟨ks, vs⟩, e1, key, e2, d', e3, e4⟩ := e
    cases e4
    obtain ⟨a, kvs, rfl, ha, hk, hr⟩ := vD_at st2 (p2.rep _ _ rx) e1
    obtain ⟨b, rfl, hb⟩ := key_at ry e2
    subst hk
    obtain ⟨v, hv, rv⟩ := (lookT_rep key hr).1 _ e3
    exact ⟨a, v, rfl, by rw [← hv]; exact dgT ha hb, q A2 H2 v Stp.refl st2 rv⟩
  · cases e
theorem le_dget {ma mb mc : ME} (h : LE k W (mDGet ma mb mc) σ H Q) : tDGet2 (LE k W ma) (LE k W mb) (LE k W mc) σ H Q := by
  obtain ⟨A, F, C, s, h⟩ := h
  refine ⟨A, F, C, s, (Aft.bnd (rel := RepD k) h).mono fun dx C1 A1 H1 x p1 st1 rx h1 => ?_⟩
  have s1 := s.step p1 st1
  have key1 : ∀ (A1 : Nat → Addr) (H1 : Hp) (x : V), StOk k A1 C1 H1 → Rep k A1 C1 H1 x dx → (vD dx C1).isSome = true → ∃ a, x = .ref a ∧ IsD H1 a := fun A1 H1 x st1 rx hs => by
    obtain ⟨⟨ks, vs⟩, e1⟩ := Option.isSome_iff_exists.mp hs
    obtain ⟨a, kvs, rfl, ha, _, _⟩ := vD_at st1 rx e1
    exact ⟨a, rfl, .inr ⟨kvs, ha⟩⟩
  by_cases hs : (vD dx C1).isSome = true
  · obtain ⟨a, rfl, hd⟩ := key1 A1 H1 x st1 rx hs
    rw [if_pos hs] at h1
    refine ⟨a, rfl, hd, A1, F, C1, s1, (Aft.bnd (rel := RepD k) h1).mono fun dy C2 A2 H2 y p2 st2 ry h2 => ?_⟩
    have s2 := s1.step p2 st2
    refine ⟨A2, F, C2, s2, (Aft.bnd (rel := RepD k) h2).mono fun dz C3 A3 H3 z p3 st3 rz h3 => ?_⟩
    obtain ⟨d, C', e, q⟩ := aft_ofO h3
    unfold oDGet at e
    split at e
    · rename_i ds
      simp only [Option.bind_eq_some_iff, Option.map_eq_some_iff] at e
      obtain ⟨⟨ks, vs⟩, e1, key, e2, e4⟩ := e
      cases e4
      obtain ⟨a', kvs, ea, ha, hk, hr⟩ := vD_at st3 (p3.rep _ _ (p2.rep _ _ rx)) e1
      cases ea
      obtain ⟨b, rfl, hb⟩ := key_at (p3.rep _ _ ry) e2
      subst hk
      refine ⟨_, dgT ha hb, ?_⟩
      cases el : lookT (kvs.map (·.1)) vs key with
      | none =>
        rw [(lookT_rep key hr).2 el]
        rw [el] at q
        exact q A3 H3 z Stp.refl st3 rz
      | some d =>
        obtain ⟨v, hv, rv⟩ := (lookT_rep key hr).1 _ el
        rw [hv]
        rw [el] at q
        exact q A3 H3 v Stp.refl st3 rv
    · cases e
  · rw [if_neg hs] at h1
    exact h1.elim
theorem de_dix {a b : Expr} {pos : Pos} {ma mb : ME} (hu : X.A.units + 1 < cLine) (ha : PE X a (LE k W ma)) (hb : PE X b (LE k W mb)) (hs : NoSl b := by exact fun _ _ => rfl) : PE X (.Subscript a b pos) (LE k W (mOp oDIx ma mb)) := (pe_dget hu ha hb hs).cq fun _ _ _ h => le_dix h
theorem de_dget {o e f : Expr} {apos cpos : Pos} {ma mb mc : ME} (hu : X.A.units + 1 < cLine) (ho : PE X o (LE k W ma)) (he : PE X e (LE k W mb)) (hf : PE X f (LE k W mc)) (m : M2 X o "get" apos e f cpos := by exact ⟨rfl, rfl, rfl, rfl⟩) :
    PE X (.Call (.Attribute o "get" apos) [e, f] [] cpos) (LE k W (mDGet ma mb mc)) := (pe_dget2 hu ho he hf m).cq fun _ _ _ h => le_dget h
end
end CT
set_option maxHeartbeats 4000000
/-! DL4: statements, defs over data. -/
namespace CT
open PySem L2
def AftS (k : Cn) (W : WX) (fl : Nat) (A : Nat → Addr) (C : Store) (H : Hp) (m : RS) (E : Ends) : Prop := match m with
  | .nx sl C' => ∀ A' σ' H', Stp k fl A C H A' C' H' → SR k A' ⟨fl, sl⟩ C' σ' H' → E.nx σ' H'
  | .bk sl C' => ∀ A' σ' H', Stp k fl A C H A' C' H' → SR k A' ⟨fl, sl⟩ C' σ' H' → E.bk σ' H'
  | .ct sl C' => ∀ A' σ' H', Stp k fl A C H A' C' H' → SR k A' ⟨fl, sl⟩ C' σ' H' → E.ct σ' H'
  | .rt d C' => ∀ A' H' v, Stp k fl A C H A' C' H' → StOk k A' C' H' → Rep k A' C' H' v d → E.rt v H'
  | .xc e sl C' => ∀ A' σ' H' dd vs, Stp k fl A C H A' C' H' → SR k A' ⟨fl, sl⟩ C' σ' H' → H' dd = some (.xd ((k.fn e.c).zip vs)) → vs.length = (k.fn e.c).length → RepL k A' C' H' vs e.fs → W (.ref (k.cl e.c)) (some dd) σ' H'
  | .stuck => False
def LS (k : Cn) (W : WX) (m : MS) : TS := fun E σ H => ∃ A F C, SR k A F C σ H ∧ AftS k W F.fl A C H (m F C) E
section
variable {k : Cn} {W : WX} {fl : Nat} {A A1 : Nat → Addr} {C C1 : Store} {H H1 : Hp} {m : RS} {E E' : Ends}
theorem AftS.shift (s : Stp k fl A C H A1 C1 H1) (h : AftS k W fl A C H m E) : AftS k W fl A1 C1 H1 m E := by
  cases m with
  | nx sl C' => exact fun A' σ' H' p r => h A' σ' H' (s.trans p) r
  | bk sl C' => exact fun A' σ' H' p r => h A' σ' H' (s.trans p) r
  | ct sl C' => exact fun A' σ' H' p r => h A' σ' H' (s.trans p) r
  | rt d C' => exact fun A' H' v p st r => h A' H' v (s.trans p) st r
  | xc e sl C' => exact fun A' σ' H' dd vs p r x l t => h A' σ' H' dd vs (s.trans p) r x l t
  | stuck => exact h
end
/-! ### simple statements -/
theorem AftS.bnd {k : Cn} {W : WX} {F : Fr} {A : Nat → Addr} {C : Store} {σ : L2.St} {H : Hp} {E : Ends} {α β : Type} {rel : (Nat → Addr) → Store → Hp → β → α → Prop} {m : R α} {f : α → Store → RS} (s : SR k A F C σ H)
    (h : AftS k W F.fl A C H (bndS F.sl m f) E) : Aft k F.fl A C H rel m (fun d C1 A1 H1 v => AftS k W F.fl A1 C1 H1 (f d C1) E) (fun c d H' => W c d σ H') := by
  cases m with
  | ok d C' => exact fun A' H' v p st r => AftS.shift p h
  | exc e C' => exact fun A' H' dd vs p st x l r => h A' σ H' dd vs p (s.step p st) x l r
  | stuck => exact h
def sNever : MS := fun _ _ => .stuck
section
variable {X : Cx} {k : Cn} {W : WX} {E : Ends} {σ : L2.St} {H : Hp}
theorem ls_next (h : LS k W sNext E σ H) : tNext E σ H := by
  obtain ⟨A, F, C, s, h⟩ := h
  exact h A σ H Stp.refl s
theorem ls_seq {a b : MS} (h : LS k W (sSeq a b) E σ H) : tSeq (LS k W a) (LS k W b) E σ H := by
  obtain ⟨A, F, C, s, h⟩ := h
  refine ⟨A, F, C, s, ?_⟩
  unfold sSeq at h
  cases e : a F C with
  | nx sl C' =>
    rw [e] at h
    exact fun A' σ' H' p r => ⟨A', ⟨F.fl, sl⟩, C', r, AftS.shift p h⟩
  | bk sl C' => rw [e] at h; exact h
  | ct sl C' => rw [e] at h; exact h
  | rt d C' => rw [e] at h; exact h
  | xc x sl C' => rw [e] at h; exact h
  | stuck => rw [e] at h; exact h
theorem ls_drop {m : ME} (h : LS k W (sDrop m) E σ H) : tDrop (LE k W m) E σ H := by
  obtain ⟨A, F, C, s, h⟩ := h
  exact ⟨A, F, C, s, (AftS.bnd (rel := RepD k) s h).mono fun d C1 A1 H1 v p st r h1 => h1 A1 σ H1 Stp.refl (s.step p st)⟩
theorem ls_ret {m : ME} (h : LS k W (sRet m) E σ H) : tRet (LE k W m) E σ H := by
  obtain ⟨A, F, C, s, h⟩ := h
  exact ⟨A, F, C, s, (AftS.bnd (rel := RepD k) s h).mono fun d C1 A1 H1 v p st r h1 => h1 A1 H1 v Stp.refl st r⟩
theorem ls_if {t : MT} {a b : MS} (h : LS k W (sIf t a b) E σ H) : tIfS (LT k W t) (LS k W a) (LS k W b) E σ H := by
  obtain ⟨A, F, C, s, h⟩ := h
  refine ⟨A, F, C, s, (AftS.bnd (rel := RepB) s h).mono fun dx C1 A1 H1 x p st rx h1 => ?_⟩
  have rx : x = dx := rx
  subst rx
  cases x with
  | true => exact iteT ⟨A1, F, C1, s.step p st, h1⟩
  | false => exact iteF ⟨A1, F, C1, s.step p st, h1⟩
theorem dss_nil : PSs X [] (LS k W sNext) := pss_nil.cq fun _ _ _ h => ls_next h
theorem dss_cons {st : Stmt} {rest : List Stmt} {a b : MS} (h1 : PS X st (LS k W a)) (h2 : PSs X rest (LS k W b)) : PSs X (st :: rest) (LS k W (sSeq a b)) := (pss_cons h1 h2).cq fun _ _ _ h => ls_seq h
theorem dss_one {st : Stmt} {a : MS} (h1 : PS X st (LS k W a)) : PSs X [st] (LS k W a) := pss_one h1
theorem ds_expr {e : Expr} {pos : Pos} {m : ME} (he : PE X e (LE k W m)) (hs : swapsWith e none pos.line X.env = pure false := by rfl) : PS X (.Expr e pos) (LS k W (sDrop m)) := (ps_expr he hs).cq fun _ _ _ h => ls_drop h
theorem ds_ret {e : Expr} {pos : Pos} {m : ME} (he : PE X e (LE k W m)) : PS X (.Return (some e) pos) (LS k W (sRet m)) := (ps_ret he).cq fun _ _ _ h => ls_ret h
theorem ds_if {c : Expr} {a b : List Stmt} {pos : Pos} {t : MT} {m n : MS} (hc : PT X c (LT k W t)) (ha : PSs X a (LS k W m)) (hb : PSs X b (LS k W n)) : PS X (.If c a b pos) (LS k W (sIf t m n)) := (ps_if hc ha hb).cq fun _ _ _ h => ls_if h
theorem ds_never {st : Stmt} : PS X st (LS k W sNever) := ps_never.cq fun E σ H h => by
  obtain ⟨A, F, C, s, h⟩ := h
  exact h.elim
end
/-! ### targets -/
def gsN : List Nat → TGs
  | [] => gNil
  | i :: is => gCons (gName i) (gsN is)
section
variable {X : Cx} {k : Cn}
theorem setAll_len : ∀ {is : List Nat} {ds : List D} {sl sl' : List (Option D)}, setAll is ds sl = some sl' → ds.length = is.length
  | [], [], _, _, _ => rfl
  | _ :: is, _ :: ds, _, _, h => by
    have := setAll_len (is := is) (ds := ds) h
    simp [this]
  | [], _ :: _, _, _, h => by cases h
  | _ :: _, [], _, _, h => by cases h
theorem _root_.L2.PG.cq {X : Cx} {e : Expr} {t t' : TG} (h : PG X e t) (c : ∀ v σ H Q, t' v σ H Q → t v σ H Q) : PG X e t' := ⟨fun pins s σ H v u Q I r q => h.run pins s σ H v u Q I r (c v σ H Q q)⟩
end
end CT
set_option maxHeartbeats 4000000
/-! DL5: stores, loops over data. -/
namespace CT
open PySem L2
section
variable {X : Cx} {k : Cn} {W : WX} {E : Ends} {σ : L2.St} {H : Hp}
/-! ### assignments -/
theorem ls_set {m : ME} {i : Nat} (h : LS k W (sAsg m (gN i)) E σ H) : tAsg (LE k W m) (gName i) E σ H := by
  obtain ⟨A, F, C, s, h⟩ := h
  exact ⟨A, F, C, s, (AftS.bnd (rel := RepD k) s h).mono fun d C1 A1 H1 v p st r h1 => h1 A1 _ H1 Stp.refl ((s.step p st).set r)⟩
theorem ds_set {i : Nat} {x : Str} {e : Expr} {pos pos' : Pos} {m : ME} (hN : X.N.Nodup) (hi : X.N[i]? = some x) (hx : Loc X.env.scope x) (he : PE X e (LE k W m)) (hs : swapsWith e (some (.Name x pos')) pos.line X.env = pure false := by rfl) (hf : X.fn x = true ∨ X.env.scope.names.lookup x = some .local := by first | exact .inl rfl | exact .inr rfl | assumption) :
    PS X (.Assign [.Name x pos'] e pos) (LS k W (sAsg m (gN i))) := (ps_set hN hi hx he hs hf).cq fun _ _ _ h => ls_set h
theorem ls_par {i j : Nat} {m : MA} (h : LS k W (sPar [i, j] m) E σ H) : tPar i j (LA k W m) E σ H := by
  obtain ⟨A, F, C, s, h⟩ := h
  refine ⟨A, F, C, s, (AftS.bnd (rel := RepDs k) s h).mono fun d C1 A1 H1 vs p st r h1 => ?_⟩
  cases r with
  | nil => exact h1.elim
  | cons r1 t1 =>
    cases t1 with
    | nil => exact h1.elim
    | cons r2 t2 =>
      cases t2 with
      | nil => exact ⟨_, _, rfl, h1 A1 _ H1 Stp.refl (((s.step p st).set r1).set r2)⟩
      | cons r3 t3 => exact h1.elim
theorem ds_par {i j : Nat} {x y : Str} {a b : Expr} {px py pt pos : Pos} {kt k2 pt2} {m : MA} (hc : X.calm = true) (hN : X.N.Nodup) (hi : X.N[i]? = some x) (hj : X.N[j]? = some y) (hij : i ≠ j)
    (hx : X.env.scope.names.lookup x = some .local) (hy : X.env.scope.names.lookup y = some .local) (ha : PA X [a, b] (LA k W m))
    (hw : swappedStores [.Tuple [.Name x px, .Name y py] kt pt] (.Tuple [a, b] k2 pt2) X.env = pure (some [x, y]) := by rfl)
    (hs : swapsWithSole [.Tuple [.Name x px, .Name y py] kt pt] (.Tuple [a, b] k2 pt2) pos.line X.env = pure false := by rfl) :
    PS X (.Assign [.Tuple [.Name x px, .Name y py] kt pt] (.Tuple [a, b] k2 pt2) pos) (LS k W (sPar [i, j] m)) := (ps_par hc hN hi hj hij hx hy ha hw hs).cq fun _ _ _ h => ls_par h
end
/-! ### cells written -/
theorem wr_some {fl i : Nat} {c : Cell} {C C' : Store} (h : wr fl i c C = some C') : C' = C.set i (some c) ∧ (i < fl → cbC 0 c = true) := by
  unfold wr at h
  split at h
  · cases h
  · rename_i hn
    cases h
    refine ⟨rfl, fun hi => ?_⟩
    cases e : cbC 0 c with
    | true => rfl
    | false => exact absurd ⟨hi, e⟩ hn
section
variable {k : Cn} {A : Nat → Addr} {C C' : Store} {H : Hp} {fl i : Nat}
theorem write_L {c0 : Cell} {ds : List D} {vs : List V} (st : StOk k A C H) (hi : C[i]? = some (some c0)) (r : RepL k A C H vs ds) (h : wr fl i (.lst ds) C = some C') :
    Stp k fl A C H A C' (upd H (A i) (.lst vs)) ∧ StOk k A C' (upd H (A i) (.lst vs)) := by
  obtain ⟨rfl, hc⟩ := wr_some h
  have q : Kp A C H A (C.set i (some (.lst ds))) (upd H (A i) (.lst vs)) := kp_write st hi
  exact ⟨q.stp fun f h1 h2 l => low_set hc h1 l, st.write hi ⟨vs, upd_same, r.kp q⟩⟩
theorem write_D {c0 : Cell} {ks : List (List Key)} {ds : List D} {kvs : List (List Key × V)} (st : StOk k A C H) (hi : C[i]? = some (some c0)) (hk : kvs.map (·.1) = ks) (r : RepL k A C H (kvs.map (·.2)) ds) (h : wr fl i (.dT ks ds) C = some C') :
    Stp k fl A C H A C' (upd H (A i) (.dT kvs)) ∧ StOk k A C' (upd H (A i) (.dT kvs)) := by
  obtain ⟨rfl, hc⟩ := wr_some h
  have q : Kp A C H A (C.set i (some (.dT ks ds))) (upd H (A i) (.dT kvs)) := kp_write st hi
  exact ⟨q.stp fun f h1 h2 l => low_set hc h1 l, st.write hi ⟨kvs, upd_same, hk, r.kp q⟩⟩
end
section
variable {k : Cn} {A : Nat → Addr} {C : Store} {H : Hp} {v : V} {d : D} {i : Nat}
theorem cL_at {ds : List D} (st : StOk k A C H) (r : Rep k A C H v d) (e : cL d C = some (i, ds)) : d = .cell i ∧ v = .ref (A i) ∧ C[i]? = some (some (.lst ds)) ∧ ∃ vs, H (A i) = some (.lst vs) ∧ RepL k A C H vs ds := by
  cases r with
  | cell hi =>
    simp only [cL] at e
    split at e
    · rename_i xs ec
      cases e
      exact ⟨rfl, rfl, ec, st.at_ i _ ec⟩
    · cases e
  | _ => cases e
theorem cD_at {ks : List (List Key)} {ds : List D} (st : StOk k A C H) (r : Rep k A C H v d) (e : cD d C = some (i, ks, ds)) : d = .cell i ∧ v = .ref (A i) ∧ C[i]? = some (some (.dT ks ds)) ∧ ∃ kvs : List (List Key × V), H (A i) = some (.dT kvs) ∧ kvs.map (·.1) = ks ∧ RepL k A C H (kvs.map (·.2)) ds := by
  cases r with
  | cell hi =>
    simp only [cD] at e
    split at e
    · rename_i xs ec
      cases e
      exact ⟨rfl, rfl, ec, st.at_ i _ ec⟩
    · cases e
  | _ => cases e
end
section
variable {X : Cx} {k : Cn} {W : WX} {E : Ends} {σ : L2.St} {H : Hp}
theorem ls_setL {me mo mi : ME} (h : LS k W (sSetL me mo mi) E σ H) : tAsg (LE k W me) (gSub (LE k W mo) (LE k W mi) rSetL) E σ H := by
  obtain ⟨A, F, C, s, h⟩ := h
  refine ⟨A, F, C, s, (AftS.bnd (rel := RepD k) s h).mono fun dv C1 A1 H1 v p1 st1 rv h1 => ?_⟩
  have s1 := s.step p1 st1
  refine ⟨A1, F, C1, s1, (AftS.bnd (rel := RepD k) s1 h1).mono fun dO C2 A2 H2 o p2 st2 ro h2 => ?_⟩
  have s2 := s1.step p2 st2
  refine ⟨A2, F, C2, s2, (AftS.bnd (rel := RepD k) s2 h2).mono fun dx C3 A3 H3 x p3 st3 rx h3 => ?_⟩
  have s3 := s2.step p3 st3
  cases rx with
  | int n =>
    cases ec : cL dO C3 with
    | none => simp only [ec] at h3; exact h3.elim
    | some q =>
      obtain ⟨i, ds⟩ := q
      simp only [ec] at h3
      obtain ⟨rfl, rfl, hi, vs, hv, rvs⟩ := cL_at st3 (p3.rep _ _ ro) ec
      cases ej : ixN ds.length n with
      | none => simp only [ej] at h3; exact h3.elim
      | some j =>
        simp only [ej] at h3
        cases ew : wr F.fl i (.lst (ds.set j dv)) C3 with
        | none => simp only [ew] at h3; exact h3.elim
        | some C4 =>
          simp only [ew] at h3
          obtain ⟨q1, q2⟩ := write_L st3 hi (rvs.set (p3.rep _ _ (p2.rep _ _ rv)) j) ew
          exact ⟨A3 i, vs, n, j, rfl, rfl, hv, by rw [rvs.length]; exact ej, h3 A3 σ _ q1 (s3.step q1 q2)⟩
  | _ => exact h3.elim
theorem ls_put {me mo mi : ME} (h : LS k W (sPut me mo mi) E σ H) : sDPut (LE k W mo) (LE k W mi) (LE k W me) E σ H := by
  obtain ⟨A, F, C, s, h⟩ := h
  refine ⟨A, F, C, s, (AftS.bnd (rel := RepD k) s h).mono fun dv C1 A1 H1 v p1 st1 rv h1 => ?_⟩
  have s1 := s.step p1 st1
  refine ⟨A1, F, C1, s1, (AftS.bnd (rel := RepD k) s1 h1).mono fun dO C2 A2 H2 o p2 st2 ro h2 => ?_⟩
  have s2 := s1.step p2 st2
  refine ⟨A2, F, C2, s2, (AftS.bnd (rel := RepD k) s2 h2).mono fun dx C3 A3 H3 x p3 st3 rx h3 => ?_⟩
  have s3 := s2.step p3 st3
  cases dx with
  | tup ds =>
    cases ec : cD dO C3 with
    | none => simp only [ec] at h3; exact h3.elim
    | some q =>
      obtain ⟨i, ks, vs⟩ := q
      simp only [ec] at h3
      obtain ⟨rfl, rfl, hi, kvs, hv, hk, rvs⟩ := cD_at st3 (p3.rep _ _ ro) ec
      cases ej : keyL ds with
      | none => simp only [ej] at h3; exact h3.elim
      | some key =>
        simp only [ej] at h3
        split at h3
        · rename_i hz
          cases ew : wr F.fl i (.dT (putT ks vs key dv).1 (putT ks vs key dv).2) C3 with
          | none => simp only [ew] at h3; exact h3.elim
          | some C4 =>
            simp only [ew] at h3
            obtain ⟨b, rfl, hb⟩ := key_at rx ej
            subst hk
            have hz' : kvs.length < sizeLine := by
              have := szN_le hz
              rw [List.length_map] at this
              omega
            obtain ⟨k1, k2⟩ := putK_rep key (p3.rep _ _ (p2.rep _ _ rv)) rvs
            obtain ⟨q1, q2⟩ := write_D st3 hi k1 k2 ew
            exact ⟨A3 i, _, rfl, DPut.t hv hb hz', h3 A3 σ _ q1 (s3.step q1 q2)⟩
        · exact h3.elim
  | _ => exact h3.elim
theorem ds_setL {o i e : Expr} {pos pos' : Pos} {me mo mi : ME} (he : PE X e (LE k W me)) (hg : PG X (.Subscript o i pos') (gSub (LE k W mo) (LE k W mi) rSetL))
    (hs : swapsWithSole [.Subscript o i pos'] e pos.line X.env = pure false := by rfl) (hw : swappedStores [.Subscript o i pos'] e X.env = pure none := by rfl) (h1 : (assignEach [.Subscript o i pos'] X.env).map (·.2) = [assign (.Subscript o i pos') X.env] := by rfl) :
    PS X (.Assign [.Subscript o i pos'] e pos) (LS k W (sSetL me mo mi)) := (ps_asg he hg hs hw h1).cq fun _ _ _ h => ls_setL h
theorem ds_put {o i e : Expr} {pos pos' : Pos} {me mo mi : ME} (hu : X.A.units + 1 < cLine) (he : PE X e (LE k W me)) (ho : PE X o (LE k W mo)) (hi : PE X i (LE k W mi)) (hs : swapsWith e (some (.Subscript o i pos')) pos.line X.env = pure false := by rfl) :
    PS X (.Assign [.Subscript o i pos'] e pos) (LS k W (sPut me mo mi)) := (ps_dput hu ho hi he hs).cq fun _ _ _ h => ls_put h
end
/-! ### list methods that write -/
def mAppend (mo me : ME) : ME := fun F C => bnd (mo F C) fun o C1 => if (vL o C1).isSome = true then bnd (me F C1) fun v C2 => match cL o C2 with
    | some (i, ds) => if szN (ds.length + 1) = true then match wr F.fl i (.lst (ds ++ [v])) C2 with
      | some C3 => .ok .non C3
      | none => .stuck
      else .stuck
    | none => .stuck
  else .stuck
section
variable {X : Cx} {k : Cn} {W : WX} {σ : L2.St} {H : Hp} {Q : VK}
theorem tyL {A : Nat → Addr} {C : Store} {v : V} {d : D} (st : StOk k A C H) (r : Rep k A C H v d) (h : (vL d C).isSome = true) : tyV k.K "list" v H := by
  obtain ⟨xs, e⟩ := Option.isSome_iff_exists.mp h
  obtain ⟨a, vs, rfl, ha, _⟩ := vL_at st r e
  exact Or.inl ⟨rfl, vs, .inl (.inl ha)⟩
theorem le_append {mo me : ME} (h : LE k W (mAppend mo me) σ H Q) : tBM k.K "list" rAppend (LE k W mo) (tCons (LE k W me) tNil) σ H Q := by
  obtain ⟨A, F, C, s, h⟩ := h
  refine ⟨A, F, C, s, (Aft.bnd (rel := RepD k) h).mono fun dO C1 A1 H1 o p1 st1 ro h1 => ?_⟩
  have s1 := s.step p1 st1
  split at h1
  · rename_i hs
    refine ⟨tyL st1 ro hs, A1, F, C1, s1, (Aft.bnd (rel := RepD k) h1).mono fun dv C2 A2 H2 v p2 st2 rv h2 => ?_⟩
    cases ec : cL dO C2 with
    | none => simp only [ec] at h2; exact h2.elim
    | some q =>
      obtain ⟨i, ds⟩ := q
      simp only [ec] at h2
      obtain ⟨rfl, rfl, hi, vs, hv, rvs⟩ := cL_at st2 (p2.rep _ _ ro) ec
      split at h2
      · rename_i hz
        cases ew : wr F.fl i (.lst (ds ++ [dv])) C2 with
        | none => simp only [ew] at h2; exact h2.elim
        | some C3 =>
          simp only [ew] at h2
          obtain ⟨q1, q2⟩ := write_L st2 hi (rvs.append (.cons rv .nil)) ew
          exact ⟨A2 i, vs, v, rfl, rfl, hv, by have := szN_le hz; rw [rvs.length]; omega, h2 A2 _ .non q1 q2 .non⟩
      · exact h2.elim
  · exact h1.elim
variable {o e e2 : Expr} {apos cpos : Pos} {mo me mi : ME}
theorem de_append (hK : X.K = k.K := by rfl) (ho : PE X o (LE k W mo)) (he : PE X e (LE k W me)) (hs : starEach [e] X.env = (false, eval e X.env) :: starEach [] X.env := by rfl) (hbase : attributeBase o "append" X.env (eval o X.env) = eval o X.env := by rfl)
    (hfew : ((backTo cpos (starEach [e] X.env)).all (fun x => !x.1) && (backToKw cpos (keywordEach [] X.env)).all (fun x => x.1.isSome) && decide ([e].length + ([] : List Keyword).length + (if ([] : List Keyword).isEmpty then 0 else 1) < 30)) = true := by rfl)
    (hline : (apos.endLine == cpos.line) = true := by rfl) (hplain : (backTo cpos (starEach [] X.env)).any (·.1) = false := by rfl) : PE X (.Call (.Attribute o "append" apos) [e] [] cpos) (LE k W (mAppend mo me)) :=
  (pe_bm PySem.F.plainAttrs_list PySem.F.slot_list_append PySem.F.type_list_append mt_append ho (pa_cons he pa_nil hs) hbase hfew hline hs hplain).cq fun _ _ _ h => by
    rw [hK]
    exact le_append h
end
end CT
set_option maxHeartbeats 4000000
/-! DL6: targets, loops, comprehensions over data. -/
namespace CT
open PySem L2
/-! ### targets of names -/
def Tgt.T (K : PySem.W.Frag) : Tgt → TG
  | .nm i => gName i
  | .tp is => gTup K is.length (gsN is)
  | .np is l => gTup K 2 (gCons (gTup K is.length (gsN is)) (gCons (gName l) gNil))
def Tgt.slots : Tgt → List Nat
  | .nm i => [i]
  | .tp is => is
  | .np is l => l :: is
theorem wipe_get {σ : L2.St} {j : Nat} : ∀ {vs : List Nat}, (wipe σ vs)[j]? = if j ∈ vs then (if j < σ.length then some none else none) else σ[j]?
  | [] => by simp [wipe]
  | v :: vs => by
    unfold wipe
    have ih := wipe_get (σ := σ) (j := j) (vs := vs)
    by_cases e : v = j
    · subst e
      by_cases hl : v < σ.length
      · rw [List.getElem?_set_self (by rw [wipe_length]; exact hl), if_pos (by simp), if_pos hl]
      · rw [List.getElem?_eq_none (by rw [List.length_set, wipe_length]; omega), if_pos (by simp), if_neg hl]
    · rw [List.getElem?_set_ne e, ih]
      by_cases hj : j ∈ vs
      · rw [if_pos hj, if_pos (List.mem_cons_of_mem _ hj)]
      · rw [if_neg hj, if_neg (by simp; exact ⟨fun z => e z.symm, hj⟩)]
theorem wipe_set {σ : L2.St} {i : Nat} {x : Option V} {vs : List Nat} (h : i ∈ vs) : wipe (σ.set i x) vs = wipe σ vs := by
  apply List.ext_getElem?
  intro j
  rw [wipe_get, wipe_get, List.length_set]
  by_cases hj : j ∈ vs
  · rw [if_pos hj, if_pos hj]
  · rw [if_neg hj, if_neg hj, List.getElem?_set_ne (fun (e : i = j) => hj (by rw [← e]; exact h))]
theorem wipe_wipe {σ : L2.St} {vs : List Nat} : wipe (wipe σ vs) vs = wipe σ vs := by
  apply List.ext_getElem?
  intro j
  rw [wipe_get, wipe_length]
  by_cases hj : j ∈ vs
  · rw [if_pos hj, wipe_get, if_pos hj]
  · rw [if_neg hj]
section
variable {k : Cn} {A : Nat → Addr} {F : Fr} {C : Store} {σ : L2.St} {H : Hp} {fl : Nat} {sl : List (Option D)}
theorem SR.wipe (s : SR k A ⟨fl, sl⟩ C σ H) : ∀ vs : List Nat, SR k A ⟨fl, wipeD sl vs⟩ C (L2.wipe σ vs) H
  | [] => s
  | v :: vs => (SR.wipe s vs).unset
theorem gsN_of2 {Q : L2.St → Hp → Prop} {vs0 : List Nat} : ∀ {is : List Nat} {vs : List V} {ds : List D} {sl sl' : List (Option D)} {σ : L2.St}, SR k A ⟨fl, sl⟩ C σ H → RepL k A C H vs ds → setAll is ds sl = some sl' →
    (∀ σ', SR k A ⟨fl, sl'⟩ C σ' H → ((∀ i ∈ is, i ∈ vs0) → L2.wipe σ' vs0 = L2.wipe σ vs0) → Q σ' H) → gsN is vs σ H Q
  | [], _, _, _, _, _, s, .nil, e, q => by
    cases e
    exact ⟨rfl, q _ s fun _ => rfl⟩
  | i :: is, _, _, _, _, _, s, .cons r t, e, q => by
    refine ⟨_, _, rfl, gsN_of2 (vs0 := vs0) (is := is) (s.set (i := i) r) t e fun σ' s' w => q σ' s' fun hi => ?_⟩
    rw [w fun j hj => hi j (List.mem_cons_of_mem _ hj)]
    exact wipe_set (hi i (List.mem_cons_self ..))
  | [], _, _, _, _, _, s, .cons r t, e, q => by cases e
  | i :: is, _, _, _, _, _, s, .nil, e, q => by cases e
theorem Tgt.of {t : Tgt} {v : V} {d : D} {sl' : List (Option D)} {Q : L2.St → Hp → Prop} {vs0 : List Nat} (s : SR k A ⟨fl, sl⟩ C σ H) (r : Rep k A C H v d) (e : t.M d sl = some sl')
    (q : ∀ σ', SR k A ⟨fl, sl'⟩ C σ' H → ((∀ i ∈ t.slots, i ∈ vs0) → L2.wipe σ' vs0 = L2.wipe σ vs0) → Q σ' H) : t.T k.K v σ H Q := by
  cases t with
  | nm i =>
    cases e
    exact q _ (s.set r) fun hi => wipe_set (hi i (by simp [Tgt.slots]))
  | tp is =>
    simp only [Tgt.M, gT] at e
    cases ev : vT d with
    | none => rw [ev] at e; cases e
    | some ds =>
      rw [ev] at e
      obtain ⟨a, vs, rfl, hs, rl⟩ := vT_at r ev
      exact ⟨a, vs, rfl, hs, by rw [rl.length, setAll_len e], gsN_of2 (vs0 := vs0) s rl e q⟩
  | np is l =>
    simp only [Tgt.M, gNP] at e
    split at e
    · rename_i x y ev
      obtain ⟨a, vs, rfl, hs, rl⟩ := vT_at r ev
      simp only [gT, gN, Option.bind_eq_some_iff] at e
      obtain ⟨sl1, ⟨ds, ev2, e1⟩, e2⟩ := e
      cases e2
      cases rl with
      | cons r1 t1 =>
        cases t1 with
        | cons r2 t2 =>
          cases t2 with
          | nil =>
            obtain ⟨a2, vs2, rfl, hs2, rl2⟩ := vT_at r1 ev2
            refine ⟨a, _, rfl, hs, rfl, _, _, rfl, ⟨a2, vs2, rfl, hs2, by rw [rl2.length, setAll_len e1], gsN_of2 (vs0 := vs0) s rl2 e1 fun σ' s' w => ?_⟩⟩
            refine ⟨_, _, rfl, rfl, q _ (s'.set r2) fun hi => ?_⟩
            rw [← w fun i h => hi i (List.mem_cons_of_mem _ h)]
            exact wipe_set (hi l (List.mem_cons_self ..))
    · cases e
end
section
variable {X : Cx} {k : Cn} {W : WX} {E : Ends} {σ : L2.St} {H : Hp}
theorem tg_nm {i : Nat} {x : Str} {pos : Pos} (hN : X.N.Nodup) (hi : X.N[i]? = some x) (hx : Loc X.env.scope x) (hf : X.fn x = true ∨ X.env.scope.names.lookup x = some .local := by first | exact .inl rfl | exact .inr rfl | assumption) : PG X (.Name x pos) (Tgt.T k.K (.nm i)) := pg_name hN hi hx hf
theorem tg_tp {es : List Expr} {kk : Nat} {pos : Pos} (is : List Nat) (hK : X.K = k.K) (hc : X.calm = true) (h : PGs X es (gsN is)) (hn : (assignEach es X.env).length = is.length := by rfl) (hst : (assignEach es X.env).findIdx? (·.1) = none := by rfl) :
    PG X (.Tuple es kk pos) (Tgt.T k.K (.tp is)) := by
  have h' := pg_tup (k := kk) (pos := pos) hc h hn hst
  rw [hK] at h'
  exact h'
theorem ls_asg2 {m : ME} {t : Tgt} (h : LS k W (sAsg m t.M) E σ H) : tAsg (LE k W m) (t.T k.K) E σ H := by
  obtain ⟨A, F, C, s, h⟩ := h
  refine ⟨A, F, C, s, (AftS.bnd (rel := RepD k) s h).mono fun d C1 A1 H1 v p st r h1 => ?_⟩
  cases e : t.M d F.sl with
  | none => rw [e] at h1; exact h1.elim
  | some sl =>
    rw [e] at h1
    exact Tgt.of (vs0 := []) (s.step p st) r e fun σ' s' _ => h1 A1 σ' H1 Stp.refl s'
theorem ds_asgT {tg e : Expr} {pos : Pos} {m : ME} {t : Tgt} (he : PE X e (LE k W m)) (hg : PG X tg (t.T k.K)) (hs : swapsWithSole [tg] e pos.line X.env = pure false := by rfl) (hw : swappedStores [tg] e X.env = pure none := by rfl)
    (h1 : (assignEach [tg] X.env).map (·.2) = [assign tg X.env] := by rfl) : PS X (.Assign [tg] e pos) (LS k W (sAsg m t.M)) := (ps_asg he hg hs hw h1).cq fun _ _ _ h => ls_asg2 h
end
/-! ### what is walked -/
def ItOk (k : Cn) (fl : Nat) (J : It) (it : ItD) (A : Nat → Addr) (C : Store) (H : Hp) : Prop := ∀ A' C' H', Stp k fl A C H A' C' H' → StOk k A' C' H' →
  (∀ j d, j < it.n → it.item j C' = some d → J.go j H' ∧ ∀ x H'', J.yld j H' x H'' → ∃ A'', Stp k fl A' C' H' A'' C' H'' ∧ StOk k A'' C' H'' ∧ Rep k A'' C' H'' x d) ∧ (it.fin C' = true → J.stop it.n H')
def LI (k : Cn) (W : WX) (m : MI) : TI := fun σ H Rr => ∃ A F C, SR k A F C σ H ∧ Aft k F.fl A C H (fun A C H (J : It) (it : ItD) => ItOk k F.fl J it A C H) (m F C) (fun _ _ _ H' J => Rr J H') (fun c d H' => W c d σ H')
/-! ### for -/
section
variable {X : Cx} {k : Cn} {W : WX} {E : Ends} {σ : L2.St} {H : Hp}
theorem ls_for {mi : MI} {t : Tgt} {body : MS} (h : LS k W (sFor mi t.M body) E σ H) : tFor (LI k W mi) (t.T k.K) (LS k W body) E σ H := by
  obtain ⟨A, F, C, s, h⟩ := h
  refine ⟨A, F, C, s, (AftS.bnd (rel := fun A C H (J : It) (it : ItD) => ItOk k F.fl J it A C H) s h).mono fun it C1 A1 H1 J p1 st1 ok h1 => ?_⟩
  refine ⟨fun i m σ' H' => ∃ A' C' sl, m = it.n - i ∧ i ≤ it.n ∧ Stp k F.fl A1 C1 H1 A' C' H' ∧ SR k A' ⟨F.fl, sl⟩ C' σ' H' ∧ AftS k W F.fl A' C' H' (loopN it t.M body F.fl (it.n - i) i sl C') E,
    ⟨it.n, A1, C1, F.sl, rfl, Nat.zero_le _, Stp.refl, s.step p1 st1, h1⟩, ?_⟩
  rintro i m σ' H' ⟨A', C', sl, rfl, hi, p, s', h'⟩
  obtain ⟨o1, o2⟩ := ok A' C' H' p s'.st
  cases er : it.n - i with
  | zero =>
    rw [er] at h'
    unfold loopN at h'
    have e : i = it.n := by omega
    split at h'
    · rename_i hf
      subst e
      exact .inl ⟨o2 hf, h' A' σ' H' Stp.refl s'⟩
    · exact h'.elim
  | succ r =>
    rw [er] at h'
    unfold loopN at h'
    have hlt : i < it.n := by omega
    cases ei : it.item i C' with
    | none => simp only [ei] at h'; exact h'.elim
    | some d =>
      simp only [ei] at h'
      obtain ⟨g1, g2⟩ := o1 i d hlt ei
      cases eg : t.M d sl with
      | none => simp only [eg] at h'; exact h'.elim
      | some sl1 =>
        simp only [eg] at h'
        refine .inr ⟨g1, fun σ2 H2 => ∃ A2 C2 sl2, i + 1 ≤ it.n ∧ Stp k F.fl A1 C1 H1 A2 C2 H2 ∧ SR k A2 ⟨F.fl, sl2⟩ C2 σ2 H2 ∧ AftS k W F.fl A2 C2 H2 (loopN it t.M body F.fl (it.n - (i + 1)) (i + 1) sl2 C2) E,
          fun σ2 H2 ⟨A2, C2, sl2, a, b, c, d⟩ => ⟨it.n - (i + 1), by omega, A2, C2, sl2, rfl, a, b, c, d⟩, fun x H'' y => ?_⟩
        obtain ⟨A'', p2, st2, rx⟩ := g2 x H'' y
        have s2 := s'.step p2 st2
        refine Tgt.of (vs0 := []) s2 rx eg fun σ2 s3 _ => ⟨A'', ⟨F.fl, sl1⟩, C', s3, ?_⟩
        have hr : it.n - (i + 1) = r := by omega
        cases eb : body ⟨F.fl, sl1⟩ C' with
        | nx sl2 C2 =>
          simp only [eb] at h'
          intro A3 σ3 H3 p3 s4
          have pp := p2.trans p3
          exact ⟨A3, C2, sl2, by omega, p.trans pp, s4, by rw [hr]; exact h'.shift pp⟩
        | ct sl2 C2 =>
          simp only [eb] at h'
          intro A3 σ3 H3 p3 s4
          have pp := p2.trans p3
          exact ⟨A3, C2, sl2, by omega, p.trans pp, s4, by rw [hr]; exact h'.shift pp⟩
        | bk sl2 C2 =>
          simp only [eb] at h'
          exact fun A3 σ3 H3 p3 s4 => h' A3 σ3 H3 (p2.trans p3) s4
        | rt d C2 =>
          simp only [eb] at h'
          exact fun A3 H3 v p3 st r => h' A3 H3 v (p2.trans p3) st r
        | xc e sl2 C2 =>
          simp only [eb] at h'
          exact fun A3 σ3 H3 dd vs p3 s4 x l r => h' A3 σ3 H3 dd vs (p2.trans p3) s4 x l r
        | stuck =>
          simp only [eb] at h'
          exact h'.elim
theorem _root_.L2.PI.cq {X : Cx} {tg e : Expr} {t t' : TI} (h : PI X tg e t) (c : ∀ σ H R, t' σ H R → t σ H R) : PI X tg e t' := ⟨fun pins s σ H R I q => h.run pins s σ H R I (c σ H R q)⟩
end
/-! ### list comprehensions -/
abbrev WF : WX := fun _ _ _ _ => False
section
variable {X : Cx} {k : Cn} {W : WX} {σ : L2.St} {H : Hp} {Q : VK}
/-- the list cell becomes plain data -/
theorem fz_end {fl n : Nat} {A A' : Nat → Addr} {C C' : Store} {H H' : Hp} {p : Addr} {acc : List D} (hn : n = C.length) (st0 : StOk k A C H) (st : StOk k A' C' H') (s : Stp k fl A C H A' C' H') (hf : fl ≤ n) (hl : n ≤ C'.length) (low : LowC n C') (ha : A' n = p) (hc : C'[n]? = some (some (.lst acc))) (hcb : cbL n acc = true) :
    Stp k fl A C H A' (C'.take n) H' ∧ StOk k A' (C'.take n) H' ∧ Rep k A' (C'.take n) H' (.ref p) (.lst acc) := by
  obtain ⟨vs, hv, rv⟩ := st.at_ n _ hc
  have tl : (C'.take n).length = n := by rw [List.length_take]; omega
  refine ⟨⟨fun v d r => (s.rep v d r).cut hl (by rw [hn]; exact r.cb), by rw [tl, hn]; exact Nat.le_refl _, fun f h1 h2 l => low_take (s.low f h1 h2 l), s.frz⟩, st.take hl low, ?_⟩
  rw [← ha]
  refine .lst (fun l => ?_) hv (rv.cut hl hcb)
  obtain ⟨i, c, e, z⟩ := l
  by_cases hi : i < n
  · rw [List.getElem?_take_of_lt hi] at e
    exact absurd (st.inj i n _ _ e hc z) (Nat.ne_of_lt hi)
  · rw [List.getElem?_eq_none (by rw [tl]; omega)] at e
    cases e
/-- the new list: at D, the cell n -/
theorem cell_at {A A' : Nat → Addr} {C C' : Store} {H H' : Hp} {fl n : Nat} {p : Addr} (s : Stp k fl A C H A' C' H') (h : A n = p) (hn : n < C.length) : A' n = p ∧ n < C'.length := by
  have r : Rep k A C H (.ref (A n)) (.cell n) := .cell hn
  have r' := s.rep _ _ r
  rw [h] at r'
  have inv : ∀ {v : V} {d : D}, Rep k A' C' H' v d → v = .ref p → d = .cell n → A' n = p ∧ n < C'.length := by
    intro v d r hv hd
    cases r with
    | cell hi => cases hd; cases hv; exact ⟨rfl, hi⟩
    | _ => cases hd
  exact inv r' rfl rfl
theorem push_L {A : Nat → Addr} {C : Store} {H : Hp} {fl n : Nat} {p : Addr} {acc : List D} {y : D} {v : V} {ws : List V} (hf : fl ≤ n) (st : StOk k A C H) (ha : A n = p) (hc : C[n]? = some (some (.lst acc))) (hw : H p = some (.lst ws)) (r : Rep k A C H v y) :
    Stp k fl A C H A (C.set n (some (.lst (acc ++ [y])))) (upd H p (.lst (ws ++ [v]))) ∧ StOk k A (C.set n (some (.lst (acc ++ [y])))) (upd H p (.lst (ws ++ [v]))) := by
  obtain ⟨vs, hv, rv⟩ := st.at_ n _ hc
  rw [ha, hw] at hv
  cases hv
  have q : Kp A C H A (C.set n (some (.lst (acc ++ [y])))) (upd H (A n) (.lst (ws ++ [v]))) := kp_write st hc
  rw [← ha]
  exact ⟨q.stp fun f h1 h2 l => low_set (fl := fl) (fun hi => absurd hi (Nat.not_lt.mpr hf)) h1 l, st.write hc ⟨_, upd_same, (rv.append (.cons r .nil)).kp q⟩⟩
theorem bn0_inv {fl : Nat} {A : Nat → Addr} {C : Store} {H : Hp} {m : R Unit} {f : Unit → Store → R D} {Q : D → Store → (Nat → Addr) → Hp → V → Prop} {W' : XK} (h : Aft k fl A C H (RepD k) (CT.bn0 m f) Q W') : ∃ C3, m = .ok () C3 ∧ Aft k fl A C H (RepD k) (f () C3) Q W' := by
  cases m with
  | ok d C' => exact ⟨C', rfl, h⟩
  | exc e C' => exact h.elim
  | stuck => exact h.elim
theorem Stp.less {fl n : Nat} {A A' : Nat → Addr} {C C' : Store} {H H' : Hp} (p : Stp k n A C H A' C' H') (h : fl ≤ n) : Stp k fl A C H A' C' H' := ⟨p.rep, p.len, fun f hf => p.low f (Nat.le_trans hf h), p.frz⟩
theorem SR.re {fl n : Nat} {A A' : Nat → Addr} {F : Fr} {C C' : Store} {H H' : Hp} (s : SR k A F C σ H) (p : Stp k fl A C H A' C' H') (st : StOk k A' C' H') (low : LowC n C') (hn : n ≤ C'.length) : SR k A' ⟨n, F.sl⟩ C' σ H' :=
  ⟨st, low, hn, s.len, fun i d e => let ⟨v, h1, h2⟩ := s.sl i d e; ⟨v, h1, p.rep v d h2⟩⟩
theorem le_lcEnd {own : Bool} {fl : Nat} {A A1 A' : Nat → Addr} {C C1 C' : Store} {H H1 H' : Hp} {Dl : Addr} {W' : XK} (hf : fl ≤ C1.length) (p : Stp k fl A C H A1 C1 H1) (st1 : StOk k A1 C1 H1) (p' : Stp k fl A1 C1 H1 A' C' H') (low : LowC C1.length C') (st' : StOk k A' C' H') (ha : A' C1.length = Dl) (hl : C1.length < C'.length)
    (h : Aft k fl A C H (RepD k) (lcEnd own C1.length C') (fun _ _ _ H' v => Q v H') W') : Q (.ref Dl) H' := by
  unfold lcEnd at h
  cases own with
  | true =>
    have r : Rep k A' C' H' (.ref (A' C1.length)) (.cell C1.length) := .cell hl
    rw [ha] at r
    exact h A' H' _ (p.trans p') st' r
  | false =>
    split at h
    · rename_i z; cases z
    · split at h
      · rename_i acc hc
        split at h
        · rename_i hcb
          obtain ⟨q1, q2, q3⟩ := fz_end (k := k) (fl := fl) rfl st1 st' p' hf (Nat.le_of_lt hl) low ha hc hcb
          exact h A' H' _ (p.trans q1) q2 q3
        · exact h.elim
      · exact h.elim
theorem le_lc {own : Bool} {mi : MI} {t : Tgt} {tt : MT} {te : ME} {vs : List Nat} (hv : ∀ i ∈ t.slots, i ∈ vs) (h : LE k W (mLc own mi t.M tt te vs) σ H Q) : tLc (LI k W mi) (t.T k.K) (LT k WF tt) (LE k WF te) vs σ H Q := by
  obtain ⟨A, F, C, s, h⟩ := h
  refine ⟨A, F, C, s, (Aft.bnd (rel := fun A C H (J : It) (it : ItD) => ItOk k F.fl J it A C H) h).mono fun it C1 A1 H1 J p1 st1 ok h1 => ?_⟩
  have s1 := s.step p1 st1
  intro Dl hD
  have q0 : Kp A1 C1 H1 (ext A1 C1.length Dl) (C1 ++ [some (.lst [])]) (upd H1 Dl (.lst [])) := kp_cell (k := k) st1 hD
  have p2 : Stp k C1.length A1 C1 H1 (ext A1 C1.length Dl) (C1 ++ [some (.lst [])]) (upd H1 Dl (.lst [])) := q0.stp fun f h1 h2 l => low_app h2 l
  have p2' : Stp k F.fl A1 C1 H1 (ext A1 C1.length Dl) (C1 ++ [some (.lst [])]) (upd H1 Dl (.lst [])) := ⟨p2.rep, p2.len, fun f hf => p2.low f (Nat.le_trans hf s1.fl), p2.frz⟩
  have st2 : StOk k (ext A1 C1.length Dl) (C1 ++ [some (.lst [])]) (upd H1 Dl (.lst [])) := st1.cell hD ⟨[], upd_same, .nil⟩
  have n1 : C1.length < (C1 ++ [some (Cell.lst [])]).length := by simp
  have low1 : LowC C1.length (C1 ++ [some (Cell.lst [])]) := p2.low _ (Nat.le_refl _) (Nat.le_refl _) st1.low
  obtain ⟨C3, e3, h3⟩ := bn0_inv h1
  refine ⟨fun i m H' => ∃ A' C', m = it.n - i ∧ i ≤ it.n ∧ Stp k C1.length (ext A1 C1.length Dl) (C1 ++ [some (.lst [])]) (upd H1 Dl (.lst [])) A' C' H' ∧ StOk k A' C' H' ∧ lcN it t.M tt te C1.length (wipeD F.sl vs) (it.n - i) i C' = .ok () C3,
    ⟨it.n, _, _, rfl, Nat.zero_le _, Stp.refl, st2, e3⟩, ?_⟩
  rintro i m H' ⟨A', C', rfl, hi, p, st', h'⟩
  obtain ⟨ha', hl'⟩ := cell_at p (ext_at A1 C1.length Dl) n1
  have low' : LowC C1.length C' := p.low _ (Nat.le_refl _) (Nat.le_of_lt n1) low1
  have pF : Stp k F.fl (ext A1 C1.length Dl) (C1 ++ [some (.lst [])]) (upd H1 Dl (.lst [])) A' C' H' := p.less s1.fl
  obtain ⟨o1, o2⟩ := ok A' C' H' (p2'.trans pF) st'
  cases er : it.n - i with
  | zero =>
    rw [er] at h'
    unfold lcN at h'
    have e : i = it.n := by omega
    split at h'
    · rename_i hf
      cases h'
      subst e
      exact .inl ⟨o2 hf, le_lcEnd s1.fl Stp.refl st1 (p2'.trans pF) low' st' ha' hl' h3⟩
    · cases h'
  | succ r =>
    rw [er] at h'
    unfold lcN at h'
    have hlt : i < it.n := by omega
    have hr : it.n - (i + 1) = r := by omega
    cases ei : it.item i C' with
    | none => simp only [ei] at h'; cases h'
    | some d =>
      simp only [ei] at h'
      obtain ⟨g1, g2⟩ := o1 i d hlt ei
      cases eg : t.M d (wipeD F.sl vs) with
      | none => simp only [eg] at h'; cases h'
      | some sl1 =>
        simp only [eg] at h'
        refine .inr ⟨g1, fun H4 => ∃ A4 C4, Stp k C1.length (ext A1 C1.length Dl) (C1 ++ [some (.lst [])]) (upd H1 Dl (.lst [])) A4 C4 H4 ∧ StOk k A4 C4 H4 ∧ lcN it t.M tt te C1.length (wipeD F.sl vs) (it.n - (i + 1)) (i + 1) C4 = .ok () C3,
          fun H4 ⟨A4, C4, a, b, c⟩ => ⟨it.n - (i + 1), by omega, A4, C4, rfl, by omega, a, b, c⟩, fun x H'' y => ?_⟩
        obtain ⟨A'', py, sty, rx⟩ := g2 x H'' y
        have py' : Stp k C1.length A' C' H' A'' C' H'' := ⟨py.rep, py.len, fun f _ _ h => h, py.frz⟩
        have sr : SR k A'' ⟨C1.length, wipeD F.sl vs⟩ C' (L2.wipe σ vs) H'' := ((s1.re (p2.trans (p.trans py')) sty low' (Nat.le_of_lt hl')).wipe vs)
        refine Tgt.of (vs0 := vs) sr rx eg fun σ2 s2 w2 => ⟨by rw [w2 hv, wipe_wipe], A'', ⟨C1.length, sl1⟩, C', s2, ?_⟩
        cases et : tt ⟨C1.length, sl1⟩ C' with
        | ok b C5 =>
          rw [et] at h'
          simp only [bn0_ok] at h'
          intro A5 H5 v5 p5 st5 e5
          have e5 : v5 = b := e5
          subst e5
          have s5 := s2.step p5 st5
          cases v5 with
          | true =>
            rw [if_pos rfl] at h'
            refine iteT ⟨A5, ⟨C1.length, sl1⟩, C5, s5, ?_⟩
            cases ee : te ⟨C1.length, sl1⟩ C5 with
            | ok yd C6 =>
              rw [ee] at h'
              simp only [bn0_ok] at h'
              intro A6 H6 v6 p6 st6 r6
              have pall := (p.trans py').trans (p5.trans p6)
              obtain ⟨ha6, hl6⟩ := cell_at pall (ext_at A1 C1.length Dl) n1
              split at h'
              · rename_i acc hc
                split at h'
                · rename_i hz
                  obtain ⟨ws, hw, rw6⟩ := st6.at_ _ _ hc
                  rw [ha6] at hw
                  obtain ⟨q1, q2⟩ := push_L (k := k) (fl := C1.length) (Nat.le_refl _) st6 ha6 hc hw r6
                  refine ⟨ws, hw, by have := szN_le hz; rw [rw6.length]; omega, A6, _, pall.trans q1, q2, ?_⟩
                  rw [hr]
                  exact h'
                · cases h'
              · cases h'
            | exc e C6 => rw [ee] at h'; cases h'
            | stuck => rw [ee] at h'; cases h'
          | false =>
            rw [if_neg (by decide)] at h'
            refine iteF ⟨A5, C5, (p.trans py').trans p5, st5, ?_⟩
            rw [hr]
            exact h'
        | exc e C5 => rw [et] at h'; cases h'
        | stuck => rw [et] at h'; cases h'
theorem de_lc {elt tg iter : Expr} {ifs : List Expr} {scope : Scope} {own : List (Str × Nat)} {pos : Pos} {mi : MI} {t : Tgt} {tt : MT} {te : ME} (ow : Bool) (hK : X.K = k.K) (hc : X.calm = true) (hN : X.N.Nodup) (hi : PI X tg iter (LI k W mi)) (ok : BlkOk X.N X.env.scope scope own) (hv : ∀ i ∈ t.slots, i ∈ own.map (·.2))
    (hg : ∀ (s : Shared) (H : Hp) (C : Addr) (cl : List (Str × Addr)) (fp : List Addr), PG (X.blk s H scope (compEnvC scope cl C X.env) fp) tg (t.T k.K)) (ht : ∀ (s : Shared) (H : Hp) (C : Addr) (cl : List (Str × Addr)) (fp : List Addr), PTs (X.blk s H scope (compEnvC scope cl C X.env) fp) ifs (LT k WF tt))
    (he : ∀ (s : Shared) (H : Hp) (C : Addr) (cl : List (Str × Addr)) (fp : List Addr), PE (X.blk s H scope (compEnvC scope cl C X.env) fp) elt (LE k WF te)) (hs : ∀ x, foldedSetIterable iter X.env x = pure x := by intro _; rfl) :
    PE X (.ListComp elt [⟨tg, iter, ifs, 0⟩] scope pos) (LE k W (mLc ow mi t.M tt te (own.map (·.2)))) := (pe_lc hc hN hi ok hg ht he hs).cq fun _ _ _ h => le_lc hv h
end
end CT
set_option maxHeartbeats 4000000
/-! DL7: what is walked; defs. -/
namespace CT
open PySem L2
section
variable {X : Cx} {k : Cn} {W : WX} {E : Ends} {σ : L2.St} {H : Hp}
theorem ds_for {tg iter : Expr} {body : List Stmt} {pos : Pos} {mi : MI} {t : Tgt} {mb : MS} (hp : PassesOwn (model X.prog X.w) X.A X.env X.xe) (hc : X.calm = true) (hi : PI X tg iter (LI k W mi)) (hg : PG X tg (t.T k.K)) (hb : PSs X body (LS k W mb))
    (hs : ∀ x, foldedSetIterable iter X.env x = pure x := by intro _; rfl) : PS X (.For tg iter body [] pos) (LS k W (sFor mi t.M mb)) := (ps_for hp hc hi hg hb hs).cq fun _ _ _ h => ls_for h
/-! ### lists and tuples -/
def iSeq (K : PySem.W.Frag) (tl : TE) : TI := fun σ H R => tl σ H fun x H1 => ∃ a, x = .ref a ∧ (((∃ xs, SqL K H1 a xs) ∧ R (Itl K a) H1) ∨ ((∃ xs, SqT K H1 a xs) ∧ R (Itt K a) H1))
theorem pi_seq {tg l : Expr} {tl : TE} (hl : PE X l tl) : PI X tg l (iSeq X.K tl) := by
  refine ⟨fun pins s σ H R I h => ?_⟩
  refine thn (hl.run pins s σ H _ I h) fun v s1 ⟨x, H1, I1, r1, q1⟩ => ?_
  obtain ⟨a, e, ⟨⟨xs, hq⟩, q⟩ | ⟨⟨xs, hq⟩, q⟩⟩ := q1
  · subst e
    cases r1
    obtain ⟨its, rv, p, hz⟩ := I1.list hq
    refine wpAny_pyIter_list p.isList ?_
    refine ⟨s1.heap.objs.size, [s1.heap.objs.size], _, _, H1, rfl, I1.kept (t' := s1.toks) fun b o e => Heap.get?_push_of_some _ e, turn_list a _, ⟨_, Heap.get?_push_size _ rfl, rfl, rfl⟩, fun b hb => ?_, q⟩
    have e : b = s1.heap.objs.size := by simpa using hb
    subst e
    exact I1.fpOk (Nat.le_refl _) (I1.hok.fresh (Nat.le_refl _))
  · subst e
    cases r1
    obtain ⟨its, rv, p, hz⟩ := I1.tuple hq
    refine wpAny_pyIter_tuple (show s1.heap.IsTuple a its.toArray from p) ?_
    refine ⟨s1.heap.objs.size, [s1.heap.objs.size], _, _, H1, rfl, I1.kept (t' := s1.toks) fun b o e => Heap.get?_push_of_some _ e, turn_tuple a _, ⟨_, Heap.get?_push_size _ rfl, rfl, rfl⟩, fun b hb => ?_, q⟩
    have e : b = s1.heap.objs.size := by simpa using hb
    subst e
    exact I1.fpOk (Nat.le_refl _) (I1.hok.fresh (Nat.le_refl _))
theorem itC_L {fl : Nat} {A : Nat → Addr} {C : Store} {a : Addr} {xs : List D} (r : Rep k A C H (.ref a) (.lst xs)) : ItOk k fl (Itl k.K a) (itC xs) A C H := fun A' C' H' p st' => by
  cases p.rep _ _ r with
  | lst l h rv =>
    have hl : SqL k.K H' a _ := .inl (.inl h)
    refine ⟨fun j y hj ey => ?_, fun _ => ⟨_, hl, by rw [rv.length]; exact Nat.le_refl _⟩⟩
    obtain ⟨v, hv, rv1⟩ := rv.get ey
    exact ⟨⟨_, v, hl, hv⟩, fun x H'' ⟨e1, e2⟩ => by
      subst e1
      cases (e2 _ hl).symm.trans hv
      exact ⟨A', Stp.refl, st', rv1⟩⟩
theorem itC_T {fl : Nat} {A : Nat → Addr} {C : Store} {v : V} {d : D} {xs : List D} (r : Rep k A C H v d) (e : vT d = some xs) : ∃ a, v = .ref a ∧ (∃ vs, SqT k.K H a vs) ∧ ItOk k fl (Itt k.K a) (itC xs) A C H := by
  obtain ⟨a, vs, rfl, hs, _⟩ := vT_at r e
  refine ⟨a, rfl, ⟨vs, hs⟩, fun A' C' H' p st' => ?_⟩
  obtain ⟨a', vs', ea, hl, rv⟩ := vT_at (p.rep _ _ r) e
  cases ea
  refine ⟨fun j y hj ey => ?_, fun _ => ⟨_, hl, by rw [rv.length]; exact Nat.le_refl _⟩⟩
  obtain ⟨v, hv, rv1⟩ := rv.get ey
  exact ⟨⟨_, v, hl, hv⟩, fun x H'' ⟨e1, e2⟩ => by
    subst e1
    cases (e2 _ hl).symm.trans hv
    exact ⟨A', Stp.refl, st', rv1⟩⟩
theorem itV_L {fl : Nat} {A : Nat → Addr} {C : Store} {a : Addr} {i n : Nat} (r : Rep k A C H (.ref a) (.cell i)) : ItOk k fl (Itl k.K a) (itV i n) A C H := fun A' C' H' p st' => by
  cases p.rep _ _ r with
  | cell hi =>
    refine ⟨fun j y hj ey => ?_, fun hf => ?_⟩
    · simp only [itV] at ey
      split at ey
      · rename_i ys ec
        split at ey
        · obtain ⟨vs, hv, rv⟩ := st'.at_ i _ ec
          have hl : SqL k.K H' (A' i) vs := .inl (.inl hv)
          obtain ⟨v, hw, rv1⟩ := rv.get ey
          exact ⟨⟨_, v, hl, hw⟩, fun x H'' ⟨e1, e2⟩ => by
            subst e1
            cases (e2 _ hl).symm.trans hw
            exact ⟨A', Stp.refl, st', rv1⟩⟩
        · cases ey
      · cases ey
    · simp only [itV] at hf
      split at hf
      · rename_i ys ec
        obtain ⟨vs, hv, rv⟩ := st'.at_ i _ ec
        have := of_decide_eq_true hf
        exact ⟨vs, .inl (.inl hv), by show vs.length ≤ n; rw [rv.length]; omega⟩
      · cases hf
theorem li_seq {m : ME} {R : It → Hp → Prop} (h : LI k W (mSeq m) σ H R) : iSeq k.K (LE k W m) σ H R := by
  obtain ⟨A, F, C, s, h⟩ := h
  refine ⟨A, F, C, s, (Aft.bnd (rel := RepD k) h).mono fun d C1 A1 H1 v p st r h1 => ?_⟩
  have tup : ∀ xs, vT d = some xs → itS d C1 = some (itC xs) → ∃ a, v = .ref a ∧ (((∃ xs, SqL k.K H1 a xs) ∧ R (Itl k.K a) H1) ∨ ((∃ xs, SqT k.K H1 a xs) ∧ R (Itt k.K a) H1)) := fun xs e ei => by
    rw [ei] at h1
    obtain ⟨a, rfl, hs, ok⟩ := itC_T (fl := F.fl) r e
    exact ⟨a, rfl, .inr ⟨hs, h1 A1 H1 _ Stp.refl st ok⟩⟩
  cases d with
  | tup xs => exact tup xs rfl rfl
  | kt xs => exact tup xs rfl rfl
  | lst xs =>
    cases r with
    | lst l hh rv => exact ⟨_, rfl, .inl ⟨⟨_, .inl (.inl hh)⟩, h1 A1 H1 _ Stp.refl st (itC_L (.lst l hh rv))⟩⟩
  | cell i =>
    cases r with
    | cell hi =>
      simp only [itS] at h1
      split at h1
      · rename_i it e
        split at e
        · rename_i ys ec
          cases e
          obtain ⟨vs, hv, rv⟩ := st.at_ i _ ec
          exact ⟨_, rfl, .inl ⟨⟨vs, .inl (.inl hv)⟩, h1 A1 H1 _ Stp.refl st (itV_L (.cell hi))⟩⟩
        · cases e
      · exact h1.elim
  | _ => exact h1.elim
theorem di_seq {tg l : Expr} {m : ME} (hK : X.K = k.K) (hl : PE X l (LE k W m)) : PI X tg l (LI k W (mSeq m)) := (pi_seq hl).cq fun _ _ _ h => by
  rw [hK]
  exact li_seq h
/-! ### ranges -/
theorem itR_ok {fl : Nat} {A : Nat → Addr} {C : Store} {lo : Int} {n : Nat} : ItOk k fl (Itr lo n) (itR lo n) A C H := fun A' C' H' p st' =>
  ⟨fun j y hj ey => ⟨hj, fun x H'' ⟨e1, e2⟩ => by
    subst e1
    subst e2
    cases ey
    exact ⟨A', Stp.refl, st', .int _⟩⟩, fun _ => Nat.le_refl _⟩
theorem li_rng1 {m : ME} {R : It → Hp → Prop} (h : LI k W (mRng1 m) σ H R) : iRng1 (tCons (LE k W m) tNil) σ H R := by
  obtain ⟨A, F, C, s, h⟩ := h
  refine ⟨A, F, C, s, (Aft.bnd (rel := RepD k) h).mono fun d C1 A1 H1 v p st r h1 => ?_⟩
  cases r with
  | int j =>
    simp only at h1
    split at h1
    · rename_i hb
      simp only [inR, Bool.and_eq_true, decide_eq_true_eq] at hb
      exact ⟨j, rfl, hb.1, hb.2, h1 A1 H1 _ Stp.refl st itR_ok⟩
    · exact h1.elim
  | _ => exact h1.elim
theorem li_rng2 {m m2 : ME} {R : It → Hp → Prop} (h : LI k W (mRng2 m m2) σ H R) : iRng2 (tCons (LE k W m) (tCons (LE k W m2) tNil)) σ H R := by
  obtain ⟨A, F, C, s, h⟩ := h
  refine ⟨A, F, C, s, (Aft.bnd (rel := RepD k) h).mono fun d C1 A1 H1 v p st r h1 => ?_⟩
  have s1 := s.step p st
  refine ⟨A1, F, C1, s1, (Aft.bnd (rel := RepD k) h1).mono fun e C2 A2 H2 v2 p2 st2 r2 h2 => ?_⟩
  cases r with
  | int i =>
    cases r2 with
    | int j =>
      simp only at h2
      split at h2
      · rename_i hb
        simp only [inR, Bool.and_eq_true, decide_eq_true_eq] at hb
        exact ⟨i, j, rfl, ⟨hb.1.1, hb.1.2, hb.2.1, hb.2.2⟩, h2 A2 H2 _ Stp.refl st2 itR_ok⟩
      · exact h2.elim
    | _ => exact h2.elim
  | _ =>
    cases r2 <;> exact h2.elim
theorem di_rng1 {tg a : Expr} {p pos : Pos} {m : ME} (hg : Gl X "range") (hm : X.mg "range" = none) (ha : PE X a (LE k W m)) (hs : starEach [a] X.env = [(false, eval a X.env)] := by rfl) : PI X tg (.Call (.Name "range" p) [a] [] pos) (LI k W (mRng1 m)) :=
  (pi_range1 hg hm (pa_cons ha pa_nil hs) hs).cq fun _ _ _ h => li_rng1 h
theorem di_rng2 {tg a b : Expr} {p pos : Pos} {m m2 : ME} (hg : Gl X "range") (hm : X.mg "range" = none) (ha : PE X a (LE k W m)) (hb : PE X b (LE k W m2)) (hs : starEach [a, b] X.env = [(false, eval a X.env), (false, eval b X.env)] := by rfl) (hs2 : starEach [b] X.env = [(false, eval b X.env)] := by rfl) :
    PI X tg (.Call (.Name "range" p) [a, b] [] pos) (LI k W (mRng2 m m2)) :=
  (pi_range2 hg hm (pa_cons ha (pa_cons hb pa_nil hs2) (by rw [hs, hs2])) hs hs2).cq fun _ _ _ h => li_rng2 h
end
/-! ### defs -/
def mDef (np ns : Nat) (body : MS) : MF := fun ds C => if ds.length = np then (match body ⟨C.length, ds.map some ++ List.replicate (ns - np) none⟩ C with
    | .nx _ C' => fin C.length .non C'
    | .rt d C' => fin C.length d C'
    | .xc e _ C' => if cbL C.length e.fs = true then .exc e (C'.take C.length) else .stuck
    | _ => .stuck) else .stuck
/-- the promise of a def that computes m -/
def SpD (k : Cn) (np : Nat) (m : MF) : Sp := fun vs H Q E => vs.length = np ∧ ∃ A C ds, StOk k A C H ∧ RepL k A C H vs ds ∧ Aft k C.length A C H (RepD k) (m ds C) (fun _ _ _ H' v => Q v H') E
section
variable {k : Cn}
theorem cut_stp {n : Nat} {A A' : Nat → Addr} {C C' : Store} {H H' : Hp} (hn : n = C.length) (st0 : StOk k A C H) (st : StOk k A' C' H') (s : Stp k n A C H A' C' H') :
    Stp k n A C H A' (C'.take n) H' ∧ StOk k A' (C'.take n) H' ∧ n ≤ C'.length ∧ (C'.take n).length = n := by
  have hl : n ≤ C'.length := by rw [hn]; exact s.len
  have tl : (C'.take n).length = n := by rw [List.length_take]; omega
  have low : LowC n C' := s.low n (Nat.le_refl _) (by omega) (by rw [hn]; exact st0.low)
  exact ⟨⟨fun v d r => (s.rep v d r).cut hl (by rw [hn]; exact r.cb), by rw [tl, hn]; exact Nat.le_refl _, fun f h1 h2 l => low_take (s.low f h1 h2 l), s.frz⟩, st.take hl low, hl, tl⟩
theorem fz_rep {n : Nat} {A : Nat → Addr} {C : Store} {H : Hp} {v : V} {d : D} (st : StOk k A C H) (hl : n ≤ C.length) (r : Rep k A C H v d) (h : cb n (fz n d C) = true) : Rep k A (C.take n) H v (fz n d C) := by
  have tl : (C.take n).length = n := by rw [List.length_take]; omega
  have nl : ∀ i c, ¬ i < n → C[i]? = some (some c) → ¬ Live A (C.take n) (A i) := fun i c hi e l => by
    obtain ⟨j, c', e', z⟩ := l
    by_cases hj : j < n
    · rw [List.getElem?_take_of_lt hj] at e'
      have := st.inj j i _ _ e' e z
      omega
    · rw [List.getElem?_eq_none (by rw [tl]; omega)] at e'
      cases e'
  cases d with
  | cell i =>
    by_cases hi : i < n
    · have e : fz n (.cell i) C = .cell i := by simp [fz, hi]
      rw [e] at h ⊢
      exact r.cut hl h
    · cases r with
      | cell hi' =>
        simp only [fz, if_neg hi] at h ⊢
        split
        · rename_i xs ec
          rw [ec] at h
          obtain ⟨vs, hv, rv⟩ := st.at_ i _ ec
          exact .lst (nl i _ hi ec) hv (rv.cut hl (by simpa [cb] using h))
        · rename_i ks xs ec
          rw [ec] at h
          obtain ⟨kvs, hv, hk, rv⟩ := st.at_ i _ ec
          subst hk
          exact .dT (nl i _ hi ec) (.inl hv) (rv.cut hl (by simpa [cb] using h))
        · rename_i n1 n2
          exfalso
          split at h
          · rename_i ec; exact n1 _ ec
          · rename_i ec; exact n2 _ _ ec
          · simp only [cb, decide_eq_true_eq] at h
            exact hi h
  | _ => exact r.cut hl h
/-- from a body to the promise -/
theorem spD_body {np ns : Nat} {body : MS} {N : List Str} {vs : List V} {H : Hp} {Q : VK} {E : XK} (hN : N.length = ns) (hp : np ≤ ns) (h : SpD k np (mDef np ns body) vs H Q E) :
    LS k (fun c d _ H' => E c d H') body { nx := fun _ H' => Q .non H', rt := Q } (L2.start N vs) H := by
  obtain ⟨hv, A, C, ds, st, rl, h⟩ := h
  have hd : ds.length = np := by rw [← rl.length]; exact hv
  unfold mDef at h
  rw [if_pos hd] at h
  have sl : (L2.start N vs) = vs.map some ++ List.replicate (ns - np) none := by unfold L2.start; rw [hN, hv]
  have sr : SR k A ⟨C.length, ds.map some ++ List.replicate (ns - np) none⟩ C (L2.start N vs) H := by
    refine ⟨st, st.low, Nat.le_refl _, ?_, fun i d e => ?_⟩
    · rw [sl]
      simp [rl.length]
    · rw [sl]
      have e' : (ds.map some ++ List.replicate (ns - np) none)[i]? = some (some d) := e
      by_cases hi : i < ds.length
      · rw [List.getElem?_append_left (by simpa using hi), List.getElem?_map] at e'
        cases ed : ds[i]? with
        | none => rw [ed] at e'; cases e'
        | some d' =>
          rw [ed] at e'
          cases e'
          obtain ⟨v, h1, h2⟩ := rl.get ed
          refine ⟨v, ?_, h2⟩
          rw [List.getElem?_append_left (by rw [List.length_map, rl.length]; exact hi), List.getElem?_map, h1]
          rfl
      · rw [List.getElem?_append_right (by simpa using hi)] at e'
        have := List.getElem?_eq_some_iff.mp e'
        obtain ⟨h1, h2⟩ := this
        rw [List.getElem_replicate] at h2
        cases h2
  refine ⟨A, _, C, sr, ?_⟩
  have done : ∀ (d : D) (C' : Store), Aft k C.length A C H (RepD k) (fin C.length d C') (fun _ _ _ H' v => Q v H') E → ∀ A' H' v, Stp k C.length A C H A' C' H' → StOk k A' C' H' → Rep k A' C' H' v d → Q v H' := fun d C' hf A' H' v p st' r => by
    unfold fin at hf
    split at hf
    · rename_i hc
      obtain ⟨q1, q2, q3, q4⟩ := cut_stp rfl st st' p
      exact hf A' H' v q1 q2 (fz_rep st' q3 r hc)
    · exact hf.elim
  show AftS k _ C.length A C H (body ⟨C.length, ds.map some ++ List.replicate (ns - np) none⟩ C) _
  cases eb : body ⟨C.length, ds.map some ++ List.replicate (ns - np) none⟩ C with
  | nx sl' C' =>
    rw [eb] at h
    exact fun A' σ' H' p s' => done .non C' h A' H' .non p s'.st .non
  | rt d C' =>
    rw [eb] at h
    exact fun A' H' v p st' r => done d C' h A' H' v p st' r
  | bk sl' C' => rw [eb] at h; exact h.elim
  | ct sl' C' => rw [eb] at h; exact h.elim
  | stuck => rw [eb] at h; exact h.elim
  | xc e sl' C' =>
    rw [eb] at h
    intro A' σ' H' dd ws p s' x l r
    simp only at h
    split at h
    · rename_i hc
      obtain ⟨q1, q2, q3, q4⟩ := cut_stp rfl st s'.st p
      exact h A' H' dd ws q1 q2 x l (r.cut q3 hc)
    · exact h.elim
end
end CT
set_option maxHeartbeats 4000000
/-! DL8: defs, calls, instances over data. -/
namespace CT
open PySem L2 PySem.Spec PyProof.Rows
theorem Aft.more {k : Cn} {fl n : Nat} {A : Nat → Addr} {C : Store} {H : Hp} {α β : Type} {rel : (Nat → Addr) → Store → Hp → β → α → Prop} {m : R α} {Q : α → Store → (Nat → Addr) → Hp → β → Prop} {W : XK} (hn : fl ≤ n) (h : Aft k fl A C H rel m Q W) : Aft k n A C H rel m Q W := by
  cases m with
  | ok d C' => exact fun A' H' v p st r => h A' H' v (p.less hn) st r
  | exc e C' => exact fun A' H' dd vs p st x l r => h A' H' dd vs (p.less hn) st x l r
  | stuck => exact h
/-- a def of np parameters -/
def Ar (np : Nat) (m : MF) : Prop := ∀ ds C, ds.length ≠ np → m ds C = .stuck
theorem mDef_ar {np ns : Nat} {body : MS} : Ar np (mDef np ns body) := fun ds C h => by
  unfold mDef
  rw [if_neg h]
/-! ### defs that know that no repr runs around them -/
theorem RoomG.mono {i j : Nat} {A : Around} (r : RoomG j A) (h : i ≤ j) : RoomG i A := ⟨r.room.mono h, r.gd⟩
theorem RoomG.in1 {j : Nat} {A : Around} (r : RoomG (j + 1) A) : RoomG j A.in1 := ⟨r.room.in1, r.gd⟩
theorem RoomG.make {j : Nat} {A : Around} (r : RoomG (j + 1) A) (C : Addr) (us : List Value) (kw : List (Str × Value)) : RoomG j (A.under (.builtin "type.__call__" ⟨.ref C :: us, kw⟩)) :=
  ⟨r.room.make C us kw, by
    have e : (A.under (.builtin "type.__call__" ⟨.ref C :: us, kw⟩)).guards = A.guards := by
      first
        | rfl
        | simp [Around.under, Code.guards, Code.isGuard, pushGuards, guardIds]
    rw [e]
    exact r.gd⟩
structure FnG (P : Program) (w : World) (K : PySem.W.Frag) (mg : Str → Option Value) (base : Heap) (lev : Nat) (f : Addr) (fd : FuncData) (ps : List Str) (sp : Sp) : Prop where
  len : ∀ vs H Q E, sp vs H Q E → vs.length = ps.length
  run : ∀ (A : Around) (outer : List Env) (s : Shared) (H : Hp) (args : Args) (us : List Value) (vs : List V) (Q : VK) (E : XK), RoomG lev A → Env0 P w K mg base A outer s H → BindsTo s fd args (ps.zip us) → Vals vs us → sp vs H Q E →
    codeAny (model P w) A (.call (.ref f) args) (CR (L2.CX P w) outer P w H s Q E) s
theorem FnG.mono {P : Program} {w : World} {K : PySem.W.Frag} {mg : Str → Option Value} {base : Heap} {i j : Nat} {f : Addr} {fd : FuncData} {ps : List Str} {sp : Sp} (F : FnG P w K mg base i f fd ps sp) (h : i ≤ j) : FnG P w K mg base j f fd ps sp :=
  ⟨F.len, fun A outer s H args us vs Q E hr => F.run A outer s H args us vs Q E (hr.mono h)⟩
theorem fn_ofG {P : Program} {w : World} {K : PySem.W.Frag} {mg : Str → Option Value} {base : Heap} {lev : Nat} {f : Addr} {name qual : Str} {params : Arguments} {body : List Stmt} {scope : Scope} {dV kV doc pm cdv ct oc : Value} {an od : Option Addr}
    {osl : Array (Option Value)} {N ps : List Str} {sp : Sp} (lk : K.lookup f = some ⟨oc, od, .func (PySem.W.fnOf name qual params body scope dV kV doc pm an cdv ct), osl⟩) (hcd : PySem.W.codeIn K cdv qual = true) (S : FnScope N ps scope)
    (len : ∀ vs H Q E, sp vs H Q E → vs.length = ps.length)
    (hbody : ∀ (A : Around) (outer : List Env) (s : Shared) (H : Hp) (vs : List V) (Q : VK) (E : XK), RoomG lev (A.deeper (envOfC qual scope s.heap.objs.size f cdv)) → sp vs H Q E →
      ∃ t, PSs (cxOf (L2.CX P w) P w K mg base N qual scope f cdv A outer s H E) body t ∧ t { nx := fun _ H' => Q .non H', rt := Q } (L2.start N vs) H) :
    FnG P w K mg base (lev + 1) f (PySem.W.fnOf name qual params body scope dV kV doc pm an cdv ct) ps sp := by
  refine ⟨len, fun A outer s H args us vs Q E hr e0 hb r hsp => ?_⟩
  have hl := len _ _ _ _ hsp
  have KX : K.In s.heap := e0.mod.kin.keeps fun b o e => (e0.bs b o e).1
  have lim : s.heap.NoLimit := e0.mod.nolimit.keeps fun b o e => (e0.bs b o e).1
  have hkind : ∀ y ∈ ps.zip us, scope.names.lookup y.1 = some .local ∨ (scope.names.lookup y.1 = some .cell ∧ ((cellsFrom (s.heap.objs.size + 1) scope.names []).lookup y.1).isSome = true) := fun ⟨n, v⟩ hy => by
    rcases S.par n (List.of_mem_zip hy).1 with q | q
    · exact .inl q
    · exact .inr ⟨q, PySem.W.cellsFrom_some _ _ _ (.inl q)⟩
  refine codeAny_call_function hr.room.depth (KX _ _ lk) rfl S.co S.gen rfl (PySem.W.codeRec_of KX hcd) (hb _ _ _ _ ?_)
  refine wpAny_newFunctionEnv_cells S.kind hkind fun env he s1 x => ?_
  subst he
  refine ⟨lim.keeps x.toInCall.keep, codeAny_func ?_⟩
  obtain ⟨t, ht, hq⟩ := hbody A outer s H vs Q E ⟨hr.room.deeper _, hr.gd⟩ hsp
  have I : Inv (cxOf (L2.CX P w) P w K mg base N qual scope f cdv A outer s H E) [] (L2.start N vs) H s1 := inv_start S hr.room.hd e0 hl r x
  refine wpAny_mono (ht.run [] s1 (L2.start N vs) H _ I hq) (fun fl s' hs => ?_) fun e s' hs => hs
  have fin : ∀ {σ' : L2.St} {H' : Hp} {v : V} {u : Value}, Inv (cxOf (L2.CX P w) P w K mg base N qual scope f cdv A outer s H E) [] σ' H' s' → RelV v u → Q v H' → CE outer P w H s Q u s' :=
    fun {σ' H' v u} J rv q => ⟨v, H', J.os, J.bare, J.base, J.hok, rv, q⟩
  cases fl with
  | ret u =>
    obtain ⟨v, σ', H', J, rv, q⟩ := hs
    exact fin J rv q
  | next =>
    obtain ⟨σ', H', J, q⟩ := hs
    exact fin (v := V.non) (u := Value.none) J rfl q
  | brk =>
    obtain ⟨_, _, _, q⟩ := hs
    exact False.elim q
  | cont =>
    obtain ⟨_, _, _, q⟩ := hs
    exact False.elim q
section
variable {P : Program} {w : World} {k : Cn} {mg : Str → Option Value} {base : Heap} {x qual : Str} {params : Arguments} {body : List Stmt} {scope : Scope} {dvs : List V} {kws : List (Str × V)} {f : Addr} {fd : FuncData}
/-- THE RULE for a def: its body's derivation -/
theorem fn_ok {N ps : List Str} {lev : Nat} {m : MS} (F : FunD k.K x qual params body scope dvs kws f fd) (S : FnScope N ps scope) (hp : ps.length ≤ N.length)
    (hb : ∀ (cdv : Value) (A : Around) (outer : List Env) (s : Shared) (H : Hp) (E : XK), RoomG lev (A.deeper (envOfC qual scope s.heap.objs.size f cdv)) → PSs (cxOf (L2.CX P w) P w k.K mg base N qual scope f cdv A outer s H E) body (LS k (fun c d _ H' => E c d H') m)) :
    FnG P w k.K mg base (lev + 1) f fd ps (SpD k ps.length (mDef ps.length N.length m)) := by
  obtain ⟨oc, od, dV, kV, doc, pm, an, cdv, ct, osl, rfl, lk, hcd, _, _⟩ := F.ex
  exact fn_ofG lk hcd S (fun vs H Q E h => h.1) fun A outer s H vs Q E hr h => ⟨_, hb cdv A outer s H E hr, spD_body rfl hp h⟩
end
/-! ### calls -/
section
variable {X : Cx} {k : Cn} {W : WX} {σ : L2.St} {H : Hp} {Q : VK} {lev : Nat} {f C p g : Addr} {fd : FuncData} {ps : List Str} {np : Nat} {m : MF} {dvs : List V} {dds : List D} {ds : List Value} {x nm : Str} {pn pos apos : Pos} {e o : Expr} {es : List Expr} {ma : MA} {mo : ME}
theorem sp_of {A : Nat → Addr} {C : Store} {fl : Nat} {vs : List V} {xs : List D} {E : XK} (hf : fl ≤ C.length) (ar : Ar np m) (st : StOk k A C H) (r : RepL k A C H vs xs) (h : Aft k fl A C H (RepD k) (m xs C) (fun _ _ _ H' v => Q v H') E) : SpD k np m vs H Q E := by
  refine ⟨?_, A, C, xs, st, r, h.more hf⟩
  rw [r.length]
  by_cases hl : xs.length = np
  · exact hl
  · rw [ar xs C hl] at h
    exact h.elim
theorem run_fnG {sp : Sp} {E : L2.St → XK} {pins : List (Addr × Obj)} {σ : L2.St} {H : Hp} {s : Shared} {Q : VK} {us : List Value} {vs : List V} (F : FnG X.prog X.w X.K X.mg X.base lev f fd ps sp) (hr : RoomG lev X.A) (hb : Binds X.K fd ps ds) (hd : Vals dvs ds) (hx : PassesAt (L2.CX X.prog X.w) X σ (E σ))
    (I : Inv X pins σ H s) (r : Vals vs us) (h : sp (vs ++ dvs) H Q (E σ)) : wpAny (model X.prog X.w) X.A (call (.ref f) us) (EP X pins σ Q) X.xe s := by
  have r2 : Vals (vs ++ dvs) (us ++ ds) := r.append hd
  have hl : (us ++ ds).length = ps.length := by rw [← r2.length]; exact F.len _ _ _ _ h
  refine wpAny_call (codeAny_mono (F.run X.A X.stack s H ⟨us, []⟩ (us ++ ds) (vs ++ dvs) Q (E σ) hr I.env0 (hb s us I.kIn hl) r2 h) fun r s' hq => ?_)
  cases r with
  | error e => exact hx pins H s e s' I hq
  | ok fl =>
    cases fl with
    | ret u => exact I.after hq
    | next => exact False.elim hq
    | brk => exact False.elim hq
    | cont => exact False.elim hq
theorem pe_callG {sp : Sp} {E : L2.St → XK} {t : TA} (F : FnG X.prog X.w X.K X.mg X.base lev f fd ps sp) (hr : RoomG lev X.A) (hg : Gl X x) (hm : X.mg x = some (.ref f)) (hk : PySem.W.keepIn X.K (.ref f) = true) (hb : Binds X.K fd ps ds) (hd : Vals dvs ds) (hx : ∀ σ, PassesAt (L2.CX X.prog X.w) X σ (E σ))
    (ha : PA X (e :: es) t) (hdb : (x == ("__debug__" : Str)) = false := by decide) (he : starEach (e :: es) X.env = (false, eval e X.env) :: starEach es X.env := by rfl) (hpl : (backTo pos (starEach es X.env)).any (·.1) = false := by rfl) :
    PE X (.Call (.Name x pn) (e :: es) [] pos) (tCallSD sp dvs E t) := by
  refine ⟨fun pins s σ H Q I h => ?_⟩
  refine wpAny_Call_Name_kw (ld_glob I hg hm ?_ hdb)
  refine PySem.W.callWith_K (h₀ := X.base) I.ok.mod.kin hk (thn (ha.run pos pins s σ H _ I h) fun us s1 ⟨vs, H1, I1, r, q⟩ => ⟨I1.kIn, ?_⟩) he hpl
  exact run_fnG F hr hb hd (hx σ) I1 r q
theorem le_call (ar : Ar np m) (hd : ∀ A C H, RepL k A C H dvs dds) (h : LE k W (mCall m dds ma) σ H Q) : tCallSD (SpD k np m) dvs (WE W) (LA k W ma) σ H Q := by
  obtain ⟨A, F, C, s, h⟩ := h
  refine ⟨A, F, C, s, (Aft.bnd (rel := RepDs k) h).mono fun xs C1 A1 H1 vs p1 st1 r1 h1 => ?_⟩
  exact sp_of (s.step p1 st1).fl ar st1 (r1.append (hd _ _ _)) h1
/-- f(e, ..) -/
theorem de_call (tk : Takes X W) (F : FnG X.prog X.w X.K X.mg X.base lev f fd ps (SpD k np m)) (ar : Ar np m) (hr : RoomG lev X.A) (hg : Gl X x) (hm : X.mg x = some (.ref f)) (hk : PySem.W.keepIn X.K (.ref f) = true) (hb : Binds X.K fd ps ds) (hd : Vals dvs ds) (hdd : ∀ A C H, RepL k A C H dvs dds)
    (ha : PA X (e :: es) (LA k W ma)) (hdb : (x == ("__debug__" : Str)) = false := by decide) (he : starEach (e :: es) X.env = (false, eval e X.env) :: starEach es X.env := by rfl) (hpl : (backTo pos (starEach es X.env)).any (·.1) = false := by rfl) :
    PE X (.Call (.Name x pn) (e :: es) [] pos) (LE k W (mCall m dds ma)) := (pe_callG F hr hg hm hk hb hd (fun σ => passAt tk σ) ha hdb he hpl).cq fun _ _ _ h => le_call ar hdd h
/-! ### instances -/
theorem vO_at {A : Nat → Addr} {C : Store} {v : V} {d : D} {c : Nat} {fs : List D} (st : StOk k A C H) (r : Rep k A C H v d) (e : vO d C = some (c, fs)) : ∃ a dx vs, v = .ref a ∧ H a = some (.ins (k.cl c) dx (((k.fn c).take fs.length).zip vs)) ∧ fs.length ≤ (k.fn c).length ∧ RepL k A C H vs fs := by
  cases r with
  | @obj a0 dx0 c0 vs0 ds0 l h z rv =>
    cases e
    have hl : fs.length = (k.fn c).length := by rw [← rv.length]; exact z
    refine ⟨a0, dx0, vs0, rfl, ?_, Nat.le_of_eq hl, rv⟩
    rw [hl, List.take_length]
    exact h
  | cell hi =>
    rename_i i
    simp only [vO] at e
    split at e
    · rename_i c' fs' ec
      cases e
      obtain ⟨dx, vs, h, z, rv⟩ := st.at_ i _ ec
      exact ⟨_, dx, vs, rfl, h, z, rv⟩
    · cases e
  | _ => cases e
theorem zip_look {names : List Str} {vs : List V} {n : Nat} {f : Str} {v : V} (nd : names.Nodup) (hn : names[n]? = some f) (hv : vs[n]? = some v) : (names.zip vs).lookup f = some v := by
  induction names generalizing vs n with
  | nil => simp at hn
  | cons a r ih =>
    cases vs with
    | nil => simp at hv
    | cons b t =>
      cases n with
      | zero =>
        simp at hn hv
        subst hn
        subst hv
        simp [List.lookup]
      | succ n =>
        simp at hn hv
        have ne : (f == a) = false := by
          simp only [List.nodup_cons] at nd
          have : f ≠ a := fun e => nd.1 (by rw [← e]; exact List.mem_of_getElem? hn)
          simpa using this
        rw [List.zip_cons_cons, List.lookup_cons, ne]
        exact ih (by simp only [List.nodup_cons] at nd; exact nd.2) hn hv
theorem zip_none {names : List Str} {vs : List V} {f : Str} (h : f ∉ names) : (names.zip vs).lookup f = none := by
  induction names generalizing vs with
  | nil => simp
  | cons a r ih =>
    cases vs with
    | nil => simp
    | cons b t =>
      simp only [List.mem_cons, not_or] at h
      have ne : (f == a) = false := by simpa using h.1
      rw [List.zip_cons_cons, List.lookup_cons, ne]
      exact ih h.2
theorem d_fld {c n : Nat} {f : Str} (hc : Cls k.K (k.cl c)) (hno : NoAttr k.K (k.cl c) f) (nd : (k.fn c).Nodup) (hf : (k.fn c)[n]? = some f) : ∀ fl A C H x dx d C' (Q : VK), fl ≤ C.length → LowC fl C → StOk k A C H → Rep k A C H x dx → oFld c n dx C = some (d, C') →
    (∀ A' H' v, Stp k fl A C H A' C' H' → StOk k A' C' H' → Rep k A' C' H' v d → Q v H') → ∃ a Cc dxx fs v, x = .ref a ∧ H a = some (.ins Cc dxx fs) ∧ Cls k.K Cc ∧ NoAttr k.K Cc f ∧ fs.lookup f = some v ∧ Q v H := by
  intro fl A C H x dx d C' Q hfl hl st r e q
  unfold oFld at e
  split at e
  · rename_i c' fs ev
    split at e
    · rename_i hcc
      subst hcc
      simp only [Option.map_eq_some_iff] at e
      obtain ⟨d', e1, e2⟩ := e
      cases e2
      obtain ⟨a, dx', vs, rfl, ha, hle, rv⟩ := vO_at st r ev
      obtain ⟨v, hv, rv1⟩ := rv.get e1
      have hn : n < fs.length := (List.getElem?_eq_some_iff.mp e1).1
      refine ⟨a, _, dx', _, v, rfl, ha, hc, hno, zip_look (nd.sublist (List.take_sublist _ _)) (by rw [List.getElem?_take_of_lt hn]; exact hf) hv, q A H v Stp.refl st rv1⟩
    · cases e
  · cases e
theorem le_fld {c n : Nat} {f : Str} (hc : Cls k.K (k.cl c)) (hno : NoAttr k.K (k.cl c) f) (nd : (k.fn c).Nodup) (hf : (k.fn c)[n]? = some f) (h : LE k W (mUn (oFld c n) mo) σ H Q) : tFld k.K (LE k W mo) f σ H Q := by
  obtain ⟨A, F, C, s, h⟩ := h
  refine ⟨A, F, C, s, (Aft.bnd (rel := RepD k) h).mono fun dx C1 A1 H1 v p1 st1 r1 h1 => ?_⟩
  obtain ⟨d, C', e, q⟩ := aft_ofO h1
  have s1 := s.step p1 st1
  exact d_fld hc hno nd hf F.fl A1 C1 H1 v dx d C' Q s1.fl s1.low st1 r1 e q
theorem de_fld (c n : Nat) {f : Str} (hK : X.K = k.K) (hc : Cls k.K (k.cl c)) (hno : NoAttr k.K (k.cl c) f) (nd : (k.fn c).Nodup) (hf : (k.fn c)[n]? = some f) (he : PE X o (LE k W mo)) (hb : attributeBase o f X.env (eval o X.env) = eval o X.env := by rfl) : PE X (.Attribute o f pos) (LE k W (mUn (oFld c n) mo)) :=
  (pe_fld he hb).cq fun _ _ _ h => by
    rw [hK]
    exact le_fld hc hno nd hf h
/-! ### methods, properties -/
def tMethS (Cc : Addr) (nm : Str) (sp : Sp) (dvs : List V) (E : L2.St → XK) (ta : TE) (t : TA) : TE := fun σ H Q => ta σ H fun x H1 => ∃ a dx fs, x = .ref a ∧ H1 a = some (.ins Cc dx fs) ∧ fs.lookup nm = none ∧
  t σ H1 fun vs H2 => sp (x :: (vs ++ dvs)) H2 Q (E σ)
theorem pe_methSD {pl : Sem Bool} {ta : TE} {t : TA} {sp : Sp} {E : L2.St → XK} (he : PE X o ta) (c : Cls X.K C) (hm : Meth X.K C nm f) (F : FnG X.prog X.w X.K X.mg X.base lev f fd ps sp) (hr : RoomG lev X.A) (hb : Binds X.K fd ps ds) (hd : Vals dvs ds) (hx : ∀ σ, PassesAt (L2.CX X.prog X.w) X σ (E σ)) (ha : PA X (e :: es) t)
    (hst : starEach (e :: es) X.env = (false, eval e X.env) :: starEach es X.env := by rfl) (hpl : (backTo pos (starEach es X.env)).any (·.1) = false := by rfl)
    (ht : eval (.Call (.Attribute o nm apos) (e :: es) [] pos) X.env = (do
      let ov ← eval o X.env
      standAt apos.atName
      let (f, first) ← holding [ov] (getMethod ov nm pl)
      callWith pos f first (backTo pos (starEach (e :: es) X.env)) (backToKw pos (keywordEach [] X.env))) := by rfl) :
    PE X (.Call (.Attribute o nm apos) (e :: es) [] pos) (tMethS C nm sp dvs E ta t) := by
  refine ⟨fun pins s σ H Q I h => ?_⟩
  refine PySem.W.methodCall_KW (pl := pl) (thn (he.run pins s σ H _ I h) fun u s1 ⟨x, H1, I1, rx, a, dx, fs, ex, ea, l, q⟩ => ?_) ht
  subst ex
  obtain rfl : u = Value.ref a := rx
  refine getmeth_ok I1 ea c hm l ?_
  refine PySem.W.callWith_K (first := [.ref a]) (h₀ := X.base) I.ok.mod.kin hm.kp (thn (ha.run pos pins s1 σ H1 _ I1 q) fun us s2 ⟨vs, H2, I2, r, q2⟩ => ⟨I2.kIn, ?_⟩) hst hpl
  exact run_fnG (us := .ref a :: us) (vs := .ref a :: vs) F hr hb hd (hx σ) I2 (.cons rfl r) q2
theorem pe_methSD0 {pl : Sem Bool} {ta : TE} {sp : Sp} {E : L2.St → XK} (he : PE X o ta) (c : Cls X.K C) (hm : Meth X.K C nm f) (F : FnG X.prog X.w X.K X.mg X.base lev f fd ps sp) (hr : RoomG lev X.A) (hb : Binds X.K fd ps ds) (hd : Vals dvs ds) (hx : ∀ σ, PassesAt (L2.CX X.prog X.w) X σ (E σ))
    (ht : eval (.Call (.Attribute o nm apos) [] [] pos) X.env = (do
      let ov ← eval o X.env
      standAt apos.atName
      let (f, first) ← holding [ov] (getMethod ov nm pl)
      callWith pos f first (backTo pos (starEach [] X.env)) (backToKw pos (keywordEach [] X.env))) := by rfl) :
    PE X (.Call (.Attribute o nm apos) [] [] pos) (tMethS C nm sp dvs E ta tNil) := by
  refine ⟨fun pins s σ H Q I h => ?_⟩
  refine PySem.W.methodCall_KW (pl := pl) (thn (he.run pins s σ H _ I h) fun u s1 ⟨x, H1, I1, rx, a, dx, fs, ex, ea, l, q⟩ => ?_) ht
  subst ex
  obtain rfl : u = Value.ref a := rx
  refine getmeth_ok I1 ea c hm l ?_
  exact PySem.W.callWith_K0 (first := [.ref a]) I1.kIn hm.kp (run_fnG (us := [.ref a]) (vs := [.ref a]) F hr hb hd (hx σ) I1 (.cons rfl .nil) q)
theorem le_meth {c : Nat} (ar : Ar np m) (hno : nm ∉ k.fn c) (hdd : ∀ A C H, RepL k A C H dvs dds) (h : LE k W (mMeth c m dds mo ma) σ H Q) : tMethS (k.cl c) nm (SpD k np m) dvs (WE W) (LE k W mo) (LA k W ma) σ H Q := by
  obtain ⟨A, F, C, s, h⟩ := h
  refine ⟨A, F, C, s, (Aft.bnd (rel := RepD k) h).mono fun dx C1 A1 H1 v p1 st1 r1 h1 => ?_⟩
  have s1 := s.step p1 st1
  split at h1
  · rename_i c' fs ev
    split at h1
    · rename_i hcc
      subst hcc
      obtain ⟨a, dx', vs, rfl, ha, hle, rv⟩ := vO_at st1 r1 ev
      refine ⟨a, dx', _, rfl, ha, zip_none (fun z => hno (List.mem_of_mem_take z)), A1, F, C1, s1, (Aft.bnd (rel := RepDs k) h1).mono fun xs C2 A2 H2 ws p2 st2 r2 h2 => ?_⟩
      exact sp_of (s1.step p2 st2).fl ar st2 (.cons (p2.rep _ _ r1) (r2.append (hdd _ _ _))) h2
    · exact h1.elim
  · exact h1.elim
theorem de_meth {pl : Sem Bool} (c : Nat) (tk : Takes X W) (hK : X.K = k.K) (he : PE X o (LE k W mo)) (hc : Cls k.K (k.cl c)) (hm : Meth k.K (k.cl c) nm f) (F : FnG X.prog X.w X.K X.mg X.base lev f fd ps (SpD k np m)) (ar : Ar np m) (hno : nm ∉ k.fn c) (hr : RoomG lev X.A) (hb : Binds X.K fd ps ds) (hd : Vals dvs ds) (hdd : ∀ A C H, RepL k A C H dvs dds)
    (ha : PA X (e :: es) (LA k W ma)) (hst : starEach (e :: es) X.env = (false, eval e X.env) :: starEach es X.env := by rfl) (hpl : (backTo pos (starEach es X.env)).any (·.1) = false := by rfl)
    (ht : eval (.Call (.Attribute o nm apos) (e :: es) [] pos) X.env = (do
      let ov ← eval o X.env
      standAt apos.atName
      let (f, first) ← holding [ov] (getMethod ov nm pl)
      callWith pos f first (backTo pos (starEach (e :: es) X.env)) (backToKw pos (keywordEach [] X.env))) := by rfl) :
    PE X (.Call (.Attribute o nm apos) (e :: es) [] pos) (LE k W (mMeth c m dds mo ma)) :=
  (pe_methSD (pl := pl) he (by rw [hK]; exact hc) (by rw [hK]; exact hm) F hr hb hd (fun σ => passAt tk σ) ha hst hpl ht).cq fun _ _ _ h => le_meth ar hno hdd h
theorem de_meth0 {pl : Sem Bool} (c : Nat) (tk : Takes X W) (hK : X.K = k.K) (he : PE X o (LE k W mo)) (hc : Cls k.K (k.cl c)) (hm : Meth k.K (k.cl c) nm f) (F : FnG X.prog X.w X.K X.mg X.base lev f fd ps (SpD k np m)) (ar : Ar np m) (hno : nm ∉ k.fn c) (hr : RoomG lev X.A) (hb : Binds X.K fd ps ds) (hd : Vals dvs ds) (hdd : ∀ A C H, RepL k A C H dvs dds)
    (ht : eval (.Call (.Attribute o nm apos) [] [] pos) X.env = (do
      let ov ← eval o X.env
      standAt apos.atName
      let (f, first) ← holding [ov] (getMethod ov nm pl)
      callWith pos f first (backTo pos (starEach [] X.env)) (backToKw pos (keywordEach [] X.env))) := by rfl) :
    PE X (.Call (.Attribute o nm apos) [] [] pos) (LE k W (mMeth c m dds mo mNil)) :=
  (pe_methSD0 (pl := pl) he (by rw [hK]; exact hc) (by rw [hK]; exact hm) F hr hb hd (fun σ => passAt tk σ) ht).cq fun σ H Q h => by
    obtain ⟨A, F', C, s, h⟩ := le_meth (nm := nm) ar hno hdd h
    exact ⟨A, F', C, s, h.mono fun d C1 A1 H1 v p st r ⟨a, dx, fs, ex, ea, l, q⟩ => ⟨a, dx, fs, ex, ea, l, la_nil q⟩⟩
end
end CT
set_option maxHeartbeats 4000000
/-! DL9: built-in functions over data. -/
namespace CT
open PySem L2 PySem.Spec PyProof.Rows
/-! ### data as the library's own -/
section
variable {k : Cn} {A : Nat → Addr} {C : Store} {H : Hp}
mutual
theorem toP0_dp : ∀ {v : V} {d : D} {p : PyData}, Rep k A C H v d → toP0 d = some p → Dp k.K H v p
  | _, _, _, .non, e => by simp only [toP0] at e; cases e; exact .non
  | _, _, _, .bl b, e => by simp only [toP0] at e; cases e; exact .bl b
  | _, _, _, .int i, e => by simp only [toP0] at e; cases e; exact .int i
  | _, _, _, .str s, e => by simp only [toP0] at e; cases e; exact .str s
  | _, _, _, .lst l h r, e => by
    simp only [toP0, Option.map_eq_some_iff] at e
    obtain ⟨ps, e1, rfl⟩ := e
    exact .lst (.inl (.inl h)) (toP0s_dp r e1)
  | _, _, _, .tup l h r, e => by
    simp only [toP0, Option.map_eq_some_iff] at e
    obtain ⟨ps, e1, rfl⟩ := e
    exact .tup (.inl (.inl h)) (toP0s_dp r e1)
  | _, _, _, .ktup h r, e => by
    simp only [toP0, Option.map_eq_some_iff] at e
    obtain ⟨ps, e1, rfl⟩ := e
    exact .tup (.inr h) (toP0s_dp r e1)
  | _, _, _, .scr l h r, e => by simp only [toP0] at e; cases e
  | _, _, _, .kscr h r, e => by simp only [toP0] at e; cases e
  | _, _, _, .obj l h z r, e => by simp only [toP0] at e; cases e
  | _, _, _, .exn x l h z r, e => by simp only [toP0] at e; cases e
  | _, _, _, .cls c, e => by simp only [toP0] at e; cases e
  | _, _, _, .dT l h r, e => by simp only [toP0] at e; cases e
  | _, _, _, .cell hi, e => by simp only [toP0] at e; cases e
theorem toP0s_dp : ∀ {vs : List V} {ds : List D} {ps : List PyData}, RepL k A C H vs ds → toP0s ds = some ps → DpAll k.K H vs ps
  | _, _, _, .nil, e => by simp only [toP0s] at e; cases e; exact .nil
  | _, _, _, .cons (d := d) (ds := ds) r t, e => by
    simp only [toP0s] at e
    cases e1 : toP0 d with
    | none => rw [e1] at e; cases e
    | some p =>
      cases e2 : toP0s ds with
      | none => rw [e1, e2] at e; cases e
      | some ps =>
        rw [e1, e2] at e
        cases e
        exact .cons (toP0_dp r e1) (toP0s_dp t e2)
end
mutual
theorem toP_dp (st : StOk k A C H) : ∀ {v : V} {d : D} {p : PyData}, Rep k A C H v d → toP C d = some p → Dp k.K H v p
  | _, _, _, .non, e => by simp only [toP] at e; cases e; exact .non
  | _, _, _, .bl b, e => by simp only [toP] at e; cases e; exact .bl b
  | _, _, _, .int i, e => by simp only [toP] at e; cases e; exact .int i
  | _, _, _, .str s, e => by simp only [toP] at e; cases e; exact .str s
  | _, _, _, .lst l h r, e => by
    simp only [toP, Option.map_eq_some_iff] at e
    obtain ⟨ps, e1, rfl⟩ := e
    exact .lst (.inl (.inl h)) (toPs_dp st r e1)
  | _, _, _, .tup l h r, e => by
    simp only [toP, Option.map_eq_some_iff] at e
    obtain ⟨ps, e1, rfl⟩ := e
    exact .tup (.inl (.inl h)) (toPs_dp st r e1)
  | _, _, _, .ktup h r, e => by
    simp only [toP, Option.map_eq_some_iff] at e
    obtain ⟨ps, e1, rfl⟩ := e
    exact .tup (.inr h) (toPs_dp st r e1)
  | _, _, _, .scr l h r, e => by simp only [toP] at e; cases e
  | _, _, _, .kscr h r, e => by simp only [toP] at e; cases e
  | _, _, _, .obj l h z r, e => by simp only [toP] at e; cases e
  | _, _, _, .exn x l h z r, e => by simp only [toP] at e; cases e
  | _, _, _, .cls c, e => by simp only [toP] at e; cases e
  | _, _, _, .dT l h r, e => by simp only [toP] at e; cases e
  | _, _, _, .cell (i := i) hi, e => by
    simp only [toP] at e
    split at e
    · rename_i xs ec
      simp only [Option.map_eq_some_iff] at e
      obtain ⟨ps, e1, rfl⟩ := e
      obtain ⟨vs, hv, rv⟩ := st.at_ i _ ec
      exact .lst (.inl (.inl hv)) (toP0s_dp rv e1)
    · cases e
theorem toPs_dp (st : StOk k A C H) : ∀ {vs : List V} {ds : List D} {ps : List PyData}, RepL k A C H vs ds → toPs C ds = some ps → DpAll k.K H vs ps
  | _, _, _, .nil, e => by simp only [toPs] at e; cases e; exact .nil
  | _, _, _, .cons (d := d) (ds := ds) r t, e => by
    simp only [toPs] at e
    cases e1 : toP C d with
    | none => rw [e1] at e; cases e
    | some p =>
      cases e2 : toPs C ds with
      | none => rw [e1, e2] at e; cases e
      | some ps =>
        rw [e1, e2] at e
        cases e
        exact .cons (toP_dp st r e1) (toPs_dp st t e2)
end
end
/-! ### == and != of data -/
theorem d_eqD {k : Cn} : OpD k (rEqD k.K) (oEqD false) := by
  intro fl A C H x y dx dy d C' Q hf hl st rx ry e q
  simp only [oEqD] at e
  split at e
  · rename_i p q' e1 e2
    split at e
    · rename_i hs
      simp only [Bool.and_eq_true] at hs
      cases e
      exact ⟨p, q', toP_dp st rx e1, toP_dp st ry e2, hs.1, hs.2, q A H _ Stp.refl st (.bl _)⟩
    · cases e
  · cases e
theorem d_neD {k : Cn} : OpD k (rNeD k.K) (oEqD true) := by
  intro fl A C H x y dx dy d C' Q hf hl st rx ry e q
  simp only [oEqD] at e
  split at e
  · rename_i p q' e1 e2
    split at e
    · rename_i hs
      simp only [Bool.and_eq_true] at hs
      cases e
      exact ⟨p, q', toP_dp st rx e1, toP_dp st ry e2, hs.1, hs.2, q A H _ Stp.refl st (.bl _)⟩
    · cases e
  · cases e
/-! ### repr -/
/-! ### len, sums, least, greatest, conversions -/
def oLen : OA := fun xs C => match xs with
  | [d] => (vS d C).map fun ys => (.int ys.length, C)
  | _ => none
theorem d_len {k : Cn} : ApD k (fun xs H Q => ∃ p ys, xs = [.ref p] ∧ (SqL k.K H p ys ∨ SqT k.K H p ys) ∧ Q (.int ys.length) H) oLen := by
  intro fl A C H x dx d C' Q hf hl st rx e q
  unfold oLen at e
  split at e
  · rename_i d0
    simp only [Option.map_eq_some_iff] at e
    obtain ⟨ys, e1, e2⟩ := e
    cases e2
    cases rx with
    | cons r t =>
      cases t
      obtain ⟨a, vs, rfl, hs, rv⟩ := vS_at st r e1
      exact ⟨a, vs, rfl, hs, q A H _ Stp.refl st (by rw [rv.length]; exact .int _)⟩
  · cases e
theorem dInts_eq : ∀ {ds : List D} {ns : List Int}, dInts ds = some ns → ds = ns.map D.int
  | [], _, e => by cases e; rfl
  | .int i :: r, _, e => by
    simp only [dInts, Option.map_eq_some_iff] at e
    obtain ⟨l, e1, rfl⟩ := e
    rw [dInts_eq e1]
    rfl
  | .non :: _, _, e => by cases e
  | .bl _ :: _, _, e => by cases e
  | .str _ :: _, _, e => by cases e
  | .lst _ :: _, _, e => by cases e
  | .tup _ :: _, _, e => by cases e
  | .scr _ :: _, _, e => by cases e
  | .kt _ :: _, _, e => by cases e
  | .obj _ _ :: _, _, e => by cases e
  | .exn _ _ :: _, _, e => by cases e
  | .cls _ :: _, _, e => by cases e
  | .dT _ _ :: _, _, e => by cases e
  | .cell _ :: _, _, e => by cases e
theorem dBools_eq : ∀ {ds : List D} {ns : List Bool}, dBools ds = some ns → ds = ns.map D.bl
  | [], _, e => by cases e; rfl
  | .bl i :: r, _, e => by
    simp only [dBools, Option.map_eq_some_iff] at e
    obtain ⟨l, e1, rfl⟩ := e
    rw [dBools_eq e1]
    rfl
  | .non :: _, _, e => by cases e
  | .int _ :: _, _, e => by cases e
  | .str _ :: _, _, e => by cases e
  | .lst _ :: _, _, e => by cases e
  | .tup _ :: _, _, e => by cases e
  | .scr _ :: _, _, e => by cases e
  | .kt _ :: _, _, e => by cases e
  | .obj _ _ :: _, _, e => by cases e
  | .exn _ _ :: _, _, e => by cases e
  | .cls _ :: _, _, e => by cases e
  | .dT _ _ :: _, _, e => by cases e
  | .cell _ :: _, _, e => by cases e
def oAny : OA := fun xs C => match xs with
  | [d] => (vL d C).bind fun ys => (dBools ys).map fun ns => (.bl (ns.any id), C)
  | _ => none
def oAll : OA := fun xs C => match xs with
  | [d] => (vL d C).bind fun ys => (dBools ys).map fun ns => (.bl (ns.all id), C)
  | _ => none
theorem d_any {k : Cn} : ApD k (rAny k.K) oAny := by
  intro fl A C H x dx d C' Q hf hl st rx e q
  unfold oAny at e
  split at e
  · simp only [Option.bind_eq_some_iff, Option.map_eq_some_iff] at e
    obtain ⟨ys, e1, ns, e2, e3⟩ := e
    cases e3
    cases rx with
    | cons r t =>
      cases t
      obtain ⟨a, vs, rfl, ha, rv⟩ := vL_at st r e1
      rw [dBools_eq e2] at rv
      have := rv.bls_inv
      subst this
      exact ⟨a, ns, rfl, .inl (.inl ha), q A H _ Stp.refl st (.bl _)⟩
  · cases e
theorem d_all {k : Cn} : ApD k (rAll k.K) oAll := by
  intro fl A C H x dx d C' Q hf hl st rx e q
  unfold oAll at e
  split at e
  · simp only [Option.bind_eq_some_iff, Option.map_eq_some_iff] at e
    obtain ⟨ys, e1, ns, e2, e3⟩ := e
    cases e3
    cases rx with
    | cons r t =>
      cases t
      obtain ⟨a, vs, rfl, ha, rv⟩ := vL_at st r e1
      rw [dBools_eq e2] at rv
      have := rv.bls_inv
      subst this
      exact ⟨a, ns, rfl, .inl (.inl ha), q A H _ Stp.refl st (.bl _)⟩
  · cases e
theorem d_2I {k : Cn} (g : Int → Int → Int) : ApD k (fun xs H Q => ∃ i j, xs = [.int i, .int j] ∧ Q (.int (g i j)) H) (o2I g) := by
  intro fl A C H x dx d C' Q hf hl st rx e q
  unfold o2I at e
  split at e
  · rename_i i j
    cases e
    cases rx with
    | cons r t =>
      cases t with
      | cons r2 t2 =>
        cases t2
        cases r
        cases r2
        exact ⟨i, j, rfl, q A H _ Stp.refl st (.int _)⟩
  · cases e
theorem d_max2 {k : Cn} : ApD k (fun xs H Q => ∃ i j, xs = [.int i, .int j] ∧ Q (.int (if j > i then j else i)) H) oMax2 := d_2I _
theorem d_min2 {k : Cn} : ApD k (fun xs H Q => ∃ i j, xs = [.int i, .int j] ∧ Q (.int (if j < i then j else i)) H) oMin2 := d_2I _
theorem d_abs {k : Cn} : ApD k (fun xs H Q => ∃ i, xs = [.int i] ∧ Q (.int (if i < 0 then -i else i)) H) oAbs := by
  intro fl A C H x dx d C' Q hf hl st rx e q
  unfold oAbs at e
  split at e
  · rename_i i
    cases e
    cases rx with
    | cons r t =>
      cases t
      cases r
      exact ⟨i, rfl, q A H _ Stp.refl st (.int _)⟩
  · cases e
theorem d_int {k : Cn} : ApD k (fun xs H Q => (∃ i, xs = [.int i] ∧ Q (.int i) H) ∨ ∃ k, xs = [.bl k] ∧ Q (.int (if k then 1 else 0)) H) oInt := by
  intro fl A C H x dx d C' Q hf hl st rx e q
  unfold oInt at e
  split at e
  · rename_i i
    cases e
    cases rx with
    | cons r t =>
      cases t
      cases r
      exact .inl ⟨i, rfl, q A H _ Stp.refl st (.int _)⟩
  · rename_i i
    cases e
    cases rx with
    | cons r t =>
      cases t
      cases r
      exact .inr ⟨i, rfl, q A H _ Stp.refl st (.int _)⟩
  · cases e
theorem d_tupOf {k : Cn} : ApD k (fun xs H Q => ∃ p ys, xs = [.ref p] ∧ ((SqL k.K H p ys ∧ ∀ l, H l = none → Q (.ref l) (upd H l (.tup ys))) ∨ (SqT k.K H p ys ∧ Q (.ref p) H))) oTupOf := by
  intro fl A C H x dx d C' Q hf hl st rx e q
  unfold oTupOf at e
  split at e
  · cases e
    cases rx with
    | cons r t =>
      cases t
      obtain ⟨a, vs, rfl, hs, rv⟩ := vT_at r rfl
      exact ⟨a, vs, rfl, .inr ⟨hs, q A H _ Stp.refl st r⟩⟩
  · cases e
    cases rx with
    | cons r t =>
      cases t
      obtain ⟨a, vs, rfl, hs, rv⟩ := vT_at r rfl
      exact ⟨a, vs, rfl, .inr ⟨hs, q A H _ Stp.refl st r⟩⟩
  · simp only [Option.map_eq_some_iff] at e
    obtain ⟨ys, e1, e2⟩ := e
    cases e2
    cases rx with
    | cons r t =>
      cases t
      obtain ⟨a, vs, rfl, ha, rv⟩ := vL_at st r e1
      refine ⟨a, vs, rfl, .inl ⟨.inl (.inl ha), fun l hl => ?_⟩⟩
      obtain ⟨w1, w2, w3⟩ := fresh_T (fl := fl) st rv hl
      exact q A _ _ w1 w2 w3
  · cases e
/-- list(x) -/
def oListOf (own : Bool) : OA := fun xs C => match xs with
  | [d] => (vS d C).map fun ys => mkL own ys C
  | _ => none
theorem d_listOf {k : Cn} (own : Bool) : ApD k (fun xs H Q => ∃ p ys, xs = [.ref p] ∧ (SqL k.K H p ys ∨ SqT k.K H p ys) ∧ ∀ l, H l = none → Q (.ref l) (upd H l (.lst ys))) (oListOf own) := by
  intro fl A C H x dx d C' Q hf hl st rx e q
  unfold oListOf at e
  split at e
  · simp only [Option.map_eq_some_iff] at e
    obtain ⟨ys, e1, e2⟩ := e
    cases rx with
    | cons r t =>
      cases t
      obtain ⟨a, vs, rfl, hs, rv⟩ := vS_at st r e1
      refine ⟨a, vs, rfl, hs, fun l hl => ?_⟩
      obtain ⟨A2, w1, w2, w3⟩ := fresh_L (own := own) hf st rv hl
      rw [e2] at w1 w2 w3
      exact q A2 _ _ w1 w2 w3
  · cases e
/-! ### + and * of lists, + of tuples -/
def oCat (own : Bool) : O2 := fun x y C => match vL x C, vL y C with
  | some xs, some ys => if szN (xs.length + ys.length) = true then some (mkL own (xs ++ ys) C) else none
  | _, _ => none
theorem d_cat {k : Cn} (own : Bool) : OpD k rCat (oCat own) := by
  intro fl A C H x y dx dy d C' Q hf hl st rx ry e q
  unfold oCat at e
  split at e
  · rename_i xs ys e1 e2
    split at e
    · rename_i hz
      obtain ⟨a, vs, rfl, ha, rv⟩ := vL_at st rx e1
      obtain ⟨b, ws, rfl, hb, rw⟩ := vL_at st ry e2
      refine ⟨a, b, vs, ws, rfl, rfl, ha, hb, by rw [rv.length, rw.length]; exact szN_le hz, fun p hp => ?_⟩
      obtain ⟨A2, w1, w2, w3⟩ := fresh_L (own := own) hf st (rv.append rw) hp
      have e' := Option.some.inj e
      rw [e'] at w1 w2 w3
      exact q A2 _ _ w1 w2 w3
    · cases e
  · cases e
def oCatT : O2 := fun x y C => match vT x, vT y with
  | some xs, some ys => if szN (xs.length + ys.length) = true then (if xs.isEmpty = true then some (y, C) else if ys.isEmpty = true then some (x, C) else some (.tup (xs ++ ys), C)) else none
  | _, _ => none
theorem d_catT {k : Cn} : OpD k (rCatA k.K) oCatT := by
  intro fl A C H x y dx dy d C' Q hf hl st rx ry e q
  unfold oCatT at e
  split at e
  · rename_i xs ys e1 e2
    obtain ⟨a, vs, rfl, ha, rv⟩ := vT_at rx e1
    obtain ⟨b, ws, rfl, hb, rw⟩ := vT_at ry e2
    have z1 : vs = [] ↔ xs = [] := by
      have := rv.length
      constructor
      · intro h; subst h; exact List.length_eq_zero_iff.mp (by simpa using this.symm)
      · intro h; subst h; exact List.length_eq_zero_iff.mp (by simpa using this)
    have z2 : ws = [] ↔ ys = [] := by
      have := rw.length
      constructor
      · intro h; subst h; exact List.length_eq_zero_iff.mp (by simpa using this.symm)
      · intro h; subst h; exact List.length_eq_zero_iff.mp (by simpa using this)
    split at e
    · rename_i hz
      refine ⟨a, b, vs, ws, rfl, rfl, ha, hb, by rw [rv.length, rw.length]; exact szN_le hz, fun h => ?_, fun h h' => ?_, fun h h' p hp => ?_⟩
      · rw [if_pos (by simpa using z1.mp h)] at e
        cases e
        exact q A H _ Stp.refl st ry
      · have n1 : ¬ (xs.isEmpty = true) := by simpa using fun z => h (z1.mpr z)
        rw [if_neg n1, if_pos (by simpa using z2.mp h')] at e
        cases e
        exact q A H _ Stp.refl st rx
      · have n1 : ¬ (xs.isEmpty = true) := by simpa using fun z => h (z1.mpr z)
        have n2 : ¬ (ys.isEmpty = true) := by simpa using fun z => h' (z2.mpr z)
        rw [if_neg n1, if_neg n2] at e
        cases e
        obtain ⟨w1, w2, w3⟩ := fresh_T (fl := fl) st (rv.append rw) hp
        exact q A _ _ w1 w2 w3
    · cases e
  · cases e
/-! ### slices of lists -/
theorem cutD_rep {k : Cn} {A : Nat → Addr} {C : Store} {H : Hp} {vs : List V} {xs : List D} (r : RepL k A C H vs xs) (lo hi : Option Int) : RepL k A C H (cutV vs lo hi) (cutD xs lo hi) := by
  unfold cutV cutD
  rw [r.length]
  exact (r.drop _).take _
def LO (k : Cn) (W : WX) (m : Fr → Store → R (Option Int)) : TO := fun σ H Q => ∃ A F C, SR k A F C σ H ∧ Aft k F.fl A C H (fun _ _ _ (v d : Option Int) => v = d) (m F C) (fun _ _ _ H' v => Q v H') (fun c d H' => W c d σ H')
section
variable {X : Cx} {k : Cn} {W : WX} {σ : L2.St} {H : Hp} {Q : VK}
theorem _root_.L2.PO.cq {X : Cx} {e : Option Expr} {t t' : TO} (h : PO X e t) (c : ∀ σ H Q, t' σ H Q → t σ H Q) : PO X e t' := ⟨fun pins s σ H Q I q => h.run pins s σ H Q I (c σ H Q q)⟩
theorem do_none : PO X none (LO k W mNoPart) := po_none.cq fun σ H Q h => by
  obtain ⟨A, F, C, s, h⟩ := h
  exact h A H none Stp.refl s.st rfl
theorem do_some {e : Expr} {m : ME} (h : PE X e (LE k W m)) : PO X (some e) (LO k W (mPart m)) := (po_some h).cq fun σ H Q h => by
  obtain ⟨A, F, C, s, h⟩ := h
  refine ⟨A, F, C, s, (Aft.bnd (rel := RepD k) h).mono fun dx C1 A1 H1 x p1 st1 rx h1 => ?_⟩
  cases rx with
  | int i => exact ⟨i, rfl, h1 A1 H1 (some i) Stp.refl st1 rfl⟩
  | _ => exact h1.elim
theorem vLs_at {A : Nat → Addr} {C : Store} {v : V} {d : D} {ds : List D} (st : StOk k A C H) (r : Rep k A C H v d) (e : vLs d C = some ds) : ∃ a vs, v = .ref a ∧ SqL k.K H a vs ∧ RepL k A C H vs ds := by
  cases d with
  | scr xs =>
    cases r with
    | scr l h rv => cases e; exact ⟨_, _, rfl, .inl (.inr ⟨_, h⟩), rv⟩
    | kscr h rv => cases e; exact ⟨_, _, rfl, .inr h, rv⟩
  | lst xs => obtain ⟨a, vs, rfl, ha, rv⟩ := vL_at st r e; exact ⟨a, vs, rfl, .inl (.inl ha), rv⟩
  | cell i => obtain ⟨a, vs, rfl, ha, rv⟩ := vL_at st r e; exact ⟨a, vs, rfl, .inl (.inl ha), rv⟩
  | _ => cases e
theorem le_slL {own : Bool} {ma : ME} {l h' : Fr → Store → R (Option Int)} (h : LE k W (mSlL own ma l h') σ H Q) : tSl (rSlL k.K) (LE k W ma) (LO k W l) (LO k W h') σ H Q := by
  obtain ⟨A, F, C, s, h⟩ := h
  refine ⟨A, F, C, s, (Aft.bnd (rel := RepD k) h).mono fun dx C1 A1 H1 x p1 st1 rx h1 => ?_⟩
  have s1 := s.step p1 st1
  refine ⟨A1, F, C1, s1, (Aft.bnd (rel := fun _ _ _ (v d : Option Int) => v = d) h1).mono fun lo C2 A2 H2 lo' p2 st2 rl h2 => ?_⟩
  have rl : lo' = lo := rl
  subst rl
  have s2 := s1.step p2 st2
  refine ⟨A2, F, C2, s2, (Aft.bnd (rel := fun _ _ _ (v d : Option Int) => v = d) h2).mono fun hi C3 A3 H3 hi' p3 st3 rh h3 => ?_⟩
  have rh : hi' = hi := rh
  subst rh
  have s3 := s2.step p3 st3
  split at h3
  · rename_i xs ev
    obtain ⟨a, vs, rfl, ha, rv⟩ := vLs_at st3 (p3.rep _ _ (p2.rep _ _ rx)) ev
    refine ⟨a, vs, rfl, ha, fun p hp => ?_⟩
    obtain ⟨A4, w1, w2, w3⟩ := fresh_L (own := own) s3.fl st3 (cutD_rep rv lo' hi') hp
    exact h3 A4 _ _ w1 w2 w3
  · exact h3.elim
theorem de_slL (own : Bool) {e : Expr} {lo hi : Option Expr} {p2 pos : Pos} {ma : ME} {l h : Fr → Store → R (Option Int)} (hK : X.K = k.K) (he : PE X e (LE k W ma)) (hl : PO X lo (LO k W l)) (hu : PO X hi (LO k W h)) : PE X (.Subscript e (.Slice lo hi none p2) pos) (LE k W (mSlL own ma l h)) :=
  (pe_slice sl_list he hl hu).cq fun _ _ _ h => by
    rw [hK]
    exact le_slL h
end
end CT
set_option maxHeartbeats 4000000
/-! DLA: instances made, attributes stored, properties, isinstance. -/
namespace CT
open PySem L2 PySem.Spec PyProof.Rows
/-! ### C(..) -/
def mMake (own : Bool) (c nf : Nat) (m : MF) (dds : List D) (a : MA) : ME := fun F C => bnd (a F C) fun ds C1 => match m (.cell C1.length :: (ds ++ dds)) (C1 ++ [some (.ins c [])]) with
  | .ok .non C2 => if own = true then .ok (.cell C1.length) C2 else (match C2[C1.length]? with
    | some (some (.ins c' fs)) => if c' = c ∧ fs.length = nf ∧ cbL C1.length fs = true then .ok (.obj c fs) (C2.take C1.length) else .stuck
    | _ => .stuck)
  | .exc e C2 => if cbL C1.length e.fs = true then .exc e (C2.take C1.length) else .stuck
  | _ => .stuck
def tMakeS (Cc : Addr) (sp : Sp) (dvs : List V) (E : L2.St → XK) (t : TA) : TE := fun σ H Q => t σ H fun vs H1 => ∀ x dx, H1 x = none → H1 dx = none → dx ≠ x →
  sp (.ref x :: (vs ++ dvs)) (upd (upd H1 dx (.own x)) x (.ins Cc dx [])) (fun v H2 => v = .non ∧ Q (.ref x) H2) (E σ)
section
variable {X : Cx} {k : Cn} {W : WX} {σ : L2.St} {H : Hp} {Q : VK} {lev : Nat} {f C p g : Addr} {fd : FuncData} {ps : List Str} {np : Nat} {m : MF} {dvs : List V} {dds : List D} {ds : List Value} {x nm : Str} {pn pos apos : Pos} {e o : Expr} {es : List Expr} {ma : MA} {mo : ME}
theorem run_makeG {sp : Sp} {E : L2.St → XK} {pins : List (Addr × Obj)} {σ : L2.St} {H : Hp} {s : Shared} {Q : VK} {us : List Value} {vs : List V} (M : Mk X.K C f) (F : FnG X.prog X.w X.K X.mg X.base lev f fd ps sp) (hr : RoomG (lev + 1) X.A) (hb : Binds X.K fd ps ds) (hd : Vals dvs ds)
    (hx : ∀ σ, PassesAt (L2.CX X.prog X.w) X σ (E σ)) (I : Inv X pins σ H s) (r : Vals vs us)
    (h : ∀ x dx, H x = none → H dx = none → dx ≠ x → sp (.ref x :: (vs ++ dvs)) (upd (upd H dx (.own x)) x (.ins C dx [])) (fun v H2 => v = .non ∧ Q (.ref x) H2) (E σ)) :
    wpAny (model X.prog X.w) X.A (call (.ref C) us) (EP X pins σ Q) X.xe s := by
  have hq := h (s.heap.objs.size + 1) s.heap.objs.size (I.hok.fresh (Nat.le_succ _)) (I.hok.fresh (Nat.le_refl _)) (Nat.ne_of_lt (Nat.lt_succ_self _))
  have I2 := Inv.made (C := C) I
  have r2 : Vals (V.ref (s.heap.objs.size + 1) :: (vs ++ dvs)) (Value.ref (s.heap.objs.size + 1) :: (us ++ ds)) := .cons rfl (r.append hd)
  have hl : (Value.ref (s.heap.objs.size + 1) :: us ++ ds).length = ps.length := by
    have e := r2.length
    rw [F.len _ _ _ _ hq] at e
    exact e.symm
  refine wpAny_call (make_map (f := f) I.kIn M.makes M.init (beq_iff_eq.mp M.fn) (codeAny_mono (F.run _ X.stack _ _ ⟨Value.ref (s.heap.objs.size + 1) :: us, []⟩ (Value.ref (s.heap.objs.size + 1) :: (us ++ ds)) _ _ (E σ) (hr.make C us [])
    (I2.env0.make C us []) (hb _ (Value.ref (s.heap.objs.size + 1) :: us) I2.kIn hl) r2 hq) fun r s' hq' => ?_))
  cases r with
  | error e => exact hx σ pins _ _ e s' I2 hq'
  | ok fl =>
    cases fl with
    | ret u =>
      obtain ⟨v, H', I3, rv, ev, q3⟩ := I2.after hq'
      subst ev
      exact ⟨rv, ⟨V.ref (s.heap.objs.size + 1), H', I3, rfl, q3⟩⟩
    | next => exact False.elim hq'
    | brk => exact False.elim hq'
    | cont => exact False.elim hq'
theorem pe_makeG {sp : Sp} {E : L2.St → XK} {t : TA} (M : Mk X.K C f) (F : FnG X.prog X.w X.K X.mg X.base lev f fd ps sp) (hr : RoomG (lev + 1) X.A) (hg : Gl X x) (hm : X.mg x = some (.ref C)) (hb : Binds X.K fd ps ds) (hd : Vals dvs ds) (hx : ∀ σ, PassesAt (L2.CX X.prog X.w) X σ (E σ))
    (ha : PA X (e :: es) t) (hdb : (x == ("__debug__" : Str)) = false := by decide) (he : starEach (e :: es) X.env = (false, eval e X.env) :: starEach es X.env := by rfl) (hpl : (backTo pos (starEach es X.env)).any (·.1) = false := by rfl) :
    PE X (.Call (.Name x pn) (e :: es) [] pos) (tMakeS C sp dvs E t) := by
  refine ⟨fun pins s σ H Q I h => ?_⟩
  refine wpAny_Call_Name_kw (ld_glob I hg hm ?_ hdb)
  refine PySem.W.callWith_K (h₀ := X.base) I.ok.mod.kin M.kp (thn (ha.run pos pins s σ H _ I h) fun us s1 ⟨vs, H1, I1, r, q⟩ => ⟨I1.kIn, ?_⟩) he hpl
  exact run_makeG M F hr hb hd hx I1 r q
theorem le_make {own : Bool} {c nf : Nat} (ar : Ar np m) (hnf : (k.fn c).length = nf) (hdd : ∀ A C H, RepL k A C H dvs dds) (h : LE k W (mMake own c nf m dds ma) σ H Q) : tMakeS (k.cl c) (SpD k np m) dvs (WE W) (LA k W ma) σ H Q := by
  obtain ⟨A, F, C, s, h⟩ := h
  refine ⟨A, F, C, s, (Aft.bnd (rel := RepDs k) h).mono fun xs C1 A1 H1 vs p1 st1 r1 h1 => ?_⟩
  have s1 := s.step p1 st1
  intro x dx hx hdx hne
  have hx' : (upd H1 dx (.own x)) x = none := by rw [upd_ne (Ne.symm hne)]; exact hx
  have k1 : Kp A1 C1 H1 A1 C1 (upd H1 dx (.own x)) := kp_new hdx
  have st2 : StOk k A1 C1 (upd H1 dx (.own x)) := st1.new hdx
  have k2 : Kp A1 C1 (upd H1 dx (.own x)) (ext A1 C1.length x) (C1 ++ [some (.ins c [])]) (upd (upd H1 dx (.own x)) x (.ins (k.cl c) dx [])) := kp_cell (k := k) st2 hx'
  have st3 : StOk k (ext A1 C1.length x) (C1 ++ [some (.ins c [])]) (upd (upd H1 dx (.own x)) x (.ins (k.cl c) dx [])) := st2.cell hx' ⟨dx, [], upd_same, Nat.zero_le _, .nil⟩
  have pp : Stp k C1.length A1 C1 H1 (ext A1 C1.length x) (C1 ++ [some (.ins c [])]) (upd (upd H1 dx (.own x)) x (.ins (k.cl c) dx [])) := (k1.stp0).trans (k2.stp fun f h1 h2 l => low_app h2 l)
  have ppF := pp.less s1.fl
  have n1 : C1.length < (C1 ++ [some (Cell.ins c [])]).length := by simp
  have rs : RepL k (ext A1 C1.length x) (C1 ++ [some (.ins c [])]) (upd (upd H1 dx (.own x)) x (.ins (k.cl c) dx [])) (.ref x :: (vs ++ dvs)) (.cell C1.length :: (xs ++ dds)) := .cons (rep_new C1.length _) ((pp.reps r1).append (hdd _ _ _))
  have low0 : LowC C1.length (C1 ++ [some (Cell.ins c [])]) := low_app (Nat.le_refl _) st1.low
  refine sp_of (fl := C1.length) (Nat.le_of_lt n1) ar st3 rs ?_
  cases em : m (.cell C1.length :: (xs ++ dds)) (C1 ++ [some (.ins c [])]) with
  | ok d C2 =>
    rw [em] at h1
    intro A3 H3 v p3 st4 r3
    obtain ⟨ha3, hl3⟩ := cell_at p3 (ext_at A1 C1.length x) n1
    have p3n : Stp k C1.length A1 C1 H1 A3 C2 H3 := pp.trans p3
    have low3 : LowC C1.length C2 := p3.low _ (Nat.le_refl _) (Nat.le_of_lt n1) low0
    cases d with
    | non =>
      cases r3
      refine ⟨rfl, ?_⟩
      simp only at h1
      cases own with
      | true =>
        rw [if_pos rfl] at h1
        have r : Rep k A3 C2 H3 (.ref (A3 C1.length)) (.cell C1.length) := .cell hl3
        rw [ha3] at r
        exact h1 A3 H3 _ (p3n.less s1.fl) st4 r
      | false =>
        rw [if_neg (by decide)] at h1
        split at h1
        · rename_i c' fs ec
          split at h1
          · rename_i hc
            obtain ⟨rfl, hfs, hcb⟩ := hc
            obtain ⟨dx3, ws, hw, hle, rw3⟩ := st4.at_ _ _ ec
            have tl : (C2.take C1.length).length = C1.length := by rw [List.length_take]; omega
            have p4 : Stp k F.fl A1 C1 H1 A3 (C2.take C1.length) H3 := ⟨fun v d r => (p3n.rep v d r).cut (Nat.le_of_lt hl3) r.cb, by rw [tl]; exact Nat.le_refl _, fun f h1 h2 l => low_take ((p3n.less s1.fl).low f h1 h2 l), p3n.frz⟩
            refine h1 A3 H3 _ p4 (st4.take (Nat.le_of_lt hl3) low3) ?_
            rw [← ha3]
            refine .obj (fun l => ?_) (dx := dx3) (vs := ws) ?_ ?_ (rw3.cut (Nat.le_of_lt hl3) hcb)
            · obtain ⟨i, c, e, z⟩ := l
              by_cases hi : i < C1.length
              · rw [List.getElem?_take_of_lt hi] at e
                exact absurd (st4.inj i _ _ _ e ec z) (Nat.ne_of_lt hi)
              · rw [List.getElem?_eq_none (by rw [tl]; omega)] at e
                cases e
            · rw [hw, hfs, ← hnf, List.take_length]
            · rw [rw3.length, hfs, hnf]
          · exact h1.elim
        · exact h1.elim
    | _ => simp only at h1; exact h1.elim
  | exc e C2 =>
    rw [em] at h1
    simp only at h1
    intro A3 H3 dd ws p3 st4 hx3 hl3' r3
    obtain ⟨ha3, hl3⟩ := cell_at p3 (ext_at A1 C1.length x) n1
    have p3n : Stp k C1.length A1 C1 H1 A3 C2 H3 := pp.trans p3
    have low3 : LowC C1.length C2 := p3.low _ (Nat.le_refl _) (Nat.le_of_lt n1) low0
    split at h1
    · rename_i hcb
      have tl : (C2.take C1.length).length = C1.length := by rw [List.length_take]; omega
      have p4 : Stp k F.fl A1 C1 H1 A3 (C2.take C1.length) H3 := ⟨fun v d r => (p3n.rep v d r).cut (Nat.le_of_lt hl3) r.cb, by rw [tl]; exact Nat.le_refl _, fun f h1 h2 l => low_take ((p3n.less s1.fl).low f h1 h2 l), p3n.frz⟩
      exact h1 A3 H3 dd ws p4 (st4.take (Nat.le_of_lt hl3) low3) hx3 hl3' (r3.cut (Nat.le_of_lt hl3) hcb)
    · exact h1.elim
  | stuck =>
    rw [em] at h1
    exact h1.elim
theorem de_make (own : Bool) (c nf : Nat) (tk : Takes X W) (hK : X.K = k.K) (M : Mk k.K (k.cl c) f) (F : FnG X.prog X.w X.K X.mg X.base lev f fd ps (SpD k np m)) (ar : Ar np m) (hnf : (k.fn c).length = nf) (hr : RoomG (lev + 1) X.A) (hg : Gl X x) (hm : X.mg x = some (.ref (k.cl c))) (hb : Binds X.K fd ps ds) (hd : Vals dvs ds) (hdd : ∀ A C H, RepL k A C H dvs dds)
    (ha : PA X (e :: es) (LA k W ma)) (hdb : (x == ("__debug__" : Str)) = false := by decide) (he : starEach (e :: es) X.env = (false, eval e X.env) :: starEach es X.env := by rfl) (hpl : (backTo pos (starEach es X.env)).any (·.1) = false := by rfl) :
    PE X (.Call (.Name x pn) (e :: es) [] pos) (LE k W (mMake own c nf m dds ma)) := (pe_makeG (by rw [hK]; exact M) F hr hg hm hb hd (fun σ => passAt tk σ) ha hdb he hpl).cq fun _ _ _ h => le_make ar hnf hdd h
/-! ### o.f = e -/
def sFldS (c n : Nat) (me mo : ME) : MS := fun F C => bndS F.sl (me F C) fun v C1 => bndS F.sl (mo F C1) fun o C2 => match o with
  | .cell i => match C2[i]? with
    | some (some (.ins c' fs)) => if c' = c ∧ n ≤ fs.length then (match wr F.fl i (.ins c (if n < fs.length then fs.set n v else fs ++ [v])) C2 with
      | some C3 => .nx F.sl C3
      | none => .stuck) else .stuck
    | _ => .stuck
  | _ => .stuck
end
theorem putF_set {y : V} {f : Str} : ∀ {names : List Str} {vs : List V} {n : Nat}, names.Nodup → vs.length = names.length → names[n]? = some f → putF f y (names.zip vs) = names.zip (vs.set n y)
  | [], _, _, _, _, h => by simp at h
  | a :: r, [], _, _, hl, _ => by simp at hl
  | a :: r, b :: t, 0, nd, hl, h => by
    simp at h
    subst h
    simp [putF]
  | a :: r, b :: t, n + 1, nd, hl, h => by
    simp at h hl
    simp only [List.nodup_cons] at nd
    have ne : ¬ (a = f) := fun e => nd.1 (by rw [e]; exact List.mem_of_getElem? h)
    rw [List.zip_cons_cons, List.set_cons_succ, List.zip_cons_cons]
    show (if a = f then _ else (a, b) :: putF f y (r.zip t)) = _
    rw [if_neg ne, putF_set nd.2 hl h]
theorem putF_new {y : V} {f : Str} : ∀ {names : List Str} {vs : List V}, f ∉ names → vs.length = names.length → putF f y (names.zip vs) = (names ++ [f]).zip (vs ++ [y])
  | [], [], _, _ => rfl
  | [], _ :: _, _, hl => by simp at hl
  | a :: r, [], _, hl => by simp at hl
  | a :: r, b :: t, h, hl => by
    simp only [List.mem_cons, not_or] at h
    simp at hl
    rw [List.zip_cons_cons]
    show (if a = f then _ else (a, b) :: putF f y (r.zip t)) = _
    rw [if_neg (fun e => h.1 e.symm), putF_new h.2 hl]
    rfl
section
variable {X : Cx} {k : Cn} {W : WX} {σ : L2.St} {H : Hp} {E : Ends} {e o : Expr} {me mo : ME} {pos pos' : Pos}
theorem ls_fld {c n : Nat} {f : Str} (hc : Cls k.K (k.cl c)) (hno : NoAttr k.K (k.cl c) f) (nd : (k.fn c).Nodup) (hf : (k.fn c)[n]? = some f) (h9 : (k.fn c).length < 1000) (h : LS k W (sFldS c n me mo) E σ H) : sFld k.K (LE k W mo) (LE k W me) f E σ H := by
  obtain ⟨A, F, C, s, h⟩ := h
  refine ⟨A, F, C, s, (AftS.bnd (rel := RepD k) s h).mono fun dv C1 A1 H1 v p1 st1 rv h1 => ?_⟩
  have s1 := s.step p1 st1
  refine ⟨A1, F, C1, s1, (AftS.bnd (rel := RepD k) s1 h1).mono fun dO C2 A2 H2 o p2 st2 ro h2 => ?_⟩
  have s2 := s1.step p2 st2
  cases ro with
  | @cell i hi =>
    simp only at h2
    split at h2
    · rename_i c' fs ec
      split at h2
      · rename_i hcn
        obtain ⟨rfl, hn⟩ := hcn
        cases ew : wr F.fl i (.ins c' (if n < fs.length then fs.set n dv else fs ++ [dv])) C2 with
        | none => simp only [ew] at h2; exact h2.elim
        | some C3 =>
          simp only [ew] at h2
          obtain ⟨dx, vs, ha, hle, rvs⟩ := st2.at_ i _ ec
          have hnl : n < (k.fn c').length := (List.getElem?_eq_some_iff.mp hf).1
          obtain ⟨rfl, hcb⟩ := wr_some ew
          have hz : (((k.fn c').take fs.length).zip vs).length < 1000 := by rw [List.length_zip, List.length_take]; omega
          refine ⟨A2 i, k.cl c', dx, _, rfl, ha, hc, hno, hz, ?_⟩
          have vl : vs.length = ((k.fn c').take fs.length).length := by rw [rvs.length, List.length_take]; omega
          have rv2 := p2.rep _ _ rv
          by_cases hlt : n < fs.length
          · rw [if_pos hlt] at h2 hcb
            have e1 : putF f v (((k.fn c').take fs.length).zip vs) = ((k.fn c').take (fs.set n dv).length).zip (vs.set n v) := by
              rw [List.length_set]
              exact putF_set (nd.sublist (List.take_sublist _ _)) vl (by rw [List.getElem?_take_of_lt hlt]; exact hf)
            rw [e1]
            have q : Kp A2 C2 H2 A2 (C2.set i (some (.ins c' (fs.set n dv)))) (upd H2 (A2 i) (.ins (k.cl c') dx (((k.fn c').take (fs.set n dv).length).zip (vs.set n v)))) := kp_write st2 ec
            have w1 : Stp k F.fl A2 C2 H2 A2 _ _ := q.stp fun f h1 h2 l => low_set hcb h1 l
            have w2 : StOk k A2 _ _ := st2.write ec (c := .ins c' (fs.set n dv)) ⟨dx, vs.set n v, upd_same, by simpa using hle, (rvs.set rv2 n).kp q⟩
            exact h2 A2 σ _ w1 (s2.step w1 w2)
          · have en : n = fs.length := by omega
            rw [if_neg hlt] at h2 hcb
            have e1 : putF f v (((k.fn c').take fs.length).zip vs) = ((k.fn c').take (fs ++ [dv]).length).zip (vs ++ [v]) := by
              have e2 : (k.fn c').take (fs ++ [dv]).length = (k.fn c').take fs.length ++ [f] := by
                rw [List.length_append, List.length_singleton, List.take_add_one, ← en, hf]
                rfl
              rw [e2]
              refine putF_new (fun hm => ?_) vl
              obtain ⟨j, hj⟩ := List.mem_iff_getElem?.mp hm
              have hjl : j < fs.length := by
                have := (List.getElem?_eq_some_iff.mp hj).1
                rw [List.length_take] at this
                omega
              rw [List.getElem?_take_of_lt hjl] at hj
              have := nd_ix nd hj hf
              omega
            rw [e1]
            have q : Kp A2 C2 H2 A2 (C2.set i (some (.ins c' (fs ++ [dv])))) (upd H2 (A2 i) (.ins (k.cl c') dx (((k.fn c').take (fs ++ [dv]).length).zip (vs ++ [v])))) := kp_write st2 ec
            have w1 : Stp k F.fl A2 C2 H2 A2 _ _ := q.stp fun f h1 h2 l => low_set hcb h1 l
            have w2 : StOk k A2 _ _ := st2.write ec (c := .ins c' (fs ++ [dv])) ⟨dx, vs ++ [v], upd_same, by simp; omega, (rvs.append (.cons rv2 .nil)).kp q⟩
            exact h2 A2 σ _ w1 (s2.step w1 w2)
      · exact h2.elim
    · exact h2.elim
  | _ => exact h2.elim
theorem ds_fld (c n : Nat) {f : Str} (hK : X.K = k.K) (hc : Cls k.K (k.cl c)) (hno : NoAttr k.K (k.cl c) f) (nd : (k.fn c).Nodup) (hf : (k.fn c)[n]? = some f) (h9 : (k.fn c).length < 1000) (ho : PE X o (LE k W mo)) (he : PE X e (LE k W me)) (hs : swapsWith e (some (.Attribute o f pos')) pos.line X.env = pure false := by rfl) :
    PS X (.Assign [.Attribute o f pos'] e pos) (LS k W (sFldS c n me mo)) := (ps_fld ho he hs).cq fun _ _ _ h => by
  rw [hK]
  exact ls_fld hc hno nd hf h9 h
end
end CT
set_option maxHeartbeats 4000000
/-! DLB: properties, isinstance, comprehensions as statements, two clauses. -/
namespace CT
open PySem L2 PySem.Spec PyProof.Rows
/-! ### o.f, a property -/
def tPropS (Cc : Addr) (sp : Sp) (ta : TE) : TE := fun σ H Q => ta σ H fun x H1 => ∃ a dx fs, x = .ref a ∧ H1 a = some (.ins Cc dx fs) ∧ sp [.ref a] H1 Q E0
section
variable {X : Cx} {k : Cn} {W : WX} {σ : L2.St} {H : Hp} {Q : VK} {lev : Nat} {C p g a dx : Addr} {fs : List (Str × V)} {f : Str} {fd : FuncData} {ps : List Str} {np : Nat} {m : MF} {e o : Expr} {pos : Pos} {ta : TE} {mo : ME}
theorem getprop_G {sp : Sp} {pins : List (Addr × Obj)} {σ : L2.St} {H : Hp} {s : Shared} {Q : VK} {b : Bool} (I : Inv X pins σ H s) (ea : H a = some (.ins C dx fs)) (c : Cls X.K C) (hp : PropOf X.K C f p g)
    (F : FnG X.prog X.w X.K X.mg X.base lev g fd ps sp) (hr : RoomG (lev + 1) X.A) (hb : Binds X.K fd ps []) (h : sp [.ref a] H Q E0) :
    wpAny (model X.prog X.w) X.A (getAttr (.ref a) f b) (EP X pins σ Q) X.xe s := by
  obtain ⟨mA, O, _, _, _, _⟩ := ins_get I.hok ea
  obtain ⟨od, J, _⟩ := O.look
  obtain ⟨rest, hrec⟩ := hp.rec_
  have I1 := I.tok (s.toks + 1)
  have hl : ([Value.ref a] ++ []).length = ps.length := by
    rw [← F.len _ _ _ _ h]
    rfl
  have hc : (PySem.W.clsIn X.K C).isSome = true := by
    obtain ⟨cd, hc, _⟩ := PySem.W.any_some c.hd
    rw [hc]
    rfl
  refine PySem.W.get_bind I.kIn J (PySem.W.plainGet_of (c.get f)).1 (PySem.W.findObj_data hc hp.at_ hp.get hp.tak) (PySem.W.plainGet_of (c.get f)).2 (wpAny_call (PySem.W.prop_get (s := { s with toks := s.toks + 1 }) I.kIn hrec ?_))
  refine codeAny_mono (F.run X.A.in1 X.stack { s with toks := s.toks + 1 } H ⟨[.ref a], []⟩ [.ref a] [.ref a] Q E0 hr.in1 I1.env0.in1 (by simpa using hb _ [.ref a] I1.kIn hl) (.cons rfl .nil) h) fun r s' hq => ?_
  cases r with
  | error er =>
    obtain ⟨_, _, _, _, _, _, _, _, _, _, _, _, z⟩ := hq
    exact z.elim
  | ok fl =>
    cases fl with
    | ret u =>
      obtain ⟨v, H', I3, rv, q3⟩ := I1.after hq
      show wpAny _ _ (handedOut u) _ _ _
      rw [PySem.W.handedOut_of (handed_of rv)]
      exact wpAny_pure ⟨v, H', I3, rv, q3⟩
    | next => exact False.elim hq
    | brk => exact False.elim hq
    | cont => exact False.elim hq
theorem pe_propG {sp : Sp} (he : PE X e ta) (c : Cls X.K C) (hp : PropOf X.K C f p g) (F : FnG X.prog X.w X.K X.mg X.base lev g fd ps sp) (hr : RoomG (lev + 1) X.A) (hb : Binds X.K fd ps [])
    (hab : attributeBase e f X.env (eval e X.env) = eval e X.env) : PE X (.Attribute e f pos) (tPropS C sp ta) := by
  refine ⟨fun pins s σ H Q I h => ?_⟩
  refine attr_of hab (thn (he.run pins s σ H _ I h) fun u s1 ⟨x, H1, I1, rx, a, dx, fs, ex, ea, q⟩ => ?_)
  subst ex
  obtain rfl : u = Value.ref a := rx
  exact getprop_G I1 ea c hp F hr hb q
theorem le_prop {c : Nat} (ar : Ar np m) (h : LE k W (mProp c m mo) σ H Q) : tPropS (k.cl c) (SpD k np m) (LE k W mo) σ H Q := by
  obtain ⟨A, F, C, s, h⟩ := h
  refine ⟨A, F, C, s, (Aft.bnd (rel := RepD k) h).mono fun dx C1 A1 H1 v p1 st1 r1 h1 => ?_⟩
  split at h1
  · rename_i c' fs ev
    split at h1
    · rename_i hcc
      subst hcc
      obtain ⟨a, dx', vs, rfl, ha, hle, rv⟩ := vO_at st1 r1 ev
      refine ⟨a, dx', _, rfl, ha, sp_of (s.step p1 st1).fl ar st1 (.cons r1 .nil) ?_⟩
      cases em : m [dx] C1 with
      | ok d C2 => rw [em] at h1; exact h1
      | exc e C2 => rw [em] at h1; exact h1.elim
      | stuck => rw [em] at h1; exact h1.elim
    · exact h1.elim
  · exact h1.elim
theorem de_prop (c : Nat) (hK : X.K = k.K) (he : PE X o (LE k W mo)) (hc : Cls k.K (k.cl c)) (hp : PropOf k.K (k.cl c) f p g) (F : FnG X.prog X.w X.K X.mg X.base lev g fd ps (SpD k np m)) (ar : Ar np m) (hr : RoomG (lev + 1) X.A) (hb : Binds X.K fd ps [])
    (hab : attributeBase o f X.env (eval o X.env) = eval o X.env := by rfl) : PE X (.Attribute o f pos) (LE k W (mProp c m mo)) :=
  (pe_propG he (by rw [hK]; exact hc) (by rw [hK]; exact hp) F hr hb hab).cq fun _ _ _ h => le_prop ar h
end
/-! ### isinstance -/
theorem isaT_ok : ∀ a b : Bt, kitB a.name b.name = some (isaT a b) := by
  intro a b
  cases a <;> cases b <;> decide +kernel
/-- what the written part says of the own classes in kn -/
structure IsaOk (k : Cn) (kn : List Nat) : Prop where
  ins : ∀ c ∈ kn, C8.InsC k.K (k.cl c)
  own : ∀ c ∈ kn, ∀ c' ∈ kn, PySem.W.kitOne k.K (.ref (k.cl c)) (.ref (k.cl c')) = some (decide (c = c'))
  bty : ∀ c ∈ kn, ∀ b : Bt, PySem.W.kitOne k.K (.ref (k.cl c)) (.type b.name) = some false
  tyb : ∀ c ∈ kn, ∀ b : Bt, PySem.W.kitOne k.K (.type b.name) (.ref (k.cl c)) = some false
def Cc.inn (kn : List Nat) : Cc → Bool
  | .ty _ => true
  | .own c => decide (c ∈ kn)
section
variable {X : Cx} {k : Cn} {W : WX} {σ : L2.St} {H : Hp} {Q : VK}
theorem isi_ok {kn : List Nat} (ok : IsaOk k kn) {A : Nat → Addr} {C : Store} {v : V} {d : D} {t : Cc} {b : Bool} (ht : t.inn kn = true) (st : StOk k A C H) (r : Rep k A C H v d) (e : isi kn d C t = some b) : ∃ c0 : Cc, tyD d C = some c0 ∧ TyX k.K H v (c0.val k) ∧ PySem.W.kitOne k.K (c0.val k) (t.val k) = some b := by
  have base : ∀ a : Bt, tyD d C = some (.ty a) → PySem.W.kitOne k.K (.type a.name) (t.val k) = some b := fun a ea => by
    unfold isi at e
    rw [ea] at e
    cases t with
    | ty b' =>
      cases e
      exact kit_ty (isaT_ok a b')
    | own c =>
      cases e
      exact ok.tyb c (of_decide_eq_true ht) a
  have inst : ∀ c fs dx (a : Addr), tyD d C = some (.own c) → H a = some (.ins (k.cl c) dx fs) → ∃ c0 : Cc, tyD d C = some c0 ∧ TyX k.K H (.ref a) (c0.val k) ∧ PySem.W.kitOne k.K (c0.val k) (t.val k) = some b := fun c fs dx a ea ha => by
    unfold isi at e
    rw [ea] at e
    simp only at e
    split at e
    · rename_i hc
      have I := ok.ins c hc
      refine ⟨.own c, ea, .base (.ins ha I.cl I.ha I.hn I.htk I.hm), ?_⟩
      cases t with
      | ty b' => cases e; exact ok.bty c hc b'
      | own c' => cases e; exact ok.own c hc c' (of_decide_eq_true ht)
    · cases e
  cases r with
  | non => exact ⟨.ty .none, rfl, .base .non, base .none rfl⟩
  | bl b => exact ⟨.ty .bool, rfl, .base (.bl b), base .bool rfl⟩
  | int i => exact ⟨.ty .int, rfl, .base (.int i), base .int rfl⟩
  | str s => exact ⟨.ty .str, rfl, .base (.str s), base .str rfl⟩
  | lst l h rv => exact ⟨.ty .list, rfl, .base (.lst h), base .list rfl⟩
  | tup l h rv => exact ⟨.ty .tuple, rfl, .base (.tup h), base .tuple rfl⟩
  | ktup h rv =>
    obtain ⟨o, its, n, h1, h2, _⟩ := h
    exact ⟨.ty .tuple, rfl, .kTuple h1 h2, base .tuple rfl⟩
  | scr l h rv => cases e
  | kscr h rv => cases e
  | obj l h z rv => exact inst _ _ _ _ rfl h
  | exn x l h z rv => cases e
  | cls c => cases e
  | @dT a kvs ds l h rv =>
    cases kvs with
    | nil =>
      rcases h with h | h
      · exact ⟨.ty .dict, rfl, .base (.dT h), base .dict rfl⟩
      · exact absurd rfl h.1
    | cons p t => cases e
  | @cell i hi =>
    cases ec : C[i]? with
    | none => simp only [isi, tyD, ec] at e; cases e
    | some oc =>
      cases oc with
      | none => simp only [isi, tyD, ec] at e; cases e
      | some c =>
        cases c with
        | lst xs =>
          obtain ⟨vs, hv, _⟩ := st.at_ i _ ec
          exact ⟨.ty .list, by simp only [tyD, ec], .base (.lst hv), base .list (by simp only [tyD, ec])⟩
        | dT ks xs =>
          obtain ⟨vs, hv, _⟩ := st.at_ i _ ec
          exact ⟨.ty .dict, by simp only [tyD, ec], .base (.dT hv), base .dict (by simp only [tyD, ec])⟩
        | ins c xs =>
          obtain ⟨dx, vs, hv, _⟩ := st.at_ i _ ec
          exact inst c _ dx _ (by simp only [tyD, ec]) hv
theorem le_isi {kn : List Nat} {t : Cc} {m : ME} (ok : IsaOk k kn) (ht : t.inn kn = true) (h : LE k W (mIsi kn t m) σ H Q) : tCB (rIsi k.K) (tCons (LE k W m) (tCons (tC (t.v k)) tNil)) σ H Q := by
  obtain ⟨A, F, C, s, h⟩ := h
  refine ⟨A, F, C, s, (Aft.bnd (rel := RepD k) h).mono fun d C1 A1 H1 v p1 st1 r1 h1 => ?_⟩
  split at h1
  · rename_i b e
    obtain ⟨c0, _, h2, h3⟩ := isi_ok ok ht st1 r1 e
    exact ⟨v, t.v k, c0.val k, t.val k, b, rfl, t.cls, h2, h3, h1 A1 H1 _ Stp.refl st1 (.bl b)⟩
  · exact h1.elim
theorem le_isi2 {kn : List Nat} {t u : Cc} {m : ME} (ok : IsaOk k kn) (ht : t.inn kn = true) (hu : u.inn kn = true) (h : LE k W (mIsi2 kn t u m) σ H Q) : tCB (rIsiT k.K) (tCons (LE k W m) (tCons (tTup (tCons (tC (t.v k)) (tCons (tC (u.v k)) tNil))) tNil)) σ H Q := by
  obtain ⟨A, F, C, s, h⟩ := h
  refine ⟨A, F, C, s, (Aft.bnd (rel := RepD k) h).mono fun d C1 A1 H1 v p1 st1 r1 h1 => ?_⟩
  split at h1
  · rename_i b b' e e'
    refine ⟨by show 2 ≤ sizeLine; decide, fun p hp => ?_⟩
    have q : Kp A1 C1 H1 A1 C1 (upd H1 p (.tup [t.v k, u.v k])) := kp_new hp
    have r2 := r1.kp (k := k) q
    have st2 := st1.new (o := .tup [t.v k, u.v k]) hp
    obtain ⟨c0, g1, h2, h3⟩ := isi_ok ok ht st2 r2 e
    obtain ⟨c1, g2, h2', h3'⟩ := isi_ok ok hu st2 r2 e'
    rw [g1] at g2
    cases g2
    refine ⟨v, p, [t.v k, u.v k], c0.val k, [t.val k, u.val k], b || b', rfl, upd_same, .cons t.cls (.cons u.cls .nil), h2, ?_, h1 A1 _ _ q.stp0 st2 (.bl _)⟩
    refine kitAny_cons h3 (fun hb => ?_) fun hb => by rw [hb]; rfl
    refine kitAny_cons h3' (fun hb' => ?_) fun hb' => by rw [hb']; simp
    rw [hb, hb']
    rfl
  · exact h1.elim
end
end CT
set_option maxHeartbeats 4000000
/-! DLC: isinstance as an expression; comprehensions that are assigned, and of two clauses; xs[i] += e; membership; list(range(..)). -/
namespace CT
open PySem L2 PySem.Spec PyProof.Rows
section
variable {X : Cx} {k : Cn} {W : WX} {σ : L2.St} {H : Hp} {Q : VK} {E : Ends}
theorem de_isi {e c : Expr} {p pos : Pos} {kn : List Nat} {t : Cc} {m : ME} (hg : Gl X "isinstance") (hm : X.mg "isinstance" = none) (ok : IsaOk k kn) (ht : t.inn kn = true) (hK : X.K = k.K) (he : PE X e (LE k W m)) (hc : PE X c (tC (t.v k)))
    (hs : starEach [e, c] X.env = (false, eval e X.env) :: starEach [c] X.env := by rfl) (hs2 : starEach [c] X.env = (false, eval c X.env) :: starEach [] X.env := by rfl) (hpl : (backTo pos (starEach [c] X.env)).any (·.1) = false := by rfl) : PE X (.Call (.Name "isinstance" p) [e, c] [] pos) (LE k W (mIsi kn t m)) :=
  (pe_callB call_isi hg hm (by decide +kernel) (pa_cons he (pa_cons hc pa_nil hs2) hs) (he := hs) (hpl := hpl)).cq fun _ _ _ h => by
    rw [hK]
    exact le_isi ok ht h
theorem de_isi2 {e c c' : Expr} {p pos tp : Pos} {kk : Nat} {kn : List Nat} {t u : Cc} {m : ME} (hg : Gl X "isinstance") (hm : X.mg "isinstance" = none) (ok : IsaOk k kn) (ht : t.inn kn = true) (hu : u.inn kn = true) (hK : X.K = k.K) (he : PE X e (LE k W m)) (hc : PE X c (tC (t.v k))) (hc' : PE X c' (tC (u.v k)))
    (hs : starEach [e, .Tuple [c, c'] kk tp] X.env = (false, eval e X.env) :: starEach [.Tuple [c, c'] kk tp] X.env := by rfl) (hs2 : starEach [.Tuple [c, c'] kk tp] X.env = (false, eval (.Tuple [c, c'] kk tp) X.env) :: starEach [] X.env := by rfl) (hpl : (backTo pos (starEach [.Tuple [c, c'] kk tp] X.env)).any (·.1) = false := by rfl)
    (h3 : starEach [c, c'] X.env = (false, eval c X.env) :: starEach [c'] X.env := by rfl) (h4 : starEach [c'] X.env = (false, eval c' X.env) :: starEach [] X.env := by rfl) : PE X (.Call (.Name "isinstance" p) [e, .Tuple [c, c'] kk tp] [] pos) (LE k W (mIsi2 kn t u m)) :=
  (pe_callB call_isiT hg hm (by decide +kernel) (pa_cons he (pa_cons (pe_tup (pa_cons hc (pa_cons hc' pa_nil h4) h3)) pa_nil hs2) hs) (he := hs) (hpl := hpl)).cq fun _ _ _ h => by
    rw [hK]
    exact le_isi2 ok ht hu h
/-! ### tests of a clause -/
theorem _root_.L2.PTs.cq {X : Cx} {e : List Expr} {t t' : TT} (h : PTs X e t) (c : ∀ σ H Q, t' σ H Q → t σ H Q) : PTs X e t' := ⟨fun pins s σ H Q I q => h.run pins s σ H Q I (c σ H Q q)⟩
theorem dts_nil : PTs X [] (LT k W tYesM) := pts_nil.cq fun σ H Q h => by
  obtain ⟨A, F, C, s, h⟩ := h
  exact h A H true Stp.refl s.st rfl
/-! ### y = [..] -/
theorem ds_setLc {i : Nat} {y : Str} {py : Pos} {elt tg iter : Expr} {ifs : List Expr} {scope : Scope} {own : List (Str × Nat)} {pos spos : Pos} {mi : MI} {t : Tgt} {tt : MT} {te : ME} (ow : Bool) (hK : X.K = k.K) (hc : X.calm = true) (hN : X.N.Nodup) (hy : X.N[i]? = some y) (hyl : X.env.scope.names.lookup y = some .local)
    (hsw : swapsWith (.ListComp elt [⟨tg, iter, ifs, 0⟩] scope pos) (some (.Name y py)) spos.line X.env = pure true) (hi : PI X tg iter (LI k W mi)) (ok : BlkOk X.N X.env.scope scope own) (hv : ∀ i ∈ t.slots, i ∈ own.map (·.2))
    (hg : ∀ (s : Shared) (H : Hp) (C : Addr) (cl : List (Str × Addr)) (fp : List Addr), PG (X.blk s H scope (compEnvC scope cl C X.env) fp) tg (t.T k.K)) (ht : ∀ (s : Shared) (H : Hp) (C : Addr) (cl : List (Str × Addr)) (fp : List Addr), PTs (X.blk s H scope (compEnvC scope cl C X.env) fp) ifs (LT k WF tt))
    (he : ∀ (s : Shared) (H : Hp) (C : Addr) (cl : List (Str × Addr)) (fp : List Addr), PE (X.blk s H scope (compEnvC scope cl C X.env) fp) elt (LE k WF te)) (hs : ∀ x, foldedSetIterable iter X.env x = pure x := by intro _; rfl) :
    PS X (.Assign [.Name y py] (.ListComp elt [⟨tg, iter, ifs, 0⟩] scope pos) spos) (LS k W (sAsg (mLc ow mi t.M tt te (own.map (·.2))) (gN i))) :=
  (ps_setLc hc hN hy hyl hsw hi ok hg ht he hs).cq fun _ _ _ h => le_lc hv (ls_asg2 (t := .nm i) h)
/-! ### two clauses -/
def lc2N (it : ItD) (g : MG) (tt : MT) (mi1 : MI) (g1 : MG) (tt1 : MT) (te : ME) (n : Nat) (sl : List (Option D)) (vs1 : List Nat) : Nat → Nat → Store → R Unit
  | 0, _, C => if it.fin C = true then .ok () C else .stuck
  | r + 1, j, C => match it.item j C with
    | none => .stuck
    | some d => match g d sl with
      | none => .stuck
      | some sl1 => bn0 (tt ⟨n, sl1⟩ C) fun b C1 => if b = true then bn0 (mi1 ⟨n, sl1⟩ C1) fun it1 C2 => bn0 (lcN it1 g1 tt1 te n (wipeD sl1 vs1) it1.n 0 C2) fun _ C3 => lc2N it g tt mi1 g1 tt1 te n sl vs1 r (j + 1) C3
        else lc2N it g tt mi1 g1 tt1 te n sl vs1 r (j + 1) C1
def mLc2 (own : Bool) (mi : MI) (g : MG) (tt : MT) (mi1 : MI) (g1 : MG) (tt1 : MT) (te : ME) (vs vs1 : List Nat) : ME := fun F C => bnd (mi F C) fun it C1 => bn0 (lc2N it g tt mi1 g1 tt1 te C1.length (wipeD F.sl vs) vs1 it.n 0 (C1 ++ [some (.lst [])])) fun _ C2 => lcEnd own C1.length C2
theorem bn0_out {α β : Type} {m : R α} {f : α → Store → R β} {b : β} {C : Store} (h : bn0 m f = .ok b C) : ∃ a C1, m = .ok a C1 ∧ f a C1 = .ok b C := by
  cases m with
  | ok a C1 => exact ⟨a, C1, rfl, h⟩
  | exc e C1 => cases h
  | stuck => cases h
/-- the inner loop -/
theorem lc_inner {fl n : Nat} {J : It} {it : ItD} {t : Tgt} {tt : MT} {te : ME} {vs : List Nat} {sl0 : List (Option D)} {A : Nat → Addr} {C C3 : Store} {Dl : Addr} {Nx : Hp → Prop} (hv : ∀ i ∈ t.slots, i ∈ vs) (hf : fl ≤ n) (ok : ItOk k fl J it A C H) (sr : SR k A ⟨n, sl0⟩ C σ H) (hn : n < C.length) (ha : A n = Dl)
    (e : lcN it t.M tt te n (wipeD sl0 vs) it.n 0 C = .ok () C3) (hN : ∀ A' H', Stp k n A C H A' C3 H' → StOk k A' C3 H' → Nx H') :
    ∃ W1 : Nat → Nat → Hp → Prop, (∃ m, W1 0 m H) ∧ ∀ i m H, W1 i m H → (J.stop i H ∧ Nx H) ∨ (J.go i H ∧ ∃ Nx1 : Hp → Prop, (∀ H', Nx1 H' → ∃ m', m' < m ∧ W1 (i + 1) m' H') ∧ ∀ x H', J.yld i H x H' → t.T k.K x (L2.wipe σ vs) H' fun σ3 H5 => L2.wipe σ3 vs = L2.wipe σ vs ∧ LT k WF tt σ3 H5 fun b H6 =>
      if b = true then LE k WF te σ3 H6 fun y H7 => ∃ acc, H7 Dl = some (.lst acc) ∧ acc.length < sizeLine ∧ Nx1 (upd H7 Dl (.lst (acc ++ [y]))) else Nx1 H6) := by
  refine ⟨fun i m H' => ∃ A' C', m = it.n - i ∧ i ≤ it.n ∧ Stp k n A C H A' C' H' ∧ StOk k A' C' H' ∧ lcN it t.M tt te n (wipeD sl0 vs) (it.n - i) i C' = .ok () C3,
    ⟨it.n, _, _, rfl, Nat.zero_le _, Stp.refl, sr.st, e⟩, ?_⟩
  rintro i m H' ⟨A', C', rfl, hi, p, st', h'⟩
  obtain ⟨ha', hl'⟩ := cell_at p ha hn
  have low' : LowC n C' := p.low _ (Nat.le_refl _) (Nat.le_of_lt hn) sr.low
  obtain ⟨o1, o2⟩ := ok A' C' H' (p.less hf) st'
  cases er : it.n - i with
  | zero =>
    rw [er] at h'
    unfold lcN at h'
    have e : i = it.n := by omega
    split at h'
    · rename_i hf
      cases h'
      subst e
      exact .inl ⟨o2 hf, hN A' H' p st'⟩
    · cases h'
  | succ r =>
    rw [er] at h'
    unfold lcN at h'
    have hlt : i < it.n := by omega
    have hr : it.n - (i + 1) = r := by omega
    cases ei : it.item i C' with
    | none => simp only [ei] at h'; cases h'
    | some d =>
      simp only [ei] at h'
      obtain ⟨g1, g2⟩ := o1 i d hlt ei
      cases eg : t.M d (wipeD sl0 vs) with
      | none => simp only [eg] at h'; cases h'
      | some sl1 =>
        simp only [eg] at h'
        refine .inr ⟨g1, fun H4 => ∃ A4 C4, Stp k n A C H A4 C4 H4 ∧ StOk k A4 C4 H4 ∧ lcN it t.M tt te n (wipeD sl0 vs) (it.n - (i + 1)) (i + 1) C4 = .ok () C3,
          fun H4 ⟨A4, C4, a, b, c⟩ => ⟨it.n - (i + 1), by omega, A4, C4, rfl, by omega, a, b, c⟩, fun x H'' y => ?_⟩
        obtain ⟨A'', py, sty, rx⟩ := g2 x H'' y
        have py' : Stp k n A' C' H' A'' C' H'' := ⟨py.rep, py.len, fun f _ _ h => h, py.frz⟩
        have s9 : SR k A'' ⟨n, wipeD sl0 vs⟩ C' (L2.wipe σ vs) H'' := ((sr.re (p.trans py') sty low' (Nat.le_of_lt hl')).wipe vs)
        refine Tgt.of (vs0 := vs) s9 rx eg fun σ2 s2 w2 => ⟨by rw [w2 hv, wipe_wipe], A'', ⟨n, sl1⟩, C', s2, ?_⟩
        cases et : tt ⟨n, sl1⟩ C' with
        | ok b C5 =>
          rw [et] at h'
          simp only [bn0_ok] at h'
          intro A5 H5 v5 p5 st5 e5
          have e5 : v5 = b := e5
          subst e5
          have s5 := s2.step p5 st5
          cases v5 with
          | true =>
            rw [if_pos rfl] at h'
            refine iteT ⟨A5, ⟨n, sl1⟩, C5, s5, ?_⟩
            cases ee : te ⟨n, sl1⟩ C5 with
            | ok yd C6 =>
              rw [ee] at h'
              simp only [bn0_ok] at h'
              intro A6 H6 v6 p6 st6 r6
              have pall := (p.trans py').trans (p5.trans p6)
              obtain ⟨ha6, hl6⟩ := cell_at pall ha hn
              split at h'
              · rename_i acc hc
                split at h'
                · rename_i hz
                  obtain ⟨ws, hw, rw6⟩ := st6.at_ _ _ hc
                  rw [ha6] at hw
                  obtain ⟨q1, q2⟩ := push_L (k := k) (fl := n) (Nat.le_refl _) st6 ha6 hc hw r6
                  refine ⟨ws, hw, by have := szN_le hz; rw [rw6.length]; omega, A6, _, pall.trans q1, q2, ?_⟩
                  rw [hr]
                  exact h'
                · cases h'
              · cases h'
            | exc e C6 => rw [ee] at h'; cases h'
            | stuck => rw [ee] at h'; cases h'
          | false =>
            rw [if_neg (by decide)] at h'
            refine iteF ⟨A5, C5, (p.trans py').trans p5, st5, ?_⟩
            rw [hr]
            exact h'
        | exc e C5 => rw [et] at h'; cases h'
        | stuck => rw [et] at h'; cases h'
theorem le_lc2 {own : Bool} {mi mi1 : MI} {t t1 : Tgt} {tt tt1 : MT} {te : ME} {vs vs1 : List Nat} (hv : ∀ i ∈ t.slots, i ∈ vs) (hv1 : ∀ i ∈ t1.slots, i ∈ vs1) (h : LE k W (mLc2 own mi t.M tt mi1 t1.M tt1 te vs vs1) σ H Q) :
    tLc2 (LI k W mi) (t.T k.K) (LT k WF tt) (LI k WF mi1) (t1.T k.K) (LT k WF tt1) (LE k WF te) vs vs1 σ H Q := by
  obtain ⟨A, F, C, s, h⟩ := h
  refine ⟨A, F, C, s, (Aft.bnd (rel := fun A C H (J : It) (it : ItD) => ItOk k F.fl J it A C H) h).mono fun it C1 A1 H1 J p1 st1 ok h1 => ?_⟩
  have s1 := s.step p1 st1
  intro Dl hD
  have q0 : Kp A1 C1 H1 (ext A1 C1.length Dl) (C1 ++ [some (.lst [])]) (upd H1 Dl (.lst [])) := kp_cell (k := k) st1 hD
  have p2 : Stp k C1.length A1 C1 H1 (ext A1 C1.length Dl) (C1 ++ [some (.lst [])]) (upd H1 Dl (.lst [])) := q0.stp fun f h1 h2 l => low_app h2 l
  have p2' : Stp k F.fl A1 C1 H1 (ext A1 C1.length Dl) (C1 ++ [some (.lst [])]) (upd H1 Dl (.lst [])) := p2.less s1.fl
  have st2 : StOk k (ext A1 C1.length Dl) (C1 ++ [some (.lst [])]) (upd H1 Dl (.lst [])) := st1.cell hD ⟨[], upd_same, .nil⟩
  have n1 : C1.length < (C1 ++ [some (Cell.lst [])]).length := by simp
  have low1 : LowC C1.length (C1 ++ [some (Cell.lst [])]) := p2.low _ (Nat.le_refl _) (Nat.le_refl _) st1.low
  obtain ⟨C3, e3, h3⟩ := bn0_inv h1
  refine ⟨fun i m H' => ∃ A' C', m = it.n - i ∧ i ≤ it.n ∧ Stp k C1.length (ext A1 C1.length Dl) (C1 ++ [some (.lst [])]) (upd H1 Dl (.lst [])) A' C' H' ∧ StOk k A' C' H' ∧ lc2N it t.M tt mi1 t1.M tt1 te C1.length (wipeD F.sl vs) vs1 (it.n - i) i C' = .ok () C3,
    ⟨it.n, _, _, rfl, Nat.zero_le _, Stp.refl, st2, e3⟩, ?_⟩
  rintro i m H' ⟨A', C', rfl, hi, p, st', h'⟩
  obtain ⟨ha', hl'⟩ := cell_at p (ext_at A1 C1.length Dl) n1
  have low' : LowC C1.length C' := p.low _ (Nat.le_refl _) (Nat.le_of_lt n1) low1
  have pF : Stp k F.fl (ext A1 C1.length Dl) (C1 ++ [some (.lst [])]) (upd H1 Dl (.lst [])) A' C' H' := p.less s1.fl
  obtain ⟨o1, o2⟩ := ok A' C' H' (p2'.trans pF) st'
  cases er : it.n - i with
  | zero =>
    rw [er] at h'
    unfold lc2N at h'
    have e : i = it.n := by omega
    split at h'
    · rename_i hf
      cases h'
      subst e
      exact .inl ⟨o2 hf, le_lcEnd s1.fl Stp.refl st1 (p2'.trans pF) low' st' ha' hl' h3⟩
    · cases h'
  | succ r =>
    rw [er] at h'
    unfold lc2N at h'
    have hlt : i < it.n := by omega
    have hr : it.n - (i + 1) = r := by omega
    cases ei : it.item i C' with
    | none => simp only [ei] at h'; cases h'
    | some d =>
      simp only [ei] at h'
      obtain ⟨g1, g2⟩ := o1 i d hlt ei
      cases eg : t.M d (wipeD F.sl vs) with
      | none => simp only [eg] at h'; cases h'
      | some sl1 =>
        simp only [eg] at h'
        refine .inr ⟨g1, fun H4 => ∃ A4 C4, Stp k C1.length (ext A1 C1.length Dl) (C1 ++ [some (.lst [])]) (upd H1 Dl (.lst [])) A4 C4 H4 ∧ StOk k A4 C4 H4 ∧ lc2N it t.M tt mi1 t1.M tt1 te C1.length (wipeD F.sl vs) vs1 (it.n - (i + 1)) (i + 1) C4 = .ok () C3,
          fun H4 ⟨A4, C4, a, b, c⟩ => ⟨it.n - (i + 1), by omega, A4, C4, rfl, by omega, a, b, c⟩, fun x H'' y => ?_⟩
        obtain ⟨A'', py, sty, rx⟩ := g2 x H'' y
        have py' : Stp k C1.length A' C' H' A'' C' H'' := ⟨py.rep, py.len, fun f _ _ h => h, py.frz⟩
        have sr : SR k A'' ⟨C1.length, wipeD F.sl vs⟩ C' (L2.wipe σ vs) H'' := ((s1.re (p2.trans (p.trans py')) sty low' (Nat.le_of_lt hl')).wipe vs)
        refine Tgt.of (vs0 := vs) sr rx eg fun σ2 s2 w2 => ⟨by rw [w2 hv, wipe_wipe], A'', ⟨C1.length, sl1⟩, C', s2, ?_⟩
        obtain ⟨b, C5, et, h'⟩ := bn0_out h'
        rw [et]
        intro A5 H5 v5 p5 st5 e5
        have e5 : v5 = b := e5
        subst e5
        have s5 := s2.step p5 st5
        cases v5 with
        | true =>
          rw [if_pos rfl] at h'
          obtain ⟨it1, C6, em, h'⟩ := bn0_out h'
          obtain ⟨u, C7, el, h'⟩ := bn0_out h'
          refine iteT ⟨A5, ⟨C1.length, sl1⟩, C5, s5, ?_⟩
          rw [em]
          intro A6 H6 J1 p6 st6 ok6
          have pall := (p.trans py').trans (p5.trans p6)
          obtain ⟨ha6, hl6⟩ := cell_at pall (ext_at A1 C1.length Dl) n1
          refine lc_inner (fl := C1.length) (n := C1.length) hv1 (Nat.le_refl _) ok6 (s5.step p6 st6) hl6 ha6 el fun A7 H7 p7 st7 => ⟨A7, C7, pall.trans p7, st7, ?_⟩
          rw [hr]
          exact h'
        | false =>
          rw [if_neg (by decide)] at h'
          refine iteF ⟨A5, C5, (p.trans py').trans p5, st5, ?_⟩
          rw [hr]
          exact h'
section
variable {elt tg iter tg1 iter1 : Expr} {ifs ifs1 : List Expr} {scope : Scope} {own : List (Str × Nat)} {vs1 : List Nat} {pos : Pos} {mi mi1 : MI} {t t1 : Tgt} {tt tt1 : MT} {te : ME}
theorem de_lc2 (ow : Bool) (hK : X.K = k.K) (hc : X.calm = true) (hN : X.N.Nodup) (hi : PI X tg iter (LI k W mi)) (ok : BlkOk X.N X.env.scope scope own) (hv : ∀ i ∈ vs1, i ∈ own.map (·.2)) (hv0 : ∀ i ∈ t.slots, i ∈ own.map (·.2)) (hv1 : ∀ i ∈ t1.slots, i ∈ vs1)
    (hg : ∀ (s : Shared) (H : Hp) (C : Addr) (cl : List (Str × Addr)) (fp : List Addr), PG (X.blk s H scope (compEnvC scope cl C X.env) fp) tg (t.T k.K)) (ht : ∀ (s : Shared) (H : Hp) (C : Addr) (cl : List (Str × Addr)) (fp : List Addr), PTs (X.blk s H scope (compEnvC scope cl C X.env) fp) ifs (LT k WF tt))
    (hi1 : ∀ (s : Shared) (H : Hp) (C : Addr) (cl : List (Str × Addr)) (fp : List Addr), PI (X.blk s H scope (compEnvC scope cl C X.env) fp) tg1 iter1 (LI k WF mi1))
    (hg1 : ∀ (s : Shared) (H : Hp) (C : Addr) (cl : List (Str × Addr)) (fp : List Addr), PG (X.blk s H scope (compEnvC scope cl C X.env) fp) tg1 (t1.T k.K)) (ht1 : ∀ (s : Shared) (H : Hp) (C : Addr) (cl : List (Str × Addr)) (fp : List Addr), PTs (X.blk s H scope (compEnvC scope cl C X.env) fp) ifs1 (LT k WF tt1))
    (he : ∀ (s : Shared) (H : Hp) (C : Addr) (cl : List (Str × Addr)) (fp : List Addr), PE (X.blk s H scope (compEnvC scope cl C X.env) fp) elt (LE k WF te)) (hs : ∀ x, foldedSetIterable iter X.env x = pure x := by intro _; rfl) (hs1 : ∀ env x, foldedSetIterable iter1 env x = pure x := by intro _ _; rfl) :
    PE X (.ListComp elt [⟨tg, iter, ifs, 0⟩, ⟨tg1, iter1, ifs1, 0⟩] scope pos) (LE k W (mLc2 ow mi t.M tt mi1 t1.M tt1 te (own.map (·.2)) vs1)) :=
  (pe_lc2 hc hN hi ok hv hg ht hi1 hg1 ht1 he hs hs1).cq fun _ _ _ h => le_lc2 hv0 hv1 h
theorem ds_setLc2 {i : Nat} {y : Str} {py spos : Pos} (ow : Bool) (hK : X.K = k.K) (hc : X.calm = true) (hN : X.N.Nodup) (hy : X.N[i]? = some y) (hyl : X.env.scope.names.lookup y = some .local)
    (hsw : swapsWith (.ListComp elt [⟨tg, iter, ifs, 0⟩, ⟨tg1, iter1, ifs1, 0⟩] scope pos) (some (.Name y py)) spos.line X.env = pure true) (hi : PI X tg iter (LI k W mi)) (ok : BlkOk X.N X.env.scope scope own) (hv : ∀ i ∈ vs1, i ∈ own.map (·.2)) (hv0 : ∀ i ∈ t.slots, i ∈ own.map (·.2)) (hv1 : ∀ i ∈ t1.slots, i ∈ vs1)
    (hg : ∀ (s : Shared) (H : Hp) (C : Addr) (cl : List (Str × Addr)) (fp : List Addr), PG (X.blk s H scope (compEnvC scope cl C X.env) fp) tg (t.T k.K)) (ht : ∀ (s : Shared) (H : Hp) (C : Addr) (cl : List (Str × Addr)) (fp : List Addr), PTs (X.blk s H scope (compEnvC scope cl C X.env) fp) ifs (LT k WF tt))
    (hi1 : ∀ (s : Shared) (H : Hp) (C : Addr) (cl : List (Str × Addr)) (fp : List Addr), PI (X.blk s H scope (compEnvC scope cl C X.env) fp) tg1 iter1 (LI k WF mi1))
    (hg1 : ∀ (s : Shared) (H : Hp) (C : Addr) (cl : List (Str × Addr)) (fp : List Addr), PG (X.blk s H scope (compEnvC scope cl C X.env) fp) tg1 (t1.T k.K)) (ht1 : ∀ (s : Shared) (H : Hp) (C : Addr) (cl : List (Str × Addr)) (fp : List Addr), PTs (X.blk s H scope (compEnvC scope cl C X.env) fp) ifs1 (LT k WF tt1))
    (he : ∀ (s : Shared) (H : Hp) (C : Addr) (cl : List (Str × Addr)) (fp : List Addr), PE (X.blk s H scope (compEnvC scope cl C X.env) fp) elt (LE k WF te)) (hs : ∀ x, foldedSetIterable iter X.env x = pure x := by intro _; rfl) (hs1 : ∀ env x, foldedSetIterable iter1 env x = pure x := by intro _ _; rfl) :
    PS X (.Assign [.Name y py] (.ListComp elt [⟨tg, iter, ifs, 0⟩, ⟨tg1, iter1, ifs1, 0⟩] scope pos) spos) (LS k W (sAsg (mLc2 ow mi t.M tt mi1 t1.M tt1 te (own.map (·.2)) vs1) (gN i))) :=
  (ps_setLc2 hc hN hy hyl hsw hi ok hv hg ht hi1 hg1 ht1 he hs hs1).cq fun _ _ _ h => le_lc2 hv0 hv1 (ls_asg2 (t := .nm i) h)
end
/-! ### xs[i] += e -/
def rGetL : V → V → Hp → VK → Prop := fun o i H Q => ∃ p xs n v, o = .ref p ∧ i = .int n ∧ H p = some (.lst xs) ∧ 0 ≤ n ∧ xs[n.toNat]? = some v ∧ Q v H
theorem pget_L : PGet X rGetL := by
  intro pins s σ H o i ov iv Q I ro ri h
  obtain ⟨p, xs, n, v, rfl, rfl, hp, h0, hx, q⟩ := h
  cases ro
  obtain ⟨t, rfl⟩ := ri
  obtain ⟨its, r, pl, hz⟩ := I.list (Or.inl (Or.inl hp))
  obtain ⟨w, ew, rw'⟩ := r.get hx
  have hl := r.length
  have hn := line63
  have hlt : n.toNat < xs.length := (List.getElem?_eq_some_iff.mp hx).1
  exact wpAny_getItem_list pl.isList h0 (by omega) (by simpa using ew) ⟨v, H, I, rw', q⟩
theorem ls_augL {o : Int → Int → Int} {mo mi me : ME} (h : LS k W (sAugL o mo mi me) E σ H) : tAugS (LE k W mo) (LE k W mi) (LE k W me) rGetL (ipI o) rSetL E σ H := by
  obtain ⟨A, F, C, s, h⟩ := h
  refine ⟨A, F, C, s, (AftS.bnd (rel := RepD k) s h).mono fun dl C1 A1 H1 l p1 st1 rl h1 => ?_⟩
  have s1 := s.step p1 st1
  refine ⟨A1, F, C1, s1, (AftS.bnd (rel := RepD k) s1 h1).mono fun dx C2 A2 H2 x p2 st2 rx h2 => ?_⟩
  have s2 := s1.step p2 st2
  have rl2 := p2.rep _ _ rl
  cases rx with
  | int n =>
    cases ec : cL dl C2 with
    | none => simp only [ec] at h2; exact h2.elim
    | some q =>
      obtain ⟨i, ds⟩ := q
      simp only [ec] at h2
      obtain ⟨rfl, rfl, hi, vs, hv, rvs⟩ := cL_at st2 rl2 ec
      split at h2
      · rename_i h0
        split at h2
        · rename_i a ea
          obtain ⟨v, ev, rv⟩ := rvs.get ea
          cases rv
          refine ⟨A2 i, vs, n, _, rfl, rfl, hv, h0, ev, A2, F, C2, s2, (AftS.bnd (rel := RepD k) s2 h2).mono fun dv C3 A3 H3 w p3 st3 rw3 h3 => ?_⟩
          have s3 := s2.step p3 st3
          cases rw3 with
          | int b =>
            cases ec3 : cL (.cell i) C3 with
            | none => simp only [ec3] at h3; exact h3.elim
            | some q =>
              obtain ⟨i', es⟩ := q
              simp only [ec3] at h3
              obtain ⟨ei, ev3, hi3, ws, hw, rws⟩ := cL_at st3 (p3.rep _ _ rl2) ec3
              cases ei
              cases ej : ixN es.length n with
              | none => simp only [ej] at h3; exact h3.elim
              | some j =>
                simp only [ej] at h3
                cases ew : wr F.fl i (.lst (es.set j (.int (o a b)))) C3 with
                | none => simp only [ew] at h3; exact h3.elim
                | some C4 =>
                  simp only [ew] at h3
                  obtain ⟨q1, q2⟩ := write_L st3 hi3 (rws.set (.int (o a b)) j) ew
                  exact ⟨a, b, rfl, rfl, A3 i, ws, n, j, ev3, rfl, hw, by rw [rws.length]; exact ej, h3 A3 σ _ q1 (s3.step q1 q2)⟩
          | _ => exact h3.elim
        · exact h2.elim
      · exact h2.elim
  | _ => exact h2.elim
theorem ds_augL {o i e : Expr} {op : Operator} {f : Int → Int → Int} {tpos pos : Pos} {mo mi me : ME} (hp : PIp X op (ipI f)) (ho : PE X o (LE k W mo)) (hi : PE X i (LE k W mi)) (he : PE X e (LE k W me))
    (ha : ∀ ov iv new, augStore i ov iv new = (do holding [new, ov, iv] (setItem ov iv new); release [new, ov, iv] []; pure .next) := by intros; rfl) : PS X (.AugAssign (.Subscript o i tpos) op e pos) (LS k W (sAugL f mo mi me)) :=
  (ps_augS ho hi pget_L he hp set_list ha).cq fun _ _ _ h => ls_augL h
/-! ### x in a tuple or list of data -/
def rInA (K : PySem.W.Frag) (neg : Bool) : R2 := fun x y H Q => ∃ d ds l, Dp K H x d ∧ Dp K H y l ∧ (l = .list ds ∨ l = .tuple ds) ∧ SeqAt.shaped d = true ∧ SeqAt.shaped l = true ∧ Q (.bl (if neg = true then !(ds.any fun z => PyData.eqv z d) else ds.any fun z => PyData.eqv z d)) H
theorem op_inA (hu : X.A.units + 65 < cLine) : OpR X (compareOp .In) (rInA X.K false) := by
  intro pins s σ H x y v u Q I rx ry h
  obtain ⟨d, ds, l, hd, he, hl, sd, se, q⟩ := h
  obtain ⟨as, r1⟩ := Dp.reads I d x v hd rx
  obtain ⟨bs, r2⟩ := Dp.reads I l y u he ry
  rcases hl with rfl | rfl
  · exact SeqAt.in_list_reads r2 r1 (SeqAt.canLay_of_shaped se) (SeqAt.canLay_of_shaped sd) (room_in_shaped sd hu) ⟨.bl _, H, I, rfl, q⟩
  · exact SeqAt.in_tuple_reads r2 r1 (SeqAt.canLay_of_shaped se) (SeqAt.canLay_of_shaped sd) (room_in_shaped sd hu) ⟨.bl _, H, I, rfl, q⟩
theorem op_notInA (hu : X.A.units + 65 < cLine) : OpR X (compareOp .NotIn) (rInA X.K true) := by
  intro pins s σ H x y v u Q I rx ry h
  obtain ⟨d, ds, l, hd, he, hl, sd, se, q⟩ := h
  obtain ⟨as, r1⟩ := Dp.reads I d x v hd rx
  obtain ⟨bs, r2⟩ := Dp.reads I l y u he ry
  rcases hl with rfl | rfl
  · exact SeqAt.notIn_list_reads r2 r1 (SeqAt.canLay_of_shaped se) (SeqAt.canLay_of_shaped sd) (room_in_shaped sd hu) ⟨.bl _, H, I, rfl, q⟩
  · exact SeqAt.notIn_tuple_reads r2 r1 (SeqAt.canLay_of_shaped se) (SeqAt.canLay_of_shaped sd) (room_in_shaped sd hu) ⟨.bl _, H, I, rfl, q⟩
def itemsP : PyData → Option (List PyData)
  | .list ds => some ds
  | .tuple ds => some ds
  | _ => none
def oInD (neg : Bool) : O2 := fun x y C => match toP C x, toP C y with
  | some p, some q => (match itemsP q with
    | some ds => if (SeqAt.shaped p && SeqAt.shaped q) = true then some (.bl (if neg = true then !(ds.any fun z => PyData.eqv z p) else ds.any fun z => PyData.eqv z p), C) else none
    | none => none)
  | _, _ => none
theorem d_inD {neg : Bool} : OpD k (rInA k.K neg) (oInD neg) := by
  intro fl A C H x y dx dy d C' Q hf hl st rx ry e q
  simp only [oInD] at e
  split at e
  · rename_i p q' e1 e2
    split at e
    · rename_i ds eds
      split at e
      · rename_i hs
        simp only [Bool.and_eq_true] at hs
        cases e
        refine ⟨p, ds, q', toP_dp st rx e1, toP_dp st ry e2, ?_, hs.1, hs.2, q A H _ Stp.refl st (.bl _)⟩
        cases q' <;> simp only [itemsP] at eds <;> cases eds <;> simp
      · cases e
    · cases e
  · cases e
end
end CT
set_option maxHeartbeats 4000000
/-! DLD: list(range(..)), sorted(..), dict(..). -/
namespace CT
open PySem L2 PySem.Spec PyProof.Rows
/-! ### sorted -/
def rSortA (K : PySem.W.Frag) : List V → Hp → VK → Prop := fun xs H Q => ∃ (a : Addr) (β : Type) (bs : List β) (f : β → V) (enc : β → PyData), xs = [.ref a] ∧ SqL K H a (bs.map f) ∧ (∀ b ∈ bs, Dp K H (f b) (enc b)) ∧ PySem.W.AllAlike (bs.map enc) ∧ PySem.W.Sortable (bs.map enc) ∧ (∀ b ∈ bs, (enc b).depth ≤ 60) ∧
  ∀ p, H p = none → Q (.ref p) (upd H p (.lst ((bs.mergeSort (PySem.W.dataLe false enc)).map f)))
theorem each_vals {β : Type} {f : β → V} : ∀ {bs : List β} {us : List Value}, Vals (bs.map f) us → PySem.W.EachIs (fun u b => RelV (f b) u) us bs
  | [], _, .nil => .nil
  | _ :: _, _, .cons r t => .cons r (each_vals t)
theorem vals_each {β : Type} {f : β → V} : ∀ {bs : List β} {us : List Value}, PySem.W.EachIs (fun u b => RelV (f b) u) us bs → Vals (bs.map f) us
  | _, _, .nil => .nil
  | _, _, .cons r t => .cons r (vals_each t)
theorem each_in {α β : Type} {R S : α → β → Prop} : ∀ {us : List α} {bs : List β}, PySem.W.EachIs R us bs → (∀ u b, b ∈ bs → R u b → S u b) → PySem.W.EachIs S us bs
  | _, _, .nil, _ => .nil
  | _, _, .cons r t, h => .cons (h _ _ (List.mem_cons_self ..) r) (each_in t fun u b hb => h u b (List.mem_cons_of_mem _ hb))
section
variable {X : Cx} {k : Cn} {W : WX} {σ : L2.St} {H : Hp} {Q : VK}
theorem cr_sortA (hu : X.A.units + 200 < cLine) : CallR X (.builtin "sorted") (rSortA X.K) := by
  intro pins s σ H xs us Q I r h
  obtain ⟨a, β, bs, f, enc, rfl, hs, hd, hal, hk, hdp, q⟩ := h
  obtain ⟨its, rv, hl, hz⟩ := I.list hs
  obtain ⟨u, rfl, ru⟩ := vals1 r
  obtain rfl : u = Value.ref a := ru
  have e := each_vals rv
  rw [List.length_map] at hz
  refine PySem.W.sorted_data hl.isList e (each_in e fun u b hb rb => Dp.reads I _ _ _ (hd b hb) rb) hal hk hz (fun b hb => by have := hdp b hb; omega) fun out ho eo => ?_
  obtain ⟨c, hc⟩ := sortedAll_at s.heap its out.toArray
  have hle : s.heap.objs.size ≤ s.heap.objs.size + 1 := Nat.le_succ _
  refine ⟨.ref (s.heap.objs.size + 1), _, I.laid (t' := s.toks) (o := .lst ((bs.mergeSort (PySem.W.dataLe false enc)).map f)) (fun b o hb => sortedAll_old hb) hle ⟨?_, out, c, vals_each eo, hc⟩, rfl, q _ (I.hok.fresh hle)⟩
  rw [List.length_map, List.length_mergeSort]
  exact hz
theorem paired_zip {α β : Type} {F : α → β → Prop} : ∀ {l : List α} {m : List β}, Paired F l m → ∀ x ∈ l.zip m, F x.1 x.2
  | _, _, .nil, x, hx => by simp at hx
  | _, _, .cons h t, x, hx => by
    rw [List.zip_cons_cons, List.mem_cons] at hx
    rcases hx with rfl | hx
    · exact h
    · exact paired_zip t x hx
theorem zip_fst {α β : Type} {F : α → β → Prop} : ∀ {l : List α} {m : List β}, Paired F l m → (l.zip m).map (·.1) = l ∧ (l.zip m).map (·.2) = m
  | _, _, .nil => ⟨rfl, rfl⟩
  | _, _, .cons h t => by
    obtain ⟨a, b⟩ := zip_fst t
    simp [a, b]
end
end CT
set_option maxHeartbeats 4000000
/-! DLE: sorted and dict(d) over data. -/
namespace CT
open PySem L2 PySem.Spec PyProof.Rows
def encD (C : Store) (d : D) : PyData := (toP C d).getD .none
def tup1 : PyData → Bool
  | .tuple (_ :: _) => true
  | _ => false
def nTup : PyData → Bool
  | .tuple _ => false
  | .none => false
  | _ => true
def srtb (ps : List PyData) : Bool := (ps.all fun d => ps.all fun e => PySem.W.alike d e) && (ps.all tup1 || ps.all nTup)
theorem srtb_ok {ps : List PyData} (h : srtb ps = true) : PySem.W.AllAlike ps ∧ PySem.W.Sortable ps := by
  simp only [srtb, Bool.and_eq_true, Bool.or_eq_true, List.all_eq_true] at h
  refine ⟨fun d hd e he => h.1 d hd e he, ?_⟩
  rcases h.2 with h | h
  · refine .inl fun d hd => ?_
    have := h d hd
    cases d with
    | tuple xs =>
      cases xs with
      | nil => simp [tup1] at this
      | cons x r => exact ⟨x, r, rfl⟩
    | _ => simp [tup1] at this
  · refine .inr fun d hd => ?_
    have := h d hd
    cases d with
    | tuple xs => simp [nTup] at this
    | none => simp [nTup] at this
    | _ => exact ⟨by simp, by simp⟩
def oSortL (own : Bool) : OA := fun xs C => match xs with
  | [x] => (match vL x C with
    | some ds => if (ds.all (fun d => (toP C d).isSome && decide ((encD C d).depth ≤ 60)) && srtb (ds.map (encD C))) = true then some (mkL own (ds.mergeSort (PySem.W.dataLe false (encD C))) C) else none
    | none => none)
  | _ => none
def kyD : Key → D
  | .inl i => .int i
  | .inr s => .str s
section
variable {X : Cx} {k : Cn} {W : WX} {σ : L2.St} {H : Hp} {Q : VK} {A : Nat → Addr} {C : Store}
theorem repL_zip : ∀ {vs : List V} {ds : List D}, RepL k A C H vs ds → (∀ x ∈ vs.zip ds, Rep k A C H x.1 x.2) ∧ (vs.zip ds).map (·.1) = vs ∧ (vs.zip ds).map (·.2) = ds
  | _, _, .nil => ⟨by simp, rfl, rfl⟩
  | _, _, .cons r t => by
    obtain ⟨h1, h2, h3⟩ := repL_zip t
    refine ⟨fun x hx => ?_, by simp [h2], by simp [h3]⟩
    rw [List.zip_cons_cons, List.mem_cons] at hx
    rcases hx with rfl | hx
    · exact r
    · exact h1 x hx
theorem repL_of : ∀ {l : List (V × D)}, (∀ x ∈ l, Rep k A C H x.1 x.2) → RepL k A C H (l.map (·.1)) (l.map (·.2))
  | [], _ => .nil
  | x :: l, h => .cons (h x (List.mem_cons_self ..)) (repL_of fun y hy => h y (List.mem_cons_of_mem _ hy))
theorem d_sortL {own : Bool} : ApD k (rSortA k.K) (oSortL own) := by
  intro fl A C H x dx d C' Q hf hl st rx e q
  cases rx with
  | nil => cases e
  | cons r t =>
    cases t with
    | cons _ _ => cases e
    | nil =>
      rename_i v0 d0
      simp only [oSortL] at e
      split at e
      · rename_i ds ev
        split at e
        · rename_i hb
          obtain ⟨a, vs, rfl, ha, rv⟩ := vL_at st r ev
          obtain ⟨z1, z2, z3⟩ := repL_zip rv
          simp only [Bool.and_eq_true, List.all_eq_true, decide_eq_true_eq] at hb
          obtain ⟨hb1, hb2⟩ := hb
          obtain ⟨al, so⟩ := srtb_ok hb2
          have em : (vs.zip ds).map (fun x => encD C x.2) = ds.map (encD C) := by
            have := congrArg (List.map (encD C)) z3
            rw [List.map_map] at this
            exact this
          have hm : ∀ x ∈ vs.zip ds, x.2 ∈ ds := fun x hx => by rw [← z3]; exact List.mem_map.mpr ⟨x, hx, rfl⟩
          refine ⟨a, V × D, vs.zip ds, (·.1), fun x => encD C x.2, rfl, by rw [z2]; exact .inl (.inl ha), fun b hb => ?_, by rw [em]; exact al, by rw [em]; exact so, fun b hb => (hb1 b.2 (hm b hb)).2, fun p hp => ?_⟩
          · have := (hb1 b.2 (hm b hb)).1
            obtain ⟨pd, e3⟩ := Option.isSome_iff_exists.mp this
            have := toP_dp st (z1 b hb) e3
            have e5 : encD C b.2 = pd := by unfold encD; rw [e3]; rfl
            show Dp k.K H b.1 (encD C b.2)
            rw [e5]
            exact this
          · have e4 : ((vs.zip ds).mergeSort (PySem.W.dataLe false fun x => encD C x.2)).map (·.2) = ds.mergeSort (PySem.W.dataLe false (encD C)) := by
              have em2 := List.map_mergeSort (r := PySem.W.dataLe false fun x : V × D => encD C x.2) (s := PySem.W.dataLe false (encD C)) (f := fun x : V × D => x.2) (l := vs.zip ds) (fun a _ b _ => rfl)
              rw [em2, z3]
            have rr : RepL k A C H (((vs.zip ds).mergeSort (PySem.W.dataLe false fun x => encD C x.2)).map (·.1)) (ds.mergeSort (PySem.W.dataLe false (encD C))) := by
              rw [← e4]
              exact repL_of fun y hy => z1 y (List.mem_mergeSort.mp hy)
            obtain ⟨A2, w1, w2, w3⟩ := fresh_L (own := own) hf st rr hp
            have e1 := Option.some.inj e
            rw [e1] at w1 w2 w3
            exact q A2 _ _ w1 w2 w3
        · cases e
      · cases e
theorem ky_rep : ∀ l : List Key, RepL k A C H (l.map kV) (l.map kyD)
  | [] => .nil
  | .inl i :: r => .cons (.int i) (ky_rep r)
  | .inr s :: r => .cons (.str s) (ky_rep r)
theorem tup_nl (st : StOk k A C H) {b : Addr} {vs : List V} (h : H b = some (.tup vs)) : ¬ Live A C b := by
  rintro ⟨i, c, hc, rfl⟩
  have := st.at_ i c hc
  cases c with
  | lst ds => obtain ⟨ws, e, _⟩ := this; rw [h] at e; cases e
  | dT ks ds => obtain ⟨ws, e, _⟩ := this; rw [h] at e; cases e
  | ins c ds => obtain ⟨dx, ws, e, _⟩ := this; rw [h] at e; cases e
theorem repL_of2 {α : Type} {f : α → V} {g : α → D} : ∀ {l : List α}, (∀ x ∈ l, Rep k A C H (f x) (g x)) → RepL k A C H (l.map f) (l.map g)
  | [], _ => .nil
  | x :: l, h => .cons (h x (List.mem_cons_self ..)) (repL_of2 fun y hy => h y (List.mem_cons_of_mem _ hy))
end
/-! ### dict(d), keys that are tuples -/
end CT
set_option maxHeartbeats 4000000
/-! DLF: dict(d) over data; enumerate. -/
namespace CT
open PySem L2 PySem.Spec PyProof.Rows
/-! ### a list of unlike numbers -/
def BT.look (x : Nat) : BT → Bool
  | .lf => false
  | .nd l y r => bif Nat.blt x y then l.look x else bif Nat.blt y x then r.look x else true
theorem nodup_map_on {α β : Type} {f : α → β} : ∀ {l : List α}, l.Nodup → (∀ x ∈ l, ∀ y ∈ l, f x = f y → x = y) → (l.map f).Nodup
  | [], _, _ => List.nodup_nil
  | x :: l, h, i => by
    obtain ⟨h1, h2⟩ := List.nodup_cons.mp h
    refine List.nodup_cons.mpr ⟨fun hm => ?_, nodup_map_on h2 fun a ha b hb => i a (List.mem_cons_of_mem _ ha) b (List.mem_cons_of_mem _ hb)⟩
    obtain ⟨y, hy, e⟩ := List.mem_map.mp hm
    have := i y (List.mem_cons_of_mem _ hy) x (List.mem_cons_self ..) e
    exact h1 (this ▸ hy)
/-! ### enumerate(tuple) -/
section
variable {prog : Program} {w : World} {A : Around} {E : Value → Shared → Prop} {s : Shared}
theorem meets_enum1 {v : Value} {o : Obj} {H : Heap → Prop} (B : Begins v o H) :
    Meets (Builtin.«enumerate.__new__» ⟨[.type "enumerate", v], []⟩) (fun _ R s => H s.heap ∧
      R (.ok (.ret (.ref (s.heap.push o).objs.size))) { s with heap := (s.heap.push o).push { cls := .type "enumerate", data := .fields #[.none, .bool false, .ref s.heap.objs.size, rawInt 0, .none, .none] } }) :=
  .of_wp fun prog w A R s h => by
    obtain ⟨hp, g, d, tk, os⟩ := s; obtain ⟨h1, h⟩ := h
    have hsub := sub_enumerate
    have q1 : ∀ {A' : Around} {E : Value → Shared → Prop} {Q : Value → Shared → Prop}, Q (.ref hp.objs.size) ⟨hp.push o, g, d, tk, os⟩ → wpAny (model prog w) A' (pyIter v) Q E ⟨hp, g, d, tk, os⟩ :=
      fun q => B.iter prog w _ _ ⟨hp, g, d, tk, os⟩ _ h1 q
    wp_walk using q1
    refine wpAny_stack_any fun st => wpAny_pure ?_
    split
    · rename_i c _ _ _ _ _
      cases (c == Value.type "enumerate")
      · wp_walk using q1
        exact ⟨_, rfl, h⟩
      · wp_walk using q1
        exact ⟨_, rfl, h⟩
    · wp_walk using q1
      exact ⟨_, rfl, h⟩
theorem call_enum1 {v : Value} {o : Obj} {H : Heap → Prop} {Q : Value → Shared → Prop} (B : Begins v o H) (h1 : H s.heap)
    (h : ∀ h', IsEnum h' (s.heap.objs.size + 1) s.heap.objs.size 0 .none → h'.get? s.heap.objs.size = some o → (∀ b o, s.heap.get? b = some o → h'.get? b = some o) → Q (.ref (s.heap.objs.size + 1)) { s with heap := h' }) :
    wpAny (model prog w) A (call (.type "enumerate") [v]) Q E s := by
  refine callType_new F.called_enumerate (by decide) (F.typeCall_enumerate_1 _) (F.newCall_enumerate_1 _) (fun obj => F.args_object_init_2 obj _) F.entry_enumerate_new (meets_enum1 B) ⟨h1, ?_⟩
  have hz : (s.heap.push o).objs.size = s.heap.objs.size + 1 := Heap.size_push ..
  show _ ∧ _
  rw [hz]
  have he : IsEnum ((s.heap.push o).push { cls := .type "enumerate", data := .fields #[.none, .bool false, .ref s.heap.objs.size, rawInt 0, .none, .none] }) (s.heap.objs.size + 1) s.heap.objs.size 0 .none := by
    have := Heap.get?_push_size (s.heap.push o) (o := { cls := .type "enumerate", data := .fields #[.none, .bool false, .ref s.heap.objs.size, rawInt 0, .none, .none] }) rfl
    rw [hz] at this; exact this
  exact ⟨⟨_, he, rfl⟩, h _ he (Heap.get?_push_of_some _ (Heap.get?_push_size _ B.free)) fun b o x => Heap.get?_push_of_some _ (Heap.get?_push_of_some _ x)⟩
end
def IteT (K : PySem.W.Frag) (a : Addr) : It :=
  ⟨fun i H => ∃ (xs : List V) (x : V), SqT K H a xs ∧ xs[i]? = some x, fun i H v H' => ∃ T x, v = .ref T ∧ H T = none ∧ H' = upd H T (.tup [.int (i : Nat), x]) ∧ ∀ xs, SqT K H a xs → xs[i]? = some x, fun i H => ∃ xs : List V, SqT K H a xs ∧ xs.length ≤ i⟩
theorem enumT_end {prog : Program} {w : World} {A : Around} {E : Value → Shared → Prop} {s : Shared} {e it t : Addr} {i : Nat} {c : Int} {items : Array Value} {old : Value} {Q : Option Value → Shared → Prop} (hh : A.handled = none)
    (he : IsEnum s.heap e it c old) (hit : s.heap.IsTupleIter it t i) (ht : s.heap.IsTuple t items) (hx : items[i]? = none) (hQ : ∀ h', Heap.ExtBut it s.heap h' → Q none { s with heap := h' }) : wpAny (model prog w) A (pyNext (.ref e)) Q E s := by
  have hT : s.TypeIs (.ref e) "enumerate" := ⟨_, he, rfl⟩
  unfold pyNext
  refine wpAny_bind (wpAny_attempt (wpAny_callSpecial?_slot (name := Str.ofString "__next__") hT F.slot_enumerate_next
    (wpAny_call_entry F.slot_enumerate_next hT F.entry_enumerate_next ?_ (F.args_enumerate_next_1 _))))
  show wpAny _ _ (field (.ref e) 2 >>= _) _ _ _
  refine wpAny_bind (wpAny_field he rfl (x := .ref it) rfl ?_)
  refine wpAny_bind (wpAny_nextOf_tuple_end (show A.in1.handled = none from hh) hit ht hx fun h' x he' hx' => ?_)
  obtain ⟨o, ho, hc⟩ := hx'
  refine wpAny_bind (wpAny_isInstance (T := "StopIteration") (b := true) ⟨o, ho, hc⟩ isSubtype_stop ?_)
  exact wpAny_pure (hQ _ he')
theorem turn_enumT {P : Program} {w : World} {K : PySem.W.Frag} {elts : List Expr} {kk : Nat} {tpos : Pos} (a e it : Addr) :
    Turn P w K (.Tuple elts kk tpos) (IteT K a) [e, it] e (fun i h => (∃ old, IsEnum h e it ((i : Nat) : Int) old) ∧ h.IsTupleIter it a i ∧ e ≠ it ∧ a ≠ it ∧ a ≠ e) where
  mem := by simp
  obj := fun i h st b hb => by
    obtain ⟨⟨old, he⟩, ⟨o, ho, hc, hd⟩, _⟩ := st
    have e' : b = e ∨ b = it := by simpa using hb
    rcases e' with z | z
    · rw [z]; exact ⟨_, he, fun v q => nomatch q⟩
    · rw [z]; exact ⟨o, ho, fun v q => by rw [hd] at q; cases q⟩
  keep := fun i h h' st k => let ⟨⟨old, he⟩, hi, hne⟩ := st; ⟨⟨old, k e (by simp) _ he⟩, hi.at fun o q => k it (by simp) o q, hne⟩
  item := by
    intro X hP hw hK hc i pins s σ H E I hf st hg
    subst hP hw hK
    obtain ⟨⟨old, he⟩, hit, hne, hai, hae⟩ := st
    obtain ⟨xs, x, hq, hx⟩ := hg
    obtain ⟨its, rv, p, hz⟩ := I.tuple hq
    have hlt : i < its.toArray.size := by
      have h1 := rv.length
      have h2 := (List.getElem?_eq_some_iff.mp hx).1
      simp
      omega
    have hel : e < s.heap.objs.size := Heap.lt_size he
    have hil : it < s.heap.objs.size := by obtain ⟨_, q, _⟩ := hit; exact Heap.lt_size q
    have D := Draws.tuple (prog := X.prog) (w := X.w) (A := X.A.in1) (I.ok.hd hc) it a hai its.toArray
    refine wpAny_pyNext_enum_itemD D he ⟨hit, p⟩ hlt hne (by simp; exact ⟨hne, fun z => hae z.symm⟩) fun u h' tk hu ho hit' hT hsz hk => ?_
    have hu' : its[i]? = some u := by simpa using hu
    obtain ⟨u2, hu2, ru⟩ := rv.get hx
    have e2 : u2 = u := by
      rw [hu'] at hu2
      exact (Option.some.inj hu2).symm
    subst e2
    refine ⟨_, rfl, wpAny_letOwnedTupleGo_enum (s := { s with heap := h', toks := tk + 1 }) ho fun h'' he' sb => ?_⟩
    have hT2 : h''.get? s.heap.objs.size = some { cls := .type "tuple", data := .seq #[.int i tk, u2] } := (sb.2 _ (Nat.ne_of_gt hel)).trans hT
    have new : ObjOk X.prog X.w (upd H s.heap.objs.size (.tup [.int (i : Nat), x])) h'' s.heap.objs.size (.tup [.int (i : Nat), x]) :=
      ⟨by show 2 ≤ sizeLine; decide, [.int i tk, u2], .cons ⟨_, rfl⟩ (.cons ru .nil), ⟨_, hT2, rfl, _, rfl⟩⟩
    have I1 : Inv X pins σ (upd H s.heap.objs.size (.tup [.int (i : Nat), x])) { s with heap := h'', toks := tk + 1 } :=
      I.turnedNew (ch := [e, it]) (fun b ob hb q => (sb.2 b (fun z => hb (by simp [z]))).trans (hk b ob (fun z => hb (by simp [z])) (fun z => hb (by simp [z])) q)) hf (Nat.le_refl _) new
    refine ⟨.ref s.heap.objs.size, _, I1, rfl, ⟨_, x, rfl, I.hok.fresh (Nat.le_refl _), rfl, fun ys hy => by rw [I.tuple_inj hy hq]; exact hx⟩, ⟨⟨u2, ?_⟩, hit'.1.at fun o q => (sb.2 it (Ne.symm hne)).trans q, hne, hai, hae⟩, fun b hb => ?_⟩
    · have e1 : ((i + 1 : Nat) : Int) = (i : Int) + 1 := by omega
      rw [e1]; exact he'
    · have hb' : b < s.heap.objs.size := by
        have e' : b = e ∨ b = it := by simpa using hb
        rcases e' with z | z
        · rw [z]; exact hel
        · rw [z]; exact hil
      rw [upd_ne (Nat.ne_of_lt hb')]
      exact (hf b hb).1
  done := by
    intro X hP hw hK hc i pins s σ H E I hf st hg
    subst hP hw hK
    obtain ⟨⟨old, he⟩, hit, hne, hai, hae⟩ := st
    obtain ⟨xs, hq, hx⟩ := hg
    obtain ⟨its, rv, p, hz⟩ := I.tuple hq
    obtain ⟨f0, f1, f2, f3, f4, f5⟩ := hf it (by simp)
    have hl := rv.length
    exact enumT_end (I.ok.hd hc) he hit p (by simp; omega) fun h' eb => ⟨rfl, I.turned (t' := s.toks) (fun b o hb q => eb b o hb q) f0 f1 f3 f4 f5⟩
  self := fun A i s Q E st h => let ⟨⟨_, he⟩, _⟩ := st; wpAny_pyIter_enum he h
def iEnumA (K : PySem.W.Frag) (ta : TA) : TI := fun σ H R => ta σ H fun vs H1 => ∃ a, vs = [.ref a] ∧ (((∃ xs, SqL K H1 a xs) ∧ R (Ite K a) H1) ∨ ((∃ xs, SqT K H1 a xs) ∧ R (IteT K a) H1))
theorem pi_enumA {X : Cx} {e : Expr} {ta : TA} {p pos tpos : Pos} {elts : List Expr} {kk : Nat} (hg : Gl X "enumerate") (hm : X.mg "enumerate" = none) (ha : PA X [e] ta) (hs : starEach [e] X.env = [(false, eval e X.env)] := by rfl) :
    PI X (.Tuple elts kk tpos) (.Call (.Name "enumerate" p) [e] [] pos) (iEnumA X.K ta) := by
  refine ⟨fun pins s σ H R I h => ?_⟩
  refine Call_ (ld_blt I hg hm boot_enumerate (PyProof.Rows.callWith_type1 (thn (ha.run pos pins s σ H _ I h) fun us s1 ⟨vs, H1, I1, r1, q1⟩ => ?_) hs rfl))
  have fp2 : ∀ b ∈ [s1.heap.objs.size + 1, s1.heap.objs.size], FpOk X pins H1 b := fun b hb => by
    have e' : b = s1.heap.objs.size + 1 ∨ b = s1.heap.objs.size := by simpa using hb
    have hle : s1.heap.objs.size ≤ b := by omega
    exact I1.fpOk hle (I1.hok.fresh hle)
  obtain ⟨a, ex, ⟨⟨xs, hq⟩, q⟩ | ⟨⟨xs, hq⟩, q⟩⟩ := q1
  · subst ex
    obtain ⟨u, rfl, ru⟩ := vals1 r1
    obtain rfl : u = Value.ref a := ru
    obtain ⟨its, rv, p', hz⟩ := I1.list hq
    refine call_enumerate_list p'.isList fun h' he hit hsz hk => wpAny_pyIter_enum he ?_
    exact ⟨s1.heap.objs.size + 1, [s1.heap.objs.size + 1, s1.heap.objs.size], _, _, H1, rfl, I1.kept (t' := s1.toks) hk, turn_enum a (s1.heap.objs.size + 1) s1.heap.objs.size, ⟨⟨.none, he⟩, hit, Nat.succ_ne_self _⟩, fp2, q⟩
  · subst ex
    obtain ⟨u, rfl, ru⟩ := vals1 r1
    obtain rfl : u = Value.ref a := ru
    obtain ⟨its, rv, p', hz⟩ := I1.tuple hq
    refine call_enum1 (begins_tuple a its.toArray) p' fun h' he hit hk => wpAny_pyIter_enum he ?_
    have hlt : a < s1.heap.objs.size := by obtain ⟨o, ho, _⟩ := p'; exact Heap.lt_size ho
    exact ⟨s1.heap.objs.size + 1, [s1.heap.objs.size + 1, s1.heap.objs.size], _, _, H1, rfl, I1.kept (t' := s1.toks) hk, turn_enumT a (s1.heap.objs.size + 1) s1.heap.objs.size, ⟨⟨.none, he⟩, ⟨_, hit, rfl, rfl⟩, Nat.succ_ne_self _, Nat.ne_of_lt hlt, Nat.ne_of_lt (Nat.lt_succ_of_lt hlt)⟩, fp2, q⟩
section
variable {X : Cx} {k : Cn} {W : WX} {σ : L2.St} {H : Hp}
theorem pr_L {fl : Nat} {A : Nat → Addr} {C : Store} {a : Addr} {it : ItD} (ok : ItOk k fl (Itl k.K a) it A C H) : ItOk k fl (Ite k.K a) (prI it) A C H := fun A' C' H' p st' => by
  obtain ⟨o1, o2⟩ := ok A' C' H' p st'
  refine ⟨fun j d hj e => ?_, fun hf => o2 hf⟩
  simp only [prI, Option.map_eq_some_iff] at e
  obtain ⟨x, ex, rfl⟩ := e
  obtain ⟨⟨xs, v, hq, hv⟩, h2⟩ := o1 j x hj ex
  refine ⟨⟨xs, v, hq, hv⟩, fun y H'' ⟨T, z, ey, hT, eH, hz⟩ => ?_⟩
  subst ey eH
  have ez : z = v := Option.some.inj ((hz xs hq).symm.trans hv)
  subst ez
  obtain ⟨A3, p3, st3, r3⟩ := h2 z H' ⟨rfl, fun ys hy => hz ys hy⟩
  have q : Kp A3 C' H' A3 C' (upd H' T (.tup [.int (j : Nat), z])) := kp_new hT
  refine ⟨A3, p3.trans q.stp0, st3.new hT, ?_⟩
  have st4 := st3.new (o := .tup [.int (j : Nat), z]) hT
  exact .tup (tup_nl st4 upd_same) upd_same (.cons (.int _) (.cons (r3.kp q) .nil))
theorem pr_T {fl : Nat} {A : Nat → Addr} {C : Store} {a : Addr} {it : ItD} (ok : ItOk k fl (Itt k.K a) it A C H) : ItOk k fl (IteT k.K a) (prI it) A C H := fun A' C' H' p st' => by
  obtain ⟨o1, o2⟩ := ok A' C' H' p st'
  refine ⟨fun j d hj e => ?_, fun hf => o2 hf⟩
  simp only [prI, Option.map_eq_some_iff] at e
  obtain ⟨x, ex, rfl⟩ := e
  obtain ⟨⟨xs, v, hq, hv⟩, h2⟩ := o1 j x hj ex
  refine ⟨⟨xs, v, hq, hv⟩, fun y H'' ⟨T, z, ey, hT, eH, hz⟩ => ?_⟩
  subst ey eH
  have ez : z = v := Option.some.inj ((hz xs hq).symm.trans hv)
  subst ez
  obtain ⟨A3, p3, st3, r3⟩ := h2 z H' ⟨rfl, fun ys hy => hz ys hy⟩
  have q : Kp A3 C' H' A3 C' (upd H' T (.tup [.int (j : Nat), z])) := kp_new hT
  refine ⟨A3, p3.trans q.stp0, st3.new hT, ?_⟩
  have st4 := st3.new (o := .tup [.int (j : Nat), z]) hT
  exact .tup (tup_nl st4 upd_same) upd_same (.cons (.int _) (.cons (r3.kp q) .nil))
theorem li_enum {m : ME} {R : It → Hp → Prop} (h : LI k W (mEnum m) σ H R) : iEnumA k.K (tCons (LE k W m) tNil) σ H R := by
  obtain ⟨A, F, C, s, h⟩ := h
  refine ⟨A, F, C, s, (Aft.bnd (rel := RepD k) h).mono fun d C1 A1 H1 v p st r h1 => ?_⟩
  have tup : ∀ xs, vT d = some xs → itS d C1 = some (itC xs) → ∃ a, [v] = [.ref a] ∧ (((∃ xs, SqL k.K H1 a xs) ∧ R (Ite k.K a) H1) ∨ ((∃ xs, SqT k.K H1 a xs) ∧ R (IteT k.K a) H1)) := fun xs e ei => by
    rw [ei] at h1
    obtain ⟨a, rfl, hs, ok⟩ := itC_T (fl := F.fl) r e
    exact ⟨a, rfl, .inr ⟨hs, h1 A1 H1 _ Stp.refl st (pr_T ok)⟩⟩
  show ∃ a, [v] = [.ref a] ∧ _
  cases d with
  | tup xs => exact tup xs rfl rfl
  | kt xs => exact tup xs rfl rfl
  | lst xs =>
    cases r with
    | lst l hh rv => exact ⟨_, rfl, .inl ⟨⟨_, .inl (.inl hh)⟩, h1 A1 H1 _ Stp.refl st (pr_L (itC_L (.lst l hh rv)))⟩⟩
  | cell i =>
    cases r with
    | cell hi =>
      simp only [itS] at h1
      split at h1
      · rename_i it e
        split at e
        · rename_i ys ec
          cases e
          obtain ⟨vs, hv, rv⟩ := st.at_ i _ ec
          exact ⟨_, rfl, .inl ⟨⟨vs, .inl (.inl hv)⟩, h1 A1 H1 _ Stp.refl st (pr_L (itV_L (.cell hi)))⟩⟩
        · cases e
      · exact h1.elim
  | _ => exact h1.elim
theorem di_enum {e : Expr} {p pos tpos : Pos} {elts : List Expr} {kk : Nat} {m : ME} (hg : Gl X "enumerate") (hm : X.mg "enumerate" = none) (hK : X.K = k.K) (he : PE X e (LE k W m)) (hs : starEach [e] X.env = [(false, eval e X.env)] := by rfl) :
    PI X (.Tuple elts kk tpos) (.Call (.Name "enumerate" p) [e] [] pos) (LI k W (mEnum m)) := (pi_enumA hg hm (pa_cons he pa_nil (by rw [hs]; rfl)) hs).cq fun _ _ _ h => by
  rw [hK]
  exact li_enum h
end
end CT
set_option maxHeartbeats 4000000
/-! DLG: what the head tells (defs by addresses, checks), the law's end for data. -/
namespace CT
open PySem L2 PySem.Spec PyProof.Rows
/-! ### defs, by where they stand -/
theorem DefX.funD {K : PySem.W.Frag} {d : DefX} (e : fnX K (d.adr K) = d.val) (c : d.ok K = true) : ∃ fd, FunD K d.name d.qual d.params d.body d.scope (d.dfl K) [] (d.adr K) fd := by
  obtain ⟨kp, c2⟩ := He.ba c
  unfold fnX at e
  split at c2
  · rename_i oc od fd osl q
    rw [q] at e
    obtain ⟨k1, k2⟩ := He.ba c2
    cases fd
    simp only [DefX.val, Option.some.injEq, Prod.mk.injEq] at e
    obtain ⟨h1, h2, h3, h4, h5, h6, h7, h8⟩ := e
    subst h1 h2 h3 h4 h5 h6 h7 h8
    exact ⟨_, ⟨_, _, _, _, _, _, _, _, _, _, rfl, q, k1, He.dflB_ok k2, .inl rfl⟩, kp⟩
  · cases c2
/-! ### the head's look -/
section
variable {fs : List (PySem.W.Frag → Bool)} {fn : List DefX} {K : PySem.W.Frag}
theorem SaysX.fact (c : SaysX fs fn K) (i : Nat) {f : PySem.W.Frag → Bool} (h : fs[i]? = some f := by rfl) : f K = true :=
  List.all_eq_true.mp (He.ba (show ((fs.all fun f => f K) && fn.all fun d => d.ok K) = true from congrArg (fun z : AlX => z.1) c)).1 f (List.mem_of_getElem? h)
theorem SaysX.def_ (c : SaysX fs fn K) (i : Nat) {d : DefX} (h : fn[i]? = some d := by rfl) : ∃ fd, FunD K d.name d.qual d.params d.body d.scope (d.dfl K) [] (d.adr K) fd := by
  have c2 := (He.ba (show ((fs.all fun f => f K) && fn.all fun d => d.ok K) = true from congrArg (fun z : AlX => z.1) c)).2
  have e2 : (fn.map fun d => fnX K (d.adr K))[i]? = (fn.map DefX.val)[i]? := congrArg (fun z : AlX => z.2[i]?) c
  rw [List.getElem?_map, List.getElem?_map, h] at e2
  exact DefX.funD (Option.some.inj e2) (List.all_eq_true.mp c2 d (List.mem_of_getElem? h))
end
/-! ### checks -/
section
variable {K : PySem.W.Frag}
theorem prB_ok {x f : Str} (h : prB x f K = true) : PropOf K (He.ga K x) f (prA K (He.ga K x) f) (prG K (He.ga K x) f) := by
  obtain ⟨h1, h⟩ := He.ba h
  obtain ⟨h2, h⟩ := He.ba h
  obtain ⟨h3, h4⟩ := He.ba h
  refine ⟨He.eqO_ok h1, He.eqO_ok h2, of_decide_eq_true h3, ?_⟩
  split at h4
  · rename_i g rest e
    refine ⟨rest, ?_⟩
    unfold prG
    rw [e]
  · cases h4
theorem mem_allBt (b : Bt) : b ∈ allBt := by cases b <;> simp [allBt]
theorem insB_ok {C : Addr} (h : insB C K = true) : C8.InsC K C := by
  obtain ⟨h1, h⟩ := He.ba h
  obtain ⟨h2, h⟩ := He.ba h
  obtain ⟨h3, h⟩ := He.ba h
  obtain ⟨h4, h⟩ := He.ba h
  obtain ⟨h5, h⟩ := He.ba h
  obtain ⟨h6, h⟩ := He.ba h
  obtain ⟨h7, h⟩ := He.ba h
  obtain ⟨h8, h9⟩ := He.ba h
  exact ⟨⟨h1, h2, h3, He.eqO_ok h4⟩, He.eqO_ok h5, He.eqO_ok h6, of_decide_eq_true h7, of_decide_eq_true h8, of_decide_eq_true h9⟩
theorem isaB_ok {cl : PySem.W.Frag → Nat → Addr} {kn : List Nat} {k : Cn} (hK : k.K = K) (hc : k.cl = cl K) (h : isaB cl kn K = true) : IsaOk k kn := by
  obtain ⟨h1, h⟩ := He.ba h
  obtain ⟨h2, h3⟩ := He.ba h
  rw [List.all_eq_true] at h1 h2 h3
  refine ⟨fun c hm => ?_, fun c hm c' hm' => ?_, fun c hm b => ?_, fun c hm b => ?_⟩
  · rw [hK, hc]
    exact insB_ok (h1 c hm)
  · rw [hK, hc]
    exact of_decide_eq_true (List.all_eq_true.mp (h2 c hm) c' hm')
  · rw [hK, hc]
    exact of_decide_eq_true (He.ba (List.all_eq_true.mp (h3 c hm) b (mem_allBt b))).1
  · rw [hK, hc]
    exact of_decide_eq_true (He.ba (List.all_eq_true.mp (h3 c hm) b (mem_allBt b))).2
theorem ktB_ok {a : PySem.W.Frag → Addr} (h : ktB a K = true) : KT K (a K) [] := by
  unfold ktB at h
  split at h
  · rename_i c od its n osl q
    obtain ⟨h1, h2⟩ := He.ba h
    have e : its.toList = [] := List.length_eq_zero_iff.mp (by rw [Array.length_toList]; exact of_decide_eq_true h2)
    refine ⟨_, its, n, q, congrArg Value.type (of_decide_eq_true h1), rfl, by rw [of_decide_eq_true h2]; exact Nat.zero_le _, ?_⟩
    rw [e]
    exact .nil
  · cases h
end
/-! ### the end -/
def scrD (ns : List Int) : D := .scr (ns.map D.int)
theorem rep_scr {k : Cn} {H : Hp} {a : Addr} {ns : List Int} (hO : Only H) (h : SqL k.K H a (ns.map V.int)) : Rep k (fun _ => 0) [] H (.ref a) (scrD ns) := by
  have nl : ¬ Live (fun _ => 0) [] a := by
    rintro ⟨i, c, e, _⟩
    simp at e
  rcases h with h | ⟨o, its, n, h1, h2, h3, h4, h5, h6⟩
  · rcases h with h | ⟨o, h⟩
    · rcases hO a with z | ⟨o, xs, z⟩
      · rw [h] at z; cases z
      · rw [h] at z; cases z
    · exact .scr nl h RepL.ints
  · exact .kscr ⟨o, its, n, h1, h2, h3, h4, h5, h6⟩ RepL.ints
theorem law_core {P : Program} {w : World} {K : PySem.W.Frag} {mg mb : Str → Option Value} {fa a : Addr} {sp : Sp} {s₁ : Shared} {vs : List Value} {ns : List Int}
    (KX : K.In s₁.heap) (hns : s₁.heap.Ns mainGlobals mg) (hb : s₁.heap.Ns builtinsNs mb) (hbb : ∀ x : Str, x ≠ "__name__" → mb x = bootBuiltins x) (hlim : s₁.heap.NoLimit) (hg : s₁.gens = #[])
    (ha : s₁.heap.get? a = some { cls := .type "list", data := .seq vs.toArray }) (hi : IntsAre vs ns) (hl : ns.length ≤ sizeLine)
    (key : ∀ base : Heap, K.In base → base.Ns mainGlobals mg → ∀ (s : Shared) (H : Hp), Env0 P w K mg base callerA [] s H → sp [.ref a] H (fun v _ => v = .bl true) (fun _ _ _ => False) →
      codeAny (model P w) callerA (.call (.ref fa) ⟨[.ref a], []⟩) (CR (L2.CX P w) [] P w H s (fun v _ => v = .bl true) fun _ _ _ => False) s)
    (hsp : ∀ H : Hp, Only H → SqL K H a (ns.map V.int) → sp [.ref a] H (fun v _ => v = .bl true) fun _ _ _ => False) :
    codeAny (model P w) callerA (.call (.ref fa) ⟨[.ref a], []⟩) (fun r s' => r = .ok (.ret (.bool true)) ∧ OldK s₁.heap s'.heap ∧ s'.os = s₁.os ∧ AllBare s'.gens) s₁ := by
  have rv := vals_ints hi
  have lenV := hi.length
  -- from an abstract heap in which nothing but the script may be tracked
  have core : ∀ H : Hp, Only H → SqL K H a (ns.map V.int) → HOk P w H s₁.heap → (∀ b, H b ≠ none → b = a) → (H a ≠ none → K.lookup a = none) →
      codeAny (model P w) callerA (.call (.ref fa) ⟨[.ref a], []⟩) (fun r s' => r = .ok (.ret (.bool true)) ∧ OldK s₁.heap s'.heap ∧ s'.os = s₁.os ∧ AllBare s'.gens) s₁ := by
    intro H hO hS hok hA hK
    have base_of : ∀ {b : Addr} {o : Obj}, s₁.heap.get? b = some o → H b = none → (hidT s₁.heap H).get? b = some o := fun e n => hidT_get e n
    have noA : ∀ {b : Addr} {o : Obj} {es : Array DictEntry} {ep : Nat}, s₁.heap.get? b = some o → o.data = .dict es ep → H b = none := fun {b o es ep} e d => by
      cases q : H b with
      | none => rfl
      | some u =>
        have e' : b = a := hA b (by rw [q]; simp)
        subst e'
        rw [ha] at e; cases e
        have d' : Data.seq vs.toArray _ = Data.dict es ep := d
        cases d'
    have nsK : ∀ {b : Addr} {m : Str → Option Value}, s₁.heap.Ns b m → (hidT s₁.heap H).Ns b m := fun {b m} ⟨o, es, ep, e, d, r⟩ => ⟨o, es, ep, base_of e (noA e d), d, r⟩
    have hKb : K.In (hidT s₁.heap H) := fun b o e => base_of (KX b o e) (by
      cases q : H b with
      | none => rfl
      | some u =>
        have e' : b = a := hA b (by rw [q]; simp)
        subst e'
        rw [hK (by rw [q]; simp)] at e; cases e)
    have hM : Mod K mg (hidT s₁.heap H) := ⟨hKb, nsK hns, ⟨mb, nsK hb, hbb⟩, let ⟨mc, h1, h2⟩ := hlim; ⟨mc, nsK h1, h2⟩⟩
    have e0 : Env0 P w K mg (hidT s₁.heap H) callerA [] s₁ H := ⟨rfl, hM, fun b o e => of_hidT e, Nat.le_of_eq (hidT_size _ _), trivial, fun b hb => absurd (show b ∈ ([] : List Addr) from hb) (by simp), hok, .of_eq hg⟩
    refine codeAny_mono (key _ hKb (nsK hns) s₁ H e0 (hsp H hO hS)) fun r s' h => ?_
    cases r with
    | error e =>
      obtain ⟨_, _, _, _, _, _, _, _, _, _, _, _, z⟩ := h
      exact z.elim
    | ok fl =>
      cases fl with
      | next => exact False.elim h
      | brk => exact False.elim h
      | cont => exact False.elim h
      | ret u =>
        obtain ⟨v, H', os, bare, un, hok', r', q⟩ := h
        have q' : v = .bl true := q
        subst q'
        obtain rfl : u = Value.bool true := r'
        refine ⟨rfl, OldK.of_keep fun b o e => ?_, os, bare⟩
        cases q : H b with
        | none => exact un.keep b o e q (by intro z; exact absurd (show b ∈ ([] : List Addr) from z) (by simp)) (by simp)
        | some u =>
          rcases hO b with z | ⟨ob, xs, z⟩
          · rw [q] at z; cases z
          · have z2 := un.frzs b ob _ z
            obtain ⟨e1, _⟩ := hok b _ z
            obtain ⟨e2, _⟩ := hok' b _ z2
            rw [e] at e1; cases e1
            exact e2
  cases hk : K.lookup a with
  | some o =>
    -- the script is one of the module's own objects
    have e := KX a o hk
    rw [ha] at e
    cases e
    refine core (fun _ => none) (fun _ => .inl rfl) (.inr ⟨_, vs.toArray, _, hk, rfl, rfl, rfl, by rw [List.size_toArray, lenV]; exact hl, by simpa using rv⟩) (fun b u z => by have z' : (none : Option HO) = some u := z; cases z') (fun b z => absurd rfl z) fun z => absurd rfl z
  | none =>
    refine core (fun b => if b = a then some (.frz { cls := .type "list", data := .seq vs.toArray } (.lst (ns.map V.int))) else none) (fun b => ?_) (.inl (.inr ⟨{ cls := .type "list", data := .seq vs.toArray }, if_pos rfl⟩)) (fun b u z => ?_) (fun b z => ?_) fun _ => hk
    · by_cases hb : b = a
      · exact .inr ⟨_, _, if_pos hb⟩
      · exact .inl (if_neg hb)
    · by_cases hb : b = a
      · have z' := (if_pos hb).symm.trans z
        cases z'
        subst hb
        exact ⟨ha, by rw [List.length_map]; exact hl, vs, _, rv, ha⟩
      · have z' := (if_neg hb).symm.trans z
        cases z'
    · by_cases hb : b = a
      · exact hb
      · exact absurd (if_neg hb) z
end CT
set_option maxHeartbeats 4000000
/-! DLH: a def that hands back a list of its own, to be changed by its caller. -/
namespace CT
open PySem L2 PySem.Spec PyProof.Rows
section
variable {k : Cn} {A A2 : Nat → Addr} {C C2 : Store} {H : Hp} {n : Nat}
structure Fw2 (n : Nat) (A : Nat → Addr) (C : Store) (A2 : Nat → Addr) (C2 : Store) : Prop where
  lv : ∀ a, Live A2 C2 a → Live A C a
  ix : ∀ j, j < n → A2 j = A j
  len : n ≤ C2.length
mutual
theorem Rep.fw2 (q : Fw2 n A C A2 C2) : ∀ {v : V} {d : D}, Rep k A C H v d → CT.cb n d = true → Rep k A2 C2 H v d
  | _, _, .non, _ => .non
  | _, _, .bl b, _ => .bl b
  | _, _, .int i, _ => .int i
  | _, _, .str s, _ => .str s
  | _, _, .lst l h r, z => .lst (fun y => l (q.lv _ y)) h (r.fw2 q (by simpa [CT.cb] using z))
  | _, _, .tup l h r, z => .tup (fun y => l (q.lv _ y)) h (r.fw2 q (by simpa [CT.cb] using z))
  | _, _, .ktup h r, z => .ktup h (r.fw2 q (by simpa [CT.cb] using z))
  | _, _, .scr l h r, z => .scr (fun y => l (q.lv _ y)) h (r.fw2 q (by simpa [CT.cb] using z))
  | _, _, .kscr h r, z => .kscr h (r.fw2 q (by simpa [CT.cb] using z))
  | _, _, .obj l h e r, z => .obj (fun y => l (q.lv _ y)) h e (r.fw2 q (by simpa [CT.cb] using z))
  | _, _, .exn x l h e r, z => .exn x (fun y => l (q.lv _ y)) h e (r.fw2 q (by simpa [CT.cb] using z))
  | _, _, .cls c, _ => .cls c
  | _, _, .dT l h r, z => .dT (fun y => l (q.lv _ y)) h (r.fw2 q (by simpa [CT.cb] using z))
  | _, _, .cell (i := i) hi, z => by
    have hi : i < n := by simpa [CT.cb] using z
    rw [← q.ix i hi]
    exact .cell (Nat.lt_of_lt_of_le hi q.len)
theorem RepL.fw2 (q : Fw2 n A C A2 C2) : ∀ {vs : List V} {ds : List D}, RepL k A C H vs ds → CT.cbL n ds = true → RepL k A2 C2 H vs ds
  | _, _, .nil, _ => .nil
  | _, _, .cons r t, z => by
    simp [CT.cbL] at z
    exact .cons (r.fw2 q z.1) (t.fw2 q z.2)
end
end
def finO (n : Nat) (d : D) (C : Store) : R D := match d with
  | .cell i => if n ≤ i then (match C[i]? with
    | some (some (.lst xs)) => if cbL n xs = true then .ok (.cell n) (C.take n ++ [some (.lst xs)]) else .stuck
    | _ => .stuck) else .stuck
  | _ => .stuck
def mDefO (np ns : Nat) (body : MS) : MF := fun ds C => if ds.length = np then (match body ⟨C.length, ds.map some ++ List.replicate (ns - np) none⟩ C with
    | .rt d C' => finO C.length d C'
    | .xc e _ C' => if cbL C.length e.fs = true then .exc e (C'.take C.length) else .stuck
    | _ => .stuck) else .stuck
theorem mDefO_ar {np ns : Nat} {body : MS} : Ar np (mDefO np ns body) := fun ds C h => by
  unfold mDefO
  rw [if_neg h]
section
variable {k : Cn}
theorem start_sr {np ns : Nat} {N : List Str} {vs : List V} {ds : List D} {H : Hp} {A : Nat → Addr} {C : Store} (hN : N.length = ns) (hv : vs.length = np) (hd : ds.length = np) (hp : np ≤ ns) (st : StOk k A C H) (rl : RepL k A C H vs ds) :
    SR k A ⟨C.length, ds.map some ++ List.replicate (ns - np) none⟩ C (L2.start N vs) H := by
  have sl : (L2.start N vs) = vs.map some ++ List.replicate (ns - np) none := by unfold L2.start; rw [hN, hv]
  refine ⟨st, st.low, Nat.le_refl _, ?_, fun i d e => ?_⟩
  · rw [sl]
    simp [rl.length]
  · rw [sl]
    have e' : (ds.map some ++ List.replicate (ns - np) none)[i]? = some (some d) := e
    by_cases hi : i < ds.length
    · rw [List.getElem?_append_left (by simpa using hi), List.getElem?_map] at e'
      cases ed : ds[i]? with
      | none => rw [ed] at e'; cases e'
      | some d' =>
        rw [ed] at e'
        cases e'
        obtain ⟨v, h1, h2⟩ := rl.get ed
        refine ⟨v, ?_, h2⟩
        rw [List.getElem?_append_left (by rw [List.length_map, rl.length]; exact hi), List.getElem?_map, h1]
        rfl
    · rw [List.getElem?_append_right (by simpa using hi)] at e'
      have := List.getElem?_eq_some_iff.mp e'
      obtain ⟨h1, h2⟩ := this
      rw [List.getElem_replicate] at h2
      cases h2
theorem spDO_body {np ns : Nat} {body : MS} {N : List Str} {vs : List V} {H : Hp} {Q : VK} {E : XK} (hN : N.length = ns) (hp : np ≤ ns) (h : SpD k np (mDefO np ns body) vs H Q E) :
    LS k (fun c d _ H' => E c d H') body { nx := fun _ H' => Q .non H', rt := Q } (L2.start N vs) H := by
  obtain ⟨hv, A, C, ds, st, rl, h⟩ := h
  have hd : ds.length = np := by rw [← rl.length]; exact hv
  unfold mDefO at h
  rw [if_pos hd] at h
  refine ⟨A, _, C, start_sr hN hv hd hp st rl, ?_⟩
  show AftS k _ C.length A C H (body ⟨C.length, ds.map some ++ List.replicate (ns - np) none⟩ C) _
  cases eb : body ⟨C.length, ds.map some ++ List.replicate (ns - np) none⟩ C with
  | nx sl' C' => rw [eb] at h; exact h.elim
  | bk sl' C' => rw [eb] at h; exact h.elim
  | ct sl' C' => rw [eb] at h; exact h.elim
  | stuck => rw [eb] at h; exact h.elim
  | rt d C' =>
    rw [eb] at h
    intro A' H' v p st' r
    simp only at h
    unfold finO at h
    split at h
    · rename_i i
      split at h
      · rename_i hi
        split at h
        · rename_i xs ec
          split at h
          · rename_i hc
            obtain ⟨q1, q2, q3, q4⟩ := cut_stp rfl st st' p
            cases r with
            | cell hi' =>
              obtain ⟨ws, hw, rw'⟩ := st'.at_ i _ ec
              have tl : (C'.take C.length ++ [some (Cell.lst xs)]).length = C.length + 1 := by simp [List.length_take]; omega
              have at_lt : ∀ j, j < C.length → (C'.take C.length ++ [some (Cell.lst xs)])[j]? = C'[j]? := fun j hj => by
                rw [List.getElem?_append_left (by rw [q4]; exact hj), List.getElem?_take_of_lt hj]
              have at_n : (C'.take C.length ++ [some (Cell.lst xs)])[C.length]? = some (some (.lst xs)) := by
                rw [List.getElem?_append_right (by rw [q4]; exact Nat.le_refl _), q4]
                simp
              have ex_lt : ∀ j, j < C.length → ext A' C.length (A' i) j = A' j := fun j hj => if_neg (Nat.ne_of_lt hj)
              have fw : Fw2 C.length A' C' (ext A' C.length (A' i)) (C'.take C.length ++ [some (.lst xs)]) := by
                refine ⟨fun a l => ?_, ex_lt, by rw [tl]; exact Nat.le_succ _⟩
                obtain ⟨j, c, e, z⟩ := l
                have hj : j < C.length + 1 := by rw [← tl]; exact (List.getElem?_eq_some_iff.mp e).1
                by_cases hj' : j < C.length
                · rw [at_lt j hj'] at e
                  rw [ex_lt j hj'] at z
                  exact ⟨j, c, e, z⟩
                · have ej : j = C.length := by omega
                  subst ej
                  rw [ext_at] at z
                  exact ⟨i, _, ec, z⟩
              have low : LowC C.length C' := p.low _ (Nat.le_refl _) (Nat.le_refl _) st.low
              have cellOk : ∀ c a, cbC C.length c = true → CellAt k A' C' H' a c → CellAt k (ext A' C.length (A' i)) (C'.take C.length ++ [some (.lst xs)]) H' a c := fun c a hb hx => by
                cases c with
                | lst ds => obtain ⟨ws, e, r⟩ := hx; exact ⟨ws, e, r.fw2 fw hb⟩
                | dT ks ds => obtain ⟨ws, e, z, r⟩ := hx; exact ⟨ws, e, z, r.fw2 fw hb⟩
                | ins c ds => obtain ⟨dx, ws, e, z, r⟩ := hx; exact ⟨dx, ws, e, z, r.fw2 fw hb⟩
              have st2 : StOk k (ext A' C.length (A' i)) (C'.take C.length ++ [some (.lst xs)]) H' := by
                refine ⟨fun j c e => ?_, fun j j' c c' e e' z => ?_⟩
                · have hj : j < C.length + 1 := by rw [← tl]; exact (List.getElem?_eq_some_iff.mp e).1
                  by_cases hj' : j < C.length
                  · rw [at_lt j hj'] at e
                    rw [ex_lt j hj']
                    exact cellOk c _ (low j c hj' e) (st'.at_ j c e)
                  · have ej : j = C.length := by omega
                    subst ej
                    rw [at_n] at e
                    cases e
                    rw [ext_at]
                    exact cellOk _ _ hc (st'.at_ i _ ec)
                · have hj : j < C.length + 1 := by rw [← tl]; exact (List.getElem?_eq_some_iff.mp e).1
                  have hk : j' < C.length + 1 := by rw [← tl]; exact (List.getElem?_eq_some_iff.mp e').1
                  by_cases hj' : j < C.length
                  · by_cases hk' : j' < C.length
                    · rw [at_lt j hj'] at e
                      rw [at_lt j' hk'] at e'
                      rw [ex_lt j hj', ex_lt j' hk'] at z
                      exact st'.inj j j' c c' e e' z
                    · have ek : j' = C.length := by omega
                      subst ek
                      rw [at_lt j hj'] at e
                      rw [ex_lt j hj', ext_at] at z
                      have := st'.inj j i c _ e ec z
                      omega
                  · have ej : j = C.length := by omega
                    subst ej
                    by_cases hk' : j' < C.length
                    · rw [at_lt j' hk'] at e'
                      rw [ex_lt j' hk', ext_at] at z
                      have := st'.inj j' i c' _ e' ec z.symm
                      omega
                    · omega
              refine h (ext A' C.length (A' i)) H' (.ref (A' i)) ⟨fun v d r => (p.rep v d r).fw2 fw r.cb, by rw [tl]; exact Nat.le_succ _, fun f h1 h2 l => low_app (by rw [q4]; exact h1) (low_take (p.low f h1 h2 l)), p.frz⟩ st2 ?_
              have r9 : Rep k (ext A' C.length (A' i)) (C'.take C.length ++ [some (.lst xs)]) H' (.ref (ext A' C.length (A' i) C.length)) (.cell C.length) := .cell (by rw [tl]; exact Nat.lt_succ_self _)
              rw [ext_at] at r9
              exact r9
          · exact h.elim
        · exact h.elim
      · exact h.elim
    · exact h.elim
  | xc e sl' C' =>
    rw [eb] at h
    intro A' σ' H' dd ws p s' x l r
    simp only at h
    split at h
    · rename_i hc
      obtain ⟨q1, q2, q3, q4⟩ := cut_stp rfl st s'.st p
      exact h A' H' dd ws q1 q2 x l (r.cut q3 hc)
    · exact h.elim
variable {P : Program} {w : World} {mg : Str → Option Value} {base : Heap} {x qual : Str} {params : Arguments} {body : List Stmt} {scope : Scope} {dvs : List V} {kws : List (Str × V)} {f : Addr} {fd : FuncData}
theorem fn_okO {N ps : List Str} {lev : Nat} {m : MS} (F : FunD k.K x qual params body scope dvs kws f fd) (S : FnScope N ps scope) (hp : ps.length ≤ N.length)
    (hb : ∀ (cdv : Value) (A : Around) (outer : List Env) (s : Shared) (H : Hp) (E : XK), RoomG lev (A.deeper (envOfC qual scope s.heap.objs.size f cdv)) → PSs (cxOf (L2.CX P w) P w k.K mg base N qual scope f cdv A outer s H E) body (LS k (fun c d _ H' => E c d H') m)) :
    FnG P w k.K mg base (lev + 1) f fd ps (SpD k ps.length (mDefO ps.length N.length m)) := by
  obtain ⟨oc, od, dV, kV, doc, pm, an, cdv, ct, osl, rfl, lk, hcd, _, _⟩ := F.ex
  exact fn_ofG lk hcd S (fun vs H Q E h => h.1) fun A outer s H vs Q E hr h => ⟨_, hb cdv A outer s H E hr, spDO_body rfl hp h⟩
end
end CT
set_option maxHeartbeats 4000000
/-! DLI: comparisons as tests. -/
namespace CT
open PySem L2 PySem.Spec PyProof.Rows
theorem RoomG.u65 {n : Nat} {A : Around} (hr : RoomG n A) : A.units + 65 < cLine := by have := hr.room.un; omega
theorem RoomG.u200 {n : Nat} {A : Around} (hr : RoomG n A) : A.units + 200 < cLine := by have := hr.room.un; omega
section
variable {X : Cx} {k : Cn} {W : WX} {a b c : Expr} {pos : Pos} {op op' : CmpOp} {r r' : R2} {o o' : O2} {ma mb mc : ME}
theorem dt_cmp (hR : OpR X (compareOp op) r) (hD : OpD k r o) (ha : PE X a (LE k W ma)) (hb : PE X b (LE k W mb)) (hm : behindInMarks op b = false) : PT X (.Compare a [op] [b] pos) (LT k W (mTst (mOp o ma mb))) :=
  (pt_cmpR hR ha hb hm).cq fun _ _ _ h => le_op hD (lt_val h)
end
/-! ### == and !=, scalars or data -/
theorem d_eqA {k : Cn} : OpD k (fun x y H Q => rEq x y H Q ∨ rEqD k.K x y H Q) (oEqA false) := by
  intro fl A C H x y dx dy d C' Q hf hl st rx ry e q
  unfold oEqA at e
  split at e
  · cases rx; cases ry; cases e
    refine .inl ⟨rfl, ?_⟩
    have := q A H _ Stp.refl st (.bl _)
    simpa using this
  · cases rx; cases ry; cases e
    refine .inl ⟨rfl, ?_⟩
    have := q A H _ Stp.refl st (.bl _)
    simpa using this
  · exact .inr (d_eqD fl A C H x y _ _ d C' Q hf hl st rx ry e q)
theorem d_neA {k : Cn} : OpD k (fun x y H Q => rNe x y H Q ∨ rNeD k.K x y H Q) (oEqA true) := by
  intro fl A C H x y dx dy d C' Q hf hl st rx ry e q
  unfold oEqA at e
  split at e
  · cases rx; cases ry; cases e
    refine .inl ⟨rfl, ?_⟩
    have := q A H _ Stp.refl st (.bl _)
    simpa using this
  · cases rx; cases ry; cases e
    refine .inl ⟨rfl, ?_⟩
    have := q A H _ Stp.refl st (.bl _)
    simpa using this
  · exact .inr (d_neD fl A C H x y _ _ d C' Q hf hl st rx ry e q)
end CT
set_option maxHeartbeats 4000000
/-! DLJ: operators that a class defines: ==, !=, +, in, []. -/
namespace CT
open PySem L2 PySem.Spec PyProof.Rows
/-- an operation that may call a def of the program's own -/
def OpX (X : Cx) (f : Value → Value → Sem Value) (r : L2.St → R2) : Prop :=
  ∀ (pins : List (Addr × Obj)) (s : Shared) (σ : L2.St) (H : Hp) (x y : V) (v u : Value) (Q : VK), Inv X pins σ H s → RelV x v → RelV y u → r σ x y H Q → wpAny (model X.prog X.w) X.A (f v u) (EP X pins σ Q) X.xe s
def tOpX (r : L2.St → R2) (ta tb : TE) : TE := fun σ H Q => ta σ H fun x H1 => tb σ H1 fun y H2 => r σ x y H2 Q
/-- the left is an instance of the class at C, the right of a type that does not go first -/
def rO2 (K : PySem.W.Frag) (C : Addr) (sp : Sp) (E : L2.St → XK) (post : VK → VK) : L2.St → R2 := fun σ x y H Q => ∃ a dx fs T, x = .ref a ∧ H a = some (.ins C dx fs) ∧ TyX K H y T ∧ PySem.W.notFirst K C T = true ∧ sp [x, y] H (post Q) (E σ)
section
variable {X : Cx} {k : Cn} {W : WX} {σ : L2.St} {H : Hp} {Q : VK} {lev : Nat} {C g a dx : Addr} {fs : List (Str × V)} {f : Str} {fd : FuncData} {ps : List Str} {np : Nat} {m : MF} {e o b : Expr} {pos : Pos} {ta tb : TE} {mo me : ME} {E : L2.St → XK} {sp : Sp} {r : L2.St → R2}
theorem pe_opX {op : Operator} (ho : OpX X (binaryOp op) r) (ha : PE X e ta) (hb : PE X b tb) : PE X (.BinOp e op b pos) (tOpX r ta tb) :=
  ⟨fun pins s σ H Q I h => wpAny_BinOp (binT ha hb I h fun v u s2 x y H2 I2 rx ry q => ho pins s2 σ H2 x y v u Q I2 rx ry q)⟩
theorem pe_cmpX {op : CmpOp} (ho : OpX X (compareOp op) r) (ha : PE X e ta) (hb : PE X b tb) (hm : behindInMarks op b = false) : PE X (.Compare e [op] [b] pos) (tOpX r ta tb) :=
  ⟨fun pins s σ H Q I h => wpAny_Compare1 (binT ha hb I h fun v u s2 x y H2 I2 rx ry q => ho pins s2 σ H2 x y v u Q I2 rx ry q) hm⟩
theorem pt_cmpX {op : CmpOp} (ho : OpX X (compareOp op) r) (ha : PE X e ta) (hb : PE X b tb) (hm : behindInMarks op b = false) : PT X (.Compare e [op] [b] pos) (tTest (tOpX r ta tb)) := by
  refine ⟨fun pins s σ H Q I h => ?_⟩
  refine wpAny_isTrue_Compare1 (thn (ha.run pins s σ H _ I h) fun v s1 z1 => ?_) hm
  obtain ⟨x, H1, I1, r1, q1⟩ := z1
  refine thn (hb.run pins s1 σ H1 _ I1 q1) fun u s2 z2 => ?_
  obtain ⟨y, H2, I2, r2, q2⟩ := z2
  refine thn (ho pins s2 σ H2 x y v u _ I2 r1 r2 q2) fun c s3 z3 => ?_
  obtain ⟨z, H3, I3, r3, kk, ez, q3⟩ := z3
  subst ez
  cases r3
  exact wpAny_truthy_bool ⟨H3, I3, q3⟩
/-- the type of a value, looked up -/
theorem ty_look {M : Model} {pins : List (Addr × Obj)} {s : Shared} {x : V} {u T : Value} (I : Inv X pins σ H s) (rx : RelV x u) (t : TyX X.K H x T) : PySem.W.Looks M s.heap (typeOf u) T := by
  obtain ⟨P, kx, hp, _⟩ := kit_of I rx t
  exact kx.ty M _ I.kIn hp
theorem op_cmpO {op : CmpOp} (hop : ∀ a b, compareOp op a b = richCompare op a b) (hs : PySem.W.findIn X.K (.ref C) (cmpInfo op).2.1 = some (some (.ref g))) (hf : PySem.W.isFn X.K (.ref g) = true) (F : FnG X.prog X.w X.K X.mg X.base lev g fd ps sp) (hr : RoomG lev X.A) (hb : Binds X.K fd ps []) (hx : ∀ σ, PassesAt (L2.CX X.prog X.w) X σ (E σ)) :
    OpX X (compareOp op) (rO2 X.K C sp E id) := by
  intro pins s σ H x y v u Q I rx ry h
  obtain ⟨a, dx, fs, T, rfl, ha, hT, hn, q⟩ := h
  cases (show v = Value.ref a from rx)
  obtain ⟨mA, O, _, _, _, _⟩ := ins_get I.hok ha
  obtain ⟨od, J, _⟩ := O.look
  obtain ⟨mm, hF⟩ := I.fr
  rw [hop]
  refine PySem.W.cmp_K (op := op) (tb := T) hr.room.units0 hF I.ok.mod.kin J (ty_look I ry hT) hn hs hf ?_
  refine wpAny_mono (run_fnG (us := [.ref a, u]) (vs := [.ref a, y]) (dvs := []) (ds := []) F hr hb .nil (hx σ) I (.cons rfl (.cons ry .nil)) q) (fun z' s' hz => ?_) fun _ _ z => z
  obtain ⟨z, H', I', rz, qz⟩ := hz
  exact SlX.cmpback rz ⟨z, H', I', rz, qz⟩
theorem op_addO {op : Operator} (hc : PySem.W.selfFirst X.K C = true) (hs : PySem.W.findIn X.K (.ref C) (PySem.dunder op.info.2) = some (some (.ref g))) (hf : PySem.W.isFn X.K (.ref g) = true) (F : FnG X.prog X.w X.K X.mg X.base lev g fd ps sp) (hr : RoomG lev X.A) (hb : Binds X.K fd ps []) (hx : ∀ σ, PassesAt (L2.CX X.prog X.w) X σ (E σ)) :
    OpX X (binaryOp op) fun σ x y H Q => ∃ a dx fs b dy gs, x = .ref a ∧ y = .ref b ∧ H a = some (.ins C dx fs) ∧ H b = some (.ins C dy gs) ∧ sp [x, y] H Q (E σ) := by
  intro pins s σ H x y v u Q I rx ry h
  obtain ⟨a, dx, fs, b, dy, gs, rfl, rfl, ha, hb', q⟩ := h
  cases (show v = Value.ref a from rx)
  cases (show u = Value.ref b from ry)
  obtain ⟨mA, O, _, _, _, _⟩ := ins_get I.hok ha
  obtain ⟨od, J, _⟩ := O.look
  obtain ⟨mA', O', _, _, _, _⟩ := ins_get I.hok hb'
  obtain ⟨od', J', _⟩ := O'.look
  obtain ⟨mm, hF⟩ := I.fr
  refine PySem.W.binop_K hF I.ok.mod.kin J J'.type hc hs hf ?_
  refine wpAny_mono (run_fnG (us := [.ref a, .ref b]) (vs := [.ref a, .ref b]) (dvs := []) (ds := []) F hr hb .nil (hx σ) I (.cons rfl (.cons rfl .nil)) q) (fun z' s' hz => ?_) fun _ _ z => z
  obtain ⟨z, H', I', rz, qz⟩ := hz
  exact SlX.cmpback rz ⟨z, H', I', rz, qz⟩
end
end CT
set_option maxHeartbeats 4000000
/-! DLK: != by an own __eq__; x[i] by an own __getitem__. -/
namespace CT
open PySem L2 PySem.Spec PyProof.Rows
section
variable {M : Model} {prog : Program} {w : World} {A : Around} {E : Value → Shared → Prop} {s : Shared} {K : PySem.W.Frag} {x C g : Addr} {ox : Obj} {od : Option Obj} {b : Value}
theorem ne_body {Q : Fin → Shared → Prop} (hu : A.units < cLine) (KX : K.In s.heap) (J : PySem.W.InstAt s.heap x ox C od) (hs : PySem.W.findIn K (.ref C) "__eq__" = some (some (.ref g))) (hf : PySem.W.isFn K (.ref g) = true)
    (h : wpAny M A (call (.ref g) [.ref x, b]) (fun v s' => ∃ t, v = .bool t ∧ Q (.done (.ret (.bool (!t)))) s') E s) : wpAny M A (Builtin.«object.__ne__» ⟨[.ref x, b], []⟩) Q E s := by
  unfold Builtin.«object.__ne__»
  repeat (first | with_reducible refine PySem.W.ifBound_K (name := "__eq__") (args := [b]) KX J hs hf (wpAny_mono h (fun v s' hz => ?_) fun _ _ z => z) | with_reducible refine wpAny_cRoomFor hu ?_ | wp_step)
  obtain ⟨t, rfl, q⟩ := hz
  repeat (first | with_reducible refine wpAny_truthy_bool ?_ | wp_step)
  exact q
theorem ne_bound {Q : Option Value → Shared → Prop} (KX : K.In s.heap) (J : PySem.W.InstAt s.heap x ox C od) (hs : PySem.W.findIn K (.ref C) "__ne__" = some (some (.builtin "object.__ne__")))
    (h : wpAny M A (call (.builtin "object.__ne__") [.ref x, b]) (fun v => Q (some v)) E s) : wpAny M A (callSpecialIfBound? (.ref x) "__ne__" [b]) Q E s := by
  have last : wpAny M A (call (.builtin "object.__ne__") ([.ref x] ++ [b]) >>= fun v => pure (some v)) Q E s := wpAny_bind (wpAny_mono h (fun v s' z => wpAny_pure z) fun _ _ z => z)
  simp only [callSpecialIfBound?, bindSpecialIfBound?]
  refine wpAny_holding (wpAny_bind (wpAny_bind (wpAny_bind (J.type.here ((PySem.W.looks_findIn KX hs).here (wpAny_bind (wpAny_askSetting (wpAny_ite ?_))))))))
  split
  · exact wpAny_bind (wpAny_of_eq (PySem.F.cmp_object.ne.bind _) (wpAny_pure last))
  · exact wpAny_tryCatch (wpAny_bind (wpAny_of_eq (PySem.F.cmp_object.ne.bind _) (wpAny_pure last)))
end
section
variable {X : Cx} {k : Cn} {W : WX} {σ : L2.St} {H : Hp} {Q : VK} {lev : Nat} {C g a dx : Addr} {fs : List (Str × V)} {f : Str} {fd : FuncData} {ps : List Str} {np : Nat} {m : MF} {e o b : Expr} {pos : Pos} {ta tb : TE} {mo me : ME} {E : L2.St → XK} {sp : Sp} {r : L2.St → R2}
/-- the def runs inside a builtin -/
theorem run_in1 {pins : List (Addr × Obj)} {σ : L2.St} {H : Hp} {s : Shared} {Q : VK} {us : List Value} {vs : List V} {Ex : XK} (F : FnG X.prog X.w X.K X.mg X.base lev g fd ps sp) (hr : RoomG (lev + 1) X.A) (hb : Binds X.K fd ps []) (hx : PassesAt (L2.CX X.prog X.w) X σ Ex)
    (I : Inv X pins σ H s) (r : Vals vs us) (h : sp vs H Q Ex) : wpAny (model X.prog X.w) X.A.in1 (call (.ref g) us) (EP X pins σ Q) X.xe s := by
  have hl : (us ++ []).length = ps.length := by
    rw [List.append_nil, ← r.length]
    exact F.len _ _ _ _ h
  have B := hb s us I.kIn hl
  rw [List.append_nil] at B
  refine wpAny_call (codeAny_mono (F.run X.A.in1 X.stack s H ⟨us, []⟩ us vs Q Ex hr.in1 I.env0.in1 B r h) fun r s' hq => ?_)
  cases r with
  | error er => exact hx pins H s er s' I hq
  | ok fl =>
    cases fl with
    | ret u => exact I.after hq
    | next => exact False.elim hq
    | brk => exact False.elim hq
    | cont => exact False.elim hq
theorem op_neO (hs : PySem.W.findIn X.K (.ref C) "__eq__" = some (some (.ref g))) (hf : PySem.W.isFn X.K (.ref g) = true) (hne : PySem.W.findIn X.K (.ref C) "__ne__" = some (some (.builtin "object.__ne__"))) (hm : PySem.W.mroIn X.K C (.type "object") = some true)
    (F : FnG X.prog X.w X.K X.mg X.base lev g fd ps sp) (hr : RoomG (lev + 1) X.A) (hb : Binds X.K fd ps []) (hx : ∀ σ, PassesAt (L2.CX X.prog X.w) X σ (E σ)) :
    OpX X (compareOp .NotEq) (rO2 X.K C sp E fun Q z H' => ∃ t, z = .bl t ∧ Q (.bl (!t)) H') := by
  intro pins s σ H x y v u Q I rx ry h
  obtain ⟨a, dx, fs, T, rfl, ha, hT, hn, q⟩ := h
  cases (show v = Value.ref a from rx)
  obtain ⟨mA, O, _, _, _, _⟩ := ins_get I.hok ha
  obtain ⟨od, J, _⟩ := O.look
  have hu := hr.room.units0
  have one : wpAny (model X.prog X.w) X.A (tryCompare (.ref a) "__ne__" u) (fun r s' => ∃ z, r = some z ∧ EP X pins σ Q z s') X.xe s := by
    unfold tryCompare
    refine wpAny_bind (ne_bound I.kIn J hne ?_)
    refine wpAny_call (codeAny_call_builtin PySem.F.cmp_object.ne.plain PySem.F.cmpEntry_ne (PySem.W.check_slot PySem.F.cmpKind_ne PySem.F.cmpSplit_ne (J.type.andThen (PySem.W.looks_mroIn I.kIn hm)) (PySem.F.cmpArgs_ne _ _) ?_))
    refine ne_body hr.in1.room.units0 I.kIn J hs hf (wpAny_mono (run_in1 (us := [.ref a, u]) (vs := [.ref a, y]) F hr hb (hx σ) I (.cons rfl (.cons ry .nil)) q) (fun z' s' hz => ?_) fun _ _ z => z)
    obtain ⟨z, H', I', rz, t, ez, qz⟩ := hz
    subst ez
    cases rz
    exact ⟨t, rfl, wpAny_pure ⟨_, rfl, .bl (!t), H', I', rfl, qz⟩⟩
  show wpAny (model X.prog X.w) X.A (richCompare .NotEq (.ref a) u) (EP X pins σ Q) X.xe s
  unfold richCompare
  simp only [oneThing_ref]
  refine wpAny_holding (wpAny_bind (wpAny_cRoomFor hu ?_))
  refine wpAny_bind (J.type.here (wpAny_bind ((ty_look I ry hT).here ?_)))
  have fin : ∀ (z : Option Value) (s' : Shared), (∃ t, z = some t ∧ EP X pins σ Q t s') → ∃ t, z = some t ∧ EP X pins σ Q t s' := fun _ _ z => z
  split
  · rename_i nq
    have e : PySem.W.subIn X.K T (.ref C) = some false := by
      rcases Bool.or_eq_true_iff.mp hn with e | e
      · rw [beq_iff_eq.mp e] at nq
        simp at nq
      · exact beq_iff_eq.mp e
    refine wpAny_bind ((PySem.W.looks_subIn I.kIn e).here ?_)
    simp only [Bool.false_eq_true, if_false]
    refine wpAny_bind (wpAny_mono one (fun r s' z => ?_) fun _ _ e => e)
    obtain ⟨t, rfl, hq⟩ := z
    exact wpAny_pure hq
  · refine wpAny_bind (wpAny_pure ?_)
    simp only [Bool.false_eq_true, if_false]
    refine wpAny_bind (wpAny_mono one (fun r s' z => ?_) fun _ _ e => e)
    obtain ⟨t, rfl, hq⟩ := z
    exact wpAny_pure hq
end
end CT
set_option maxHeartbeats 4000000
/-! DLL: own operators over data. -/
namespace CT
open PySem L2 PySem.Spec PyProof.Rows
/-! ### the terms -/
def isC (c : Nat) (x : D) (C : Store) : Bool := match vO x C with
  | some (c', _) => decide (c' = c)
  | none => false
/-- x + y, both of the class -/
def mBinO (c : Nat) (m : MF) (mo me : ME) : ME := fun F C => bnd (mo F C) fun x C1 => bnd (me F C1) fun y C2 => if (isC c x C2 && isC c y C2) = true then m [x, y] C2 else .stuck
def okT (c : Nat) : Option Cc → Bool
  | some (.ty _) => true
  | some (.own c') => decide (c' = c)
  | none => false
def negB (neg : Bool) (r : R D) : R D := bnd r fun z C3 => match z with
  | .bl t => .ok (.bl (if neg = true then !t else t)) C3
  | _ => .stuck
/-- x == y, x != y by __eq__ -/
def mEqO (neg : Bool) (c : Nat) (m : MF) (mo me : ME) : ME := fun F C => bnd (mo F C) fun x C1 => bnd (me F C1) fun y C2 => if (isC c x C2 && okT c (tyD y C2)) = true then negB neg (m [x, y] C2) else .stuck
/-! ### readings -/
section
variable {X : Cx} {k : Cn} {W : WX} {σ : L2.St} {H : Hp} {Q : VK} {lev : Nat} {C g a dx : Addr} {fs : List (Str × V)} {f : Str} {fd : FuncData} {ps : List Str} {np : Nat} {m : MF} {e o b : Expr} {pos : Pos} {ta tb : TE} {mo me : ME} {E : L2.St → XK} {sp : Sp} {r : L2.St → R2}
theorem isC_at {c : Nat} {A : Nat → Addr} {S : Store} {x : D} {v : V} (st : StOk k A S H) (r : Rep k A S H v x) (h : isC c x S = true) : ∃ a dx gs, v = .ref a ∧ H a = some (.ins (k.cl c) dx gs) := by
  unfold isC at h
  split at h
  · rename_i c' fs' ev
    obtain rfl := of_decide_eq_true h
    obtain ⟨a, dx', vs, rfl, ha, _, _⟩ := vO_at st r ev
    exact ⟨a, dx', _, rfl, ha⟩
  · cases h
/-- what the written part says of a class with an own __eq__ -/
structure EqOk (K : PySem.W.Frag) (C g : Addr) : Prop where
  eq : PySem.W.findIn K (.ref C) "__eq__" = some (some (.ref g))
  fn : PySem.W.isFn K (.ref g) = true
  ne : PySem.W.findIn K (.ref C) "__ne__" = some (some (.builtin "object.__ne__"))
  mr : PySem.W.mroIn K C (.type "object") = some true
  sub : ∀ bt : Bt, PySem.W.subIn K (.type bt.name) (.ref C) = some false
  ic : C8.InsC K C
theorem ty_at {kn : List Nat} {c : Nat} {A : Nat → Addr} {S : Store} {y : D} {v : V} (st : StOk k A S H) (r : Rep k A S H v y) (hg : EqOk k.K (k.cl c) g) (h : okT c (tyD y S) = true) : ∃ T, TyX k.K H v T ∧ PySem.W.notFirst k.K (k.cl c) T = true := by
  have bt : ∀ t : Bt, PySem.W.notFirst k.K (k.cl c) (.type t.name) = true := fun t => by
    unfold PySem.W.notFirst
    rw [hg.sub t]
    simp
  have ow : PySem.W.notFirst k.K (k.cl c) (.ref (k.cl c)) = true := by simp [PySem.W.notFirst]
  have I := hg.ic
  cases r with
  | non => exact ⟨_, .base .non, bt .none⟩
  | bl b => exact ⟨_, .base (.bl b), bt .bool⟩
  | int i => exact ⟨_, .base (.int i), bt .int⟩
  | str s => exact ⟨_, .base (.str s), bt .str⟩
  | lst l hh rv => exact ⟨_, .base (.lst hh), bt .list⟩
  | tup l hh rv => exact ⟨_, .base (.tup hh), bt .tuple⟩
  | ktup hh rv =>
    obtain ⟨o, its, n, h1, h2, _⟩ := hh
    exact ⟨_, .kTuple h1 h2, bt .tuple⟩
  | scr l hh rv => cases h
  | kscr hh rv => cases h
  | exn x l hh z rv => cases h
  | cls c => cases h
  | obj l hh z rv =>
    obtain rfl := of_decide_eq_true h
    exact ⟨_, .base (.ins hh I.cl I.ha I.hn I.htk I.hm), ow⟩
  | @dT a kvs ds l hh rv =>
    cases kvs with
    | nil =>
      rcases hh with hh | hh
      · exact ⟨_, .base (.dT hh), bt .dict⟩
      · exact absurd rfl hh.1
    | cons p t => cases h
  | @cell i hi =>
    cases ec : S[i]? with
    | none => simp only [tyD, ec, okT] at h; cases h
    | some oc =>
      cases oc with
      | none => simp only [tyD, ec, okT] at h; cases h
      | some cc =>
        cases cc with
        | lst xs =>
          obtain ⟨vs, hv, _⟩ := st.at_ i _ ec
          exact ⟨_, .base (.lst hv), bt .list⟩
        | dT ks xs =>
          obtain ⟨vs, hv, _⟩ := st.at_ i _ ec
          exact ⟨_, .base (.dT hv), bt .dict⟩
        | ins c' xs =>
          obtain ⟨dx, vs, hv, _⟩ := st.at_ i _ ec
          simp only [tyD, ec, okT] at h
          obtain rfl := of_decide_eq_true h
          exact ⟨_, .base (.ins hv I.cl I.ha I.hn I.htk I.hm), ow⟩
theorem le_binO {c : Nat} (ar : Ar np m) (h : LE k W (mBinO c m mo me) σ H Q) : tOpX (fun σ x y H Q => ∃ a dx fs b dy gs, x = .ref a ∧ y = .ref b ∧ H a = some (.ins (k.cl c) dx fs) ∧ H b = some (.ins (k.cl c) dy gs) ∧ SpD k np m [x, y] H Q (WE W σ)) (LE k W mo) (LE k W me) σ H Q := by
  obtain ⟨A, F, C, s, h⟩ := h
  refine ⟨A, F, C, s, (Aft.bnd (rel := RepD k) h).mono fun dx C1 A1 H1 v p1 st1 r1 h1 => ?_⟩
  have s1 := s.step p1 st1
  refine ⟨A1, F, C1, s1, (Aft.bnd (rel := RepD k) h1).mono fun dy C2 A2 H2 u p2 st2 r2 h2 => ?_⟩
  have s2 := s1.step p2 st2
  split at h2
  · rename_i hc
    obtain ⟨hc1, hc2⟩ := Bool.and_eq_true_iff.mp hc
    obtain ⟨a, dx', gs, rfl, ha⟩ := isC_at st2 (p2.rep _ _ r1) hc1
    obtain ⟨b, dy', gs', rfl, hb⟩ := isC_at st2 r2 hc2
    exact ⟨a, dx', gs, b, dy', gs', rfl, rfl, ha, hb, sp_of s2.fl ar st2 (.cons (p2.rep _ _ r1) (.cons r2 .nil)) h2⟩
  · exact h2.elim
theorem aft_neg {neg : Bool} {fl : Nat} {A : Nat → Addr} {S : Store} {R : R D} {E' : XK} (h : Aft k fl A S H (RepD k) (negB neg R) (fun _ _ _ H' v => Q v H') E') : Aft k fl A S H (RepD k) R (fun _ _ _ H' v => ∃ t, v = .bl t ∧ Q (.bl (if neg = true then !t else t)) H') E' := by
  refine (Aft.bnd (rel := RepD k) h).mono fun z C3 A3 H3 v p3 st3 r3 h3 => ?_
  cases r3 with
  | bl t => exact ⟨t, rfl, h3 A3 H3 _ Stp.refl st3 (.bl _)⟩
  | _ => exact h3.elim
theorem le_eqO {neg : Bool} {c : Nat} (ar : Ar np m) (hg : EqOk k.K (k.cl c) g) (h : LE k W (mEqO neg c m mo me) σ H Q) : tOpX (rO2 k.K (k.cl c) (SpD k np m) (WE W) fun Q z H' => ∃ t, z = .bl t ∧ Q (.bl (if neg = true then !t else t)) H') (LE k W mo) (LE k W me) σ H Q := by
  obtain ⟨A, F, C, s, h⟩ := h
  refine ⟨A, F, C, s, (Aft.bnd (rel := RepD k) h).mono fun dx C1 A1 H1 v p1 st1 r1 h1 => ?_⟩
  have s1 := s.step p1 st1
  refine ⟨A1, F, C1, s1, (Aft.bnd (rel := RepD k) h1).mono fun dy C2 A2 H2 u p2 st2 r2 h2 => ?_⟩
  have s2 := s1.step p2 st2
  split at h2
  · rename_i hc
    obtain ⟨hc1, hc2⟩ := Bool.and_eq_true_iff.mp hc
    obtain ⟨a, dx', gs, rfl, ha⟩ := isC_at st2 (p2.rep _ _ r1) hc1
    obtain ⟨T, hT, hn⟩ := ty_at (kn := []) st2 r2 hg hc2
    exact ⟨a, dx', gs, T, rfl, ha, hT, hn, sp_of s2.fl ar st2 (.cons (p2.rep _ _ r1) (.cons r2 .nil)) (aft_neg h2)⟩
  · exact h2.elim
/-! ### the rules -/
theorem de_binO {op : Operator} (c : Nat) (tk : Takes X W) (hK : X.K = k.K) (ha : PE X o (LE k W mo)) (hbb : PE X b (LE k W me)) (hc : PySem.W.selfFirst k.K (k.cl c) = true) (hs : PySem.W.findIn k.K (.ref (k.cl c)) (PySem.dunder op.info.2) = some (some (.ref g))) (hf : PySem.W.isFn k.K (.ref g) = true)
    (F : FnG X.prog X.w X.K X.mg X.base lev g fd ps (SpD k np m)) (ar : Ar np m) (hr : RoomG lev X.A) (hb : Binds X.K fd ps []) : PE X (.BinOp o op b pos) (LE k W (mBinO c m mo me)) :=
  (pe_opX (op_addO (by rw [hK]; exact hc) (by rw [hK]; exact hs) (by rw [hK]; exact hf) F hr hb fun σ => passAt tk σ) ha hbb).cq fun _ _ _ h => le_binO ar h
theorem op_eqO' (hg : EqOk X.K C g) (F : FnG X.prog X.w X.K X.mg X.base lev g fd ps sp) (hr : RoomG lev X.A) (hb : Binds X.K fd ps []) (hx : ∀ σ, PassesAt (L2.CX X.prog X.w) X σ (E σ)) : OpX X (compareOp .Eq) (rO2 X.K C sp E fun Q z H' => ∃ t, z = .bl t ∧ Q (.bl (if false = true then !t else t)) H') := by
  intro pins s σ H x y v u Q I rx ry h
  have z := op_cmpO (X := X) (op := .Eq) (fun _ _ => rfl) hg.eq hg.fn F hr hb hx pins s σ H x y v u (fun z H' => ∃ t, z = .bl t ∧ Q (.bl t) H') I rx ry h
  refine wpAny_mono z (fun z' s' hz => ?_) fun _ _ z => z
  obtain ⟨z2, H', I', rz, t, ez, qz⟩ := hz
  subst ez
  exact ⟨.bl t, H', I', rz, qz⟩
theorem de_eqO (c : Nat) (tk : Takes X W) (hK : X.K = k.K) (ha : PE X o (LE k W mo)) (hbb : PE X b (LE k W me)) (hg : EqOk k.K (k.cl c) g) (F : FnG X.prog X.w X.K X.mg X.base lev g fd ps (SpD k np m)) (ar : Ar np m) (hr : RoomG lev X.A) (hb : Binds X.K fd ps []) (hm : behindInMarks .Eq b = false := by rfl) :
    PE X (.Compare o [.Eq] [b] pos) (LE k W (mEqO false c m mo me)) :=
  (pe_cmpX (op_eqO' (by rw [hK]; exact hg) F hr hb fun σ => passAt tk σ) ha hbb hm).cq fun _ _ _ h => by rw [hK]; exact le_eqO (neg := false) ar hg h
theorem dt_neO (c : Nat) (tk : Takes X W) (hK : X.K = k.K) (ha : PE X o (LE k W mo)) (hbb : PE X b (LE k W me)) (hg : EqOk k.K (k.cl c) g) (F : FnG X.prog X.w X.K X.mg X.base lev g fd ps (SpD k np m)) (ar : Ar np m) (hr : RoomG (lev + 1) X.A) (hb : Binds X.K fd ps []) (hm : behindInMarks .NotEq b = false := by rfl) :
    PT X (.Compare o [.NotEq] [b] pos) (LT k W (mTst (mEqO true c m mo me))) :=
  (pt_cmpX (op_neO (by rw [hK]; exact hg.eq) (by rw [hK]; exact hg.fn) (by rw [hK]; exact hg.ne) (by rw [hK]; exact hg.mr) F hr hb fun σ => passAt tk σ) ha hbb hm).cq fun _ _ _ h => by rw [hK]; exact le_eqO (neg := true) ar hg (lt_val h)
end
end CT
set_option maxHeartbeats 4000000
/-! DLM: what the head says of own operators. -/
namespace CT
open PySem L2 PySem.Spec PyProof.Rows
section
variable {K : PySem.W.Frag}
/-- a def that the class has under a name -/
structure DnOk (K : PySem.W.Frag) (C : Addr) (f : Str) (g : Addr) : Prop where
  at_ : PySem.W.findIn K (.ref C) f = some (some (.ref g))
  fn : PySem.W.isFn K (.ref g) = true
  fi : PySem.W.fnIn K g = true
theorem dnB_ok {x f : Str} (h : dnB x f K = true) : DnOk K (He.ga K x) f (He.ma K (He.ga K x) f) := by
  obtain ⟨h1, h⟩ := He.ba h
  obtain ⟨h2, h3⟩ := He.ba h
  exact ⟨He.eqO_ok h1, h2, h3⟩
theorem eqB_ok {x : Str} (h : eqB x K = true) : EqOk K (He.ga K x) (He.ma K (He.ga K x) "__eq__") := by
  obtain ⟨h1, h⟩ := He.ba h
  obtain ⟨h2, h⟩ := He.ba h
  obtain ⟨h3, h⟩ := He.ba h
  obtain ⟨h4, h5⟩ := He.ba h
  have d := dnB_ok h1
  exact ⟨d.at_, d.fn, He.eqO_ok h2, of_decide_eq_true h3, fun b => of_decide_eq_true (List.all_eq_true.mp h4 b (mem_allBt b)), insB_ok h5⟩
theorem sfB_ok {x : Str} (h : sfB x K = true) : PySem.W.selfFirst K (He.ga K x) = true := h
end
end CT
set_option maxHeartbeats 4000000
/-! DLN: t[::-1], xs[::-1], t[lo:hi]. -/
namespace CT
open PySem L2 PySem.Spec PyProof.Rows HT
end CT
set_option maxHeartbeats 4000000
/-! DLO: errors of the program's own: made and raised. -/
namespace CT
open PySem L2 PySem.Spec PyProof.Rows
/-! ### what the head says of an error class -/
theorem oexB_ok {x : Str} {K : PySem.W.Frag} (h : oexB x K = true) : OexC K (He.ga K x) := by
  obtain ⟨h1, h⟩ := He.ba h
  obtain ⟨h2, h⟩ := He.ba h
  obtain ⟨h3, h⟩ := He.ba h
  obtain ⟨h4, h5⟩ := He.ba h
  refine ⟨?_, He.eqO_ok h2, of_decide_eq_true h3, of_decide_eq_true h4, h5⟩
  split at h1
  · rename_i t dd cd sl ho
    obtain ⟨g1, h1⟩ := He.ba h1
    obtain ⟨g2, h1⟩ := He.ba h1
    obtain ⟨g3, h1⟩ := He.ba h1
    split at h1
    · rename_i C' bm k0 k1 k2 k3 n k5 hm hs
      obtain ⟨a1, h1⟩ := He.ba h1
      obtain ⟨a2, a3⟩ := He.ba h1
      have e1 := of_decide_eq_true a1
      have e2 := of_decide_eq_true a2
      have e3 := of_decide_eq_true g1
      obtain ⟨nm, bs, mro, ns, qn, hd, sn, sub, ab, col, del⟩ := cd
      simp only at g2 g3 hm
      have hdel : del = false := by simpa using g3
      have hsl : sl = #[k0, k1, k2, k3, some (.builtin n), k5] := by
        obtain ⟨l⟩ := sl
        simp only at hs
        rw [hs]
      subst e2 e3 hdel hsl g2 hm
      rw [e1] at ho
      exact ⟨nm, qn, ns, bs, bm, sn, sub, ab, col, dd, k0, k1, k2, k3, k5, ho, a3⟩
    · cases h1
  · cases h1
/-- the class has an own __init__ -/
structure XIni (K : PySem.W.Frag) (C fI : Addr) : Prop where
  ox : OexC K C
  at_ : PySem.W.findIn K (.ref C) "__init__" = some (some (.ref fI))
  ty : PySem.W.typeIn K (.ref fI) = some (.type "function")
theorem xiB_ok {x : Str} {K : PySem.W.Frag} (h : xiB x K = true) : XIni K (He.ga K x) (He.ma K (He.ga K x) "__init__") := by
  obtain ⟨h1, h⟩ := He.ba h
  obtain ⟨h2, h3⟩ := He.ba h
  exact ⟨oexB_ok h1, He.eqO_ok h2, of_decide_eq_true h3⟩
/-! ### __init__: one field, two fields -/
def spX1 (C : Addr) (f : Str) : Sp := fun vs H Q _ => ∃ a v, vs = [.ref a, v] ∧ H a = some (exo a C none) ∧ ∀ dx, H dx = none → dx ≠ a → Q .non (upd (upd H dx (exd dx [(f, v)])) a (exo a C (some dx)))
section
variable {P : Program} {w : World} {K : PySem.W.Frag} {mg : Str → Option Value} {base : Heap} {x qual : Str} {params : Arguments} {body : List Stmt} {scope : Scope} {f : Addr} {fd : FuncData} {N : List Str} {C : Addr} {fl gl : Str}
theorem x1_ok {ps : List Str} (F : FunD K x qual params body scope [] [] f fd) (S : FnScope N ps scope) (hp : ps.length = 2) (hN : N.length = 2) (T : OexC K C) (hno : PySem.W.findIn K (.ref C) fl = some none)
    (hb : ∀ (cdv : Value) (A : Around) (outer : List Env) (s : Shared) (H : Hp) (E : XK), PSs (cxOf CX0 P w K mg base N qual scope f cdv A outer s H E) body (tOst K fl (tVar 0) (tVar 1))) : FnOk P w K mg base CX0 1 f fd ps (spX1 C fl) := by
  refine F.ok S (fun vs H Q E h => ?_) (fun cdv A outer s H vs Q E hr h => ⟨_, hb cdv A outer s H E, ?_⟩)
  · obtain ⟨a, v, rfl, _⟩ := h
    rw [hp]
    rfl
  · obtain ⟨a, v, rfl, ha, hq⟩ := h
    have e : L2.start N [.ref a, v] = [some (.ref a), some v] := by
      unfold L2.start
      rw [hN]
      rfl
    rw [e]
    exact ⟨v, rfl, .ref a, rfl, a, C, rfl, T, hno, .inl ⟨ha, fun dx h1 h2 => hq dx h1 h2⟩⟩
end
/-! ### raise C(e, ..) -/
section
variable {X : Cx} {k : Cn} {W : WX} {σ : L2.St} {H : Hp} {E : Ends} {ma : MA} {c : Nat}
theorem hp_end {H1 : Hp} {a dx : Addr} {o o' o'' o3 : HO} (ha : H1 a = none) (hn : dx ≠ a) : upd (del (upd (upd (upd H1 a o) dx o') a o'') a) dx o3 = upd H1 dx o3 := by
  funext b
  by_cases h1 : b = dx
  · subst h1
    rw [upd_same, upd_same]
  · rw [upd_ne h1, upd_ne h1]
    by_cases h2 : b = a
    · subst h2
      rw [del_same, ha]
    · rw [del_ne h2, upd_ne h2, upd_ne h1, upd_ne h2]
theorem ls_raise1 {f : Str} (hf : k.fn c = [f]) (h : LS k W (sRaise c 1 ma) E σ H) : tMkO (k.cl c) (spX1 (k.cl c) f) [] (LA k W ma) σ H (fun cls d H' => W cls d σ H') := by
  obtain ⟨A, F, C, s, h⟩ := h
  refine ⟨A, F, C, s, (AftS.bnd (rel := RepDs k) s h).mono fun ds C1 A1 H1 vs p st r h1 => ?_⟩
  split at h1
  · rename_i hl
    have r' : RepL k A1 C1 H1 vs ds := r
    match ds, vs, r', hl, h1 with
    | [d], [v], r', _, h1 =>
      have s1 := s.step p st
      refine ⟨by simp, fun a ha => ⟨a, v, rfl, upd_same, fun dx hd hn => ⟨rfl, dx, [(f, v)], upd_same, ?_, ?_, ?_⟩⟩⟩
      · rw [upd_ne hn]
        exact upd_same
      · rw [upd_ne hn] at hd
        exact hd
      · rw [upd_ne hn] at hd
        rw [hp_end ha hn]
        have q : Kp A1 C1 H1 A1 C1 (upd H1 dx (.xd [(f, v)])) := kp_new hd
        have st2 := st.new (o := .xd [(f, v)]) hd
        exact h1 A1 σ (upd H1 dx (.xd [(f, v)])) dx [v] q.stp0 (s1.step q.stp0 st2) (by rw [hf]; exact upd_same) (by rw [hf]; rfl) (r'.kp q)
  · exact h1.elim
variable {fI : Addr} {fd : FuncData} {ps : List Str} {x : Str} {e : Expr} {es : List Expr} {p pos pos' : Pos} {lev : Nat}
theorem ds_raise1 (c : Nat) {f : Str} (hc : X.calm = true) (tk : Takes X W) (hK : X.K = k.K) (T : XIni k.K (k.cl c) fI) (hf : k.fn c = [f]) (F1 : FnOk X.prog X.w X.K X.mg X.base CX0 lev fI fd ps (spX1 (k.cl c) f)) (hr : RoomG (lev + 1) X.A) (hb : Binds X.K fd ps [])
    (hg : Gl X x) (hm : X.mg x = some (.ref (k.cl c))) (ha : PA X (e :: es) (LA k W ma)) (hdb : (x == ("__debug__" : Str)) = false := by decide) (he : starEach (e :: es) X.env = (false, eval e X.env) :: starEach es X.env := by rfl) (hpl : (backTo pos (starEach es X.env)).any (·.1) = false := by rfl) :
    PS X (.Raise (some (.Call (.Name x p) (e :: es) [] pos)) none pos') (LS k W (sRaise c 1 ma)) :=
  (ps_raise hc tk (pmk_oex (C := k.cl c) (by rw [hK]; exact T.ox) (by rw [hK]; exact T.at_) (by rw [hK]; exact T.ty) F1 hr.room hb .nil (fun _ _ _ _ _ _ _ h => h.elim) hg hm ha hdb he hpl)).cq fun _ _ _ h => ls_raise1 hf h
end
end CT
set_option maxHeartbeats 4000000
/-! DLP: try: .. except C as n: .. return; the error is held as data. -/
namespace CT
open PySem L2 PySem.Spec PyProof.Rows
section
variable {k : Cn} {A A' : Nat → Addr} {C C' : Store} {H H' : Hp} {a dd : Addr} {c : Nat} {fl : Nat}
mutual
theorem Rep.down : ∀ {v : V} {d : D}, Rep (k.hold a c dd) A C H v d → CT.nx d = true → Rep k A C H v d
  | _, _, .non, _ => .non
  | _, _, .bl b, _ => .bl b
  | _, _, .int i, _ => .int i
  | _, _, .str s, _ => .str s
  | _, _, .lst l h r, z => .lst l h (r.down (by simpa [CT.nx] using z))
  | _, _, .tup l h r, z => .tup l h (r.down (by simpa [CT.nx] using z))
  | _, _, .ktup h r, z => .ktup h (r.down (by simpa [CT.nx] using z))
  | _, _, .scr l h r, z => .scr l h (r.down (by simpa [CT.nx] using z))
  | _, _, .kscr h r, z => .kscr h (r.down (by simpa [CT.nx] using z))
  | _, _, .obj l h e r, z => .obj l h e (r.down (by simpa [CT.nx] using z))
  | _, _, .dT l h r, z => .dT l h (r.down (by simpa [CT.nx] using z))
  | _, _, .cell hi, _ => .cell hi
  | _, _, .cls c, _ => .cls c
  | _, _, .exn x l h e r, z => by cases z
theorem RepL.down : ∀ {vs : List V} {ds : List D}, RepL (k.hold a c dd) A C H vs ds → CT.nxL ds = true → RepL k A C H vs ds
  | _, _, .nil, _ => .nil
  | _, _, .cons r t, z => by
    simp [CT.nxL] at z
    exact .cons (r.down z.1) (t.down z.2)
end
theorem StOk.down (hk : k.ex = none) (st0 : StOk k A C H) (st : StOk (k.hold a c dd) A' C H') : StOk k A' C H' := by
  refine ⟨fun i x e => ?_, st.inj⟩
  have q := st.at_ i x e
  have q0 := st0.at_ i x e
  cases x with
  | lst ds =>
    obtain ⟨vs, h1, r⟩ := q
    obtain ⟨_, _, r0⟩ := q0
    exact ⟨vs, h1, r.down (r0.nx hk)⟩
  | dT ks ds =>
    obtain ⟨vs, h1, h2, r⟩ := q
    obtain ⟨_, _, _, r0⟩ := q0
    exact ⟨vs, h1, h2, r.down (r0.nx hk)⟩
  | ins c' ds =>
    obtain ⟨dx, vs, h1, h2, r⟩ := q
    obtain ⟨_, _, _, _, r0⟩ := q0
    exact ⟨dx, vs, h1, h2, r.down (r0.nx hk)⟩
theorem Stp.down (hk : k.ex = none) (p : Stp (k.hold a c dd) fl A C H A' C' H') : Stp k fl A C H A' C' H' := ⟨fun v d r => (p.rep v d (r.up hk)).down (r.nx hk), p.len, p.low, p.frz⟩
theorem StOk.notXd {fs : List (Str × V)} (st : StOk k A C H) (h : H dd = some (.xd fs)) : ¬ Live A C dd := by
  rintro ⟨i, x, e, rfl⟩
  have q := st.at_ i x e
  cases x with
  | lst ds => obtain ⟨vs, h1, r⟩ := q; rw [h] at h1; cases h1
  | dT ks ds => obtain ⟨vs, h1, h2, r⟩ := q; rw [h] at h1; cases h1
  | ins c' ds => obtain ⟨dx, vs, h1, h2, r⟩ := q; rw [h] at h1; cases h1
end
open Classical in
/-- the clause's suite must return a value without the error, and change no cell -/
noncomputable def sTry (i : Nat) (cs ds : List Nat) (mb mh : MS) : MS := fun F C => match mb F C with
  | .xc e sl C' => if e.c ∈ cs then (match mh ⟨F.fl, sl.set i (some (.exn e.c e.fs))⟩ C' with
      | .rt d C2 => if C2 = C' ∧ nx d = true then .rt d C' else .stuck
      | _ => .stuck) else if e.c ∈ ds then .xc e sl C' else .stuck
  | r => r
section
variable {X : Cx} {k : Cn} {W : WX} {σ : L2.St} {H : Hp} {E : Ends} {mb mh : MS} {i : Nat} {cs ds : List Nat} {cv : Value} {x n : Str} {body suite : List Stmt} {b₀ : Stmt} {np pos pos' : Pos}
/-- what the clause wishes -/
def tsX (k : Cn) (cs : List Nat) (mh : MS) : Addr → Value → Option Addr → TS := fun a cls d D σ H => ∃ c dd, c ∈ cs ∧ cls = .ref (k.cl c) ∧ d = some dd ∧ LS (k.hold a c dd) (fun _ _ _ _ => False) mh D σ H
theorem ls_try (hk : k.ex = none) (hy : ∀ c ∈ cs, PySem.W.exmOne k.K (.ref (k.cl c)) cv = some true) (hn : ∀ c ∈ ds, PySem.W.exmOne k.K (.ref (k.cl c)) cv = some false) (h : LS k W (sTry i cs ds mb mh) E σ H) : LS k (wAs k.K cv i (tsX k cs mh) W E) mb E σ H := by
  obtain ⟨A, F, C, s, h⟩ := h
  refine ⟨A, F, C, s, ?_⟩
  unfold sTry at h
  cases em : mb F C with
  | nx sl C' => rw [em] at h; exact h
  | bk sl C' => rw [em] at h; exact h
  | ct sl C' => rw [em] at h; exact h
  | rt d C' => rw [em] at h; exact h
  | stuck => rw [em] at h; exact h
  | xc e sl C' =>
    rw [em] at h
    simp only at h
    intro A' σ' H' dd vs p sr hx hl r
    split at h
    · rename_i hc
      refine ⟨true, hy _ hc, fun _ a ha => ⟨e.c, dd, hc, rfl, rfl, A', ⟨F.fl, sl.set i (some (.exn e.c e.fs))⟩, C', ?_, ?_⟩, (fun z => by cases z)⟩
      · have su : SR (k.hold a e.c dd) A' ⟨F.fl, sl⟩ C' σ' H' := ⟨sr.st.up hk, sr.low, sr.fl, sr.len, fun j d e' => let ⟨v, h1, h2⟩ := sr.sl j d e'; ⟨v, h1, h2.up hk⟩⟩
        exact su.set (.exn rfl (sr.st.notXd hx) hx hl (r.up hk))
      · cases eh : mh ⟨F.fl, sl.set i (some (.exn e.c e.fs))⟩ C' with
        | rt d C2 =>
          rw [eh] at h
          simp only at h
          split at h
          · rename_i hq
            obtain ⟨rfl, hnx⟩ := hq
            intro A2 H2 v p2 st2 r2
            exact h A2 H2 v (p.trans (p2.down hk)) (StOk.down hk sr.st st2) (r2.down hnx)
          · exact h.elim
        | nx sl2 C2 => rw [eh] at h; exact h.elim
        | bk sl2 C2 => rw [eh] at h; exact h.elim
        | ct sl2 C2 => rw [eh] at h; exact h.elim
        | xc e2 sl2 C2 => rw [eh] at h; exact h.elim
        | stuck => rw [eh] at h; exact h.elim
    · split at h
      · rename_i hc
        exact ⟨false, hn _ hc, (fun z => by cases z), fun _ => h A' σ' H' dd vs p sr hx hl r⟩
      · exact h.elim
theorem ds_try (hs : X.stack = X.env :: X.outer) (hf : X.env.frame = some X.env.locals) (hN : X.N.Nodup) (hi : X.N[i]? = some n) (hln : X.env.kindOf n = some .local) (hc : Names X x cv) (tk : Takes X W) (hK : X.K = k.K) (hk : k.ex = none)
    (hy : ∀ c ∈ cs, PySem.W.exmOne k.K (.ref (k.cl c)) cv = some true) (hn : ∀ c ∈ ds, PySem.W.exmOne k.K (.ref (k.cl c)) cv = some false)
    (hb : ∀ (W : WX) (pn : List (Addr × Obj)) (xe : Value → Shared → Prop), Takes (X.tr pn xe) W → PassesOwn (model X.prog X.w) X.A X.env xe → PSs (X.tr pn xe) body (LS k W mb))
    (hsu : ∀ (a : Addr) (oe : Obj) (c : Nat) (dd : Addr) (pn : List (Addr × Obj)), c ∈ cs → Zc (.ref (k.cl c)) (some dd) oe → (∃ vs, oe.data = .fields vs) → PSs (X.suite a ((a, oe) :: pn)) (b₀ :: suite) (LS (k.hold a c dd) (fun _ _ _ _ => False) mh)) :
    PS X (.Try body [.ExceptHandler (some (.Name x np)) (some n) (b₀ :: suite) pos'] [] [] pos) (LS k W (sTry i cs ds mb mh)) :=
  (ps_try_as (tb := fun W => LS k W mb) (ts := tsX k cs mh) hs hf hN hi hln hc tk hb (fun a oe cls d pn hz hv => ⟨fun pins s σ H D I h => by
    obtain ⟨c, dd, hc', rfl, rfl, h⟩ := h
    exact (hsu a oe c dd pn hc' hz hv).run pins s σ H D I h⟩)).cq fun D σ H h => by
    rw [hK]
    exact ls_try hk hy hn h
/-! ### the held error's fields -/
def oXf (c n : Nat) : O1 := fun x C => match x with
  | .exn c' fs => if c' = c then (fs[n]?).map fun d => (d, C) else none
  | _ => none
theorem le_xf {c c' : Nat} {a dd : Addr} {f : Str} {nn : Nat} {me : ME} {Q : VK} (nd : (k.fn c).Nodup) (hf : (k.fn c)[nn]? = some f) (h : LE (k.hold a c' dd) W (mUn (oXf c nn) me) σ H Q) : tXf a (.ref (k.cl c')) (some dd) (k.cl c) f (LE (k.hold a c' dd) W me) σ H Q := by
  obtain ⟨A, F, C, s, h⟩ := h
  refine ⟨A, F, C, s, (Aft.bnd (rel := RepD (k.hold a c' dd)) h).mono fun dx C1 A1 H1 v p1 st1 r1 h1 => ?_⟩
  obtain ⟨d, C', e, q⟩ := aft_ofO h1
  cases r1 with
  | @exn a0 dd0 c0 vs ds0 x l hx hl rv =>
    simp only [oXf] at e
    split at e
    · rename_i hcc
      subst hcc
      cases x
      cases ed : ds0[nn]? with
      | none => rw [ed] at e; cases e
      | some d0 =>
        rw [ed] at e
        cases e
        obtain ⟨u, h2, h3⟩ := rv.get ed
        exact ⟨rfl, rfl, dd, _, u, rfl, hx, zip_look nd hf h2, q A1 H1 u Stp.refl st1 h3⟩
    · cases e
  | _ => cases e
theorem de_xf {a : Addr} {oe : Obj} {c' : Nat} {dd : Addr} {pn : List (Addr × Obj)} (c nn : Nat) {f : Str} {e : Expr} {me : ME} (hK : X.K = k.K) (T : XfC k.K (k.cl c)) (hno : PySem.W.findIn k.K (.ref (k.cl c)) f = some none) (nd : (k.fn c).Nodup) (hfn : (k.fn c)[nn]? = some f)
    (hz : Zc (.ref (k.cl c')) (some dd) oe) (hv : ∃ vs, oe.data = .fields vs) (he : PE (X.suite a ((a, oe) :: pn)) e (LE (k.hold a c' dd) W me)) (hb : attributeBase e f X.env (eval e X.env) = eval e X.env := by rfl) :
    PE (X.suite a ((a, oe) :: pn)) (.Attribute e f pos) (LE (k.hold a c' dd) W (mUn (oXf c nn) me)) :=
  (pe_xf (C := k.cl c) (by rw [hK]; exact T) (by rw [hK]; exact hno) hz hv he hb).cq fun _ _ _ h => le_xf nd hfn h
end
end CT
set_option maxHeartbeats 4000000
/-! DLQ: isinstance of the held error. -/
namespace CT
open PySem L2 PySem.Spec PyProof.Rows PySem.W
theorem _root_.L2.ExcC.xf {K : Frag} {D : Addr} (T : ExcC K D) : XfC K D := ⟨T.hg, T.hk, T.hs, T.hd⟩
section
variable {X : Cx} {k : Cn} {W : WX} {σ : L2.St} {H : Hp} {Q : VK}
structure XsOk (k : Cn) (kn : List Nat) : Prop where
  exc : ∀ c ∈ kn, ExcC k.K (k.cl c)
  own : ∀ c ∈ kn, ∀ c' ∈ kn, kitOne k.K (.ref (k.cl c)) (.ref (k.cl c')) = some (decide (c = c'))
theorem excA_ok {C : Addr} {K : Frag} (h : excA C K = true) : ExcC K C := by
  obtain ⟨h1, h⟩ := He.ba h
  obtain ⟨h2, h⟩ := He.ba h
  obtain ⟨h3, h⟩ := He.ba h
  obtain ⟨h4, h⟩ := He.ba h
  obtain ⟨h5, h⟩ := He.ba h
  obtain ⟨h6, h⟩ := He.ba h
  obtain ⟨h7, h8⟩ := He.ba h
  exact ⟨He.eqO_ok h1, He.eqO_ok h2, of_decide_eq_true h3, h4, He.eqO_ok h5, He.eqO_ok h6, of_decide_eq_true h7, of_decide_eq_true h8⟩
theorem xsB_ok {cl : Frag → Nat → Addr} {kn : List Nat} {k : Cn} {K : Frag} (hK : k.K = K) (hc : k.cl = cl K) (h : xsB cl kn K = true) : XsOk k kn := by
  obtain ⟨h1, h⟩ := He.ba h
  refine ⟨fun c hm => ?_, fun c hm c' hm' => ?_⟩
  · rw [hK, hc]
    exact excA_ok (List.all_eq_true.mp h1 c hm)
  · rw [hK, hc]
    exact of_decide_eq_true (List.all_eq_true.mp (List.all_eq_true.mp h c hm) c' hm')
structure ExmOk (k : Cn) (cv : Value) (cs ds : List Nat) : Prop where
  yes : ∀ c ∈ cs, exmOne k.K (.ref (k.cl c)) cv = some true
  no : ∀ c ∈ ds, exmOne k.K (.ref (k.cl c)) cv = some false
theorem exmB_ok {cl : Frag → Nat → Addr} {x : Str} {cs ds : List Nat} {k : Cn} {K : Frag} (hK : k.K = K) (hc : k.cl = cl K) (h : exmB cl x cs ds K = true) : ExmOk k (.ref (He.ga K x)) cs ds := by
  obtain ⟨h1, h2⟩ := He.ba h
  refine ⟨fun c hm => ?_, fun c hm => ?_⟩
  · rw [hK, hc]
    exact of_decide_eq_true (List.all_eq_true.mp h1 c hm)
  · rw [hK, hc]
    exact of_decide_eq_true (List.all_eq_true.mp h2 c hm)
end
end CT
set_option maxHeartbeats 4000000
/-! DLR: web * k. -/
namespace CT
open PySem L2 PySem.Spec PyProof.Rows PySem.W
/-! ### over data -/
def mulB (x : Str) (K : Frag) : Bool := selfFirst K (He.ga K x) && (He.eqO (findIn K (.ref (He.ga K x)) (PySem.dunder "mul")) (some (some (.ref (He.ma K (He.ga K x) "__mul__")))) && (He.eqO (findIn K (.ref (He.ga K x)) (PySem.dunderR "mul")) (some (some (.ref (He.ma K (He.ga K x) "__rmul__")))) &&
  (isFn K (.ref (He.ma K (He.ga K x) "__mul__")) && (isFn K (.ref (He.ma K (He.ga K x) "__rmul__")) && (decide (subIn K (.type "int") (.ref (He.ga K x)) = some false) && decide (subIn K (.ref (He.ga K x)) (.type "int") = some false))))))
end CT
set_option maxHeartbeats 4000000
/-! DLS: is None; sorted(set(xs)) of ints, len(set(xs)) of tuples of ints. -/
namespace CT
open PySem L2 PySem.Spec PyProof.Rows
/-! ### is None, is not None -/
def oIsN (neg : Bool) : O2 := fun x y C => match y with
  | .non => (match x with
    | .non => some (.bl (!neg), C)
    | _ => some (.bl neg, C))
  | _ => none
section
variable {k : Cn}
theorem d_isN : OpD k (fun x y H Q => y = .non ∧ Q (.bl (decide (x = .non))) H) (oIsN false) := by
  intro fl A C H x y dx dy d C' Q hf hl st rx ry e q
  cases ry with
  | non =>
    refine ⟨rfl, ?_⟩
    cases rx with
    | non => cases e; exact q A H _ .refl st (.bl _)
    | _ => cases e; exact q A H _ .refl st (.bl _)
  | _ => cases e
end
/-! ### set(xs), xs a list of ints -/
abbrev emS (w : World) : Obj := { cls := .type "set", dict := none, data := .set #[] 0 (.fresh 0 0 (!w.params.followText "set-order")) }
section
variable {P : Program} {w : World} {A : Around} {E : Value → Shared → Prop} {s : Shared}
/-- what set(xs) leaves -/
def SetMade (w : World) (ns : List Int) (s s2 : Shared) : Prop := ∃ h' tk c, s2 = { s with heap := h', toks := tk } ∧ SetR w h' s.heap.objs.size (fun j => decide (j ∈ ns)) c ∧ c ≤ ns.length ∧ ∀ b o, s.heap.get? b = some o → h'.get? b = some o
theorem set_fill {l : Addr} {its : Array Value} {ns : List Int} (hh : A.handled = none) (hl : s.heap.IsList l its) (hi : IntsAre its.toList ns) (hb : ns.length + 1 < scanBound) {R : Result → Shared → Prop}
    (hR : ∀ s2, SetMade w ns s s2 → R (.ok (.ret .none)) s2) :
    codeAny (model P w) A (.builtin "set.update.loop" ⟨[.ref s.heap.objs.size, .ref (s.heap.push (emS w)).objs.size], []⟩) R
      { s with heap := (s.heap.push (emS w)).push { cls := .type "list_iterator", data := .fields #[.ref l, .int 0 0] } } := by
  have hz : its.size = ns.length := (Array.length_toList (xs := its)).symm.trans (IntsAre.length hi)
  have ll : l < s.heap.objs.size := let ⟨_, ho, _⟩ := hl; Heap.lt_size ho
  have z1 : (s.heap.push (emS w)).objs.size = s.heap.objs.size + 1 := Heap.size_push ..
  have hl1 := hl.push (emS w)
  refine set_update_ints ((Walks.list (A := A.in1) (by simp [hh]) (s.heap.push (emS w)).objs.size l (by rw [z1]; exact Nat.ne_of_lt (Nat.lt_succ_of_lt ll)) its).toS) s.heap.objs.size (by simp only [List.mem_cons, List.not_mem_nil, or_false, not_or, z1]; exact ⟨Nat.ne_of_lt (Nat.lt_succ_self _), Nat.ne_of_gt ll⟩) ns hz hb (fun i v hv => ?_) its.size 0 _ (by omega) (Nat.zero_le _)
    ⟨⟨_, Heap.get?_push_size _ rfl, rfl, rfl⟩, hl1.push _⟩ ⟨0, Nat.le_refl 0, setR_new_at (Heap.get?_push_of_some _ (Heap.get?_push_size _ rfl))⟩ fun s2 c hm hc hS => hR s2 ?_
  · have li : i < ns.length := hz ▸ (Array.getElem?_eq_some_iff.mp hv).1
    obtain ⟨t, e⟩ := IntsAre.int_at hi i v ((Array.getElem?_toList ..).trans hv)
    refine ⟨ns[i], t, List.getElem?_eq_getElem li, e.trans ?_⟩
    rw [List.getD_eq_getElem?_getD, List.getElem?_eq_getElem li]
    rfl
  · obtain ⟨h', g2, d', tk', os'⟩ := s2
    obtain rfl : g2 = s.gens := hm.gens
    obtain rfl : d' = s.drawn := hm.drawn
    obtain rfl : os' = s.os := hm.os
    refine ⟨h', tk', c, rfl, hS, hz ▸ hc, fun b o e => hm.heap b o ?_ (Heap.get?_push_of_some _ (Heap.get?_push_of_some _ e))⟩
    have q := Heap.lt_size e
    simp only [List.mem_cons, List.not_mem_nil, or_false, not_or, z1]
    exact ⟨Nat.ne_of_lt q, Nat.ne_of_lt (Nat.lt_succ_of_lt q)⟩
set_option maxHeartbeats 8000000 in
theorem set_ints {l : Addr} {its : Array Value} {ns : List Int} {Q : Value → Shared → Prop} (hh : A.handled = none) (hl : s.heap.IsList l its) (hi : IntsAre its.toList ns) (hb : ns.length + 1 < scanBound)
    (h : ∀ s2, SetMade w ns s s2 → Q (.ref s.heap.objs.size) s2) : wpAny (model P w) A (call (.type "set") [.ref l]) Q E s := by
  obtain ⟨c, tl, hmro⟩ := F.called_set.mro
  have q1 := F.called_set.made; have q2 := F.called_set.sub; have q3 := F.called_set.notType; have q4 := F.called_set.canCreate
  have q5 := F.typeCall_set_1 (.ref l)
  refine wpAny_call (codeAny_of_tree (show wpAny _ _ (callAny (.type "set") _) _ _ _ from wpAny_pure ⟨Code.quiet_builtin _ (by decide +kernel), codeAny_builtin F.entry_type_call ?_⟩))
  rw [Around.under_plain (weight_type_call_type "set" [.ref l] []) rfl]
  repeat (any_goals (first | assumption | wp_step))
  refine codeAny_mono (code_set_led1 (E := E) (.ref l) (Q₁ := fun o s1 => o = .ref s.heap.objs.size ∧ s1 = { s with heap := s.heap.push (emS w) }) ⟨rfl, rfl⟩) fun r s1 hr => ?_
  rcases r with e | (_ | _ | _ | v)
  all_goals first | exact hr | exact hr.elim | skip
  · obtain ⟨e1, e2⟩ := hr
    subst e1; subst e2
    have hT : Shared.TypeIs { s with heap := s.heap.push (emS w) } (.ref s.heap.objs.size) "set" := ⟨_, Heap.get?_push_size _ rfl, rfl⟩
    have r1 := F.called_set.init.lookup; have r2 := F.called_set.init.bind (.ref s.heap.objs.size)
    repeat (any_goals (first | assumption | wp_step))
    refine codeAny_mono (codeAny_call_builtin (R := wants (fun r s2 => r = .none ∧ SetMade w ns s s2) E) F.called_set.init.plain F.entry_set_init (check_set_init_1 hT ?_)) fun r2 s2 hr2 => ?_
    · have hl1 := hl.push (emS w)
      obtain ⟨⟨oc, od, oa, os⟩, ho, ec, n, ed⟩ := hl1
      simp only at ec ed
      subst ec; subst ed
      have u1 := F.sub_list_set; have u2 := F.sub_list_frozenset
      have u3 : (Value.type "list" == Value.type "dict") = false := by decide
      unfold Builtin.«set.__init__» noKeywords Builtin.Frozenset.updateFrom
      generalize hPI : pyIter = PI
      wp_walk
      subst hPI
      refine wpAny_pyIter_list (hl.push (emS w)) (wpAny_bind (wpAny_runValue (set_fill (by simp [hh]) hl hi hb fun s2 m => ?_)))
      show wpAny _ _ _ _ _ _
      refine wpAny_pure ?_
      show wpAny _ _ (ret Value.none) _ _ _
      exact wpAny_pure ⟨rfl, m⟩
    · rcases r2 with e | (_ | _ | _ | v)
      all_goals first | exact hr2 | exact hr2.elim | skip
      · obtain ⟨e1, m⟩ := hr2
        subst e1
        obtain ⟨h', tk, c', e3, hS, hc, hk⟩ := m
        subst e3
        repeat (any_goals (first | assumption | wp_step))
        exact h _ ⟨h', tk, c', rfl, hS, hc, hk⟩
end
end CT
set_option maxHeartbeats 4000000
/-! E1: how the terms of the layer are worked out. -/
namespace CT
open PySem L2
/-! ### named steps; simp looks at what is done first alone -/
theorem ev_def {np ns : Nat} {body : MS} {ds : List D} {C : Store} (h : ds.length = np) : mDef np ns body ds C = finS C.length (body ⟨C.length, ds.map some ++ List.replicate (ns - np) none⟩ C) := by
  unfold mDef
  rw [if_pos h]
  rfl
section
variable (fl : Nat) (sl : List (Option D)) (C : Store) (F : Fr)
theorem ev_mul {a b : Int} (h : cMul a b = true) : oMul (.int a) (.int b) C = some (.int (a * b), C) := by
  show (if cMul a b = true then some (D.int (a * b), C) else none) = _
  rw [if_pos h]
theorem ev_mod {a b : Int} (h : 0 < b) : oMod (.int a) (.int b) C = some (.int (a % b), C) := by
  show (if decide (0 < b) = true then some (D.int (a % b), C) else none) = _
  rw [if_pos (decide_eq_true h)]
theorem ev_div {a b : Int} (h : 0 < b) (h2 : b < 4611686018427387904) : oDiv (.int a) (.int b) C = some (.int (a / b), C) := by
  show (if cDiv a b = true then some (D.int (a / b), C) else none) = _
  rw [if_pos (by simp [cDiv, h, h2])]
end
/-! ### what is done next, as constants -/
section
variable {α β : Type}
/-! #### methods, properties, dicts -/
theorem getK_ok (b c : ME) (F : Fr) {x : D} {C : Store} (h : (vD x C).isSome = true) : getK b c F (.ok x C) = getK2 c F x (b F C) := by
  show (if (vD x C).isSome = true then getK2 c F x (b F C) else .stuck) = _
  rw [if_pos h]
/-! #### lists written -/
end
end CT
set_option maxHeartbeats 4000000
/-! DLT: sorted(set(xs)) of ints, len(set(xs)) of tuples of ints. -/
namespace CT
open PySem L2 PySem.Spec PyProof.Rows
theorem mDef_e {np ns : Nat} {b : MS} {ds : List D} {C : Store} {sl : List (Option D)} (h : ds.length = np) (hs : ds.map some ++ List.replicate (ns - np) none = sl) : mDef np ns b ds C = finS C.length (b ⟨C.length, sl⟩ C) := by
  rw [← hs]
  exact ev_def h
/-! ### unlike members, ascending -/
theorem insI_up {x : Int} : ∀ {l : List Int}, l.Pairwise (· < ·) → (insI x l).Pairwise (· < ·)
  | [], _ => by simp [insI]
  | y :: r, h => by
    have ⟨h1, h2⟩ := List.pairwise_cons.mp h
    unfold insI
    split
    · rename_i q
      refine List.pairwise_cons.mpr ⟨fun z hz => ?_, h⟩
      rcases List.mem_cons.mp hz with rfl | hz
      · exact q
      · exact Int.lt_trans q (h1 z hz)
    · split
      · exact h
      · refine List.pairwise_cons.mpr ⟨fun z hz => ?_, insI_up h2⟩
        rcases insI_mem.mp hz with rfl | hz
        · omega
        · exact h1 z hz
theorem srtI_up : ∀ {l : List Int}, (srtI l).Pairwise (· < ·)
  | [] => List.Pairwise.nil
  | y :: r => insI_up (srtI_up (l := r))
theorem up_one : ∀ {a b : List Int}, a.Pairwise (· < ·) → b.Pairwise (· < ·) → (∀ z, z ∈ a ↔ z ∈ b) → a = b
  | [], [], _, _, _ => rfl
  | [], y :: r, _, _, h => absurd ((h y).mpr (List.mem_cons_self ..)) (by simp)
  | x :: q, [], _, _, h => absurd ((h x).mp (List.mem_cons_self ..)) (by simp)
  | x :: q, y :: r, ha, hb, h => by
    have ⟨a1, a2⟩ := List.pairwise_cons.mp ha
    have ⟨b1, b2⟩ := List.pairwise_cons.mp hb
    have e : x = y := by
      rcases List.mem_cons.mp ((h x).mp (List.mem_cons_self ..)) with e | e
      · exact e
      · rcases List.mem_cons.mp ((h y).mpr (List.mem_cons_self ..)) with e' | e'
        · exact e'.symm
        · have := a1 y e'
          have := b1 x e
          omega
    subst e
    rw [up_one a2 b2 fun z => ?_]
    constructor
    · intro hz
      rcases List.mem_cons.mp ((h z).mp (List.mem_cons_of_mem _ hz)) with e | e
      · have := a1 z hz; omega
      · exact e
    · intro hz
      rcases List.mem_cons.mp ((h z).mpr (List.mem_cons_of_mem _ hz)) with e | e
      · have := b1 z hz; omega
      · exact e
/-! ### unlike rows -/
/-! ### the calls -/
def rSetI (K : PySem.W.Frag) (w : World) : List V → Hp → VK → Prop := fun xs H Q => ∃ (l : Addr) (ns : List Int), xs = [V.ref l] ∧ SqL K H l (ns.map V.int) ∧ ns.length < 64 ∧
  ∀ a c, H a = none → c ≤ ns.length → Q (.ref a) (upd H a (SetO w a (fun j => decide (j ∈ ns)) c))
section
variable {X : Cx}
theorem ints_are : ∀ {ns : List Int} {its : List Value}, Vals (ns.map V.int) its → IntsAre its ns
  | [], _, .nil => .nil
  | n :: ns, _, .cons r t => by
    obtain ⟨tk, rfl⟩ := r
    exact .cons n tk (ints_are t)
theorem cr_setI (hc : X.calm = true) : CallR X (.type "set") (rSetI X.K X.w) := by
  intro pins s σ H xs us Q I r h
  obtain ⟨l, ns, rfl, hl, hf, q⟩ := h
  rw [Vals.ref1 r]
  obtain ⟨its, rv, pl, hz⟩ := I.list hl
  refine set_ints (I.ok.hd hc) pl.isList (by simpa using ints_are rv) (by unfold scanBound; omega) fun s2 m => ?_
  obtain ⟨h', tk, c, rfl, hS, hn, hk⟩ := m
  exact ⟨.ref s.heap.objs.size, upd H s.heap.objs.size _, I.laid (t' := tk) hk (Nat.le_refl _) (setO_new hS), rfl, q _ c (I.hok.fresh (Nat.le_refl _)) hn⟩
end
/-! ### over data -/
def oSortS (own : Bool) : OA := fun xs C => match xs with
  | [d] => (vL d C).bind fun ys => (dInts ys).bind fun ns => if ns.length < 64 then some (mkL own ((srtI ns).map D.int) C) else none
  | _ => none
section
variable {X : Cx} {k : Cn} {W : WX} {A : Nat → Addr} {C : Store} {H : Hp}
theorem d_sortS {own : Bool} {w : World} : ApD k (fun xs H Q => rSetI k.K w xs H fun v H1 => rSortedSet w [v] H1 Q) (oSortS own) := by
  intro fl A C H x dx d C' Q hf hl st rx e q
  cases rx with
  | nil => cases e
  | cons r t =>
    cases t with
    | cons _ _ => cases e
    | nil =>
      simp only [oSortS, Option.bind_eq_some_iff] at e
      obtain ⟨ds, ev, ns, en, e⟩ := e
      split at e
      · rename_i hn
        obtain ⟨a, vs, rfl, ha, rv⟩ := vL_at st r ev
        rw [dInts_eq en] at rv
        have := RepL.ints_inv rv
        subst this
        refine ⟨a, ns, rfl, .inl (.inl ha), hn, fun b c hb hc => ⟨b, _, c, rfl, upd_same, by omega, fun out p u1 u2 u3 hp => ?_⟩⟩
        have eo : out = srtI ns := up_one u1 srtI_up fun z => by rw [u2, srtI_mem]; simp
        subst eo
        have st1 : StOk k A C (upd H b (SetO w b (fun j => decide (j ∈ ns)) c)) := st.new hb
        obtain ⟨A2, w1, w2, w3⟩ := fresh_L (own := own) hf st1 (RepL.ints (ns := srtI ns)) hp
        have e1 := Option.some.inj e
        rw [e1] at w1 w2 w3
        exact q A2 _ _ ((kp_new hb).stp0.trans w1) w2 w3
      · cases e
variable {e : Expr} {p p' pos pos' : Pos} {ma : MA}
theorem de_sortS (own : Bool) (hK : X.K = k.K) (hc : X.calm = true) (hg : Gl X "sorted") (hm : X.mg "sorted" = none) (hg' : Gl X "set") (hm' : X.mg "set" = none) (ha : PA X [e] (LA k W ma)) (hs : starEach [e] X.env = (false, eval e X.env) :: starEach [] X.env := by rfl)
    (hs' : starEach [.Call (.Name "set" p') [e] [] pos'] X.env = (false, eval (.Call (.Name "set" p') [e] [] pos') X.env) :: starEach [] X.env := by rfl) (hpl : (backTo pos' (starEach [] X.env)).any (·.1) = false := by rfl) (hpl' : (backTo pos (starEach [] X.env)).any (·.1) = false := by rfl) :
    PE X (.Call (.Name "sorted" p) [.Call (.Name "set" p') [e] [] pos'] [] pos) (LE k W (mAp (oSortS own) ma)) :=
  (pe_callB (cr_sortedSet hc) hg hm (by decide +kernel) (pa_cons (pe_callTy (cr_setI hc) hg' hm' (by decide +kernel) ha (by decide) (by decide) hs hpl) pa_nil hs') (by decide) (by decide) hs' hpl').cq fun _ _ _ h => le_ap (r := fun xs H Q => rSetI X.K X.w xs H fun v H1 => rSortedSet X.w [v] H1 Q) (by rw [hK]; exact d_sortS) h
end
end CT
set_option maxHeartbeats 4000000
/-! DLU: repr of an empty dict. -/
namespace CT
open PySem L2 PySem.Spec PyProof.Rows
end CT
set_option maxHeartbeats 4000000
/-! DLV: l.count(x) over data. -/
namespace CT
open PySem L2 PySem.Spec PyProof.Rows
end CT
set_option maxHeartbeats 4000000
/-! DLW: a class whose __init__ takes *numbers and a keyword. -/
namespace CT
open PySem L2 PySem.Spec PyProof.Rows
section
variable {P : Program} {w : World} {K : PySem.W.Frag} {mg : Str → Option Value} {base : Heap} {A : Around} {outer : List Env} {s : Shared} {H : Hp}
theorem push_keep (s : Shared) (its : List Value) : ∀ b u, s.heap.get? b = some u → (pushT s its).heap.get? b = some u := fun _ _ q => Heap.get?_push_of_some _ q
theorem tup_okW {its : List Value} {ws : List V} (hl : its.length ≤ sizeLine) (r : Vals ws its) : ObjOk P w (upd H s.heap.objs.size (.tup ws)) (pushT s its).heap s.heap.objs.size (.tup ws) :=
  ⟨by rw [r.length]; exact hl, its, r, IsTup.new _ _⟩
theorem env_pushT {its : List Value} {ws : List V} (hl : its.length ≤ sizeLine) (r : Vals ws its) (e : Env0 P w K mg base A outer s H) : Env0 P w K mg base A outer (pushT s its) (upd H s.heap.objs.size (.tup ws)) := by
  refine ⟨e.frames, e.mod, fun b o h => ?_, ?_, ?_, fun b hb => ?_, e.hok.laid (push_keep s its) (Nat.le_refl _) (tup_okW hl r), e.bare⟩
  · obtain ⟨h1, h2⟩ := e.bs b o h
    refine ⟨push_keep s its b o h1, ?_⟩
    rw [upd_ne (Nat.ne_of_lt (Heap.lt_size h1))]
    exact h2
  · show base.objs.size ≤ (s.heap.push (tupO its)).objs.size
    rw [Heap.size_push]
    exact Nat.le_succ_of_le e.bsz
  · exact Heap.FunFrames.of_keeps (fun b o h _ => ⟨o, push_keep s its b o h, rfl⟩) e.funs
  · obtain ⟨_, o, ho, _⟩ := Heap.FunFrames.mem e.funs hb
    rw [upd_ne (Nat.ne_of_lt (Heap.lt_size ho))]
    exact e.frf b hb
theorem un_pushT {its : List Value} {ws : List V} (hok : HOk P w H s.heap) : Un (frs outer) [] H (upd H s.heap.objs.size (.tup ws)) s.heap (pushT s its).heap := Un.laid (push_keep s its) (Nat.le_refl _) (hok.fresh (Nat.le_refl _))
theorem ub_pre {fs : List Addr} {H H1 H' : Hp} {h h1 B h' : Heap} (hf : ∀ b ∈ fs, H b = none) (a : Un fs [] H H1 h h1) (b : UB fs H1 H' h1 B h') : UB fs H H' h B h' where
  keep := fun c o q n hc => b.keep c o (a.keep c o q n hc (by simp)) (a.free c o q n (by simp)) hc
  slot := fun c o q hc => by
    obtain ⟨sl, e1⟩ := a.slot c o q (hf c hc) hc (by simp)
    obtain ⟨sl', e2⟩ := b.slot c _ e1 hc
    exact ⟨sl', e2⟩
  free := fun c o q n => by
    obtain ⟨o', e1⟩ := a.there c o q (by simp)
    exact b.free c o' e1 (a.free c o q n (by simp))
  there := fun c o q hc => by
    obtain ⟨o', e1⟩ := a.there c o q (by simp)
    exact b.there c o' e1 hc
  tups := fun c xs q => b.tups c xs (a.tups c xs q)
  frzs := fun c o xs q => b.frzs c o xs (a.frzs c o xs q)
  tbls := fun c ps q => by
    obtain ⟨m1, e1⟩ := a.tbls c ps q
    obtain ⟨m2, e2⟩ := b.tbls c _ e1
    exact ⟨m1 ++ m2, by rw [e2, Array.append_assoc]⟩
theorem cr_pushT {its : List Value} {ws : List V} {Q : VK} {E : XK} {r : Result} {s' : Shared} (e : Env0 P w K mg base A outer s H) (h : CR (L2.CX P w) outer P w (upd H s.heap.objs.size (.tup ws)) (pushT s its) Q E r s') : CR (L2.CX P w) outer P w H s Q E r s' := by
  cases r with
  | error u =>
    obtain ⟨a, B, H', cls, d, h1, h2, h3, h4, h5, h6, h7, h8⟩ := h
    exact ⟨a, B, H', cls, d, h1, h2, h3, ub_pre e.frf (un_pushT e.hok) h4, h5, h6, h7, h8⟩
  | ok fl =>
    cases fl with
    | ret u =>
      obtain ⟨v, H', h1, h2, h3, h4, h5, h6⟩ := h
      exact ⟨v, H', h1, h2, (un_pushT e.hok).trans h3, h4, h5, h6⟩
    | next => exact h
    | brk => exact h
    | cont => exact h
end
theorem fn_ofW {P : Program} {w : World} {K : PySem.W.Frag} {mg : Str → Option Value} {base : Heap} {lev : Nat} {f : Addr} {name qual : Str} {params : Arguments} {body : List Stmt} {scope : Scope} {dV kV doc pm cdv ct oc : Value} {an od : Option Addr}
    {osl : Array (Option Value)} {N ps : List Str} {sp : Sp} (lk : K.lookup f = some ⟨oc, od, .func (PySem.W.fnOf name qual params body scope dV kV doc pm an cdv ct), osl⟩) (hcd : PySem.W.codeIn K cdv qual = true) (S : FnScope N ps scope)
    (len : ∀ vs H Q E, sp vs H Q E → vs.length = ps.length)
    (hbody : ∀ (A : Around) (outer : List Env) (s : Shared) (H : Hp) (vs : List V) (Q : VK) (E : XK), RoomG lev (A.deeper (envOfC qual scope s.heap.objs.size f cdv)) → sp vs H Q E →
      ∃ t, PSs (cxOf (L2.CX P w) P w K mg base N qual scope f cdv A outer s H E) body t ∧ t { nx := fun _ H' => Q .non H', rt := Q } (L2.start N vs) H) :
    FnW P w K mg base (lev + 1) f (PySem.W.fnOf name qual params body scope dV kV doc pm an cdv ct) ps sp := by
  refine ⟨len, fun A outer s0 H0 args us its vs ws Q E hr e00 hits hws hb r hsp => ?_⟩
  have e0 := env_pushT hits hws e00
  have hl := len _ _ _ _ hsp
  have KX0 : K.In s0.heap := e00.mod.kin.keeps fun b o e => (e00.bs b o e).1
  refine codeAny_mono (R := CR (L2.CX P w) outer P w (upd H0 s0.heap.objs.size (.tup ws)) (pushT s0 its) Q E) ?_ fun r s' h => cr_pushT e00 h
  refine codeAny_call_function hr.room.depth (KX0 _ _ lk) rfl S.co S.gen rfl (PySem.W.codeRec_of KX0 hcd) (hb _ _ _ _ ?_)
  generalize upd H0 s0.heap.objs.size (.tup ws) = H at e0 hsp ⊢
  generalize pushT s0 its = s at e0 ⊢
  have KX : K.In s.heap := e0.mod.kin.keeps fun b o e => (e0.bs b o e).1
  have lim : s.heap.NoLimit := e0.mod.nolimit.keeps fun b o e => (e0.bs b o e).1
  have hkind : ∀ y ∈ ps.zip us, scope.names.lookup y.1 = some .local ∨ (scope.names.lookup y.1 = some .cell ∧ ((cellsFrom (s.heap.objs.size + 1) scope.names []).lookup y.1).isSome = true) := fun ⟨n, v⟩ hy => by
    rcases S.par n (List.of_mem_zip hy).1 with q | q
    · exact .inl q
    · exact .inr ⟨q, PySem.W.cellsFrom_some _ _ _ (.inl q)⟩
  refine wpAny_newFunctionEnv_cells S.kind hkind fun env he s1 x => ?_
  subst he
  refine ⟨lim.keeps x.toInCall.keep, codeAny_func ?_⟩
  obtain ⟨t, ht, hq⟩ := hbody A outer s H vs Q E ⟨hr.room.deeper _, hr.gd⟩ hsp
  have I : Inv (cxOf (L2.CX P w) P w K mg base N qual scope f cdv A outer s H E) [] (L2.start N vs) H s1 := inv_start S hr.room.hd e0 hl r x
  refine wpAny_mono (ht.run [] s1 (L2.start N vs) H _ I hq) (fun fl s' hs => ?_) fun e s' hs => hs
  have fin : ∀ {σ' : L2.St} {H' : Hp} {v : V} {u : Value}, Inv (cxOf (L2.CX P w) P w K mg base N qual scope f cdv A outer s H E) [] σ' H' s' → RelV v u → Q v H' → CE outer P w H s Q u s' :=
    fun {σ' H' v u} J rv q => ⟨v, H', J.os, J.bare, J.base, J.hok, rv, q⟩
  cases fl with
  | ret u =>
    obtain ⟨v, σ', H', J, rv, q⟩ := hs
    exact fin J rv q
  | next =>
    obtain ⟨σ', H', J, q⟩ := hs
    exact fin (v := V.non) (u := Value.none) J rfl q
  | brk =>
    obtain ⟨_, _, _, q⟩ := hs
    exact False.elim q
  | cont =>
    obtain ⟨_, _, _, q⟩ := hs
    exact False.elim q
section
variable {P : Program} {w : World} {k : Cn} {mg : Str → Option Value} {base : Heap} {x qual : Str} {params : Arguments} {body : List Stmt} {scope : Scope} {dvs : List V} {kws : List (Str × V)} {f : Addr} {fd : FuncData}
theorem fn_okW {N ps : List Str} {lev : Nat} {m : MS} (F : FunD k.K x qual params body scope dvs kws f fd) (S : FnScope N ps scope) (hp : ps.length ≤ N.length)
    (hb : ∀ (cdv : Value) (A : Around) (outer : List Env) (s : Shared) (H : Hp) (E : XK), RoomG lev (A.deeper (envOfC qual scope s.heap.objs.size f cdv)) → PSs (cxOf (L2.CX P w) P w k.K mg base N qual scope f cdv A outer s H E) body (LS k (fun c d _ H' => E c d H') m)) :
    FnW P w k.K mg base (lev + 1) f fd ps (SpD k ps.length (mDef ps.length N.length m)) := by
  obtain ⟨oc, od, dV, kV, doc, pm, an, cdv, ct, osl, rfl, lk, hcd, _, _⟩ := F.ex
  exact fn_ofW lk hcd S (fun vs H Q E h => h.1) fun A outer s H vs Q E hr h => ⟨_, hb cdv A outer s H E hr, spD_body rfl hp h⟩
end
/-! ### C(e, ..), C(k = e) -/
def Vg.u : Vg → List Value → Value × List Value
  | .pos, ds => (.none, ds)
  | .kw, ds => (ds.headD .none, [])
def vaM (g : Vg) (n : Nat) (m : MF) : MF := fun ds C => if ds.length = n + 1 then (match ds with
  | d :: r => m [d, (g.d r).1, .tup (g.d r).2] C
  | [] => .stuck) else .stuck
theorem vaM_ar {g : Vg} {n : Nat} {m : MF} : Ar (n + 1) (vaM g n m) := fun ds C h => by
  unfold vaM
  rw [if_neg h]
theorem Vg.rel (g : Vg) {vs : List V} {us : List Value} (r : Vals vs us) : RelV (g.v vs).1 (g.u us).1 ∧ Vals (g.v vs).2 (g.u us).2 := by
  cases g with
  | pos => exact ⟨rfl, r⟩
  | kw => cases r with
    | nil => exact ⟨rfl, .nil⟩
    | cons h t => exact ⟨h, .nil⟩
section
variable {k : Cn} {A : Nat → Addr} {C : Store} {H : Hp}
theorem sp_va {g : Vg} {n : Nat} {m : MF} {v0 : V} {vs : List V} {p : Addr} {Q : VK} {E : XK} (hp : H p = none) (h : SpD k (n + 1) (vaM g n m) (v0 :: vs) H Q E) : SpD k 3 m [v0, (g.v vs).1, .ref p] (upd H p (.tup (g.v vs).2)) Q E := by
  obtain ⟨hl, A, C, ds, st, rl, h⟩ := h
  cases rl with
  | @cons _ d _ r rd rr =>
    have hlen : (d :: r).length = n + 1 := by
      have := rr.length
      simp only [List.length_cons] at hl ⊢
      omega
    unfold vaM at h
    rw [if_pos hlen] at h
    simp only at h
    have q : Kp A C H A C (upd H p (.tup (g.v vs).2)) := kp_new hp
    have st2 : StOk k A C (upd H p (.tup (g.v vs).2)) := st.new hp
    obtain ⟨r1, r2⟩ := g.rep rr
    refine ⟨rfl, A, C, [d, (g.d r).1, .tup (g.d r).2], st2, .cons (rd.kp q) (.cons (r1.kp q) (.cons (.tup (st.notLive hp) upd_same (r2.kp q)) .nil)), ?_⟩
    exact Aft.shift q.stp0 h
end
section
variable {X : Cx} {k : Cn} {W : WX} {σ : L2.St} {H : Hp} {Q : VK} {lev : Nat} {f C p : Addr} {fd : FuncData} {ps : List Str} {m : MF} {x : Str} {pn pos : Pos} {e : Expr} {es : List Expr} {ma : MA} {n : Nat} {g : Vg}
/-- how the parameters are bound -/
def BnW (K : PySem.W.Frag) (fd : FuncData) (ps : List Str) (g : Vg) (n : Nat) (ks : List Str) : Prop :=
  ∀ (s : Shared) (u0 : Value) (us : List Value), K.In s.heap → us.length = n → BindsW s fd (match g with | .pos => ⟨u0 :: us, []⟩ | .kw => ⟨[u0], ks.zip us⟩) (ps.zip [u0, (g.u us).1, .ref s.heap.objs.size]) (g.u us).2
theorem run_makeW {E : L2.St → XK} {pins : List (Addr × Obj)} {σ : L2.St} {H : Hp} {s : Shared} {Q : VK} {us : List Value} {vs : List V} {ks : List Str} (M : Mk X.K C f) (F : FnW X.prog X.w X.K X.mg X.base lev f fd ps (SpD k 3 m)) (hr : RoomG (lev + 1) X.A) (hb : BnW X.K fd ps g n ks) (hn : n ≤ 1000)
    (hx : ∀ σ, PassesAt (L2.CX X.prog X.w) X σ (E σ)) (I : Inv X pins σ H s) (r : Vals vs us)
    (h : ∀ x dx, H x = none → H dx = none → dx ≠ x → SpD k (n + 1) (vaM g n m) (.ref x :: vs) (upd (upd H dx (.own x)) x (.ins C dx [])) (fun v H2 => v = .non ∧ Q (.ref x) H2) (E σ)) :
    wpAny (model X.prog X.w) X.A (match g with | .pos => call (.ref C) us | .kw => call (.ref C) [] (ks.zip us)) (EP X pins σ Q) X.xe s := by
  have hq := h (s.heap.objs.size + 1) s.heap.objs.size (I.hok.fresh (Nat.le_succ _)) (I.hok.fresh (Nat.le_refl _)) (Nat.ne_of_lt (Nat.lt_succ_self _))
  have I2 := Inv.made (C := C) I
  have hl : us.length = n := by
    have := hq.1
    rw [← r.length]
    simpa using this
  obtain ⟨g1, g2⟩ := g.rel r
  have hits : (g.u us).2.length ≤ sizeLine := by
    cases g with
    | pos => show us.length ≤ _; rw [hl]; exact Nat.le_trans hn (by decide)
    | kw => exact Nat.zero_le _
  have hz : (upd (upd H s.heap.objs.size (.own (s.heap.objs.size + 1))) (s.heap.objs.size + 1) (.ins C s.heap.objs.size [])) ((s.heap.push PySem.W.emptyDict).push (PySem.W.instObj C s.heap.objs.size)).objs.size = none := I2.hok.fresh (Nat.le_refl _)
  have hq2 := sp_va (g := g) hz hq
  have fin : ∀ (r : Result) (s' : Shared), CR (L2.CX X.prog X.w) X.stack X.prog X.w _ { s with heap := (s.heap.push PySem.W.emptyDict).push (PySem.W.instObj C s.heap.objs.size) } (fun v H2 => v = .non ∧ Q (.ref (s.heap.objs.size + 1)) H2) (E σ) r s' → PySem.W.InitBack (s.heap.objs.size + 1) (wants (EP X pins σ Q) X.xe) r s' := fun r s' hq' => by
    cases r with
    | error e => exact hx σ pins _ _ e s' I2 hq'
    | ok fl =>
      cases fl with
      | ret u =>
        obtain ⟨v, H', I3, rv, ev, q3⟩ := I2.after hq'
        subst ev
        exact ⟨rv, ⟨V.ref (s.heap.objs.size + 1), H', I3, rfl, q3⟩⟩
      | next => exact False.elim hq'
      | brk => exact False.elim hq'
      | cont => exact False.elim hq'
  have vs3 : Vals [V.ref (s.heap.objs.size + 1), (g.v vs).1, .ref ((s.heap.push PySem.W.emptyDict).push (PySem.W.instObj C s.heap.objs.size)).objs.size] [Value.ref (s.heap.objs.size + 1), (g.u us).1, .ref ((s.heap.push PySem.W.emptyDict).push (PySem.W.instObj C s.heap.objs.size)).objs.size] := .cons rfl (.cons g1 (.cons rfl .nil))
  cases g with
  | pos =>
    exact wpAny_call (make_map (f := f) I.kIn M.makes M.init (beq_iff_eq.mp M.fn) (codeAny_mono (F.run _ X.stack _ _ ⟨Value.ref (s.heap.objs.size + 1) :: us, []⟩ _ _ _ _ _ (E σ) (hr.make C us [])
      (I2.env0.make C us []) hits g2 (hb _ (Value.ref (s.heap.objs.size + 1)) us I2.kIn hl) vs3 hq2) fin))
  | kw =>
    exact wpAny_call (make_map (f := f) I.kIn M.makes M.init (beq_iff_eq.mp M.fn) (codeAny_mono (F.run _ X.stack _ _ ⟨[Value.ref (s.heap.objs.size + 1)], ks.zip us⟩ _ _ _ _ _ (E σ) (hr.make C [] (ks.zip us))
      (I2.env0.make C [] (ks.zip us)) hits g2 (hb _ (Value.ref (s.heap.objs.size + 1)) us I2.kIn hl) vs3 hq2) fin))
/-- C(e, ..) -/
theorem de_makeW (own : Bool) (c nf : Nat) (tk : Takes X W) (hK : X.K = k.K) (M : Mk k.K (k.cl c) f) (F : FnW X.prog X.w X.K X.mg X.base lev f fd ps (SpD k 3 m)) (hnf : (k.fn c).length = nf) (hr : RoomG (lev + 1) X.A) (hg : Gl X x) (hm : X.mg x = some (.ref (k.cl c))) (hb : BnW X.K fd ps .pos n []) (hn : n ≤ 1000)
    (ha : PA X (e :: es) (LA k W ma)) (hdb : (x == ("__debug__" : Str)) = false := by decide) (he : starEach (e :: es) X.env = (false, eval e X.env) :: starEach es X.env := by rfl) (hpl : (backTo pos (starEach es X.env)).any (·.1) = false := by rfl) :
    PE X (.Call (.Name x pn) (e :: es) [] pos) (LE k W (mMake own c nf (vaM .pos n m) [] ma)) := by
  have M' : Mk X.K (k.cl c) f := by rw [hK]; exact M
  refine PE.cq (t := tMakeS (k.cl c) (SpD k (n + 1) (vaM .pos n m)) [] (WE W) (LA k W ma)) ⟨fun pins s σ H Q I h => ?_⟩ fun _ _ _ h => le_make vaM_ar hnf (fun _ _ _ => .nil) h
  refine wpAny_Call_Name_kw (ld_glob I hg hm ?_ hdb)
  refine PySem.W.callWith_K (h₀ := X.base) I.ok.mod.kin M'.kp (thn (ha.run pos pins s σ H _ I h) fun us s1 ⟨vs, H1, I1, r, q⟩ => ⟨I1.kIn, ?_⟩) he hpl
  exact run_makeW (g := .pos) (ks := []) M' F hr hb hn (fun σ => passAt tk σ) I1 r fun x dx h1 h2 h3 => by have := q x dx h1 h2 h3; rwa [List.append_nil] at this
theorem la_one {me : ME} {σ : L2.St} {H : Hp} {Q : List V → Hp → Prop} (h : LA k W (mCons me mNil) σ H Q) : tCons (LE k W me) tNil σ H Q := by
  obtain ⟨A, F, C, s, h⟩ := h
  refine ⟨A, F, C, s, (Aft.bnd (rel := RepD k) h).mono fun dx C1 A1 H1 x p1 st1 rx h1 => ?_⟩
  exact h1 A1 H1 [x] Stp.refl st1 (.cons rx .nil)
/-- C(k = e) -/
theorem de_makeWk (own : Bool) (c nf : Nat) {kn : Str} {kpos : Pos} (tk : Takes X W) (hK : X.K = k.K) (M : Mk k.K (k.cl c) f) (F : FnW X.prog X.w X.K X.mg X.base lev f fd ps (SpD k 3 m)) (hnf : (k.fn c).length = nf) (hr : RoomG (lev + 1) X.A) (hg : Gl X x) (hm : X.mg x = some (.ref (k.cl c))) (hb : BnW X.K fd ps .kw 1 [kn])
    {me : ME} (he : PE X e (LE k W me)) (hall : (backToKw pos (keywordEach [⟨some kn, e, kpos⟩] X.env)).all (·.1.isSome) = true := by rfl) (hks : (backToKw pos (keywordEach [⟨some kn, e, kpos⟩] X.env)).filterMap (·.1) = [kn] := by rfl) (hdb : (x == ("__debug__" : Str)) = false := by decide)
    (hpl : ((backTo pos (starEach [] X.env)).any (·.1) || (backToKw pos (keywordEach [⟨some kn, e, kpos⟩] X.env)).any (·.1.isNone)) = false := by rfl) :
    PE X (.Call (.Name x pn) [] [⟨some kn, e, kpos⟩] pos) (LE k W (mMake own c nf (vaM .kw 1 m) [] (mCons me mNil))) := by
  have M' : Mk X.K (k.cl c) f := by rw [hK]; exact M
  refine PE.cq (t := tMakeS (k.cl c) (SpD k 2 (vaM .kw 1 m)) [] (WE W) (LA k W (mCons me mNil))) ⟨fun pins s σ H Q I h => ?_⟩ fun _ _ _ h => le_make vaM_ar hnf (fun _ _ _ => .nil) h
  refine wpAny_Call_Name_kw (ld_glob I hg hm ?_ hdb)
  refine PySem.W.callWith_KW0 (h₀ := X.base) I.ok.mod.kin M'.kp hall ?_ hpl
  refine thn ((pk_cons he pk_nil).run pos pins s σ H _ I (la_one h)) fun us s1 ⟨vs, H1, I1, r, q⟩ => ⟨I1.kIn, ?_⟩
  rw [hks]
  exact run_makeW (g := .kw) (ks := [kn]) M' F hr hb (by decide) (fun σ => passAt tk σ) I1 r fun x dx h1 h2 h3 => by have := q x dx h1 h2 h3; rwa [List.append_nil] at this
end
end CT
set_option maxHeartbeats 4000000
/-! DLX: len(set(t)) of a tuple of ints; sorted(t); str(n), f-strings, join. -/
namespace CT
open PySem L2 PySem.Spec PyProof.Rows
/-! ### len(set(t)) -/
theorem nd_lenI : ∀ {a b : List Int}, a.Nodup → b.Nodup → (∀ z, z ∈ a ↔ z ∈ b) → a.length = b.length
  | [], b, _, _, h => by
    cases b with
    | nil => rfl
    | cons y r => exact absurd ((h y).mpr (List.mem_cons_self ..)) (by simp)
  | x :: q, b, ha, hb, h => by
    have ⟨a1, a2⟩ := List.nodup_cons.mp ha
    have hx : x ∈ b := (h x).mp (List.mem_cons_self ..)
    have e := nd_lenI a2 (hb.erase x) fun z => by
      rw [List.Nodup.mem_erase_iff hb]
      constructor
      · exact fun hz => ⟨fun e => a1 (e ▸ hz), (h z).mp (List.mem_cons_of_mem _ hz)⟩
      · rintro ⟨h1, h2⟩
        rcases List.mem_cons.mp ((h z).mpr h2) with e | e
        · exact absurd e h1
        · exact e
    rw [List.length_cons, e, List.length_erase_of_mem hx]
    have : 0 < b.length := List.length_pos_of_mem hx
    omega
theorem setR_card {w : World} {h : Heap} {a : Addr} {ns : List Int} {c : Nat} (R : SetR w h a (fun j => decide (j ∈ ns)) c) : c = (srtI ns).length := by
  obtain ⟨o, es, ep, t, ho, hx, hd, hg, nd, hm, _, _, hn, _⟩ := R
  rw [← hn, ← Array.length_toList, ← List.length_map (f := keyOf)]
  refine nd_lenI nd (srtI_up.imp fun h => by omega) fun z => ?_
  rw [← hm z, srtI_mem]
  simp
def rSetTI (K : PySem.W.Frag) (w : World) : List V → Hp → VK → Prop := fun xs H Q => ∃ (l : Addr) (ns : List Int), xs = [V.ref l] ∧ SqT K H l (ns.map V.int) ∧ ns.length < 64 ∧
  ∀ a, H a = none → Q (.ref a) (upd H a (SetO w a (fun j => decide (j ∈ ns)) (srtI ns).length))
def rLenSI (w : World) : List V → Hp → VK → Prop := fun xs H Q => ∃ (a : Addr) (S : Int → Bool) (n : Nat), xs = [V.ref a] ∧ H a = some (SetO w a S n) ∧ Q (.int n) H
section
variable {X : Cx}
theorem cr_setTI (hc : X.calm = true) : CallR X (.type "set") (rSetTI X.K X.w) := by
  intro pins s σ H xs us Q I r h
  obtain ⟨l, ns, rfl, hl, hf, q⟩ := h
  rw [Vals.ref1 r]
  obtain ⟨its, rv, pl, hz⟩ := I.tuple hl
  refine call_set_tupI ns (I.ok.hd hc) pl (by simpa using ints_are rv) (by unfold scanBound; omega) fun h' tk c hS hn hk => ?_
  have ec := setR_card hS
  subst ec
  exact ⟨.ref s.heap.objs.size, upd H s.heap.objs.size _, I.laid (t' := tk) hk (Nat.le_refl _) (setO_new hS), rfl, q _ (I.hok.fresh (Nat.le_refl _))⟩
theorem cr_lenSI : CallR X (.builtin "len") (rLenSI X.w) := by
  intro pins s σ H xs us Q I r h
  obtain ⟨a, S, n, rfl, ha, q⟩ := h
  rw [Vals.ref1 r]
  have R0 : SetR X.w s.heap a S n := (I.hok a _ ha).1
  obtain ⟨o, es, ep, t, ho, hx, hd, hg, nd, hm, hsz, hft, hn, _⟩ := R0
  refine call_len_set ho hx hd hft (by unfold scanBound at hsz; omega) ?_
  exact ⟨.int n, H, I.tok _, ⟨_, by rw [hn]⟩, q⟩
end
def oLenSI : OA := fun xs C => match xs with
  | [d] => (vT d).bind fun ys => (dInts ys).bind fun ns => if ns.length < 64 then some (.int (srtI ns).length, C) else none
  | _ => none
section
variable {X : Cx} {k : Cn} {W : WX}
theorem d_lenSI {w : World} : ApD k (fun xs H Q => rSetTI k.K w xs H fun v H1 => rLenSI w [v] H1 Q) oLenSI := by
  intro fl A C H x dx d C' Q hf hl st rx e q
  cases rx with
  | nil => cases e
  | cons r t =>
    cases t with
    | cons _ _ => cases e
    | nil =>
      simp only [oLenSI, Option.bind_eq_some_iff] at e
      obtain ⟨ds, ev, ns, en, e⟩ := e
      split at e
      · rename_i hn
        obtain ⟨a, vs, rfl, ha, rv⟩ := vT_at r ev
        rw [dInts_eq en] at rv
        have := RepL.ints_inv rv
        subst this
        cases e
        exact ⟨a, ns, rfl, ha, hn, fun b hb => ⟨b, _, _, rfl, upd_same, q A _ _ (kp_new hb).stp0 (st.new hb) (.int _)⟩⟩
      · cases e
variable {e : Expr} {p p' pos pos' : Pos} {ma : MA}
theorem de_lenSI (hK : X.K = k.K) (hc : X.calm = true) (hg : Gl X "len") (hm : X.mg "len" = none) (hg' : Gl X "set") (hm' : X.mg "set" = none) (ha : PA X [e] (LA k W ma)) (hs : starEach [e] X.env = (false, eval e X.env) :: starEach [] X.env := by rfl)
    (hs' : starEach [.Call (.Name "set" p') [e] [] pos'] X.env = (false, eval (.Call (.Name "set" p') [e] [] pos') X.env) :: starEach [] X.env := by rfl) (hpl : (backTo pos' (starEach [] X.env)).any (·.1) = false := by rfl) (hpl' : (backTo pos (starEach [] X.env)).any (·.1) = false := by rfl) :
    PE X (.Call (.Name "len" p) [.Call (.Name "set" p') [e] [] pos'] [] pos) (LE k W (mAp oLenSI ma)) :=
  (pe_callB cr_lenSI hg hm (by decide +kernel) (pa_cons (pe_callTy (cr_setTI hc) hg' hm' (by decide +kernel) ha (by decide) (by decide) hs hpl) pa_nil hs') (by decide) (by decide) hs' hpl').cq fun _ _ _ h => le_ap (r := fun xs H Q => rSetTI X.K X.w xs H fun v H1 => rLenSI X.w [v] H1 Q) (by rw [hK]; exact d_lenSI) h
end
/-! ### sorted(t) -/
mutual
theorem reads_lt {h : Heap} : ∀ {v : Value} {d : PyData} {as : List Addr}, Reads h v d as → ∀ a ∈ as, a < h.objs.size
  | _, _, _, .none, a, ha => by cases ha
  | _, _, _, .bool _, a, ha => by cases ha
  | _, _, _, .int _ _, a, ha => by cases ha
  | _, _, _, .str _ _, a, ha => by cases ha
  | _, _, _, .list h1 _ _ h4, a, ha => by
    rcases List.mem_cons.mp ha with rfl | ha
    · exact Heap.lt_size h1
    · exact readsAll_lt h4 a ha
  | _, _, _, .tuple _ _ _ h4, a, ha => readsAll_lt h4 a ha
  | _, _, _, .dict h1 _ _ h4 h5, a, ha => by
    simp only [List.cons_append, List.mem_cons, List.mem_append] at ha
    rcases ha with rfl | ha | ha
    · exact Heap.lt_size h1
    · exact readsAll_lt h4 a ha
    · exact readsAll_lt h5 a ha
theorem readsAll_lt {h : Heap} : ∀ {vs : List Value} {ds : List PyData} {as : List Addr}, ReadsAll h vs ds as → ∀ a ∈ as, a < h.objs.size
  | _, _, _, .nil, a, ha => by cases ha
  | _, _, _, .cons r t, a, ha => by
    rcases List.mem_append.mp ha with ha | ha
    · exact reads_lt r a ha
    · exact readsAll_lt t a ha
end
def rSortP (K : PySem.W.Frag) : List V → Hp → VK → Prop := fun xs H Q => ∃ (a : Addr) (β : Type) (bs : List β) (f : β → V) (enc : β → PyData), xs = [.ref a] ∧ SqT K H a (bs.map f) ∧ (∀ b ∈ bs, Dp K H (f b) (enc b)) ∧ PySem.W.AllAlike (bs.map enc) ∧ PySem.W.Sortable (bs.map enc) ∧ (∀ b ∈ bs, (enc b).depth ≤ 60) ∧
  ∀ p, H p = none → Q (.ref p) (upd H p (.lst ((bs.mergeSort (PySem.W.dataLe false enc)).map f)))
section
variable {X : Cx}
theorem cr_sortP (hu : X.A.units + 200 < cLine) : CallR X (.builtin "sorted") (rSortP X.K) := by
  intro pins s σ H xs us Q I r h
  obtain ⟨a, β, bs, f, enc, rfl, hs, hd, hal, hk, hdp, q⟩ := h
  obtain ⟨its, rv, ⟨o, ho, hoc, n, hod⟩, hz⟩ := I.tuple hs
  obtain ⟨u, rfl, ru⟩ := vals1 r
  obtain rfl : u = Value.ref a := ru
  have hL : bs.length ≤ sizeLine := by rw [List.length_map] at hz; exact hz
  have hzi : its.toArray.size ≤ sizeLine := by rw [List.size_toArray, ← rv.length]; exact hz
  refine Calls.call_function_entry PyProof.Rows.kind_sorted PyProof.Rows.plain_sorted PyProof.Rows.entry_sorted (PyProof.Rows.args_sorted1 _) ?_
  unfold Builtin.«sorted»
  refine wpAny_bind (m := checkCount "sorted" 1 1 _) (wpAny_pure ?_)
  refine wpAny_bind (wpAny_collect_seq a (.inr rfl) ho hoc hod (fun h' hk' => ?_) hzi)
  have I1 : Inv X pins σ H { s with heap := h' } := I.kept (t' := s.toks) hk'
  have ea : its.toArray.toList = its := by simp
  rw [ea]
  refine wpAny_bind (wpAny_newList ?_ (by rw [List.size_toArray] at hzi; exact hzi))
  have hoL : (h'.push (seqObj "list" its.toArray 0)).get? h'.objs.size = some (seqObj "list" its.toArray 0) := Heap.get?_push_size _ rfl
  show wpAny _ _ _ _ _ { s with heap := h'.push (seqObj "list" its.toArray 0) }
  have each1 := each_vals rv
  have each2 : PySem.W.EachIs (fun u b => ∃ as, Reads (h'.push (seqObj "list" its.toArray 0)) u (enc b) as ∧ h'.objs.size ∉ as) its bs := each_in each1 fun u b hb e => by
    obtain ⟨as, ra⟩ := Dp.reads I1 _ _ _ (hd b hb) e
    exact ⟨as, PyProof.Rows.Reads.keeps (fun b o q => Heap.get?_push_of_some _ q) ra, fun hm => absurd (reads_lt ra _ hm) (Nat.lt_irrefl _)⟩
  refine wpAny_bind (wpAny_holding (PySem.W.list_sort_data (s := { s with heap := h'.push (seqObj "list" its.toArray 0) }) (R := fun u b => RelV (f b) u) (enc := enc) (bs := bs) hoL each1 each2 hal hk hL (fun b hb => ?_) fun out hout eo => ?_))
  · have := hdp b hb
    show X.A.units + 1 + 1 + _ < _
    omega
  · obtain ⟨e', he'⟩ := PyProof.Rows.sortedHeap_at (vs := its) (out := out.toArray) hoL
    refine wpAny_pure ⟨_, rfl, .ref h'.objs.size, _, I1.laid (t' := s.toks) (o := .lst ((bs.mergeSort (PySem.W.dataLe false enc)).map f)) (fun b u e => ?_) (Nat.le_refl _) ⟨?_, out, e', vals_each eo, he'⟩, rfl, q _ (I1.hok.fresh (Nat.le_refl _))⟩
    · have hb : b < h'.objs.size := Heap.lt_size e
      rw [PyProof.Rows.sortedHeap_old (Nat.ne_of_lt hb) (by rw [size_push']; exact Nat.lt_succ_of_lt hb)]
      exact Heap.get?_push_of_some _ e
    · rw [List.length_map, List.length_mergeSort]
      exact hL
end
end CT
set_option maxHeartbeats 4000000
/-! DLY: sorted of lists or tuples; str(n), f-strings, join; str(o) by the class's own __str__. -/
namespace CT
open PySem L2 PySem.Spec PyProof.Rows
def oSortQ (own : Bool) : OA := fun xs C => match xs with
  | [x] => (match vL x C with
    | some ds => oSortL own [x] C
    | none => (match vT x with
      | some ds => if (ds.all (fun d => (toP C d).isSome && decide ((encD C d).depth ≤ 60)) && srtb (ds.map (encD C))) = true then some (mkL own (ds.mergeSort (PySem.W.dataLe false (encD C))) C) else none
      | none => none))
  | _ => none
section
variable {X : Cx} {k : Cn} {W : WX} {σ : L2.St} {H : Hp} {Q : VK}
theorem d_sortQ {own : Bool} : ApD k (fun xs H Q => rSortA k.K xs H Q ∨ rSortP k.K xs H Q) (oSortQ own) := by
  intro fl A C H x dx d C' Q hf hl st rx e q
  cases rx with
  | nil => cases e
  | cons r t =>
    cases t with
    | cons _ _ => cases e
    | nil =>
      rename_i v0 d0
      simp only [oSortQ] at e
      split at e
      · exact .inl (d_sortL fl A C H _ _ d C' Q hf hl st (.cons r .nil) e q)
      · split at e
        · rename_i ds ev
          split at e
          · rename_i hb
            obtain ⟨a, vs, rfl, ha, rv⟩ := vT_at r ev
            obtain ⟨z1, z2, z3⟩ := repL_zip rv
            simp only [Bool.and_eq_true, List.all_eq_true, decide_eq_true_eq] at hb
            obtain ⟨hb1, hb2⟩ := hb
            obtain ⟨al, so⟩ := srtb_ok hb2
            have em : (vs.zip ds).map (fun x => encD C x.2) = ds.map (encD C) := by
              have := congrArg (List.map (encD C)) z3
              rw [List.map_map] at this
              exact this
            have hm : ∀ x ∈ vs.zip ds, x.2 ∈ ds := fun x hx => by rw [← z3]; exact List.mem_map.mpr ⟨x, hx, rfl⟩
            refine .inr ⟨a, V × D, vs.zip ds, (·.1), fun x => encD C x.2, rfl, by rw [z2]; exact ha, fun b hb => ?_, by rw [em]; exact al, by rw [em]; exact so, fun b hb => (hb1 b.2 (hm b hb)).2, fun p hp => ?_⟩
            · have := (hb1 b.2 (hm b hb)).1
              obtain ⟨pd, e3⟩ := Option.isSome_iff_exists.mp this
              have := toP_dp st (z1 b hb) e3
              have e5 : encD C b.2 = pd := by unfold encD; rw [e3]; rfl
              show Dp k.K H b.1 (encD C b.2)
              rw [e5]
              exact this
            · have e4 : ((vs.zip ds).mergeSort (PySem.W.dataLe false fun x => encD C x.2)).map (·.2) = ds.mergeSort (PySem.W.dataLe false (encD C)) := by
                have em2 := List.map_mergeSort (r := PySem.W.dataLe false fun x : V × D => encD C x.2) (s := PySem.W.dataLe false (encD C)) (f := fun x : V × D => x.2) (l := vs.zip ds) (fun a _ b _ => rfl)
                rw [em2, z3]
              have rr : RepL k A C H (((vs.zip ds).mergeSort (PySem.W.dataLe false fun x => encD C x.2)).map (·.1)) (ds.mergeSort (PySem.W.dataLe false (encD C))) := by
                rw [← e4]
                exact repL_of fun y hy => z1 y (List.mem_mergeSort.mp hy)
              obtain ⟨A2, w1, w2, w3⟩ := fresh_L (own := own) hf st rr hp
              have e1 := Option.some.inj e
              rw [e1] at w1 w2 w3
              exact q A2 _ _ w1 w2 w3
          · cases e
        · cases e
/-! ### str(n) -/
/-! ### f-strings -/
inductive FP where
  | txt (s : Str) | ex (m : ME)
def FP.t (k : Cn) (W : WX) : FP → TE
  | .txt s => tC (.str s)
  | .ex m => tFmt (LE k W m)
variable {v1 v2 : Expr} {rest : List Expr} {pos : Pos}
/-! ### join -/
variable {mo me : ME}
variable {o e : Expr} {apos : Pos}
/-! ### str(o) -/
variable {lev : Nat} {g : Addr} {fd : FuncData} {ps : List Str} {m : MF} {p : Pos}
theorem run_in2 {sp : Sp} {pins : List (Addr × Obj)} {σ : L2.St} {H : Hp} {s : Shared} {Q : VK} {us : List Value} {vs : List V} {Ex : XK} (F : FnG X.prog X.w X.K X.mg X.base lev g fd ps sp) (hr : RoomG (lev + 2) X.A) (hb : Binds X.K fd ps []) (hx : PassesAt (L2.CX X.prog X.w) X σ Ex)
    (I : Inv X pins σ H s) (r : Vals vs us) (h : sp vs H Q Ex) : wpAny (model X.prog X.w) X.A.in1.in1 (call (.ref g) us) (EP X pins σ Q) X.xe s := by
  have hl : (us ++ []).length = ps.length := by
    rw [List.append_nil, ← r.length]
    exact F.len _ _ _ _ h
  have B := hb s us I.kIn hl
  rw [List.append_nil] at B
  refine wpAny_call (codeAny_mono (F.run X.A.in1.in1 X.stack s H ⟨us, []⟩ us vs Q Ex hr.in1.in1 I.env0.in1.in1 B r h) fun r s' hq => ?_)
  cases r with
  | error er => exact hx pins H s er s' I hq
  | ok fl =>
    cases fl with
    | ret u => exact I.after hq
    | next => exact False.elim hq
    | brk => exact False.elim hq
    | cont => exact False.elim hq
end
end CT
set_option maxHeartbeats 4000000
/-! DLZ: binding of *numbers and a keyword that is None by itself. -/
namespace CT
open PySem L2 PySem.Spec PyProof.Rows
def KwNon (K : PySem.W.Frag) (f : Addr) (kn : Str) : Prop := ∀ oc od fd osl, K.lookup f = some ⟨oc, od, .func fd, osl⟩ → ∃ D, fd.kwdefaults = .ref D ∧ PySem.W.nsIn K D kn = some (some .none)
theorem kwB_ok {a : PySem.W.Frag → Addr} {kn : Str} {K : PySem.W.Frag} (h : kwB a kn K = true) : KwNon K (a K) kn := by
  intro oc od fd osl e
  unfold kwB at h
  rw [e] at h
  simp only at h
  split at h
  · rename_i D hD
    exact ⟨D, hD, He.eqO_ok h⟩
  · cases h
section
variable {K : PySem.W.Frag} {x qual : Str} {params : Arguments} {body : List Stmt} {scope : Scope} {f : Addr} {fd : FuncData} {ps : List Str} {kn : Str}
theorem bn_pos (F : FunD K x qual params body scope [] [] f fd) (kw : KwNon K f kn) (n : Nat) (hn : n ≤ 1000)
    (h : ∀ (D : Addr) (doc pm : Value) (an : Option Addr) (cdv ct : Value) (u0 : Value) (us : List Value), us.length = n → ∃ (β γ : Type) (k1 : Option Value → Sem β) (k2 : β → Sem γ) (k3 : γ → Sem (List (Str × Value))) (a : β),
      bindArgs (PySem.W.fnOf x qual params body scope .none (.ref D) doc pm an cdv ct) ⟨u0 :: us, []⟩ = ((nsGet D kn >>= k1) >>= k2) >>= k3 ∧ k1 (some .none) = pure a ∧ (k2 a >>= k3) = (newTuple us >>= fun t => pure (ps.zip [u0, .none, t]))) : BnW K fd ps .pos n [] := by
  obtain ⟨oc, od, dV, kV, doc, pm, an, cdv, ct, osl, rfl, lk, hcd, hD, hK⟩ := F.ex
  obtain ⟨D, e1, e2⟩ := kw _ _ _ _ lk
  have e1' : kV = .ref D := e1
  subst e1'
  rcases hD with ⟨_, rfl⟩ | ⟨e, _⟩
  · intro s u0 us KX hl M A E Q q
    obtain ⟨β, γ, k1, k2, k3, a, h1, h2, h3⟩ := h D doc pm an cdv ct u0 us hl
    show wpAny M A (bindArgs _ ⟨u0 :: us, []⟩) Q E s
    have l1 : PySem.W.Looks M s.heap (nsGet D kn >>= k1) a := (PySem.W.looks_nsIn KX e2).andThen (PySem.W.Looks.of_pure h2)
    rw [h1, bind_assoc]
    refine wpAny_bind (l1.here ?_)
    rw [h3]
    refine wpAny_bind (wpAny_newTuple (wpAny_pure q) (by rw [hl]; exact Nat.le_trans hn (by decide)))
  · exact absurd rfl e
theorem bn_kw (F : FunD K x qual params body scope [] [] f fd)
    (h : ∀ (kV doc pm : Value) (an : Option Addr) (cdv ct : Value) (u0 u : Value), bindArgs (PySem.W.fnOf x qual params body scope .none kV doc pm an cdv ct) ⟨[u0], [(kn, u)]⟩ = (newTuple [] >>= fun t => pure (ps.zip [u0, u, t]))) : BnW K fd ps .kw 1 [kn] := by
  obtain ⟨oc, od, dV, kV, doc, pm, an, cdv, ct, osl, rfl, lk, hcd, hD, hK⟩ := F.ex
  rcases hD with ⟨_, rfl⟩ | ⟨e, _⟩
  · intro s u0 us KX hl M A E Q q
    match us, hl with
    | [u], _ =>
      show wpAny M A (bindArgs _ ⟨[u0], [(kn, u)]⟩) Q E s
      rw [h]
      exact wpAny_bind (wpAny_newTuple (wpAny_pure q) (by decide))
  · exact absurd rfl e
end
end CT
set_option maxHeartbeats 4000000
/-! DM1: classmethods (C.m(..), cls(k = e)); + of texts. -/
namespace CT
open PySem L2 PySem.Spec PyProof.Rows
end CT
set_option maxHeartbeats 4000000
/-! DM2: the head's Hook where attributes of classes are read. -/
namespace CT
open PySem L2 PySem.Spec PyProof.Rows
end CT
set_option maxHeartbeats 8000000
set_option pp.maxSteps 60
namespace CL
open PySem L2 PySem.Spec PyProof.Rows CT
def flA (c : Nat) : List Str := match c with
  | 0 => ["size", "grid", "ties"]
  | 1 => ["halves"]
  | 3 => ["wishes", "inner"]
  | 4 => ["head", "cell", "tail", "onward", "width"]
  | 2 => ["limit"]
  | _ => []
abbrev cn (K : PySem.W.Frag) : Cn := ⟨K, clA K, flA, none⟩
structure Txt (K : PySem.W.Frag) (mg : Str → Option Value) : Prop where
  n_abs : mg "abs" = none
  n_all : mg "all" = none
  n_any : mg "any" = none
  n_bool : mg "bool" = none
  n_enumerate : mg "enumerate" = none
  n_int : mg "int" = none
  n_isinstance : mg "isinstance" = none
  n_len : mg "len" = none
  n_list : mg "list" = none
  n_max : mg "max" = none
  n_min : mg "min" = none
  n_range : mg "range" = none
  n_set : mg "set" = none
  n_sorted : mg "sorted" = none
  n_tuple : mg "tuple" = none
  c_MOST : ∃ t, mg "MOST" = some (.int 1000000000 t)
  g_is_integer : mg "is_integer" = some (.ref (a_is_integer K))
  g_is_number : mg "is_number" = some (.ref (a_is_number K))
  g_is_count : mg "is_count" = some (.ref (a_is_count K))
  g_merged : mg "merged" = some (.ref (a_merged K))
  g_check_numbers : mg "check_numbers" = some (.ref (a_check_numbers K))
  g_halves_of : mg "halves_of" = some (.ref (a_halves_of K))
  g_is_tie : mg "is_tie" = some (.ref (a_is_tie K))
  g_summed : mg "summed" = some (.ref (a_summed K))
  g_grid_of : mg "grid_of" = some (.ref (a_grid_of K))
  g_is_cell_want : mg "is_cell_want" = some (.ref (a_is_cell_want K))
  g_is_onward : mg "is_onward" = some (.ref (a_is_onward K))
  g_inner_ties : mg "inner_ties" = some (.ref (a_inner_ties K))
  g_law_bag : mg "_law_bag" = some (.ref (a_law_bag K))
  g_law_take : mg "_law_take" = some (.ref (a_law_take K))
  g_law_want : mg "_law_want" = some (.ref (a_law_want K))
  g_law_cell : mg "_law_cell" = some (.ref (a_law_cell K))
  g_law_strip : mg "_law_strip" = some (.ref (a_law_strip K))
  g_law_near : mg "_law_near" = some (.ref (a_law_near K))
  g_law_any : mg "_law_any" = some (.ref (a_law_any K))
  g_law_plan : mg "_law_plan" = some (.ref (a_law_plan K))
  g_law_strip_ties : mg "_law_strip_ties" = some (.ref (a_law_strip_ties K))
  g_law_strip_lists : mg "_law_strip_lists" = some (.ref (a_law_strip_lists K))
  g_law_web : mg "_law_web" = some (.ref (a_law_web K))
  g_law_turned : mg "_law_turned" = some (.ref (a_law_turned K))
  g_law_ties_of : mg "_law_ties_of" = some (.ref (a_law_ties_of K))
  g_law_is_laid : mg "_law_is_laid" = some (.ref (a_law_is_laid K))
  g_law : mg "law" = some (.ref (a_law K))
  g_Web : mg "Web" = some (.ref (He.ga K "Web"))
  cl_Web : Cls K (He.ga K "Web")
  no_Web_size : NoAttr K (He.ga K "Web") "size"
  no_Web_grid : NoAttr K (He.ga K "Web") "grid"
  no_Web_ties : NoAttr K (He.ga K "Web") "ties"
  mk_Web : Mk K (He.ga K "Web") (a_Web__init K)
  g_Want : mg "Want" = some (.ref (He.ga K "Want"))
  cl_Want : Cls K (He.ga K "Want")
  no_Want_halves : NoAttr K (He.ga K "Want") "halves"
  mk_Want : Mk K (He.ga K "Want") (a_Want__init K)
  g_Cell : mg "Cell" = some (.ref (He.ga K "Cell"))
  cl_Cell : Cls K (He.ga K "Cell")
  no_Cell_wishes : NoAttr K (He.ga K "Cell") "wishes"
  no_Cell_inner : NoAttr K (He.ga K "Cell") "inner"
  mk_Cell : Mk K (He.ga K "Cell") (a_Cell__init K)
  g_Strip : mg "Strip" = some (.ref (He.ga K "Strip"))
  cl_Strip : Cls K (He.ga K "Strip")
  no_Strip_head : NoAttr K (He.ga K "Strip") "head"
  no_Strip_cell : NoAttr K (He.ga K "Strip") "cell"
  no_Strip_tail : NoAttr K (He.ga K "Strip") "tail"
  no_Strip_onward : NoAttr K (He.ga K "Strip") "onward"
  no_Strip_width : NoAttr K (He.ga K "Strip") "width"
  mk_Strip : Mk K (He.ga K "Strip") (a_Strip__init K)
  kw_Want__init : KwNon K (a_Want__init K) "halves"
  pr_evens : PropOf K (He.ga K "Want") "evens" (prA K (He.ga K "Want") "evens") (a_Want_evens K)
  pr_odds : PropOf K (He.ga K "Want") "odds" (prA K (He.ga K "Want") "odds") (a_Want_odds K)
  pr_low : PropOf K (He.ga K "Want") "low" (prA K (He.ga K "Want") "low") (a_Want_low K)
  pr_high : PropOf K (He.ga K "Want") "high" (prA K (He.ga K "Want") "high") (a_Want_high K)
  dn_Want__or : DnOk K (He.ga K "Want") "__or__" (a_Want__or K)
  dn_Want__bool : DnOk K (He.ga K "Want") "__bool__" (a_Want__bool K)
  dn_Want__eq : DnOk K (He.ga K "Want") "__eq__" (a_Want__eq K)
  kt_Web__init : KT K (d_Web__init K) []
  dn_Cell__len : DnOk K (He.ga K "Cell") "__len__" (a_Cell__len K)
  dn_Cell__eq : DnOk K (He.ga K "Cell") "__eq__" (a_Cell__eq K)
  dn_Strip__eq : DnOk K (He.ga K "Strip") "__eq__" (a_Strip__eq K)
  me_Strip_wants_of : Meth K (He.ga K "Strip") "wants_of" (a_Strip_wants_of K)
  me_Strip_web_of : Meth K (He.ga K "Strip") "web_of" (a_Strip_web_of K)
  me_Strip_mirrored : Meth K (He.ga K "Strip") "mirrored" (a_Strip_mirrored K)
  g_TooMany : mg "TooMany" = some (.ref (He.ga K "TooMany"))
  xi_TooMany : XIni K (He.ga K "TooMany") (a_TooMany__init K)
  nox_TooMany_limit : NoAttr K (He.ga K "TooMany") "limit"
  exm_TooMany : ExmOk (cn K) (.ref (He.ga K "TooMany")) [2] []
  xs : XsOk (cn K) [2]
  eq_Cell : EqOk K (He.ga K "Cell") (He.ma K (He.ga K "Cell") "__eq__")
  eq_Strip : EqOk K (He.ga K "Strip") (He.ma K (He.ga K "Strip") "__eq__")
  eq_Want : EqOk K (He.ga K "Want") (He.ma K (He.ga K "Want") "__eq__")
  sf_Want : PySem.W.selfFirst K (He.ga K "Want") = true
  isa : IsaOk (cn K) [0, 1, 3, 4]
  f_TooMany__init : ∃ fd, FunD K "__init__" "TooMany.__init__" (defArgs s_TooMany__init) (defBody s_TooMany__init) (defScope s_TooMany__init) [] [] (a_TooMany__init K) fd
  f_is_integer : ∃ fd, FunD K "is_integer" "is_integer" (defArgs s_is_integer) (defBody s_is_integer) (defScope s_is_integer) [] [] (a_is_integer K) fd
  f_is_number : ∃ fd, FunD K "is_number" "is_number" (defArgs s_is_number) (defBody s_is_number) (defScope s_is_number) [] [] (a_is_number K) fd
  f_is_count : ∃ fd, FunD K "is_count" "is_count" (defArgs s_is_count) (defBody s_is_count) (defScope s_is_count) [] [] (a_is_count K) fd
  f_merged : ∃ fd, FunD K "merged" "merged" (defArgs s_merged) (defBody s_merged) (defScope s_merged) [] [] (a_merged K) fd
  f_check_numbers : ∃ fd, FunD K "check_numbers" "check_numbers" (defArgs s_check_numbers) (defBody s_check_numbers) (defScope s_check_numbers) [] [] (a_check_numbers K) fd
  f_halves_of : ∃ fd, FunD K "halves_of" "halves_of" (defArgs s_halves_of) (defBody s_halves_of) (defScope s_halves_of) [] [] (a_halves_of K) fd
  f_Want__init : ∃ fd, FunD K "__init__" "Want.__init__" (defArgs s_Want__init) (defBody s_Want__init) (defScope s_Want__init) [] [] (a_Want__init K) fd
  f_Want_evens : ∃ fd, FunD K "evens" "Want.evens" (defArgs s_Want_evens) (defBody s_Want_evens) (defScope s_Want_evens) [] [] (a_Want_evens K) fd
  f_Want_odds : ∃ fd, FunD K "odds" "Want.odds" (defArgs s_Want_odds) (defBody s_Want_odds) (defScope s_Want_odds) [] [] (a_Want_odds K) fd
  f_Want_low : ∃ fd, FunD K "low" "Want.low" (defArgs s_Want_low) (defBody s_Want_low) (defScope s_Want_low) [] [] (a_Want_low K) fd
  f_Want_high : ∃ fd, FunD K "high" "Want.high" (defArgs s_Want_high) (defBody s_Want_high) (defScope s_Want_high) [] [] (a_Want_high K) fd
  f_Want__or : ∃ fd, FunD K "__or__" "Want.__or__" (defArgs s_Want__or) (defBody s_Want__or) (defScope s_Want__or) [] [] (a_Want__or K) fd
  f_Want__bool : ∃ fd, FunD K "__bool__" "Want.__bool__" (defArgs s_Want__bool) (defBody s_Want__bool) (defScope s_Want__bool) [] [] (a_Want__bool K) fd
  f_Want__eq : ∃ fd, FunD K "__eq__" "Want.__eq__" (defArgs s_Want__eq) (defBody s_Want__eq) (defScope s_Want__eq) [] [] (a_Want__eq K) fd
  f_is_tie : ∃ fd, FunD K "is_tie" "is_tie" (defArgs s_is_tie) (defBody s_is_tie) (defScope s_is_tie) [] [] (a_is_tie K) fd
  f_summed : ∃ fd, FunD K "summed" "summed" (defArgs s_summed) (defBody s_summed) (defScope s_summed) [] [] (a_summed K) fd
  f_grid_of : ∃ fd, FunD K "grid_of" "grid_of" (defArgs s_grid_of) (defBody s_grid_of) (defScope s_grid_of) [] [] (a_grid_of K) fd
  f_Web__init : ∃ fd, FunD K "__init__" "Web.__init__" (defArgs s_Web__init) (defBody s_Web__init) (defScope s_Web__init) [V.ref (d_Web__init K)] [] (a_Web__init K) fd
  f_is_cell_want : ∃ fd, FunD K "is_cell_want" "is_cell_want" (defArgs s_is_cell_want) (defBody s_is_cell_want) (defScope s_is_cell_want) [] [] (a_is_cell_want K) fd
  f_Cell__init : ∃ fd, FunD K "__init__" "Cell.__init__" (defArgs s_Cell__init) (defBody s_Cell__init) (defScope s_Cell__init) [V.int 0] [] (a_Cell__init K) fd
  f_Cell__len : ∃ fd, FunD K "__len__" "Cell.__len__" (defArgs s_Cell__len) (defBody s_Cell__len) (defScope s_Cell__len) [] [] (a_Cell__len K) fd
  f_Cell__eq : ∃ fd, FunD K "__eq__" "Cell.__eq__" (defArgs s_Cell__eq) (defBody s_Cell__eq) (defScope s_Cell__eq) [] [] (a_Cell__eq K) fd
  f_is_onward : ∃ fd, FunD K "is_onward" "is_onward" (defArgs s_is_onward) (defBody s_is_onward) (defScope s_is_onward) [] [] (a_is_onward K) fd
  f_inner_ties : ∃ fd, FunD K "inner_ties" "inner_ties" (defArgs s_inner_ties) (defBody s_inner_ties) (defScope s_inner_ties) [] [] (a_inner_ties K) fd
  f_Strip__init : ∃ fd, FunD K "__init__" "Strip.__init__" (defArgs s_Strip__init) (defBody s_Strip__init) (defScope s_Strip__init) [] [] (a_Strip__init K) fd
  f_Strip__eq : ∃ fd, FunD K "__eq__" "Strip.__eq__" (defArgs s_Strip__eq) (defBody s_Strip__eq) (defScope s_Strip__eq) [] [] (a_Strip__eq K) fd
  f_Strip_wants_of : ∃ fd, FunD K "wants_of" "Strip.wants_of" (defArgs s_Strip_wants_of) (defBody s_Strip_wants_of) (defScope s_Strip_wants_of) [] [] (a_Strip_wants_of K) fd
  f_Strip_web_of : ∃ fd, FunD K "web_of" "Strip.web_of" (defArgs s_Strip_web_of) (defBody s_Strip_web_of) (defScope s_Strip_web_of) [] [] (a_Strip_web_of K) fd
  f_Strip_mirrored : ∃ fd, FunD K "mirrored" "Strip.mirrored" (defArgs s_Strip_mirrored) (defBody s_Strip_mirrored) (defScope s_Strip_mirrored) [] [] (a_Strip_mirrored K) fd
  f_law_bag : ∃ fd, FunD K "_law_bag" "_law_bag" (defArgs s_law_bag) (defBody s_law_bag) (defScope s_law_bag) [] [] (a_law_bag K) fd
  f_law_take : ∃ fd, FunD K "_law_take" "_law_take" (defArgs s_law_take) (defBody s_law_take) (defScope s_law_take) [] [] (a_law_take K) fd
  f_law_want : ∃ fd, FunD K "_law_want" "_law_want" (defArgs s_law_want) (defBody s_law_want) (defScope s_law_want) [] [] (a_law_want K) fd
  f_law_cell : ∃ fd, FunD K "_law_cell" "_law_cell" (defArgs s_law_cell) (defBody s_law_cell) (defScope s_law_cell) [] [] (a_law_cell K) fd
  f_law_strip : ∃ fd, FunD K "_law_strip" "_law_strip" (defArgs s_law_strip) (defBody s_law_strip) (defScope s_law_strip) [] [] (a_law_strip K) fd
  f_law_near : ∃ fd, FunD K "_law_near" "_law_near" (defArgs s_law_near) (defBody s_law_near) (defScope s_law_near) [] [] (a_law_near K) fd
  f_law_any : ∃ fd, FunD K "_law_any" "_law_any" (defArgs s_law_any) (defBody s_law_any) (defScope s_law_any) [] [] (a_law_any K) fd
  f_law_plan : ∃ fd, FunD K "_law_plan" "_law_plan" (defArgs s_law_plan) (defBody s_law_plan) (defScope s_law_plan) [] [] (a_law_plan K) fd
  f_law_strip_ties : ∃ fd, FunD K "_law_strip_ties" "_law_strip_ties" (defArgs s_law_strip_ties) (defBody s_law_strip_ties) (defScope s_law_strip_ties) [] [] (a_law_strip_ties K) fd
  f_law_strip_lists : ∃ fd, FunD K "_law_strip_lists" "_law_strip_lists" (defArgs s_law_strip_lists) (defBody s_law_strip_lists) (defScope s_law_strip_lists) [] [] (a_law_strip_lists K) fd
  f_law_web : ∃ fd, FunD K "_law_web" "_law_web" (defArgs s_law_web) (defBody s_law_web) (defScope s_law_web) [] [] (a_law_web K) fd
  f_law_turned : ∃ fd, FunD K "_law_turned" "_law_turned" (defArgs s_law_turned) (defBody s_law_turned) (defScope s_law_turned) [] [] (a_law_turned K) fd
  f_law_ties_of : ∃ fd, FunD K "_law_ties_of" "_law_ties_of" (defArgs s_law_ties_of) (defBody s_law_ties_of) (defScope s_law_ties_of) [] [] (a_law_ties_of K) fd
  f_law_is_laid : ∃ fd, FunD K "_law_is_laid" "_law_is_laid" (defArgs s_law_is_laid) (defBody s_law_is_laid) (defScope s_law_is_laid) [] [] (a_law_is_laid K) fd
  f_law : ∃ fd, FunD K "law" "law" (defArgs s_law) (defBody s_law) (defScope s_law) [] [] (a_law K) fd
end CL
set_option maxHeartbeats 4000000
/-! DM28: the head's Hook, its objects gathered by a walk that marks what it has seen in one number. -/
namespace CT
open PySem L2 PySem.Spec PyProof.Rows
theorem obGb_eq {n : Nat} {fs : List (PySem.W.Frag → Bool)} {fn : List DefX} (s : PySem.W.SharedT) : obGb n fs fn (HandSHeadRun.getT s) = (hookXb n fs fn).obs s.abs := by
  have e : HandSHeadRun.getT s = s.abs.heap.get? := funext (HandSHeadRun.getT_eq s)
  rw [e]
  rfl
end CT
set_option maxHeartbeats 0
namespace CL
open PySem L2 PySem.Spec PyProof.Rows CT
section
open HandSHeadRun PySem.W PySem.Calls
end
end CL
set_option maxHeartbeats 4000000
/-! DM3: is True; t * n; bool(o) by the class's own __bool__; a or b of tuples, bool(t). -/
namespace CT
open PySem L2 PySem.Spec PyProof.Rows
section
variable {X : Cx}
theorem op_notB : OpR X (compareOp .IsNot) (fun x y H Q => ∃ a b, x = .bl a ∧ y = .bl b ∧ Q (.bl (!decide (a = b))) H) := by
  intro pins s σ H x y v u Q I rx ry h
  obtain ⟨a, b, rfl, rfl, q⟩ := h
  cases rx
  cases ry
  refine isnot_bool (L2.fin_bl I q ?_)
  cases a <;> cases b <;> rfl
end
def oIsB (neg : Bool) : O2 := fun x y C => match x, y with
  | .bl a, .bl b => some (.bl (if neg = true then !decide (a = b) else decide (a = b)), C)
  | _, _ => none
theorem d_notB {k : Cn} : OpD k (fun x y H Q => ∃ a b, x = .bl a ∧ y = .bl b ∧ Q (.bl (!decide (a = b))) H) (oIsB true) := by
  intro fl A C H x y dx dy d C' Q hf hl st rx ry e q
  unfold oIsB at e
  split at e
  · cases rx; cases ry; cases e
    exact ⟨_, _, rfl, rfl, q A H _ Stp.refl st (.bl _)⟩
  · cases e
/-! ### t * n -/
def oRepT : O2 := fun x y C => match vT x, y with
  | some xs, .int n => if (decide (2 ≤ n) && (decide (n ≤ 1000) && (!xs.isEmpty && decide (xs.length ≤ 1000)))) = true then some (.tup (List.replicate n.toNat xs).flatten, C) else none
  | _, _ => none
theorem d_repT {k : Cn} : OpD k (rRepT k.K) oRepT := by
  intro fl A C H x y dx dy d C' Q hf hl st rx ry e q
  unfold oRepT at e
  split at e
  · rename_i xs n e1
    split at e
    · rename_i hz
      simp only [Bool.and_eq_true, decide_eq_true_eq, Bool.not_eq_true'] at hz
      obtain ⟨a, vs, rfl, ha, rv⟩ := vT_at rx e1
      have hlen := rv.length
      cases ry
      cases e
      refine ⟨a, n, vs, rfl, rfl, ha, fun z => ?_, hz.1, hz.2.1, by omega, fun p hp => ?_⟩
      · subst z
        have : xs = [] := List.length_eq_zero_iff.mp (by simpa using hlen.symm)
        rw [this] at hz
        simp at hz
      · obtain ⟨w1, w2, w3⟩ := fresh_T (fl := fl) st (rv.rep n.toNat) hp
        exact q A _ _ w1 w2 w3
    · cases e
  · cases e
/-! ### a or b of tuples; bool(t) -/
def mOrT (ma mb : ME) : ME := fun F C => bnd (ma F C) fun x C1 => match vT x with
  | some xs => if xs.isEmpty = true then mb F C1 else .ok x C1
  | none => .stuck
section
variable {X : Cx} {k : Cn} {W : WX} {σ : L2.St} {H : Hp} {Q : VK} {a b : Expr} {rest : List Expr} {pos : Pos} {ma mb : ME}
theorem isE {A : Nat → Addr} {C : Store} {vs : List V} {xs : List D} (r : RepL k A C H vs xs) : vs.isEmpty = xs.isEmpty := by
  cases r <;> rfl
theorem le_orT (h : LE k W (mOrT ma mb) σ H Q) : tOrT k.K (LE k W ma) (LE k W mb) σ H Q := by
  obtain ⟨A, F, C, s, h⟩ := h
  refine ⟨A, F, C, s, (Aft.bnd (rel := RepD k) h).mono fun dx C1 A1 H1 v p1 st1 r1 h1 => ?_⟩
  have s1 := s.step p1 st1
  split at h1
  · rename_i xs ev
    obtain ⟨p, vs, rfl, hp, rv⟩ := vT_at r1 ev
    refine ⟨!vs.isEmpty, .inr (.inl ⟨vs, hp, rfl⟩), ?_⟩
    rw [isE rv]
    cases he : xs.isEmpty with
    | true =>
      rw [he] at h1
      exact ⟨A1, F, C1, s1, h1⟩
    | false =>
      rw [he] at h1
      exact h1 A1 H1 _ Stp.refl st1 r1
  · exact h1.elim
theorem de_orT (hK : X.K = k.K) (ha : PE X a (LE k W ma)) (hb : PE X b (LE k W mb)) : PE X (.BoolOp .Or [a, b] pos) (LE k W (mOrT ma mb)) :=
  (pe_orT ha (pe_one hb)).cq fun _ _ _ h => by rw [hK]; exact le_orT h
end
theorem meets_bool_tup (l : Addr) (items : Array Value) (hfit : (items.size : Int) < 2 ^ 63) :
    Meets (Builtin.«bool.__new__» ⟨[.type "bool", .ref l], []⟩) (fun _ R s => IsTup s.heap l items ∧ R (.ok (.ret (.bool (!items.isEmpty)))) { s with toks := s.toks + 1 + 1 }) :=
  Meets.of_wp fun prog w A R s hs => by
    obtain ⟨hl, hs⟩ := hs
    obtain ⟨hp, g, d, tk, os⟩ := s
    have f1 := PySem.F.conv_sub_bool
    repeat (any_goals (first | assumption | (with_reducible refine truthy_tuple hl hfit ?_) | wp_step))
    all_goals first | exact ⟨_, rfl, hs⟩ | exact hs | skip
theorem call_boolT {X : Cx} : CallR X (.type "bool") (fun xs H Q => ∃ (a : Addr) (zs : List V), xs = [.ref a] ∧ SqT X.K H a zs ∧ Q (.bl (!zs.isEmpty)) H) := by
  intro pins s σ H xs us Q I r h
  obtain ⟨a, zs, rfl, hq, q⟩ := h
  obtain rfl := Vals.ref1 r
  obtain ⟨its, rv, pl, hz⟩ := I.tuple hq
  have hl := line63
  have hlen := rv.length
  refine call_bool_1 (meets_bool_tup a its.toArray (by simp only [List.size_toArray]; omega)) ⟨pl, rfl, ?_⟩
  exact ⟨.bl (!zs.isEmpty), H, I.tok _, by rw [isEmpty_of rv]; rfl, q⟩
def oBoolT : OA := fun xs C => match xs with
  | [x] => (vT x).map fun ys => (.bl (!ys.isEmpty), C)
  | _ => none
theorem d_boolT {k : Cn} : ApD k (fun xs H Q => ∃ (a : Addr) (zs : List V), xs = [.ref a] ∧ SqT k.K H a zs ∧ Q (.bl (!zs.isEmpty)) H) oBoolT := by
  intro fl A C H x dx d C' Q hf hl st rx e q
  cases rx with
  | nil => cases e
  | cons r t =>
    cases t with
    | cons _ _ => cases e
    | nil =>
      simp only [oBoolT, Option.map_eq_some_iff] at e
      obtain ⟨ys, ev, e⟩ := e
      obtain ⟨a, vs, rfl, ha, rv⟩ := vT_at r ev
      cases e
      exact ⟨a, vs, rfl, ha, by rw [isE rv]; exact q A H _ Stp.refl st (.bl _)⟩
end CT
set_option maxHeartbeats 4000000
/-! DM4: bool(o) by the class's own __bool__. -/
namespace CT
open PySem L2 PySem.Spec PyProof.Rows
section
variable {prog : Program} {w : World} {A : Around} {E : Value → Shared → Prop} {s : Shared} {K : PySem.W.Frag} {x C f : Addr} {ox : Obj} {od : Option Obj}
theorem truthy_own {M : Model} {Q : Bool → Shared → Prop} (X : K.In s.heap) (I : PySem.W.InstAt s.heap x ox C od) (hs : PySem.W.findIn K (.ref C) "__bool__" = some (some (.ref f))) (hf : PySem.W.isFn K (.ref f) = true)
    (h : wpAny M A (call (.ref f) [.ref x]) (PySem.W.BoolBack Q) E s) : wpAny M A (truthy (.ref x)) Q E s := by
  unfold truthy
  refine wpAny_bind (m := callSpecial? (.ref x) (Str.ofString "__bool__")) (PySem.W.special_fn X I hs (beq_iff_eq.mp hf) (wpAny_mono h (fun r s' hr => ?_) fun _ _ y => y))
  cases r <;> first | exact hr.elim | skip
  exact wpAny_pure hr
theorem bool_new_tree (v : Value) : Builtin.«bool.__new__» ⟨[.type "bool", v], []⟩ = (do
    if !(← isType (.type "bool")) then
      rule "bool.__new__.no-type"; raiseError "TypeError" s!"bool.__new__(X): X is not a type object ({← typeNameOf (.type "bool")})"
    if !(← isSubtype (.type "bool") (.type "bool")) then
      rule "bool.__new__.no-subtype"; raiseError "TypeError" s!"bool.__new__({← typeName (.type "bool")}): {← typeName (.type "bool")} is not a subtype of bool"
    match ← PySem.someArgs "bool" 0 1 ⟨[v], []⟩ with
    | x :: _ => ret (.bool (← truthy x))
    | [] => ret (.bool false)) := rfl
theorem some1 (v : Value) : PySem.someArgs "bool" 0 1 ⟨[v], []⟩ = pure [v] := by
  kernel_rfl
theorem kbo_call {Q : Value → Shared → Prop} (X : K.In s.heap) (I : PySem.W.InstAt s.heap x ox C od) (hs : PySem.W.findIn K (.ref C) "__bool__" = some (some (.ref f))) (hf : PySem.W.isFn K (.ref f) = true)
    (h : wpAny (model prog w) A.in1.in1 (call (.ref f) [.ref x]) (PySem.W.BoolBack fun b s' => Q (.bool b) s') E s) : wpAny (model prog w) A (call (.type "bool") [.ref x]) Q E s := by
  refine callType_codes (T := "bool") (Bi := Builtin.«object.__init__») (Q₁ := fun r s₁ => ∃ y, r = .bool y ∧ Q r s₁) PySem.F.called_bool (PySem.F.typeCall_bool_1 _) PySem.F.entry_object_init ?_ ?_
  · refine codeAny_of_tree ?_
    show wpAny _ A.in1.in1 (do checkBuiltinCall "bool.__new__" ⟨[.type "bool", .ref x], []⟩; again (.builtin "bool.__new__" ⟨[.type "bool", .ref x], []⟩)) _ _ s
    refine wpAny_bind (wpAny_of_eq (PySem.F.newCall_bool_1 _) (wpAny_pure ⟨plainId_quiet (by decide +kernel) _, codeAny_builtin PySem.F.entry_bool_new ?_⟩))
    rw [Around.under_plainId (by decide +kernel) _]
    rw [bool_new_tree]
    refine wpAny_bind (wpAny_pure ?_)
    refine wpAny_bind (wpAny_of_eq PySem.F.conv_sub_bool ?_)
    refine wpAny_bind (wpAny_of_eq (some1 _) ?_)
    refine wpAny_bind (wpAny_mono (truthy_own X I hs hf (Q := fun b s₁ => Q (.bool b) s₁) h) (fun r s₁ hr => wpAny_pure ⟨_, rfl, hr⟩) fun _ _ y => y)
  · rintro obj s₁ ⟨y, rfl, hq⟩
    exact ⟨PySem.typeIs_bool _ _, PySem.F.args_object_init_2 _ _, object_init_meets PySem.F.called_bool.init.lookup PySem.F.called_bool.made (by decide) prog w A.in1 _ s₁ ⟨PySem.typeIs_bool _ _, rfl, hq⟩⟩
end
/-! ### bool(o) -/
def mBoolO (c : Nat) (m : MF) (me : ME) : ME := fun F C => bnd (me F C) fun x C1 => match vO x C1 with
  | some (c', _) => if c' = c then (match m [x] C1 with
    | .ok (.bl s) C2 => .ok (.bl s) C2
    | _ => .stuck) else .stuck
  | none => .stuck
section
variable {X : Cx} {k : Cn} {W : WX} {σ : L2.St} {H : Hp} {Q : VK} {me : ME} {e : Expr} {pos p : Pos} {lev : Nat} {g : Addr} {fd : FuncData} {ps : List Str} {m : MF}
theorem de_boolO (c : Nat) (tk : Takes X W) (hK : X.K = k.K) (he : PE X e (LE k W me)) (hs' : PySem.W.findIn k.K (.ref (k.cl c)) "__bool__" = some (some (.ref g))) (hf : PySem.W.isFn k.K (.ref g) = true) (F : FnG X.prog X.w X.K X.mg X.base lev g fd ps (SpD k 1 m)) (ar : Ar 1 m) (hr : RoomG (lev + 2) X.A) (hb : Binds X.K fd ps [])
    (hg : Gl X "bool") (hm : X.mg "bool" = none) (hs : starEach [e] X.env = (false, eval e X.env) :: starEach [] X.env := by rfl) (hpl : (backTo pos (starEach [] X.env)).any (·.1) = false := by rfl) :
    PE X (.Call (.Name "bool" p) [e] [] pos) (LE k W (mBoolO c m me)) := by
  refine ⟨fun pins s σ H Q I h => ?_⟩
  refine wpAny_Call_Name_kw (ld_blt I hg hm (u := .type "bool") (by decide +kernel) ?_ (by decide) (by decide))
  have h' : tCons (LE k W me) tNil σ H (fun vs H1 => ∃ v, vs = [v] ∧ ∃ a dx fs, v = .ref a ∧ H1 a = some (.ins (k.cl c) dx fs) ∧ SpD k 1 m [v] H1 (fun z H2 => ∃ t, z = .bl t ∧ Q (.bl t) H2) (WE W σ)) := by
    obtain ⟨A, F', C, s', h⟩ := h
    refine ⟨A, F', C, s', (Aft.bnd (rel := RepD k) h).mono fun dx C1 A1 H1 v p1 st1 r1 h1 => ?_⟩
    have s1 := s'.step p1 st1
    split at h1
    · rename_i c' fs ev
      split at h1
      · rename_i hcc
        subst hcc
        obtain ⟨a, dx', vs, rfl, ha, hle, rv⟩ := vO_at st1 r1 ev
        refine ⟨_, rfl, a, dx', _, rfl, ha, sp_of s1.fl ar st1 (.cons r1 .nil) ?_⟩
        cases em : m [dx] C1 with
        | ok d C2 =>
          rw [em] at h1
          intro A2 H2 z p2 st2 rz
          cases rz with
          | bl t => exact ⟨t, rfl, h1 A2 H2 _ p2 st2 (.bl _)⟩
          | _ => exact h1.elim
        | exc e C2 => rw [em] at h1; exact h1.elim
        | stuck => rw [em] at h1; exact h1.elim
      · exact h1.elim
    · exact h1.elim
  refine PyProof.Rows.callWith_type1 (thn ((pa_cons he pa_nil hs).run pos pins s σ H _ I h') fun us s1 ⟨vs, H1, I1, r1, v, ev, a, dx, fs, ea, ha, q1⟩ => ?_) hs hpl
  subst ev
  subst ea
  obtain ⟨u, rfl, ru⟩ := Vals.one r1
  cases (show u = Value.ref a from ru)
  obtain ⟨mA, O, _, _, _, _⟩ := ins_get I1.hok ha
  obtain ⟨od, J, _⟩ := O.look
  refine kbo_call I1.kIn J (by rw [hK]; exact hs') (by rw [hK]; exact hf) ?_
  refine wpAny_mono (run_in2 (us := [.ref a]) (vs := [.ref a]) F hr hb (passAt tk σ) I1 (.cons rfl .nil) q1) (fun z' s' hz => ?_) fun _ _ z => z
  obtain ⟨z, H', I', rz, t, ez, qz⟩ := hz
  subst ez
  cases rz
  exact ⟨.bl t, H', I', rfl, qz⟩
end
end CT
set_option maxHeartbeats 4000000
/-! DM5: zip of two tuples; min and max of a list of ints with a default. -/
namespace CT
open PySem L2 PySem.Spec PyProof.Rows RZ
end CT
set_option maxHeartbeats 4000000
/-! DM6: min and max of a list of ints with a default. -/
namespace CT
open PySem L2 PySem.Spec PyProof.Rows
def rMinD (f : Int → Int → Int) (K : PySem.W.Frag) : List V → List V → Hp → VK → Prop := fun xs zs H Q => ∃ (a : Addr) (ns : List Int) (z : V), xs = [.ref a] ∧ zs = [z] ∧ SqL K H a (ns.map V.int) ∧ (match ns with
  | [] => Q z H
  | y :: ys => Q (.int (ys.foldl f y)) H)
section
variable {X : Cx}
theorem reads_int {h : Heap} {v : Value} {n : Int} {bs : List Addr} (r : Reads h v (.int n) bs) : ∃ t, v = .int n t := by
  cases r
  exact ⟨_, rfl⟩
theorem dep_ints : ∀ ns : List Int, PyData.depthAll (ns.map .int) = 0
  | [] => rfl
  | n :: ns => by
    have := dep_ints ns
    simp only [List.map_cons, PyData.depthAll, PyData.depth, this]
    omega
theorem alike_ints (ns : List Int) : PySem.W.AlikeAll (ns.map .int) := by
  refine ⟨fun x hx y hy => ?_, fun x hx => ?_⟩
  · obtain ⟨a, _, rfl⟩ := List.mem_map.mp hx
    obtain ⟨b, _, rfl⟩ := List.mem_map.mp hy
    rfl
  · obtain ⟨a, _, rfl⟩ := List.mem_map.mp hx
    simp
theorem cr_minD (hr : X.A.handled = none) (hu : X.A.units + 200 < cLine) : CallRK X (.builtin "min") ["default"] (rMinD min X.K) := by
  intro pins s σ H xs zs us ws Q I r1 r2 h
  obtain ⟨a, ns, z, rfl, rfl, hq, q⟩ := h
  obtain rfl := Vals.ref1 r1
  obtain ⟨its, rv, pl, hz⟩ := I.list hq
  have ia : IntsAre its ns := ints_are rv
  obtain ⟨d, rfl, rd⟩ := Vals.one r2
  have hd := dep_ints ns
  refine PySem.W.min_list_default hr pl.isList (ia.reads _) ?_ (by rw [hd]; omega) (fun e h' tk hk => ?_) (fun y ys i v h' tk bs e hv hrd hk => ?_)
  · exact alike_ints ns
  · have : ns = [] := by simpa using e
    subst this
    exact ⟨z, H, I.kept (t' := tk) hk, rd, q⟩
  · cases ns with
    | nil => cases e
    | cons n ns =>
      simp only [List.map_cons, List.cons.injEq] at e
      obtain ⟨rfl, rfl⟩ := e
      rw [PySem.W.minD_ints] at hrd
      obtain ⟨t, rfl⟩ := reads_int hrd
      exact ⟨.int _, H, I.kept (t' := tk) hk, ⟨t, rfl⟩, q⟩
theorem cr_maxD (hr : X.A.handled = none) (hu : X.A.units + 200 < cLine) : CallRK X (.builtin "max") ["default"] (rMinD max X.K) := by
  intro pins s σ H xs zs us ws Q I r1 r2 h
  obtain ⟨a, ns, z, rfl, rfl, hq, q⟩ := h
  obtain rfl := Vals.ref1 r1
  obtain ⟨its, rv, pl, hz⟩ := I.list hq
  have ia : IntsAre its ns := ints_are rv
  obtain ⟨d, rfl, rd⟩ := Vals.one r2
  have hd := dep_ints ns
  refine PySem.W.max_list_default hr pl.isList (ia.reads _) ?_ (by rw [hd]; omega) (fun e h' tk hk => ?_) (fun y ys i v h' tk bs e hv hrd hk => ?_)
  · exact alike_ints ns
  · have : ns = [] := by simpa using e
    subst this
    exact ⟨z, H, I.kept (t' := tk) hk, rd, q⟩
  · cases ns with
    | nil => cases e
    | cons n ns =>
      simp only [List.map_cons, List.cons.injEq] at e
      obtain ⟨rfl, rfl⟩ := e
      rw [PySem.W.maxD_ints] at hrd
      obtain ⟨t, rfl⟩ := reads_int hrd
      exact ⟨.int _, H, I.kept (t' := tk) hk, ⟨t, rfl⟩, q⟩
end
def mMnD (f : Int → Int → Int) (ma md : ME) : ME := fun F C => bnd (ma F C) fun x C1 => bnd (md F C1) fun z C2 => match (vL x C2).bind dInts with
  | some [] => .ok z C2
  | some (y :: ys) => .ok (.int (ys.foldl f y)) C2
  | none => .stuck
section
variable {X : Cx} {k : Cn} {W : WX} {σ : L2.St} {H : Hp} {Q : VK} {ma md : ME} {f : Int → Int → Int} {e d : Expr} {p pos kpos : Pos} {x : Str} {id : String}
theorem le_mnD (h : LE k W (mMnD f ma md) σ H Q) : tCKw (rMinD f k.K) (tCons (LE k W ma) tNil) (tCons (LE k W md) tNil) σ H Q := by
  obtain ⟨A, F, C, s, h⟩ := h
  refine ⟨A, F, C, s, (Aft.bnd (rel := RepD k) h).mono fun dx C1 A1 H1 v p1 st1 r1 h1 => ?_⟩
  have s1 := s.step p1 st1
  refine ⟨A1, F, C1, s1, (Aft.bnd (rel := RepD k) h1).mono fun dz C2 A2 H2 z p2 st2 r2 h2 => ?_⟩
  have r1' := p2.rep _ _ r1
  split at h2
  · rename_i ei
    obtain ⟨l, e1, e2⟩ := Option.bind_eq_some_iff.mp ei
    obtain ⟨q, vs, rfl, hq, rv⟩ := vL_at st2 r1' e1
    rw [dInts_eq e2] at rv
    have := RepL.ints_inv rv
    subst this
    exact ⟨q, [], z, rfl, rfl, .inl (.inl hq), h2 A2 H2 _ Stp.refl st2 r2⟩
  · rename_i y ys ei
    obtain ⟨l, e1, e2⟩ := Option.bind_eq_some_iff.mp ei
    obtain ⟨q, vs, rfl, hq, rv⟩ := vL_at st2 r1' e1
    rw [dInts_eq e2] at rv
    have := RepL.ints_inv rv
    subst this
    exact ⟨q, y :: ys, z, rfl, rfl, .inl (.inl hq), h2 A2 H2 _ Stp.refl st2 (.int _)⟩
  · exact h2.elim
theorem de_mnD (hK : X.K = k.K) (hc : CallRK X (.builtin id) [("default" : Str)] (rMinD f X.K)) (hg : Gl X x) (hm : X.mg x = none) (hv : bootBuiltins x = some (.builtin id)) (he : PE X e (LE k W ma)) (hd : PE X d (LE k W md)) (hn : x ≠ "__name__" := by decide) (hdb : (x == ("__debug__" : Str)) = false := by decide)
    (hs : starEach [e] X.env = (false, eval e X.env) :: starEach [] X.env := by rfl)
    (h1 : backTo pos (starEach [e] X.env) = (false, eval e X.env) :: backTo pos (starEach [] X.env) := by rfl) (hpl : (backTo pos (starEach [e] X.env)).any (·.1) = false := by rfl)
    (hall : (backToKw pos (keywordEach [⟨some "default", d, kpos⟩] X.env)).all (·.1.isSome) = true := by rfl) (hnone : (backToKw pos (keywordEach [⟨some "default", d, kpos⟩] X.env)).any (·.1.isNone) = false := by rfl) (hks : (backToKw pos (keywordEach [⟨some "default", d, kpos⟩] X.env)).filterMap (·.1) = [("default" : Str)] := by rfl) :
    PE X (.Call (.Name x p) [e] [⟨some "default", d, kpos⟩] pos) (LE k W (mMnD f ma md)) :=
  (pe_callBK hc hg hm hv (pa_cons he pa_nil hs) (pk_cons hd pk_nil) hn hdb h1 hpl hall hnone hks).cq fun _ _ _ h => by rw [hK]; exact le_mnD h
end
end CT
set_option maxHeartbeats 4000000
/-! DM7: x + k, k + x, x - k, k - x, -x for an own x and an int k. -/
namespace CT
open PySem L2 PySem.Spec PyProof.Rows PySem.W
end CT
set_option maxHeartbeats 4000000
/-! DM8: list(range(a, b, 2)); sorted(set(xs)), len(set(xs)) of up to 4,000 ints. -/
namespace CT
open PySem L2 PySem.Spec PyProof.Rows
def rn2 (a b : Int) : Nat := ((b - a + 1) / 2).toNat
def rgI2 (a b : Int) : List Int := (List.range (rn2 a b)).map fun i => a + (i : Nat) * 2
/-! ### sets of more ints -/
end CT
set_option maxHeartbeats 4000000
/-! DM9: xs[i], ys[j] = e, f. -/
namespace CT
open PySem L2 PySem.Spec PyProof.Rows
end CT
set_option maxHeartbeats 4000000
/-! DM10: a def that hands back an own list, as an equation. -/
namespace CT
open PySem L2
end CT
set_option maxHeartbeats 4000000
/-! DM11: {x for u in a if .. for x in b if ..} of ints, two clauses; its members in a list beside the heap. -/
namespace CT
open PySem L2 PySem.Spec PyProof.Rows
/-- the set at D holds the ints of acc -/
def SetI (w : World) (h : Heap) (D : Addr) (acc : List Int) : Prop := ∃ c, c ≤ acc.length ∧ SetR w h D (fun j => decide (j ∈ acc)) c
theorem SetI.at {w : World} {h h' : Heap} {D : Addr} {acc : List Int} (R : SetI w h D acc) (k : ∀ o, h.get? D = some o → h'.get? D = some o) : SetI w h' D acc := by
  obtain ⟨c, hc, R⟩ := R
  exact ⟨c, hc, R.at k⟩
theorem SetI.obj {w : World} {h : Heap} {D : Addr} {acc : List Int} (R : SetI w h D acc) : ∃ o, h.get? D = some o ∧ ∀ v, o.data ≠ .cell v := by
  obtain ⟨c, hc, o, es, ep, t, ho, hx, hd, _⟩ := R
  exact ⟨o, ho, fun v z => by rw [hd] at z; cases z⟩
end CT
set_option maxHeartbeats 4000000
/-! DM12: sorted({x for u in a if .. for x in b if ..}) over data. -/
namespace CT
open PySem L2 PySem.Spec PyProof.Rows
end CT
set_option maxHeartbeats 4000000
/-! DM13: min and max of one list of ints, not empty. -/
namespace CT
open PySem L2 PySem.Spec PyProof.Rows
end CT
set_option maxHeartbeats 4000000
/-! DM14: in, not in by an own __contains__, as values and as tests. -/
namespace CT
open PySem L2 PySem.Spec PyProof.Rows
end CT
set_option maxHeartbeats 4000000
/-! DM15: == and != of two lists of own objects that are equal item by item. -/
namespace CT
open PySem L2 PySem.Spec PyProof.Rows
section
variable {X : Cx} {k : Cn} {W : WX} {σ : L2.St} {H : Hp} {Q : VK} {lev np : Nat} {C g : Addr} {fd : FuncData} {ps : List Str} {m : MF} {o b : Expr} {pos : Pos} {mo me : ME} {E : L2.St → XK} {sp : Sp}
/-- one turn: == of two own objects below the running body -/
theorem eq_turn {p q : Addr} {dx dy : Addr} {fs gs : List (Str × V)} {pins : List (Addr × Obj)} {s : Shared} {P : Hp → Prop} (hs : PySem.W.findIn X.K (.ref C) "__eq__" = some (some (.ref g))) (hf : PySem.W.isFn X.K (.ref g) = true) (F : FnG X.prog X.w X.K X.mg X.base lev g fd ps sp) (hr : RoomG (lev + 1) X.A) (hb : Binds X.K fd ps []) (hx : PassesAt (L2.CX X.prog X.w) X σ (E σ))
    (I : Inv X pins σ H s) (ha : H p = some (.ins C dx fs)) (hb' : H q = some (.ins C dy gs)) (same : P H) (run : sp [.ref p, .ref q] H (fun z H'' => z = .bl true ∧ P H'') (E σ)) :
    wpAny (model X.prog X.w) X.A.in1 (eqBool (.ref p) (.ref q)) (fun r s' => r = true ∧ ∃ H', Inv X pins σ H' s' ∧ P H') X.xe s := by
  by_cases hpq : p = q
  · subst hpq
    exact SeqAt.EqAt.same (A := X.A.in1) (s := s) (.ref p) X.prog X.w X.xe _ ⟨rfl, H, I, same⟩
  refine GQ.eqBool_refG hpq ?_
  obtain ⟨mA, J, _⟩ := ins_get I.hok ha
  obtain ⟨mB, J', _⟩ := ins_get I.hok hb'
  obtain ⟨od, J, _⟩ := J.look
  obtain ⟨od', J', _⟩ := J'.look
  obtain ⟨mm, hF⟩ := I.fr
  refine PySem.W.cmp_K (op := .Eq) (tb := .ref C) hr.in1.room.units0 hF I.ok.mod.kin J J'.type (by simp [PySem.W.notFirst]) hs hf ?_
  have e0 : Env0 X.prog X.w X.K X.mg X.base X.A.in1 X.stack s H := by
    have e := I.env0
    exact ⟨e.frames, e.mod, e.bs, e.bsz, e.funs, e.frf, e.hok, e.bare⟩
  have hl := F.len _ _ _ _ run
  have r2 : Vals [V.ref p, V.ref q] [Value.ref p, Value.ref q] := .cons rfl (.cons rfl .nil)
  refine wpAny_call (codeAny_mono (F.run X.A.in1 X.stack s H ⟨[.ref p, .ref q], []⟩ [.ref p, .ref q] [.ref p, .ref q] _ (E σ) hr.in1 e0 (by
    have := hb s [.ref p, .ref q] I.kIn (by simpa using hl)
    simpa using this) r2 run) fun r s' hq => ?_)
  cases r with
  | error e => exact hx pins H s e s' I hq
  | ok fl =>
    cases fl with
    | ret w =>
      obtain ⟨z, H', I', rz, ez, ex⟩ := I.after hq
      subst ez
      cases rz
      exact ⟨true, rfl, rfl, H', I', ex⟩
    | next => exact False.elim hq
    | brk => exact False.elim hq
    | cont => exact False.elim hq
end
end CT
set_option maxHeartbeats 4000000
/-! DM16: an own object as a test, by the class's own __bool__. -/
namespace CT
open PySem L2 PySem.Spec PyProof.Rows
end CT
set_option maxHeartbeats 4000000
/-! DM17: xs.reverse(). -/
namespace CT
open PySem L2 PySem.Spec PyProof.Rows
end CT
set_option maxHeartbeats 4000000
/-! DM18: while, of at most so many turns. -/
namespace CT
open PySem L2
end CT
set_option maxHeartbeats 4000000
/-! DM19: a def that hands back data with own lists and dicts inside: all become plain data. -/
namespace CT
open PySem L2 PySem.Spec PyProof.Rows
end CT
set_option maxHeartbeats 4000000
/-! DM20: == of two tuples of own objects that are equal item by item. -/
namespace CT
open PySem L2 PySem.Spec PyProof.Rows
section
variable {X : Cx} {k : Cn} {W : WX} {σ : L2.St} {H : Hp} {Q : VK} {lev np : Nat} {C g : Addr} {fd : FuncData} {ps : List Str} {m : MF} {o b : Expr} {pos : Pos} {mo me : ME} {E : L2.St → XK} {sp : Sp}
/-- two tuples of own objects: what each turn says -/
def rEqT (K : PySem.W.Frag) (C : Addr) (sp : Sp) (E : L2.St → XK) : L2.St → R2 := fun σ x y H Q => ∃ (a b : Addr) (xs ys : List V) (J : Nat → Hp → Prop), x = .ref a ∧ y = .ref b ∧ SqT K H a xs ∧ SqT K H b ys ∧ xs.length = ys.length ∧ J 0 H ∧
  (∀ i H', J i H' → ∀ u v, xs[i]? = some u → ys[i]? = some v → ∃ p q dx dy fs gs, u = .ref p ∧ v = .ref q ∧ H' p = some (.ins C dx fs) ∧ H' q = some (.ins C dy gs) ∧ J (i + 1) H' ∧ sp [u, v] H' (fun z H'' => z = .bl true ∧ J (i + 1) H'') (E σ)) ∧
  ∀ H', J xs.length H' → Q (.bl true) H'
theorem op_eqTs (hs : PySem.W.findIn X.K (.ref C) "__eq__" = some (some (.ref g))) (hf : PySem.W.isFn X.K (.ref g) = true) (F : FnG X.prog X.w X.K X.mg X.base lev g fd ps sp) (hr : RoomG (lev + 1) X.A) (hb : Binds X.K fd ps []) (hx : ∀ σ, PassesAt (L2.CX X.prog X.w) X σ (E σ)) :
    OpX X (compareOp .Eq) (rEqT X.K C sp E) := by
  intro pins s σ H x y v u Q I rx ry h
  obtain ⟨a, b, xs, ys, J, rfl, rfl, ha, hb', hl, j0, st, fin⟩ := h
  cases (show v = Value.ref a from rx)
  cases (show u = Value.ref b from ry)
  obtain ⟨its, r, p, _⟩ := I.tuple ha
  obtain ⟨its2, r2, p2, _⟩ := I.tuple hb'
  show wpAny (model X.prog X.w) X.A (richCompare .Eq (.ref a) (.ref b)) (EP X pins σ Q) X.xe s
  refine GQ.rc_tupG (items := its.toArray) (items2 := its2.toArray) (by rw [List.size_toArray, List.size_toArray, ← r.length, ← r2.length, hl]) hr.room.units0 (fun i s' => ∃ H', Inv X pins σ H' s' ∧ J i H') p p2 (fun i k1 k2 s' q => ?_) (fun s' q => ?_) ⟨H, I, j0⟩
  · obtain ⟨H1, I1, j1⟩ := q
    have g1 : its[i]? = some its.toArray[i] := by
      have k1' : i < its.length := by simpa using k1
      rw [List.getElem?_eq_getElem k1'] <;> simp
    have g2 : its2[i]? = some its2.toArray[i] := by
      have k2' : i < its2.length := by simpa using k2
      rw [List.getElem?_eq_getElem k2'] <;> simp
    have m1 : i < xs.length := by rw [r.length]; simpa using k1
    have m2 : i < ys.length := by rw [r2.length]; simpa using k2
    obtain ⟨u, hu, ru⟩ := r.get (List.getElem?_eq_getElem m1)
    obtain ⟨v, hv, rv⟩ := r2.get (List.getElem?_eq_getElem m2)
    rw [g1] at hu
    rw [g2] at hv
    obtain ⟨p, q, dx, dy, fs, gs, eu, ev, hp, hq, same, run⟩ := st i H1 j1 _ _ (List.getElem?_eq_getElem m1) (List.getElem?_eq_getElem m2)
    rw [eu] at ru
    rw [ev] at rv
    rw [eu, ev] at run
    rw [Option.some.inj hu, Option.some.inj hv, show u = Value.ref p from ru, show v = Value.ref q from rv]
    exact eq_turn hs hf F hr hb (hx σ) I1 hp hq same run
  · obtain ⟨H', I', j⟩ := q
    have e : its.toArray.size = xs.length := by rw [List.size_toArray, ← r.length]
    rw [e] at j
    exact ⟨.bl true, H', I', rfl, fin H' j⟩
/-- all pairs are own objects of the class, equal by m -/
def AllEqT (c : Nat) (m : MF) (x y : D) (C : Store) : Prop := ∃ xs ys, vT x = some xs ∧ vT y = some ys ∧ xs.length = ys.length ∧ ∀ (i : Nat) (a b : D), xs[i]? = some a → ys[i]? = some b → isC c a C = true ∧ isC c b C = true ∧ m [a, b] C = .ok (.bl true) C
open Classical in
noncomputable def mEqTs (c : Nat) (m : MF) (mo me : ME) : ME := fun F C => bnd (mo F C) fun x C1 => bnd (me F C1) fun y C2 => if AllEqT c m x y C2 then .ok (.bl true) C2 else .stuck
theorem le_eqTs {c : Nat} (ar : Ar np m) (h : LE k W (mEqTs c m mo me) σ H Q) : tOpX (rEqT k.K (k.cl c) (SpD k np m) (WE W)) (LE k W mo) (LE k W me) σ H Q := by
  obtain ⟨A, F, C, s, h⟩ := h
  refine ⟨A, F, C, s, (Aft.bnd (rel := RepD k) h).mono fun dx C1 A1 H1 v p1 st1 r1 h1 => ?_⟩
  have s1 := s.step p1 st1
  refine ⟨A1, F, C1, s1, (Aft.bnd (rel := RepD k) h1).mono fun dy C2 A2 H2 u p2 st2 r2 h2 => ?_⟩
  have s2 := s1.step p2 st2
  have r1' := p2.rep _ _ r1
  split at h2
  · rename_i hc
    obtain ⟨xs, ys, ex, ey, hl, hp⟩ := hc
    obtain ⟨a, vs, rfl, ha, rv⟩ := vT_at r1' ex
    obtain ⟨b, ws, rfl, hb, rw'⟩ := vT_at r2 ey
    refine ⟨a, b, vs, ws, fun i H' => ∃ A', Stp k F.fl A2 C2 H2 A' C2 H' ∧ StOk k A' C2 H', rfl, rfl, ha, hb, by rw [rv.length, rw'.length, hl], ⟨A2, Stp.refl, st2⟩, fun i H' ⟨A', pj, stj⟩ u v hu hv => ?_, fun H' ⟨A', pj, stj⟩ => h2 A' H' _ pj stj (.bl _)⟩
    obtain ⟨du, ed, ru⟩ := rv.getV hu
    obtain ⟨dv, ev, rvv⟩ := rw'.getV hv
    have ru := pj.rep _ _ ru
    have rvv := pj.rep _ _ rvv
    obtain ⟨c1, c2, em⟩ := hp i du dv ed ev
    obtain ⟨p, dx', gs, rfl, hp'⟩ := isC_at stj ru c1
    obtain ⟨q, dy', gs', rfl, hq'⟩ := isC_at stj rvv c2
    refine ⟨p, q, dx', dy', gs, gs', rfl, rfl, hp', hq', ⟨A', pj, stj⟩, sp_of s2.fl ar stj (.cons ru (.cons rvv .nil)) ?_⟩
    rw [em]
    intro A'' H'' v'' p'' st'' r''
    cases r''
    exact ⟨rfl, A'', pj.trans p'', st''⟩
  · exact h2.elim
theorem de_eqTs (c : Nat) (tk : Takes X W) (hK : X.K = k.K) (ha : PE X o (LE k W mo)) (hbb : PE X b (LE k W me)) (hg : EqOk k.K (k.cl c) g) (F : FnG X.prog X.w X.K X.mg X.base lev g fd ps (SpD k np m)) (ar : Ar np m) (hr : RoomG (lev + 1) X.A) (hb : Binds X.K fd ps []) (hm : behindInMarks .Eq b = false := by rfl) :
    PE X (.Compare o [.Eq] [b] pos) (LE k W (mEqTs c m mo me)) :=
  (pe_cmpX (op_eqTs (by rw [hK]; exact hg.eq) (by rw [hK]; exact hg.fn) F hr hb fun σ => passAt tk σ) ha hbb hm).cq fun _ _ _ h => by
    rw [hK]
    exact le_eqTs ar h
end
end CT
set_option maxHeartbeats 4000000
/-! DM21: sum of a tuple of ints. -/
namespace CT
open PySem L2 PySem.Spec PyProof.Rows
end CT
set_option maxHeartbeats 4000000
/-! DM22: try with several clauses, each with a name (the same slot); each clause's suite returns. -/
namespace CT
open PySem L2 PySem.Spec PyProof.Rows
/-! ### repr in a clause's suite -/
end CT
set_option maxHeartbeats 4000000
/-! DM23: x += y, x -= y of a name that holds an instance with an own __iadd__, __isub__. -/
namespace CT
open PySem L2 PySem.Spec PyProof.Rows
section
variable {X : Cx} {k : Cn} {W : WX} {σ : L2.St} {H : Hp} {Q : VK} {lev : Nat} {C g : Addr} {fd : FuncData} {ps : List Str} {m : MF} {me : ME} {E : L2.St → XK} {sp : Sp} {i c : Nat} {x : Str} {e : Expr} {te : TE} {r : L2.St → R2} {pos pos' : Pos} {D : Ends}
/-- what «x op= e» wishes -/
def tAugX (i : Nat) (te : TE) (r : L2.St → R2) : TS := fun D σ H => ∃ v, σ[i]? = some (some v) ∧ te σ H fun y G => r σ v y G fun z G' => D.nx (σ.set i (some z)) G'
theorem ps_augX {op : Operator} (nd : X.N.Nodup) (at_ : X.N[i]? = some x) (lx : Loc X.env.scope x) (he : PE X e te) (ho : OpX X (inplaceOp op) r) (fx : X.fn x = true ∨ X.env.scope.names.lookup x = some .local := by first | exact .inl rfl | exact .inr rfl | assumption) :
    PS X (.AugAssign (.Name x pos') op e pos) (tAugX i te r) := by
  refine ⟨fun pins s σ H D I h => ?_⟩
  obtain ⟨v, hv, h⟩ := h
  obtain ⟨mm, hmm, look⟩ := I.loc
  have seen : Vis X.env.scope x := by rcases lx with k | k; exact .inl k; exact .inr (.inl k)
  obtain ⟨u, ru, how⟩ := look i x v at_ hv seen
  refine wpAny_AugAssign_Name ?_
  have run : wpAny (model X.prog X.w) X.A (eval e X.env) (fun w t₂ => wpAny (model X.prog X.w) X.A (inplaceOp op u w) (fun z t₃ => wpAny (model X.prog X.w) X.A (storeName X.env x z) (fun _ => SP X pins D .next) X.xe t₃) X.xe t₂) X.xe s := by
    refine thn (he.run pins s σ H _ I h) fun w t1 ⟨y, G1, J1, r1, q1⟩ => ?_
    refine thn (ho pins t1 σ G1 v y u w _ J1 ru r1 q1) fun z t2 ⟨zv, G2, J2, r2, q2⟩ => ?_
    exact store_ok J2 nd at_ lx r2 (fun t3 J3 => ⟨_, G2, J3, q2⟩) fx
  rcases how with ⟨hk, hl⟩ | ⟨hk, cc, hcc, hcl⟩
  · exact wpAny_loadName_local I.ok.kind hk hmm hl run
  · rcases hk with hk | hk
    · exact wpAny_loadName_cell I.ok.kind hk hcc hcl run
    · rcases lx with k | k
      · have t : X.env.scope.names.lookup x = some .free := hk
        rw [k] at t; cases t
      · have t : X.env.scope.names.lookup x = some .free := hk
        rw [k] at t; cases t
end
end CT
set_option maxHeartbeats 4000000
/-! DM24a: what the head says for DM24. -/
namespace CT
open PySem L2 PySem.Spec PyProof.Rows
end CT
set_option maxHeartbeats 4000000
/-! DM24: x[i] = v, x[i] += v by own __getitem__, __setitem__; == and != with an instance of another own class. -/
namespace CT
open PySem L2 PySem.Spec PyProof.Rows
end CT
set_option maxHeartbeats 4000000
/-! DM25: sorted(set(list of pairs of ints from 0 to 63)); list(d) of a dict with tuple keys. -/
namespace CT
open PySem L2 PySem.Spec PyProof.Rows
/-! ### list(d) -/
section
variable {X : Cx} {k : Cn} {W : WX} {A : Nat → Addr} {C : Store} {H : Hp}
def oListOfD (own : Bool) : OA := fun xs C => match xs with
  | [d] => (vD d C).map fun y => mkL own (y.1.map fun q => .tup (q.map kyD)) C
  | _ => none
theorem d_listOfD (own : Bool) : ApD k (fun xs H Q => ∃ d kvs, xs = [V.ref d] ∧ Rd H d (.dT kvs) ∧ ∀ p bs, H p = none → IsKeys H kvs bs → Q (.ref p) (upd H p (.lst (bs.map V.ref)))) (oListOfD own) := by
  intro fl A C H x dx d C' Q hf hl st rx e q
  cases rx with
  | nil => cases e
  | cons r t =>
    cases t with
    | cons _ _ => cases e
    | nil =>
      rename_i v0 d0
      simp only [oListOfD, Option.map_eq_some_iff] at e
      obtain ⟨⟨ks, ds⟩, ev, e⟩ := e
      obtain ⟨a, kvs, rfl, ha, hk, rv⟩ := vD_at st r ev
      refine ⟨a, kvs, rfl, ha, fun p bs hp pr => ?_⟩
      obtain ⟨z1, z2⟩ := zip_fst pr
      have rr : RepL k A C H ((kvs.zip bs).map fun x => V.ref x.2) ((kvs.zip bs).map fun x => D.tup (x.1.1.map kyD)) := repL_of2 fun y hy => by
        have hy' := paired_zip pr y hy
        exact .tup (tup_nl st hy') hy' (ky_rep _)
      have e1 : (kvs.zip bs).map (fun x => V.ref x.2) = bs.map V.ref := by
        rw [← z2, List.map_map, z2]
        rfl
      have e2 : (kvs.zip bs).map (fun x => D.tup (x.1.1.map kyD)) = ks.map fun q => .tup (q.map kyD) := by
        rw [← hk, ← z1, List.map_map, List.map_map, z1]
        rfl
      rw [e1, e2] at rr
      obtain ⟨A2, w1, w2, w3⟩ := fresh_L (own := own) hf st rr hp
      have e3 := Option.some.inj (congrArg some e)
      rw [e3] at w1 w2 w3
      exact q A2 _ _ w1 w2 w3
end
end CT
set_option maxHeartbeats 4000000
/-! DM26: t * 1. -/
namespace CT
open PySem L2 PySem.Spec PyProof.Rows
theorem tuple_mul1W (l : Addr) (items : Array Value) (n : Nat) (dd : Option Addr) (sl : Array (Option Value)) (x : Int) (u : Tok) (c0 : (decide (x < -(2 ^ 63)) || decide (x ≥ 2 ^ 63)) = false) (c1 : (items.isEmpty || x == 1) = true) :
    Meets (Builtin.«tuple.__mul__» ⟨[.ref l, .int x u], []⟩) (fun _ R s => s.heap.get? l = some { cls := .type "tuple", dict := dd, data := .seq items n, slots := sl } ∧ R (.ok (.ret (.ref l))) s) :=
  .of_wp fun prog w A R s h => by
    obtain ⟨hp, g, d, tk, os⟩ := s
    obtain ⟨hl, h⟩ := h
    have f1 := AutoSeq1.idx_int
    wp_walk using wpAny_loadPart' hl
    repeat (first
      | (refine wpAny_ite_false (decide_eq_false (by rw [c0]; exact Bool.false_ne_true)) ?_; wp_walk using wpAny_loadPart' hl)
      | (refine wpAny_ite_true (decide_eq_true c1) ?_; wp_walk using wpAny_loadPart' hl))
    exact ⟨_, rfl, h⟩
def rRep1T (K : PySem.W.Frag) : R2 := fun x y H Q => ∃ l xs, x = .ref l ∧ y = .int 1 ∧ SqT K H l xs ∧ Q (.ref l) H
section
variable {X : Cx}
theorem op_rep1T : OpR X (binaryOp .Mult) (rRep1T X.K) := by
  intro pins s σ H x y v u Q I rx ry h
  obtain ⟨l, xs, rfl, rfl, hT, q⟩ := h
  cases rx
  obtain ⟨t, rfl⟩ := ry
  obtain ⟨its, r, ⟨⟨cls, dd, data, sl⟩, ho, hc, n, hd⟩, hs⟩ := I.tuple hT
  simp only at hc hd
  subst hc hd
  refine wpAny_binaryOp_repeat_ref (T := "tuple") (U := "int") (by decide) ⟨_, ho, rfl⟩ (fun s' => typeIs_int s' 1 t) noFill_tuple_mul F.fills_int_mul F.slot_int_rmul repeat_tuple F.slot_int_index.lookup
    (call_meets F.slot_int_rmul (typeIs_int s 1 t) F.entry_int_rmul (F.args_int_rmul_2 _ _) (int_rmul_tuple 1 t l its.toArray n dd sl)
      ⟨ho, rfl, ⟨_, ho, rfl⟩, call_meets F.slot_tuple_mul ⟨_, ho, rfl⟩ F.entry_tuple_mul (F.args_tuple_mul_2 _ _) (tuple_mul1W l its.toArray n dd sl 1 t (by decide) (by rw [show ((1 : Int) == 1) = true from rfl, Bool.or_true])) ⟨ho, ?_⟩⟩)
  exact ⟨.ref l, _, I, rfl, q⟩
end
def oRepA : O2 := fun x y C => match vT x, y with
  | some xs, .int n => if n = 1 then some (x, C) else oRepT x y C
  | _, _ => none
theorem d_repA {k : Cn} : OpD k (fun x y H Q => rRepT k.K x y H Q ∨ rRep1T k.K x y H Q) oRepA := by
  intro fl A C H x y dx dy d C' Q hf hl st rx ry e q
  unfold oRepA at e
  split at e
  · rename_i xs n e1
    split at e
    · rename_i h1
      subst h1
      obtain ⟨a, vs, rfl, ha, rv⟩ := vT_at rx e1
      cases ry
      cases e
      exact .inr ⟨a, vs, rfl, rfl, ha, q A H _ Stp.refl st rx⟩
    · exact .inl (d_repT fl A C H x y _ _ d C' Q hf hl st rx ry e q)
  · cases e
end CT
set_option maxHeartbeats 4000000
/-! DM30: t * 0. -/
namespace CT
open PySem L2 PySem.Spec PyProof.Rows
theorem tuple_mul0W (l : Addr) (items : Array Value) (n : Nat) (dd : Option Addr) (sl : Array (Option Value)) (x : Int) (u : Tok) (c0 : (decide (x < -(2 ^ 63)) || decide (x ≥ 2 ^ 63)) = false) (c1 : (items.isEmpty || x == 1) = false) (c2 : (decide (x ≤ 0) || items.isEmpty) = true) :
    Meets (Builtin.«tuple.__mul__» ⟨[.ref l, .int x u], []⟩) (fun _ R s => s.heap.get? l = some { cls := .type "tuple", dict := dd, data := .seq items n, slots := sl } ∧
      R (.ok (.ret (Value.ref s.heap.objs.size))) { s with heap := s.heap.push { cls := Value.type "tuple", data := Data.seq #[] }, toks := s.toks }) :=
  .of_wp fun prog w A R s h => by
    obtain ⟨hp, g, d, tk, os⟩ := s
    obtain ⟨hl, h⟩ := h
    have f1 := AutoSeq1.idx_int
    have hsz : (#[] : Array Value).size ≤ sizeLine := Nat.zero_le _
    wp_walk using wpAny_loadPart' hl
    repeat (first
      | (refine wpAny_ite_false (decide_eq_false (by rw [c0]; exact Bool.false_ne_true)) ?_; wp_walk using wpAny_loadPart' hl)
      | (refine wpAny_ite_false (decide_eq_false (by rw [c1]; exact Bool.false_ne_true)) ?_; wp_walk using wpAny_loadPart' hl)
      | (refine wpAny_ite_true (decide_eq_true c2) ?_; wp_walk using wpAny_loadPart' hl)
      | (refine wpAny_ite_false (decide_eq_false (Nat.not_lt.mpr hsz)) ?_; wp_walk using wpAny_loadPart' hl))
    exact ⟨_, rfl, h⟩
def rRep0T (K : PySem.W.Frag) : R2 := fun x y H Q => ∃ l xs, x = .ref l ∧ y = .int 0 ∧ SqT K H l xs ∧ xs ≠ [] ∧ ∀ p, H p = none → Q (.ref p) (upd H p (.tup []))
section
variable {X : Cx}
theorem op_rep0T : OpR X (binaryOp .Mult) (rRep0T X.K) := by
  intro pins s σ H x y v u Q I rx ry h
  obtain ⟨l, xs, rfl, rfl, hT, hne, q⟩ := h
  cases rx
  obtain ⟨t, rfl⟩ := ry
  obtain ⟨its, r, ⟨⟨cls, dd, data, sl⟩, ho, hc, n, hd⟩, hs⟩ := I.tuple hT
  simp only at hc hd
  subst hc hd
  have hle : its.length = xs.length := r.length.symm
  have hn : its ≠ [] := fun e => hne (by
    rw [e] at hle
    exact List.eq_nil_of_length_eq_zero hle.symm)
  have hi : its.toArray.isEmpty = false := by
    cases its with
    | nil => exact absurd rfl hn
    | cons a b => rfl
  refine wpAny_binaryOp_repeat_ref (T := "tuple") (U := "int") (by decide) ⟨_, ho, rfl⟩ (fun s' => typeIs_int s' 0 t) noFill_tuple_mul F.fills_int_mul F.slot_int_rmul repeat_tuple F.slot_int_index.lookup
    (call_meets F.slot_int_rmul (typeIs_int s 0 t) F.entry_int_rmul (F.args_int_rmul_2 _ _) (int_rmul_tuple 0 t l its.toArray n dd sl)
      ⟨ho, rfl, ⟨_, ho, rfl⟩, call_meets F.slot_tuple_mul ⟨_, ho, rfl⟩ F.entry_tuple_mul (F.args_tuple_mul_2 _ _) (tuple_mul0W l its.toArray n dd sl 0 t (by decide) (by rw [hi]; rfl) rfl) ⟨ho, ?_⟩⟩)
  refine ⟨.ref s.heap.objs.size, _, I.laid (t' := s.toks) (o := .tup []) (fun b ob q => Heap.get?_push_of_some _ q) (Nat.le_refl _) ?_, rfl, q _ (I.hok.fresh (Nat.le_refl _))⟩
  exact ⟨Nat.zero_le _, _, .nil, IsTup.new _ _⟩
end
def oRepZ : O2 := fun x y C => match vT x, y with
  | some xs, .int n => if n = 0 ∧ xs ≠ [] then some (.tup [], C) else oRepA x y C
  | _, _ => none
theorem d_repZ {k : Cn} : OpD k (fun x y H Q => (rRepT k.K x y H Q ∨ rRep1T k.K x y H Q) ∨ rRep0T k.K x y H Q) oRepZ := by
  intro fl A C H x y dx dy d C' Q hf hl st rx ry e q
  unfold oRepZ at e
  split at e
  · rename_i xs n e1
    split at e
    · rename_i h1
      obtain ⟨rfl, h2⟩ := h1
      obtain ⟨a, vs, rfl, ha, rv⟩ := vT_at rx e1
      have hlen := rv.length
      cases ry
      cases e
      refine .inr ⟨a, vs, rfl, rfl, ha, fun z => ?_, fun p hp => ?_⟩
      · subst z
        exact h2 (List.length_eq_zero_iff.mp (by simpa using hlen.symm))
      · obtain ⟨w1, w2, w3⟩ := fresh_T (fl := fl) (ds := []) (vs := []) st .nil hp
        exact q A _ _ w1 w2 w3
    · exact .inl (d_repA fl A C H x y _ _ d C' Q hf hl st rx ry e q)
  · cases e
end CT
set_option maxHeartbeats 4000000
/-! DM46: len(o) by the class's own __len__. -/
namespace CT
open PySem L2 PySem.Spec PyProof.Rows
section
variable {prog : Program} {w : World} {A : Around} {E : Value → Shared → Prop} {s : Shared} {K : PySem.W.Frag} {x C f : Addr} {ox : Obj} {od : Option Obj}
theorem len_own {Q : Value → Shared → Prop} (X : K.In s.heap) (I : PySem.W.InstAt s.heap x ox C od) (hs : PySem.W.findIn K (.ref C) "__len__" = some (some (.ref f))) (hf : PySem.W.isFn K (.ref f) = true)
    (h : wpAny (model prog w) A.in1 (call (.ref f) [.ref x]) (fun r s' => ∃ (n : Int) (t : Tok), r = .int n t ∧ 0 ≤ n ∧ n < 2 ^ 62 ∧ Q (.int n s'.toks) { s' with toks := s'.toks + 1 }) E s) : wpAny (model prog w) A (call (.builtin "len") [.ref x]) Q E s := by
  refine Calls.call_function_entry kind_len plain_len entry_len (args_len1 _) ?_
  unfold Builtin.«len»
  refine wpAny_bind (m := oneArg "len" _) (wpAny_pure ?_)
  refine wpAny_bind (m := callSpecial? (.ref x) (PySem.Str.ofString "__len__")) (PySem.W.special_fn X I hs (beq_iff_eq.mp hf) (wpAny_mono h (fun r s' hr => ?_) fun _ _ y => y))
  obtain ⟨n, t, rfl, n0, n1, q⟩ := hr
  refine wpAny_bind (wpAny_holding (wpAny_pure ?_))
  refine wpAny_bind (wpAny_letGo ?_)
  show wpAny _ _ (if n < 0 then _ else _) _ _ _
  rw [if_neg (by omega)]
  show wpAny _ _ (if n ≥ 2 ^ 63 then _ else _) _ _ _
  rw [if_neg (by omega)]
  exact wpAny_bind (wpAny_mkInt (wpAny_pure ⟨_, rfl, q⟩))
end
/-! ### len(o) -/
def oLenO (c : Nat) (m : MF) : OA := fun xs C => match xs with
  | [x] => (match vO x C with
    | some (c', _) => if c' = c then (match m [x] C with
      | .ok (.int n) C2 => if 0 ≤ n ∧ n < 2 ^ 62 then some (.int n, C2) else none
      | _ => none) else none
    | none => none)
  | _ => none
def rLenO (k : Cn) (c : Nat) (m : MF) : List V → Hp → VK → Prop := fun xs H Q => ∃ a dx fs, xs = [.ref a] ∧ H a = some (.ins (k.cl c) dx fs) ∧ SpD k 1 m [.ref a] H (fun z H2 => ∃ n : Int, z = .int n ∧ 0 ≤ n ∧ n < 2 ^ 62 ∧ Q (.int n) H2) (fun _ _ _ => False)
theorem d_lenO {k : Cn} (c : Nat) {m : MF} (ar : Ar 1 m) : ApD k (rLenO k c m) (oLenO c m) := by
  intro fl A C H xs dx d C' Q hf hlw st rx e q
  unfold oLenO at e
  split at e
  · rename_i dx0
    split at e
    · rename_i c' fs ev
      split at e
      · rename_i hcc
        subst hcc
        cases rx with
        | cons r t =>
          cases t
          obtain ⟨a, dx', vs, rfl, ha, hle, rv⟩ := vO_at st r ev
          refine ⟨a, dx', _, rfl, ha, sp_of hf ar st (.cons r .nil) ?_⟩
          cases em : m [dx0] C with
          | ok d0 C2 =>
            rw [em] at e
            cases d0 with
            | int n =>
              simp only at e
              split at e
              · rename_i hn
                cases e
                intro A2 H2 z p2 st2 rz
                cases rz with
                | int _ => exact ⟨n, rfl, hn.1, hn.2, q A2 H2 _ p2 st2 (.int _)⟩
              · cases e
            | _ => cases e
          | exc e2 C2 => rw [em] at e; cases e
          | stuck => rw [em] at e; cases e
      · cases e
    · cases e
  · cases e
section
variable {X : Cx} {k : Cn} {lev : Nat} {g : Addr} {fd : FuncData} {ps : List Str} {m : MF}
theorem cr_lenO (c : Nat) (hK : X.K = k.K) (hs' : PySem.W.findIn k.K (.ref (k.cl c)) "__len__" = some (some (.ref g))) (hf : PySem.W.isFn k.K (.ref g) = true) (F : FnG X.prog X.w X.K X.mg X.base lev g fd ps (SpD k 1 m)) (hr : RoomG (lev + 1) X.A) (hb : Binds X.K fd ps []) : CallR X (.builtin "len") (rLenO k c m) := by
  intro pins s σ H xs us Q I r h
  obtain ⟨a, dx, fs, rfl, ha, h⟩ := h
  obtain ⟨u, rfl, ru⟩ := Vals.one r
  cases (show u = Value.ref a from ru)
  obtain ⟨mA, O, _, _, _, _⟩ := ins_get I.hok ha
  obtain ⟨od, J, _⟩ := O.look
  refine len_own I.kIn J (by rw [hK]; exact hs') (by rw [hK]; exact hf) ?_
  refine wpAny_mono (run_in1 (us := [.ref a]) (vs := [.ref a]) F hr hb (fun _ _ _ _ _ _ z => by
    obtain ⟨a, B, H', cls, d, _, _, _, _, _, _, _, z⟩ := z
    exact z.elim) I (.cons rfl .nil) h) (fun z' s' hz => ?_) fun _ _ z => z
  obtain ⟨z, H', I', rz, n, ez, n0, n1, qz⟩ := hz
  subst ez
  obtain ⟨t, rfl⟩ := rz
  exact ⟨n, t, rfl, n0, n1, .int n, H', I'.tok _, ⟨_, rfl⟩, qz⟩
end
end CT
set_option maxHeartbeats 4000000
/-! DM47: x += y of a name that holds an own list, y a list. -/
namespace CT
open PySem L2 PySem.Spec PyProof.Rows
section
variable {M : Model} {A : Around} {E : Value → Shared → Prop} {s : Shared}
theorem wpAny_inplaceOp_iconcat {a b : Value} {T id : String} {Q : Value → Shared → Prop} (ha : s.TypeIs a T) (hb : s.TypeIs b T) (hi : typeLookup (.type T) (dunderI "add") = pure (some (.builtin id))) (his : isSeqSlot (some (.builtin id)) = true)
    (hfill : fillsNumberSlot (.type T) "add" = pure false) (hc : wpAny M A (call (.builtin id) [a, b]) Q E s) : wpAny M A (inplaceOp .Add a b) Q E s := by
  unfold inplaceOp
  refine wpAny_holding ?_
  have hfi : fillsInplaceSlot (.type T) "add" (Operator.Add == .Add) = pure false := by
    unfold fillsInplaceSlot
    show (typeLookup (.type T) (dunderI "add") >>= fun fi => pure (fi.isSome && !isSeqSlot fi)) = pure false
    rw [hi]
    simp only [pure_bind, his]
    rfl
  refine wpAny_bind (wpAny_typeOf ha (wpAny_bind (wpAny_of_eq hfi ?_)))
  show wpAny M A (if false = true then _ else _) Q E s
  rw [if_neg Bool.false_ne_true]
  refine wpAny_bind (wpAny_binaryOp1_none (nm := "add") ha hb hfill ?_)
  refine wpAny_bind (wpAny_of_eq (PySem.seqSlot_of hi his) ?_)
  exact wpAny_bind (wpAny_rule hc)
end
section
variable {X : Cx} {k : Cn} {W : WX} {σ : L2.St} {H : Hp} {Q : VK} {me : ME} {i : Nat} {x : Str} {e : Expr} {pos pos' : Pos} {D : Ends}
def rIadd : V → V → Hp → VK → Prop := fun a b H Q => ∃ l p xs zs, a = .ref l ∧ b = .ref p ∧ H l = some (.lst xs) ∧ H p = some (.lst zs) ∧ xs.length + zs.length ≤ sizeLine ∧ Q (.ref l) (upd H l (.lst (xs ++ zs)))
theorem op_iaddL : OpX X (inplaceOp .Add) fun _ a b H Q => rIadd a b H Q := by
  intro pins s σ H a b v u Q I ra rb h
  obtain ⟨l, p, xs, zs, rfl, rfl, hH, hB, hz, q⟩ := h
  cases (show v = Value.ref l from ra)
  cases (show u = Value.ref p from rb)
  obtain ⟨z, its, n, r, hl, e⟩ := I.lstM hH
  obtain ⟨z2, its2, n2, r2, hl2, e2⟩ := I.lstM hB
  have hsz : its.toArray.size + its2.toArray.size ≤ sizeLine := by rw [List.size_toArray, List.size_toArray]; omega
  have hlong : ¬ (!its.toArray.isEmpty && Builtin.List.listTooLong (its.toArray.size + its2.toArray.size)) = true := by
    rw [notLongL hsz, Bool.and_false]
    exact Bool.false_ne_true
  refine wpAny_inplaceOp_iconcat (T := "list") (id := "list.__iadd__") ⟨_, e, rfl⟩ ⟨_, e2, rfl⟩ F.slot_list_iadd.lookup (by decide +kernel) noFill_list_add ?_
  refine call_meets F.slot_list_iadd ⟨_, e, rfl⟩ F.entry_list_iadd (F.args_list_iadd_2 _ _)
    (AutoSeq1.list___iadd___list_list_0 l its.toArray n p its2.toArray n2 hlong (by rw [List.size_toArray]; omega) (by omega)) ⟨e, e2, ?_⟩
  refine ⟨.ref l, _, I.lset (its' := its ++ its2) hH e (by simp) (r.append r2) ?_, rfl, q⟩
  rw [List.length_append]
  omega
/-- x += y of an own list -/
def sAugLs (i : Nat) (me : ME) : MS := fun F C => match F.sl[i]? with
  | some (some o) => bndS F.sl (me F C) fun v C2 => match cL o C2, vL v C2 with
    | some (j, ds), some es => if szN (ds.length + es.length) = true then match wr F.fl j (.lst (ds ++ es)) C2 with
      | some C3 => .nx F.sl C3
      | none => .stuck
      else .stuck
    | _, _ => .stuck
  | _ => .stuck
theorem ls_augLs (h : LS k W (sAugLs i me) D σ H) : tAugX i (LE k W me) (fun _ a b H Q => rIadd a b H Q) D σ H := by
  obtain ⟨A, F, C, s, h⟩ := h
  unfold sAugLs at h
  split at h
  · rename_i d hd
    obtain ⟨v, hv, rv⟩ := s.sl i d hd
    refine ⟨v, hv, A, F, C, s, (AftS.bnd (rel := RepD k) s h).mono fun dy C1 A1 H1 u p1 st1 r1 h1 => ?_⟩
    have s1 := s.step p1 st1
    cases ec : cL d C1 with
    | none => simp only [ec] at h1; exact h1.elim
    | some q =>
      obtain ⟨j, ds⟩ := q
      cases el : vL dy C1 with
      | none => simp only [ec, el] at h1; exact h1.elim
      | some es =>
        simp only [ec, el] at h1
        obtain ⟨rfl, rfl, hi, vs, hvs, rvs⟩ := cL_at st1 (p1.rep _ _ rv) ec
        obtain ⟨b, ws, rfl, hb, rws⟩ := vL_at st1 r1 el
        split at h1
        · rename_i hz
          cases ew : wr F.fl j (.lst (ds ++ es)) C1 with
          | none => simp only [ew] at h1; exact h1.elim
          | some C3 =>
            simp only [ew] at h1
            obtain ⟨q1, q2⟩ := write_L st1 hi (rvs.append rws) ew
            have same : σ.set i (some (V.ref (A1 j))) = σ := by
              refine List.ext_getElem? fun n => ?_
              by_cases hn : i = n
              · subst hn
                rw [List.getElem?_set_self (List.getElem?_eq_some_iff.mp hv).1, hv]
              · rw [List.getElem?_set_ne hn]
            refine ⟨A1 j, b, vs, ws, rfl, rfl, hvs, hb, by have := szN_le hz; rw [rvs.length, rws.length]; omega, ?_⟩
            show D.nx (σ.set i (some (V.ref (A1 j)))) _
            rw [same]
            exact h1 A1 σ _ q1 (s1.step q1 q2)
        · exact h1.elim
  · exact h.elim
theorem ds_augLs (nd : X.N.Nodup) (at_ : X.N[i]? = some x) (lx : Loc X.env.scope x) (he : PE X e (LE k W me)) (fx : X.fn x = true ∨ X.env.scope.names.lookup x = some .local := by first | exact .inl rfl | exact .inr rfl | assumption) :
    PS X (.AugAssign (.Name x pos') .Add e pos) (LS k W (sAugLs i me)) :=
  (ps_augX nd at_ lx he op_iaddL fx).cq fun _ _ _ h => ls_augLs h
end
end CT
set_option maxHeartbeats 8000000
namespace CL
open PySem L2 PySem.Spec PyProof.Rows CT
noncomputable section
theorem txt {K : PySem.W.Frag} {h : Heap} {mg : Str → Option Value} (X : K.In h) (G : h.Ns mainGlobals mg) (c : SaysX fs fn K) : Txt K mg where
  n_abs := He.free_ok X G (c.fact 0 (f := (He.Fa.free "abs").ok) rfl)
  n_all := He.free_ok X G (c.fact 1 (f := (He.Fa.free "all").ok) rfl)
  n_any := He.free_ok X G (c.fact 2 (f := (He.Fa.free "any").ok) rfl)
  n_bool := He.free_ok X G (c.fact 3 (f := (He.Fa.free "bool").ok) rfl)
  n_enumerate := He.free_ok X G (c.fact 4 (f := (He.Fa.free "enumerate").ok) rfl)
  n_int := He.free_ok X G (c.fact 5 (f := (He.Fa.free "int").ok) rfl)
  n_isinstance := He.free_ok X G (c.fact 6 (f := (He.Fa.free "isinstance").ok) rfl)
  n_len := He.free_ok X G (c.fact 7 (f := (He.Fa.free "len").ok) rfl)
  n_list := He.free_ok X G (c.fact 8 (f := (He.Fa.free "list").ok) rfl)
  n_max := He.free_ok X G (c.fact 9 (f := (He.Fa.free "max").ok) rfl)
  n_min := He.free_ok X G (c.fact 10 (f := (He.Fa.free "min").ok) rfl)
  n_range := He.free_ok X G (c.fact 11 (f := (He.Fa.free "range").ok) rfl)
  n_set := He.free_ok X G (c.fact 12 (f := (He.Fa.free "set").ok) rfl)
  n_sorted := He.free_ok X G (c.fact 13 (f := (He.Fa.free "sorted").ok) rfl)
  n_tuple := He.free_ok X G (c.fact 14 (f := (He.Fa.free "tuple").ok) rfl)
  c_MOST := He.int_ok X G (c.fact 15 (f := (He.Fa.int "MOST" 1000000000).ok) rfl)
  g_is_integer := He.glo_ok X G (c.fact 16 (f := (He.Fa.glo "is_integer").ok) rfl)
  g_is_number := He.glo_ok X G (c.fact 17 (f := (He.Fa.glo "is_number").ok) rfl)
  g_is_count := He.glo_ok X G (c.fact 18 (f := (He.Fa.glo "is_count").ok) rfl)
  g_merged := He.glo_ok X G (c.fact 19 (f := (He.Fa.glo "merged").ok) rfl)
  g_check_numbers := He.glo_ok X G (c.fact 20 (f := (He.Fa.glo "check_numbers").ok) rfl)
  g_halves_of := He.glo_ok X G (c.fact 21 (f := (He.Fa.glo "halves_of").ok) rfl)
  g_is_tie := He.glo_ok X G (c.fact 22 (f := (He.Fa.glo "is_tie").ok) rfl)
  g_summed := He.glo_ok X G (c.fact 23 (f := (He.Fa.glo "summed").ok) rfl)
  g_grid_of := He.glo_ok X G (c.fact 24 (f := (He.Fa.glo "grid_of").ok) rfl)
  g_is_cell_want := He.glo_ok X G (c.fact 25 (f := (He.Fa.glo "is_cell_want").ok) rfl)
  g_is_onward := He.glo_ok X G (c.fact 26 (f := (He.Fa.glo "is_onward").ok) rfl)
  g_inner_ties := He.glo_ok X G (c.fact 27 (f := (He.Fa.glo "inner_ties").ok) rfl)
  g_law_bag := He.glo_ok X G (c.fact 28 (f := (He.Fa.glo "_law_bag").ok) rfl)
  g_law_take := He.glo_ok X G (c.fact 29 (f := (He.Fa.glo "_law_take").ok) rfl)
  g_law_want := He.glo_ok X G (c.fact 30 (f := (He.Fa.glo "_law_want").ok) rfl)
  g_law_cell := He.glo_ok X G (c.fact 31 (f := (He.Fa.glo "_law_cell").ok) rfl)
  g_law_strip := He.glo_ok X G (c.fact 32 (f := (He.Fa.glo "_law_strip").ok) rfl)
  g_law_near := He.glo_ok X G (c.fact 33 (f := (He.Fa.glo "_law_near").ok) rfl)
  g_law_any := He.glo_ok X G (c.fact 34 (f := (He.Fa.glo "_law_any").ok) rfl)
  g_law_plan := He.glo_ok X G (c.fact 35 (f := (He.Fa.glo "_law_plan").ok) rfl)
  g_law_strip_ties := He.glo_ok X G (c.fact 36 (f := (He.Fa.glo "_law_strip_ties").ok) rfl)
  g_law_strip_lists := He.glo_ok X G (c.fact 37 (f := (He.Fa.glo "_law_strip_lists").ok) rfl)
  g_law_web := He.glo_ok X G (c.fact 38 (f := (He.Fa.glo "_law_web").ok) rfl)
  g_law_turned := He.glo_ok X G (c.fact 39 (f := (He.Fa.glo "_law_turned").ok) rfl)
  g_law_ties_of := He.glo_ok X G (c.fact 40 (f := (He.Fa.glo "_law_ties_of").ok) rfl)
  g_law_is_laid := He.glo_ok X G (c.fact 41 (f := (He.Fa.glo "_law_is_laid").ok) rfl)
  g_law := He.glo_ok X G (c.fact 42 (f := (He.Fa.glo "law").ok) rfl)
  g_Web := He.glo_ok X G (c.fact 43 (f := (He.Fa.glo "Web").ok) rfl)
  cl_Web := He.cls_ok (c.fact 44 (f := (He.Fa.cls "Web").ok) rfl)
  no_Web_size := He.noat_ok (c.fact 45 (f := (He.Fa.noat "Web" "size").ok) rfl)
  no_Web_grid := He.noat_ok (c.fact 46 (f := (He.Fa.noat "Web" "grid").ok) rfl)
  no_Web_ties := He.noat_ok (c.fact 47 (f := (He.Fa.noat "Web" "ties").ok) rfl)
  mk_Web := He.mkr_ok (c.fact 48 (f := (He.Fa.mkr "Web").ok) rfl)
  g_Want := He.glo_ok X G (c.fact 49 (f := (He.Fa.glo "Want").ok) rfl)
  cl_Want := He.cls_ok (c.fact 50 (f := (He.Fa.cls "Want").ok) rfl)
  no_Want_halves := He.noat_ok (c.fact 51 (f := (He.Fa.noat "Want" "halves").ok) rfl)
  mk_Want := He.mkr_ok (c.fact 52 (f := (He.Fa.mkr "Want").ok) rfl)
  g_Cell := He.glo_ok X G (c.fact 53 (f := (He.Fa.glo "Cell").ok) rfl)
  cl_Cell := He.cls_ok (c.fact 54 (f := (He.Fa.cls "Cell").ok) rfl)
  no_Cell_wishes := He.noat_ok (c.fact 55 (f := (He.Fa.noat "Cell" "wishes").ok) rfl)
  no_Cell_inner := He.noat_ok (c.fact 56 (f := (He.Fa.noat "Cell" "inner").ok) rfl)
  mk_Cell := He.mkr_ok (c.fact 57 (f := (He.Fa.mkr "Cell").ok) rfl)
  g_Strip := He.glo_ok X G (c.fact 58 (f := (He.Fa.glo "Strip").ok) rfl)
  cl_Strip := He.cls_ok (c.fact 59 (f := (He.Fa.cls "Strip").ok) rfl)
  no_Strip_head := He.noat_ok (c.fact 60 (f := (He.Fa.noat "Strip" "head").ok) rfl)
  no_Strip_cell := He.noat_ok (c.fact 61 (f := (He.Fa.noat "Strip" "cell").ok) rfl)
  no_Strip_tail := He.noat_ok (c.fact 62 (f := (He.Fa.noat "Strip" "tail").ok) rfl)
  no_Strip_onward := He.noat_ok (c.fact 63 (f := (He.Fa.noat "Strip" "onward").ok) rfl)
  no_Strip_width := He.noat_ok (c.fact 64 (f := (He.Fa.noat "Strip" "width").ok) rfl)
  mk_Strip := He.mkr_ok (c.fact 65 (f := (He.Fa.mkr "Strip").ok) rfl)
  kw_Want__init := kwB_ok (c.fact 66 (f := kwB a_Want__init "halves") rfl)
  pr_evens := prB_ok (c.fact 67 (f := prB "Want" "evens") rfl)
  pr_odds := prB_ok (c.fact 68 (f := prB "Want" "odds") rfl)
  pr_low := prB_ok (c.fact 69 (f := prB "Want" "low") rfl)
  pr_high := prB_ok (c.fact 70 (f := prB "Want" "high") rfl)
  dn_Want__or := dnB_ok (c.fact 71 (f := dnB "Want" "__or__") rfl)
  dn_Want__bool := dnB_ok (c.fact 72 (f := dnB "Want" "__bool__") rfl)
  dn_Want__eq := dnB_ok (c.fact 73 (f := dnB "Want" "__eq__") rfl)
  kt_Web__init := ktB_ok (c.fact 74 (f := ktB d_Web__init) rfl)
  dn_Cell__len := dnB_ok (c.fact 75 (f := dnB "Cell" "__len__") rfl)
  dn_Cell__eq := dnB_ok (c.fact 76 (f := dnB "Cell" "__eq__") rfl)
  dn_Strip__eq := dnB_ok (c.fact 77 (f := dnB "Strip" "__eq__") rfl)
  me_Strip_wants_of := He.meth_ok (c.fact 78 (f := (He.Fa.meth "Strip" "wants_of").ok) rfl)
  me_Strip_web_of := He.meth_ok (c.fact 79 (f := (He.Fa.meth "Strip" "web_of").ok) rfl)
  me_Strip_mirrored := He.meth_ok (c.fact 80 (f := (He.Fa.meth "Strip" "mirrored").ok) rfl)
  g_TooMany := He.glo_ok X G (c.fact 81 (f := (He.Fa.glo "TooMany").ok) rfl)
  xi_TooMany := xiB_ok (c.fact 82 (f := xiB "TooMany") rfl)
  nox_TooMany_limit := He.noat_ok (c.fact 83 (f := (He.Fa.noat "TooMany" "limit").ok) rfl)
  exm_TooMany := exmB_ok rfl rfl (c.fact 84 (f := exmB clA "TooMany" [2] []) rfl)
  xs := xsB_ok rfl rfl (c.fact 85 (f := xsB clA [2]) rfl)
  eq_Cell := eqB_ok (c.fact 86 (f := eqB "Cell") rfl)
  eq_Strip := eqB_ok (c.fact 87 (f := eqB "Strip") rfl)
  eq_Want := eqB_ok (c.fact 88 (f := eqB "Want") rfl)
  sf_Want := sfB_ok (c.fact 89 (f := sfB "Want") rfl)
  isa := isaB_ok rfl rfl (c.fact 90 (f := isaB clA [0, 1, 3, 4]) rfl)
  f_TooMany__init := c.def_ 0 (d := dx_TooMany__init) rfl
  f_is_integer := c.def_ 1 (d := dx_is_integer) rfl
  f_is_number := c.def_ 2 (d := dx_is_number) rfl
  f_is_count := c.def_ 3 (d := dx_is_count) rfl
  f_merged := c.def_ 4 (d := dx_merged) rfl
  f_check_numbers := c.def_ 5 (d := dx_check_numbers) rfl
  f_halves_of := c.def_ 6 (d := dx_halves_of) rfl
  f_Want__init := c.def_ 7 (d := dx_Want__init) rfl
  f_Want_evens := c.def_ 8 (d := dx_Want_evens) rfl
  f_Want_odds := c.def_ 9 (d := dx_Want_odds) rfl
  f_Want_low := c.def_ 10 (d := dx_Want_low) rfl
  f_Want_high := c.def_ 11 (d := dx_Want_high) rfl
  f_Want__or := c.def_ 12 (d := dx_Want__or) rfl
  f_Want__bool := c.def_ 13 (d := dx_Want__bool) rfl
  f_Want__eq := c.def_ 14 (d := dx_Want__eq) rfl
  f_is_tie := c.def_ 15 (d := dx_is_tie) rfl
  f_summed := c.def_ 16 (d := dx_summed) rfl
  f_grid_of := c.def_ 17 (d := dx_grid_of) rfl
  f_Web__init := c.def_ 18 (d := dx_Web__init) rfl
  f_is_cell_want := c.def_ 19 (d := dx_is_cell_want) rfl
  f_Cell__init := c.def_ 20 (d := dx_Cell__init) rfl
  f_Cell__len := c.def_ 21 (d := dx_Cell__len) rfl
  f_Cell__eq := c.def_ 22 (d := dx_Cell__eq) rfl
  f_is_onward := c.def_ 23 (d := dx_is_onward) rfl
  f_inner_ties := c.def_ 24 (d := dx_inner_ties) rfl
  f_Strip__init := c.def_ 25 (d := dx_Strip__init) rfl
  f_Strip__eq := c.def_ 26 (d := dx_Strip__eq) rfl
  f_Strip_wants_of := c.def_ 27 (d := dx_Strip_wants_of) rfl
  f_Strip_web_of := c.def_ 28 (d := dx_Strip_web_of) rfl
  f_Strip_mirrored := c.def_ 29 (d := dx_Strip_mirrored) rfl
  f_law_bag := c.def_ 30 (d := dx_law_bag) rfl
  f_law_take := c.def_ 31 (d := dx_law_take) rfl
  f_law_want := c.def_ 32 (d := dx_law_want) rfl
  f_law_cell := c.def_ 33 (d := dx_law_cell) rfl
  f_law_strip := c.def_ 34 (d := dx_law_strip) rfl
  f_law_near := c.def_ 35 (d := dx_law_near) rfl
  f_law_any := c.def_ 36 (d := dx_law_any) rfl
  f_law_plan := c.def_ 37 (d := dx_law_plan) rfl
  f_law_strip_ties := c.def_ 38 (d := dx_law_strip_ties) rfl
  f_law_strip_lists := c.def_ 39 (d := dx_law_strip_lists) rfl
  f_law_web := c.def_ 40 (d := dx_law_web) rfl
  f_law_turned := c.def_ 41 (d := dx_law_turned) rfl
  f_law_ties_of := c.def_ 42 (d := dx_law_ties_of) rfl
  f_law_is_laid := c.def_ 43 (d := dx_law_is_laid) rfl
  f_law := c.def_ 44 (d := dx_law) rfl
theorem nd_Web {K : PySem.W.Frag} : ((cn K).fn 0).Nodup := (by decide : (flA 0).Nodup)
theorem nd_Want {K : PySem.W.Frag} : ((cn K).fn 1).Nodup := (by decide : (flA 1).Nodup)
theorem nd_Cell {K : PySem.W.Frag} : ((cn K).fn 3).Nodup := (by decide : (flA 3).Nodup)
theorem nd_Strip {K : PySem.W.Frag} : ((cn K).fn 4).Nodup := (by decide : (flA 4).Nodup)
theorem nd_TooMany {K : PySem.W.Frag} : ((cn K).fn 2).Nodup := (by decide : (flA 2).Nodup)
theorem nm_Strip_wants_of {K : PySem.W.Frag} : ("wants_of" : Str) ∉ (cn K).fn 4 := (by decide : ("wants_of" : Str) ∉ flA 4)
theorem nm_Strip_web_of {K : PySem.W.Frag} : ("web_of" : Str) ∉ (cn K).fn 4 := (by decide : ("web_of" : Str) ∉ flA 4)
theorem nm_Strip_mirrored {K : PySem.W.Frag} : ("mirrored" : Str) ∉ (cn K).fn 4 := (by decide : ("mirrored" : Str) ∉ flA 4)
section
variable {P : Program} {w : World} {K : PySem.W.Frag} {mg : Str → Option Value} {base : Heap}
theorem sc_TooMany__init : FnScope ["self", "limit"] ["self", "limit"] (defScope s_TooMany__init) := ⟨rfl, rfl, rfl, by decide +kernel, rfl, by decide +kernel, by decide +kernel⟩
theorem okx_TooMany (T : Txt K mg) : ∃ fd, FnOk P w K mg base CX0 1 (a_TooMany__init K) fd ["self", "limit"] (spX1 (He.ga K "TooMany") "limit") ∧ Binds K fd ["self", "limit"] [] := by
  obtain ⟨fd, F⟩ := T.f_TooMany__init
  exact ⟨fd, x1_ok F sc_TooMany__init rfl rfl T.xi_TooMany.ox T.nox_TooMany_limit (fun cdv A outer s H E => pss_one (ps_ost (pv 0) (pv 1))), F.bindsN fun _ _ _ _ _ _ us hl => match us, hl with | [_, _], _ => rfl⟩
theorem sc_is_integer : FnScope ["thing"] ["thing"] (defScope s_is_integer) := ⟨rfl, rfl, rfl, by decide +kernel, rfl, by decide +kernel, by decide +kernel⟩
def b_is_integer : MS := (sRet (mAnd (mIsi [0, 1, 3, 4] (.ty .int) (mVar 0)) (mNot (mIsi [0, 1, 3, 4] (.ty .bool) (mVar 0)))))
def m_is_integer : MF := mDef 1 1 b_is_integer
theorem ar_is_integer : Ar 1 m_is_integer := mDef_ar
theorem ok_is_integer (T : Txt K mg) : ∃ fd, FnG P w K mg base 1 (a_is_integer K) fd ["thing"] (SpD (cn K) 1 m_is_integer) ∧ Binds K fd ["thing"] [] ∧ PySem.W.keepIn K (.ref (a_is_integer K)) = true := by
  obtain ⟨fd, F⟩ := T.f_is_integer
  refine ⟨fd, fn_ok (k := cn K) F sc_is_integer (by decide) fun cdv A outer s H E hr => ?_, F.bindsN fun _ _ _ _ _ _ us hl => match us, hl with | [_], _ => rfl, F.kp⟩
  have tk : Takes (cxOf (L2.CX P w) P w K mg base ["thing"] "is_integer" (defScope s_is_integer) (a_is_integer K) cdv A outer s H E) (fun c d _ H => E c d H) := takes_of rfl rfl rfl rfl
  exact (dss_one (ds_ret (de_and (de_isi (by rfl) T.n_isinstance T.isa rfl rfl (dv 0) (pe_bltn (v := .ty "int") (by rfl) T.n_int (by decide +kernel) rfl)) (de_one (de_not (de_isi (by rfl) T.n_isinstance T.isa rfl rfl (dv 0) (pe_bltn (v := .ty "bool") (by rfl) T.n_bool (by decide +kernel) rfl)))))))
theorem sc_is_number : FnScope ["thing"] ["thing"] (defScope s_is_number) := ⟨rfl, rfl, rfl, by decide +kernel, rfl, by decide +kernel, by decide +kernel⟩
def b_is_number : MS := (sRet (mAnd (mCall m_is_integer [] (mCons (mVar 0) mNil)) (mChain oLe oLe (mUn oNeg (mC (.int 1000000000))) (mVar 0) (mC (.int 1000000000)))))
def m_is_number : MF := mDef 1 1 b_is_number
theorem e_is_number (x0 : D) (C : Store) : m_is_number [x0] C = finS C.length (b_is_number ⟨C.length, [some x0]⟩ C) := mDef_e rfl rfl
theorem ar_is_number : Ar 1 m_is_number := mDef_ar
theorem ok_is_number (T : Txt K mg) : ∃ fd, FnG P w K mg base 2 (a_is_number K) fd ["thing"] (SpD (cn K) 1 m_is_number) ∧ Binds K fd ["thing"] [] ∧ PySem.W.keepIn K (.ref (a_is_number K)) = true := by
  obtain ⟨fd_is_integer, F_is_integer, B_is_integer, kp_is_integer⟩ := ok_is_integer (P := P) (w := w) (base := base) T
  obtain ⟨t_MOST, h_MOST⟩ := T.c_MOST
  obtain ⟨fd, F⟩ := T.f_is_number
  refine ⟨fd, fn_ok (k := cn K) F sc_is_number (by decide) fun cdv A outer s H E hr => ?_, F.bindsN fun _ _ _ _ _ _ us hl => match us, hl with | [_], _ => rfl, F.kp⟩
  have tk : Takes (cxOf (L2.CX P w) P w K mg base ["thing"] "is_number" (defScope s_is_number) (a_is_number K) cdv A outer s H E) (fun c d _ H => E c d H) := takes_of rfl rfl rfl rfl
  exact (dss_one (ds_ret (de_and (de_call tk F_is_integer ar_is_integer (hr.mono (by decide)) (by rfl) T.g_is_integer kp_is_integer B_is_integer .nil (fun _ _ _ => .nil) (da_cons (dv 0) da_nil)) (de_one (de_chain op_le d_le op_le d_le (de_un un_neg d_neg (de_glob (fun _ _ _ => .int _) (by rfl) h_MOST ⟨_, rfl⟩)) (dv 0) (de_glob (fun _ _ _ => .int _) (by rfl) h_MOST ⟨_, rfl⟩))))))
theorem sc_is_count : FnScope ["thing", "least", "greatest"] ["thing", "least", "greatest"] (defScope s_is_count) := ⟨rfl, rfl, rfl, by decide +kernel, rfl, by decide +kernel, by decide +kernel⟩
def b_is_count : MS := (sRet (mAnd (mCall m_is_integer [] (mCons (mVar 0) mNil)) (mChain oLe oLe (mVar 1) (mVar 0) (mVar 2))))
def m_is_count : MF := mDef 3 3 b_is_count
theorem ar_is_count : Ar 3 m_is_count := mDef_ar
theorem ok_is_count (T : Txt K mg) : ∃ fd, FnG P w K mg base 2 (a_is_count K) fd ["thing", "least", "greatest"] (SpD (cn K) 3 m_is_count) ∧ Binds K fd ["thing", "least", "greatest"] [] ∧ PySem.W.keepIn K (.ref (a_is_count K)) = true := by
  obtain ⟨fd_is_integer, F_is_integer, B_is_integer, kp_is_integer⟩ := ok_is_integer (P := P) (w := w) (base := base) T
  obtain ⟨fd, F⟩ := T.f_is_count
  refine ⟨fd, fn_ok (k := cn K) F sc_is_count (by decide) fun cdv A outer s H E hr => ?_, F.bindsN fun _ _ _ _ _ _ us hl => match us, hl with | [_, _, _], _ => rfl, F.kp⟩
  have tk : Takes (cxOf (L2.CX P w) P w K mg base ["thing", "least", "greatest"] "is_count" (defScope s_is_count) (a_is_count K) cdv A outer s H E) (fun c d _ H => E c d H) := takes_of rfl rfl rfl rfl
  exact (dss_one (ds_ret (de_and (de_call tk F_is_integer ar_is_integer (hr.mono (by decide)) (by rfl) T.g_is_integer kp_is_integer B_is_integer .nil (fun _ _ _ => .nil) (da_cons (dv 0) da_nil)) (de_one (de_chain op_le d_le op_le d_le (dv 1) (dv 0) (dv 2))))))
theorem sc_merged : FnScope ["runs", "found", "low", "high"] ["runs"] (defScope s_merged) := ⟨rfl, rfl, rfl, by decide +kernel, rfl, by decide +kernel, by decide +kernel⟩
def b_merged_0 : MS := (sAsg (mAp (oLst true) mNil) (gN 1))
def b_merged_1b_0 : MS := (sIf (tAndM (mTst (mOp (oEqA true) (mVar 1) (mAp (oLst false) mNil))) (mTst (mOp oLe (mVar 2) (mOp oAdd (mOp oIx (mOp oIx (mVar 1) (mUn oNeg (mC (.int 1)))) (mC (.int 1))) (mC (.int 2)))))) (sSetL (mAp oTup (mCons (mOp oIx (mOp oIx (mVar 1) (mUn oNeg (mC (.int 1)))) (mC (.int 0))) (mCons (mAp oMax2 (mCons (mOp oIx (mOp oIx (mVar 1) (mUn oNeg (mC (.int 1)))) (mC (.int 1))) (mCons (mVar 3) mNil))) mNil))) (mVar 1) (mUn oNeg (mC (.int 1)))) (sDrop (mAppend (mVar 1) (mAp oTup (mCons (mVar 2) (mCons (mVar 3) mNil))))))
def b_merged_1 : MS := (sFor (mSeq (mAp (oSortQ false) (mCons (mVar 0) mNil))) (Tgt.tp [2, 3]).M b_merged_1b_0)
def b_merged_2 : MS := (sRet (mAp oTupOf (mCons (mVar 1) mNil)))
def b_merged : MS := (sSeq b_merged_0 (sSeq b_merged_1 b_merged_2))
def m_merged : MF := mDef 1 4 b_merged
theorem e_merged (x0 : D) (C : Store) : m_merged [x0] C = finS C.length (b_merged ⟨C.length, [some x0, none, none, none]⟩ C) := mDef_e rfl rfl
theorem ar_merged : Ar 1 m_merged := mDef_ar
theorem ok_merged (T : Txt K mg) : ∃ fd, FnG P w K mg base 1 (a_merged K) fd ["runs"] (SpD (cn K) 1 m_merged) ∧ Binds K fd ["runs"] [] ∧ PySem.W.keepIn K (.ref (a_merged K)) = true := by
  obtain ⟨fd, F⟩ := T.f_merged
  refine ⟨fd, fn_ok (k := cn K) F sc_merged (by decide) fun cdv A outer s H E hr => ?_, F.bindsN fun _ _ _ _ _ _ us hl => match us, hl with | [_], _ => rfl, F.kp⟩
  have tk : Takes (cxOf (L2.CX P w) P w K mg base ["runs", "found", "low", "high"] "merged" (defScope s_merged) (a_merged K) cdv A outer s H E) (fun c d _ H => E c d H) := takes_of rfl rfl rfl rfl
  exact (dss_cons (ds_set (i := 1) sc_merged.nd rfl (Or.inl rfl) (de_lst true da_nil))
  (dss_cons (ds_for (passes_of rfl) rfl (di_seq rfl (de_callB ((cr_sortA hr.u200).or (cr_sortP hr.u200)) d_sortQ (by rfl) T.n_sorted (by decide +kernel) (da_cons (dv 0) da_nil))) (tg_tp [2, 3] rfl rfl (pgs_cons (pg_name (i := 2) sc_merged.nd rfl (Or.inl rfl)) (pgs_cons (pg_name (i := 3) sc_merged.nd rfl (Or.inl rfl)) pgs_nil))) (dss_one (ds_if (PW.pt (dw_and (dt_cmp (op_ne.or (op_neD hr.room.units)) d_neA (dv 1) (de_lst false da_nil) (nomark _)) (dw_and1 (dt_cmp op_le d_le (dv 2) (de_op op_add d_add (de_ix ix_seq d_ix (de_ix ix_seq d_ix (dv 1) (de_un un_neg d_neg de_int)) de_int) de_int) (nomark _))))) (dss_one (ds_setL (de_tup (da_cons (de_ix ix_seq d_ix (de_ix ix_seq d_ix (dv 1) (de_un un_neg d_neg de_int)) de_int) (da_cons (de_callB (call_max2 rfl) d_max2 (by rfl) T.n_max (by decide +kernel) (da_cons (de_ix ix_seq d_ix (de_ix ix_seq d_ix (dv 1) (de_un un_neg d_neg de_int)) de_int) (da_cons (dv 3) da_nil))) da_nil))) (pg_sub (dv 1) (de_un un_neg d_neg de_int) set_list))) (dss_one (ds_expr (de_append rfl (dv 1) (de_tup (da_cons (dv 2) (da_cons (dv 3) da_nil)))))))))
  (dss_one (ds_ret (de_callTy call_tuple_of d_tupOf (by rfl) T.n_tuple (by decide +kernel) (da_cons (dv 1) da_nil))))))
theorem sc_check_numbers : FnScope ["numbers", "place", "thing"] ["numbers"] (defScope s_check_numbers) := ⟨rfl, rfl, rfl, by decide +kernel, rfl, by decide +kernel, by decide +kernel⟩
def b_check_numbersb_0 : MS := (sIf (tNotM (mTst (mCall m_is_number [] (mCons (mVar 2) mNil)))) sNever sNext)
def b_check_numbers : MS := (sFor (mEnum (mVar 0)) (Tgt.tp [1, 2]).M b_check_numbersb_0)
def m_check_numbers : MF := mDef 1 3 b_check_numbers
theorem e_check_numbers (x0 : D) (C : Store) : m_check_numbers [x0] C = finS C.length (b_check_numbers ⟨C.length, [some x0, none, none]⟩ C) := mDef_e rfl rfl
theorem ar_check_numbers : Ar 1 m_check_numbers := mDef_ar
theorem ok_check_numbers (T : Txt K mg) : ∃ fd, FnG P w K mg base 3 (a_check_numbers K) fd ["numbers"] (SpD (cn K) 1 m_check_numbers) ∧ Binds K fd ["numbers"] [] ∧ PySem.W.keepIn K (.ref (a_check_numbers K)) = true := by
  obtain ⟨fd_is_number, F_is_number, B_is_number, kp_is_number⟩ := ok_is_number (P := P) (w := w) (base := base) T
  obtain ⟨fd, F⟩ := T.f_check_numbers
  refine ⟨fd, fn_ok (k := cn K) F sc_check_numbers (by decide) fun cdv A outer s H E hr => ?_, F.bindsN fun _ _ _ _ _ _ us hl => match us, hl with | [_], _ => rfl, F.kp⟩
  have tk : Takes (cxOf (L2.CX P w) P w K mg base ["numbers", "place", "thing"] "check_numbers" (defScope s_check_numbers) (a_check_numbers K) cdv A outer s H E) (fun c d _ H => E c d H) := takes_of rfl rfl rfl rfl
  exact (dss_one (ds_for (passes_of rfl) rfl (di_enum (by rfl) T.n_enumerate rfl (dv 0)) (tg_tp [1, 2] rfl rfl (pgs_cons (pg_name (i := 1) sc_check_numbers.nd rfl (Or.inl rfl)) (pgs_cons (pg_name (i := 2) sc_check_numbers.nd rfl (Or.inl rfl)) pgs_nil))) (dss_one (ds_if (dt_not (dt_val (de_call tk F_is_number ar_is_number (hr.mono (by decide)) (by rfl) T.g_is_number kp_is_number B_is_number .nil (fun _ _ _ => .nil) (da_cons (dv 2) da_nil)))) (dss_one ds_never) dss_nil))))
theorem sc_halves_of : FnScope ["numbers", "parity", "x"] ["numbers"] (defScope s_halves_of) := ⟨rfl, rfl, rfl, by decide +kernel, rfl, by decide +kernel, by decide +kernel⟩
def b_halves_of : MS := (sRet (mAp oTupOf (mCons (mLc false (mSeq (mAp oTup (mCons (mC (.int 0)) (mCons (mC (.int 1)) mNil)))) (Tgt.nm 1).M tYesM (mCall m_merged [] (mCons (mLc false (mSeq (mVar 0)) (Tgt.nm 2).M (mTst (mOp (oEqA false) (mOp oMod (mVar 2) (mC (.int 2))) (mVar 1))) (mAp oTup (mCons (mVar 2) (mCons (mVar 2) mNil))) [2]) mNil)) [1]) mNil)))
def m_halves_of : MF := mDef 1 3 b_halves_of
theorem e_halves_of (x0 : D) (C : Store) : m_halves_of [x0] C = finS C.length (b_halves_of ⟨C.length, [some x0, none, none]⟩ C) := mDef_e rfl rfl
theorem ar_halves_of : Ar 1 m_halves_of := mDef_ar
theorem ok_halves_of (T : Txt K mg) : ∃ fd, FnG P w K mg base 2 (a_halves_of K) fd ["numbers"] (SpD (cn K) 1 m_halves_of) ∧ Binds K fd ["numbers"] [] ∧ PySem.W.keepIn K (.ref (a_halves_of K)) = true := by
  obtain ⟨fd_merged, F_merged, B_merged, kp_merged⟩ := ok_merged (P := P) (w := w) (base := base) T
  obtain ⟨fd, F⟩ := T.f_halves_of
  refine ⟨fd, fn_ok (k := cn K) F sc_halves_of (by decide) fun cdv A outer s H E hr => ?_, F.bindsN fun _ _ _ _ _ _ us hl => match us, hl with | [_], _ => rfl, F.kp⟩
  have tk : Takes (cxOf (L2.CX P w) P w K mg base ["numbers", "parity", "x"] "halves_of" (defScope s_halves_of) (a_halves_of K) cdv A outer s H E) (fun c d _ H => E c d H) := takes_of rfl rfl rfl rfl
  exact (dss_one (ds_ret (de_callTy call_tuple_of d_tupOf (by rfl) T.n_tuple (by decide +kernel) (da_cons (de_lc (own := [("parity", 1)]) false rfl rfl sc_halves_of.nd (di_seq rfl (de_tup (da_cons de_int (da_cons de_int da_nil)))) (blkOk_by (own := [("parity", 1)]) rfl) (by decide) (fun _ _ _ _ _ => (tg_nm (i := 1) sc_halves_of.nd rfl (by first | exact Or.inl rfl | exact Or.inr rfl))) (fun _ _ _ _ _ => dts_nil) (fun _ _ _ _ _ => (de_call takes0 F_merged ar_merged (hr.mono (by decide)) (by rfl) T.g_merged kp_merged B_merged .nil (fun _ _ _ => .nil) (da_cons (de_lc (own := [("x", 2)]) false rfl rfl sc_halves_of.nd (di_seq rfl (dv 0)) (blkOk_by (own := [("x", 2)]) rfl) (by decide) (fun _ _ _ _ _ => (tg_nm (i := 2) sc_halves_of.nd rfl (by first | exact Or.inl rfl | exact Or.inr rfl))) (fun _ _ _ _ _ => (pts_one (dt_cmp (op_eq.or (op_eqD hr.room.units)) d_eqA (de_op op_mod d_mod (dv 2) de_int) (dv 1) (nomark _)))) (fun _ _ _ _ _ => (de_tup (da_cons (dv 2) (da_cons (dv 2) da_nil))))) da_nil)))) da_nil))))
theorem sc_Want__init : FnScope ["self", "halves", "numbers"] ["self", "halves", "numbers"] (defScope s_Want__init) := ⟨rfl, rfl, rfl, by decide +kernel, rfl, by decide +kernel, by decide +kernel⟩
def b_Want__init_0 : MS := (sDrop (mCall m_check_numbers [] (mCons (mVar 2) mNil)))
def b_Want__init_1 : MS := (sIf (mTst (mOp oGt (mAp oLenSI (mCons (mVar 2) mNil)) (mC (.int 40)))) sNever sNext)
def b_Want__init_2 : MS := (sFldS 1 0 (mIf (mTst (mOp (oIsN false) (mVar 1) (mC .non))) (mCall m_halves_of [] (mCons (mVar 2) mNil)) (mVar 1)) (mVar 0))
def b_Want__init : MS := (sSeq b_Want__init_0 (sSeq b_Want__init_1 b_Want__init_2))
def m_Want__init : MF := mDef 3 3 b_Want__init
theorem e_Want__init (x0 x1 x2 : D) (C : Store) : m_Want__init [x0, x1, x2] C = finS C.length (b_Want__init ⟨C.length, [some x0, some x1, some x2]⟩ C) := mDef_e rfl rfl
theorem ok_Want__init (T : Txt K mg) : ∃ fd, FnW P w K mg base 4 (a_Want__init K) fd ["self", "halves", "numbers"] (SpD (cn K) 3 m_Want__init) ∧ BnW K fd ["self", "halves", "numbers"] .pos 1 [] ∧ BnW K fd ["self", "halves", "numbers"] .kw 1 ["halves"] := by
  obtain ⟨fd_check_numbers, F_check_numbers, B_check_numbers, kp_check_numbers⟩ := ok_check_numbers (P := P) (w := w) (base := base) T
  obtain ⟨fd_halves_of, F_halves_of, B_halves_of, kp_halves_of⟩ := ok_halves_of (P := P) (w := w) (base := base) T
  obtain ⟨fd, F⟩ := T.f_Want__init
  refine ⟨fd, fn_okW (k := cn K) F sc_Want__init (by decide) fun cdv A outer s H E hr => ?_, bn_pos F T.kw_Want__init 1 (by decide) fun D doc pm an cdv ct u0 us hl => match us, hl with | [_], _ => ⟨_, _, _, _, _, _, rfl, rfl, rfl⟩, bn_kw F fun _ _ _ _ _ _ _ _ => rfl⟩
  have tk : Takes (cxOf (L2.CX P w) P w K mg base ["self", "halves", "numbers"] "Want.__init__" (defScope s_Want__init) (a_Want__init K) cdv A outer s H E) (fun c d _ H => E c d H) := takes_of rfl rfl rfl rfl
  exact (dss_cons (ds_expr (de_call tk F_check_numbers ar_check_numbers (hr.mono (by decide)) (by rfl) T.g_check_numbers kp_check_numbers B_check_numbers .nil (fun _ _ _ => .nil) (da_cons (dv 2) da_nil)))
  (dss_cons (ds_if (dt_cmp op_gt d_gt (de_lenSI rfl rfl (by rfl) T.n_len (by rfl) T.n_set (da_cons (dv 2) da_nil)) de_int (nomark _)) (dss_one ds_never) dss_nil)
  (dss_one (ds_fld 1 0 rfl T.cl_Want T.no_Want_halves nd_Want rfl (show 1 < 1000 by decide) (dv 0) (de_if (dt_cmp op_isN d_isN (dv 1) de_non (nomark _)) (de_call tk F_halves_of ar_halves_of (hr.mono (by decide)) (by rfl) T.g_halves_of kp_halves_of B_halves_of .nil (fun _ _ _ => .nil) (da_cons (dv 2) da_nil)) (dv 1))))))
theorem sc_Want_evens : FnScope ["self"] ["self"] (defScope s_Want_evens) := ⟨rfl, rfl, rfl, by decide +kernel, rfl, by decide +kernel, by decide +kernel⟩
def b_Want_evens : MS := (sRet (mOp oIx (mUn (oFld 1 0) (mVar 0)) (mC (.int 0))))
def m_Want_evens : MF := mDef 1 1 b_Want_evens
theorem e_Want_evens (x0 : D) (C : Store) : m_Want_evens [x0] C = finS C.length (b_Want_evens ⟨C.length, [some x0]⟩ C) := mDef_e rfl rfl
theorem ar_Want_evens : Ar 1 m_Want_evens := mDef_ar
theorem ok_Want_evens (T : Txt K mg) : ∃ fd, FnG P w K mg base 1 (a_Want_evens K) fd ["self"] (SpD (cn K) 1 m_Want_evens) ∧ Binds K fd ["self"] [] ∧ PySem.W.keepIn K (.ref (a_Want_evens K)) = true := by
  obtain ⟨fd, F⟩ := T.f_Want_evens
  refine ⟨fd, fn_ok (k := cn K) F sc_Want_evens (by decide) fun cdv A outer s H E hr => ?_, F.bindsN fun _ _ _ _ _ _ us hl => match us, hl with | [_], _ => rfl, F.kp⟩
  have tk : Takes (cxOf (L2.CX P w) P w K mg base ["self"] "Want.evens" (defScope s_Want_evens) (a_Want_evens K) cdv A outer s H E) (fun c d _ H => E c d H) := takes_of rfl rfl rfl rfl
  exact (dss_one (ds_ret (de_ix ix_seq d_ix (de_fld 1 0 rfl T.cl_Want T.no_Want_halves nd_Want rfl (dv 0)) de_int)))
theorem sc_Want_odds : FnScope ["self"] ["self"] (defScope s_Want_odds) := ⟨rfl, rfl, rfl, by decide +kernel, rfl, by decide +kernel, by decide +kernel⟩
def b_Want_odds : MS := (sRet (mOp oIx (mUn (oFld 1 0) (mVar 0)) (mC (.int 1))))
def m_Want_odds : MF := mDef 1 1 b_Want_odds
theorem e_Want_odds (x0 : D) (C : Store) : m_Want_odds [x0] C = finS C.length (b_Want_odds ⟨C.length, [some x0]⟩ C) := mDef_e rfl rfl
theorem ar_Want_odds : Ar 1 m_Want_odds := mDef_ar
theorem ok_Want_odds (T : Txt K mg) : ∃ fd, FnG P w K mg base 1 (a_Want_odds K) fd ["self"] (SpD (cn K) 1 m_Want_odds) ∧ Binds K fd ["self"] [] ∧ PySem.W.keepIn K (.ref (a_Want_odds K)) = true := by
  obtain ⟨fd, F⟩ := T.f_Want_odds
  refine ⟨fd, fn_ok (k := cn K) F sc_Want_odds (by decide) fun cdv A outer s H E hr => ?_, F.bindsN fun _ _ _ _ _ _ us hl => match us, hl with | [_], _ => rfl, F.kp⟩
  have tk : Takes (cxOf (L2.CX P w) P w K mg base ["self"] "Want.odds" (defScope s_Want_odds) (a_Want_odds K) cdv A outer s H E) (fun c d _ H => E c d H) := takes_of rfl rfl rfl rfl
  exact (dss_one (ds_ret (de_ix ix_seq d_ix (de_fld 1 0 rfl T.cl_Want T.no_Want_halves nd_Want rfl (dv 0)) de_int)))
theorem sc_Want_low : FnScope ["self", "runs"] ["self"] (defScope s_Want_low) := ⟨rfl, rfl, rfl, by decide +kernel, rfl, by decide +kernel, by decide +kernel⟩
def b_Want_low : MS := (sRet (mMnD min (mLc false (mSeq (mUn (oFld 1 0) (mVar 0))) (Tgt.nm 1).M (mTst (mOp (oEqA true) (mVar 1) (mAp oTup mNil))) (mOp oIx (mOp oIx (mVar 1) (mC (.int 0))) (mC (.int 0))) [1]) (mC .non)))
def m_Want_low : MF := mDef 1 2 b_Want_low
theorem e_Want_low (x0 : D) (C : Store) : m_Want_low [x0] C = finS C.length (b_Want_low ⟨C.length, [some x0, none]⟩ C) := mDef_e rfl rfl
theorem ar_Want_low : Ar 1 m_Want_low := mDef_ar
theorem ok_Want_low (T : Txt K mg) : ∃ fd, FnG P w K mg base 1 (a_Want_low K) fd ["self"] (SpD (cn K) 1 m_Want_low) ∧ Binds K fd ["self"] [] ∧ PySem.W.keepIn K (.ref (a_Want_low K)) = true := by
  obtain ⟨fd, F⟩ := T.f_Want_low
  refine ⟨fd, fn_ok (k := cn K) F sc_Want_low (by decide) fun cdv A outer s H E hr => ?_, F.bindsN fun _ _ _ _ _ _ us hl => match us, hl with | [_], _ => rfl, F.kp⟩
  have tk : Takes (cxOf (L2.CX P w) P w K mg base ["self", "runs"] "Want.low" (defScope s_Want_low) (a_Want_low K) cdv A outer s H E) (fun c d _ H => E c d H) := takes_of rfl rfl rfl rfl
  exact (dss_one (ds_ret (de_mnD rfl (cr_minD hr.room.hd hr.u200) (by rfl) T.n_min (by decide +kernel) (de_lc (own := [("runs", 1)]) false rfl rfl sc_Want_low.nd (di_seq rfl (de_fld 1 0 rfl T.cl_Want T.no_Want_halves nd_Want rfl (dv 0))) (blkOk_by (own := [("runs", 1)]) rfl) (by decide) (fun _ _ _ _ _ => (tg_nm (i := 1) sc_Want_low.nd rfl (by first | exact Or.inl rfl | exact Or.inr rfl))) (fun _ _ _ _ _ => (pts_one (dt_cmp (op_ne.or (op_neD hr.room.units)) d_neA (dv 1) (de_tup da_nil) (nomark _)))) (fun _ _ _ _ _ => (de_ix ix_seq d_ix (de_ix ix_seq d_ix (dv 1) de_int) de_int))) de_non)))
theorem sc_Want_high : FnScope ["self", "runs"] ["self"] (defScope s_Want_high) := ⟨rfl, rfl, rfl, by decide +kernel, rfl, by decide +kernel, by decide +kernel⟩
def b_Want_high : MS := (sRet (mMnD max (mLc false (mSeq (mUn (oFld 1 0) (mVar 0))) (Tgt.nm 1).M (mTst (mOp (oEqA true) (mVar 1) (mAp oTup mNil))) (mOp oIx (mOp oIx (mVar 1) (mUn oNeg (mC (.int 1)))) (mC (.int 1))) [1]) (mC .non)))
def m_Want_high : MF := mDef 1 2 b_Want_high
theorem e_Want_high (x0 : D) (C : Store) : m_Want_high [x0] C = finS C.length (b_Want_high ⟨C.length, [some x0, none]⟩ C) := mDef_e rfl rfl
theorem ar_Want_high : Ar 1 m_Want_high := mDef_ar
theorem ok_Want_high (T : Txt K mg) : ∃ fd, FnG P w K mg base 1 (a_Want_high K) fd ["self"] (SpD (cn K) 1 m_Want_high) ∧ Binds K fd ["self"] [] ∧ PySem.W.keepIn K (.ref (a_Want_high K)) = true := by
  obtain ⟨fd, F⟩ := T.f_Want_high
  refine ⟨fd, fn_ok (k := cn K) F sc_Want_high (by decide) fun cdv A outer s H E hr => ?_, F.bindsN fun _ _ _ _ _ _ us hl => match us, hl with | [_], _ => rfl, F.kp⟩
  have tk : Takes (cxOf (L2.CX P w) P w K mg base ["self", "runs"] "Want.high" (defScope s_Want_high) (a_Want_high K) cdv A outer s H E) (fun c d _ H => E c d H) := takes_of rfl rfl rfl rfl
  exact (dss_one (ds_ret (de_mnD rfl (cr_maxD hr.room.hd hr.u200) (by rfl) T.n_max (by decide +kernel) (de_lc (own := [("runs", 1)]) false rfl rfl sc_Want_high.nd (di_seq rfl (de_fld 1 0 rfl T.cl_Want T.no_Want_halves nd_Want rfl (dv 0))) (blkOk_by (own := [("runs", 1)]) rfl) (by decide) (fun _ _ _ _ _ => (tg_nm (i := 1) sc_Want_high.nd rfl (by first | exact Or.inl rfl | exact Or.inr rfl))) (fun _ _ _ _ _ => (pts_one (dt_cmp (op_ne.or (op_neD hr.room.units)) d_neA (dv 1) (de_tup da_nil) (nomark _)))) (fun _ _ _ _ _ => (de_ix ix_seq d_ix (de_ix ix_seq d_ix (dv 1) (de_un un_neg d_neg de_int)) de_int))) de_non)))
theorem sc_Want__or : FnScope ["self", "other", "k"] ["self", "other"] (defScope s_Want__or) := ⟨rfl, rfl, rfl, by decide +kernel, rfl, by decide +kernel, by decide +kernel⟩
def b_Want__or_0 : MS := (sIf (tNotM (mTst (mIsi [0, 1, 3, 4] (.own 1) (mVar 1)))) sNever sNext)
def b_Want__or_1 : MS := (sRet (mMake false 1 1 (vaM .kw 1 m_Want__init) [] (mCons (mAp oTupOf (mCons (mLc false (mSeq (mAp oTup (mCons (mC (.int 0)) (mCons (mC (.int 1)) mNil)))) (Tgt.nm 2).M tYesM (mCall m_merged [] (mCons (mOp oCatT (mOp oIx (mUn (oFld 1 0) (mVar 0)) (mVar 2)) (mOp oIx (mUn (oFld 1 0) (mVar 1)) (mVar 2))) mNil)) [2]) mNil)) mNil)))
def b_Want__or : MS := (sSeq b_Want__or_0 b_Want__or_1)
def m_Want__or : MF := mDef 2 3 b_Want__or
theorem e_Want__or (x0 x1 : D) (C : Store) : m_Want__or [x0, x1] C = finS C.length (b_Want__or ⟨C.length, [some x0, some x1, none]⟩ C) := mDef_e rfl rfl
theorem ar_Want__or : Ar 2 m_Want__or := mDef_ar
theorem ok_Want__or (T : Txt K mg) : ∃ fd, FnG P w K mg base 6 (a_Want__or K) fd ["self", "other"] (SpD (cn K) 2 m_Want__or) ∧ Binds K fd ["self", "other"] [] ∧ PySem.W.keepIn K (.ref (a_Want__or K)) = true := by
  obtain ⟨fd_Want__init, F_Want__init, Bn1_Want__init, Bk_Want__init⟩ := ok_Want__init (P := P) (w := w) (base := base) T
  obtain ⟨fd_merged, F_merged, B_merged, kp_merged⟩ := ok_merged (P := P) (w := w) (base := base) T
  obtain ⟨fd, F⟩ := T.f_Want__or
  refine ⟨fd, fn_ok (k := cn K) F sc_Want__or (by decide) fun cdv A outer s H E hr => ?_, F.bindsN fun _ _ _ _ _ _ us hl => match us, hl with | [_, _], _ => rfl, F.kp⟩
  have tk : Takes (cxOf (L2.CX P w) P w K mg base ["self", "other", "k"] "Want.__or__" (defScope s_Want__or) (a_Want__or K) cdv A outer s H E) (fun c d _ H => E c d H) := takes_of rfl rfl rfl rfl
  exact (dss_cons (ds_if (dt_not (dt_val (de_isi (by rfl) T.n_isinstance T.isa rfl rfl (dv 1) (pe_glob (by rfl) T.g_Want rfl)))) (dss_one ds_never) dss_nil)
  (dss_one (ds_ret (de_makeWk false 1 1 tk rfl T.mk_Want F_Want__init rfl (hr.mono (by decide)) (by rfl) T.g_Want Bk_Want__init (de_callTy call_tuple_of d_tupOf (by rfl) T.n_tuple (by decide +kernel) (da_cons (de_lc (own := [("k", 2)]) false rfl rfl sc_Want__or.nd (di_seq rfl (de_tup (da_cons de_int (da_cons de_int da_nil)))) (blkOk_by (own := [("k", 2)]) rfl) (by decide) (fun _ _ _ _ _ => (tg_nm (i := 2) sc_Want__or.nd rfl (by first | exact Or.inl rfl | exact Or.inr rfl))) (fun _ _ _ _ _ => dts_nil) (fun _ _ _ _ _ => (de_call takes0 F_merged ar_merged (hr.mono (by decide)) (by rfl) T.g_merged kp_merged B_merged .nil (fun _ _ _ => .nil) (da_cons (de_op op_catA d_catT (de_ix ix_seq d_ix (de_fld 1 0 rfl T.cl_Want T.no_Want_halves nd_Want rfl (dv 0)) (dv 2)) (de_ix ix_seq d_ix (de_fld 1 0 rfl T.cl_Want T.no_Want_halves nd_Want rfl (dv 1)) (dv 2))) da_nil)))) da_nil))))))
theorem sc_Want__bool : FnScope ["self"] ["self"] (defScope s_Want__bool) := ⟨rfl, rfl, rfl, by decide +kernel, rfl, by decide +kernel, by decide +kernel⟩
def b_Want__bool : MS := (sRet (mAp oBoolT (mCons (mOrT (mOp oIx (mUn (oFld 1 0) (mVar 0)) (mC (.int 0))) (mOp oIx (mUn (oFld 1 0) (mVar 0)) (mC (.int 1)))) mNil)))
def m_Want__bool : MF := mDef 1 1 b_Want__bool
theorem e_Want__bool (x0 : D) (C : Store) : m_Want__bool [x0] C = finS C.length (b_Want__bool ⟨C.length, [some x0]⟩ C) := mDef_e rfl rfl
theorem ar_Want__bool : Ar 1 m_Want__bool := mDef_ar
theorem ok_Want__bool (T : Txt K mg) : ∃ fd, FnG P w K mg base 1 (a_Want__bool K) fd ["self"] (SpD (cn K) 1 m_Want__bool) ∧ Binds K fd ["self"] [] ∧ PySem.W.keepIn K (.ref (a_Want__bool K)) = true := by
  obtain ⟨fd, F⟩ := T.f_Want__bool
  refine ⟨fd, fn_ok (k := cn K) F sc_Want__bool (by decide) fun cdv A outer s H E hr => ?_, F.bindsN fun _ _ _ _ _ _ us hl => match us, hl with | [_], _ => rfl, F.kp⟩
  have tk : Takes (cxOf (L2.CX P w) P w K mg base ["self"] "Want.__bool__" (defScope s_Want__bool) (a_Want__bool K) cdv A outer s H E) (fun c d _ H => E c d H) := takes_of rfl rfl rfl rfl
  exact (dss_one (ds_ret (de_callTy call_boolT d_boolT (by rfl) T.n_bool (by decide +kernel) (da_cons (de_orT rfl (de_ix ix_seq d_ix (de_fld 1 0 rfl T.cl_Want T.no_Want_halves nd_Want rfl (dv 0)) de_int) (de_ix ix_seq d_ix (de_fld 1 0 rfl T.cl_Want T.no_Want_halves nd_Want rfl (dv 0)) de_int)) da_nil))))
theorem sc_Want__eq : FnScope ["self", "other"] ["self", "other"] (defScope s_Want__eq) := ⟨rfl, rfl, rfl, by decide +kernel, rfl, by decide +kernel, by decide +kernel⟩
def b_Want__eq : MS := (sRet (mAnd (mIsi [0, 1, 3, 4] (.own 1) (mVar 1)) (mOp (oEqA false) (mUn (oFld 1 0) (mVar 0)) (mUn (oFld 1 0) (mVar 1)))))
def m_Want__eq : MF := mDef 2 2 b_Want__eq
theorem e_Want__eq (x0 x1 : D) (C : Store) : m_Want__eq [x0, x1] C = finS C.length (b_Want__eq ⟨C.length, [some x0, some x1]⟩ C) := mDef_e rfl rfl
theorem ar_Want__eq : Ar 2 m_Want__eq := mDef_ar
theorem ok_Want__eq (T : Txt K mg) : ∃ fd, FnG P w K mg base 1 (a_Want__eq K) fd ["self", "other"] (SpD (cn K) 2 m_Want__eq) ∧ Binds K fd ["self", "other"] [] ∧ PySem.W.keepIn K (.ref (a_Want__eq K)) = true := by
  obtain ⟨fd, F⟩ := T.f_Want__eq
  refine ⟨fd, fn_ok (k := cn K) F sc_Want__eq (by decide) fun cdv A outer s H E hr => ?_, F.bindsN fun _ _ _ _ _ _ us hl => match us, hl with | [_, _], _ => rfl, F.kp⟩
  have tk : Takes (cxOf (L2.CX P w) P w K mg base ["self", "other"] "Want.__eq__" (defScope s_Want__eq) (a_Want__eq K) cdv A outer s H E) (fun c d _ H => E c d H) := takes_of rfl rfl rfl rfl
  exact (dss_one (ds_ret (de_and (de_isi (by rfl) T.n_isinstance T.isa rfl rfl (dv 1) (pe_glob (by rfl) T.g_Want rfl)) (de_one (de_cmp (op_eq.or (op_eqD hr.room.units)) d_eqA (de_fld 1 0 rfl T.cl_Want T.no_Want_halves nd_Want rfl (dv 0)) (de_fld 1 0 rfl T.cl_Want T.no_Want_halves nd_Want rfl (dv 1)) (nomark _))))))
theorem sc_is_tie : FnScope ["size", "thing", "u", "v", "number"] ["size", "thing"] (defScope s_is_tie) := ⟨rfl, rfl, rfl, by decide +kernel, rfl, by decide +kernel, by decide +kernel⟩
def b_is_tie_0 : MS := (sIf (tOrM (tNotM (mTst (mIsi [0, 1, 3, 4] (.ty .tuple) (mVar 1)))) (mTst (mOp (oEqA true) (mAp oLen (mCons (mVar 1) mNil)) (mC (.int 3))))) (sRet (mC (.bl false))) sNext)
def b_is_tie_1 : MS := (sAsg (mVar 1) (Tgt.tp [2, 3, 4]).M)
def b_is_tie_2 : MS := (sIf (tOrM (tNotM (mTst (mCall m_is_count [] (mCons (mVar 2) (mCons (mC (.int 0)) (mCons (mOp oSub (mVar 0) (mC (.int 1))) mNil)))))) (tOrM (tNotM (mTst (mCall m_is_count [] (mCons (mVar 3) (mCons (mC (.int 0)) (mCons (mOp oSub (mVar 0) (mC (.int 1))) mNil)))))) (mTst (mOp (oEqA false) (mVar 2) (mVar 3))))) (sRet (mC (.bl false))) sNext)
def b_is_tie_3 : MS := (sRet (mCall m_is_count [] (mCons (mVar 4) (mCons (mC (.int 0)) (mCons (mC (.int 1000000000)) mNil)))))
def b_is_tie : MS := (sSeq b_is_tie_0 (sSeq b_is_tie_1 (sSeq b_is_tie_2 b_is_tie_3)))
def m_is_tie : MF := mDef 2 5 b_is_tie
theorem e_is_tie (x0 x1 : D) (C : Store) : m_is_tie [x0, x1] C = finS C.length (b_is_tie ⟨C.length, [some x0, some x1, none, none, none]⟩ C) := mDef_e rfl rfl
theorem ar_is_tie : Ar 2 m_is_tie := mDef_ar
theorem ok_is_tie (T : Txt K mg) : ∃ fd, FnG P w K mg base 3 (a_is_tie K) fd ["size", "thing"] (SpD (cn K) 2 m_is_tie) ∧ Binds K fd ["size", "thing"] [] ∧ PySem.W.keepIn K (.ref (a_is_tie K)) = true := by
  obtain ⟨fd_is_count, F_is_count, B_is_count, kp_is_count⟩ := ok_is_count (P := P) (w := w) (base := base) T
  obtain ⟨t_MOST, h_MOST⟩ := T.c_MOST
  obtain ⟨fd, F⟩ := T.f_is_tie
  refine ⟨fd, fn_ok (k := cn K) F sc_is_tie (by decide) fun cdv A outer s H E hr => ?_, F.bindsN fun _ _ _ _ _ _ us hl => match us, hl with | [_, _], _ => rfl, F.kp⟩
  have tk : Takes (cxOf (L2.CX P w) P w K mg base ["size", "thing", "u", "v", "number"] "is_tie" (defScope s_is_tie) (a_is_tie K) cdv A outer s H E) (fun c d _ H => E c d H) := takes_of rfl rfl rfl rfl
  exact (dss_cons (ds_if (PW.pt (dw_or (dt_not (dt_val (de_isi (by rfl) T.n_isinstance T.isa rfl rfl (dv 1) (pe_bltn (v := .ty "tuple") (by rfl) T.n_tuple (by decide +kernel) rfl)))) (dw_or1 (dt_cmp (op_ne.or (op_neD hr.room.units)) d_neA (de_callB call_len_seq d_len (by rfl) T.n_len (by decide +kernel) (da_cons (dv 1) da_nil)) de_int (nomark _))))) (dss_one (ds_ret de_bl)) dss_nil)
  (dss_cons (ds_asgT (dv 1) (tg_tp [2, 3, 4] rfl rfl (pgs_cons (pg_name (i := 2) sc_is_tie.nd rfl (Or.inl rfl)) (pgs_cons (pg_name (i := 3) sc_is_tie.nd rfl (Or.inl rfl)) (pgs_cons (pg_name (i := 4) sc_is_tie.nd rfl (Or.inl rfl)) pgs_nil)))))
  (dss_cons (ds_if (PW.pt (dw_or (dt_not (dt_val (de_call tk F_is_count ar_is_count (hr.mono (by decide)) (by rfl) T.g_is_count kp_is_count B_is_count .nil (fun _ _ _ => .nil) (da_cons (dv 2) (da_cons de_int (da_cons (de_op op_sub d_sub (dv 0) de_int) da_nil)))))) (dw_or (dt_not (dt_val (de_call tk F_is_count ar_is_count (hr.mono (by decide)) (by rfl) T.g_is_count kp_is_count B_is_count .nil (fun _ _ _ => .nil) (da_cons (dv 3) (da_cons de_int (da_cons (de_op op_sub d_sub (dv 0) de_int) da_nil)))))) (dw_or1 (dt_cmp (op_eq.or (op_eqD hr.room.units)) d_eqA (dv 2) (dv 3) (nomark _)))))) (dss_one (ds_ret de_bl)) dss_nil)
  (dss_one (ds_ret (de_call tk F_is_count ar_is_count (hr.mono (by decide)) (by rfl) T.g_is_count kp_is_count B_is_count .nil (fun _ _ _ => .nil) (da_cons (dv 4) (da_cons de_int (da_cons (de_glob (fun _ _ _ => .int _) (by rfl) h_MOST ⟨_, rfl⟩) da_nil)))))))))
theorem sc_summed : FnScope ["ties", "found", "u", "v", "number", "pair"] ["ties"] (defScope s_summed) := ⟨rfl, rfl, rfl, by decide +kernel, rfl, by decide +kernel, by decide +kernel⟩
def b_summed_0 : MS := (sAsg (mDNew true) (gN 1))
def b_summed_1b_0 : MS := (sAsg (mAp oTup (mCons (mAp oMin2 (mCons (mVar 2) (mCons (mVar 3) mNil))) (mCons (mAp oMax2 (mCons (mVar 2) (mCons (mVar 3) mNil))) mNil))) (gN 5))
def b_summed_1b_1 : MS := (sPut (mOp oAdd (mDGet (mVar 1) (mVar 5) (mC (.int 0))) (mVar 4)) (mVar 1) (mVar 5))
def b_summed_1 : MS := (sFor (mSeq (mVar 0)) (Tgt.tp [2, 3, 4]).M (sSeq b_summed_1b_0 b_summed_1b_1))
def b_summed_2 : MS := (sRet (mVar 1))
def b_summed : MS := (sSeq b_summed_0 (sSeq b_summed_1 b_summed_2))
def m_summed : MF := mDef 1 6 b_summed
theorem e_summed (x0 : D) (C : Store) : m_summed [x0] C = finS C.length (b_summed ⟨C.length, [some x0, none, none, none, none, none]⟩ C) := mDef_e rfl rfl
theorem ar_summed : Ar 1 m_summed := mDef_ar
theorem ok_summed (T : Txt K mg) : ∃ fd, FnG P w K mg base 1 (a_summed K) fd ["ties"] (SpD (cn K) 1 m_summed) ∧ Binds K fd ["ties"] [] ∧ PySem.W.keepIn K (.ref (a_summed K)) = true := by
  obtain ⟨fd, F⟩ := T.f_summed
  refine ⟨fd, fn_ok (k := cn K) F sc_summed (by decide) fun cdv A outer s H E hr => ?_, F.bindsN fun _ _ _ _ _ _ us hl => match us, hl with | [_], _ => rfl, F.kp⟩
  have tk : Takes (cxOf (L2.CX P w) P w K mg base ["ties", "found", "u", "v", "number", "pair"] "summed" (defScope s_summed) (a_summed K) cdv A outer s H E) (fun c d _ H => E c d H) := takes_of rfl rfl rfl rfl
  exact (dss_cons (ds_set (i := 1) sc_summed.nd rfl (Or.inl rfl) (de_dnew true))
  (dss_cons (ds_for (passes_of rfl) rfl (di_seq rfl (dv 0)) (tg_tp [2, 3, 4] rfl rfl (pgs_cons (pg_name (i := 2) sc_summed.nd rfl (Or.inl rfl)) (pgs_cons (pg_name (i := 3) sc_summed.nd rfl (Or.inl rfl)) (pgs_cons (pg_name (i := 4) sc_summed.nd rfl (Or.inl rfl)) pgs_nil)))) (dss_cons (ds_set (i := 5) sc_summed.nd rfl (Or.inl rfl) (de_tup (da_cons (de_callB (call_min2 rfl) d_min2 (by rfl) T.n_min (by decide +kernel) (da_cons (dv 2) (da_cons (dv 3) da_nil))) (da_cons (de_callB (call_max2 rfl) d_max2 (by rfl) T.n_max (by decide +kernel) (da_cons (dv 2) (da_cons (dv 3) da_nil))) da_nil))))
  (dss_one (ds_put (hu_of hr.room) (de_op op_add d_add (de_dget (hu_of hr.room) (dv 1) (dv 5) de_int) (dv 4)) (dv 1) (dv 5)))))
  (dss_one (ds_ret (dv 1)))))
theorem sc_grid_of : FnScope ["size", "ties", "found", "u", "v"] ["size", "ties"] (defScope s_grid_of) := ⟨rfl, rfl, rfl, by decide +kernel, rfl, by decide +kernel, by decide +kernel⟩
def b_grid_of_0 : MS := (sAsg (mCall m_summed [] (mCons (mVar 1) mNil)) (gN 2))
def b_grid_of_1 : MS := (sRet (mLc false (mRng1 (mVar 0)) (Tgt.nm 3).M tYesM (mLc false (mRng1 (mVar 0)) (Tgt.nm 4).M tYesM (mDGet (mVar 2) (mAp oTup (mCons (mAp oMin2 (mCons (mVar 3) (mCons (mVar 4) mNil))) (mCons (mAp oMax2 (mCons (mVar 3) (mCons (mVar 4) mNil))) mNil))) (mC (.int 0))) [4]) [3]))
def b_grid_of : MS := (sSeq b_grid_of_0 b_grid_of_1)
def m_grid_of : MF := mDef 2 5 b_grid_of
theorem e_grid_of (x0 x1 : D) (C : Store) : m_grid_of [x0, x1] C = finS C.length (b_grid_of ⟨C.length, [some x0, some x1, none, none, none]⟩ C) := mDef_e rfl rfl
theorem ar_grid_of : Ar 2 m_grid_of := mDef_ar
theorem ok_grid_of (T : Txt K mg) : ∃ fd, FnG P w K mg base 2 (a_grid_of K) fd ["size", "ties"] (SpD (cn K) 2 m_grid_of) ∧ Binds K fd ["size", "ties"] [] ∧ PySem.W.keepIn K (.ref (a_grid_of K)) = true := by
  obtain ⟨fd_summed, F_summed, B_summed, kp_summed⟩ := ok_summed (P := P) (w := w) (base := base) T
  obtain ⟨fd, F⟩ := T.f_grid_of
  refine ⟨fd, fn_ok (k := cn K) F sc_grid_of (by decide) fun cdv A outer s H E hr => ?_, F.bindsN fun _ _ _ _ _ _ us hl => match us, hl with | [_, _], _ => rfl, F.kp⟩
  have tk : Takes (cxOf (L2.CX P w) P w K mg base ["size", "ties", "found", "u", "v"] "grid_of" (defScope s_grid_of) (a_grid_of K) cdv A outer s H E) (fun c d _ H => E c d H) := takes_of rfl rfl rfl rfl
  exact (dss_cons (ds_set (i := 2) sc_grid_of.nd rfl (Or.inr rfl) (de_call tk F_summed ar_summed (hr.mono (by decide)) (by rfl) T.g_summed kp_summed B_summed .nil (fun _ _ _ => .nil) (da_cons (dv 1) da_nil)))
  (dss_one (ds_ret (de_lc (own := [("u", 3)]) false rfl rfl sc_grid_of.nd (di_rng1 (by rfl) T.n_range (dv 0)) (blkOk_by (own := [("u", 3)]) rfl) (by decide) (fun _ _ _ _ _ => (tg_nm (i := 3) sc_grid_of.nd rfl (by first | exact Or.inl rfl | exact Or.inr rfl))) (fun _ _ _ _ _ => dts_nil) (fun _ _ _ _ _ => (de_lc (own := [("v", 4)]) false rfl rfl sc_grid_of.nd (di_rng1 (by rfl) T.n_range (dv 0)) (blkOk_by (own := [("v", 4)]) rfl) (by decide) (fun _ _ _ _ _ => (tg_nm (i := 4) sc_grid_of.nd rfl (by first | exact Or.inl rfl | exact Or.inr rfl))) (fun _ _ _ _ _ => dts_nil) (fun _ _ _ _ _ => (de_dget (hu_of hr.room) (dv 2) (de_tup (da_cons (de_callB (call_min2 rfl) d_min2 (by rfl) T.n_min (by decide +kernel) (da_cons (dv 3) (da_cons (dv 4) da_nil))) (da_cons (de_callB (call_max2 rfl) d_max2 (by rfl) T.n_max (by decide +kernel) (da_cons (dv 3) (da_cons (dv 4) da_nil))) da_nil))) de_int))))))))
theorem sc_Web__init : FnScope ["self", "size", "ties", "at", "item", "grid", "pairs", "line", "number", "u", "v"] ["self", "size", "ties"] (defScope s_Web__init) := ⟨rfl, rfl, rfl, by decide +kernel, rfl, by decide +kernel, by decide +kernel⟩
def b_Web__init_0 : MS := (sIf (tNotM (mTst (mCall m_is_count [] (mCons (mVar 1) (mCons (mC (.int 0)) (mCons (mC (.int 60)) mNil)))))) sNever sNext)
def b_Web__init_1 : MS := (sIf (tNotM (mTst (mIsi2 [0, 1, 3, 4] (.ty .list) (.ty .tuple) (mVar 2)))) sNever sNext)
def b_Web__init_2b_0 : MS := (sIf (tNotM (mTst (mCall m_is_tie [] (mCons (mVar 1) (mCons (mVar 4) mNil))))) sNever sNext)
def b_Web__init_2 : MS := (sFor (mEnum (mVar 2)) (Tgt.tp [3, 4]).M b_Web__init_2b_0)
def b_Web__init_3 : MS := (sAsg (mCall m_grid_of [] (mCons (mVar 1) (mCons (mVar 2) mNil))) (gN 5))
def b_Web__init_4 : MS := (sIf (mTst (mAp oAny (mCons (mLc2 false (mSeq (mVar 5)) (Tgt.nm 7).M tYesM (mSeq (mVar 7)) (Tgt.nm 8).M tYesM (mOp oGt (mVar 8) (mC (.int 1000000000))) [7, 8] [8]) mNil))) sNever sNext)
def b_Web__init_5 : MS := (sAsg (mLc2 false (mRng1 (mVar 1)) (Tgt.nm 9).M tYesM (mRng2 (mOp oAdd (mVar 9) (mC (.int 1))) (mVar 1)) (Tgt.nm 10).M tYesM (mAp oTup (mCons (mVar 9) (mCons (mVar 10) mNil))) [9, 10] [10]) (gN 6))
def b_Web__init_6 : MS := (sFldS 0 0 (mVar 1) (mVar 0))
def b_Web__init_7 : MS := (sFldS 0 1 (mVar 5) (mVar 0))
def b_Web__init_8 : MS := (sFldS 0 2 (mAp oTupOf (mCons (mLc false (mSeq (mVar 6)) (Tgt.tp [9, 10]).M (mTst (mOp oGt (mOp oIx (mOp oIx (mVar 5) (mVar 9)) (mVar 10)) (mC (.int 0)))) (mAp oTup (mCons (mVar 9) (mCons (mVar 10) (mCons (mOp oIx (mOp oIx (mVar 5) (mVar 9)) (mVar 10)) mNil)))) [9, 10]) mNil)) (mVar 0))
def b_Web__init : MS := (sSeq b_Web__init_0 (sSeq b_Web__init_1 (sSeq b_Web__init_2 (sSeq b_Web__init_3 (sSeq b_Web__init_4 (sSeq b_Web__init_5 (sSeq b_Web__init_6 (sSeq b_Web__init_7 b_Web__init_8))))))))
def m_Web__init : MF := mDef 3 11 b_Web__init
theorem e_Web__init (x0 x1 x2 : D) (C : Store) : m_Web__init [x0, x1, x2] C = finS C.length (b_Web__init ⟨C.length, [some x0, some x1, some x2, none, none, none, none, none, none, none, none]⟩ C) := mDef_e rfl rfl
theorem ar_Web__init : Ar 3 m_Web__init := mDef_ar
theorem ok_Web__init (T : Txt K mg) : ∃ fd, FnG P w K mg base 4 (a_Web__init K) fd ["self", "size", "ties"] (SpD (cn K) 3 m_Web__init) ∧ Binds K fd ["self", "size", "ties"] [] ∧ PySem.W.keepIn K (.ref (a_Web__init K)) = true ∧ ∃ ds, Vals [V.ref (d_Web__init K)] ds ∧ Binds K fd ["self", "size", "ties"] ds := by
  obtain ⟨fd_is_count, F_is_count, B_is_count, kp_is_count⟩ := ok_is_count (P := P) (w := w) (base := base) T
  obtain ⟨fd_is_tie, F_is_tie, B_is_tie, kp_is_tie⟩ := ok_is_tie (P := P) (w := w) (base := base) T
  obtain ⟨fd_grid_of, F_grid_of, B_grid_of, kp_grid_of⟩ := ok_grid_of (P := P) (w := w) (base := base) T
  obtain ⟨t_MOST, h_MOST⟩ := T.c_MOST
  obtain ⟨fd, F⟩ := T.f_Web__init
  refine ⟨fd, fn_ok (k := cn K) F sc_Web__init (by decide) fun cdv A outer s H E hr => ?_, ?b0, F.kp, ?b1⟩
  rotate_left
  · obtain ⟨ds, v, b⟩ := F.binds1 (ps := ["self", "size", "ties"]) 3 1 (List.cons_ne_nil _ _) rfl fun _ _ _ _ _ _ _ us its h1 h2 => match us, its, h1, h2 with | [_, _, _], [_], _, _ => ⟨_, rfl, by with_unfolding_all rfl⟩
    cases v
    exact b
  · exact F.binds1 2 0 (List.cons_ne_nil _ _) rfl fun _ _ _ _ _ _ _ us its h1 h2 => match us, its, h1, h2 with | [_, _], [_], _, _ => ⟨_, rfl, rfl⟩
  have tk : Takes (cxOf (L2.CX P w) P w K mg base ["self", "size", "ties", "at", "item", "grid", "pairs", "line", "number", "u", "v"] "Web.__init__" (defScope s_Web__init) (a_Web__init K) cdv A outer s H E) (fun c d _ H => E c d H) := takes_of rfl rfl rfl rfl
  exact (dss_cons (ds_if (dt_not (dt_val (de_call tk F_is_count ar_is_count (hr.mono (by decide)) (by rfl) T.g_is_count kp_is_count B_is_count .nil (fun _ _ _ => .nil) (da_cons (dv 1) (da_cons de_int (da_cons de_int da_nil)))))) (dss_one ds_never) dss_nil)
  (dss_cons (ds_if (dt_not (dt_val (de_isi2 (by rfl) T.n_isinstance T.isa rfl rfl rfl (dv 2) (pe_bltn (v := .ty "list") (by rfl) T.n_list (by decide +kernel) rfl) (pe_bltn (v := .ty "tuple") (by rfl) T.n_tuple (by decide +kernel) rfl)))) (dss_one ds_never) dss_nil)
  (dss_cons (ds_for (passes_of rfl) rfl (di_enum (by rfl) T.n_enumerate rfl (dv 2)) (tg_tp [3, 4] rfl rfl (pgs_cons (pg_name (i := 3) sc_Web__init.nd rfl (Or.inl rfl)) (pgs_cons (pg_name (i := 4) sc_Web__init.nd rfl (Or.inl rfl)) pgs_nil))) (dss_one (ds_if (dt_not (dt_val (de_call tk F_is_tie ar_is_tie (hr.mono (by decide)) (by rfl) T.g_is_tie kp_is_tie B_is_tie .nil (fun _ _ _ => .nil) (da_cons (dv 1) (da_cons (dv 4) da_nil))))) (dss_one ds_never) dss_nil)))
  (dss_cons (ds_set (i := 5) sc_Web__init.nd rfl (Or.inr rfl) (de_call tk F_grid_of ar_grid_of (hr.mono (by decide)) (by rfl) T.g_grid_of kp_grid_of B_grid_of .nil (fun _ _ _ => .nil) (da_cons (dv 1) (da_cons (dv 2) da_nil))))
  (dss_cons (ds_if (dt_val (de_callB (cr_any rfl) d_any (by rfl) T.n_any (by decide +kernel) (da_cons (de_lc2 (own := [("line", 7), ("number", 8)]) (vs1 := [8]) false rfl rfl sc_Web__init.nd (di_seq rfl (dv 5)) (blkOk_by (own := [("line", 7), ("number", 8)]) rfl) (by decide) (by decide) (by decide) (fun _ _ _ _ _ => (tg_nm (i := 7) sc_Web__init.nd rfl (by first | exact Or.inl rfl | exact Or.inr rfl))) (fun _ _ _ _ _ => dts_nil) (fun _ _ _ _ _ => (di_seq rfl (dv 7))) (fun _ _ _ _ _ => (tg_nm (i := 8) sc_Web__init.nd rfl (by first | exact Or.inl rfl | exact Or.inr rfl))) (fun _ _ _ _ _ => dts_nil) (fun _ _ _ _ _ => (de_cmp op_gt d_gt (dv 8) (de_glob (fun _ _ _ => .int _) (by rfl) h_MOST ⟨_, rfl⟩) (nomark _)))) da_nil))) (dss_one ds_never) dss_nil)
  (dss_cons (ds_setLc2 (i := 6) (own := [("u", 9), ("v", 10)]) (vs1 := [10]) false rfl rfl sc_Web__init.nd rfl rfl (sw_true rfl rfl rfl (by decide +kernel)) (di_rng1 (by rfl) T.n_range (dv 1)) (blkOk_by (own := [("u", 9), ("v", 10)]) rfl) (by decide) (by decide) (by decide) (fun _ _ _ _ _ => (tg_nm (i := 9) sc_Web__init.nd rfl (by first | exact Or.inl rfl | exact Or.inr rfl))) (fun _ _ _ _ _ => dts_nil) (fun _ _ _ _ _ => (di_rng2 (by rfl) T.n_range (de_op op_add d_add (dv 9) de_int) (dv 1))) (fun _ _ _ _ _ => (tg_nm (i := 10) sc_Web__init.nd rfl (by first | exact Or.inl rfl | exact Or.inr rfl))) (fun _ _ _ _ _ => dts_nil) (fun _ _ _ _ _ => (de_tup (da_cons (dv 9) (da_cons (dv 10) da_nil)))))
  (dss_cons (ds_fld 0 0 rfl T.cl_Web T.no_Web_size nd_Web rfl (show 3 < 1000 by decide) (dv 0) (dv 1))
  (dss_cons (ds_fld 0 1 rfl T.cl_Web T.no_Web_grid nd_Web rfl (show 3 < 1000 by decide) (dv 0) (dv 5))
  (dss_one (ds_fld 0 2 rfl T.cl_Web T.no_Web_ties nd_Web rfl (show 3 < 1000 by decide) (dv 0) (de_callTy call_tuple_of d_tupOf (by rfl) T.n_tuple (by decide +kernel) (da_cons (de_lc (own := [("u", 9), ("v", 10)]) false rfl rfl sc_Web__init.nd (di_seq rfl (dv 6)) (blkOk_by (own := [("u", 9), ("v", 10)]) rfl) (by decide) (fun _ _ _ _ _ => (tg_tp [9, 10] rfl rfl (pgs_cons (pg_name (i := 9) sc_Web__init.nd rfl (by first | exact Or.inl rfl | exact Or.inr rfl)) (pgs_cons (pg_name (i := 10) sc_Web__init.nd rfl (by first | exact Or.inl rfl | exact Or.inr rfl)) pgs_nil)))) (fun _ _ _ _ _ => (pts_one (dt_cmp op_gt d_gt (de_ix ix_seq d_ix (de_ix ix_seq d_ix (dv 5) (dv 9)) (dv 10)) de_int (nomark _)))) (fun _ _ _ _ _ => (de_tup (da_cons (dv 9) (da_cons (dv 10) (da_cons (de_ix ix_seq d_ix (de_ix ix_seq d_ix (dv 5) (dv 9)) (dv 10)) da_nil)))))) da_nil))))))))))))
theorem sc_is_cell_want : FnScope ["thing"] ["thing"] (defScope s_is_cell_want) := ⟨rfl, rfl, rfl, by decide +kernel, rfl, by decide +kernel, by decide +kernel⟩
def b_is_cell_want : MS := (sRet (mAnd (mIsi [0, 1, 3, 4] (.own 1) (mVar 0)) (mAnd (mBoolO 1 m_Want__bool (mVar 0)) (mAnd (mOp oGe (mProp 1 m_Want_low (mVar 0)) (mC (.int 0))) (mOp oLe (mProp 1 m_Want_high (mVar 0)) (mC (.int 9)))))))
def m_is_cell_want : MF := mDef 1 1 b_is_cell_want
theorem e_is_cell_want (x0 : D) (C : Store) : m_is_cell_want [x0] C = finS C.length (b_is_cell_want ⟨C.length, [some x0]⟩ C) := mDef_e rfl rfl
theorem ar_is_cell_want : Ar 1 m_is_cell_want := mDef_ar
theorem ok_is_cell_want (T : Txt K mg) : ∃ fd, FnG P w K mg base 4 (a_is_cell_want K) fd ["thing"] (SpD (cn K) 1 m_is_cell_want) ∧ Binds K fd ["thing"] [] ∧ PySem.W.keepIn K (.ref (a_is_cell_want K)) = true := by
  obtain ⟨fd_Want__bool, F_Want__bool, B_Want__bool, kp_Want__bool⟩ := ok_Want__bool (P := P) (w := w) (base := base) T
  obtain ⟨fd_Want_low, F_Want_low, B_Want_low, kp_Want_low⟩ := ok_Want_low (P := P) (w := w) (base := base) T
  obtain ⟨fd_Want_high, F_Want_high, B_Want_high, kp_Want_high⟩ := ok_Want_high (P := P) (w := w) (base := base) T
  obtain ⟨fd, F⟩ := T.f_is_cell_want
  refine ⟨fd, fn_ok (k := cn K) F sc_is_cell_want (by decide) fun cdv A outer s H E hr => ?_, F.bindsN fun _ _ _ _ _ _ us hl => match us, hl with | [_], _ => rfl, F.kp⟩
  have tk : Takes (cxOf (L2.CX P w) P w K mg base ["thing"] "is_cell_want" (defScope s_is_cell_want) (a_is_cell_want K) cdv A outer s H E) (fun c d _ H => E c d H) := takes_of rfl rfl rfl rfl
  exact (dss_one (ds_ret (de_and (de_isi (by rfl) T.n_isinstance T.isa rfl rfl (dv 0) (pe_glob (by rfl) T.g_Want rfl)) (de_and (de_boolO 1 tk rfl (dv 0) T.dn_Want__bool.at_ T.dn_Want__bool.fn F_Want__bool ar_Want__bool (hr.mono (by decide)) B_Want__bool (by rfl) T.n_bool) (de_and (de_cmp op_ge d_ge (de_prop 1 rfl (dv 0) T.cl_Want T.pr_low F_Want_low ar_Want_low (hr.mono (by decide)) B_Want_low) de_int (nomark _)) (de_one (de_cmp op_le d_le (de_prop 1 rfl (dv 0) T.cl_Want T.pr_high F_Want_high ar_Want_high (hr.mono (by decide)) B_Want_high) de_int (nomark _))))))))
theorem sc_Cell__init : FnScope ["self", "wants", "inner", "want"] ["self", "wants", "inner"] (defScope s_Cell__init) := ⟨rfl, rfl, rfl, by decide +kernel, rfl, by decide +kernel, by decide +kernel⟩
def b_Cell__init_0 : MS := (sIf (tOrM (tNotM (mTst (mIsi2 [0, 1, 3, 4] (.ty .list) (.ty .tuple) (mVar 1)))) (mTst (mOp (oInD true) (mAp oLen (mCons (mVar 1) mNil)) (mAp oTup (mCons (mC (.int 1)) (mCons (mC (.int 2)) mNil)))))) sNever sNext)
def b_Cell__init_1 : MS := (sIf (tNotM (mTst (mAp oAll (mCons (mLc false (mSeq (mVar 1)) (Tgt.nm 3).M tYesM (mCall m_is_cell_want [] (mCons (mVar 3) mNil)) [3]) mNil)))) sNever sNext)
def b_Cell__init_2 : MS := (sIf (tOrM (tNotM (mTst (mCall m_is_count [] (mCons (mVar 2) (mCons (mC (.int 0)) (mCons (mC (.int 6)) mNil)))))) (tAndM (mTst (mOp (oEqA false) (mAp oLen (mCons (mVar 1) mNil)) (mC (.int 1)))) (mTst (mOp (oEqA true) (mVar 2) (mC (.int 0)))))) sNever sNext)
def b_Cell__init_3 : MS := (sFldS 3 0 (mAp oTupOf (mCons (mVar 1) mNil)) (mVar 0))
def b_Cell__init_4 : MS := (sFldS 3 1 (mVar 2) (mVar 0))
def b_Cell__init : MS := (sSeq b_Cell__init_0 (sSeq b_Cell__init_1 (sSeq b_Cell__init_2 (sSeq b_Cell__init_3 b_Cell__init_4))))
def m_Cell__init : MF := mDef 3 4 b_Cell__init
theorem e_Cell__init (x0 x1 x2 : D) (C : Store) : m_Cell__init [x0, x1, x2] C = finS C.length (b_Cell__init ⟨C.length, [some x0, some x1, some x2, none]⟩ C) := mDef_e rfl rfl
theorem ar_Cell__init : Ar 3 m_Cell__init := mDef_ar
theorem ok_Cell__init (T : Txt K mg) : ∃ fd, FnG P w K mg base 5 (a_Cell__init K) fd ["self", "wants", "inner"] (SpD (cn K) 3 m_Cell__init) ∧ Binds K fd ["self", "wants", "inner"] [] ∧ PySem.W.keepIn K (.ref (a_Cell__init K)) = true ∧ ∃ ds, Vals [V.int 0] ds ∧ Binds K fd ["self", "wants", "inner"] ds := by
  obtain ⟨fd_is_cell_want, F_is_cell_want, B_is_cell_want, kp_is_cell_want⟩ := ok_is_cell_want (P := P) (w := w) (base := base) T
  obtain ⟨fd_is_count, F_is_count, B_is_count, kp_is_count⟩ := ok_is_count (P := P) (w := w) (base := base) T
  obtain ⟨fd, F⟩ := T.f_Cell__init
  refine ⟨fd, fn_ok (k := cn K) F sc_Cell__init (by decide) fun cdv A outer s H E hr => ?_, ?b0, F.kp, ?b1⟩
  rotate_left
  · obtain ⟨ds, v, b⟩ := F.binds1 (ps := ["self", "wants", "inner"]) 3 1 (List.cons_ne_nil _ _) rfl fun _ _ _ _ _ _ _ us its h1 h2 => match us, its, h1, h2 with | [_, _, _], [_], _, _ => ⟨_, rfl, by with_unfolding_all rfl⟩
    cases v
    exact b
  · exact F.binds1 2 0 (List.cons_ne_nil _ _) rfl fun _ _ _ _ _ _ _ us its h1 h2 => match us, its, h1, h2 with | [_, _], [_], _, _ => ⟨_, rfl, rfl⟩
  have tk : Takes (cxOf (L2.CX P w) P w K mg base ["self", "wants", "inner", "want"] "Cell.__init__" (defScope s_Cell__init) (a_Cell__init K) cdv A outer s H E) (fun c d _ H => E c d H) := takes_of rfl rfl rfl rfl
  exact (dss_cons (ds_if (PW.pt (dw_or (dt_not (dt_val (de_isi2 (by rfl) T.n_isinstance T.isa rfl rfl rfl (dv 1) (pe_bltn (v := .ty "list") (by rfl) T.n_list (by decide +kernel) rfl) (pe_bltn (v := .ty "tuple") (by rfl) T.n_tuple (by decide +kernel) rfl)))) (dw_or1 (dt_cmp (op_notInA hr.u65) d_inD (de_callB call_len_seq d_len (by rfl) T.n_len (by decide +kernel) (da_cons (dv 1) da_nil)) (de_tup (da_cons de_int (da_cons de_int da_nil))) (by with_unfolding_all rfl))))) (dss_one ds_never) dss_nil)
  (dss_cons (ds_if (dt_not (dt_val (de_callB (cr_all rfl) d_all (by rfl) T.n_all (by decide +kernel) (da_cons (de_lc (own := [("want", 3)]) false rfl rfl sc_Cell__init.nd (di_seq rfl (dv 1)) (blkOk_by (own := [("want", 3)]) rfl) (by decide) (fun _ _ _ _ _ => (tg_nm (i := 3) sc_Cell__init.nd rfl (by first | exact Or.inl rfl | exact Or.inr rfl))) (fun _ _ _ _ _ => dts_nil) (fun _ _ _ _ _ => (de_call takes0 F_is_cell_want ar_is_cell_want (hr.mono (by decide)) (by rfl) T.g_is_cell_want kp_is_cell_want B_is_cell_want .nil (fun _ _ _ => .nil) (da_cons (dv 3) da_nil)))) da_nil)))) (dss_one ds_never) dss_nil)
  (dss_cons (ds_if (PW.pt (dw_or (dt_not (dt_val (de_call tk F_is_count ar_is_count (hr.mono (by decide)) (by rfl) T.g_is_count kp_is_count B_is_count .nil (fun _ _ _ => .nil) (da_cons (dv 2) (da_cons de_int (da_cons de_int da_nil)))))) (dw_or1 (PW.pt (dw_and (dt_cmp (op_eq.or (op_eqD hr.room.units)) d_eqA (de_callB call_len_seq d_len (by rfl) T.n_len (by decide +kernel) (da_cons (dv 1) da_nil)) de_int (nomark _)) (dw_and1 (dt_cmp (op_ne.or (op_neD hr.room.units)) d_neA (dv 2) de_int (nomark _)))))))) (dss_one ds_never) dss_nil)
  (dss_cons (ds_fld 3 0 rfl T.cl_Cell T.no_Cell_wishes nd_Cell rfl (show 2 < 1000 by decide) (dv 0) (de_callTy call_tuple_of d_tupOf (by rfl) T.n_tuple (by decide +kernel) (da_cons (dv 1) da_nil)))
  (dss_one (ds_fld 3 1 rfl T.cl_Cell T.no_Cell_inner nd_Cell rfl (show 2 < 1000 by decide) (dv 0) (dv 2)))))))
theorem sc_Cell__len : FnScope ["self"] ["self"] (defScope s_Cell__len) := ⟨rfl, rfl, rfl, by decide +kernel, rfl, by decide +kernel, by decide +kernel⟩
def b_Cell__len : MS := (sRet (mAp oLen (mCons (mUn (oFld 3 0) (mVar 0)) mNil)))
def m_Cell__len : MF := mDef 1 1 b_Cell__len
theorem e_Cell__len (x0 : D) (C : Store) : m_Cell__len [x0] C = finS C.length (b_Cell__len ⟨C.length, [some x0]⟩ C) := mDef_e rfl rfl
theorem ar_Cell__len : Ar 1 m_Cell__len := mDef_ar
theorem ok_Cell__len (T : Txt K mg) : ∃ fd, FnG P w K mg base 1 (a_Cell__len K) fd ["self"] (SpD (cn K) 1 m_Cell__len) ∧ Binds K fd ["self"] [] ∧ PySem.W.keepIn K (.ref (a_Cell__len K)) = true := by
  obtain ⟨fd, F⟩ := T.f_Cell__len
  refine ⟨fd, fn_ok (k := cn K) F sc_Cell__len (by decide) fun cdv A outer s H E hr => ?_, F.bindsN fun _ _ _ _ _ _ us hl => match us, hl with | [_], _ => rfl, F.kp⟩
  have tk : Takes (cxOf (L2.CX P w) P w K mg base ["self"] "Cell.__len__" (defScope s_Cell__len) (a_Cell__len K) cdv A outer s H E) (fun c d _ H => E c d H) := takes_of rfl rfl rfl rfl
  exact (dss_one (ds_ret (de_callB call_len_seq d_len (by rfl) T.n_len (by decide +kernel) (da_cons (de_fld 3 0 rfl T.cl_Cell T.no_Cell_wishes nd_Cell rfl (dv 0)) da_nil))))
theorem sc_Cell__eq : FnScope ["self", "other"] ["self", "other"] (defScope s_Cell__eq) := ⟨rfl, rfl, rfl, by decide +kernel, rfl, by decide +kernel, by decide +kernel⟩
def b_Cell__eq : MS := (sRet (mAnd (mIsi [0, 1, 3, 4] (.own 3) (mVar 1)) (mAnd (mEqTs 1 m_Want__eq (mUn (oFld 3 0) (mVar 0)) (mUn (oFld 3 0) (mVar 1))) (mOp (oEqA false) (mUn (oFld 3 1) (mVar 0)) (mUn (oFld 3 1) (mVar 1))))))
def m_Cell__eq : MF := mDef 2 2 b_Cell__eq
theorem e_Cell__eq (x0 x1 : D) (C : Store) : m_Cell__eq [x0, x1] C = finS C.length (b_Cell__eq ⟨C.length, [some x0, some x1]⟩ C) := mDef_e rfl rfl
theorem ar_Cell__eq : Ar 2 m_Cell__eq := mDef_ar
theorem ok_Cell__eq (T : Txt K mg) : ∃ fd, FnG P w K mg base 3 (a_Cell__eq K) fd ["self", "other"] (SpD (cn K) 2 m_Cell__eq) ∧ Binds K fd ["self", "other"] [] ∧ PySem.W.keepIn K (.ref (a_Cell__eq K)) = true := by
  obtain ⟨fd_Want__eq, F_Want__eq, B_Want__eq, kp_Want__eq⟩ := ok_Want__eq (P := P) (w := w) (base := base) T
  obtain ⟨fd, F⟩ := T.f_Cell__eq
  refine ⟨fd, fn_ok (k := cn K) F sc_Cell__eq (by decide) fun cdv A outer s H E hr => ?_, F.bindsN fun _ _ _ _ _ _ us hl => match us, hl with | [_, _], _ => rfl, F.kp⟩
  have tk : Takes (cxOf (L2.CX P w) P w K mg base ["self", "other"] "Cell.__eq__" (defScope s_Cell__eq) (a_Cell__eq K) cdv A outer s H E) (fun c d _ H => E c d H) := takes_of rfl rfl rfl rfl
  exact (dss_one (ds_ret (de_and (de_isi (by rfl) T.n_isinstance T.isa rfl rfl (dv 1) (pe_glob (by rfl) T.g_Cell rfl)) (de_and (de_eqTs 1 tk rfl (de_fld 3 0 rfl T.cl_Cell T.no_Cell_wishes nd_Cell rfl (dv 0)) (de_fld 3 0 rfl T.cl_Cell T.no_Cell_wishes nd_Cell rfl (dv 1)) T.eq_Want F_Want__eq ar_Want__eq (hr.mono (by decide)) B_Want__eq) (de_one (de_cmp (op_eq.or (op_eqD hr.room.units)) d_eqA (de_fld 3 1 rfl T.cl_Cell T.no_Cell_inner nd_Cell rfl (dv 0)) (de_fld 3 1 rfl T.cl_Cell T.no_Cell_inner nd_Cell rfl (dv 1)) (nomark _)))))))
theorem sc_is_onward : FnScope ["width", "thing", "line", "number"] ["width", "thing"] (defScope s_is_onward) := ⟨rfl, rfl, rfl, by decide +kernel, rfl, by decide +kernel, by decide +kernel⟩
def b_is_onward_0 : MS := (sIf (tOrM (tNotM (mTst (mIsi2 [0, 1, 3, 4] (.ty .list) (.ty .tuple) (mVar 1)))) (mTst (mOp (oEqA true) (mAp oLen (mCons (mVar 1) mNil)) (mVar 0)))) (sRet (mC (.bl false))) sNext)
def b_is_onward_1b_0 : MS := (sIf (tOrM (tNotM (mTst (mIsi2 [0, 1, 3, 4] (.ty .list) (.ty .tuple) (mVar 2)))) (mTst (mOp (oEqA true) (mAp oLen (mCons (mVar 2) mNil)) (mVar 0)))) (sRet (mC (.bl false))) sNext)
def b_is_onward_1b_1 : MS := (sIf (tNotM (mTst (mAp oAll (mCons (mLc false (mSeq (mVar 2)) (Tgt.nm 3).M tYesM (mCall m_is_count [] (mCons (mVar 3) (mCons (mC (.int 0)) (mCons (mC (.int 6)) mNil)))) [3]) mNil)))) (sRet (mC (.bl false))) sNext)
def b_is_onward_1 : MS := (sFor (mSeq (mVar 1)) (Tgt.nm 2).M (sSeq b_is_onward_1b_0 b_is_onward_1b_1))
def b_is_onward_2 : MS := (sRet (mC (.bl true)))
def b_is_onward : MS := (sSeq b_is_onward_0 (sSeq b_is_onward_1 b_is_onward_2))
def m_is_onward : MF := mDef 2 4 b_is_onward
theorem e_is_onward (x0 x1 : D) (C : Store) : m_is_onward [x0, x1] C = finS C.length (b_is_onward ⟨C.length, [some x0, some x1, none, none]⟩ C) := mDef_e rfl rfl
theorem ar_is_onward : Ar 2 m_is_onward := mDef_ar
theorem ok_is_onward (T : Txt K mg) : ∃ fd, FnG P w K mg base 3 (a_is_onward K) fd ["width", "thing"] (SpD (cn K) 2 m_is_onward) ∧ Binds K fd ["width", "thing"] [] ∧ PySem.W.keepIn K (.ref (a_is_onward K)) = true := by
  obtain ⟨fd_is_count, F_is_count, B_is_count, kp_is_count⟩ := ok_is_count (P := P) (w := w) (base := base) T
  obtain ⟨fd, F⟩ := T.f_is_onward
  refine ⟨fd, fn_ok (k := cn K) F sc_is_onward (by decide) fun cdv A outer s H E hr => ?_, F.bindsN fun _ _ _ _ _ _ us hl => match us, hl with | [_, _], _ => rfl, F.kp⟩
  have tk : Takes (cxOf (L2.CX P w) P w K mg base ["width", "thing", "line", "number"] "is_onward" (defScope s_is_onward) (a_is_onward K) cdv A outer s H E) (fun c d _ H => E c d H) := takes_of rfl rfl rfl rfl
  exact (dss_cons (ds_if (PW.pt (dw_or (dt_not (dt_val (de_isi2 (by rfl) T.n_isinstance T.isa rfl rfl rfl (dv 1) (pe_bltn (v := .ty "list") (by rfl) T.n_list (by decide +kernel) rfl) (pe_bltn (v := .ty "tuple") (by rfl) T.n_tuple (by decide +kernel) rfl)))) (dw_or1 (dt_cmp (op_ne.or (op_neD hr.room.units)) d_neA (de_callB call_len_seq d_len (by rfl) T.n_len (by decide +kernel) (da_cons (dv 1) da_nil)) (dv 0) (nomark _))))) (dss_one (ds_ret de_bl)) dss_nil)
  (dss_cons (ds_for (passes_of rfl) rfl (di_seq rfl (dv 1)) (tg_nm (i := 2) sc_is_onward.nd rfl (Or.inl rfl)) (dss_cons (ds_if (PW.pt (dw_or (dt_not (dt_val (de_isi2 (by rfl) T.n_isinstance T.isa rfl rfl rfl (dv 2) (pe_bltn (v := .ty "list") (by rfl) T.n_list (by decide +kernel) rfl) (pe_bltn (v := .ty "tuple") (by rfl) T.n_tuple (by decide +kernel) rfl)))) (dw_or1 (dt_cmp (op_ne.or (op_neD hr.room.units)) d_neA (de_callB call_len_seq d_len (by rfl) T.n_len (by decide +kernel) (da_cons (dv 2) da_nil)) (dv 0) (nomark _))))) (dss_one (ds_ret de_bl)) dss_nil)
  (dss_one (ds_if (dt_not (dt_val (de_callB (cr_all rfl) d_all (by rfl) T.n_all (by decide +kernel) (da_cons (de_lc (own := [("number", 3)]) false rfl rfl sc_is_onward.nd (di_seq rfl (dv 2)) (blkOk_by (own := [("number", 3)]) rfl) (by decide) (fun _ _ _ _ _ => (tg_nm (i := 3) sc_is_onward.nd rfl (by first | exact Or.inl rfl | exact Or.inr rfl))) (fun _ _ _ _ _ => dts_nil) (fun _ _ _ _ _ => (de_call takes0 F_is_count ar_is_count (hr.mono (by decide)) (by rfl) T.g_is_count kp_is_count B_is_count .nil (fun _ _ _ => .nil) (da_cons (dv 3) (da_cons de_int (da_cons de_int da_nil)))))) da_nil)))) (dss_one (ds_ret de_bl)) dss_nil))))
  (dss_one (ds_ret de_bl))))
theorem sc_inner_ties : FnScope ["cell", "base"] ["cell", "base"] (defScope s_inner_ties) := ⟨rfl, rfl, rfl, by decide +kernel, rfl, by decide +kernel, by decide +kernel⟩
def b_inner_ties : MS := (sRet (mIf (mTst (mOp (oEqA false) (mAp (oLenO 3 m_Cell__len) (mCons (mVar 0) mNil)) (mC (.int 2)))) (mAp (oLst false) (mCons (mAp oTup (mCons (mVar 1) (mCons (mOp oAdd (mVar 1) (mC (.int 1))) (mCons (mUn (oFld 3 1) (mVar 0)) mNil)))) mNil)) (mAp (oLst false) mNil)))
def m_inner_ties : MF := mDef 2 2 b_inner_ties
theorem e_inner_ties (x0 x1 : D) (C : Store) : m_inner_ties [x0, x1] C = finS C.length (b_inner_ties ⟨C.length, [some x0, some x1]⟩ C) := mDef_e rfl rfl
theorem ar_inner_ties : Ar 2 m_inner_ties := mDef_ar
theorem ok_inner_ties (T : Txt K mg) : ∃ fd, FnG P w K mg base 3 (a_inner_ties K) fd ["cell", "base"] (SpD (cn K) 2 m_inner_ties) ∧ Binds K fd ["cell", "base"] [] ∧ PySem.W.keepIn K (.ref (a_inner_ties K)) = true := by
  obtain ⟨fd_Cell__len, F_Cell__len, B_Cell__len, kp_Cell__len⟩ := ok_Cell__len (P := P) (w := w) (base := base) T
  obtain ⟨fd, F⟩ := T.f_inner_ties
  refine ⟨fd, fn_ok (k := cn K) F sc_inner_ties (by decide) fun cdv A outer s H E hr => ?_, F.bindsN fun _ _ _ _ _ _ us hl => match us, hl with | [_, _], _ => rfl, F.kp⟩
  have tk : Takes (cxOf (L2.CX P w) P w K mg base ["cell", "base"] "inner_ties" (defScope s_inner_ties) (a_inner_ties K) cdv A outer s H E) (fun c d _ H => E c d H) := takes_of rfl rfl rfl rfl
  exact (dss_one (ds_ret (de_if (dt_cmp (op_eq.or (op_eqD hr.room.units)) d_eqA (de_callB (cr_lenO 3 rfl T.dn_Cell__len.at_ T.dn_Cell__len.fn F_Cell__len (hr.mono (by decide)) B_Cell__len) (d_lenO 3 ar_Cell__len) (by rfl) T.n_len (by decide +kernel) (da_cons (dv 0) da_nil)) de_int (nomark _)) (de_lst false (da_cons (de_tup (da_cons (dv 1) (da_cons (de_op op_add d_add (dv 1) de_int) (da_cons (de_fld 3 1 rfl T.cl_Cell T.no_Cell_inner nd_Cell rfl (dv 0)) da_nil)))) da_nil)) (de_lst false da_nil))))
theorem sc_Strip__init : FnScope ["self", "head", "cell", "tail", "onward", "line"] ["self", "head", "cell", "tail", "onward"] (defScope s_Strip__init) := ⟨rfl, rfl, rfl, by decide +kernel, rfl, by decide +kernel, by decide +kernel⟩
def b_Strip__init_0 : MS := (sIf (tNotM (mTst (mIsi [0, 1, 3, 4] (.own 3) (mVar 1)))) sNever sNext)
def b_Strip__init_1 : MS := (sIf (tOrM (tNotM (mTst (mIsi [0, 1, 3, 4] (.own 3) (mVar 2)))) (mTst (mOp (oEqA true) (mAp (oLenO 3 m_Cell__len) (mCons (mVar 2) mNil)) (mAp (oLenO 3 m_Cell__len) (mCons (mVar 1) mNil))))) sNever sNext)
def b_Strip__init_2 : MS := (sIf (tOrM (tNotM (mTst (mIsi [0, 1, 3, 4] (.own 3) (mVar 3)))) (mTst (mOp (oEqA true) (mAp (oLenO 3 m_Cell__len) (mCons (mVar 3) mNil)) (mAp (oLenO 3 m_Cell__len) (mCons (mVar 1) mNil))))) sNever sNext)
def b_Strip__init_3 : MS := (sIf (tNotM (mTst (mCall m_is_onward [] (mCons (mAp (oLenO 3 m_Cell__len) (mCons (mVar 1) mNil)) (mCons (mVar 4) mNil))))) sNever sNext)
def b_Strip__init_4 : MS := (sFldS 4 0 (mVar 1) (mVar 0))
def b_Strip__init_5 : MS := (sFldS 4 1 (mVar 2) (mVar 0))
def b_Strip__init_6 : MS := (sFldS 4 2 (mVar 3) (mVar 0))
def b_Strip__init_7 : MS := (sFldS 4 3 (mAp oTupOf (mCons (mLc false (mSeq (mVar 4)) (Tgt.nm 5).M tYesM (mAp oTupOf (mCons (mVar 5) mNil)) [5]) mNil)) (mVar 0))
def b_Strip__init_8 : MS := (sFldS 4 4 (mAp (oLenO 3 m_Cell__len) (mCons (mVar 1) mNil)) (mVar 0))
def b_Strip__init : MS := (sSeq b_Strip__init_0 (sSeq b_Strip__init_1 (sSeq b_Strip__init_2 (sSeq b_Strip__init_3 (sSeq b_Strip__init_4 (sSeq b_Strip__init_5 (sSeq b_Strip__init_6 (sSeq b_Strip__init_7 b_Strip__init_8))))))))
def m_Strip__init : MF := mDef 5 6 b_Strip__init
theorem e_Strip__init (x0 x1 x2 x3 x4 : D) (C : Store) : m_Strip__init [x0, x1, x2, x3, x4] C = finS C.length (b_Strip__init ⟨C.length, [some x0, some x1, some x2, some x3, some x4, none]⟩ C) := mDef_e rfl rfl
theorem ar_Strip__init : Ar 5 m_Strip__init := mDef_ar
theorem ok_Strip__init (T : Txt K mg) : ∃ fd, FnG P w K mg base 4 (a_Strip__init K) fd ["self", "head", "cell", "tail", "onward"] (SpD (cn K) 5 m_Strip__init) ∧ Binds K fd ["self", "head", "cell", "tail", "onward"] [] ∧ PySem.W.keepIn K (.ref (a_Strip__init K)) = true := by
  obtain ⟨fd_Cell__len, F_Cell__len, B_Cell__len, kp_Cell__len⟩ := ok_Cell__len (P := P) (w := w) (base := base) T
  obtain ⟨fd_is_onward, F_is_onward, B_is_onward, kp_is_onward⟩ := ok_is_onward (P := P) (w := w) (base := base) T
  obtain ⟨fd, F⟩ := T.f_Strip__init
  refine ⟨fd, fn_ok (k := cn K) F sc_Strip__init (by decide) fun cdv A outer s H E hr => ?_, F.bindsN fun _ _ _ _ _ _ us hl => match us, hl with | [_, _, _, _, _], _ => rfl, F.kp⟩
  have tk : Takes (cxOf (L2.CX P w) P w K mg base ["self", "head", "cell", "tail", "onward", "line"] "Strip.__init__" (defScope s_Strip__init) (a_Strip__init K) cdv A outer s H E) (fun c d _ H => E c d H) := takes_of rfl rfl rfl rfl
  exact (dss_cons (ds_if (dt_not (dt_val (de_isi (by rfl) T.n_isinstance T.isa rfl rfl (dv 1) (pe_glob (by rfl) T.g_Cell rfl)))) (dss_one ds_never) dss_nil)
  (dss_cons (ds_if (PW.pt (dw_or (dt_not (dt_val (de_isi (by rfl) T.n_isinstance T.isa rfl rfl (dv 2) (pe_glob (by rfl) T.g_Cell rfl)))) (dw_or1 (dt_cmp (op_ne.or (op_neD hr.room.units)) d_neA (de_callB (cr_lenO 3 rfl T.dn_Cell__len.at_ T.dn_Cell__len.fn F_Cell__len (hr.mono (by decide)) B_Cell__len) (d_lenO 3 ar_Cell__len) (by rfl) T.n_len (by decide +kernel) (da_cons (dv 2) da_nil)) (de_callB (cr_lenO 3 rfl T.dn_Cell__len.at_ T.dn_Cell__len.fn F_Cell__len (hr.mono (by decide)) B_Cell__len) (d_lenO 3 ar_Cell__len) (by rfl) T.n_len (by decide +kernel) (da_cons (dv 1) da_nil)) (nomark _))))) (dss_one ds_never) dss_nil)
  (dss_cons (ds_if (PW.pt (dw_or (dt_not (dt_val (de_isi (by rfl) T.n_isinstance T.isa rfl rfl (dv 3) (pe_glob (by rfl) T.g_Cell rfl)))) (dw_or1 (dt_cmp (op_ne.or (op_neD hr.room.units)) d_neA (de_callB (cr_lenO 3 rfl T.dn_Cell__len.at_ T.dn_Cell__len.fn F_Cell__len (hr.mono (by decide)) B_Cell__len) (d_lenO 3 ar_Cell__len) (by rfl) T.n_len (by decide +kernel) (da_cons (dv 3) da_nil)) (de_callB (cr_lenO 3 rfl T.dn_Cell__len.at_ T.dn_Cell__len.fn F_Cell__len (hr.mono (by decide)) B_Cell__len) (d_lenO 3 ar_Cell__len) (by rfl) T.n_len (by decide +kernel) (da_cons (dv 1) da_nil)) (nomark _))))) (dss_one ds_never) dss_nil)
  (dss_cons (ds_if (dt_not (dt_val (de_call tk F_is_onward ar_is_onward (hr.mono (by decide)) (by rfl) T.g_is_onward kp_is_onward B_is_onward .nil (fun _ _ _ => .nil) (da_cons (de_callB (cr_lenO 3 rfl T.dn_Cell__len.at_ T.dn_Cell__len.fn F_Cell__len (hr.mono (by decide)) B_Cell__len) (d_lenO 3 ar_Cell__len) (by rfl) T.n_len (by decide +kernel) (da_cons (dv 1) da_nil)) (da_cons (dv 4) da_nil))))) (dss_one ds_never) dss_nil)
  (dss_cons (ds_fld 4 0 rfl T.cl_Strip T.no_Strip_head nd_Strip rfl (show 5 < 1000 by decide) (dv 0) (dv 1))
  (dss_cons (ds_fld 4 1 rfl T.cl_Strip T.no_Strip_cell nd_Strip rfl (show 5 < 1000 by decide) (dv 0) (dv 2))
  (dss_cons (ds_fld 4 2 rfl T.cl_Strip T.no_Strip_tail nd_Strip rfl (show 5 < 1000 by decide) (dv 0) (dv 3))
  (dss_cons (ds_fld 4 3 rfl T.cl_Strip T.no_Strip_onward nd_Strip rfl (show 5 < 1000 by decide) (dv 0) (de_callTy call_tuple_of d_tupOf (by rfl) T.n_tuple (by decide +kernel) (da_cons (de_lc (own := [("line", 5)]) false rfl rfl sc_Strip__init.nd (di_seq rfl (dv 4)) (blkOk_by (own := [("line", 5)]) rfl) (by decide) (fun _ _ _ _ _ => (tg_nm (i := 5) sc_Strip__init.nd rfl (by first | exact Or.inl rfl | exact Or.inr rfl))) (fun _ _ _ _ _ => dts_nil) (fun _ _ _ _ _ => (de_callTy call_tuple_of d_tupOf (by rfl) T.n_tuple (by decide +kernel) (da_cons (dv 5) da_nil)))) da_nil)))
  (dss_one (ds_fld 4 4 rfl T.cl_Strip T.no_Strip_width nd_Strip rfl (show 5 < 1000 by decide) (dv 0) (de_callB (cr_lenO 3 rfl T.dn_Cell__len.at_ T.dn_Cell__len.fn F_Cell__len (hr.mono (by decide)) B_Cell__len) (d_lenO 3 ar_Cell__len) (by rfl) T.n_len (by decide +kernel) (da_cons (dv 1) da_nil))))))))))))
theorem sc_Strip__eq : FnScope ["self", "other"] ["self", "other"] (defScope s_Strip__eq) := ⟨rfl, rfl, rfl, by decide +kernel, rfl, by decide +kernel, by decide +kernel⟩
def b_Strip__eq_0 : MS := (sIf (tNotM (mTst (mIsi [0, 1, 3, 4] (.own 4) (mVar 1)))) (sRet (mC (.bl false))) sNext)
def b_Strip__eq_1 : MS := (sIf (tOrM (mTst (mEqO true 3 m_Cell__eq (mUn (oFld 4 0) (mVar 0)) (mUn (oFld 4 0) (mVar 1)))) (tOrM (mTst (mEqO true 3 m_Cell__eq (mUn (oFld 4 1) (mVar 0)) (mUn (oFld 4 1) (mVar 1)))) (mTst (mEqO true 3 m_Cell__eq (mUn (oFld 4 2) (mVar 0)) (mUn (oFld 4 2) (mVar 1)))))) (sRet (mC (.bl false))) sNext)
def b_Strip__eq_2 : MS := (sRet (mOp (oEqA false) (mUn (oFld 4 3) (mVar 0)) (mUn (oFld 4 3) (mVar 1))))
def b_Strip__eq : MS := (sSeq b_Strip__eq_0 (sSeq b_Strip__eq_1 b_Strip__eq_2))
def m_Strip__eq : MF := mDef 2 2 b_Strip__eq
theorem e_Strip__eq (x0 x1 : D) (C : Store) : m_Strip__eq [x0, x1] C = finS C.length (b_Strip__eq ⟨C.length, [some x0, some x1]⟩ C) := mDef_e rfl rfl
theorem ar_Strip__eq : Ar 2 m_Strip__eq := mDef_ar
theorem ok_Strip__eq (T : Txt K mg) : ∃ fd, FnG P w K mg base 5 (a_Strip__eq K) fd ["self", "other"] (SpD (cn K) 2 m_Strip__eq) ∧ Binds K fd ["self", "other"] [] ∧ PySem.W.keepIn K (.ref (a_Strip__eq K)) = true := by
  obtain ⟨fd_Cell__eq, F_Cell__eq, B_Cell__eq, kp_Cell__eq⟩ := ok_Cell__eq (P := P) (w := w) (base := base) T
  obtain ⟨fd, F⟩ := T.f_Strip__eq
  refine ⟨fd, fn_ok (k := cn K) F sc_Strip__eq (by decide) fun cdv A outer s H E hr => ?_, F.bindsN fun _ _ _ _ _ _ us hl => match us, hl with | [_, _], _ => rfl, F.kp⟩
  have tk : Takes (cxOf (L2.CX P w) P w K mg base ["self", "other"] "Strip.__eq__" (defScope s_Strip__eq) (a_Strip__eq K) cdv A outer s H E) (fun c d _ H => E c d H) := takes_of rfl rfl rfl rfl
  exact (dss_cons (ds_if (dt_not (dt_val (de_isi (by rfl) T.n_isinstance T.isa rfl rfl (dv 1) (pe_glob (by rfl) T.g_Strip rfl)))) (dss_one (ds_ret de_bl)) dss_nil)
  (dss_cons (ds_if (PW.pt (dw_or (dt_neO 3 tk rfl (de_fld 4 0 rfl T.cl_Strip T.no_Strip_head nd_Strip rfl (dv 0)) (de_fld 4 0 rfl T.cl_Strip T.no_Strip_head nd_Strip rfl (dv 1)) T.eq_Cell F_Cell__eq ar_Cell__eq (hr.mono (by decide)) B_Cell__eq) (dw_or (dt_neO 3 tk rfl (de_fld 4 1 rfl T.cl_Strip T.no_Strip_cell nd_Strip rfl (dv 0)) (de_fld 4 1 rfl T.cl_Strip T.no_Strip_cell nd_Strip rfl (dv 1)) T.eq_Cell F_Cell__eq ar_Cell__eq (hr.mono (by decide)) B_Cell__eq) (dw_or1 (dt_neO 3 tk rfl (de_fld 4 2 rfl T.cl_Strip T.no_Strip_tail nd_Strip rfl (dv 0)) (de_fld 4 2 rfl T.cl_Strip T.no_Strip_tail nd_Strip rfl (dv 1)) T.eq_Cell F_Cell__eq ar_Cell__eq (hr.mono (by decide)) B_Cell__eq))))) (dss_one (ds_ret de_bl)) dss_nil)
  (dss_one (ds_ret (de_cmp (op_eq.or (op_eqD hr.room.units)) d_eqA (de_fld 4 3 rfl T.cl_Strip T.no_Strip_onward nd_Strip rfl (dv 0)) (de_fld 4 3 rfl T.cl_Strip T.no_Strip_onward nd_Strip rfl (dv 1)) (nomark _))))))
theorem sc_Strip_wants_of : FnScope ["self", "count"] ["self", "count"] (defScope s_Strip_wants_of) := ⟨rfl, rfl, rfl, by decide +kernel, rfl, by decide +kernel, by decide +kernel⟩
def b_Strip_wants_of : MS := (sRet (mOp oCatT (mOp oCatT (mUn (oFld 3 0) (mUn (oFld 4 0) (mVar 0))) (mOp oRepZ (mUn (oFld 3 0) (mUn (oFld 4 1) (mVar 0))) (mVar 1))) (mUn (oFld 3 0) (mUn (oFld 4 2) (mVar 0)))))
def m_Strip_wants_of : MF := mDef 2 2 b_Strip_wants_of
theorem e_Strip_wants_of (x0 x1 : D) (C : Store) : m_Strip_wants_of [x0, x1] C = finS C.length (b_Strip_wants_of ⟨C.length, [some x0, some x1]⟩ C) := mDef_e rfl rfl
theorem ar_Strip_wants_of : Ar 2 m_Strip_wants_of := mDef_ar
theorem ok_Strip_wants_of (T : Txt K mg) : ∃ fd, FnG P w K mg base 1 (a_Strip_wants_of K) fd ["self", "count"] (SpD (cn K) 2 m_Strip_wants_of) ∧ Binds K fd ["self", "count"] [] ∧ PySem.W.keepIn K (.ref (a_Strip_wants_of K)) = true := by
  obtain ⟨fd, F⟩ := T.f_Strip_wants_of
  refine ⟨fd, fn_ok (k := cn K) F sc_Strip_wants_of (by decide) fun cdv A outer s H E hr => ?_, F.bindsN fun _ _ _ _ _ _ us hl => match us, hl with | [_, _], _ => rfl, F.kp⟩
  have tk : Takes (cxOf (L2.CX P w) P w K mg base ["self", "count"] "Strip.wants_of" (defScope s_Strip_wants_of) (a_Strip_wants_of K) cdv A outer s H E) (fun c d _ H => E c d H) := takes_of rfl rfl rfl rfl
  exact (dss_one (ds_ret (de_op op_catA d_catT (de_op op_catA d_catT (de_fld 3 0 rfl T.cl_Cell T.no_Cell_wishes nd_Cell rfl (de_fld 4 0 rfl T.cl_Strip T.no_Strip_head nd_Strip rfl (dv 0))) (de_op ((op_repT.or op_rep1T).or op_rep0T) d_repZ (de_fld 3 0 rfl T.cl_Cell T.no_Cell_wishes nd_Cell rfl (de_fld 4 1 rfl T.cl_Strip T.no_Strip_cell nd_Strip rfl (dv 0))) (dv 1))) (de_fld 3 0 rfl T.cl_Cell T.no_Cell_wishes nd_Cell rfl (de_fld 4 2 rfl T.cl_Strip T.no_Strip_tail nd_Strip rfl (dv 0))))))
theorem sc_Strip_web_of : FnScope ["self", "count", "size", "ties", "k", "base", "i", "line", "j", "number"] ["self", "count"] (defScope s_Strip_web_of) := ⟨rfl, rfl, rfl, by decide +kernel, rfl, by decide +kernel, by decide +kernel⟩
def b_Strip_web_of_0 : MS := (sAsg (mOp oMul (mOp oAdd (mVar 1) (mC (.int 2))) (mUn (oFld 4 4) (mVar 0))) (gN 2))
def b_Strip_web_of_1 : MS := (sIf (mTst (mOp oGt (mVar 2) (mC (.int 60)))) (sRaise 2 1 (mCons (mC (.int 60)) mNil)) sNext)
def b_Strip_web_of_2 : MS := (sAsg (mOp (oCat true) (mCall m_inner_ties [] (mCons (mUn (oFld 4 0) (mVar 0)) (mCons (mC (.int 0)) mNil))) (mCall m_inner_ties [] (mCons (mUn (oFld 4 2) (mVar 0)) (mCons (mOp oSub (mVar 2) (mUn (oFld 4 4) (mVar 0))) mNil)))) (gN 3))
def b_Strip_web_of_3b_0 : MS := (sAugLs 3 (mCall m_inner_ties [] (mCons (mUn (oFld 4 1) (mVar 0)) (mCons (mOp oMul (mVar 4) (mUn (oFld 4 4) (mVar 0))) mNil))))
def b_Strip_web_of_3 : MS := (sFor (mRng2 (mC (.int 1)) (mOp oAdd (mVar 1) (mC (.int 1)))) (Tgt.nm 4).M b_Strip_web_of_3b_0)
def b_Strip_web_of_4b_0 : MS := (sAsg (mOp oMul (mVar 4) (mUn (oFld 4 4) (mVar 0))) (gN 5))
def b_Strip_web_of_4b_1b_0 : MS := (sAugLs 3 (mLc false (mEnum (mVar 7)) (Tgt.tp [8, 9]).M tYesM (mAp oTup (mCons (mOp oAdd (mVar 5) (mVar 6)) (mCons (mOp oAdd (mOp oAdd (mVar 5) (mUn (oFld 4 4) (mVar 0))) (mVar 8)) (mCons (mVar 9) mNil)))) [8, 9]))
def b_Strip_web_of_4b_1 : MS := (sFor (mEnum (mUn (oFld 4 3) (mVar 0))) (Tgt.tp [6, 7]).M b_Strip_web_of_4b_1b_0)
def b_Strip_web_of_4 : MS := (sFor (mRng1 (mOp oAdd (mVar 1) (mC (.int 1)))) (Tgt.nm 4).M (sSeq b_Strip_web_of_4b_0 b_Strip_web_of_4b_1))
def b_Strip_web_of_5 : MS := (sRet (mMake false 0 3 m_Web__init [] (mCons (mVar 2) (mCons (mVar 3) mNil))))
def b_Strip_web_of : MS := (sSeq b_Strip_web_of_0 (sSeq b_Strip_web_of_1 (sSeq b_Strip_web_of_2 (sSeq b_Strip_web_of_3 (sSeq b_Strip_web_of_4 b_Strip_web_of_5)))))
def m_Strip_web_of : MF := mDef 2 10 b_Strip_web_of
theorem e_Strip_web_of (x0 x1 : D) (C : Store) : m_Strip_web_of [x0, x1] C = finS C.length (b_Strip_web_of ⟨C.length, [some x0, some x1, none, none, none, none, none, none, none, none]⟩ C) := mDef_e rfl rfl
theorem ar_Strip_web_of : Ar 2 m_Strip_web_of := mDef_ar
theorem ok_Strip_web_of (T : Txt K mg) : ∃ fd, FnG P w K mg base 6 (a_Strip_web_of K) fd ["self", "count"] (SpD (cn K) 2 m_Strip_web_of) ∧ Binds K fd ["self", "count"] [] ∧ PySem.W.keepIn K (.ref (a_Strip_web_of K)) = true := by
  obtain ⟨fx_TooMany, F1_TooMany, B1_TooMany⟩ := okx_TooMany (P := P) (w := w) (base := base) T
  obtain ⟨fd_inner_ties, F_inner_ties, B_inner_ties, kp_inner_ties⟩ := ok_inner_ties (P := P) (w := w) (base := base) T
  obtain ⟨fd_Web__init, F_Web__init, B_Web__init, kp_Web__init, ds_Web__init, vd_Web__init, Bd_Web__init⟩ := ok_Web__init (P := P) (w := w) (base := base) T
  obtain ⟨fd, F⟩ := T.f_Strip_web_of
  refine ⟨fd, fn_ok (k := cn K) F sc_Strip_web_of (by decide) fun cdv A outer s H E hr => ?_, F.bindsN fun _ _ _ _ _ _ us hl => match us, hl with | [_, _], _ => rfl, F.kp⟩
  have tk : Takes (cxOf (L2.CX P w) P w K mg base ["self", "count", "size", "ties", "k", "base", "i", "line", "j", "number"] "Strip.web_of" (defScope s_Strip_web_of) (a_Strip_web_of K) cdv A outer s H E) (fun c d _ H => E c d H) := takes_of rfl rfl rfl rfl
  exact (dss_cons (ds_set (i := 2) sc_Strip_web_of.nd rfl (Or.inl rfl) (de_op op_mul d_mul (de_op op_add d_add (dv 1) de_int) (de_fld 4 4 rfl T.cl_Strip T.no_Strip_width nd_Strip rfl (dv 0))))
  (dss_cons (ds_if (dt_cmp op_gt d_gt (dv 2) de_int (nomark _)) (dss_one (ds_raise1 2 rfl tk rfl T.xi_TooMany rfl F1_TooMany (hr.mono (by decide)) B1_TooMany (by rfl) T.g_TooMany (da_cons de_int da_nil))) dss_nil)
  (dss_cons (ds_set (i := 3) sc_Strip_web_of.nd rfl (Or.inl rfl) (de_op op_cat (d_cat true) (de_call tk F_inner_ties ar_inner_ties (hr.mono (by decide)) (by rfl) T.g_inner_ties kp_inner_ties B_inner_ties .nil (fun _ _ _ => .nil) (da_cons (de_fld 4 0 rfl T.cl_Strip T.no_Strip_head nd_Strip rfl (dv 0)) (da_cons de_int da_nil))) (de_call tk F_inner_ties ar_inner_ties (hr.mono (by decide)) (by rfl) T.g_inner_ties kp_inner_ties B_inner_ties .nil (fun _ _ _ => .nil) (da_cons (de_fld 4 2 rfl T.cl_Strip T.no_Strip_tail nd_Strip rfl (dv 0)) (da_cons (de_op op_sub d_sub (dv 2) (de_fld 4 4 rfl T.cl_Strip T.no_Strip_width nd_Strip rfl (dv 0))) da_nil)))))
  (dss_cons (ds_for (passes_of rfl) rfl (di_rng2 (by rfl) T.n_range de_int (de_op op_add d_add (dv 1) de_int)) (tg_nm (i := 4) sc_Strip_web_of.nd rfl (Or.inl rfl)) (dss_one (ds_augLs (i := 3) sc_Strip_web_of.nd rfl (Or.inl rfl) (de_call tk F_inner_ties ar_inner_ties (hr.mono (by decide)) (by rfl) T.g_inner_ties kp_inner_ties B_inner_ties .nil (fun _ _ _ => .nil) (da_cons (de_fld 4 1 rfl T.cl_Strip T.no_Strip_cell nd_Strip rfl (dv 0)) (da_cons (de_op op_mul d_mul (dv 4) (de_fld 4 4 rfl T.cl_Strip T.no_Strip_width nd_Strip rfl (dv 0))) da_nil))))))
  (dss_cons (ds_for (passes_of rfl) rfl (di_rng1 (by rfl) T.n_range (de_op op_add d_add (dv 1) de_int)) (tg_nm (i := 4) sc_Strip_web_of.nd rfl (Or.inl rfl)) (dss_cons (ds_set (i := 5) sc_Strip_web_of.nd rfl (Or.inr rfl) (de_op op_mul d_mul (dv 4) (de_fld 4 4 rfl T.cl_Strip T.no_Strip_width nd_Strip rfl (dv 0))))
  (dss_one (ds_for (passes_of rfl) rfl (di_enum (by rfl) T.n_enumerate rfl (de_fld 4 3 rfl T.cl_Strip T.no_Strip_onward nd_Strip rfl (dv 0))) (tg_tp [6, 7] rfl rfl (pgs_cons (pg_name (i := 6) sc_Strip_web_of.nd rfl (Or.inr rfl)) (pgs_cons (pg_name (i := 7) sc_Strip_web_of.nd rfl (Or.inl rfl)) pgs_nil))) (dss_one (ds_augLs (i := 3) sc_Strip_web_of.nd rfl (Or.inl rfl) (de_lc (own := [("j", 8), ("number", 9)]) false rfl rfl sc_Strip_web_of.nd (di_enum (by rfl) T.n_enumerate rfl (dv 7)) (blkOk_by (own := [("j", 8), ("number", 9)]) rfl) (by decide) (fun _ _ _ _ _ => (tg_tp [8, 9] rfl rfl (pgs_cons (pg_name (i := 8) sc_Strip_web_of.nd rfl (by first | exact Or.inl rfl | exact Or.inr rfl)) (pgs_cons (pg_name (i := 9) sc_Strip_web_of.nd rfl (by first | exact Or.inl rfl | exact Or.inr rfl)) pgs_nil)))) (fun _ _ _ _ _ => dts_nil) (fun _ _ _ _ _ => (de_tup (da_cons (de_op op_add d_add (dv 5) (dv 6)) (da_cons (de_op op_add d_add (de_op op_add d_add (dv 5) (de_fld 4 4 rfl T.cl_Strip T.no_Strip_width nd_Strip rfl (dv 0))) (dv 8)) (da_cons (dv 9) da_nil))))))))))))
  (dss_one (ds_ret (de_make false 0 3 tk rfl T.mk_Web F_Web__init ar_Web__init rfl (hr.mono (by decide)) (by rfl) T.g_Web B_Web__init .nil (fun _ _ _ => .nil) (da_cons (dv 2) (da_cons (dv 3) da_nil))))))))))
theorem sc_Strip_mirrored : FnScope ["self", "turned", "j", "line"] ["self"] (defScope s_Strip_mirrored) := ⟨rfl, rfl, rfl, by decide +kernel, rfl, by decide +kernel, by decide +kernel⟩
def b_Strip_mirrored_0 : MS := (sAsg (mLc false (mRng1 (mUn (oFld 4 4) (mVar 0))) (Tgt.nm 2).M tYesM (mLc false (mSeq (mUn (oFld 4 3) (mVar 0))) (Tgt.nm 3).M tYesM (mOp oIx (mVar 3) (mVar 2)) [3]) [2]) (gN 1))
def b_Strip_mirrored_1 : MS := (sRet (mMake false 4 5 m_Strip__init [] (mCons (mUn (oFld 4 2) (mVar 0)) (mCons (mUn (oFld 4 1) (mVar 0)) (mCons (mUn (oFld 4 0) (mVar 0)) (mCons (mVar 1) mNil))))))
def b_Strip_mirrored : MS := (sSeq b_Strip_mirrored_0 b_Strip_mirrored_1)
def m_Strip_mirrored : MF := mDef 1 4 b_Strip_mirrored
theorem e_Strip_mirrored (x0 : D) (C : Store) : m_Strip_mirrored [x0] C = finS C.length (b_Strip_mirrored ⟨C.length, [some x0, none, none, none]⟩ C) := mDef_e rfl rfl
theorem ar_Strip_mirrored : Ar 1 m_Strip_mirrored := mDef_ar
theorem ok_Strip_mirrored (T : Txt K mg) : ∃ fd, FnG P w K mg base 6 (a_Strip_mirrored K) fd ["self"] (SpD (cn K) 1 m_Strip_mirrored) ∧ Binds K fd ["self"] [] ∧ PySem.W.keepIn K (.ref (a_Strip_mirrored K)) = true := by
  obtain ⟨fd_Strip__init, F_Strip__init, B_Strip__init, kp_Strip__init⟩ := ok_Strip__init (P := P) (w := w) (base := base) T
  obtain ⟨fd, F⟩ := T.f_Strip_mirrored
  refine ⟨fd, fn_ok (k := cn K) F sc_Strip_mirrored (by decide) fun cdv A outer s H E hr => ?_, F.bindsN fun _ _ _ _ _ _ us hl => match us, hl with | [_], _ => rfl, F.kp⟩
  have tk : Takes (cxOf (L2.CX P w) P w K mg base ["self", "turned", "j", "line"] "Strip.mirrored" (defScope s_Strip_mirrored) (a_Strip_mirrored K) cdv A outer s H E) (fun c d _ H => E c d H) := takes_of rfl rfl rfl rfl
  exact (dss_cons (ds_setLc (i := 1) (own := [("j", 2)]) false rfl rfl sc_Strip_mirrored.nd rfl rfl (sw_true rfl rfl rfl (by decide +kernel)) (di_rng1 (by rfl) T.n_range (de_fld 4 4 rfl T.cl_Strip T.no_Strip_width nd_Strip rfl (dv 0))) (blkOk_by (own := [("j", 2)]) rfl) (by decide) (fun _ _ _ _ _ => (tg_nm (i := 2) sc_Strip_mirrored.nd rfl (by first | exact Or.inl rfl | exact Or.inr rfl))) (fun _ _ _ _ _ => dts_nil) (fun _ _ _ _ _ => (de_lc (own := [("line", 3)]) false rfl rfl sc_Strip_mirrored.nd (di_seq rfl (de_fld 4 3 rfl T.cl_Strip T.no_Strip_onward nd_Strip rfl (dv 0))) (blkOk_by (own := [("line", 3)]) rfl) (by decide) (fun _ _ _ _ _ => (tg_nm (i := 3) sc_Strip_mirrored.nd rfl (by first | exact Or.inl rfl | exact Or.inr rfl))) (fun _ _ _ _ _ => dts_nil) (fun _ _ _ _ _ => (de_ix ix_seq d_ix (dv 3) (dv 2))))))
  (dss_one (ds_ret (de_make false 4 5 tk rfl T.mk_Strip F_Strip__init ar_Strip__init rfl (hr.mono (by decide)) (by rfl) T.g_Strip B_Strip__init .nil (fun _ _ _ => .nil) (da_cons (de_fld 4 2 rfl T.cl_Strip T.no_Strip_tail nd_Strip rfl (dv 0)) (da_cons (de_fld 4 1 rfl T.cl_Strip T.no_Strip_cell nd_Strip rfl (dv 0)) (da_cons (de_fld 4 0 rfl T.cl_Strip T.no_Strip_head nd_Strip rfl (dv 0)) (da_cons (dv 1) da_nil))))))))
theorem sc_law_bag : FnScope ["_law_script", "_law_cell_here"] ["_law_script"] (defScope s_law_bag) := ⟨rfl, rfl, rfl, by decide +kernel, rfl, by decide +kernel, by decide +kernel⟩
def b_law_bag : MS := (sRet (mAp (oLst true) (mCons (mC (.int 0)) (mCons (mC (.int 1234567891)) (mCons (mC (.int 0)) (mCons (mLc false (mSeq (mSlL false (mVar 0) mNoPart (mPart (mC (.int 63))))) (Tgt.nm 1).M tYesM (mAp oAbs (mCons (mVar 1) mNil)) [1]) mNil))))))
def m_law_bag : MF := mDefO 1 2 b_law_bag
theorem ar_law_bag : Ar 1 m_law_bag := mDefO_ar
theorem ok_law_bag (T : Txt K mg) : ∃ fd, FnG P w K mg base 1 (a_law_bag K) fd ["_law_script"] (SpD (cn K) 1 m_law_bag) ∧ Binds K fd ["_law_script"] [] ∧ PySem.W.keepIn K (.ref (a_law_bag K)) = true := by
  obtain ⟨fd, F⟩ := T.f_law_bag
  refine ⟨fd, fn_okO (k := cn K) F sc_law_bag (by decide) fun cdv A outer s H E hr => ?_, F.bindsN fun _ _ _ _ _ _ us hl => match us, hl with | [_], _ => rfl, F.kp⟩
  have tk : Takes (cxOf (L2.CX P w) P w K mg base ["_law_script", "_law_cell_here"] "_law_bag" (defScope s_law_bag) (a_law_bag K) cdv A outer s H E) (fun c d _ H => E c d H) := takes_of rfl rfl rfl rfl
  exact (dss_one (ds_ret (de_lst true (da_cons de_int (da_cons de_int (da_cons de_int (da_cons (de_lc (own := [("_law_cell_here", 1)]) false rfl rfl sc_law_bag.nd (di_seq rfl (de_slL false rfl (dv 0) do_none (do_some de_int))) (blkOk_by (own := [("_law_cell_here", 1)]) rfl) (by decide) (fun _ _ _ _ _ => (tg_nm (i := 1) sc_law_bag.nd rfl (by first | exact Or.inl rfl | exact Or.inr rfl))) (fun _ _ _ _ _ => dts_nil) (fun _ _ _ _ _ => (de_callB call_abs d_abs (by rfl) T.n_abs (by decide +kernel) (da_cons (dv 1) da_nil)))) da_nil)))))))
theorem sc_law_take : FnScope ["_law_bag_here", "_law_many", "_law_cell_here", "_law_mixed", "_law_drawn", "_law_early", "_law_second"] ["_law_bag_here", "_law_many"] (defScope s_law_take) := ⟨rfl, rfl, rfl, by decide +kernel, rfl, by decide +kernel, by decide +kernel⟩
def b_law_take_0t_0 : MS := (sAsg (mC (.int 0)) (gN 2))
def b_law_take_0t_1 : MS := (sIf (mTst (mOp oLt (mOp oIx (mVar 0) (mC (.int 2))) (mAp oLen (mCons (mOp oIx (mVar 0) (mC (.int 3))) mNil)))) (sAsg (mOp oIx (mOp oIx (mVar 0) (mC (.int 3))) (mOp oIx (mVar 0) (mC (.int 2)))) (gN 2)) sNext)
def b_law_take_0t_2 : MS := (sAugL (· + ·) (mVar 0) (mC (.int 2)) (mC (.int 1)))
def b_law_take_0t_3 : MS := (sIf (mTst (mOp oGe (mVar 2) (mC (.int 1000000000000000000)))) (sSetL (mVar 2) (mVar 0) (mC (.int 0))) sNext)
def b_law_take_0t_4 : MS := (sAsg (mOp oAdd (mOp oAdd (mOp oMul (mOp oIx (mVar 0) (mC (.int 1))) (mC (.int 48271))) (mOp oMod (mAp oInt (mCons (mVar 2) mNil)) (mC (.int 2147483647)))) (mOp oMul (mC (.int 7919)) (mOp oIx (mVar 0) (mC (.int 2))))) (gN 3))
def b_law_take_0t_5 : MS := (sSetL (mOp oMod (mAp oInt (mCons (mVar 3) mNil)) (mC (.int 2147483647))) (mVar 0) (mC (.int 1)))
def b_law_take_0 : MS := (sIf (mTst (mOp (oEqA false) (mOp oIx (mVar 0) (mC (.int 0))) (mC (.int 0)))) (sSeq b_law_take_0t_0 (sSeq b_law_take_0t_1 (sSeq b_law_take_0t_2 (sSeq b_law_take_0t_3 (sSeq b_law_take_0t_4 b_law_take_0t_5))))) sNext)
def b_law_take_1t_0 : MS := (sAsg (mOp oMod (mAp oInt (mCons (mOp oIx (mVar 0) (mC (.int 0))) mNil)) (mVar 1)) (gN 4))
def b_law_take_1t_1 : MS := (sSetL (mOp oDiv (mAp oInt (mCons (mOp oIx (mVar 0) (mC (.int 0))) mNil)) (mVar 1)) (mVar 0) (mC (.int 0)))
def b_law_take_1t_2 : MS := (sRet (mVar 4))
def b_law_take_1 : MS := (sIf (mTst (mOp oGt (mOp oIx (mVar 0) (mC (.int 0))) (mC (.int 0)))) (sSeq b_law_take_1t_0 (sSeq b_law_take_1t_1 b_law_take_1t_2)) sNext)
def b_law_take_2 : MS := (sAsg (mOp oMod (mAp oInt (mCons (mOp oMul (mOp oAdd (mOp oIx (mVar 0) (mC (.int 1))) (mC (.int 1))) (mC (.int 39373))) mNil)) (mC (.int 1000000007))) (gN 5))
def b_law_take_3 : MS := (sAsg (mOp oMod (mAp oInt (mCons (mOp oMul (mOp oMod (mAp oInt (mCons (mOp oMul (mVar 5) (mVar 5)) mNil)) (mC (.int 998244353))) (mC (.int 30011))) mNil)) (mC (.int 998244353))) (gN 6))
def b_law_take_4 : MS := (sRet (mOp oMod (mAp oInt (mCons (mOp oDiv (mVar 6) (mC (.int 7))) mNil)) (mVar 1)))
def b_law_take : MS := (sSeq b_law_take_0 (sSeq b_law_take_1 (sSeq b_law_take_2 (sSeq b_law_take_3 b_law_take_4))))
def m_law_take : MF := mDef 2 7 b_law_take
theorem e_law_take (x0 x1 : D) (C : Store) : m_law_take [x0, x1] C = finS C.length (b_law_take ⟨C.length, [some x0, some x1, none, none, none, none, none]⟩ C) := mDef_e rfl rfl
theorem ar_law_take : Ar 2 m_law_take := mDef_ar
theorem ok_law_take (T : Txt K mg) : ∃ fd, FnG P w K mg base 1 (a_law_take K) fd ["_law_bag_here", "_law_many"] (SpD (cn K) 2 m_law_take) ∧ Binds K fd ["_law_bag_here", "_law_many"] [] ∧ PySem.W.keepIn K (.ref (a_law_take K)) = true := by
  obtain ⟨fd, F⟩ := T.f_law_take
  refine ⟨fd, fn_ok (k := cn K) F sc_law_take (by decide) fun cdv A outer s H E hr => ?_, F.bindsN fun _ _ _ _ _ _ us hl => match us, hl with | [_, _], _ => rfl, F.kp⟩
  have tk : Takes (cxOf (L2.CX P w) P w K mg base ["_law_bag_here", "_law_many", "_law_cell_here", "_law_mixed", "_law_drawn", "_law_early", "_law_second"] "_law_take" (defScope s_law_take) (a_law_take K) cdv A outer s H E) (fun c d _ H => E c d H) := takes_of rfl rfl rfl rfl
  exact (dss_cons (ds_if (dt_cmp (op_eq.or (op_eqD hr.room.units)) d_eqA (de_ix ix_seq d_ix (dv 0) de_int) de_int (nomark _)) (dss_cons (ds_set (i := 2) sc_law_take.nd rfl (Or.inl rfl) de_int)
  (dss_cons (ds_if (dt_cmp op_lt d_lt (de_ix ix_seq d_ix (dv 0) de_int) (de_callB call_len_seq d_len (by rfl) T.n_len (by decide +kernel) (da_cons (de_ix ix_seq d_ix (dv 0) de_int) da_nil)) (nomark _)) (dss_one (ds_set (i := 2) sc_law_take.nd rfl (Or.inl rfl) (de_ix ix_seq d_ix (de_ix ix_seq d_ix (dv 0) de_int) (de_ix ix_seq d_ix (dv 0) de_int)))) dss_nil)
  (dss_cons (ds_augL ip_add (dv 0) de_int de_int)
  (dss_cons (ds_if (dt_cmp op_ge d_ge (dv 2) de_int (nomark _)) (dss_one (ds_setL (dv 2) (pg_sub (dv 0) de_int set_list))) dss_nil)
  (dss_cons (ds_set (i := 3) sc_law_take.nd rfl (Or.inl rfl) (de_op op_add d_add (de_op op_add d_add (de_op op_mul d_mul (de_ix ix_seq d_ix (dv 0) de_int) de_int) (de_op op_mod d_mod (de_callTy call_int1 d_int (by rfl) T.n_int (by decide +kernel) (da_cons (dv 2) da_nil)) de_int)) (de_op op_mul d_mul de_int (de_ix ix_seq d_ix (dv 0) de_int))))
  (dss_one (ds_setL (de_op op_mod d_mod (de_callTy call_int1 d_int (by rfl) T.n_int (by decide +kernel) (da_cons (dv 3) da_nil)) de_int) (pg_sub (dv 0) de_int set_list)))))))) dss_nil)
  (dss_cons (ds_if (dt_cmp op_gt d_gt (de_ix ix_seq d_ix (dv 0) de_int) de_int (nomark _)) (dss_cons (ds_set (i := 4) sc_law_take.nd rfl (Or.inl rfl) (de_op op_mod d_mod (de_callTy call_int1 d_int (by rfl) T.n_int (by decide +kernel) (da_cons (de_ix ix_seq d_ix (dv 0) de_int) da_nil)) (dv 1)))
  (dss_cons (ds_setL (de_op op_fdivW d_div (de_callTy call_int1 d_int (by rfl) T.n_int (by decide +kernel) (da_cons (de_ix ix_seq d_ix (dv 0) de_int) da_nil)) (dv 1)) (pg_sub (dv 0) de_int set_list))
  (dss_one (ds_ret (dv 4))))) dss_nil)
  (dss_cons (ds_set (i := 5) sc_law_take.nd rfl (Or.inl rfl) (de_op op_mod d_mod (de_callTy call_int1 d_int (by rfl) T.n_int (by decide +kernel) (da_cons (de_op op_mul d_mul (de_op op_add d_add (de_ix ix_seq d_ix (dv 0) de_int) de_int) de_int) da_nil)) de_int))
  (dss_cons (ds_set (i := 6) sc_law_take.nd rfl (Or.inl rfl) (de_op op_mod d_mod (de_callTy call_int1 d_int (by rfl) T.n_int (by decide +kernel) (da_cons (de_op op_mul d_mul (de_op op_mod d_mod (de_callTy call_int1 d_int (by rfl) T.n_int (by decide +kernel) (da_cons (de_op op_mul d_mul (dv 5) (dv 5)) da_nil)) de_int) de_int) da_nil)) de_int))
  (dss_one (ds_ret (de_op op_mod d_mod (de_callTy call_int1 d_int (by rfl) T.n_int (by decide +kernel) (da_cons (de_op op_fdivW d_div (dv 6) de_int) da_nil)) (dv 1))))))))
theorem sc_law_want : FnScope ["_law_xs", "_law_want_here", "_law_x"] ["_law_xs"] (defScope s_law_want) := ⟨rfl, rfl, rfl, by decide +kernel, rfl, by decide +kernel, by decide +kernel⟩
def b_law_want_0 : MS := (sAsg (mMake false 1 1 (vaM .pos 1 m_Want__init) [] (mCons (mOp oIx (mVar 0) (mC (.int 0))) mNil)) (gN 1))
def b_law_want_1b_0 : MS := (sAsg (mBinO 1 m_Want__or (mVar 1) (mMake false 1 1 (vaM .pos 1 m_Want__init) [] (mCons (mVar 2) mNil))) (gN 1))
def b_law_want_1 : MS := (sFor (mSeq (mSlL false (mVar 0) (mPart (mC (.int 1))) mNoPart)) (Tgt.nm 2).M b_law_want_1b_0)
def b_law_want_2 : MS := (sRet (mVar 1))
def b_law_want : MS := (sSeq b_law_want_0 (sSeq b_law_want_1 b_law_want_2))
def m_law_want : MF := mDef 1 3 b_law_want
theorem e_law_want (x0 : D) (C : Store) : m_law_want [x0] C = finS C.length (b_law_want ⟨C.length, [some x0, none, none]⟩ C) := mDef_e rfl rfl
theorem ar_law_want : Ar 1 m_law_want := mDef_ar
theorem ok_law_want (T : Txt K mg) : ∃ fd, FnG P w K mg base 7 (a_law_want K) fd ["_law_xs"] (SpD (cn K) 1 m_law_want) ∧ Binds K fd ["_law_xs"] [] ∧ PySem.W.keepIn K (.ref (a_law_want K)) = true := by
  obtain ⟨fd_Want__init, F_Want__init, Bn1_Want__init, Bk_Want__init⟩ := ok_Want__init (P := P) (w := w) (base := base) T
  obtain ⟨fd_Want__or, F_Want__or, B_Want__or, kp_Want__or⟩ := ok_Want__or (P := P) (w := w) (base := base) T
  obtain ⟨fd, F⟩ := T.f_law_want
  refine ⟨fd, fn_ok (k := cn K) F sc_law_want (by decide) fun cdv A outer s H E hr => ?_, F.bindsN fun _ _ _ _ _ _ us hl => match us, hl with | [_], _ => rfl, F.kp⟩
  have tk : Takes (cxOf (L2.CX P w) P w K mg base ["_law_xs", "_law_want_here", "_law_x"] "_law_want" (defScope s_law_want) (a_law_want K) cdv A outer s H E) (fun c d _ H => E c d H) := takes_of rfl rfl rfl rfl
  exact (dss_cons (ds_set (i := 1) sc_law_want.nd rfl (Or.inl rfl) (de_makeW false 1 1 tk rfl T.mk_Want F_Want__init rfl (hr.mono (by decide)) (by rfl) T.g_Want Bn1_Want__init (by decide) (da_cons (de_ix ix_seq d_ix (dv 0) de_int) da_nil)))
  (dss_cons (ds_for (passes_of rfl) rfl (di_seq rfl (de_slL false rfl (dv 0) (do_some de_int) do_none)) (tg_nm (i := 2) sc_law_want.nd rfl (Or.inl rfl)) (dss_one (ds_set (i := 1) sc_law_want.nd rfl (Or.inl rfl) (de_binO 1 tk rfl (dv 1) (de_makeW false 1 1 tk rfl T.mk_Want F_Want__init rfl (hr.mono (by decide)) (by rfl) T.g_Want Bn1_Want__init (by decide) (da_cons (dv 2) da_nil)) T.sf_Want T.dn_Want__or.at_ T.dn_Want__or.fn F_Want__or ar_Want__or (hr.mono (by decide)) B_Want__or))))
  (dss_one (ds_ret (dv 1)))))
theorem sc_law_cell : FnScope ["_law_cell_here", "_law_wants", "_law_xs"] ["_law_cell_here"] (defScope s_law_cell) := ⟨rfl, rfl, rfl, by decide +kernel, rfl, by decide +kernel, by decide +kernel⟩
def b_law_cell_0 : MS := (sAsg (mLc false (mSeq (mOp oIx (mVar 0) (mC (.int 0)))) (Tgt.nm 2).M tYesM (mCall m_law_want [] (mCons (mVar 2) mNil)) [2]) (gN 1))
def b_law_cell_1 : MS := (sIf (mTst (mOp oGt (mAp oLen (mCons (mOp oIx (mOp oIx (mVar 0) (mC (.int 0))) (mC (.int 0))) mNil)) (mC (.int 1)))) (sAsg (mAp oTupOf (mCons (mVar 1) mNil)) (gN 1)) sNext)
def b_law_cell_2 : MS := (sRet (mMake false 3 2 m_Cell__init [] (mCons (mVar 1) (mCons (mOp oIx (mVar 0) (mC (.int 1))) mNil))))
def b_law_cell : MS := (sSeq b_law_cell_0 (sSeq b_law_cell_1 b_law_cell_2))
def m_law_cell : MF := mDef 1 3 b_law_cell
theorem e_law_cell (x0 : D) (C : Store) : m_law_cell [x0] C = finS C.length (b_law_cell ⟨C.length, [some x0, none, none]⟩ C) := mDef_e rfl rfl
theorem ar_law_cell : Ar 1 m_law_cell := mDef_ar
theorem ok_law_cell (T : Txt K mg) : ∃ fd, FnG P w K mg base 8 (a_law_cell K) fd ["_law_cell_here"] (SpD (cn K) 1 m_law_cell) ∧ Binds K fd ["_law_cell_here"] [] ∧ PySem.W.keepIn K (.ref (a_law_cell K)) = true := by
  obtain ⟨fd_law_want, F_law_want, B_law_want, kp_law_want⟩ := ok_law_want (P := P) (w := w) (base := base) T
  obtain ⟨fd_Cell__init, F_Cell__init, B_Cell__init, kp_Cell__init, ds_Cell__init, vd_Cell__init, Bd_Cell__init⟩ := ok_Cell__init (P := P) (w := w) (base := base) T
  obtain ⟨fd, F⟩ := T.f_law_cell
  refine ⟨fd, fn_ok (k := cn K) F sc_law_cell (by decide) fun cdv A outer s H E hr => ?_, F.bindsN fun _ _ _ _ _ _ us hl => match us, hl with | [_], _ => rfl, F.kp⟩
  have tk : Takes (cxOf (L2.CX P w) P w K mg base ["_law_cell_here", "_law_wants", "_law_xs"] "_law_cell" (defScope s_law_cell) (a_law_cell K) cdv A outer s H E) (fun c d _ H => E c d H) := takes_of rfl rfl rfl rfl
  exact (dss_cons (ds_setLc (i := 1) (own := [("_law_xs", 2)]) false rfl rfl sc_law_cell.nd rfl rfl (sw_true rfl rfl rfl (by decide +kernel)) (di_seq rfl (de_ix ix_seq d_ix (dv 0) de_int)) (blkOk_by (own := [("_law_xs", 2)]) rfl) (by decide) (fun _ _ _ _ _ => (tg_nm (i := 2) sc_law_cell.nd rfl (by first | exact Or.inl rfl | exact Or.inr rfl))) (fun _ _ _ _ _ => dts_nil) (fun _ _ _ _ _ => (de_call takes0 F_law_want ar_law_want (hr.mono (by decide)) (by rfl) T.g_law_want kp_law_want B_law_want .nil (fun _ _ _ => .nil) (da_cons (dv 2) da_nil))))
  (dss_cons (ds_if (dt_cmp op_gt d_gt (de_callB call_len_seq d_len (by rfl) T.n_len (by decide +kernel) (da_cons (de_ix ix_seq d_ix (de_ix ix_seq d_ix (dv 0) de_int) de_int) da_nil)) de_int (nomark _)) (dss_one (ds_set (i := 1) sc_law_cell.nd rfl (Or.inl rfl) (de_callTy call_tuple_of d_tupOf (by rfl) T.n_tuple (by decide +kernel) (da_cons (dv 1) da_nil)))) dss_nil)
  (dss_one (ds_ret (de_make false 3 2 tk rfl T.mk_Cell F_Cell__init ar_Cell__init rfl (hr.mono (by decide)) (by rfl) T.g_Cell B_Cell__init .nil (fun _ _ _ => .nil) (da_cons (dv 1) (da_cons (de_ix ix_seq d_ix (dv 0) de_int) da_nil)))))))
theorem sc_law_strip : FnScope ["_law_plan_here", "_law_across", "_law_road", "_law_row"] ["_law_plan_here"] (defScope s_law_strip) := ⟨rfl, rfl, rfl, by decide +kernel, rfl, by decide +kernel, by decide +kernel⟩
def b_law_strip_0 : MS := (sPar [1, 2] (mCons (mOp oIx (mVar 0) (mC (.int 3))) (mCons (mOp oMod (mAp oInt (mCons (mOp oIx (mOp oIx (mOp oIx (mVar 0) (mC (.int 3))) (mC (.int 0))) (mC (.int 0))) mNil)) (mC (.int 4))) mNil)))
def b_law_strip_1 : MS := (sIf (mTst (mOp (oInD false) (mVar 2) (mAp oTup (mCons (mC (.int 1)) (mCons (mC (.int 2)) mNil))))) (sAsg (mLc false (mSeq (mVar 1)) (Tgt.nm 3).M tYesM (mAp oTupOf (mCons (mVar 3) mNil)) [3]) (gN 1)) sNext)
def b_law_strip_2 : MS := (sIf (mTst (mOp (oInD false) (mVar 2) (mAp oTup (mCons (mC (.int 2)) (mCons (mC (.int 3)) mNil))))) (sAsg (mAp oTupOf (mCons (mVar 1) mNil)) (gN 1)) sNext)
def b_law_strip_3 : MS := (sRet (mMake false 4 5 m_Strip__init [] (mCons (mCall m_law_cell [] (mCons (mOp oIx (mVar 0) (mC (.int 0))) mNil)) (mCons (mCall m_law_cell [] (mCons (mOp oIx (mVar 0) (mC (.int 1))) mNil)) (mCons (mCall m_law_cell [] (mCons (mOp oIx (mVar 0) (mC (.int 2))) mNil)) (mCons (mVar 1) mNil))))))
def b_law_strip : MS := (sSeq b_law_strip_0 (sSeq b_law_strip_1 (sSeq b_law_strip_2 b_law_strip_3)))
def m_law_strip : MF := mDef 1 4 b_law_strip
theorem e_law_strip (x0 : D) (C : Store) : m_law_strip [x0] C = finS C.length (b_law_strip ⟨C.length, [some x0, none, none, none]⟩ C) := mDef_e rfl rfl
theorem ar_law_strip : Ar 1 m_law_strip := mDef_ar
theorem ok_law_strip (T : Txt K mg) : ∃ fd, FnG P w K mg base 9 (a_law_strip K) fd ["_law_plan_here"] (SpD (cn K) 1 m_law_strip) ∧ Binds K fd ["_law_plan_here"] [] ∧ PySem.W.keepIn K (.ref (a_law_strip K)) = true := by
  obtain ⟨fd_Strip__init, F_Strip__init, B_Strip__init, kp_Strip__init⟩ := ok_Strip__init (P := P) (w := w) (base := base) T
  obtain ⟨fd_law_cell, F_law_cell, B_law_cell, kp_law_cell⟩ := ok_law_cell (P := P) (w := w) (base := base) T
  obtain ⟨fd, F⟩ := T.f_law_strip
  refine ⟨fd, fn_ok (k := cn K) F sc_law_strip (by decide) fun cdv A outer s H E hr => ?_, F.bindsN fun _ _ _ _ _ _ us hl => match us, hl with | [_], _ => rfl, F.kp⟩
  have tk : Takes (cxOf (L2.CX P w) P w K mg base ["_law_plan_here", "_law_across", "_law_road", "_law_row"] "_law_strip" (defScope s_law_strip) (a_law_strip K) cdv A outer s H E) (fun c d _ H => E c d H) := takes_of rfl rfl rfl rfl
  exact (dss_cons (ds_par (i := 1) (j := 2) rfl sc_law_strip.nd rfl rfl (by decide) rfl rfl (da_cons (de_ix ix_seq d_ix (dv 0) de_int) (da_cons (de_op op_mod d_mod (de_callTy call_int1 d_int (by rfl) T.n_int (by decide +kernel) (da_cons (de_ix ix_seq d_ix (de_ix ix_seq d_ix (de_ix ix_seq d_ix (dv 0) de_int) de_int) de_int) da_nil)) de_int) da_nil)))
  (dss_cons (ds_if (dt_cmp (op_inA hr.u65) d_inD (dv 2) (de_tup (da_cons de_int (da_cons de_int da_nil))) (by with_unfolding_all rfl)) (dss_one (ds_setLc (i := 1) (own := [("_law_row", 3)]) false rfl rfl sc_law_strip.nd rfl rfl (sw_true rfl rfl rfl (by decide +kernel)) (di_seq rfl (dv 1)) (blkOk_by (own := [("_law_row", 3)]) rfl) (by decide) (fun _ _ _ _ _ => (tg_nm (i := 3) sc_law_strip.nd rfl (by first | exact Or.inl rfl | exact Or.inr rfl))) (fun _ _ _ _ _ => dts_nil) (fun _ _ _ _ _ => (de_callTy call_tuple_of d_tupOf (by rfl) T.n_tuple (by decide +kernel) (da_cons (dv 3) da_nil))))) dss_nil)
  (dss_cons (ds_if (dt_cmp (op_inA hr.u65) d_inD (dv 2) (de_tup (da_cons de_int (da_cons de_int da_nil))) (by with_unfolding_all rfl)) (dss_one (ds_set (i := 1) sc_law_strip.nd rfl (Or.inl rfl) (de_callTy call_tuple_of d_tupOf (by rfl) T.n_tuple (by decide +kernel) (da_cons (dv 1) da_nil)))) dss_nil)
  (dss_one (ds_ret (de_make false 4 5 tk rfl T.mk_Strip F_Strip__init ar_Strip__init rfl (hr.mono (by decide)) (by rfl) T.g_Strip B_Strip__init .nil (fun _ _ _ => .nil) (da_cons (de_call tk F_law_cell ar_law_cell (hr.mono (by decide)) (by rfl) T.g_law_cell kp_law_cell B_law_cell .nil (fun _ _ _ => .nil) (da_cons (de_ix ix_seq d_ix (dv 0) de_int) da_nil)) (da_cons (de_call tk F_law_cell ar_law_cell (hr.mono (by decide)) (by rfl) T.g_law_cell kp_law_cell B_law_cell .nil (fun _ _ _ => .nil) (da_cons (de_ix ix_seq d_ix (dv 0) de_int) da_nil)) (da_cons (de_call tk F_law_cell ar_law_cell (hr.mono (by decide)) (by rfl) T.g_law_cell kp_law_cell B_law_cell .nil (fun _ _ _ => .nil) (da_cons (de_ix ix_seq d_ix (dv 0) de_int) da_nil)) (da_cons (dv 1) da_nil))))))))))
theorem sc_law_near : FnScope ["_law_bag_here", "_law_low", "_law_gaps", "_law_x"] ["_law_bag_here", "_law_low"] (defScope s_law_near) := ⟨rfl, rfl, rfl, by decide +kernel, rfl, by decide +kernel, by decide +kernel⟩
def b_law_near_0 : MS := (sAsg (mAp (oLst false) (mCons (mAp (oLst false) (mCons (mC (.int 0)) mNil)) (mCons (mAp (oLst false) (mCons (mC (.int 0)) (mCons (mC (.int 1)) mNil))) (mCons (mAp (oLst false) (mCons (mC (.int 0)) (mCons (mC (.int 2)) mNil))) (mCons (mAp (oLst false) (mCons (mC (.int 0)) mNil)) (mCons (mAp (oLst false) (mCons (mC (.int 0)) (mCons (mC (.int 1)) (mCons (mC (.int 2)) mNil)))) (mCons (mAp (oLst false) (mCons (mC (.int 0)) (mCons (mC (.int 3)) mNil))) (mCons (mAp (oLst false) (mCons (mC (.int 0)) (mCons (mC (.int 4)) mNil))) (mCons (mAp (oLst false) (mCons (mC (.int 0)) (mCons (mC (.int 1)) (mCons (mC (.int 4)) (mCons (mC (.int 5)) mNil))))) (mCons (mAp (oLst false) (mCons (mC (.int 0)) (mCons (mC (.int 5)) (mCons (mC (.int 6)) mNil)))) (mCons (mAp (oLst false) (mCons (mC (.int 0)) (mCons (mC (.int 1)) (mCons (mC (.int 2)) (mCons (mC (.int 3)) (mCons (mC (.int 4)) (mCons (mC (.int 6)) (mCons (mC (.int 7)) (mCons (mC (.int 8)) (mCons (mC (.int 9)) mNil)))))))))) mNil))))))))))) (gN 2))
def b_law_near_1 : MS := (sRet (mAp (oSortS false) (mCons (mLc false (mSeq (mOp oIx (mVar 2) (mCall m_law_take [] (mCons (mVar 0) (mCons (mC (.int 10)) mNil))))) (Tgt.nm 3).M tYesM (mAp oMin2 (mCons (mC (.int 9)) (mCons (mOp oAdd (mVar 1) (mVar 3)) mNil))) [3]) mNil)))
def b_law_near : MS := (sSeq b_law_near_0 b_law_near_1)
def m_law_near : MF := mDef 2 4 b_law_near
theorem e_law_near (x0 x1 : D) (C : Store) : m_law_near [x0, x1] C = finS C.length (b_law_near ⟨C.length, [some x0, some x1, none, none]⟩ C) := mDef_e rfl rfl
theorem ar_law_near : Ar 2 m_law_near := mDef_ar
theorem ok_law_near (T : Txt K mg) : ∃ fd, FnG P w K mg base 2 (a_law_near K) fd ["_law_bag_here", "_law_low"] (SpD (cn K) 2 m_law_near) ∧ Binds K fd ["_law_bag_here", "_law_low"] [] ∧ PySem.W.keepIn K (.ref (a_law_near K)) = true := by
  obtain ⟨fd_law_take, F_law_take, B_law_take, kp_law_take⟩ := ok_law_take (P := P) (w := w) (base := base) T
  obtain ⟨fd, F⟩ := T.f_law_near
  refine ⟨fd, fn_ok (k := cn K) F sc_law_near (by decide) fun cdv A outer s H E hr => ?_, F.bindsN fun _ _ _ _ _ _ us hl => match us, hl with | [_, _], _ => rfl, F.kp⟩
  have tk : Takes (cxOf (L2.CX P w) P w K mg base ["_law_bag_here", "_law_low", "_law_gaps", "_law_x"] "_law_near" (defScope s_law_near) (a_law_near K) cdv A outer s H E) (fun c d _ H => E c d H) := takes_of rfl rfl rfl rfl
  exact (dss_cons (ds_set (i := 2) sc_law_near.nd rfl (Or.inl rfl) (de_lst false (da_cons (de_lst false (da_cons de_int da_nil)) (da_cons (de_lst false (da_cons de_int (da_cons de_int da_nil))) (da_cons (de_lst false (da_cons de_int (da_cons de_int da_nil))) (da_cons (de_lst false (da_cons de_int da_nil)) (da_cons (de_lst false (da_cons de_int (da_cons de_int (da_cons de_int da_nil)))) (da_cons (de_lst false (da_cons de_int (da_cons de_int da_nil))) (da_cons (de_lst false (da_cons de_int (da_cons de_int da_nil))) (da_cons (de_lst false (da_cons de_int (da_cons de_int (da_cons de_int (da_cons de_int da_nil))))) (da_cons (de_lst false (da_cons de_int (da_cons de_int (da_cons de_int da_nil)))) (da_cons (de_lst false (da_cons de_int (da_cons de_int (da_cons de_int (da_cons de_int (da_cons de_int (da_cons de_int (da_cons de_int (da_cons de_int (da_cons de_int da_nil)))))))))) da_nil))))))))))))
  (dss_one (ds_ret (de_sortS false rfl rfl (by rfl) T.n_sorted (by rfl) T.n_set (da_cons (de_lc (own := [("_law_x", 3)]) false rfl rfl sc_law_near.nd (di_seq rfl (de_ix ix_seq d_ix (dv 2) (de_call tk F_law_take ar_law_take (hr.mono (by decide)) (by rfl) T.g_law_take kp_law_take B_law_take .nil (fun _ _ _ => .nil) (da_cons (dv 0) (da_cons de_int da_nil))))) (blkOk_by (own := [("_law_x", 3)]) rfl) (by decide) (fun _ _ _ _ _ => (tg_nm (i := 3) sc_law_near.nd rfl (by first | exact Or.inl rfl | exact Or.inr rfl))) (fun _ _ _ _ _ => dts_nil) (fun _ _ _ _ _ => (de_callB (call_min2 rfl) d_min2 (by rfl) T.n_min (by decide +kernel) (da_cons de_int (da_cons (de_op op_add d_add (dv 1) (dv 3)) da_nil))))) da_nil)))))
theorem sc_law_any : FnScope ["_law_bag_here", "_law_low"] ["_law_bag_here"] (defScope s_law_any) := ⟨rfl, rfl, rfl, by decide +kernel, rfl, by decide +kernel, by decide +kernel⟩
def b_law_any_0 : MS := (sAsg (mCall m_law_take [] (mCons (mVar 0) (mCons (mC (.int 7)) mNil))) (gN 1))
def b_law_any_1 : MS := (sRet (mCall m_law_near [] (mCons (mVar 0) (mCons (mVar 1) mNil))))
def b_law_any : MS := (sSeq b_law_any_0 b_law_any_1)
def m_law_any : MF := mDef 1 2 b_law_any
theorem e_law_any (x0 : D) (C : Store) : m_law_any [x0] C = finS C.length (b_law_any ⟨C.length, [some x0, none]⟩ C) := mDef_e rfl rfl
theorem ar_law_any : Ar 1 m_law_any := mDef_ar
theorem ok_law_any (T : Txt K mg) : ∃ fd, FnG P w K mg base 3 (a_law_any K) fd ["_law_bag_here"] (SpD (cn K) 1 m_law_any) ∧ Binds K fd ["_law_bag_here"] [] ∧ PySem.W.keepIn K (.ref (a_law_any K)) = true := by
  obtain ⟨fd_law_take, F_law_take, B_law_take, kp_law_take⟩ := ok_law_take (P := P) (w := w) (base := base) T
  obtain ⟨fd_law_near, F_law_near, B_law_near, kp_law_near⟩ := ok_law_near (P := P) (w := w) (base := base) T
  obtain ⟨fd, F⟩ := T.f_law_any
  refine ⟨fd, fn_ok (k := cn K) F sc_law_any (by decide) fun cdv A outer s H E hr => ?_, F.bindsN fun _ _ _ _ _ _ us hl => match us, hl with | [_], _ => rfl, F.kp⟩
  have tk : Takes (cxOf (L2.CX P w) P w K mg base ["_law_bag_here", "_law_low"] "_law_any" (defScope s_law_any) (a_law_any K) cdv A outer s H E) (fun c d _ H => E c d H) := takes_of rfl rfl rfl rfl
  exact (dss_cons (ds_set (i := 1) sc_law_any.nd rfl (Or.inl rfl) (de_call tk F_law_take ar_law_take (hr.mono (by decide)) (by rfl) T.g_law_take kp_law_take B_law_take .nil (fun _ _ _ => .nil) (da_cons (dv 0) (da_cons de_int da_nil))))
  (dss_one (ds_ret (de_call tk F_law_near ar_law_near (hr.mono (by decide)) (by rfl) T.g_law_near kp_law_near B_law_near .nil (fun _ _ _ => .nil) (da_cons (dv 0) (da_cons (dv 1) da_nil))))))
theorem sc_law_plan : FnScope ["_law_bag_here", "_law_road", "_law_low", "_law_other", "_law_ends", "_law_a", "_law_b", "_law_full", "_law_ones", "_law_others", "_law_across", "_law_cells", "_law_k"] ["_law_bag_here"] (defScope s_law_plan) := ⟨rfl, rfl, rfl, by decide +kernel, rfl, by decide +kernel, by decide +kernel⟩
def b_law_plan_0 : MS := (sAsg (mCall m_law_take [] (mCons (mVar 0) (mCons (mC (.int 7)) mNil))) (gN 1))
def b_law_plan_1t_0 : MS := (sPar [2, 3] (mCons (mOp oAdd (mC (.int 4)) (mCall m_law_take [] (mCons (mVar 0) (mCons (mC (.int 3)) mNil)))) (mCons (mCall m_law_take [] (mCons (mVar 0) (mCons (mC (.int 2)) mNil))) mNil)))
def b_law_plan_1t_1 : MS := (sAsg (mAp (oLst false) (mCons (mAp (oLst false) (mCons (mAp (oLst false) (mCons (mC (.int 5)) mNil)) (mCons (mAp (oLst false) (mCons (mC (.int 5)) mNil)) mNil))) (mCons (mC (.int 6)) mNil))) (gN 4))
def b_law_plan_1t_2 : MS := (sRet (mAp oTup (mCons (mVar 4) (mCons (mAp (oLst false) (mCons (mAp (oLst false) (mCons (mAp (oLst false) (mCons (mVar 2) (mCons (mAp oMin2 (mCons (mC (.int 9)) (mCons (mOp oAdd (mOp oAdd (mOp oMul (mC (.int 2)) (mVar 3)) (mVar 2)) (mC (.int 1))) mNil))) mNil))) (mCons (mAp (oLst false) (mCons (mVar 3) mNil)) mNil))) (mCons (mC (.int 6)) mNil))) (mCons (mVar 4) (mCons (mAp (oLst false) (mCons (mAp (oLst false) (mCons (mC (.int 6)) (mCons (mC (.int 6)) mNil))) (mCons (mAp (oLst false) (mCons (mC (.int 6)) (mCons (mC (.int 6)) mNil))) mNil))) mNil))))))
def b_law_plan_1 : MS := (sIf (mTst (mOp (oEqA false) (mVar 1) (mC (.int 6)))) (sSeq b_law_plan_1t_0 (sSeq b_law_plan_1t_1 b_law_plan_1t_2)) sNext)
def b_law_plan_2 : MS := (sIf (mTst (mOp (oEqA false) (mVar 1) (mC (.int 0)))) (sRet (mAp oTup (mCons (mAp (oLst false) (mCons (mAp (oLst false) (mCons (mCall m_law_any [] (mCons (mVar 0) mNil)) mNil)) (mCons (mC (.int 0)) mNil))) (mCons (mAp (oLst false) (mCons (mAp (oLst false) (mCons (mCall m_law_any [] (mCons (mVar 0) mNil)) mNil)) (mCons (mC (.int 0)) mNil))) (mCons (mAp (oLst false) (mCons (mAp (oLst false) (mCons (mCall m_law_any [] (mCons (mVar 0) mNil)) mNil)) (mCons (mC (.int 0)) mNil))) (mCons (mAp (oLst false) (mCons (mAp (oLst false) (mCons (mCall m_law_take [] (mCons (mVar 0) (mCons (mC (.int 7)) mNil))) mNil)) mNil)) mNil)))))) sNext)
def b_law_plan_3t_0 : MS := (sAsg (mOp oAdd (mC (.int 1)) (mCall m_law_take [] (mCons (mVar 0) (mCons (mC (.int 6)) mNil)))) (gN 5))
def b_law_plan_3t_1 : MS := (sAsg (mCall m_law_take [] (mCons (mVar 0) (mCons (mOp oAdd (mVar 5) (mC (.int 1))) mNil))) (gN 6))
def b_law_plan_3t_2 : MS := (sAsg (mOp oIx (mAp (oLst false) (mCons (mAp (oLst false) (mCons (mOp oSub (mVar 5) (mVar 6)) mNil)) (mCons (mAp (oLst false) (mCons (mVar 6) mNil)) (mCons (mAp (oSortS false) (mCons (mAp (oLst false) (mCons (mVar 6) (mCons (mOp oSub (mVar 5) (mVar 6)) mNil))) mNil)) mNil)))) (mCall m_law_take [] (mCons (mVar 0) (mCons (mC (.int 3)) mNil)))) (gN 4))
def b_law_plan_3t_3 : MS := (sRet (mAp oTup (mCons (mAp (oLst false) (mCons (mAp (oLst false) (mCons (mAp (oSortS false) (mCons (mAp (oLst false) (mCons (mVar 6) (mCons (mOp oSub (mVar 5) (mVar 6)) mNil))) mNil)) mNil)) (mCons (mC (.int 0)) mNil))) (mCons (mAp (oLst false) (mCons (mAp (oLst false) (mCons (mAp (oLst false) (mCons (mVar 5) mNil)) mNil)) (mCons (mC (.int 0)) mNil))) (mCons (mAp (oLst false) (mCons (mAp (oLst false) (mCons (mVar 4) mNil)) (mCons (mC (.int 0)) mNil))) (mCons (mAp (oLst false) (mCons (mAp (oLst false) (mCons (mOp oAdd (mVar 5) (mCall m_law_take [] (mCons (mVar 0) (mCons (mOp oSub (mC (.int 7)) (mVar 5)) mNil)))) mNil)) mNil)) mNil))))))
def b_law_plan_3 : MS := (sIf (mTst (mOp (oEqA false) (mVar 1) (mC (.int 1)))) (sSeq b_law_plan_3t_0 (sSeq b_law_plan_3t_1 (sSeq b_law_plan_3t_2 b_law_plan_3t_3))) sNext)
def b_law_plan_4t_0 : MS := (sAsg (mCall m_law_take [] (mCons (mVar 0) (mCons (mC (.int 4)) mNil))) (gN 6))
def b_law_plan_4t_1 : MS := (sRet (mAp oTup (mCons (mAp (oLst false) (mCons (mAp (oLst false) (mCons (mAp (oLst false) (mCons (mVar 6) mNil)) mNil)) (mCons (mC (.int 0)) mNil))) (mCons (mAp (oLst false) (mCons (mAp (oLst false) (mCons (mCall m_law_near [] (mCons (mVar 0) (mCons (mOp oMul (mC (.int 2)) (mVar 6)) mNil))) mNil)) (mCons (mC (.int 0)) mNil))) (mCons (mAp (oLst false) (mCons (mAp (oLst false) (mCons (mAp (oLst false) (mCons (mVar 6) mNil)) mNil)) (mCons (mC (.int 0)) mNil))) (mCons (mAp (oLst false) (mCons (mAp (oLst false) (mCons (mOp oAdd (mC (.int 3)) (mCall m_law_take [] (mCons (mVar 0) (mCons (mC (.int 4)) mNil)))) mNil)) mNil)) mNil))))))
def b_law_plan_4 : MS := (sIf (mTst (mOp (oEqA false) (mVar 1) (mC (.int 2)))) (sSeq b_law_plan_4t_0 b_law_plan_4t_1) sNext)
def b_law_plan_5t_0 : MS := (sPar [2, 7] (mCons (mOp oAdd (mC (.int 1)) (mCall m_law_take [] (mCons (mVar 0) (mCons (mC (.int 3)) mNil)))) (mCons (mAp (oLst false) (mCons (mAp (oLst false) (mCons (mC (.int 6)) (mCons (mC (.int 6)) mNil))) (mCons (mAp (oLst false) (mCons (mC (.int 6)) (mCons (mC (.int 6)) mNil))) mNil))) mNil)))
def b_law_plan_5t_1 : MS := (sAsg (mAp (oLst false) (mCons (mAp (oLst false) (mCons (mAp (oLst false) (mCons (mVar 2) mNil)) (mCons (mAp (oLst false) (mCons (mVar 2) mNil)) mNil))) (mCons (mC (.int 6)) mNil))) (gN 4))
def b_law_plan_5t_2 : MS := (sRet (mAp oTup (mCons (mVar 4) (mCons (mAp (oLst false) (mCons (mAp (oLst false) (mCons (mCall m_law_near [] (mCons (mVar 0) (mCons (mVar 2) mNil))) (mCons (mCall m_law_near [] (mCons (mVar 0) (mCons (mVar 2) mNil))) mNil))) (mCons (mC (.int 6)) mNil))) (mCons (mVar 4) (mCons (mVar 7) mNil))))))
def b_law_plan_5 : MS := (sIf (mTst (mOp (oEqA false) (mVar 1) (mC (.int 3)))) (sSeq b_law_plan_5t_0 (sSeq b_law_plan_5t_1 b_law_plan_5t_2)) sNext)
def b_law_plan_6t_0 : MS := (sAsg (mCall m_law_take [] (mCons (mVar 0) (mCons (mC (.int 4)) mNil))) (gN 2))
def b_law_plan_6t_1 : MS := (sPar [8, 9] (mCons (mCall m_law_near [] (mCons (mVar 0) (mCons (mVar 2) mNil))) (mCons (mCall m_law_near [] (mCons (mVar 0) (mCons (mVar 2) mNil))) mNil)))
def b_law_plan_6t_2 : MS := (sAsg (mAp (oLst false) (mCons (mAp (oLst false) (mCons (mCall m_law_take [] (mCons (mVar 0) (mCons (mC (.int 4)) mNil))) (mCons (mCall m_law_take [] (mCons (mVar 0) (mCons (mC (.int 3)) mNil))) mNil))) (mCons (mAp (oLst false) (mCons (mCall m_law_take [] (mCons (mVar 0) (mCons (mC (.int 3)) mNil))) (mCons (mCall m_law_take [] (mCons (mVar 0) (mCons (mC (.int 4)) mNil))) mNil))) mNil))) (gN 10))
def b_law_plan_6t_3 : MS := (sRet (mAp oTup (mCons (mAp (oLst false) (mCons (mAp (oLst false) (mCons (mAp (oLst false) (mCons (mVar 2) mNil)) (mCons (mAp (oLst false) (mCons (mVar 2) mNil)) mNil))) (mCons (mCall m_law_take [] (mCons (mVar 0) (mCons (mC (.int 5)) mNil))) mNil))) (mCons (mAp (oLst false) (mCons (mAp (oLst false) (mCons (mVar 8) (mCons (mVar 9) mNil))) (mCons (mCall m_law_take [] (mCons (mVar 0) (mCons (mC (.int 5)) mNil))) mNil))) (mCons (mAp (oLst false) (mCons (mAp (oLst false) (mCons (mVar 8) (mCons (mAp (oLst false) (mCons (mVar 2) mNil)) mNil))) (mCons (mC (.int 2)) mNil))) (mCons (mVar 10) mNil))))))
def b_law_plan_6 : MS := (sIf (mTst (mOp (oEqA false) (mVar 1) (mC (.int 4)))) (sSeq b_law_plan_6t_0 (sSeq b_law_plan_6t_1 (sSeq b_law_plan_6t_2 b_law_plan_6t_3))) sNext)
def b_law_plan_7 : MS := (sAsg (mAp (oLst false) (mCons (mAp (oLst false) (mCons (mCall m_law_take [] (mCons (mVar 0) (mCons (mC (.int 3)) mNil))) (mCons (mCall m_law_take [] (mCons (mVar 0) (mCons (mC (.int 2)) mNil))) mNil))) (mCons (mAp (oLst false) (mCons (mCall m_law_take [] (mCons (mVar 0) (mCons (mC (.int 2)) mNil))) (mCons (mCall m_law_take [] (mCons (mVar 0) (mCons (mC (.int 3)) mNil))) mNil))) mNil))) (gN 10))
def b_law_plan_8 : MS := (sAsg (mLc false (mRng1 (mC (.int 3))) (Tgt.nm 12).M tYesM (mAp (oLst false) (mCons (mAp (oLst false) (mCons (mCall m_law_any [] (mCons (mVar 0) mNil)) (mCons (mCall m_law_any [] (mCons (mVar 0) mNil)) mNil))) (mCons (mCall m_law_take [] (mCons (mVar 0) (mCons (mC (.int 4)) mNil))) mNil))) [12]) (gN 11))
def b_law_plan_9 : MS := (sRet (mAp oTup (mCons (mOp oIx (mVar 11) (mC (.int 0))) (mCons (mOp oIx (mVar 11) (mC (.int 1))) (mCons (mOp oIx (mVar 11) (mC (.int 2))) (mCons (mVar 10) mNil))))))
def b_law_plan : MS := (sSeq b_law_plan_0 (sSeq b_law_plan_1 (sSeq b_law_plan_2 (sSeq b_law_plan_3 (sSeq b_law_plan_4 (sSeq b_law_plan_5 (sSeq b_law_plan_6 (sSeq b_law_plan_7 (sSeq b_law_plan_8 b_law_plan_9)))))))))
def m_law_plan : MF := mDef 1 13 b_law_plan
theorem e_law_plan (x0 : D) (C : Store) : m_law_plan [x0] C = finS C.length (b_law_plan ⟨C.length, [some x0, none, none, none, none, none, none, none, none, none, none, none, none]⟩ C) := mDef_e rfl rfl
theorem ar_law_plan : Ar 1 m_law_plan := mDef_ar
theorem ok_law_plan (T : Txt K mg) : ∃ fd, FnG P w K mg base 4 (a_law_plan K) fd ["_law_bag_here"] (SpD (cn K) 1 m_law_plan) ∧ Binds K fd ["_law_bag_here"] [] ∧ PySem.W.keepIn K (.ref (a_law_plan K)) = true := by
  obtain ⟨fd_law_take, F_law_take, B_law_take, kp_law_take⟩ := ok_law_take (P := P) (w := w) (base := base) T
  obtain ⟨fd_law_any, F_law_any, B_law_any, kp_law_any⟩ := ok_law_any (P := P) (w := w) (base := base) T
  obtain ⟨fd_law_near, F_law_near, B_law_near, kp_law_near⟩ := ok_law_near (P := P) (w := w) (base := base) T
  obtain ⟨fd, F⟩ := T.f_law_plan
  refine ⟨fd, fn_ok (k := cn K) F sc_law_plan (by decide) fun cdv A outer s H E hr => ?_, F.bindsN fun _ _ _ _ _ _ us hl => match us, hl with | [_], _ => rfl, F.kp⟩
  have tk : Takes (cxOf (L2.CX P w) P w K mg base ["_law_bag_here", "_law_road", "_law_low", "_law_other", "_law_ends", "_law_a", "_law_b", "_law_full", "_law_ones", "_law_others", "_law_across", "_law_cells", "_law_k"] "_law_plan" (defScope s_law_plan) (a_law_plan K) cdv A outer s H E) (fun c d _ H => E c d H) := takes_of rfl rfl rfl rfl
  exact (dss_cons (ds_set (i := 1) sc_law_plan.nd rfl (Or.inl rfl) (de_call tk F_law_take ar_law_take (hr.mono (by decide)) (by rfl) T.g_law_take kp_law_take B_law_take .nil (fun _ _ _ => .nil) (da_cons (dv 0) (da_cons de_int da_nil))))
  (dss_cons (ds_if (dt_cmp (op_eq.or (op_eqD hr.room.units)) d_eqA (dv 1) de_int (nomark _)) (dss_cons (ds_par (i := 2) (j := 3) rfl sc_law_plan.nd rfl rfl (by decide) rfl rfl (da_cons (de_op op_add d_add de_int (de_call tk F_law_take ar_law_take (hr.mono (by decide)) (by rfl) T.g_law_take kp_law_take B_law_take .nil (fun _ _ _ => .nil) (da_cons (dv 0) (da_cons de_int da_nil)))) (da_cons (de_call tk F_law_take ar_law_take (hr.mono (by decide)) (by rfl) T.g_law_take kp_law_take B_law_take .nil (fun _ _ _ => .nil) (da_cons (dv 0) (da_cons de_int da_nil))) da_nil)))
  (dss_cons (ds_set (i := 4) sc_law_plan.nd rfl (Or.inl rfl) (de_lst false (da_cons (de_lst false (da_cons (de_lst false (da_cons de_int da_nil)) (da_cons (de_lst false (da_cons de_int da_nil)) da_nil))) (da_cons de_int da_nil))))
  (dss_one (ds_ret (de_tup (da_cons (dv 4) (da_cons (de_lst false (da_cons (de_lst false (da_cons (de_lst false (da_cons (dv 2) (da_cons (de_callB (call_min2 rfl) d_min2 (by rfl) T.n_min (by decide +kernel) (da_cons de_int (da_cons (de_op op_add d_add (de_op op_add d_add (de_op op_mul d_mul de_int (dv 3)) (dv 2)) de_int) da_nil))) da_nil))) (da_cons (de_lst false (da_cons (dv 3) da_nil)) da_nil))) (da_cons de_int da_nil))) (da_cons (dv 4) (da_cons (de_lst false (da_cons (de_lst false (da_cons de_int (da_cons de_int da_nil))) (da_cons (de_lst false (da_cons de_int (da_cons de_int da_nil))) da_nil))) da_nil))))))))) dss_nil)
  (dss_cons (ds_if (dt_cmp (op_eq.or (op_eqD hr.room.units)) d_eqA (dv 1) de_int (nomark _)) (dss_one (ds_ret (de_tup (da_cons (de_lst false (da_cons (de_lst false (da_cons (de_call tk F_law_any ar_law_any (hr.mono (by decide)) (by rfl) T.g_law_any kp_law_any B_law_any .nil (fun _ _ _ => .nil) (da_cons (dv 0) da_nil)) da_nil)) (da_cons de_int da_nil))) (da_cons (de_lst false (da_cons (de_lst false (da_cons (de_call tk F_law_any ar_law_any (hr.mono (by decide)) (by rfl) T.g_law_any kp_law_any B_law_any .nil (fun _ _ _ => .nil) (da_cons (dv 0) da_nil)) da_nil)) (da_cons de_int da_nil))) (da_cons (de_lst false (da_cons (de_lst false (da_cons (de_call tk F_law_any ar_law_any (hr.mono (by decide)) (by rfl) T.g_law_any kp_law_any B_law_any .nil (fun _ _ _ => .nil) (da_cons (dv 0) da_nil)) da_nil)) (da_cons de_int da_nil))) (da_cons (de_lst false (da_cons (de_lst false (da_cons (de_call tk F_law_take ar_law_take (hr.mono (by decide)) (by rfl) T.g_law_take kp_law_take B_law_take .nil (fun _ _ _ => .nil) (da_cons (dv 0) (da_cons de_int da_nil))) da_nil)) da_nil)) da_nil))))))) dss_nil)
  (dss_cons (ds_if (dt_cmp (op_eq.or (op_eqD hr.room.units)) d_eqA (dv 1) de_int (nomark _)) (dss_cons (ds_set (i := 5) sc_law_plan.nd rfl (Or.inl rfl) (de_op op_add d_add de_int (de_call tk F_law_take ar_law_take (hr.mono (by decide)) (by rfl) T.g_law_take kp_law_take B_law_take .nil (fun _ _ _ => .nil) (da_cons (dv 0) (da_cons de_int da_nil)))))
  (dss_cons (ds_set (i := 6) sc_law_plan.nd rfl (Or.inl rfl) (de_call tk F_law_take ar_law_take (hr.mono (by decide)) (by rfl) T.g_law_take kp_law_take B_law_take .nil (fun _ _ _ => .nil) (da_cons (dv 0) (da_cons (de_op op_add d_add (dv 5) de_int) da_nil))))
  (dss_cons (ds_set (i := 4) sc_law_plan.nd rfl (Or.inl rfl) (de_ix ix_seq d_ix (de_lst false (da_cons (de_lst false (da_cons (de_op op_sub d_sub (dv 5) (dv 6)) da_nil)) (da_cons (de_lst false (da_cons (dv 6) da_nil)) (da_cons (de_sortS false rfl rfl (by rfl) T.n_sorted (by rfl) T.n_set (da_cons (de_lst false (da_cons (dv 6) (da_cons (de_op op_sub d_sub (dv 5) (dv 6)) da_nil))) da_nil)) da_nil)))) (de_call tk F_law_take ar_law_take (hr.mono (by decide)) (by rfl) T.g_law_take kp_law_take B_law_take .nil (fun _ _ _ => .nil) (da_cons (dv 0) (da_cons de_int da_nil)))))
  (dss_one (ds_ret (de_tup (da_cons (de_lst false (da_cons (de_lst false (da_cons (de_sortS false rfl rfl (by rfl) T.n_sorted (by rfl) T.n_set (da_cons (de_lst false (da_cons (dv 6) (da_cons (de_op op_sub d_sub (dv 5) (dv 6)) da_nil))) da_nil)) da_nil)) (da_cons de_int da_nil))) (da_cons (de_lst false (da_cons (de_lst false (da_cons (de_lst false (da_cons (dv 5) da_nil)) da_nil)) (da_cons de_int da_nil))) (da_cons (de_lst false (da_cons (de_lst false (da_cons (dv 4) da_nil)) (da_cons de_int da_nil))) (da_cons (de_lst false (da_cons (de_lst false (da_cons (de_op op_add d_add (dv 5) (de_call tk F_law_take ar_law_take (hr.mono (by decide)) (by rfl) T.g_law_take kp_law_take B_law_take .nil (fun _ _ _ => .nil) (da_cons (dv 0) (da_cons (de_op op_sub d_sub de_int (dv 5)) da_nil)))) da_nil)) da_nil)) da_nil)))))))))) dss_nil)
  (dss_cons (ds_if (dt_cmp (op_eq.or (op_eqD hr.room.units)) d_eqA (dv 1) de_int (nomark _)) (dss_cons (ds_set (i := 6) sc_law_plan.nd rfl (Or.inl rfl) (de_call tk F_law_take ar_law_take (hr.mono (by decide)) (by rfl) T.g_law_take kp_law_take B_law_take .nil (fun _ _ _ => .nil) (da_cons (dv 0) (da_cons de_int da_nil))))
  (dss_one (ds_ret (de_tup (da_cons (de_lst false (da_cons (de_lst false (da_cons (de_lst false (da_cons (dv 6) da_nil)) da_nil)) (da_cons de_int da_nil))) (da_cons (de_lst false (da_cons (de_lst false (da_cons (de_call tk F_law_near ar_law_near (hr.mono (by decide)) (by rfl) T.g_law_near kp_law_near B_law_near .nil (fun _ _ _ => .nil) (da_cons (dv 0) (da_cons (de_op op_mul d_mul de_int (dv 6)) da_nil))) da_nil)) (da_cons de_int da_nil))) (da_cons (de_lst false (da_cons (de_lst false (da_cons (de_lst false (da_cons (dv 6) da_nil)) da_nil)) (da_cons de_int da_nil))) (da_cons (de_lst false (da_cons (de_lst false (da_cons (de_op op_add d_add de_int (de_call tk F_law_take ar_law_take (hr.mono (by decide)) (by rfl) T.g_law_take kp_law_take B_law_take .nil (fun _ _ _ => .nil) (da_cons (dv 0) (da_cons de_int da_nil)))) da_nil)) da_nil)) da_nil)))))))) dss_nil)
  (dss_cons (ds_if (dt_cmp (op_eq.or (op_eqD hr.room.units)) d_eqA (dv 1) de_int (nomark _)) (dss_cons (ds_par (i := 2) (j := 7) rfl sc_law_plan.nd rfl rfl (by decide) rfl rfl (da_cons (de_op op_add d_add de_int (de_call tk F_law_take ar_law_take (hr.mono (by decide)) (by rfl) T.g_law_take kp_law_take B_law_take .nil (fun _ _ _ => .nil) (da_cons (dv 0) (da_cons de_int da_nil)))) (da_cons (de_lst false (da_cons (de_lst false (da_cons de_int (da_cons de_int da_nil))) (da_cons (de_lst false (da_cons de_int (da_cons de_int da_nil))) da_nil))) da_nil)))
  (dss_cons (ds_set (i := 4) sc_law_plan.nd rfl (Or.inl rfl) (de_lst false (da_cons (de_lst false (da_cons (de_lst false (da_cons (dv 2) da_nil)) (da_cons (de_lst false (da_cons (dv 2) da_nil)) da_nil))) (da_cons de_int da_nil))))
  (dss_one (ds_ret (de_tup (da_cons (dv 4) (da_cons (de_lst false (da_cons (de_lst false (da_cons (de_call tk F_law_near ar_law_near (hr.mono (by decide)) (by rfl) T.g_law_near kp_law_near B_law_near .nil (fun _ _ _ => .nil) (da_cons (dv 0) (da_cons (dv 2) da_nil))) (da_cons (de_call tk F_law_near ar_law_near (hr.mono (by decide)) (by rfl) T.g_law_near kp_law_near B_law_near .nil (fun _ _ _ => .nil) (da_cons (dv 0) (da_cons (dv 2) da_nil))) da_nil))) (da_cons de_int da_nil))) (da_cons (dv 4) (da_cons (dv 7) da_nil))))))))) dss_nil)
  (dss_cons (ds_if (dt_cmp (op_eq.or (op_eqD hr.room.units)) d_eqA (dv 1) de_int (nomark _)) (dss_cons (ds_set (i := 2) sc_law_plan.nd rfl (Or.inl rfl) (de_call tk F_law_take ar_law_take (hr.mono (by decide)) (by rfl) T.g_law_take kp_law_take B_law_take .nil (fun _ _ _ => .nil) (da_cons (dv 0) (da_cons de_int da_nil))))
  (dss_cons (ds_par (i := 8) (j := 9) rfl sc_law_plan.nd rfl rfl (by decide) rfl rfl (da_cons (de_call tk F_law_near ar_law_near (hr.mono (by decide)) (by rfl) T.g_law_near kp_law_near B_law_near .nil (fun _ _ _ => .nil) (da_cons (dv 0) (da_cons (dv 2) da_nil))) (da_cons (de_call tk F_law_near ar_law_near (hr.mono (by decide)) (by rfl) T.g_law_near kp_law_near B_law_near .nil (fun _ _ _ => .nil) (da_cons (dv 0) (da_cons (dv 2) da_nil))) da_nil)))
  (dss_cons (ds_set (i := 10) sc_law_plan.nd rfl (Or.inl rfl) (de_lst false (da_cons (de_lst false (da_cons (de_call tk F_law_take ar_law_take (hr.mono (by decide)) (by rfl) T.g_law_take kp_law_take B_law_take .nil (fun _ _ _ => .nil) (da_cons (dv 0) (da_cons de_int da_nil))) (da_cons (de_call tk F_law_take ar_law_take (hr.mono (by decide)) (by rfl) T.g_law_take kp_law_take B_law_take .nil (fun _ _ _ => .nil) (da_cons (dv 0) (da_cons de_int da_nil))) da_nil))) (da_cons (de_lst false (da_cons (de_call tk F_law_take ar_law_take (hr.mono (by decide)) (by rfl) T.g_law_take kp_law_take B_law_take .nil (fun _ _ _ => .nil) (da_cons (dv 0) (da_cons de_int da_nil))) (da_cons (de_call tk F_law_take ar_law_take (hr.mono (by decide)) (by rfl) T.g_law_take kp_law_take B_law_take .nil (fun _ _ _ => .nil) (da_cons (dv 0) (da_cons de_int da_nil))) da_nil))) da_nil))))
  (dss_one (ds_ret (de_tup (da_cons (de_lst false (da_cons (de_lst false (da_cons (de_lst false (da_cons (dv 2) da_nil)) (da_cons (de_lst false (da_cons (dv 2) da_nil)) da_nil))) (da_cons (de_call tk F_law_take ar_law_take (hr.mono (by decide)) (by rfl) T.g_law_take kp_law_take B_law_take .nil (fun _ _ _ => .nil) (da_cons (dv 0) (da_cons de_int da_nil))) da_nil))) (da_cons (de_lst false (da_cons (de_lst false (da_cons (dv 8) (da_cons (dv 9) da_nil))) (da_cons (de_call tk F_law_take ar_law_take (hr.mono (by decide)) (by rfl) T.g_law_take kp_law_take B_law_take .nil (fun _ _ _ => .nil) (da_cons (dv 0) (da_cons de_int da_nil))) da_nil))) (da_cons (de_lst false (da_cons (de_lst false (da_cons (dv 8) (da_cons (de_lst false (da_cons (dv 2) da_nil)) da_nil))) (da_cons de_int da_nil))) (da_cons (dv 10) da_nil)))))))))) dss_nil)
  (dss_cons (ds_set (i := 10) sc_law_plan.nd rfl (Or.inl rfl) (de_lst false (da_cons (de_lst false (da_cons (de_call tk F_law_take ar_law_take (hr.mono (by decide)) (by rfl) T.g_law_take kp_law_take B_law_take .nil (fun _ _ _ => .nil) (da_cons (dv 0) (da_cons de_int da_nil))) (da_cons (de_call tk F_law_take ar_law_take (hr.mono (by decide)) (by rfl) T.g_law_take kp_law_take B_law_take .nil (fun _ _ _ => .nil) (da_cons (dv 0) (da_cons de_int da_nil))) da_nil))) (da_cons (de_lst false (da_cons (de_call tk F_law_take ar_law_take (hr.mono (by decide)) (by rfl) T.g_law_take kp_law_take B_law_take .nil (fun _ _ _ => .nil) (da_cons (dv 0) (da_cons de_int da_nil))) (da_cons (de_call tk F_law_take ar_law_take (hr.mono (by decide)) (by rfl) T.g_law_take kp_law_take B_law_take .nil (fun _ _ _ => .nil) (da_cons (dv 0) (da_cons de_int da_nil))) da_nil))) da_nil))))
  (dss_cons (ds_setLc (i := 11) (own := [("_law_k", 12)]) false rfl rfl sc_law_plan.nd rfl rfl (sw_true rfl rfl rfl (by decide +kernel)) (di_rng1 (by rfl) T.n_range de_int) (blkOk_by (own := [("_law_k", 12)]) rfl) (by decide) (fun _ _ _ _ _ => (tg_nm (i := 12) sc_law_plan.nd rfl (by first | exact Or.inl rfl | exact Or.inr rfl))) (fun _ _ _ _ _ => dts_nil) (fun _ _ _ _ _ => (de_lst false (da_cons (de_lst false (da_cons (de_call takes0 F_law_any ar_law_any (hr.mono (by decide)) (by rfl) T.g_law_any kp_law_any B_law_any .nil (fun _ _ _ => .nil) (da_cons (dv 0) da_nil)) (da_cons (de_call takes0 F_law_any ar_law_any (hr.mono (by decide)) (by rfl) T.g_law_any kp_law_any B_law_any .nil (fun _ _ _ => .nil) (da_cons (dv 0) da_nil)) da_nil))) (da_cons (de_call takes0 F_law_take ar_law_take (hr.mono (by decide)) (by rfl) T.g_law_take kp_law_take B_law_take .nil (fun _ _ _ => .nil) (da_cons (dv 0) (da_cons de_int da_nil))) da_nil)))))
  (dss_one (ds_ret (de_tup (da_cons (de_ix ix_seq d_ix (dv 11) de_int) (da_cons (de_ix ix_seq d_ix (dv 11) de_int) (da_cons (de_ix ix_seq d_ix (dv 11) de_int) (da_cons (dv 10) da_nil))))))))))))))))
theorem sc_law_strip_ties : FnScope ["_law_plan_here", "_law_count", "_law_width", "_law_ties", "_law_cells", "_law_k", "_law_base", "_law_i", "_law_j"] ["_law_plan_here", "_law_count"] (defScope s_law_strip_ties) := ⟨rfl, rfl, rfl, by decide +kernel, rfl, by decide +kernel, by decide +kernel⟩
def b_law_strip_ties_0 : MS := (sPar [2, 3] (mCons (mAp oLen (mCons (mOp oIx (mOp oIx (mVar 0) (mC (.int 0))) (mC (.int 0))) mNil)) (mCons (mAp (oLst true) mNil) mNil)))
def b_law_strip_ties_1 : MS := (sAsg (mOp (oCat false) (mOp (oCat false) (mAp (oLst false) (mCons (mOp oIx (mVar 0) (mC (.int 0))) mNil)) (mLc false (mRng1 (mVar 1)) (Tgt.nm 5).M tYesM (mOp oIx (mVar 0) (mC (.int 1))) [5])) (mAp (oLst false) (mCons (mOp oIx (mVar 0) (mC (.int 2))) mNil))) (gN 4))
def b_law_strip_ties_2b_0 : MS := (sAsg (mOp oMul (mVar 5) (mVar 2)) (gN 6))
def b_law_strip_ties_2b_1 : MS := (sIf (mTst (mOp (oEqA false) (mVar 2) (mC (.int 2)))) (sDrop (mAppend (mVar 3) (mAp oTup (mCons (mVar 6) (mCons (mOp oAdd (mVar 6) (mC (.int 1))) (mCons (mOp oIx (mOp oIx (mVar 4) (mVar 5)) (mC (.int 1))) mNil)))))) sNext)
def b_law_strip_ties_2b_2tbb_0 : MS := (sDrop (mAppend (mVar 3) (mAp oTup (mCons (mOp oAdd (mVar 6) (mVar 7)) (mCons (mOp oAdd (mOp oAdd (mVar 6) (mVar 2)) (mVar 8)) (mCons (mOp oIx (mOp oIx (mOp oIx (mVar 0) (mC (.int 3))) (mVar 7)) (mVar 8)) mNil))))))
def b_law_strip_ties_2b_2tb_0 : MS := (sFor (mRng1 (mVar 2)) (Tgt.nm 8).M b_law_strip_ties_2b_2tbb_0)
def b_law_strip_ties_2b_2 : MS := (sIf (mTst (mOp oLt (mOp oAdd (mVar 5) (mC (.int 1))) (mAp oLen (mCons (mVar 4) mNil)))) (sFor (mRng1 (mVar 2)) (Tgt.nm 7).M b_law_strip_ties_2b_2tb_0) sNext)
def b_law_strip_ties_2 : MS := (sFor (mRng1 (mAp oLen (mCons (mVar 4) mNil))) (Tgt.nm 5).M (sSeq b_law_strip_ties_2b_0 (sSeq b_law_strip_ties_2b_1 b_law_strip_ties_2b_2)))
def b_law_strip_ties_3 : MS := (sRet (mVar 3))
def b_law_strip_ties : MS := (sSeq b_law_strip_ties_0 (sSeq b_law_strip_ties_1 (sSeq b_law_strip_ties_2 b_law_strip_ties_3)))
def m_law_strip_ties : MF := mDef 2 9 b_law_strip_ties
theorem e_law_strip_ties (x0 x1 : D) (C : Store) : m_law_strip_ties [x0, x1] C = finS C.length (b_law_strip_ties ⟨C.length, [some x0, some x1, none, none, none, none, none, none, none]⟩ C) := mDef_e rfl rfl
theorem ar_law_strip_ties : Ar 2 m_law_strip_ties := mDef_ar
theorem ok_law_strip_ties (T : Txt K mg) : ∃ fd, FnG P w K mg base 1 (a_law_strip_ties K) fd ["_law_plan_here", "_law_count"] (SpD (cn K) 2 m_law_strip_ties) ∧ Binds K fd ["_law_plan_here", "_law_count"] [] ∧ PySem.W.keepIn K (.ref (a_law_strip_ties K)) = true := by
  obtain ⟨fd, F⟩ := T.f_law_strip_ties
  refine ⟨fd, fn_ok (k := cn K) F sc_law_strip_ties (by decide) fun cdv A outer s H E hr => ?_, F.bindsN fun _ _ _ _ _ _ us hl => match us, hl with | [_, _], _ => rfl, F.kp⟩
  have tk : Takes (cxOf (L2.CX P w) P w K mg base ["_law_plan_here", "_law_count", "_law_width", "_law_ties", "_law_cells", "_law_k", "_law_base", "_law_i", "_law_j"] "_law_strip_ties" (defScope s_law_strip_ties) (a_law_strip_ties K) cdv A outer s H E) (fun c d _ H => E c d H) := takes_of rfl rfl rfl rfl
  exact (dss_cons (ds_par (i := 2) (j := 3) rfl sc_law_strip_ties.nd rfl rfl (by decide) rfl rfl (da_cons (de_callB call_len_seq d_len (by rfl) T.n_len (by decide +kernel) (da_cons (de_ix ix_seq d_ix (de_ix ix_seq d_ix (dv 0) de_int) de_int) da_nil)) (da_cons (de_lst true da_nil) da_nil)))
  (dss_cons (ds_set (i := 4) sc_law_strip_ties.nd rfl (Or.inl rfl) (de_op op_cat (d_cat false) (de_op op_cat (d_cat false) (de_lst false (da_cons (de_ix ix_seq d_ix (dv 0) de_int) da_nil)) (de_lc (own := [("_law_k", 5)]) false rfl rfl sc_law_strip_ties.nd (di_rng1 (by rfl) T.n_range (dv 1)) (blkOk_by (own := [("_law_k", 5)]) rfl) (by decide) (fun _ _ _ _ _ => (tg_nm (i := 5) sc_law_strip_ties.nd rfl (by first | exact Or.inl rfl | exact Or.inr rfl))) (fun _ _ _ _ _ => dts_nil) (fun _ _ _ _ _ => (de_ix ix_seq d_ix (dv 0) de_int)))) (de_lst false (da_cons (de_ix ix_seq d_ix (dv 0) de_int) da_nil))))
  (dss_cons (ds_for (passes_of rfl) rfl (di_rng1 (by rfl) T.n_range (de_callB call_len_seq d_len (by rfl) T.n_len (by decide +kernel) (da_cons (dv 4) da_nil))) (tg_nm (i := 5) sc_law_strip_ties.nd rfl (Or.inl rfl)) (dss_cons (ds_set (i := 6) sc_law_strip_ties.nd rfl (Or.inl rfl) (de_op op_mul d_mul (dv 5) (dv 2)))
  (dss_cons (ds_if (dt_cmp (op_eq.or (op_eqD hr.room.units)) d_eqA (dv 2) de_int (nomark _)) (dss_one (ds_expr (de_append rfl (dv 3) (de_tup (da_cons (dv 6) (da_cons (de_op op_add d_add (dv 6) de_int) (da_cons (de_ix ix_seq d_ix (de_ix ix_seq d_ix (dv 4) (dv 5)) de_int) da_nil))))))) dss_nil)
  (dss_one (ds_if (dt_cmp op_lt d_lt (de_op op_add d_add (dv 5) de_int) (de_callB call_len_seq d_len (by rfl) T.n_len (by decide +kernel) (da_cons (dv 4) da_nil)) (nomark _)) (dss_one (ds_for (passes_of rfl) rfl (di_rng1 (by rfl) T.n_range (dv 2)) (tg_nm (i := 7) sc_law_strip_ties.nd rfl (Or.inl rfl)) (dss_one (ds_for (passes_of rfl) rfl (di_rng1 (by rfl) T.n_range (dv 2)) (tg_nm (i := 8) sc_law_strip_ties.nd rfl (Or.inl rfl)) (dss_one (ds_expr (de_append rfl (dv 3) (de_tup (da_cons (de_op op_add d_add (dv 6) (dv 7)) (da_cons (de_op op_add d_add (de_op op_add d_add (dv 6) (dv 2)) (dv 8)) (da_cons (de_ix ix_seq d_ix (de_ix ix_seq d_ix (de_ix ix_seq d_ix (dv 0) de_int) (dv 7)) (dv 8)) da_nil))))))))))) dss_nil)))))
  (dss_one (ds_ret (dv 3))))))
theorem sc_law_strip_lists : FnScope ["_law_plan_here", "_law_count", "_law_found", "_law_cell_here", "_law_k"] ["_law_plan_here", "_law_count"] (defScope s_law_strip_lists) := ⟨rfl, rfl, rfl, by decide +kernel, rfl, by decide +kernel, by decide +kernel⟩
def b_law_strip_lists_0 : MS := (sAsg (mAp (oLst false) mNil) (gN 2))
def b_law_strip_lists_1b_0 : MS := (sAsg (mOp (oCat false) (mVar 2) (mOp oIx (mVar 3) (mC (.int 0)))) (gN 2))
def b_law_strip_lists_1 : MS := (sFor (mSeq (mOp (oCat false) (mOp (oCat false) (mAp (oLst false) (mCons (mOp oIx (mVar 0) (mC (.int 0))) mNil)) (mLc false (mRng1 (mVar 1)) (Tgt.nm 4).M tYesM (mOp oIx (mVar 0) (mC (.int 1))) [4])) (mAp (oLst false) (mCons (mOp oIx (mVar 0) (mC (.int 2))) mNil)))) (Tgt.nm 3).M b_law_strip_lists_1b_0)
def b_law_strip_lists_2 : MS := (sRet (mVar 2))
def b_law_strip_lists : MS := (sSeq b_law_strip_lists_0 (sSeq b_law_strip_lists_1 b_law_strip_lists_2))
def m_law_strip_lists : MF := mDef 2 5 b_law_strip_lists
theorem e_law_strip_lists (x0 x1 : D) (C : Store) : m_law_strip_lists [x0, x1] C = finS C.length (b_law_strip_lists ⟨C.length, [some x0, some x1, none, none, none]⟩ C) := mDef_e rfl rfl
theorem ar_law_strip_lists : Ar 2 m_law_strip_lists := mDef_ar
theorem ok_law_strip_lists (T : Txt K mg) : ∃ fd, FnG P w K mg base 1 (a_law_strip_lists K) fd ["_law_plan_here", "_law_count"] (SpD (cn K) 2 m_law_strip_lists) ∧ Binds K fd ["_law_plan_here", "_law_count"] [] ∧ PySem.W.keepIn K (.ref (a_law_strip_lists K)) = true := by
  obtain ⟨fd, F⟩ := T.f_law_strip_lists
  refine ⟨fd, fn_ok (k := cn K) F sc_law_strip_lists (by decide) fun cdv A outer s H E hr => ?_, F.bindsN fun _ _ _ _ _ _ us hl => match us, hl with | [_, _], _ => rfl, F.kp⟩
  have tk : Takes (cxOf (L2.CX P w) P w K mg base ["_law_plan_here", "_law_count", "_law_found", "_law_cell_here", "_law_k"] "_law_strip_lists" (defScope s_law_strip_lists) (a_law_strip_lists K) cdv A outer s H E) (fun c d _ H => E c d H) := takes_of rfl rfl rfl rfl
  exact (dss_cons (ds_set (i := 2) sc_law_strip_lists.nd rfl (Or.inl rfl) (de_lst false da_nil))
  (dss_cons (ds_for (passes_of rfl) rfl (di_seq rfl (de_op op_cat (d_cat false) (de_op op_cat (d_cat false) (de_lst false (da_cons (de_ix ix_seq d_ix (dv 0) de_int) da_nil)) (de_lc (own := [("_law_k", 4)]) false rfl rfl sc_law_strip_lists.nd (di_rng1 (by rfl) T.n_range (dv 1)) (blkOk_by (own := [("_law_k", 4)]) rfl) (by decide) (fun _ _ _ _ _ => (tg_nm (i := 4) sc_law_strip_lists.nd rfl (by first | exact Or.inl rfl | exact Or.inr rfl))) (fun _ _ _ _ _ => dts_nil) (fun _ _ _ _ _ => (de_ix ix_seq d_ix (dv 0) de_int)))) (de_lst false (da_cons (de_ix ix_seq d_ix (dv 0) de_int) da_nil)))) (tg_nm (i := 3) sc_law_strip_lists.nd rfl (Or.inl rfl)) (dss_one (ds_set (i := 2) sc_law_strip_lists.nd rfl (Or.inl rfl) (de_op op_cat (d_cat false) (dv 2) (de_ix ix_seq d_ix (dv 3) de_int)))))
  (dss_one (ds_ret (dv 2)))))
theorem sc_law_web : FnScope ["_law_strip_here", "_law_count", "e"] ["_law_strip_here", "_law_count"] (defScope s_law_web) := ⟨rfl, rfl, rfl, by decide +kernel, rfl, by decide +kernel, by decide +kernel⟩
def b_law_webt_ : MS := (sRet (mAp oTup (mCons (mC (.str "told")) (mCons (mMeth 4 m_Strip_web_of [] (mVar 0) (mCons (mVar 1) mNil)) mNil))))
def b_law_webx_ : MS := (sRet (mAp oTup (mCons (mC (.str "many")) (mCons (mUn (oXf 2 0) (mVar 2)) mNil))))
def b_law_web : MS := (sTry 2 [2] [] b_law_webt_ b_law_webx_)
def m_law_web : MF := mDef 2 3 b_law_web
theorem e_law_web (x0 x1 : D) (C : Store) : m_law_web [x0, x1] C = finS C.length (b_law_web ⟨C.length, [some x0, some x1, none]⟩ C) := mDef_e rfl rfl
theorem ar_law_web : Ar 2 m_law_web := mDef_ar
theorem ok_law_web (T : Txt K mg) : ∃ fd, FnG P w K mg base 7 (a_law_web K) fd ["_law_strip_here", "_law_count"] (SpD (cn K) 2 m_law_web) ∧ Binds K fd ["_law_strip_here", "_law_count"] [] ∧ PySem.W.keepIn K (.ref (a_law_web K)) = true := by
  obtain ⟨fd_Strip_web_of, F_Strip_web_of, B_Strip_web_of, kp_Strip_web_of⟩ := ok_Strip_web_of (P := P) (w := w) (base := base) T
  obtain ⟨fd, F⟩ := T.f_law_web
  refine ⟨fd, fn_ok (k := cn K) F sc_law_web (by decide) fun cdv A outer s H E hr => ?_, F.bindsN fun _ _ _ _ _ _ us hl => match us, hl with | [_, _], _ => rfl, F.kp⟩
  have tk : Takes (cxOf (L2.CX P w) P w K mg base ["_law_strip_here", "_law_count", "e"] "_law_web" (defScope s_law_web) (a_law_web K) cdv A outer s H E) (fun c d _ H => E c d H) := takes_of rfl rfl rfl rfl
  exact (dss_one (ds_try (i := 2) (cs := [2]) (ds := []) rfl rfl sc_law_web.nd rfl rfl ⟨by rfl, by decide, .inl T.g_TooMany⟩ tk rfl rfl T.exm_TooMany.yes T.exm_TooMany.no
  (fun W pn xe tk1 po1 => (dss_one (ds_ret (de_tup (da_cons de_str (da_cons (de_meth 4 tk1 rfl (dv 0) T.cl_Strip T.me_Strip_web_of F_Strip_web_of ar_Strip_web_of nm_Strip_web_of (hr.mono (by decide)) B_Strip_web_of .nil (fun _ _ _ => .nil) (da_cons (dv 1) da_nil)) da_nil))))))
  (fun a oe c dd pn hcc hz hv => (dss_one (ds_ret (de_tup (da_cons de_str (da_cons (de_xf 2 0 rfl (T.xs.exc 2 (by decide)).xf T.nox_TooMany_limit nd_TooMany rfl hz hv (dv 2)) da_nil))))))))
theorem sc_law_turned : FnScope ["_law_plan_here", "_law_width", "_law_j", "_law_i"] ["_law_plan_here"] (defScope s_law_turned) := ⟨rfl, rfl, rfl, by decide +kernel, rfl, by decide +kernel, by decide +kernel⟩
def b_law_turned_0 : MS := (sAsg (mAp oLen (mCons (mOp oIx (mVar 0) (mC (.int 3))) mNil)) (gN 1))
def b_law_turned_1 : MS := (sRet (mAp oTup (mCons (mOp oIx (mVar 0) (mC (.int 2))) (mCons (mOp oIx (mVar 0) (mC (.int 1))) (mCons (mOp oIx (mVar 0) (mC (.int 0))) (mCons (mLc false (mRng1 (mVar 1)) (Tgt.nm 2).M tYesM (mLc false (mRng1 (mVar 1)) (Tgt.nm 3).M tYesM (mOp oIx (mOp oIx (mOp oIx (mVar 0) (mC (.int 3))) (mVar 3)) (mVar 2)) [3]) [2]) mNil))))))
def b_law_turned : MS := (sSeq b_law_turned_0 b_law_turned_1)
def m_law_turned : MF := mDef 1 4 b_law_turned
theorem e_law_turned (x0 : D) (C : Store) : m_law_turned [x0] C = finS C.length (b_law_turned ⟨C.length, [some x0, none, none, none]⟩ C) := mDef_e rfl rfl
theorem ar_law_turned : Ar 1 m_law_turned := mDef_ar
theorem ok_law_turned (T : Txt K mg) : ∃ fd, FnG P w K mg base 1 (a_law_turned K) fd ["_law_plan_here"] (SpD (cn K) 1 m_law_turned) ∧ Binds K fd ["_law_plan_here"] [] ∧ PySem.W.keepIn K (.ref (a_law_turned K)) = true := by
  obtain ⟨fd, F⟩ := T.f_law_turned
  refine ⟨fd, fn_ok (k := cn K) F sc_law_turned (by decide) fun cdv A outer s H E hr => ?_, F.bindsN fun _ _ _ _ _ _ us hl => match us, hl with | [_], _ => rfl, F.kp⟩
  have tk : Takes (cxOf (L2.CX P w) P w K mg base ["_law_plan_here", "_law_width", "_law_j", "_law_i"] "_law_turned" (defScope s_law_turned) (a_law_turned K) cdv A outer s H E) (fun c d _ H => E c d H) := takes_of rfl rfl rfl rfl
  exact (dss_cons (ds_set (i := 1) sc_law_turned.nd rfl (Or.inr rfl) (de_callB call_len_seq d_len (by rfl) T.n_len (by decide +kernel) (da_cons (de_ix ix_seq d_ix (dv 0) de_int) da_nil)))
  (dss_one (ds_ret (de_tup (da_cons (de_ix ix_seq d_ix (dv 0) de_int) (da_cons (de_ix ix_seq d_ix (dv 0) de_int) (da_cons (de_ix ix_seq d_ix (dv 0) de_int) (da_cons (de_lc (own := [("_law_j", 2)]) false rfl rfl sc_law_turned.nd (di_rng1 (by rfl) T.n_range (dv 1)) (blkOk_by (own := [("_law_j", 2)]) rfl) (by decide) (fun _ _ _ _ _ => (tg_nm (i := 2) sc_law_turned.nd rfl (by first | exact Or.inl rfl | exact Or.inr rfl))) (fun _ _ _ _ _ => dts_nil) (fun _ _ _ _ _ => (de_lc (own := [("_law_i", 3)]) false rfl rfl sc_law_turned.nd (di_rng1 (by rfl) T.n_range (dv 1)) (blkOk_by (own := [("_law_i", 3)]) rfl) (by decide) (fun _ _ _ _ _ => (tg_nm (i := 3) sc_law_turned.nd rfl (by first | exact Or.inl rfl | exact Or.inr rfl))) (fun _ _ _ _ _ => dts_nil) (fun _ _ _ _ _ => (de_ix ix_seq d_ix (de_ix ix_seq d_ix (de_ix ix_seq d_ix (dv 0) de_int) (dv 3)) (dv 2)))))) da_nil))))))))
theorem sc_law_ties_of : FnScope ["_law_size", "_law_ties", "_law_sums", "_law_u", "_law_v", "_law_amount"] ["_law_size", "_law_ties"] (defScope s_law_ties_of) := ⟨rfl, rfl, rfl, by decide +kernel, rfl, by decide +kernel, by decide +kernel⟩
def b_law_ties_of_0 : MS := (sAsg (mDNew true) (gN 2))
def b_law_ties_of_1b_0 : MS := (sPut (mOp oAdd (mDGet (mVar 2) (mAp oTup (mCons (mVar 3) (mCons (mVar 4) mNil))) (mC (.int 0))) (mVar 5)) (mVar 2) (mAp oTup (mCons (mVar 3) (mCons (mVar 4) mNil))))
def b_law_ties_of_1 : MS := (sFor (mSeq (mVar 1)) (Tgt.tp [3, 4, 5]).M b_law_ties_of_1b_0)
def b_law_ties_of_2 : MS := (sRet (mLc false (mSeq (mAp (oSortQ false) (mCons (mAp (oListOfD false) (mCons (mVar 2) mNil)) mNil))) (Tgt.tp [3, 4]).M (mTst (mOp oGt (mOp oDIx (mVar 2) (mAp oTup (mCons (mVar 3) (mCons (mVar 4) mNil)))) (mC (.int 0)))) (mAp oTup (mCons (mVar 3) (mCons (mVar 4) (mCons (mOp oDIx (mVar 2) (mAp oTup (mCons (mVar 3) (mCons (mVar 4) mNil)))) mNil)))) [3, 4]))
def b_law_ties_of : MS := (sSeq b_law_ties_of_0 (sSeq b_law_ties_of_1 b_law_ties_of_2))
def m_law_ties_of : MF := mDef 2 6 b_law_ties_of
theorem e_law_ties_of (x0 x1 : D) (C : Store) : m_law_ties_of [x0, x1] C = finS C.length (b_law_ties_of ⟨C.length, [some x0, some x1, none, none, none, none]⟩ C) := mDef_e rfl rfl
theorem ar_law_ties_of : Ar 2 m_law_ties_of := mDef_ar
theorem ok_law_ties_of (T : Txt K mg) : ∃ fd, FnG P w K mg base 1 (a_law_ties_of K) fd ["_law_size", "_law_ties"] (SpD (cn K) 2 m_law_ties_of) ∧ Binds K fd ["_law_size", "_law_ties"] [] ∧ PySem.W.keepIn K (.ref (a_law_ties_of K)) = true := by
  obtain ⟨fd, F⟩ := T.f_law_ties_of
  refine ⟨fd, fn_ok (k := cn K) F sc_law_ties_of (by decide) fun cdv A outer s H E hr => ?_, F.bindsN fun _ _ _ _ _ _ us hl => match us, hl with | [_, _], _ => rfl, F.kp⟩
  have tk : Takes (cxOf (L2.CX P w) P w K mg base ["_law_size", "_law_ties", "_law_sums", "_law_u", "_law_v", "_law_amount"] "_law_ties_of" (defScope s_law_ties_of) (a_law_ties_of K) cdv A outer s H E) (fun c d _ H => E c d H) := takes_of rfl rfl rfl rfl
  exact (dss_cons (ds_set (i := 2) sc_law_ties_of.nd rfl (Or.inr rfl) (de_dnew true))
  (dss_cons (ds_for (passes_of rfl) rfl (di_seq rfl (dv 1)) (tg_tp [3, 4, 5] rfl rfl (pgs_cons (pg_name (i := 3) sc_law_ties_of.nd rfl (Or.inl rfl)) (pgs_cons (pg_name (i := 4) sc_law_ties_of.nd rfl (Or.inl rfl)) (pgs_cons (pg_name (i := 5) sc_law_ties_of.nd rfl (Or.inl rfl)) pgs_nil)))) (dss_one (ds_put (hu_of hr.room) (de_op op_add d_add (de_dget (hu_of hr.room) (dv 2) (de_tup (da_cons (dv 3) (da_cons (dv 4) da_nil))) de_int) (dv 5)) (dv 2) (de_tup (da_cons (dv 3) (da_cons (dv 4) da_nil))))))
  (dss_one (ds_ret (de_lc (own := [("_law_u", 3), ("_law_v", 4)]) false rfl rfl sc_law_ties_of.nd (di_seq rfl (de_callB ((cr_sortA hr.u200).or (cr_sortP hr.u200)) d_sortQ (by rfl) T.n_sorted (by decide +kernel) (da_cons (de_callTy (call_list_dT rfl) (d_listOfD false) (by rfl) T.n_list (by decide +kernel) (da_cons (dv 2) da_nil)) da_nil))) (blkOk_by (own := [("_law_u", 3), ("_law_v", 4)]) rfl) (by decide) (fun _ _ _ _ _ => (tg_tp [3, 4] rfl rfl (pgs_cons (pg_name (i := 3) sc_law_ties_of.nd rfl (by first | exact Or.inl rfl | exact Or.inr rfl)) (pgs_cons (pg_name (i := 4) sc_law_ties_of.nd rfl (by first | exact Or.inl rfl | exact Or.inr rfl)) pgs_nil)))) (fun _ _ _ _ _ => (pts_one (dt_cmp op_gt d_gt (de_dix (hu_of hr.room) (dv 2) (de_tup (da_cons (dv 3) (da_cons (dv 4) da_nil)))) de_int (nomark _)))) (fun _ _ _ _ _ => (de_tup (da_cons (dv 3) (da_cons (dv 4) (da_cons (de_dix (hu_of hr.room) (dv 2) (de_tup (da_cons (dv 3) (da_cons (dv 4) da_nil)))) da_nil))))))))))
theorem sc_law_is_laid : FnScope ["_law_strip_here", "_law_plan_here", "_law_count", "_law_width", "_law_size", "_law_found", "_law_wants", "_law_due", "_law_xs", "_law_x"] ["_law_strip_here", "_law_plan_here", "_law_count"] (defScope s_law_is_laid) := ⟨rfl, rfl, rfl, by decide +kernel, rfl, by decide +kernel, by decide +kernel⟩
def b_law_is_laid_0 : MS := (sAsg (mAp oLen (mCons (mOp oIx (mOp oIx (mVar 1) (mC (.int 0))) (mC (.int 0))) mNil)) (gN 3))
def b_law_is_laid_1 : MS := (sAsg (mOp oMul (mOp oAdd (mVar 2) (mC (.int 2))) (mVar 3)) (gN 4))
def b_law_is_laid_2 : MS := (sAsg (mCall m_law_web [] (mCons (mVar 0) (mCons (mVar 2) mNil))) (gN 5))
def b_law_is_laid_3 : MS := (sIf (mTst (mOp oGt (mVar 4) (mC (.int 60)))) (sIf (mTst (mOp (oEqA true) (mVar 5) (mAp oTup (mCons (mC (.str "many")) (mCons (mC (.int 60)) mNil))))) (sRet (mC (.bl false))) sNext) (sIf (tOrM (mTst (mOp (oEqA true) (mOp oIx (mVar 5) (mC (.int 0))) (mC (.str "told")))) (tOrM (tNotM (mTst (mIsi [0, 1, 3, 4] (.own 0) (mOp oIx (mVar 5) (mC (.int 1)))))) (mTst (mOp (oEqA true) (mUn (oFld 0 0) (mOp oIx (mVar 5) (mC (.int 1)))) (mVar 4))))) (sRet (mC (.bl false))) (sIf (mTst (mOp (oEqA true) (mAp (oListOf false) (mCons (mUn (oFld 0 2) (mOp oIx (mVar 5) (mC (.int 1)))) mNil)) (mCall m_law_ties_of [] (mCons (mVar 4) (mCons (mCall m_law_strip_ties [] (mCons (mVar 1) (mCons (mVar 2) mNil))) mNil))))) (sRet (mC (.bl false))) sNext)))
def b_law_is_laid_4 : MS := (sAsg (mMeth 4 m_Strip_wants_of [] (mVar 0) (mCons (mVar 2) mNil)) (gN 6))
def b_law_is_laid_5 : MS := (sIf (tOrM (tNotM (mTst (mIsi [0, 1, 3, 4] (.ty .tuple) (mVar 6)))) (mTst (mOp (oEqA true) (mAp oLen (mCons (mVar 6) mNil)) (mVar 4)))) (sRet (mC (.bl false))) sNext)
def b_law_is_laid_6 : MS := (sAsg (mLc false (mSeq (mCall m_law_strip_lists [] (mCons (mVar 1) (mCons (mVar 2) mNil)))) (Tgt.nm 8).M tYesM (mCall m_law_want [] (mCons (mVar 8) mNil)) [8]) (gN 7))
def b_law_is_laid_7 : MS := (sRet (mOp (oEqA false) (mLc false (mSeq (mVar 6)) (Tgt.nm 9).M tYesM (mAp oTup (mCons (mProp 1 m_Want_evens (mVar 9)) (mCons (mProp 1 m_Want_odds (mVar 9)) mNil))) [9]) (mLc false (mSeq (mVar 7)) (Tgt.nm 9).M tYesM (mAp oTup (mCons (mProp 1 m_Want_evens (mVar 9)) (mCons (mProp 1 m_Want_odds (mVar 9)) mNil))) [9])))
def b_law_is_laid : MS := (sSeq b_law_is_laid_0 (sSeq b_law_is_laid_1 (sSeq b_law_is_laid_2 (sSeq b_law_is_laid_3 (sSeq b_law_is_laid_4 (sSeq b_law_is_laid_5 (sSeq b_law_is_laid_6 b_law_is_laid_7)))))))
def m_law_is_laid : MF := mDef 3 10 b_law_is_laid
theorem e_law_is_laid (x0 x1 x2 : D) (C : Store) : m_law_is_laid [x0, x1, x2] C = finS C.length (b_law_is_laid ⟨C.length, [some x0, some x1, some x2, none, none, none, none, none, none, none]⟩ C) := mDef_e rfl rfl
theorem ar_law_is_laid : Ar 3 m_law_is_laid := mDef_ar
theorem ok_law_is_laid (T : Txt K mg) : ∃ fd, FnG P w K mg base 8 (a_law_is_laid K) fd ["_law_strip_here", "_law_plan_here", "_law_count"] (SpD (cn K) 3 m_law_is_laid) ∧ Binds K fd ["_law_strip_here", "_law_plan_here", "_law_count"] [] ∧ PySem.W.keepIn K (.ref (a_law_is_laid K)) = true := by
  obtain ⟨fd_law_web, F_law_web, B_law_web, kp_law_web⟩ := ok_law_web (P := P) (w := w) (base := base) T
  obtain ⟨fd_law_ties_of, F_law_ties_of, B_law_ties_of, kp_law_ties_of⟩ := ok_law_ties_of (P := P) (w := w) (base := base) T
  obtain ⟨fd_law_strip_ties, F_law_strip_ties, B_law_strip_ties, kp_law_strip_ties⟩ := ok_law_strip_ties (P := P) (w := w) (base := base) T
  obtain ⟨fd_Strip_wants_of, F_Strip_wants_of, B_Strip_wants_of, kp_Strip_wants_of⟩ := ok_Strip_wants_of (P := P) (w := w) (base := base) T
  obtain ⟨fd_law_strip_lists, F_law_strip_lists, B_law_strip_lists, kp_law_strip_lists⟩ := ok_law_strip_lists (P := P) (w := w) (base := base) T
  obtain ⟨fd_law_want, F_law_want, B_law_want, kp_law_want⟩ := ok_law_want (P := P) (w := w) (base := base) T
  obtain ⟨fd_Want_odds, F_Want_odds, B_Want_odds, kp_Want_odds⟩ := ok_Want_odds (P := P) (w := w) (base := base) T
  obtain ⟨fd_Want_evens, F_Want_evens, B_Want_evens, kp_Want_evens⟩ := ok_Want_evens (P := P) (w := w) (base := base) T
  obtain ⟨fd, F⟩ := T.f_law_is_laid
  refine ⟨fd, fn_ok (k := cn K) F sc_law_is_laid (by decide) fun cdv A outer s H E hr => ?_, F.bindsN fun _ _ _ _ _ _ us hl => match us, hl with | [_, _, _], _ => rfl, F.kp⟩
  have tk : Takes (cxOf (L2.CX P w) P w K mg base ["_law_strip_here", "_law_plan_here", "_law_count", "_law_width", "_law_size", "_law_found", "_law_wants", "_law_due", "_law_xs", "_law_x"] "_law_is_laid" (defScope s_law_is_laid) (a_law_is_laid K) cdv A outer s H E) (fun c d _ H => E c d H) := takes_of rfl rfl rfl rfl
  exact (dss_cons (ds_set (i := 3) sc_law_is_laid.nd rfl (Or.inl rfl) (de_callB call_len_seq d_len (by rfl) T.n_len (by decide +kernel) (da_cons (de_ix ix_seq d_ix (de_ix ix_seq d_ix (dv 1) de_int) de_int) da_nil)))
  (dss_cons (ds_set (i := 4) sc_law_is_laid.nd rfl (Or.inl rfl) (de_op op_mul d_mul (de_op op_add d_add (dv 2) de_int) (dv 3)))
  (dss_cons (ds_set (i := 5) sc_law_is_laid.nd rfl (Or.inl rfl) (de_call tk F_law_web ar_law_web (hr.mono (by decide)) (by rfl) T.g_law_web kp_law_web B_law_web .nil (fun _ _ _ => .nil) (da_cons (dv 0) (da_cons (dv 2) da_nil))))
  (dss_cons (ds_if (dt_cmp op_gt d_gt (dv 4) de_int (nomark _)) (dss_one (ds_if (dt_cmp (op_ne.or (op_neD hr.room.units)) d_neA (dv 5) (de_tup (da_cons de_str (da_cons de_int da_nil))) (nomark _)) (dss_one (ds_ret de_bl)) dss_nil)) (dss_one (ds_if (PW.pt (dw_or (dt_cmp (op_ne.or (op_neD hr.room.units)) d_neA (de_ix ix_seq d_ix (dv 5) de_int) de_str (nomark _)) (dw_or (dt_not (dt_val (de_isi (by rfl) T.n_isinstance T.isa rfl rfl (de_ix ix_seq d_ix (dv 5) de_int) (pe_glob (by rfl) T.g_Web rfl)))) (dw_or1 (dt_cmp (op_ne.or (op_neD hr.room.units)) d_neA (de_fld 0 0 rfl T.cl_Web T.no_Web_size nd_Web rfl (de_ix ix_seq d_ix (dv 5) de_int)) (dv 4) (nomark _)))))) (dss_one (ds_ret de_bl)) (dss_one (ds_if (dt_cmp (op_ne.or (op_neD hr.room.units)) d_neA (de_callTy call_list_of (d_listOf false) (by rfl) T.n_list (by decide +kernel) (da_cons (de_fld 0 2 rfl T.cl_Web T.no_Web_ties nd_Web rfl (de_ix ix_seq d_ix (dv 5) de_int)) da_nil)) (de_call tk F_law_ties_of ar_law_ties_of (hr.mono (by decide)) (by rfl) T.g_law_ties_of kp_law_ties_of B_law_ties_of .nil (fun _ _ _ => .nil) (da_cons (dv 4) (da_cons (de_call tk F_law_strip_ties ar_law_strip_ties (hr.mono (by decide)) (by rfl) T.g_law_strip_ties kp_law_strip_ties B_law_strip_ties .nil (fun _ _ _ => .nil) (da_cons (dv 1) (da_cons (dv 2) da_nil))) da_nil))) (nomark _)) (dss_one (ds_ret de_bl)) dss_nil)))))
  (dss_cons (ds_set (i := 6) sc_law_is_laid.nd rfl (Or.inl rfl) (de_meth 4 tk rfl (dv 0) T.cl_Strip T.me_Strip_wants_of F_Strip_wants_of ar_Strip_wants_of nm_Strip_wants_of (hr.mono (by decide)) B_Strip_wants_of .nil (fun _ _ _ => .nil) (da_cons (dv 2) da_nil)))
  (dss_cons (ds_if (PW.pt (dw_or (dt_not (dt_val (de_isi (by rfl) T.n_isinstance T.isa rfl rfl (dv 6) (pe_bltn (v := .ty "tuple") (by rfl) T.n_tuple (by decide +kernel) rfl)))) (dw_or1 (dt_cmp (op_ne.or (op_neD hr.room.units)) d_neA (de_callB call_len_seq d_len (by rfl) T.n_len (by decide +kernel) (da_cons (dv 6) da_nil)) (dv 4) (nomark _))))) (dss_one (ds_ret de_bl)) dss_nil)
  (dss_cons (ds_setLc (i := 7) (own := [("_law_xs", 8)]) false rfl rfl sc_law_is_laid.nd rfl rfl (sw_true rfl rfl rfl (by decide +kernel)) (di_seq rfl (de_call tk F_law_strip_lists ar_law_strip_lists (hr.mono (by decide)) (by rfl) T.g_law_strip_lists kp_law_strip_lists B_law_strip_lists .nil (fun _ _ _ => .nil) (da_cons (dv 1) (da_cons (dv 2) da_nil)))) (blkOk_by (own := [("_law_xs", 8)]) rfl) (by decide) (fun _ _ _ _ _ => (tg_nm (i := 8) sc_law_is_laid.nd rfl (by first | exact Or.inl rfl | exact Or.inr rfl))) (fun _ _ _ _ _ => dts_nil) (fun _ _ _ _ _ => (de_call takes0 F_law_want ar_law_want (hr.mono (by decide)) (by rfl) T.g_law_want kp_law_want B_law_want .nil (fun _ _ _ => .nil) (da_cons (dv 8) da_nil))))
  (dss_one (ds_ret (de_cmp (op_eq.or (op_eqD hr.room.units)) d_eqA (de_lc (own := [("_law_x", 9)]) false rfl rfl sc_law_is_laid.nd (di_seq rfl (dv 6)) (blkOk_by (own := [("_law_x", 9)]) rfl) (by decide) (fun _ _ _ _ _ => (tg_nm (i := 9) sc_law_is_laid.nd rfl (by first | exact Or.inl rfl | exact Or.inr rfl))) (fun _ _ _ _ _ => dts_nil) (fun _ _ _ _ _ => (de_tup (da_cons (de_prop 1 rfl (dv 9) T.cl_Want T.pr_evens F_Want_evens ar_Want_evens (hr.mono (by decide)) B_Want_evens) (da_cons (de_prop 1 rfl (dv 9) T.cl_Want T.pr_odds F_Want_odds ar_Want_odds (hr.mono (by decide)) B_Want_odds) da_nil))))) (de_lc (own := [("_law_x", 9)]) false rfl rfl sc_law_is_laid.nd (di_seq rfl (dv 7)) (blkOk_by (own := [("_law_x", 9)]) rfl) (by decide) (fun _ _ _ _ _ => (tg_nm (i := 9) sc_law_is_laid.nd rfl (by first | exact Or.inl rfl | exact Or.inr rfl))) (fun _ _ _ _ _ => dts_nil) (fun _ _ _ _ _ => (de_tup (da_cons (de_prop 1 rfl (dv 9) T.cl_Want T.pr_evens F_Want_evens ar_Want_evens (hr.mono (by decide)) B_Want_evens) (da_cons (de_prop 1 rfl (dv 9) T.cl_Want T.pr_odds F_Want_odds ar_Want_odds (hr.mono (by decide)) B_Want_odds) da_nil))))) (nomark _)))))))))))
theorem sc_law : FnScope ["_law_script", "_law_bag_here", "_law_k", "_law_plan_here", "_law_strip_here", "_law_width", "_law_counts", "_law_count", "_law_other", "_law_flipped"] ["_law_script"] (defScope s_law) := ⟨rfl, rfl, rfl, by decide +kernel, rfl, by decide +kernel, by decide +kernel⟩
def b_law_0 : MS := (sAsg (mCall m_law_bag [] (mCons (mVar 0) mNil)) (gN 1))
def b_law_1b_0 : MS := (sAsg (mCall m_law_plan [] (mCons (mVar 1) mNil)) (gN 3))
def b_law_1b_1 : MS := (sPar [4, 5] (mCons (mCall m_law_strip [] (mCons (mVar 3) mNil)) (mCons (mAp oLen (mCons (mOp oIx (mOp oIx (mVar 3) (mC (.int 0))) (mC (.int 0))) mNil)) mNil)))
def b_law_1b_2 : MS := (sAsg (mAp (oLst false) (mCons (mC (.int 0)) (mCons (mC (.int 1)) (mCons (mC (.int 2)) (mCons (mCall m_law_take [] (mCons (mVar 1) (mCons (mC (.int 59)) mNil))) (mCons (mOp oSub (mOp oDiv (mC (.int 60)) (mVar 5)) (mC (.int 2))) (mCons (mOp oSub (mOp oDiv (mC (.int 60)) (mVar 5)) (mC (.int 1))) mNil))))))) (gN 6))
def b_law_1b_3b_0 : MS := (sIf (tOrM (tNotM (mTst (mCall m_law_is_laid [] (mCons (mVar 4) (mCons (mVar 3) (mCons (mVar 7) mNil)))))) (tNotM (mTst (mCall m_law_is_laid [] (mCons (mVar 4) (mCons (mVar 3) (mCons (mVar 7) mNil))))))) (sRet (mC (.bl false))) sNext)
def b_law_1b_3 : MS := (sFor (mSeq (mVar 6)) (Tgt.nm 7).M b_law_1b_3b_0)
def b_law_1b_4 : MS := (sIf (tOrM (mTst (mOp (oEqA true) (mCall m_law_web [] (mCons (mVar 4) (mCons (mC (.int 1000000)) mNil))) (mAp oTup (mCons (mC (.str "many")) (mCons (mC (.int 60)) mNil))))) (mTst (mOp (oEqA true) (mCall m_law_web [] (mCons (mVar 4) (mCons (mC (.int 1000000000)) mNil))) (mAp oTup (mCons (mC (.str "many")) (mCons (mC (.int 60)) mNil)))))) (sRet (mC (.bl false))) sNext)
def b_law_1b_5 : MS := (sPar [8, 9] (mCons (mMeth 4 m_Strip_mirrored [] (mVar 4) mNil) (mCons (mCall m_law_turned [] (mCons (mVar 3) mNil)) mNil)))
def b_law_1b_6 : MS := (sIf (tOrM (tNotM (mTst (mIsi [0, 1, 3, 4] (.own 4) (mVar 8)))) (tOrM (mTst (mOp (oEqA true) (mUn (oFld 4 4) (mVar 8)) (mVar 5))) (mTst (mOp (oIsB true) (mEqO false 4 m_Strip__eq (mVar 8) (mCall m_law_strip [] (mCons (mVar 9) mNil))) (mC (.bl true)))))) (sRet (mC (.bl false))) sNext)
def b_law_1b_7b_0 : MS := (sIf (tNotM (mTst (mCall m_law_is_laid [] (mCons (mVar 8) (mCons (mVar 9) (mCons (mVar 7) mNil)))))) (sRet (mC (.bl false))) sNext)
def b_law_1b_7 : MS := (sFor (mSeq (mAp oTup (mCons (mC (.int 0)) (mCons (mC (.int 1)) (mCons (mC (.int 3)) mNil))))) (Tgt.nm 7).M b_law_1b_7b_0)
def b_law_1b_8 : MS := (sIf (tOrM (mTst (mOp (oIsB true) (mEqO false 4 m_Strip__eq (mMeth 4 m_Strip_mirrored [] (mVar 8) mNil) (mVar 4)) (mC (.bl true)))) (tNotM (mTst (mCall m_law_is_laid [] (mCons (mVar 4) (mCons (mVar 3) (mCons (mC (.int 3)) mNil))))))) (sRet (mC (.bl false))) sNext)
def b_law_1 : MS := (sFor (mRng1 (mC (.int 2))) (Tgt.nm 2).M (sSeq b_law_1b_0 (sSeq b_law_1b_1 (sSeq b_law_1b_2 (sSeq b_law_1b_3 (sSeq b_law_1b_4 (sSeq b_law_1b_5 (sSeq b_law_1b_6 (sSeq b_law_1b_7 b_law_1b_8)))))))))
def b_law_2 : MS := (sRet (mC (.bl true)))
def b_law : MS := (sSeq b_law_0 (sSeq b_law_1 b_law_2))
def m_law : MF := mDef 1 10 b_law
theorem e_law (x0 : D) (C : Store) : m_law [x0] C = finS C.length (b_law ⟨C.length, [some x0, none, none, none, none, none, none, none, none, none]⟩ C) := mDef_e rfl rfl
theorem ok_law (T : Txt K mg) : ∃ fd, FnG P w K mg base 10 (a_law K) fd ["_law_script"] (SpD (cn K) 1 m_law) ∧ Binds K fd ["_law_script"] [] ∧ PySem.W.keepIn K (.ref (a_law K)) = true := by
  obtain ⟨fd_law_bag, F_law_bag, B_law_bag, kp_law_bag⟩ := ok_law_bag (P := P) (w := w) (base := base) T
  obtain ⟨fd_law_plan, F_law_plan, B_law_plan, kp_law_plan⟩ := ok_law_plan (P := P) (w := w) (base := base) T
  obtain ⟨fd_law_strip, F_law_strip, B_law_strip, kp_law_strip⟩ := ok_law_strip (P := P) (w := w) (base := base) T
  obtain ⟨fd_law_take, F_law_take, B_law_take, kp_law_take⟩ := ok_law_take (P := P) (w := w) (base := base) T
  obtain ⟨fd_law_is_laid, F_law_is_laid, B_law_is_laid, kp_law_is_laid⟩ := ok_law_is_laid (P := P) (w := w) (base := base) T
  obtain ⟨fd_law_web, F_law_web, B_law_web, kp_law_web⟩ := ok_law_web (P := P) (w := w) (base := base) T
  obtain ⟨fd_law_turned, F_law_turned, B_law_turned, kp_law_turned⟩ := ok_law_turned (P := P) (w := w) (base := base) T
  obtain ⟨fd_Strip_mirrored, F_Strip_mirrored, B_Strip_mirrored, kp_Strip_mirrored⟩ := ok_Strip_mirrored (P := P) (w := w) (base := base) T
  obtain ⟨fd_Strip__eq, F_Strip__eq, B_Strip__eq, kp_Strip__eq⟩ := ok_Strip__eq (P := P) (w := w) (base := base) T
  obtain ⟨fd, F⟩ := T.f_law
  refine ⟨fd, fn_ok (k := cn K) F sc_law (by decide) fun cdv A outer s H E hr => ?_, F.bindsN fun _ _ _ _ _ _ us hl => match us, hl with | [_], _ => rfl, F.kp⟩
  have tk : Takes (cxOf (L2.CX P w) P w K mg base ["_law_script", "_law_bag_here", "_law_k", "_law_plan_here", "_law_strip_here", "_law_width", "_law_counts", "_law_count", "_law_other", "_law_flipped"] "law" (defScope s_law) (a_law K) cdv A outer s H E) (fun c d _ H => E c d H) := takes_of rfl rfl rfl rfl
  exact (dss_cons (ds_set (i := 1) sc_law.nd rfl (Or.inl rfl) (de_call tk F_law_bag ar_law_bag (hr.mono (by decide)) (by rfl) T.g_law_bag kp_law_bag B_law_bag .nil (fun _ _ _ => .nil) (da_cons (dv 0) da_nil)))
  (dss_cons (ds_for (passes_of rfl) rfl (di_rng1 (by rfl) T.n_range de_int) (tg_nm (i := 2) sc_law.nd rfl (Or.inl rfl)) (dss_cons (ds_set (i := 3) sc_law.nd rfl (Or.inl rfl) (de_call tk F_law_plan ar_law_plan (hr.mono (by decide)) (by rfl) T.g_law_plan kp_law_plan B_law_plan .nil (fun _ _ _ => .nil) (da_cons (dv 1) da_nil)))
  (dss_cons (ds_par (i := 4) (j := 5) rfl sc_law.nd rfl rfl (by decide) rfl rfl (da_cons (de_call tk F_law_strip ar_law_strip (hr.mono (by decide)) (by rfl) T.g_law_strip kp_law_strip B_law_strip .nil (fun _ _ _ => .nil) (da_cons (dv 3) da_nil)) (da_cons (de_callB call_len_seq d_len (by rfl) T.n_len (by decide +kernel) (da_cons (de_ix ix_seq d_ix (de_ix ix_seq d_ix (dv 3) de_int) de_int) da_nil)) da_nil)))
  (dss_cons (ds_set (i := 6) sc_law.nd rfl (Or.inl rfl) (de_lst false (da_cons de_int (da_cons de_int (da_cons de_int (da_cons (de_call tk F_law_take ar_law_take (hr.mono (by decide)) (by rfl) T.g_law_take kp_law_take B_law_take .nil (fun _ _ _ => .nil) (da_cons (dv 1) (da_cons de_int da_nil))) (da_cons (de_op op_sub d_sub (de_op op_fdivW d_div de_int (dv 5)) de_int) (da_cons (de_op op_sub d_sub (de_op op_fdivW d_div de_int (dv 5)) de_int) da_nil))))))))
  (dss_cons (ds_for (passes_of rfl) rfl (di_seq rfl (dv 6)) (tg_nm (i := 7) sc_law.nd rfl (Or.inl rfl)) (dss_one (ds_if (PW.pt (dw_or (dt_not (dt_val (de_call tk F_law_is_laid ar_law_is_laid (hr.mono (by decide)) (by rfl) T.g_law_is_laid kp_law_is_laid B_law_is_laid .nil (fun _ _ _ => .nil) (da_cons (dv 4) (da_cons (dv 3) (da_cons (dv 7) da_nil)))))) (dw_or1 (dt_not (dt_val (de_call tk F_law_is_laid ar_law_is_laid (hr.mono (by decide)) (by rfl) T.g_law_is_laid kp_law_is_laid B_law_is_laid .nil (fun _ _ _ => .nil) (da_cons (dv 4) (da_cons (dv 3) (da_cons (dv 7) da_nil))))))))) (dss_one (ds_ret de_bl)) dss_nil)))
  (dss_cons (ds_if (PW.pt (dw_or (dt_cmp (op_ne.or (op_neD hr.room.units)) d_neA (de_call tk F_law_web ar_law_web (hr.mono (by decide)) (by rfl) T.g_law_web kp_law_web B_law_web .nil (fun _ _ _ => .nil) (da_cons (dv 4) (da_cons de_int da_nil))) (de_tup (da_cons de_str (da_cons de_int da_nil))) (nomark _)) (dw_or1 (dt_cmp (op_ne.or (op_neD hr.room.units)) d_neA (de_call tk F_law_web ar_law_web (hr.mono (by decide)) (by rfl) T.g_law_web kp_law_web B_law_web .nil (fun _ _ _ => .nil) (da_cons (dv 4) (da_cons de_int da_nil))) (de_tup (da_cons de_str (da_cons de_int da_nil))) (nomark _))))) (dss_one (ds_ret de_bl)) dss_nil)
  (dss_cons (ds_par (i := 8) (j := 9) rfl sc_law.nd rfl rfl (by decide) rfl rfl (da_cons (de_meth0 4 tk rfl (dv 4) T.cl_Strip T.me_Strip_mirrored F_Strip_mirrored ar_Strip_mirrored nm_Strip_mirrored (hr.mono (by decide)) B_Strip_mirrored .nil (fun _ _ _ => .nil)) (da_cons (de_call tk F_law_turned ar_law_turned (hr.mono (by decide)) (by rfl) T.g_law_turned kp_law_turned B_law_turned .nil (fun _ _ _ => .nil) (da_cons (dv 3) da_nil)) da_nil)))
  (dss_cons (ds_if (PW.pt (dw_or (dt_not (dt_val (de_isi (by rfl) T.n_isinstance T.isa rfl rfl (dv 8) (pe_glob (by rfl) T.g_Strip rfl)))) (dw_or (dt_cmp (op_ne.or (op_neD hr.room.units)) d_neA (de_fld 4 4 rfl T.cl_Strip T.no_Strip_width nd_Strip rfl (dv 8)) (dv 5) (nomark _)) (dw_or1 (dt_cmp op_notB d_notB (de_eqO 4 tk rfl (dv 8) (de_call tk F_law_strip ar_law_strip (hr.mono (by decide)) (by rfl) T.g_law_strip kp_law_strip B_law_strip .nil (fun _ _ _ => .nil) (da_cons (dv 9) da_nil)) T.eq_Strip F_Strip__eq ar_Strip__eq (hr.mono (by decide)) B_Strip__eq) de_bl (nomark _)))))) (dss_one (ds_ret de_bl)) dss_nil)
  (dss_cons (ds_for (passes_of rfl) rfl (di_seq rfl (de_tup (da_cons de_int (da_cons de_int (da_cons de_int da_nil))))) (tg_nm (i := 7) sc_law.nd rfl (Or.inl rfl)) (dss_one (ds_if (dt_not (dt_val (de_call tk F_law_is_laid ar_law_is_laid (hr.mono (by decide)) (by rfl) T.g_law_is_laid kp_law_is_laid B_law_is_laid .nil (fun _ _ _ => .nil) (da_cons (dv 8) (da_cons (dv 9) (da_cons (dv 7) da_nil)))))) (dss_one (ds_ret de_bl)) dss_nil)))
  (dss_one (ds_if (PW.pt (dw_or (dt_cmp op_notB d_notB (de_eqO 4 tk rfl (de_meth0 4 tk rfl (dv 8) T.cl_Strip T.me_Strip_mirrored F_Strip_mirrored ar_Strip_mirrored nm_Strip_mirrored (hr.mono (by decide)) B_Strip_mirrored .nil (fun _ _ _ => .nil)) (dv 4) T.eq_Strip F_Strip__eq ar_Strip__eq (hr.mono (by decide)) B_Strip__eq) de_bl (nomark _)) (dw_or1 (dt_not (dt_val (de_call tk F_law_is_laid ar_law_is_laid (hr.mono (by decide)) (by rfl) T.g_law_is_laid kp_law_is_laid B_law_is_laid .nil (fun _ _ _ => .nil) (da_cons (dv 4) (da_cons (dv 3) (da_cons de_int da_nil))))))))) (dss_one (ds_ret de_bl)) dss_nil)))))))))))
  (dss_one (ds_ret de_bl))))
end
end
end CL
set_option maxHeartbeats 0
namespace CL
open PySem L2 PySem.Spec PyProof.Rows CT
theorem room0 : RoomG 10 callerA := ⟨⟨rfl, by decide, by decide⟩, rfl⟩
def LT : Prop := ∀ ns : List Int, ns.length ≤ 63 → ∃ C, m_law [scrD ns] [] = .ok (.bl true) C
theorem law_sp (lt : LT) {K : PySem.W.Frag} {H : Hp} {a : Addr} {ns : List Int} (hl : ns.length ≤ 63) (hO : Only H) (h : SqL K H a (ns.map V.int)) : SpD (cn K) 1 m_law [.ref a] H (fun v _ => v = .bl true) fun _ _ _ => False := by
  obtain ⟨C, e⟩ := lt ns hl
  refine ⟨rfl, fun _ => 0, [], [scrD ns], ⟨fun i c z => (nomatch z), fun i j c e z => (nomatch z)⟩, .cons (rep_scr hO h) .nil, ?_⟩
  rw [e]
  intro A' H' v _ _ r
  cases r
  rfl
theorem ob_eq (s : PySem.W.SharedT) : ob s = hk.obs s.abs := obGb_eq s
end CL
section
open PySem PySem.W PySem.Calls PyProof.Rows
theorem CL.holds_of (lt : CL.LT) : PySem.Challenge.rw_contentties_k62_strip_laid_out.Holds := by
  w_on; o_law
  refine HandSHeadRun.head_any (r := OpenLaw.row PySem.Challenge.rw_contentties_k62_strip_laid_out) (q := view (OpenLaw.row PySem.Challenge.rw_contentties_k62_strip_laid_out).prog [53]) (H := CL.hk) (ob := CL.ob) (M := 20000) (loose := CL.loose) (d := HandSHeadRun.topDef (OpenLaw.row PySem.Challenge.rw_contentties_k62_strip_laid_out).prog 53) (kwd := []) CL.ob_eq
    (by kernel_rfl) (fun s => by kernel_rfl) CL.run (by kernel_rfl) (by kernel_rfl) (by kernel_rfl) (by rfl) (by first | assumption | decide +kernel) (by decide +kernel) ⟨rfl, rfl, rfl, rfl, rfl, by decide +kernel⟩ ?hw ?hc
  case hw => w_witness2
  case hc =>
    refine Att.attach_callB (l := PySem.Challenge.rw_contentties_k62_strip_laid_out) (n := 63) rfl (by kernel_rfl) fun w s₀ s₁ mg mb fa o pm cd doc a vs ns G Y ho hd hcd hmg0 hobj hints hlen hbits hg => ?_
    obtain ⟨K, KX, c⟩ := Y
    have hmg : mg ("law" : PySem.Str) = some (.ref fa) := by
      have e : (HandSHeadRun.topDef (OpenLaw.row PySem.Challenge.rw_contentties_k62_strip_laid_out).prog 53).name = ("law" : PySem.Str) := by kernel_rfl
      rw [← e]
      exact hmg0
    have T := CL.txt KX G.T.g c
    have e := hmg.symm.trans T.g_law
    cases e
    exact CT.law_core KX G.T.g G.T.b G.T.builtins G.T.nolimit hg hobj hints (Nat.le_trans hlen (by decide)) (fun base h1 h2 s H e0 q => by
      obtain ⟨fd, F, B, _⟩ := CL.ok_law (P := (PySem.Challenge.rw_contentties_k62_strip_laid_out).prog) (w := w) (base := base) T
      exact F.run callerA [] s H ⟨[.ref a], []⟩ [.ref a] [.ref a] _ _ CL.room0 e0 (B s [.ref a] (fun b o e => (e0.bs b o (h1 b o e)).1) rfl) (.cons rfl .nil) q) (fun H hO hS => CL.law_sp lt hlen hO hS)
end
set_option maxHeartbeats 4000000
/-! S1: runs, in plain Lean. -/
namespace CT
abbrev Rn := Int × Int
/-- a run of the parity p -/
def RunOk (p : Int) (r : Rn) : Prop := r.1 ≤ r.2 ∧ r.1 % 2 = p ∧ r.2 % 2 = p
def Sep (r s : Rn) : Prop := r.2 + 2 < s.1
structure Canon (p : Int) (rs : List Rn) : Prop where
  ok : ∀ r ∈ rs, RunOk p r
  sep : rs.Pairwise Sep
def mR (rs : List Rn) (x : Int) : Prop := ∃ r ∈ rs, r.1 ≤ x ∧ x ≤ r.2
theorem canon_nil (p : Int) : Canon p [] := ⟨by simp, .nil⟩
theorem mR_nil (x : Int) : ¬ mR [] x := fun ⟨r, h, _⟩ => by cases h
theorem mR_cons {r : Rn} {rs : List Rn} {x : Int} : mR (r :: rs) x ↔ (r.1 ≤ x ∧ x ≤ r.2) ∨ mR rs x := by
  constructor
  · rintro ⟨s, hs, h⟩
    rcases List.mem_cons.mp hs with rfl | hs
    · exact .inl h
    · exact .inr ⟨s, hs, h⟩
  · rintro (h | ⟨s, hs, h⟩)
    · exact ⟨r, List.mem_cons_self .., h⟩
    · exact ⟨s, List.mem_cons_of_mem _ hs, h⟩
theorem mR_append {rs ss : List Rn} {x : Int} : mR (rs ++ ss) x ↔ mR rs x ∨ mR ss x := by
  constructor
  · rintro ⟨s, hs, h⟩
    rcases List.mem_append.mp hs with hs | hs
    · exact .inl ⟨s, hs, h⟩
    · exact .inr ⟨s, hs, h⟩
  · rintro (⟨s, hs, h⟩ | ⟨s, hs, h⟩)
    · exact ⟨s, List.mem_append_left _ hs, h⟩
    · exact ⟨s, List.mem_append_right _ hs, h⟩
theorem Canon.tail {p : Int} {r : Rn} {rs : List Rn} (h : Canon p (r :: rs)) : Canon p rs := ⟨fun s hs => h.ok s (List.mem_cons_of_mem _ hs), (List.pairwise_cons.mp h.sep).2⟩
theorem Canon.far {p : Int} {r : Rn} {rs : List Rn} (h : Canon p (r :: rs)) {x : Int} (hx : mR rs x) : r.2 + 2 < x := by
  obtain ⟨s, hs, h1, _⟩ := hx
  have := (List.pairwise_cons.mp h.sep).1 s hs
  unfold Sep at this
  omega
/-- canonical runs are one to one with sets -/
theorem canon_inj {p : Int} : ∀ {rs ss : List Rn}, Canon p rs → Canon p ss → (∀ x, x % 2 = p → (mR rs x ↔ mR ss x)) → rs = ss
  | [], [], _, _, _ => rfl
  | [], s :: ss, _, hs, h => by
    have ⟨a, b, c⟩ := hs.ok s (List.mem_cons_self ..)
    exact absurd ((h s.1 b).mpr (mR_cons.mpr (.inl ⟨Int.le_refl _, a⟩))) (mR_nil _)
  | r :: rs, [], hr, _, h => by
    have ⟨a, b, c⟩ := hr.ok r (List.mem_cons_self ..)
    exact absurd ((h r.1 b).mp (mR_cons.mpr (.inl ⟨Int.le_refl _, a⟩))) (mR_nil _)
  | r :: rs, s :: ss, hr, hs, h => by
    have ⟨a1, b1, c1⟩ := hr.ok r (List.mem_cons_self ..)
    have ⟨a2, b2, c2⟩ := hs.ok s (List.mem_cons_self ..)
    have e1 : r.1 = s.1 := by
      have m1 := (h r.1 b1).mp (mR_cons.mpr (.inl ⟨Int.le_refl _, a1⟩))
      have m2 := (h s.1 b2).mpr (mR_cons.mpr (.inl ⟨Int.le_refl _, a2⟩))
      rcases mR_cons.mp m1 with m1 | m1
      · rcases mR_cons.mp m2 with m2 | m2
        · omega
        · have := hr.far m2; omega
      · rcases mR_cons.mp m2 with m2 | m2
        · have := hs.far m1; omega
        · have := hs.far m1; have := hr.far m2; omega
    have e2 : r.2 = s.2 := by
      rcases Int.lt_trichotomy r.2 s.2 with q | q | q
      · have m := (h (r.2 + 2) (by omega)).mpr (mR_cons.mpr (.inl ⟨by omega, by omega⟩))
        rcases mR_cons.mp m with m | m
        · omega
        · have := hr.far m; omega
      · exact q
      · have m := (h (s.2 + 2) (by omega)).mp (mR_cons.mpr (.inl ⟨by omega, by omega⟩))
        rcases mR_cons.mp m with m | m
        · omega
        · have := hs.far m; omega
    have e : r = s := Prod.ext e1 e2
    subst e
    rw [canon_inj hr.tail hs.tail fun x hx => ?_]
    constructor
    · intro m
      rcases mR_cons.mp ((h x hx).mp (mR_cons.mpr (.inr m))) with q | q
      · have := hr.far m; omega
      · exact q
    · intro m
      rcases mR_cons.mp ((h x hx).mpr (mR_cons.mpr (.inr m))) with q | q
      · have := hs.far m; omega
      · exact q
/-! ### merged -/
def mstep (found : List Rn) (r : Rn) : List Rn := match found.getLast? with
  | some q => if r.1 ≤ q.2 + 2 then found.dropLast ++ [(q.1, max q.2 r.2)] else found ++ [r]
  | none => [r]
theorem last_split {α : Type} {l : List α} {q : α} (h : l.getLast? = some q) : l = l.dropLast ++ [q] := by
  have hne : l ≠ [] := fun e => by rw [e] at h; cases h
  have e := List.dropLast_concat_getLast hne
  rw [List.getLast?_eq_some_getLast hne] at h
  cases h
  exact e.symm
theorem mstep_ok {p : Int} {found : List Rn} {r : Rn} (h : Canon p found) (hr : RunOk p r) (ho : ∀ q ∈ found, q.1 ≤ r.1) : Canon p (mstep found r) ∧ (∀ x, x % 2 = p → (mR (mstep found r) x ↔ mR found x ∨ (r.1 ≤ x ∧ x ≤ r.2))) ∧ ∀ q ∈ mstep found r, q.1 ≤ r.1 := by
  unfold mstep
  cases e : found.getLast? with
  | none =>
    have e0 : found = [] := List.getLast?_eq_none_iff.mp e
    subst e0
    refine ⟨⟨by simpa using hr, by simp⟩, fun x hx => ?_, by simp⟩
    rw [mR_cons]
    constructor
    · rintro (q | q)
      · exact .inr q
      · exact absurd q (mR_nil _)
    · rintro (q | q)
      · exact absurd q (mR_nil _)
      · exact .inl q
  | some q =>
    have hs := last_split e
    generalize found.dropLast = f0 at hs
    subst hs
    obtain ⟨a1, b1, c1⟩ := hr
    have hq : RunOk p q := h.ok q (by simp)
    obtain ⟨a2, b2, c2⟩ := hq
    have hq1 := ho q (by simp)
    have hsep := List.pairwise_append.mp h.sep
    simp only
    by_cases hc : r.1 ≤ q.2 + 2
    · rw [if_pos hc]
      have gap : ∀ x, x % 2 = p → (q.1 ≤ x ∧ x ≤ max q.2 r.2 ↔ (q.1 ≤ x ∧ x ≤ q.2) ∨ (r.1 ≤ x ∧ x ≤ r.2)) := fun x hx => by
        constructor
        · rintro ⟨g1, g2⟩
          by_cases hx2 : x ≤ q.2
          · exact .inl ⟨g1, hx2⟩
          · exact .inr ⟨by omega, by omega⟩
        · rintro (g | g) <;> exact ⟨by omega, by omega⟩
      refine ⟨⟨fun s hs => ?_, ?_⟩, fun x hx => ?_, fun s hs => ?_⟩
      · rcases List.mem_append.mp hs with hs | hs
        · exact h.ok s (by simp [hs])
        · rw [List.mem_singleton.mp hs]
          refine ⟨?_, b2, ?_⟩ <;> simp only <;> omega
      · refine List.pairwise_append.mpr ⟨hsep.1, by simp, fun s hs t ht => ?_⟩
        rw [List.mem_singleton.mp ht]
        exact hsep.2.2 s hs q (by simp)
      · have g := gap x hx
        rw [mR_append, mR_append, mR_cons, mR_cons]
        simp only
        rw [g]
        constructor
        · rintro (z | (z | z) | z)
          · exact .inl (.inl z)
          · exact .inl (.inr (.inl z))
          · exact .inr z
          · exact absurd z (mR_nil _)
        · rintro ((z | z | z) | z)
          · exact .inl z
          · exact .inr (.inl (.inl z))
          · exact absurd z (mR_nil _)
          · exact .inr (.inl (.inr z))
      · rcases List.mem_append.mp hs with hs | hs
        · exact ho s (by simp [hs])
        · rw [List.mem_singleton.mp hs]
          exact hq1
    · rw [if_neg hc]
      refine ⟨⟨fun s hs => ?_, ?_⟩, fun x hx => ?_, fun s hs => ?_⟩
      · rcases List.mem_append.mp hs with hs | hs
        · exact h.ok s hs
        · rw [List.mem_singleton.mp hs]
          exact ⟨a1, b1, c1⟩
      · refine List.pairwise_append.mpr ⟨h.sep, by simp, fun s hs t ht => ?_⟩
        rw [List.mem_singleton.mp ht]
        unfold Sep
        rcases List.mem_append.mp hs with hs | hs
        · have h1 := hsep.2.2 s hs q (by simp)
          unfold Sep at h1
          omega
        · rw [List.mem_singleton.mp hs]
          omega
      · rw [mR_append, mR_cons]
        constructor
        · rintro (z | z | z)
          · exact .inl z
          · exact .inr z
          · exact absurd z (mR_nil _)
        · rintro (z | z)
          · exact .inl z
          · exact .inr (.inl z)
      · rcases List.mem_append.mp hs with hs | hs
        · exact ho s hs
        · rw [List.mem_singleton.mp hs]
          exact Int.le_refl _
theorem fold_ok {p : Int} : ∀ {l found : List Rn}, Canon p found → (∀ r ∈ l, RunOk p r) → l.Pairwise (fun r s => r.1 ≤ s.1) → (∀ q ∈ found, ∀ r ∈ l, q.1 ≤ r.1) → Canon p (l.foldl mstep found) ∧ ∀ x, x % 2 = p → (mR (l.foldl mstep found) x ↔ mR found x ∨ mR l x)
  | [], found, h, _, _, _ => ⟨h, fun x _ => ⟨fun z => .inl z, fun z => z.elim id fun z => absurd z (mR_nil _)⟩⟩
  | r :: l, found, h, ho, hs, hf => by
    obtain ⟨c1, c2, c3⟩ := mstep_ok h (ho r (List.mem_cons_self ..)) fun q hq => hf q hq r (List.mem_cons_self ..)
    have hs' := List.pairwise_cons.mp hs
    obtain ⟨d1, d2⟩ := fold_ok (l := l) c1 (fun s hs => ho s (List.mem_cons_of_mem _ hs)) hs'.2 fun q hq s hs => Int.le_trans (c3 q hq) (hs'.1 s hs)
    refine ⟨d1, fun x hx => ?_⟩
    show mR (l.foldl mstep (mstep found r)) x ↔ _
    rw [d2 x hx, c2 x hx, mR_cons, or_assoc]
theorem mstep_len (found : List Rn) (r : Rn) : (mstep found r).length ≤ found.length + 1 := by
  unfold mstep
  split
  · split
    · simp only [List.length_append, List.length_dropLast, List.length_cons, List.length_nil]; omega
    · simp
  · simp
theorem fold_len : ∀ (l found : List Rn), (l.foldl mstep found).length ≤ found.length + l.length
  | [], found => by simp
  | r :: l, found => by
    have h1 := fold_len l (mstep found r)
    have h2 := mstep_len found r
    simp only [List.foldl_cons, List.length_cons]
    omega
/-! ### numbers, one behind another (the law's own) -/
def lstep (p : Int) (found : List Rn) (x : Int) : List Rn := if x % 2 = p then (match found.getLast? with
  | some q => if x = q.2 + 2 then found.dropLast ++ [(q.1, x)] else found ++ [(x, x)]
  | none => [(x, x)]) else found
theorem lstep_eq {p : Int} {found : List Rn} {x : Int} (hx : x % 2 = p) (h : ∀ q ∈ found, q.2 < x) (hp : ∀ q ∈ found, q.2 % 2 = p) : lstep p found x = mstep found (x, x) := by
  unfold lstep mstep
  rw [if_pos hx]
  cases e : found.getLast? with
  | none => rfl
  | some q =>
    have hq : q ∈ found := List.mem_of_getLast? e
    have h1 := h q hq
    have h2 := hp q hq
    simp only
    by_cases hc : x = q.2 + 2
    · rw [if_pos hc, if_pos (by omega)]
      have : max q.2 x = x := by omega
      rw [this]
    · rw [if_neg hc, if_neg (by omega)]
theorem lfold_ok {p : Int} : ∀ {l : List Int} {found : List Rn}, Canon p found → l.Pairwise (· < ·) → (∀ q ∈ found, ∀ x ∈ l, q.2 < x) → Canon p (l.foldl (lstep p) found) ∧ ∀ x, x % 2 = p → (mR (l.foldl (lstep p) found) x ↔ mR found x ∨ x ∈ l)
  | [], found, h, _, _ => ⟨h, fun x _ => ⟨fun z => .inl z, fun z => z.elim id fun z => by cases z⟩⟩
  | y :: l, found, h, hs, hf => by
    have hs' := List.pairwise_cons.mp hs
    have hy : ∀ q ∈ found, q.2 < y := fun q hq => hf q hq y (List.mem_cons_self ..)
    by_cases hp : y % 2 = p
    · have e := lstep_eq hp hy (fun q hq => (h.ok q hq).2.2)
      obtain ⟨c1, c2, c3⟩ := mstep_ok h (r := (y, y)) ⟨Int.le_refl _, hp, hp⟩ fun q hq => by have := (h.ok q hq).1; have := hy q hq; simp only; omega
      have c4 : ∀ q ∈ mstep found (y, y), ∀ x ∈ l, q.2 < x := fun q hq x hx => by
        have hx1 := hs'.1 x hx
        have hm : mR (mstep found (y, y)) q.2 := ⟨q, hq, (c1.ok q hq).1, Int.le_refl _⟩
        rcases (c2 q.2 (c1.ok q hq).2.2).mp hm with z | z
        · obtain ⟨s, hs, z1, z2⟩ := z
          have := hy s hs
          omega
        · simp only at z
          omega
      rw [← e] at c1 c2 c4
      obtain ⟨d1, d2⟩ := lfold_ok (l := l) c1 hs'.2 c4
      refine ⟨d1, fun x hx => ?_⟩
      show mR (l.foldl (lstep p) (lstep p found y)) x ↔ _
      rw [d2 x hx, c2 x hx, List.mem_cons]
      simp only
      constructor
      · rintro ((z | z) | z)
        · exact .inl z
        · exact .inr (.inl (by omega))
        · exact .inr (.inr z)
      · rintro (z | z | z)
        · exact .inl (.inl z)
        · exact .inl (.inr (by omega))
        · exact .inr z
    · have e : lstep p found y = found := by unfold lstep; rw [if_neg hp]
      obtain ⟨d1, d2⟩ := lfold_ok (l := l) h hs'.2 fun q hq x hx => hf q hq x (List.mem_cons_of_mem _ hx)
      refine ⟨?_, fun x hx => ?_⟩
      · show Canon p (l.foldl (lstep p) (lstep p found y))
        rw [e]
        exact d1
      · show mR (l.foldl (lstep p) (lstep p found y)) x ↔ _
        rw [e, d2 x hx, List.mem_cons]
        constructor
        · rintro (z | z)
          · exact .inl z
          · exact .inr (.inr z)
        · rintro (z | z | z)
          · exact .inl z
          · rw [z] at hx; exact absurd hx hp
          · exact .inr z
theorem lstep_len (p : Int) (found : List Rn) (x : Int) : (lstep p found x).length ≤ found.length + 1 := by
  unfold lstep
  split
  · split
    · split
      · simp only [List.length_append, List.length_dropLast, List.length_cons, List.length_nil]; omega
      · simp
    · simp
  · omega
theorem lfold_len (p : Int) : ∀ (l : List Int) (found : List Rn), (l.foldl (lstep p) found).length ≤ found.length + l.length
  | [], found => by simp
  | r :: l, found => by
    have h1 := lfold_len p l (lstep p found r)
    have h2 := lstep_len p found r
    simp only [List.foldl_cons, List.length_cons]
    omega
/-! ### common -/
/-! ### rest -/
end CT
set_option maxHeartbeats 4000000
namespace CL
open PySem L2 CT
/-! ### the bag -/
def bagC (a b c : Int) (cs : List Int) : Cell := .lst [.int a, .int b, .int c, .lst (cs.map .int)]
section
variable {a b c n : Int} {cs : List Int} {C : Store} {i : Nat}
theorem mul1 (x : Int) (C : Store) : oMul (.int x) (.int 48271) C = some (.int (x * 48271), C) := ev_mul C (by simp [cMul])
theorem mul2 (x : Int) (C : Store) : oMul (.int 7919) (.int x) C = some (.int (7919 * x), C) := ev_mul C (by simp [cMul])
theorem mul3 (x : Int) (C : Store) : oMul (.int x) (.int 39373) C = some (.int (x * 39373), C) := ev_mul C (by simp [cMul])
theorem mul4 (x : Int) (C : Store) : oMul (.int x) (.int 30011) C = some (.int (x * 30011), C) := ev_mul C (by simp [cMul])
theorem mod1 (x : Int) (C : Store) : oMod (.int x) (.int 2147483647) C = some (.int (x % 2147483647), C) := ev_mod C (by decide)
theorem mod2 (x : Int) (C : Store) : oMod (.int x) (.int 1000000007) C = some (.int (x % 1000000007), C) := ev_mod C (by decide)
theorem mod3 (x : Int) (C : Store) : oMod (.int x) (.int 998244353) C = some (.int (x % 998244353), C) := ev_mod C (by decide)
theorem div7 (x : Int) (C : Store) : oDiv (.int x) (.int 7) C = some (.int (x / 7), C) := ev_div C (by decide) (by decide)
theorem take_0 (hC : C[i]? = some (some (bagC 0 b c cs))) (hb : 0 ≤ b) (hb2 : b < 2147483647) (hc : 0 ≤ c) (hcs : ∀ x ∈ cs, 0 ≤ x) : ∃ a' b' s2 s3, 0 ≤ a' ∧ 0 ≤ b' ∧ b' < 2147483647 ∧
    b_law_take_0 ⟨C.length, [some (.cell i), some (.int n), none, none, none, none, none]⟩ C = .nx [some (.cell i), some (.int n), s2, s3, none, none, none] (C.set i (some (bagC a' b' (c + 1) cs))) := by
  have hi : i < C.length := (List.getElem?_eq_some_iff.mp hC).1
  have hC' : C[i]? = some (some (Cell.lst [.int 0, .int b, .int c, .lst (cs.map .int)])) := hC
  have gs : ∀ x : Option Cell, (C.set i x)[i]? = some x := fun x => List.getElem?_set_self hi
  by_cases h1 : c < cs.length
  · have h1' : c.toNat < cs.length := by omega
    have hcell : 0 ≤ cs[c.toNat] := hcs _ (List.getElem_mem h1')
    by_cases h2 : 1000000000000000000 ≤ cs[c.toNat]
    · refine ⟨cs[c.toNat], (b * 48271 + cs[c.toNat] % 2147483647 + 7919 * (c + 1)) % 2147483647, some (.int cs[c.toNat]), some (.int (b * 48271 + cs[c.toNat] % 2147483647 + 7919 * (c + 1))), hcell, ?_, ?_, ?e⟩
      case e => simp [b_law_take_0, b_law_take_0t_0, b_law_take_0t_1, b_law_take_0t_2, b_law_take_0t_3, b_law_take_0t_4, b_law_take_0t_5, oIx, vS, hC', atI, ixN, gs, oLen, h1, h1', hc, auK2, auK4, cL, wr, cbC, cbL, cb, stK4, h2, mul1, mul2, mod1, bagC]
      · exact Int.emod_nonneg _ (by decide)
      · exact Int.emod_lt_of_pos _ (by decide)
    · refine ⟨0, (b * 48271 + cs[c.toNat] % 2147483647 + 7919 * (c + 1)) % 2147483647, some (.int cs[c.toNat]), some (.int (b * 48271 + cs[c.toNat] % 2147483647 + 7919 * (c + 1))), by decide, ?_, ?_, ?e⟩
      case e => simp [b_law_take_0, b_law_take_0t_0, b_law_take_0t_1, b_law_take_0t_2, b_law_take_0t_3, b_law_take_0t_4, b_law_take_0t_5, oIx, vS, hC', atI, ixN, gs, oLen, h1, h1', hc, auK2, auK4, cL, wr, cbC, cbL, cb, stK4, h2, mul1, mul2, mod1, bagC]
      · exact Int.emod_nonneg _ (by decide)
      · exact Int.emod_lt_of_pos _ (by decide)
  · refine ⟨0, (b * 48271 + 0 % 2147483647 + 7919 * (c + 1)) % 2147483647, some (.int 0), some (.int (b * 48271 + 0 % 2147483647 + 7919 * (c + 1))), by decide, ?_, ?_, ?e⟩
    case e => simp [b_law_take_0, b_law_take_0t_0, b_law_take_0t_1, b_law_take_0t_2, b_law_take_0t_3, b_law_take_0t_4, b_law_take_0t_5, oIx, vS, hC', atI, ixN, gs, oLen, h1, hc, auK2, auK4, cL, wr, cbC, cbL, cb, stK4, mul1, mul2, mod1, bagC]
    · exact Int.emod_nonneg _ (by decide)
    · exact Int.emod_lt_of_pos _ (by decide)
theorem take_1 (hC : C[i]? = some (some (bagC a b c cs))) (ha : 0 < a) (hn : 0 < n) (hn2 : n < 4611686018427387904) {s2 s3 : Option D} :
    b_law_take_1 ⟨C.length, [some (.cell i), some (.int n), s2, s3, none, none, none]⟩ C = .rt (.int (a % n)) (C.set i (some (bagC (a / n) b c cs))) := by
  have hC' : C[i]? = some (some (Cell.lst [.int a, .int b, .int c, .lst (cs.map .int)])) := hC
  simp [b_law_take_1, b_law_take_1t_0, b_law_take_1t_1, b_law_take_1t_2, oIx, vS, hC', atI, ixN, ha, ev_mod C hn, ev_div C hn hn2, stK4, cL, wr, cbC, cbL, cb, bagC]
theorem take_1n (hC : C[i]? = some (some (bagC 0 b c cs))) {s2 s3 : Option D} :
    b_law_take_1 ⟨C.length, [some (.cell i), some (.int n), s2, s3, none, none, none]⟩ C = .nx [some (.cell i), some (.int n), s2, s3, none, none, none] C := by
  have hC' : C[i]? = some (some (Cell.lst [.int 0, .int b, .int c, .lst (cs.map .int)])) := hC
  simp [b_law_take_1, oIx, vS, hC', atI, ixN]
theorem mulB {x y : Int} (h1 : 0 ≤ x) (h2 : x < 1000000007) (C : Store) : oMul (.int x) (.int y) C = some (.int (x * y), C) := ev_mul C (by
  have e1 : decide (-(2 ^ 64) < x) = true := decide_eq_true (by omega)
  have e2 : decide (x < 2 ^ 64) = true := decide_eq_true (by omega)
  simp only [cMul, e1, e2, Bool.and_self, Bool.true_or])
theorem take_2 (hC : C[i]? = some (some (bagC a b c cs))) (hb : 0 ≤ b) (hn : 0 < n) {s2 s3 : Option D} : ∃ r, 0 ≤ r ∧ r < n ∧
    sSeq b_law_take_2 (sSeq b_law_take_3 b_law_take_4) ⟨C.length, [some (.cell i), some (.int n), s2, s3, none, none, none]⟩ C = .rt (.int r) C := by
  have hC' : C[i]? = some (some (Cell.lst [.int a, .int b, .int c, .lst (cs.map .int)])) := hC
  have e0 : 0 ≤ (b + 1) * 39373 % 1000000007 := Int.emod_nonneg _ (by decide)
  have e1 : (b + 1) * 39373 % 1000000007 < 1000000007 := Int.emod_lt_of_pos _ (by decide)
  refine ⟨((b + 1) * 39373 % 1000000007 * ((b + 1) * 39373 % 1000000007) % 998244353 * 30011 % 998244353 / 7) % n, Int.emod_nonneg _ (by omega), Int.emod_lt_of_pos _ hn, ?_⟩
  simp [b_law_take_2, b_law_take_3, b_law_take_4, oIx, vS, hC', atI, ixN, mul3, mod2, mulB e0 e1, mod3, mul4, div7, ev_mod C hn]
/-- a bag in the store -/
def Bag (i : Nat) (cs : List Int) (C : Store) : Prop := ∃ a b c, C[i]? = some (some (bagC a b c cs)) ∧ 0 ≤ a ∧ 0 ≤ b ∧ b < 2147483647 ∧ 0 ≤ c
theorem take_ok (hB : Bag i cs C) (hcs : ∀ x ∈ cs, 0 ≤ x) (hn : 0 < n) (hn2 : n < 4611686018427387904) : ∃ r x, m_law_take [.cell i, .int n] C = .ok (.int r) (C.set i (some x)) ∧ 0 ≤ r ∧ r < n ∧ Bag i cs (C.set i (some x)) := by
  obtain ⟨a, b, c, hC, ha, hb, hb2, hc⟩ := hB
  have hi : i < C.length := (List.getElem?_eq_some_iff.mp hC).1
  have gs : ∀ x : Option Cell, (C.set i x)[i]? = some x := fun x => List.getElem?_set_self hi
  have tk : ∀ x : Option Cell, (C.set i x).take C.length = C.set i x := fun x => List.take_of_length_le (by simp)
  have hC' : C[i]? = some (some (Cell.lst [.int a, .int b, .int c, .lst (cs.map .int)])) := hC
  have ld : ∀ x : Option Cell, (C.set i x).length = C.length := fun x => by simp
  by_cases h0 : a = 0
  · subst h0
    obtain ⟨a', b', s2, s3, h1, h2, h3, e⟩ := take_0 (n := n) hC hb hb2 hc hcs
    by_cases h4 : a' = 0
    · subst h4
      obtain ⟨r, r1, r2, e2⟩ := take_2 (n := n) (s2 := s2) (s3 := s3) (gs (some (bagC 0 b' (c + 1) cs))) h2 hn
      have e1 := take_1n (n := n) (s2 := s2) (s3 := s3) (gs (some (bagC 0 b' (c + 1) cs)))
      rw [ld] at e1 e2
      refine ⟨r, _, ?_, r1, r2, 0, b', c + 1, gs _, by decide, h2, h3, by omega⟩
      rw [e_law_take, b_law_take, ev_seq, e, seqK_nx, ev_seq, e1, seqK_nx, e2]
      simp [tk]
    · have e1 := take_1 (n := n) (s2 := s2) (s3 := s3) (gs (some (bagC a' b' (c + 1) cs))) (by omega) hn hn2
      rw [ld] at e1
      refine ⟨a' % n, bagC (a' / n) b' (c + 1) cs, ?_, Int.emod_nonneg _ (by omega), Int.emod_lt_of_pos _ hn, a' / n, b', c + 1, gs _, Int.ediv_nonneg h1 (by omega), h2, h3, by omega⟩
      rw [e_law_take, b_law_take, ev_seq, e, seqK_nx, ev_seq, e1]
      simp [tk]
  · have e1 := take_1 (n := n) (s2 := none) (s3 := none) hC (by omega) hn hn2
    refine ⟨a % n, bagC (a / n) b c cs, ?_, Int.emod_nonneg _ (by omega), Int.emod_lt_of_pos _ hn, a / n, b, c, gs _, Int.ediv_nonneg ha (by omega), hb, hb2, hc⟩
    have e : b_law_take_0 ⟨C.length, [some (.cell i), some (.int n), none, none, none, none, none]⟩ C = .nx [some (.cell i), some (.int n), none, none, none, none, none] C := by
      simp [b_law_take_0, oIx, vS, hC', atI, ixN, h0]
    rw [e_law_take, b_law_take, ev_seq, e, seqK_nx, ev_seq, e1]
    simp [tk]
end
end CL
set_option maxHeartbeats 4000000
/-! E2: loops, comprehensions, dicts worked out. -/
namespace CT
open PySem L2
@[simp] theorem tgt_nm (i : Nat) (d : D) (sl : List (Option D)) : (Tgt.nm i).M d sl = some (sl.set i (some d)) := rfl
@[simp] theorem tgt_tp (is : List Nat) (ds : List D) (sl : List (Option D)) : (Tgt.tp is).M (.tup ds) sl = setAll is ds sl := rfl
@[simp] theorem wipe0 (sl : List (Option D)) : wipeD sl [] = sl := rfl
@[simp] theorem wipe1 (sl : List (Option D)) (v : Nat) (vs : List Nat) : wipeD sl (v :: vs) = (wipeD sl vs).set v none := rfl
/-- what is walked stays: these items -/
structure PureIt (it : ItD) (xs : List D) : Prop where
  n : it.n = xs.length
  item : ∀ j C, j < xs.length → it.item j C = xs[j]?
  fin : ∀ C, it.fin C = true
theorem pure_C (xs : List D) : PureIt (itC xs) xs := ⟨rfl, fun _ _ _ => rfl, fun _ => rfl⟩
def rngI (lo : Int) (n : Nat) : List D := (List.range n).map fun i => D.int (lo + (i : Nat))
theorem pure_R (lo : Int) (n : Nat) : PureIt (itR lo n) (rngI lo n) := ⟨by simp [itR, rngI], fun j C hj => by
  have : j < n := by simpa [rngI] using hj
  simp [itR, rngI, this], fun _ => rfl⟩
theorem pure_P {it : ItD} {xs : List D} (h : PureIt it xs) : PureIt (prI it) ((List.range xs.length).zip xs |>.map fun p => D.tup [.int (p.1 : Nat), p.2]) := by
  refine ⟨by simp [prI, h.n], fun j C hj => ?_, fun C => h.fin C⟩
  have hj' : j < xs.length := by simpa using hj
  show (it.item j C).map _ = _
  rw [h.item j C hj', List.getElem?_map, List.getElem?_eq_getElem hj']
  simp [List.getElem?_zip_eq_some, hj']
/-- a loop that runs through -/
theorem loop_inv {it : ItD} {g : MG} {body : MS} {fl : Nat} (I : Nat → List (Option D) → Store → Prop)
    (step : ∀ j sl C, j < it.n → I j sl C → ∃ d sl1 sl2 C2, it.item j C = some d ∧ g d sl = some sl1 ∧ body ⟨fl, sl1⟩ C = .nx sl2 C2 ∧ I (j + 1) sl2 C2) (fin : ∀ sl C, I it.n sl C → it.fin C = true) :
    ∀ r j sl C, r + j = it.n → I j sl C → ∃ sl' C', loopN it g body fl r j sl C = .nx sl' C' ∧ I it.n sl' C'
  | 0, j, sl, C, h, i => by
    have e : j = it.n := by omega
    subst e
    exact ⟨sl, C, by unfold loopN; rw [if_pos (fin sl C i)], i⟩
  | r + 1, j, sl, C, h, i => by
    obtain ⟨d, sl1, sl2, C2, h1, h2, h3, h4⟩ := step j sl C (by omega) i
    obtain ⟨sl', C', h5, h6⟩ := loop_inv I step fin r (j + 1) sl2 C2 (by omega) h4
    refine ⟨sl', C', ?_, h6⟩
    unfold loopN
    simp only [h1, h2, h3, h5]
/-! ### comprehensions that change nothing -/
theorem lc_go {it : ItD} {xs : List D} (p : PureIt it xs) {g : MG} {tt : MT} {te : ME} {C : Store} {sl : List (Option D)} {f : D → Bool} {h : D → D} (sz : xs.length ≤ 16777215)
    (st : ∀ x ∈ xs, ∃ sl1, g x sl = some sl1 ∧ ∀ acc, tt ⟨C.length, sl1⟩ (C ++ [some (.lst acc)]) = .ok (f x) (C ++ [some (.lst acc)]) ∧ (f x = true → te ⟨C.length, sl1⟩ (C ++ [some (.lst acc)]) = .ok (h x) (C ++ [some (.lst acc)]))) :
    ∀ r j, r + j = xs.length → lcN it g tt te C.length sl r j (C ++ [some (.lst (((xs.take j).filter f).map h))]) = .ok () (C ++ [some (.lst ((xs.filter f).map h))])
  | 0, j, e => by
    have ej : j = xs.length := by omega
    subst ej
    unfold lcN
    rw [if_pos (p.fin _), List.take_length]
  | r + 1, j, e => by
    have hj : j < xs.length := by omega
    obtain ⟨sl1, h1, h2⟩ := st xs[j] (List.getElem_mem hj)
    have ih := lc_go p sz st r (j + 1) (by omega)
    have tk : xs.take (j + 1) = xs.take j ++ [xs[j]] := (List.take_append_getElem hj).symm
    rw [tk, List.filter_append, List.map_append] at ih
    unfold lcN
    rw [p.item j _ hj, List.getElem?_eq_getElem hj]
    simp only [h1]
    obtain ⟨e1, e2⟩ := h2 (((xs.take j).filter f).map h)
    rw [e1]
    simp only [bn0_ok]
    cases hf : f xs[j] with
    | true =>
      rw [if_pos rfl, e2 hf]
      simp only [bn0_ok]
      have at_n : (C ++ [some (Cell.lst (((xs.take j).filter f).map h))])[C.length]? = some (some (.lst (((xs.take j).filter f).map h))) := by simp
      have hz : szN ((((xs.take j).filter f).map h).length + 1) = true := by
        have l1 : ((xs.take j).filter f).length ≤ (xs.take j).length := List.length_filter_le _ _
        have l2 : (xs.take j).length ≤ j := by simp; omega
        simp only [szN, List.length_map, decide_eq_true_eq]
        omega
      rw [at_n]
      simp only [hz, if_true]
      have es : (C ++ [some (Cell.lst (((xs.take j).filter f).map h))]).set C.length (some (.lst (((xs.take j).filter f).map h ++ [h xs[j]]))) = C ++ [some (.lst (((xs.take j).filter f).map h ++ [h xs[j]]))] := by simp
      rw [es]
      simpa [List.filter_cons, hf] using ih
    | false =>
      rw [if_neg (by decide)]
      simpa [List.filter_cons, hf] using ih
/-- [e for t in it if c], nothing changed: plain data -/
theorem ev_lc {mi : MI} {it : ItD} {xs : List D} (p : PureIt it xs) {g : MG} {tt : MT} {te : ME} {vs : List Nat} {F : Fr} {C : Store} (f : D → Bool) (h : D → D) (hi : mi F C = .ok it C) (sz : xs.length ≤ 16777215)
    (st : ∀ x ∈ xs, ∃ sl1, g x (wipeD F.sl vs) = some sl1 ∧ ∀ acc, tt ⟨C.length, sl1⟩ (C ++ [some (.lst acc)]) = .ok (f x) (C ++ [some (.lst acc)]) ∧ (f x = true → te ⟨C.length, sl1⟩ (C ++ [some (.lst acc)]) = .ok (h x) (C ++ [some (.lst acc)])))
    (hc : ∀ x ∈ xs, f x = true → cb C.length (h x) = true) : mLc false mi g tt te vs F C = .ok (.lst ((xs.filter f).map h)) C := by
  have e := lc_go p sz st it.n 0 (by rw [p.n]; omega)
  unfold mLc
  rw [hi]
  simp only [bnd_ok]
  simp only [List.take_zero, List.filter_nil, List.map_nil] at e
  rw [e]
  simp only [bn0_ok]
  have at_n : (C ++ [some (Cell.lst ((xs.filter f).map h))])[C.length]? = some (some (.lst ((xs.filter f).map h))) := by simp
  have hb : cbL C.length ((xs.filter f).map h) = true := by
    have : ∀ l : List D, (∀ x ∈ l, f x = true → cb C.length (h x) = true) → cbL C.length ((l.filter f).map h) = true := by
      intro l
      induction l with
      | nil => intro _; rfl
      | cons x l ih =>
        intro hl
        rw [List.filter_cons]
        split
        · rename_i hx
          show (cb C.length (h x) && cbL C.length ((l.filter f).map h)) = true
          rw [hl x (List.mem_cons_self ..) hx, ih fun y hy => hl y (List.mem_cons_of_mem _ hy)]
          rfl
        · exact ih fun y hy => hl y (List.mem_cons_of_mem _ hy)
    exact this xs hc
  unfold lcEnd
  rw [if_neg (by decide), at_n]
  simp [hb]
theorem ev_rng1 {m : ME} {F : Fr} {C : Store} {j : Int} (h : m F C = .ok (.int j) C) (hj : inR j = true) : mRng1 m F C = .ok (itR 0 j.toNat) C := by
  unfold mRng1
  rw [h]
  simp [hj]
theorem ev_rng2 {m m2 : ME} {F : Fr} {C : Store} {i j : Int} (h : m F C = .ok (.int i) C) (h2 : m2 F C = .ok (.int j) C) (hi : inR i = true) (hj : inR j = true) : mRng2 m m2 F C = .ok (itR i (j - i).toNat) C := by
  unfold mRng2
  rw [h]
  simp [h2, hi, hj]
theorem ev_seqI {m : ME} {F : Fr} {C : Store} {d : D} {it : ItD} (h : m F C = .ok d C) (hi : itS d C = some it) : mSeq m F C = .ok it C := by
  unfold mSeq
  rw [h]
  simp [hi]
theorem ev_enum {m : ME} {F : Fr} {C : Store} {d : D} {it : ItD} (h : m F C = .ok d C) (hi : itS d C = some it) : mEnum m F C = .ok (prI it) C := by
  unfold mEnum
  rw [h]
  simp [hi]
/-! ### two clauses -/
theorem lc_from {it : ItD} {xs : List D} (p : PureIt it xs) {g : MG} {tt : MT} {te : ME} {C : Store} {sl : List (Option D)} {f : D → Bool} {h : D → D} {a0 : List D} (sz : a0.length + xs.length ≤ 16777215)
    (st : ∀ x ∈ xs, ∃ sl1, g x sl = some sl1 ∧ ∀ acc, tt ⟨C.length, sl1⟩ (C ++ [some (.lst acc)]) = .ok (f x) (C ++ [some (.lst acc)]) ∧ (f x = true → te ⟨C.length, sl1⟩ (C ++ [some (.lst acc)]) = .ok (h x) (C ++ [some (.lst acc)]))) :
    ∀ r j, r + j = xs.length → lcN it g tt te C.length sl r j (C ++ [some (.lst (a0 ++ ((xs.take j).filter f).map h))]) = .ok () (C ++ [some (.lst (a0 ++ (xs.filter f).map h))])
  | 0, j, e => by
    have ej : j = xs.length := by omega
    subst ej
    unfold lcN
    rw [if_pos (p.fin _), List.take_length]
  | r + 1, j, e => by
    have hj : j < xs.length := by omega
    obtain ⟨sl1, h1, h2⟩ := st xs[j] (List.getElem_mem hj)
    have ih := lc_from p sz st r (j + 1) (by omega)
    have tk : xs.take (j + 1) = xs.take j ++ [xs[j]] := (List.take_append_getElem hj).symm
    rw [tk, List.filter_append, List.map_append] at ih
    unfold lcN
    rw [p.item j _ hj, List.getElem?_eq_getElem hj]
    simp only [h1]
    obtain ⟨e1, e2⟩ := h2 (a0 ++ ((xs.take j).filter f).map h)
    rw [e1]
    simp only [bn0_ok]
    cases hf : f xs[j] with
    | true =>
      rw [if_pos rfl, e2 hf]
      simp only [bn0_ok]
      have at_n : (C ++ [some (Cell.lst (a0 ++ ((xs.take j).filter f).map h))])[C.length]? = some (some (.lst (a0 ++ ((xs.take j).filter f).map h))) := by simp
      have hz : szN ((a0 ++ ((xs.take j).filter f).map h).length + 1) = true := by
        have l1 : ((xs.take j).filter f).length ≤ (xs.take j).length := List.length_filter_le _ _
        have l2 : (xs.take j).length ≤ j := by simp; omega
        simp only [szN, List.length_append, List.length_map, decide_eq_true_eq]
        omega
      rw [at_n]
      simp only [hz, if_true]
      have es : (C ++ [some (Cell.lst (a0 ++ ((xs.take j).filter f).map h))]).set C.length (some (.lst (a0 ++ ((xs.take j).filter f).map h ++ [h xs[j]]))) = C ++ [some (.lst (a0 ++ ((xs.take j).filter f).map h ++ [h xs[j]]))] := by simp
      rw [es]
      simpa [List.filter_cons, hf] using ih
    | false =>
      rw [if_neg (by decide)]
      simpa [List.filter_cons, hf] using ih
/-- what the two clauses make -/
def flat2 (xs : List D) (ys : D → List D) (f : D → D → Bool) (h : D → D → D) : List D := xs.flatMap fun x => ((ys x).filter (f x)).map (h x)
theorem flat2_len (xs : List D) (ys : D → List D) (f : D → D → Bool) (h : D → D → D) {m : Nat} (hy : ∀ x ∈ xs, (ys x).length ≤ m) : (flat2 xs ys f h).length ≤ xs.length * m := by
  unfold flat2
  induction xs with
  | nil => simp
  | cons x xs ih =>
    have h1 := ih fun y hy' => hy y (List.mem_cons_of_mem _ hy')
    have h2 : (((ys x).filter (f x)).map (h x)).length ≤ m := by
      rw [List.length_map]
      exact Nat.le_trans (List.length_filter_le _ _) (hy x (List.mem_cons_self ..))
    rw [List.flatMap_cons, List.length_append, List.length_cons, Nat.succ_mul]
    omega
theorem lc2_go {it : ItD} {xs : List D} (p : PureIt it xs) {g g1 : MG} {mi1 : MI} {tt1 : MT} {te : ME} {C : Store} {sl : List (Option D)} {vs1 : List Nat} {ys : D → List D} {f : D → D → Bool} {h : D → D → D} {m : Nat} (hy : ∀ x ∈ xs, (ys x).length ≤ m) (sz : xs.length * m ≤ 16000000) (sm : m ≤ 700000)
    (st : ∀ x ∈ xs, ∃ sl1, g x sl = some sl1 ∧ ∀ acc, (∃ it1, PureIt it1 (ys x) ∧ mi1 ⟨C.length, sl1⟩ (C ++ [some (.lst acc)]) = .ok it1 (C ++ [some (.lst acc)])) ∧
      ∀ y ∈ ys x, ∃ sl2, g1 y (wipeD sl1 vs1) = some sl2 ∧ ∀ acc, tt1 ⟨C.length, sl2⟩ (C ++ [some (.lst acc)]) = .ok (f x y) (C ++ [some (.lst acc)]) ∧ (f x y = true → te ⟨C.length, sl2⟩ (C ++ [some (.lst acc)]) = .ok (h x y) (C ++ [some (.lst acc)]))) :
    ∀ r j, r + j = xs.length → lc2N it g tYesM mi1 g1 tt1 te C.length sl vs1 r j (C ++ [some (.lst (flat2 (xs.take j) ys f h))]) = .ok () (C ++ [some (.lst (flat2 xs ys f h))])
  | 0, j, e => by
    have ej : j = xs.length := by omega
    subst ej
    unfold lc2N
    rw [if_pos (p.fin _), List.take_length]
  | r + 1, j, e => by
    have hj : j < xs.length := by omega
    obtain ⟨sl1, h1, h2⟩ := st xs[j] (List.getElem_mem hj)
    have ih := lc2_go p hy sz sm st r (j + 1) (by omega)
    have tk : xs.take (j + 1) = xs.take j ++ [xs[j]] := (List.take_append_getElem hj).symm
    have fl : flat2 (xs.take (j + 1)) ys f h = flat2 (xs.take j) ys f h ++ ((ys xs[j]).filter (f xs[j])).map (h xs[j]) := by
      rw [tk]
      unfold flat2
      rw [List.flatMap_append]
      simp only [List.flatMap_cons, List.flatMap_nil, List.append_nil]
    rw [fl] at ih
    unfold lc2N
    rw [p.item j _ hj, List.getElem?_eq_getElem hj]
    simp only [h1]
    obtain ⟨⟨it1, p1, em⟩, h3⟩ := h2 (flat2 (xs.take j) ys f h)
    show bn0 (R.ok true (C ++ [some (.lst (flat2 (xs.take j) ys f h))])) _ = _
    simp only [bn0_ok, if_true]
    rw [em]
    simp only [bn0_ok]
    have hl : (flat2 (xs.take j) ys f h).length ≤ j * m := by
      have := flat2_len (xs.take j) ys f h (m := m) fun x hx => hy x (List.mem_of_mem_take hx)
      have e2 : (xs.take j).length = j := by simp; omega
      rw [e2] at this
      exact this
    have hl2 : (ys xs[j]).length ≤ m := hy _ (List.getElem_mem hj)
    have hjm : j * m ≤ xs.length * m := Nat.mul_le_mul_right _ (Nat.le_of_lt hj)
    have ein := lc_from p1 (g := g1) (tt := tt1) (te := te) (C := C) (sl := wipeD sl1 vs1) (f := f xs[j]) (h := h xs[j]) (a0 := flat2 (xs.take j) ys f h) (by omega) h3 it1.n 0 (by rw [p1.n]; omega)
    simp only [List.take_zero, List.filter_nil, List.map_nil, List.append_nil] at ein
    rw [ein]
    simp only [bn0_ok]
    exact ih
theorem ev_lc2 {mi mi1 : MI} {it : ItD} {xs : List D} (p : PureIt it xs) {g g1 : MG} {tt1 : MT} {te : ME} {vs vs1 : List Nat} {F : Fr} {C : Store} (ys : D → List D) (f : D → D → Bool) (h : D → D → D) (m : Nat) (hi : mi F C = .ok it C) (hy : ∀ x ∈ xs, (ys x).length ≤ m) (sz : xs.length * m ≤ 16000000) (sm : m ≤ 700000)
    (st : ∀ x ∈ xs, ∃ sl1, g x (wipeD F.sl vs) = some sl1 ∧ ∀ acc, (∃ it1, PureIt it1 (ys x) ∧ mi1 ⟨C.length, sl1⟩ (C ++ [some (.lst acc)]) = .ok it1 (C ++ [some (.lst acc)])) ∧
      ∀ y ∈ ys x, ∃ sl2, g1 y (wipeD sl1 vs1) = some sl2 ∧ ∀ acc, tt1 ⟨C.length, sl2⟩ (C ++ [some (.lst acc)]) = .ok (f x y) (C ++ [some (.lst acc)]) ∧ (f x y = true → te ⟨C.length, sl2⟩ (C ++ [some (.lst acc)]) = .ok (h x y) (C ++ [some (.lst acc)])))
    (hc : ∀ x ∈ xs, ∀ y ∈ ys x, f x y = true → cb C.length (h x y) = true) : mLc2 false mi g tYesM mi1 g1 tt1 te vs vs1 F C = .ok (.lst (flat2 xs ys f h)) C := by
  have e := lc2_go p hy sz sm st it.n 0 (by rw [p.n]; omega)
  unfold mLc2
  rw [hi]
  simp only [bnd_ok]
  have e0 : flat2 (xs.take 0) ys f h = [] := by simp [flat2]
  rw [e0] at e
  rw [e]
  simp only [bn0_ok]
  have at_n : (C ++ [some (Cell.lst (flat2 xs ys f h))])[C.length]? = some (some (.lst (flat2 xs ys f h))) := by simp
  have all : ∀ l : List D, (∀ d ∈ l, cb C.length d = true) → cbL C.length l = true := by
    intro l
    induction l with
    | nil => intro _; rfl
    | cons d l ih =>
      intro hl
      show (cb C.length d && cbL C.length l) = true
      rw [hl d (List.mem_cons_self ..), ih fun x hx => hl x (List.mem_cons_of_mem _ hx)]
      rfl
  have hb : cbL C.length (flat2 xs ys f h) = true := by
    refine all _ fun d hd => ?_
    unfold flat2 at hd
    obtain ⟨x, hx, hd⟩ := List.mem_flatMap.mp hd
    obtain ⟨y, hy', rfl⟩ := List.mem_map.mp hd
    obtain ⟨hy1, hy2⟩ := List.mem_filter.mp hy'
    exact hc x hx y hy1 hy2
  unfold lcEnd
  rw [if_neg (by decide), at_n]
  simp [hb]
/-! ### dicts from pairs to numbers -/
abbrev Dc := List ((Int × Int) × Int)
def dcK (d : Dc) : List (List Key) := d.map fun p => [.inl p.1.1, .inl p.1.2]
def dcV (d : Dc) : List D := d.map fun p => .int p.2
def dg : Dc → Int × Int → Option Int
  | [], _ => none
  | p :: r, k => if p.1 = k then some p.2 else dg r k
def dg0 (d : Dc) (k : Int × Int) : Int := (dg d k).getD 0
def dp (d : Dc) (k : Int × Int) (n : Int) : Dc := if d.any (fun p => decide (p.1 = k)) = true then d.map fun p => if p.1 = k then (p.1, n) else p else d ++ [(k, n)]
theorem key_eq (a b : Int × Int) : ([Sum.inl a.1, Sum.inl a.2] : List Key) = [.inl b.1, .inl b.2] ↔ a = b := by
  constructor
  · intro h
    simp only [List.cons.injEq, Sum.inl.injEq, and_true] at h
    exact Prod.ext h.1 h.2
  · rintro rfl
    rfl
theorem look_dc (k : Int × Int) : ∀ d : Dc, lookT (dcK d) (dcV d) [.inl k.1, .inl k.2] = (dg d k).map .int
  | [] => rfl
  | p :: r => by
    show (if ([.inl p.1.1, .inl p.1.2] : List Key) = [.inl k.1, .inl k.2] then some (D.int p.2) else lookT (dcK r) (dcV r) [.inl k.1, .inl k.2]) = _
    unfold dg
    by_cases h : p.1 = k
    · rw [if_pos ((key_eq _ _).mpr h), if_pos h]
      rfl
    · rw [if_neg (fun e => h ((key_eq _ _).mp e)), if_neg h, look_dc k r]
theorem any_dc (k : Int × Int) (d : Dc) : ((dcK d).any fun x => decide (x = [.inl k.1, .inl k.2])) = d.any fun p => decide (p.1 = k) := by
  unfold dcK
  rw [List.any_map]
  congr 1
  funext p
  exact decide_eq_decide.mpr (key_eq _ _)
theorem set_dc (k : Int × Int) (n : Int) : ∀ d : Dc, setT (dcK d) (dcV d) [.inl k.1, .inl k.2] (.int n) = dcV (d.map fun p => if p.1 = k then (p.1, n) else p)
  | [] => rfl
  | p :: r => by
    show (if ([.inl p.1.1, .inl p.1.2] : List Key) = [.inl k.1, .inl k.2] then D.int n else D.int p.2) :: setT (dcK r) (dcV r) [.inl k.1, .inl k.2] (.int n) = _
    rw [set_dc k n r]
    by_cases h : p.1 = k
    · rw [if_pos ((key_eq _ _).mpr h)]
      simp [dcV, h]
    · rw [if_neg (fun e => h ((key_eq _ _).mp e))]
      simp [dcV, h]
theorem put_dc (d : Dc) (k : Int × Int) (n : Int) : putT (dcK d) (dcV d) [.inl k.1, .inl k.2] (.int n) = (dcK (dp d k n), dcV (dp d k n)) := by
  unfold putT dp
  rw [any_dc]
  split
  · rw [set_dc]
    congr 1
    simp only [dcK, List.map_map]
    apply List.map_congr_left
    intro p _
    simp only [Function.comp]
    split <;> rfl
  · simp [dcK, dcV]
theorem dg_none {k : Int × Int} : ∀ {d : Dc}, d.any (fun p => decide (p.1 = k)) = false → dg d k = none
  | [], _ => rfl
  | p :: r, h => by
    rw [List.any_cons, Bool.or_eq_false_iff] at h
    unfold dg
    rw [if_neg (of_decide_eq_false h.1)]
    exact dg_none h.2
theorem dg_app {k k' : Int × Int} {n : Int} : ∀ d : Dc, dg (d ++ [(k, n)]) k' = match dg d k' with
    | some x => some x
    | none => if k = k' then some n else none
  | [] => rfl
  | p :: r => by
    have e1 : dg ((p :: r) ++ [(k, n)]) k' = if p.1 = k' then some p.2 else dg (r ++ [(k, n)]) k' := rfl
    have e2 : dg (p :: r) k' = if p.1 = k' then some p.2 else dg r k' := rfl
    rw [e1, e2]
    by_cases h : p.1 = k'
    · rw [if_pos h, if_pos h]
    · rw [if_neg h, if_neg h]
      exact dg_app r
theorem dg_map {k k' : Int × Int} {n : Int} : ∀ d : Dc, dg (d.map fun p => if p.1 = k then (p.1, n) else p) k' = if k' = k then (dg d k').map fun _ => n else dg d k'
  | [] => by simp [dg]
  | p :: r => by
    show dg ((if p.1 = k then (p.1, n) else p) :: r.map fun p => if p.1 = k then (p.1, n) else p) k' = _
    by_cases h1 : p.1 = k
    · rw [if_pos h1]
      unfold dg
      by_cases h2 : p.1 = k'
      · have e : k' = k := by rw [← h2, h1]
        simp [h2, e]
      · simp only [if_neg h2]
        exact dg_map r
    · rw [if_neg h1]
      unfold dg
      by_cases h2 : p.1 = k'
      · have e : ¬ k' = k := fun e => h1 (by rw [h2, e])
        simp [h2, e]
      · simp only [if_neg h2]
        exact dg_map r
theorem dg_some_of_any {k : Int × Int} : ∀ {d : Dc}, d.any (fun p => decide (p.1 = k)) = true → ∃ x, dg d k = some x
  | [], h => by cases h
  | p :: r, h => by
    unfold dg
    by_cases e : p.1 = k
    · exact ⟨p.2, if_pos e⟩
    · rw [List.any_cons, decide_eq_false e, Bool.false_or] at h
      obtain ⟨x, hx⟩ := dg_some_of_any h
      exact ⟨x, by rw [if_neg e]; exact hx⟩
theorem dg_dp (d : Dc) (k k' : Int × Int) (n : Int) : dg (dp d k n) k' = if k' = k then some n else dg d k' := by
  unfold dp
  split
  · rename_i h
    rw [dg_map]
    by_cases e : k' = k
    · subst e
      obtain ⟨x, hx⟩ := dg_some_of_any h
      simp [hx]
    · simp [e]
  · rename_i h
    rw [dg_app]
    by_cases e : k' = k
    · subst e
      rw [dg_none (Bool.not_eq_true _ ▸ h : d.any (fun p => decide (p.1 = k')) = false)]
    · have e' : ¬ k = k' := fun z => e z.symm
      cases dg d k' <;> simp [e, e']
theorem dg0_dp (d : Dc) (k k' : Int × Int) (n : Int) : dg0 (dp d k n) k' = if k' = k then n else dg0 d k' := by
  unfold dg0
  rw [dg_dp]
  split <;> rfl
theorem mem_dp {d : Dc} {k : Int × Int} {n : Int} {p : (Int × Int) × Int} (h : p ∈ dp d k n) : p = (k, n) ∨ p ∈ d := by
  unfold dp at h
  split at h
  · obtain ⟨q, hq, e⟩ := List.mem_map.mp h
    by_cases hk : q.1 = k
    · rw [if_pos hk] at e
      rw [← e, hk]
      exact .inl rfl
    · rw [if_neg hk] at e
      rw [← e]
      exact .inr hq
  · rcases List.mem_append.mp h with h | h
    · exact .inr h
    · exact .inl (by simpa using h)
theorem dp_len (d : Dc) (k : Int × Int) (n : Int) : (dp d k n).length ≤ d.length + 1 := by
  unfold dp
  split
  · simp
  · simp
theorem dp_keys (d : Dc) (k : Int × Int) (n : Int) (h : (d.map (·.1)).Nodup) : ((dp d k n).map (·.1)).Nodup := by
  unfold dp
  split
  · have : (d.map fun p => if p.1 = k then (p.1, n) else p).map (·.1) = d.map (·.1) := by
      rw [List.map_map]
      apply List.map_congr_left
      intro p _
      simp only [Function.comp]
      split <;> rfl
    rw [this]
    exact h
  · rename_i hn
    rw [List.map_append, List.nodup_append]
    refine ⟨h, by simp, fun a ha b hb => ?_⟩
    simp only [List.map_cons, List.map_nil, List.mem_singleton] at hb
    subst hb
    rintro rfl
    apply hn
    rw [List.any_eq_true]
    obtain ⟨p, hp, e⟩ := List.mem_map.mp ha
    exact ⟨p, hp, decide_eq_true e⟩
theorem dg_mem {k : Int × Int} {n : Int} : ∀ {d : Dc}, dg d k = some n → (k, n) ∈ d
  | [], h => by cases h
  | p :: r, h => by
    unfold dg at h
    split at h
    · rename_i e
      cases h
      rw [← e]
      exact List.mem_cons_self ..
    · exact List.mem_cons_of_mem _ (dg_mem h)
theorem mem_dg {k : Int × Int} {n : Int} : ∀ {d : Dc}, (d.map (·.1)).Nodup → (k, n) ∈ d → dg d k = some n
  | p :: r, h, hm => by
    rw [List.map_cons, List.nodup_cons] at h
    unfold dg
    rcases List.mem_cons.mp hm with e | hm
    · rw [← e, if_pos rfl]
    · rw [if_neg fun e => h.1 (by rw [e]; exact List.mem_map.mpr ⟨_, hm, rfl⟩)]
      exact mem_dg h.2 hm
end CT
set_option maxHeartbeats 4000000
/-! E3: walks over cells; own operators worked out. -/
namespace CT
open PySem L2
/-- what is walked stays while P holds: these items -/
structure ItOn (P : Store → Prop) (it : ItD) (xs : List D) : Prop where
  n : it.n = xs.length
  item : ∀ j C, P C → j < xs.length → it.item j C = xs[j]?
  fin : ∀ C, P C → it.fin C = true
theorem PureIt.on {it : ItD} {xs : List D} (h : PureIt it xs) (P : Store → Prop) : ItOn P it xs := ⟨h.n, fun j C _ => h.item j C, fun C _ => h.fin C⟩
theorem ItOn.imp {P P' : Store → Prop} {it : ItD} {xs : List D} (h : ItOn P it xs) (q : ∀ C, P' C → P C) : ItOn P' it xs := ⟨h.n, fun j C p => h.item j C (q C p), fun C p => h.fin C (q C p)⟩
theorem ItOn.pairs {P : Store → Prop} {it : ItD} {xs : List D} (h : ItOn P it xs) : ItOn P (prI it) ((List.range xs.length).zip xs |>.map fun p => D.tup [.int (p.1 : Nat), p.2]) := by
  refine ⟨by simp [prI, h.n], fun j C hp hj => ?_, fun C hp => h.fin C hp⟩
  have hj' : j < xs.length := by simpa using hj
  show (it.item j C).map _ = _
  rw [h.item j C hp hj', List.getElem?_map, List.getElem?_eq_getElem hj']
  simp [List.getElem?_zip_eq_some, hj']
theorem loop_on {P : Store → Prop} {it : ItD} {xs : List D} (p : ItOn P it xs) {g : MG} {body : MS} {fl : Nat} (I : Nat → List (Option D) → Store → Prop) (hP : ∀ j sl C, I j sl C → P C)
    (step : ∀ j x sl C, xs[j]? = some x → I j sl C → ∃ sl1 sl2 C2, g x sl = some sl1 ∧ body ⟨fl, sl1⟩ C = .nx sl2 C2 ∧ I (j + 1) sl2 C2) {sl : List (Option D)} {C : Store} (i : I 0 sl C) :
    ∃ sl' C', loopN it g body fl it.n 0 sl C = .nx sl' C' ∧ I xs.length sl' C' := by
  obtain ⟨sl', C', h1, h2⟩ := loop_inv I (fun j sl C hj i => by
    have hj' : j < xs.length := by rw [← p.n]; exact hj
    obtain ⟨sl1, sl2, C2, h1, h2, h3⟩ := step j xs[j] sl C (List.getElem?_eq_getElem hj') i
    exact ⟨xs[j], sl1, sl2, C2, by rw [p.item j C (hP _ _ _ i) hj', List.getElem?_eq_getElem hj'], h1, h2, h3⟩) (fun sl C i => p.fin C (hP _ _ _ i)) it.n 0 sl C (by omega) i
  exact ⟨sl', C', h1, by rw [← p.n]; exact h2⟩
/-- d is walked as xs wherever the store begins by C -/
def SeqIn (d : D) (xs : List D) (C : Store) : Prop := ∃ it, (∀ Y, itS d (C ++ Y) = some it) ∧ ItOn (fun S => ∃ Y, S = C ++ Y) it xs
theorem SeqIn.app {d : D} {xs : List D} {C : Store} (h : SeqIn d xs C) (Z : Store) : SeqIn d xs (C ++ Z) := by
  obtain ⟨it, h1, h2⟩ := h
  exact ⟨it, fun Y => by rw [List.append_assoc]; exact h1 _, h2.imp fun S ⟨Y, e⟩ => ⟨Z ++ Y, by rw [e, List.append_assoc]⟩⟩
theorem SeqIn.at0 {d : D} {xs : List D} {C : Store} (h : SeqIn d xs C) : ∃ it, itS d C = some it ∧ ItOn (fun S => ∃ Y, S = C ++ Y) it xs := by
  obtain ⟨it, h1, h2⟩ := h
  have := h1 []
  rw [List.append_nil] at this
  exact ⟨it, this, h2⟩
theorem seq_of {d : D} {xs : List D} (h : ∀ C, itS d C = some (itC xs)) (C : Store) : SeqIn d xs C := ⟨itC xs, fun Y => h _, (pure_C xs).on _⟩
theorem seq_cell {i : Nat} {xs : List D} {C : Store} (h : C[i]? = some (some (.lst xs))) : SeqIn (.cell i) xs C := by
  have hi : i < C.length := (List.getElem?_eq_some_iff.mp h).1
  have at_ : ∀ Y : Store, (C ++ Y)[i]? = some (some (.lst xs)) := fun Y => by rw [List.getElem?_append_left hi]; exact h
  refine ⟨itV i xs.length, fun Y => ?_, rfl, ?_, ?_⟩
  · show (match (C ++ Y)[i]? with
      | some (some (.lst ys)) => some (itV i ys.length)
      | _ => none) = _
    rw [at_]
  · rintro j S ⟨Y, rfl⟩ hj
    simp [itV, at_]
  · rintro S ⟨Y, rfl⟩
    simp [itV, at_]
/-! ### own operators -/
@[simp] theorem ev_revT {m : ME} {F : Fr} {C C1 : Store} {xs : List D} (h : m F C = .ok (.tup xs) C1) : mRevT m F C = .ok (.tup xs.reverse) C1 := by
  unfold mRevT
  rw [h]
  rfl
end CT
set_option maxHeartbeats 4000000
/-! E4: what a run must lead to, told backwards. -/
namespace CT
open PySem L2
/-! ### results -/
def wR0 {α : Type} (r : R α) (Q : α → Store → Prop) (E : Exc → Store → Prop) : Prop := match r with
  | .ok a C => Q a C
  | .exc e C => E e C
  | .stuck => False
/-- kept shut, so that no goal is worked out by chance -/
structure wR {α : Type} (r : R α) (Q : α → Store → Prop) (E : Exc → Store → Prop) : Prop where
  h : wR0 r Q E
structure wO (o : Option (D × Store)) (Q : D → Store → Prop) : Prop where
  h : ∃ d C, o = some (d, C) ∧ Q d C
structure wS (r : RS) (P : RS → Prop) : Prop where
  h : P r
structure wI (b : Bool) (p q : Prop) : Prop where
  h : if b = true then p else q
abbrev noX : Exc → Store → Prop := fun _ _ => False
section
variable {α β : Type} {Q : α → Store → Prop} {E : Exc → Store → Prop} {P : RS → Prop} {F : Fr} {C : Store}
theorem w_ok {a : α} (h : Q a C) : wR (.ok a C) Q E := ⟨h⟩
theorem w_exc {e : Exc} (h : E e C) : wR (.exc e C) Q E := ⟨h⟩
theorem w_of {r : R α} {a : α} {C' : Store} (e : r = .ok a C') (h : Q a C') : wR r Q E := by rw [e]; exact ⟨h⟩
theorem w_mono {r : R α} {Q' : α → Store → Prop} {E' : Exc → Store → Prop} (h : wR r Q' E') (q : ∀ a C, Q' a C → Q a C) (x : ∀ a C, E' a C → E a C) : wR r Q E := by
  cases r with
  | ok a C => exact ⟨q a C h.h⟩
  | exc e C => exact ⟨x e C h.h⟩
  | stuck => exact ⟨h.h⟩
theorem w_eqv {r : R α} {a : α} {C : Store} (h : wR r (fun d C' => d = a ∧ C' = C) noX) : r = .ok a C := by
  cases r with
  | ok a C => obtain ⟨h1, h2⟩ := h.h; rw [h1, h2]
  | exc e C => exact h.h.elim
  | stuck => exact h.h.elim
theorem w_out {r : R α} (h : wR r Q noX) : ∃ a C, r = .ok a C ∧ Q a C := by
  cases r with
  | ok a C => exact ⟨a, C, rfl, h.h⟩
  | exc e C => exact h.h.elim
  | stuck => exact h.h.elim
theorem w_bnd {m : R α} {f : α → Store → R β} {Q : β → Store → Prop} (h : wR m (fun a C => wR (f a C) Q E) E) : wR (bnd m f) Q E := by
  cases m with
  | ok a C => exact h.h
  | exc e C => exact ⟨h.h⟩
  | stuck => exact ⟨h.h⟩
theorem w_bndS {m : R α} {sl : List (Option D)} {f : α → Store → RS} (h : wR m (fun a C => wS (f a C) P) (fun e C => P (.xc e sl C))) : wS (bndS sl m f) P := by
  cases m with
  | ok a C => exact h.h
  | exc e C => exact ⟨h.h⟩
  | stuck => exact h.h.elim
theorem wo_of {o : Option (D × Store)} {d : D} {C' : Store} {Q : D → Store → Prop} (e : o = some (d, C')) (h : Q d C') : wO o Q := ⟨d, C', e, h⟩
theorem w_ofO {o : Option (D × Store)} {Q : D → Store → Prop} (h : wO o Q) : wR (ofO o) Q E := by
  obtain ⟨d, C', e, q⟩ := h.h
  rw [e]
  exact ⟨q⟩
theorem gR {r : R α} (h : wR r Q E) : wR r Q E := h
theorem gO {o : Option (D × Store)} {Q : D → Store → Prop} (h : wO o Q) : wO o Q := h
theorem gS {r : RS} (h : wS r P) : wS r P := h
theorem gI {b : Bool} {p q : Prop} (h : wI b p q) : wI b p q := h
theorem wI_t {p q : Prop} (h : p) : wI true p q := ⟨h⟩
theorem wI_f {p q : Prop} (h : q) : wI false p q := ⟨h⟩
theorem wI_d {b : Prop} [Decidable b] {p q : Prop} (h : b → p) (g : ¬ b → q) : wI (decide b) p q := by
  by_cases hb : b
  · rw [decide_eq_true hb]; exact ⟨h hb⟩
  · rw [decide_eq_false hb]; exact ⟨g hb⟩
theorem wI_dt {b : Prop} [Decidable b] {p q : Prop} (hb : b) (h : p) : wI (decide b) p q := by rw [decide_eq_true hb]; exact ⟨h⟩
theorem wI_df {b : Prop} [Decidable b] {p q : Prop} (hb : ¬ b) (h : q) : wI (decide b) p q := by rw [decide_eq_false hb]; exact ⟨h⟩
theorem wI_not {b : Bool} {p q : Prop} (h : wI b q p) : wI (!b) p q := by cases b <;> exact ⟨h.h⟩
end
/-! ### expressions -/
section
variable {Q : D → Store → Prop} {E : Exc → Store → Prop} {F : Fr} {C : Store}
theorem w_var {i : Nat} {fl : Nat} {sl : List (Option D)} {d : D} (e : sl[i]? = some (some d)) (h : Q d C) : wR (mVar i ⟨fl, sl⟩ C) Q E := by
  refine w_of (a := d) (C' := C) ?_ h
  show (match sl[i]? with
    | some (some d) => R.ok d C
    | _ => R.stuck) = _
  rw [e]
theorem w_c {d : D} (h : Q d C) : wR (mC d F C) Q E := ⟨h⟩
theorem w_op {o : O2} {a b : ME} (h : wR (a F C) (fun x C1 => wR (b F C1) (fun y C2 => wO (o x y C2) Q) E) E) : wR (mOp o a b F C) Q E :=
  w_bnd (w_mono h (fun _ _ g => w_bnd (w_mono g (fun _ _ g => w_ofO g) fun _ _ z => z)) fun _ _ z => z)
theorem w_un {o : O1} {a : ME} (h : wR (a F C) (fun x C1 => wO (o x C1) Q) E) : wR (mUn o a F C) Q E :=
  w_bnd (w_mono h (fun _ _ g => w_ofO g) fun _ _ z => z)
theorem w_ap {o : OA} {a : MA} (h : wR (a F C) (fun x C1 => wO (o x C1) Q) E) : wR (mAp o a F C) Q E :=
  w_bnd (w_mono h (fun _ _ g => w_ofO g) fun _ _ z => z)
theorem w_nil {Q : List D → Store → Prop} (h : Q [] C) : wR (mNil F C) Q E := ⟨h⟩
theorem w_cons {a : ME} {r : MA} {Q : List D → Store → Prop} (h : wR (a F C) (fun x C1 => wR (r F C1) (fun xs C2 => Q (x :: xs) C2) E) E) : wR (mCons a r F C) Q E :=
  w_bnd (w_mono h (fun _ _ g => w_bnd (w_mono g (fun _ _ g => w_ok g) fun _ _ z => z)) fun _ _ z => z)
theorem w_call {m : MF} {dds : List D} {a : MA} (h : wR (a F C) (fun xs C1 => wR (m (xs ++ dds) C1) Q E) E) : wR (mCall m dds a F C) Q E := w_bnd h
theorem w_tst {a : ME} {Q : Bool → Store → Prop} (h : wR (a F C) (fun d C1 => ∃ b, d = .bl b ∧ Q b C1) E) : wR (mTst a F C) Q E :=
  w_bnd (w_mono h (fun d C1 g => by obtain ⟨b, rfl, q⟩ := g; exact w_ok q) fun _ _ z => z)
theorem w_bl {b : Bool} {q : Bool → Prop} (h : q b) : ∃ b', D.bl b = .bl b' ∧ q b' := ⟨b, rfl, h⟩
theorem w_tand {a b : MT} {Q : Bool → Store → Prop} (h : wR (a F C) (fun x C1 => wI x (wR (b F C1) Q E) (Q false C1)) E) : wR (tAndM a b F C) Q E :=
  w_bnd (w_mono h (fun x C1 g => by
    cases x
    · exact w_ok g.h
    · exact g.h) fun _ _ z => z)
theorem w_tor {a b : MT} {Q : Bool → Store → Prop} (h : wR (a F C) (fun x C1 => wI x (Q true C1) (wR (b F C1) Q E)) E) : wR (tOrM a b F C) Q E :=
  w_bnd (w_mono h (fun x C1 g => by
    cases x
    · exact g.h
    · exact w_ok g.h) fun _ _ z => z)
theorem w_tnot {a : MT} {Q : Bool → Store → Prop} (h : wR (a F C) (fun x C1 => Q (!x) C1) E) : wR (tNotM a F C) Q E := w_bnd (w_mono h (fun _ _ g => w_ok g) fun _ _ z => z)
theorem w_yes {Q : Bool → Store → Prop} (h : Q true C) : wR (tYesM F C) Q E := ⟨h⟩
theorem w_and {a b : ME} (h : wR (a F C) (fun d C1 => ∃ x, d = .bl x ∧ wI x (wR (b F C1) Q E) (Q (.bl false) C1)) E) : wR (mAnd a b F C) Q E :=
  w_bnd (w_mono h (fun d C1 g => by
    obtain ⟨x, rfl, q⟩ := g
    cases x
    · exact w_ok q.h
    · exact q.h) fun _ _ z => z)
theorem w_or {a b : ME} (h : wR (a F C) (fun d C1 => ∃ x, d = .bl x ∧ wI x (Q (.bl true) C1) (wR (b F C1) Q E)) E) : wR (mOr a b F C) Q E :=
  w_bnd (w_mono h (fun d C1 g => by
    obtain ⟨x, rfl, q⟩ := g
    cases x
    · exact q.h
    · exact w_ok q.h) fun _ _ z => z)
theorem w_not {a : ME} (h : wR (a F C) (fun d C1 => ∃ x, d = .bl x ∧ Q (.bl (!x)) C1) E) : wR (mNot a F C) Q E :=
  w_bnd (w_mono h (fun d C1 g => by obtain ⟨x, rfl, q⟩ := g; exact w_ok q) fun _ _ z => z)
theorem w_if {t : MT} {a b : ME} (h : wR (t F C) (fun x C1 => wI x (wR (a F C1) Q E) (wR (b F C1) Q E)) E) : wR (mIf t a b F C) Q E :=
  w_bnd (w_mono h (fun x C1 g => by cases x <;> exact g.h) fun _ _ z => z)
theorem w_chain {o o' : O2} {a b c : ME} (h : wR (a F C) (fun x C1 => wR (b F C1) (fun y C2 => wO (o x y C2) fun z C3 => ∃ t, z = .bl t ∧ wI t (wR (c F C3) (fun w C4 => wO (o' y w C4) Q) E) (Q (.bl false) C3)) E) E) : wR (mChain o o' a b c F C) Q E :=
  w_bnd (w_mono h (fun x C1 g => w_bnd (w_mono g (fun y C2 g => w_bnd (w_ofO (by
    obtain ⟨d, C3, e, t, rfl, q⟩ := g.h
    refine wo_of e ?_
    cases t
    · exact w_ok q.h
    · exact w_bnd (w_mono q.h (fun _ _ g => w_ofO g) fun _ _ z => z)))) fun _ _ z => z)) fun _ _ z => z)
theorem w_prop {c : Nat} {m : MF} {mo : ME} (h : wR (mo F C) (fun d C1 => ∃ fs, d = .obj c fs ∧ wR (m [d] C1) Q noX) E) : wR (mProp c m mo F C) Q E :=
  w_bnd (w_mono h (fun d C1 g => by
    obtain ⟨fs, rfl, q⟩ := g
    show wR (if c = c then (match m [.obj c fs] C1 with
      | .ok d C2 => R.ok d C2
      | _ => R.stuck) else R.stuck) Q E
    rw [if_pos rfl]
    obtain ⟨a, C2, e, q⟩ := w_out q
    rw [e]
    exact w_ok q) fun _ _ z => z)
theorem w_meth {c : Nat} {m : MF} {dds : List D} {mo : ME} {a : MA} (h : wR (mo F C) (fun d C1 => ∃ fs, d = .obj c fs ∧ wR (a F C1) (fun xs C2 => wR (m (d :: (xs ++ dds)) C2) Q E) E) E) : wR (mMeth c m dds mo a F C) Q E :=
  w_bnd (w_mono h (fun d C1 g => by
    obtain ⟨fs, rfl, q⟩ := g
    simp only [vO, if_true]
    exact w_bnd q) fun _ _ z => z)
theorem w_obj {c : Nat} {fs : List D} {q : Prop} (h : q) : ∃ gs, D.obj c fs = .obj c gs ∧ q := ⟨fs, rfl, h⟩
theorem w_dget {a b c : ME} (h : wR (a F C) (fun x C1 => (vD x C1).isSome = true ∧ wR (b F C1) (fun y C2 => wR (c F C2) (fun z C3 => wO (oDGet x y z C3) Q) E) E) E) : wR (mDGet a b c F C) Q E :=
  w_bnd (w_mono h (fun x C1 g => by
    rw [if_pos g.1]
    exact w_bnd (w_mono g.2 (fun _ _ g => w_bnd (w_mono g (fun _ _ g => w_ofO g) fun _ _ z => z)) fun _ _ z => z)) fun _ _ z => z)
theorem w_isi {kn : List Nat} {t : Cc} {m : ME} (h : wR (m F C) (fun d C1 => ∃ b, isi kn d C1 t = some b ∧ Q (.bl b) C1) E) : wR (mIsi kn t m F C) Q E :=
  w_bnd (w_mono h (fun d C1 g => by obtain ⟨b, e, q⟩ := g; rw [e]; exact w_ok q) fun _ _ z => z)
theorem w_isi2 {kn : List Nat} {t u : Cc} {m : ME} (h : wR (m F C) (fun d C1 => ∃ b b', isi kn d C1 t = some b ∧ isi kn d C1 u = some b' ∧ Q (.bl (b || b')) C1) E) : wR (mIsi2 kn t u m F C) Q E :=
  w_bnd (w_mono h (fun d C1 g => by obtain ⟨b, b', e, e', q⟩ := g; rw [e, e']; exact w_ok q) fun _ _ z => z)
theorem w_part {m : ME} {Q : Option Int → Store → Prop} (h : wR (m F C) (fun d C1 => ∃ i, d = .int i ∧ Q (some i) C1) E) : wR (mPart m F C) Q E :=
  w_bnd (w_mono h (fun d C1 g => by obtain ⟨b, rfl, q⟩ := g; exact w_ok q) fun _ _ z => z)
theorem w_noPart {Q : Option Int → Store → Prop} (h : Q none C) : wR (mNoPart F C) Q E := ⟨h⟩
theorem w_slL {own : Bool} {a : ME} {l u : Fr → Store → R (Option Int)} (h : wR (a F C) (fun x C1 => wR (l F C1) (fun lo C2 => wR (u F C2) (fun hi C3 => ∃ xs, vLs x C3 = some xs ∧ Q (mkL own (cutD xs lo hi) C3).1 (mkL own (cutD xs lo hi) C3).2) E) E) E) : wR (mSlL own a l u F C) Q E :=
  w_bnd (w_mono h (fun _ _ g => w_bnd (w_mono g (fun _ _ g => w_bnd (w_mono g (fun _ _ g => by obtain ⟨xs, e, q⟩ := g; simp only [e]; exact w_ok q) fun _ _ z => z)) fun _ _ z => z)) fun _ _ z => z)
theorem w_slA {a : ME} {l u : Fr → Store → R (Option Int)} (h : wR (a F C) (fun x C1 => wR (l F C1) (fun lo C2 => wR (u F C2) (fun hi C3 => ∃ xs, x = .tup xs ∧ Q (.tup (cutD xs lo hi)) C3) E) E) E) : wR (mSlA a l u F C) Q E :=
  w_bnd (w_mono h (fun _ _ g => w_bnd (w_mono g (fun lo _ g => w_bnd (w_mono g (fun hi _ g => by
    obtain ⟨xs, rfl, q⟩ := g
    simp only [vT]
    split
    · rename_i hh
      have e : cutD xs lo hi = xs := by
        unfold cutD
        rw [hh.1, hh.2]
        simp
      rw [e] at q
      exact w_ok q
    · exact w_ok q) fun _ _ z => z)) fun _ _ z => z)) fun _ _ z => z)
theorem w_int {i : Int} {q : Int → Prop} (h : q i) : ∃ j, D.int i = .int j ∧ q j := ⟨i, rfl, h⟩
end
/-! ### operators -/
section
variable {Q : D → Store → Prop} {C : Store}
theorem wo_add {a b : Int} (h : Q (.int (a + b)) C) : wO (oAdd (.int a) (.int b) C) Q := wo_of rfl h
theorem wo_sub {a b : Int} (h : Q (.int (a - b)) C) : wO (oSub (.int a) (.int b) C) Q := wo_of rfl h
theorem wo_neg {a : Int} (h : Q (.int (-a)) C) : wO (oNeg (.int a) C) Q := wo_of rfl h
theorem wo_lt {a b : Int} (h : Q (.bl (decide (a < b))) C) : wO (oLt (.int a) (.int b) C) Q := wo_of rfl h
theorem wo_le {a b : Int} (h : Q (.bl (decide (a ≤ b))) C) : wO (oLe (.int a) (.int b) C) Q := wo_of rfl h
theorem wo_gt {a b : Int} (h : Q (.bl (decide (b < a))) C) : wO (oGt (.int a) (.int b) C) Q := wo_of rfl h
theorem wo_ge {a b : Int} (h : Q (.bl (decide (b ≤ a))) C) : wO (oGe (.int a) (.int b) C) Q := wo_of rfl h
theorem wo_eq {a b : Int} (h : Q (.bl (decide (a = b))) C) : wO (oEqA false (.int a) (.int b) C) Q := wo_of rfl h
theorem wo_ne {a b : Int} (h : Q (.bl (!decide (a = b))) C) : wO (oEqA true (.int a) (.int b) C) Q := wo_of rfl h
theorem wo_eqS {a b : Str} (h : Q (.bl (decide (a = b))) C) : wO (oEqA false (.str a) (.str b) C) Q := wo_of rfl h
theorem wo_neS {a b : Str} (h : Q (.bl (!decide (a = b))) C) : wO (oEqA true (.str a) (.str b) C) Q := wo_of rfl h
theorem wo_mul {a b : Int} (e : cMul a b = true) (h : Q (.int (a * b)) C) : wO (oMul (.int a) (.int b) C) Q := wo_of (ev_mul C e) h
theorem wo_mod {a b : Int} (e : 0 < b) (h : Q (.int (a % b)) C) : wO (oMod (.int a) (.int b) C) Q := wo_of (ev_mod C e) h
theorem wo_div {a b : Int} (e : 0 < b) (e2 : b < 4611686018427387904) (h : Q (.int (a / b)) C) : wO (oDiv (.int a) (.int b) C) Q := wo_of (ev_div C e e2) h
theorem wo_min {a b : Int} (h : Q (.int (min a b)) C) : wO (oMin2 [.int a, .int b] C) Q := wo_of (ev_min C a b) h
theorem wo_max {a b : Int} (h : Q (.int (max a b)) C) : wO (oMax2 [.int a, .int b] C) Q := wo_of (ev_max C a b) h
theorem wo_int {a : Int} (h : Q (.int a) C) : wO (oInt [.int a] C) Q := wo_of rfl h
theorem wo_abs {a : Int} (h : Q (.int (a.natAbs : Int)) C) : wO (oAbs [.int a] C) Q := wo_of (ev_abs C a) h
theorem wo_lst {own : Bool} {xs : List D} (e : szN xs.length = true) (h : Q (mkL own xs C).1 (mkL own xs C).2) : wO (oLst own xs C) Q := by
  refine wo_of ?_ h
  unfold oLst
  rw [if_pos e]
theorem wo_lstF {xs : List D} (e : szN xs.length = true) (h : Q (.lst xs) C) : wO (oLst false xs C) Q := wo_lst e h
theorem wo_lstT {xs : List D} (e : szN xs.length = true) (h : Q (.cell C.length) (C ++ [some (.lst xs)])) : wO (oLst true xs C) Q := wo_lst e h
theorem w_dnewF {E : Exc → Store → Prop} {F : Fr} (h : Q (.dT [] []) C) : wR (mDNew false F C) Q E := ⟨h⟩
theorem w_dnewT {E : Exc → Store → Prop} {F : Fr} (h : Q (.cell C.length) (C ++ [some (.dT [] [])])) : wR (mDNew true F C) Q E := ⟨h⟩
theorem w_slLF {E : Exc → Store → Prop} {F : Fr} {a : ME} {l u : Fr → Store → R (Option Int)} (h : wR (a F C) (fun x C1 => wR (l F C1) (fun lo C2 => wR (u F C2) (fun hi C3 => ∃ xs, vLs x C3 = some xs ∧ Q (.lst (cutD xs lo hi)) C3) E) E) E) : wR (mSlL false a l u F C) Q E := w_slL h
theorem wo_tup {xs : List D} (e : szN xs.length = true) (h : Q (.tup xs) C) : wO (oTup xs C) Q := by
  refine wo_of ?_ h
  unfold oTup
  rw [if_pos e]
theorem wo_fld {c n : Nat} {fs : List D} {d : D} (e : fs[n]? = some d) (h : Q d C) : wO (oFld c n (.obj c fs) C) Q := by
  refine wo_of ?_ h
  rw [ev_fld, e]
  rfl
theorem wo_len {x : D} {xs : List D} (e : vS x C = some xs) (h : Q (.int xs.length) C) : wO (oLen [x] C) Q := by
  refine wo_of (d := .int xs.length) (C' := C) ?_ h
  simp only [oLen, e, Option.map_some]
theorem wo_ix {x : D} {xs : List D} {i : Int} {k : Nat} {d : D} (e : vS x C = some xs) (hi : i = k) (hk : xs[k]? = some d) (h : Q d C) : wO (oIx x (.int i) C) Q := by
  subst hi
  have hl : k < xs.length := (List.getElem?_eq_some_iff.mp hk).1
  have e2 : atI xs (k : Int) = some d := by
    unfold atI ixN
    have h0 : (0 : Int) ≤ k := by omega
    simp [hl]
    exact (List.getElem?_eq_some_iff.mp hk).2
  refine wo_of (d := d) (C' := C) ?_ h
  unfold oIx
  rw [e]
  simp only [Option.bind_some, e2, Option.map_some]
end
/-! ### statements -/
def thn (b : MS) (fl : Nat) (P : RS → Prop) : RS → Prop := fun r => match r with
  | .nx sl C => wS (b ⟨fl, sl⟩ C) P
  | r => P r
section
variable {P : RS → Prop} {F : Fr} {C : Store} {E : Exc → Store → Prop}
theorem w_seq {a b : MS} {fl : Nat} {sl : List (Option D)} (h : wS (a ⟨fl, sl⟩ C) (thn b fl P)) : wS (sSeq a b ⟨fl, sl⟩ C) P := by
  have h := h.h
  unfold sSeq
  cases e : a ⟨fl, sl⟩ C with
  | nx sl C1 => rw [e] at h; exact h
  | rt d C1 => rw [e] at h; exact ⟨h⟩
  | bk d C1 => rw [e] at h; exact ⟨h⟩
  | ct d C1 => rw [e] at h; exact ⟨h⟩
  | xc x d C1 => rw [e] at h; exact ⟨h⟩
  | stuck => rw [e] at h; exact ⟨h⟩
theorem thn_nx {b : MS} {fl : Nat} {sl : List (Option D)} (h : wS (b ⟨fl, sl⟩ C) P) : thn b fl P (.nx sl C) := h
theorem thn_rt {b : MS} {fl : Nat} {d : D} (h : P (.rt d C)) : thn b fl P (.rt d C) := h
theorem thn_bk {b : MS} {fl : Nat} {sl : List (Option D)} (h : P (.bk sl C)) : thn b fl P (.bk sl C) := h
theorem thn_ct {b : MS} {fl : Nat} {sl : List (Option D)} (h : P (.ct sl C)) : thn b fl P (.ct sl C) := h
theorem thn_xc {b : MS} {fl : Nat} {e : Exc} {sl : List (Option D)} (h : P (.xc e sl C)) : thn b fl P (.xc e sl C) := h
theorem w_next {fl : Nat} {sl : List (Option D)} (h : P (.nx sl C)) : wS (sNext ⟨fl, sl⟩ C) P := ⟨h⟩
theorem w_brk {fl : Nat} {sl : List (Option D)} (h : P (.bk sl C)) : wS (sBrk ⟨fl, sl⟩ C) P := ⟨h⟩
theorem w_cnt {fl : Nat} {sl : List (Option D)} (h : P (.ct sl C)) : wS (sCnt ⟨fl, sl⟩ C) P := ⟨h⟩
theorem w_drop {m : ME} {fl : Nat} {sl : List (Option D)} (h : wR (m ⟨fl, sl⟩ C) (fun _ C1 => P (.nx sl C1)) (fun e C1 => P (.xc e sl C1))) : wS (sDrop m ⟨fl, sl⟩ C) P := w_bndS (w_mono h (fun _ _ g => ⟨g⟩) fun _ _ z => z)
theorem w_ret {m : ME} {fl : Nat} {sl : List (Option D)} (h : wR (m ⟨fl, sl⟩ C) (fun d C1 => P (.rt d C1)) (fun e C1 => P (.xc e sl C1))) : wS (sRet m ⟨fl, sl⟩ C) P := w_bndS (w_mono h (fun _ _ g => ⟨g⟩) fun _ _ z => z)
theorem w_retN (h : P (.rt .non C)) : wS (sRetN F C) P := ⟨h⟩
theorem w_sif {t : MT} {a b : MS} {fl : Nat} {sl : List (Option D)} (h : wR (t ⟨fl, sl⟩ C) (fun x C1 => wI x (wS (a ⟨fl, sl⟩ C1) P) (wS (b ⟨fl, sl⟩ C1) P)) (fun e C1 => P (.xc e sl C1))) : wS (sIf t a b ⟨fl, sl⟩ C) P :=
  w_bndS (w_mono h (fun x C1 g => by cases x <;> exact g.h) fun _ _ z => z)
theorem w_asg {m : ME} {i fl : Nat} {sl : List (Option D)} (h : wR (m ⟨fl, sl⟩ C) (fun d C1 => P (.nx (sl.set i (some d)) C1)) (fun e C1 => P (.xc e sl C1))) : wS (sAsg m (gN i) ⟨fl, sl⟩ C) P := w_bndS (w_mono h (fun _ _ g => ⟨g⟩) fun _ _ z => z)
theorem w_asgT {m : ME} {is : List Nat} {fl : Nat} {sl : List (Option D)} (h : wR (m ⟨fl, sl⟩ C) (fun d C1 => ∃ ds sl', d = .tup ds ∧ setAll is ds sl = some sl' ∧ P (.nx sl' C1)) (fun e C1 => P (.xc e sl C1))) : wS (sAsg m (gT is) ⟨fl, sl⟩ C) P :=
  w_bndS (w_mono h (fun x C1 g => by obtain ⟨ds, sl', rfl, e, q⟩ := g; show wS (asgS (setAll is ds sl) C1) P; rw [e]; exact ⟨q⟩) fun _ _ z => z)
theorem w_par {m : MA} {is : List Nat} {fl : Nat} {sl : List (Option D)} (h : wR (m ⟨fl, sl⟩ C) (fun ds C1 => ∃ sl', setAll is ds sl = some sl' ∧ P (.nx sl' C1)) (fun e C1 => P (.xc e sl C1))) : wS (sPar is m ⟨fl, sl⟩ C) P :=
  w_bndS (w_mono h (fun x C1 g => by obtain ⟨sl', e, q⟩ := g; show wS (asgS (setAll is x sl) C1) P; rw [e]; exact ⟨q⟩) fun _ _ z => z)
theorem w_raise {c n : Nat} {ma : MA} {fl : Nat} {sl : List (Option D)} (h : wR (ma ⟨fl, sl⟩ C) (fun ds C1 => ds.length = n ∧ P (.xc ⟨c, ds.reverse⟩ sl C1)) (fun e C1 => P (.xc e sl C1))) : wS (sRaise c n ma ⟨fl, sl⟩ C) P :=
  w_bndS (w_mono h (fun x C1 g => by rw [if_pos g.1]; exact ⟨g.2⟩) fun _ _ z => z)
theorem w_eq {r r' : RS} (e : r = r') (h : P r') : wS r P := by rw [e]; exact ⟨h⟩
theorem w_sof {r : RS} (h : P r) : wS r P := ⟨h⟩
/-- what stands behind a def's body -/
def fnl (n : Nat) (Q : D → Store → Prop) (E : Exc → Store → Prop) : RS → Prop := fun r => wR (finS n r) Q E
theorem w_fin {n : Nat} {r : RS} {Q : D → Store → Prop} (h : wS r (fnl n Q E)) : wR (finS n r) Q E := h.h
theorem fnl_int {n : Nat} {Q : D → Store → Prop} {i : Int} (h : Q (.int i) (C.take n)) : fnl n Q E (.rt (.int i) C) := w_ok h
theorem fnl_bl {n : Nat} {Q : D → Store → Prop} {i : Bool} (h : Q (.bl i) (C.take n)) : fnl n Q E (.rt (.bl i) C) := w_ok h
theorem fnl_non {n : Nat} {Q : D → Store → Prop} (h : Q .non (C.take n)) : fnl n Q E (.rt .non C) := w_ok h
theorem fnl_str {n : Nat} {Q : D → Store → Prop} {i : Str} (h : Q (.str i) (C.take n)) : fnl n Q E (.rt (.str i) C) := w_ok h
theorem fnl_nx {n : Nat} {Q : D → Store → Prop} {sl : List (Option D)} (h : Q .non (C.take n)) : fnl n Q E (.nx sl C) := w_ok h
theorem fnl_d {n : Nat} {Q : D → Store → Prop} {d : D} (e : ∀ i, d ≠ .cell i) (hc : cb n d = true) (h : Q d (C.take n)) : fnl n Q E (.rt d C) := by
  have z : fz n d C = d := by
    unfold fz
    split
    · exact absurd rfl (e _)
    · rfl
  show wR (fin n d C) Q E
  unfold fin
  rw [z, if_pos hc]
  exact w_ok h
theorem fnl_xc {n : Nat} {Q : D → Store → Prop} {x : Exc} {sl : List (Option D)} (hc : cbL n x.fs = true) (h : E x (C.take n)) : fnl n Q E (.xc x sl C) := by
  show wR (if cbL n x.fs = true then R.exc x (C.take n) else R.stuck) Q E
  rw [if_pos hc]
  exact w_exc h
end
/-! ### loops -/
def lpP (I : Nat → List (Option D) → Store → Prop) (j : Nat) (P : RS → Prop) : RS → Prop := fun r => match r with
  | .nx sl C => I j sl C
  | .ct sl C => I j sl C
  | .bk sl C => P (.nx sl C)
  | .rt d C => P (.rt d C)
  | .xc e sl C => P (.xc e sl C)
  | .stuck => False
theorem lp_nx {I : Nat → List (Option D) → Store → Prop} {j : Nat} {P : RS → Prop} {sl : List (Option D)} {C : Store} (h : I j sl C) : lpP I j P (.nx sl C) := h
theorem lp_rt {I : Nat → List (Option D) → Store → Prop} {j : Nat} {P : RS → Prop} {d : D} {C : Store} (h : P (.rt d C)) : lpP I j P (.rt d C) := h
theorem lp_bk {I : Nat → List (Option D) → Store → Prop} {j : Nat} {P : RS → Prop} {sl : List (Option D)} {C : Store} (h : P (.nx sl C)) : lpP I j P (.bk sl C) := h
theorem lp_xc {I : Nat → List (Option D) → Store → Prop} {j : Nat} {P : RS → Prop} {e : Exc} {sl : List (Option D)} {C : Store} (h : P (.xc e sl C)) : lpP I j P (.xc e sl C) := h
theorem loop_w {S : Store → Prop} {it : ItD} {xs : List D} (p : ItOn S it xs) {g : MG} {body : MS} {fl : Nat} {P : RS → Prop} (I : Nat → List (Option D) → Store → Prop) (hS : ∀ j sl C, I j sl C → S C)
    (step : ∀ j x sl C, xs[j]? = some x → I j sl C → ∃ sl1, g x sl = some sl1 ∧ wS (body ⟨fl, sl1⟩ C) (lpP I (j + 1) P)) (fin : ∀ sl C, I xs.length sl C → P (.nx sl C)) :
    ∀ r j sl C, r + j = xs.length → I j sl C → wS (loopN it g body fl r j sl C) P
  | 0, j, sl, C, h, i => by
    have e : j = xs.length := by omega
    subst e
    unfold loopN
    rw [if_pos (p.fin C (hS _ _ _ i))]
    exact ⟨fin sl C i⟩
  | r + 1, j, sl, C, h, i => by
    have hj : j < xs.length := by omega
    obtain ⟨sl1, h1, h2⟩ := step j xs[j] sl C (List.getElem?_eq_getElem hj) i
    unfold loopN
    rw [p.item j C (hS _ _ _ i) hj, List.getElem?_eq_getElem hj]
    simp only [h1]
    have h2 := h2.h
    unfold lpP at h2
    cases e : body ⟨fl, sl1⟩ C with
    | nx sl2 C2 => rw [e] at h2; exact loop_w p I hS step fin r (j + 1) sl2 C2 (by omega) h2
    | ct sl2 C2 => rw [e] at h2; exact loop_w p I hS step fin r (j + 1) sl2 C2 (by omega) h2
    | bk sl2 C2 => rw [e] at h2; exact ⟨h2⟩
    | rt d C2 => rw [e] at h2; exact ⟨h2⟩
    | xc x sl2 C2 => rw [e] at h2; exact ⟨h2⟩
    | stuck => rw [e] at h2; exact h2.elim
/-! ### comprehensions -/
theorem lc_w {S : Store → Prop} {it : ItD} {xs : List D} (p : ItOn S it xs) {g : MG} {tt : MT} {te : ME} {n : Nat} {sl : List (Option D)} (J : Nat → List D → Store → Prop) (hS : ∀ j acc C, J j acc C → S C) (hz : ∀ j acc C, J j acc C → acc.length < 16777216)
    (step : ∀ j x acc C, xs[j]? = some x → C[n]? = some (some (.lst acc)) → J j acc C → ∃ sl1, g x sl = some sl1 ∧ wR (tt ⟨n, sl1⟩ C) (fun b C1 => wI b (wR (te ⟨n, sl1⟩ C1) (fun y C2 => ∃ acc', C2[n]? = some (some (.lst acc')) ∧ acc'.length < 16777216 ∧ J (j + 1) (acc' ++ [y]) (C2.set n (some (.lst (acc' ++ [y])))) ∧ n < C2.length) noX) (∃ acc', C1[n]? = some (some (.lst acc')) ∧ J (j + 1) acc' C1)) noX) :
    ∀ r j acc C, r + j = xs.length → C[n]? = some (some (.lst acc)) → J j acc C → ∃ acc' C', lcN it g tt te n sl r j C = .ok () C' ∧ C'[n]? = some (some (.lst acc')) ∧ J xs.length acc' C'
  | 0, j, acc, C, h, c, i => by
    have e : j = xs.length := by omega
    subst e
    unfold lcN
    rw [if_pos (p.fin C (hS _ _ _ i))]
    exact ⟨acc, C, rfl, c, i⟩
  | r + 1, j, acc, C, h, c, i => by
    have hj : j < xs.length := by omega
    obtain ⟨sl1, h1, h2⟩ := step j xs[j] acc C (List.getElem?_eq_getElem hj) c i
    unfold lcN
    rw [p.item j C (hS _ _ _ i) hj, List.getElem?_eq_getElem hj]
    simp only [h1]
    obtain ⟨b, C1, e1, h3⟩ := w_out h2
    rw [e1]
    simp only [bn0_ok]
    cases b with
    | false =>
      obtain ⟨acc', c1, i1⟩ := h3.h
      rw [if_neg (by decide)]
      exact lc_w p J hS hz step r (j + 1) acc' C1 (by omega) c1 i1
    | true =>
      obtain ⟨y, C2, e2, acc', c2, z, i2, hn⟩ := w_out h3.h
      rw [if_pos rfl, e2]
      simp only [bn0_ok]
      rw [c2]
      have hs : szN (acc'.length + 1) = true := by simp only [szN, decide_eq_true_eq]; omega
      simp only [hs, if_true]
      exact lc_w p J hS hz step r (j + 1) (acc' ++ [y]) _ (by omega) (List.getElem?_set_self hn) i2
/-- [e for t in it if c], that may draw -/
theorem w_lc {mi : MI} {g : MG} {tt : MT} {te : ME} {vs : List Nat} {F : Fr} {C C1 : Store} {it : ItD} {xs : List D} {S : Store → Prop} {Q : D → Store → Prop} {E : Exc → Store → Prop} (hi : mi F C = .ok it C1) (p : ItOn S it xs) (J : Nat → List D → Store → Prop) (hS : ∀ j acc C, J j acc C → S C) (hz : ∀ j acc C, J j acc C → acc.length < 16777216)
    (i0 : J 0 [] (C1 ++ [some (.lst [])]))
    (step : ∀ j x acc C, xs[j]? = some x → C[C1.length]? = some (some (.lst acc)) → J j acc C → ∃ sl1, g x (wipeD F.sl vs) = some sl1 ∧ wR (tt ⟨C1.length, sl1⟩ C) (fun b C2 => wI b (wR (te ⟨C1.length, sl1⟩ C2) (fun y C3 => ∃ acc', C3[C1.length]? = some (some (.lst acc')) ∧ acc'.length < 16777216 ∧ J (j + 1) (acc' ++ [y]) (C3.set C1.length (some (.lst (acc' ++ [y])))) ∧ C1.length < C3.length) noX) (∃ acc', C2[C1.length]? = some (some (.lst acc')) ∧ J (j + 1) acc' C2)) noX)
    (fin : ∀ acc C, C[C1.length]? = some (some (.lst acc)) → J xs.length acc C → cbL C1.length acc = true ∧ Q (.lst acc) (C.take C1.length)) : wR (mLc false mi g tt te vs F C) Q E := by
  obtain ⟨acc, C', e, c, i⟩ := lc_w p J hS hz step it.n 0 [] (C1 ++ [some (.lst [])]) (by rw [p.n]; omega) (by simp) i0
  obtain ⟨f1, f2⟩ := fin acc C' c i
  unfold mLc
  rw [hi]
  simp only [bnd_ok]
  rw [e]
  simp only [bn0_ok]
  unfold lcEnd
  rw [if_neg (by decide), c]
  simp only [f1, if_true]
  exact w_ok f2
end CT
set_option maxHeartbeats 4000000
/-! E5: more steps told backwards. -/
namespace CT
open PySem L2
abbrev accS (C : Store) (acc : List D) : Store := C ++ [some (.lst acc)]
/-- [e for t in it if c], nothing changed -/
theorem w_lcP {mi : MI} {it : ItD} {xs : List D} {g : MG} {tt : MT} {te : ME} {vs : List Nat} {F : Fr} {C : Store} {Q : D → Store → Prop} {E : Exc → Store → Prop} (hi : mi F C = .ok it C) (p : PureIt it xs) (f : D → Bool) (h : D → D) (sz : xs.length ≤ 16777215)
    (st : ∀ x ∈ xs, ∃ sl1, g x (wipeD F.sl vs) = some sl1 ∧ ∀ acc, wR (tt ⟨C.length, sl1⟩ (accS C acc)) (fun b C' => b = f x ∧ C' = accS C acc) noX ∧ (f x = true → wR (te ⟨C.length, sl1⟩ (accS C acc)) (fun d C' => d = h x ∧ C' = accS C acc) noX))
    (hc : ∀ x ∈ xs, f x = true → cb C.length (h x) = true) (q : Q (.lst ((xs.filter f).map h)) C) : wR (mLc false mi g tt te vs F C) Q E := by
  refine w_of (ev_lc p f h hi sz (fun x hx => ?_) hc) q
  obtain ⟨sl1, h1, h2⟩ := st x hx
  refine ⟨sl1, h1, fun acc => ⟨?_, fun hf => ?_⟩⟩
  · obtain ⟨b, C', e, rfl, rfl⟩ := w_out (h2 acc).1
    exact e
  · obtain ⟨b, C', e, rfl, rfl⟩ := w_out ((h2 acc).2 hf)
    exact e
theorem fnl_p {n : Nat} {Q : D → Store → Prop} {E : Exc → Store → Prop} {d : D} {C : Store} (hc : cb 0 d = true) (h : Q d (C.take n)) : fnl n Q E (.rt d C) :=
  fnl_d (fun i e => by subst e; simp [cb] at hc) (cb_mono (Nat.zero_le _) hc) h
/-- an own list becomes plain data -/
theorem fnl_own {n : Nat} {Q : D → Store → Prop} {E : Exc → Store → Prop} {i : Nat} {xs : List D} {C : Store} (hi : n ≤ i) (hC : C[i]? = some (some (.lst xs))) (hc : cbL n xs = true) (h : Q (.lst xs) (C.take n)) : fnl n Q E (.rt (.cell i) C) := by
  show wR (fin n (.cell i) C) Q E
  have z : fz n (.cell i) C = .lst xs := by
    unfold fz
    simp [hC, hi]
  unfold fin
  rw [z, if_pos (by simpa [cb] using hc)]
  exact w_ok h
theorem w_mkT {Q : D → Store → Prop} {E : Exc → Store → Prop} {F : Fr} {C : Store} {own : Bool} {c nf : Nat} {m : MF} {dds : List D} {a : MA} (h : wR (a F C) (fun ds C1 => wR (mMake own c nf m dds (fun _ _ => .ok ds C1) F C1) Q E) E) : wR (mMake own c nf m dds a F C) Q E := by
  unfold mMake at h ⊢
  exact w_bnd h
/-- a list of cells' store that has one cell more -/
theorem take_app {C Y : Store} {n : Nat} (h : C.length = n) : (C ++ Y).take n = C := by subst h; simp
theorem wo_tupL {xs : List D} {C : Store} {Q : D → Store → Prop} (h : Q (.tup xs) C) : wO (oTupOf [.lst xs] C) Q := wo_of rfl h
theorem wo_tupT {xs : List D} {C : Store} {Q : D → Store → Prop} (h : Q (.tup xs) C) : wO (oTupOf [.tup xs] C) Q := wo_of rfl h
theorem wo_tupC {xs : List D} {C : Store} {Q : D → Store → Prop} {i : Nat} (e : C[i]? = some (some (.lst xs))) (h : Q (.tup xs) C) : wO (oTupOf [.cell i] C) Q := wo_of (by simp [oTupOf, vL, e]) h
theorem wo_catF {xs ys : List D} {C : Store} {Q : D → Store → Prop} (e : xs.length + ys.length ≤ 16777216) (h : Q (.lst (xs ++ ys)) C) : wO (oCat false (.lst xs) (.lst ys) C) Q := wo_of (by simp [oCat, vL, szN, e, mkL]) h
theorem wo_listF {x : D} {xs : List D} {C : Store} {Q : D → Store → Prop} (e : vS x C = some xs) (h : Q (.lst xs) C) : wO (oListOf false [x] C) Q := wo_of (by simp [oListOf, e, mkL]) h
theorem get_new {C Y : Store} {c : Option Cell} : (C ++ c :: Y)[C.length]? = some c := by simp
/-! ### writing -/
theorem w_setL {me mo mi : ME} {fl : Nat} {sl : List (Option D)} {C : Store} {P : RS → Prop} (h : wR (me ⟨fl, sl⟩ C) (fun v C1 => wR (mo ⟨fl, sl⟩ C1) (fun o C2 => wR (mi ⟨fl, sl⟩ C2) (fun x C3 => ∃ n i ds j C4, x = .int n ∧ cL o C3 = some (i, ds) ∧ ixN ds.length n = some j ∧ wr fl i (.lst (ds.set j v)) C3 = some C4 ∧ P (.nx sl C4)) (fun e C => P (.xc e sl C))) (fun e C => P (.xc e sl C))) (fun e C => P (.xc e sl C))) : wS (sSetL me mo mi ⟨fl, sl⟩ C) P :=
  w_bndS (w_mono h (fun v C1 g => w_bndS (w_mono g (fun o C2 g => w_bndS (w_mono g (fun x C3 g => by
    obtain ⟨n, i, ds, j, C4, rfl, e1, e2, e3, q⟩ := g
    simp only [e1, e2, e3]
    exact ⟨q⟩) fun _ _ z => z)) fun _ _ z => z)) fun _ _ z => z)
theorem w_put {me mo mi : ME} {fl : Nat} {sl : List (Option D)} {C : Store} {P : RS → Prop} (h : wR (me ⟨fl, sl⟩ C) (fun v C1 => wR (mo ⟨fl, sl⟩ C1) (fun o C2 => wR (mi ⟨fl, sl⟩ C2) (fun x C3 => ∃ C4, sPut (fun _ _ => .ok v C3) (fun _ _ => .ok o C3) (fun _ _ => .ok x C3) ⟨fl, sl⟩ C3 = .nx sl C4 ∧ P (.nx sl C4)) (fun e C => P (.xc e sl C))) (fun e C => P (.xc e sl C))) (fun e C => P (.xc e sl C))) : wS (sPut me mo mi ⟨fl, sl⟩ C) P :=
  w_bndS (w_mono h (fun v C1 g => w_bndS (w_mono g (fun o C2 g => w_bndS (w_mono g (fun x C3 g => by
    obtain ⟨C4, e, q⟩ := g
    unfold sPut at e
    simp only [bndS_ok] at e
    exact w_eq e q) fun _ _ z => z)) fun _ _ z => z)) fun _ _ z => z)
theorem wr_hi {fl i : Nat} {c : Cell} {C : Store} (h : fl ≤ i) : wr fl i c C = some (C.set i (some c)) := by
  unfold wr
  rw [if_neg (fun z => by omega)]
theorem w_append {mo me : ME} {F : Fr} {C : Store} {Q : D → Store → Prop} {E : Exc → Store → Prop} (h : wR (mo F C) (fun o C1 => (vL o C1).isSome = true ∧ wR (me F C1) (fun v C2 => ∃ i ds, cL o C2 = some (i, ds) ∧ F.fl ≤ i ∧ ds.length < 16777216 ∧ Q .non (C2.set i (some (.lst (ds ++ [v]))))) E) E) : wR (mAppend mo me F C) Q E := by
  unfold mAppend
  refine w_bnd (w_mono h (fun o C1 g => ?_) fun _ _ z => z)
  rw [if_pos g.1]
  refine w_bnd (w_mono g.2 (fun v C2 g => ?_) fun _ _ z => z)
  obtain ⟨i, ds, e, hi, hz, q⟩ := g
  have hs : szN (ds.length + 1) = true := by simp only [szN, decide_eq_true_eq]; omega
  simp only [e, hs, if_true, wr_hi hi]
  exact w_ok q
end CT
set_option maxHeartbeats 4000000
/-! E6: walks and comprehensions, step by step. -/
namespace CT
open PySem L2
section
variable {E : Exc → Store → Prop} {F : Fr} {C : Store} {P : RS → Prop}
theorem w_forI {mi : MI} {g : MG} {body : MS} {fl : Nat} {sl : List (Option D)} (h : wR (mi ⟨fl, sl⟩ C) (fun it C1 => wS (loopN it g body fl it.n 0 sl C1) P) (fun e C1 => P (.xc e sl C1))) : wS (sFor mi g body ⟨fl, sl⟩ C) P := w_bndS h
theorem w_seqI {m : ME} {Q : ItD → Store → Prop} (h : wR (m F C) (fun d C1 => ∃ it, itS d C1 = some it ∧ Q it C1) E) : wR (mSeq m F C) Q E :=
  w_bnd (w_mono h (fun d C1 g => by obtain ⟨it, e, q⟩ := g; simp only [e]; exact w_ok q) fun _ _ z => z)
theorem w_enum {m : ME} {Q : ItD → Store → Prop} (h : wR (m F C) (fun d C1 => ∃ it, itS d C1 = some it ∧ Q (prI it) C1) E) : wR (mEnum m F C) Q E :=
  w_bnd (w_mono h (fun d C1 g => by obtain ⟨it, e, q⟩ := g; simp only [e]; exact w_ok q) fun _ _ z => z)
theorem w_itL {xs : List D} {q : ItD → Prop} (h : q (itC xs)) : ∃ it, itS (.lst xs) C = some it ∧ q it := ⟨_, rfl, h⟩
theorem w_itT {xs : List D} {q : ItD → Prop} (h : q (itC xs)) : ∃ it, itS (.tup xs) C = some it ∧ q it := ⟨_, rfl, h⟩
theorem w_itK {xs : List D} {q : ItD → Prop} (h : q (itC xs)) : ∃ it, itS (.kt xs) C = some it ∧ q it := ⟨_, rfl, h⟩
theorem w_rng1 {m : ME} {Q : ItD → Store → Prop} (h : wR (m F C) (fun d C1 => ∃ j, d = .int j ∧ inR j = true ∧ Q (itR 0 j.toNat) C1) E) : wR (mRng1 m F C) Q E :=
  w_bnd (w_mono h (fun d C1 g => by obtain ⟨j, rfl, e, q⟩ := g; simp only [e, if_true]; exact w_ok q) fun _ _ z => z)
theorem w_rng2 {m m2 : ME} {Q : ItD → Store → Prop} (h : wR (m F C) (fun d C1 => wR (m2 F C1) (fun e C2 => ∃ i j, d = .int i ∧ e = .int j ∧ inR i = true ∧ inR j = true ∧ Q (itR i (j - i).toNat) C2) E) E) : wR (mRng2 m m2 F C) Q E :=
  w_bnd (w_mono h (fun d C1 g => w_bnd (w_mono g (fun e C2 g => by obtain ⟨i, j, rfl, rfl, e1, e2, q⟩ := g; simp only [e1, e2, Bool.and_self, if_true]; exact w_ok q) fun _ _ z => z)) fun _ _ z => z)
theorem inR_of {j : Int} (h : -1000000000000 ≤ j) (h2 : j ≤ 1000000000000) : inR j = true := by
  have e1 : decide (-(2 ^ 62) ≤ j) = true := decide_eq_true (by omega)
  have e2 : decide (j < 2 ^ 62) = true := decide_eq_true (by omega)
  simp only [inR, e1, e2, Bool.and_self]
theorem loop_p {it : ItD} {xs : List D} (p : PureIt it xs) {g : MG} {body : MS} {fl : Nat} {sl : List (Option D)} (I : Nat → List (Option D) → Store → Prop) (i0 : I 0 sl C)
    (step : ∀ j x sl C, xs[j]? = some x → I j sl C → ∃ sl1, g x sl = some sl1 ∧ wS (body ⟨fl, sl1⟩ C) (lpP I (j + 1) P)) (fin : ∀ sl C, I xs.length sl C → P (.nx sl C)) : wS (loopN it g body fl it.n 0 sl C) P :=
  loop_w (p.on fun _ => True) I (fun _ _ _ _ => trivial) step fin it.n 0 sl C (by rw [p.n]; omega) i0
def lcR (it : ItD) (g : MG) (tt : MT) (te : ME) (vs : List Nat) (F : Fr) (C1 : Store) : R D := mLc false (fun _ C => .ok it C) g tt te vs F C1
theorem w_lcI {mi : MI} {g : MG} {tt : MT} {te : ME} {vs : List Nat} {Q : D → Store → Prop} (h : wR (mi F C) (fun it C1 => wR (lcR it g tt te vs F C1) Q E) E) : wR (mLc false mi g tt te vs F C) Q E := by
  unfold lcR mLc at h
  unfold mLc
  exact w_bnd h
theorem lc_p {it : ItD} {xs : List D} {g : MG} {tt : MT} {te : ME} {vs : List Nat} {Q : D → Store → Prop} (p : PureIt it xs) (f : D → Bool) (h : D → D) (sz : xs.length ≤ 16777215)
    (st : ∀ x ∈ xs, ∃ sl1, g x (wipeD F.sl vs) = some sl1 ∧ ∀ acc, wR (tt ⟨C.length, sl1⟩ (accS C acc)) (fun b C' => b = f x ∧ C' = accS C acc) noX ∧ (f x = true → wR (te ⟨C.length, sl1⟩ (accS C acc)) (fun d C' => d = h x ∧ C' = accS C acc) noX))
    (hc : ∀ x ∈ xs, f x = true → cb C.length (h x) = true) (q : Q (.lst ((xs.filter f).map h)) C) : wR (lcR it g tt te vs F C) Q E := w_lcP rfl p f h sz st hc q
/-- a comprehension that draws from the cell b and keeps all else; R tells of each item -/
theorem lc_d {it : ItD} {xs : List D} {g : MG} {te : ME} {vs : List Nat} {Q : D → Store → Prop} (p : PureIt it xs) (B : Store → Prop) (Rel : D → D → Prop) (sz : xs.length ≤ 16777215) (b0 : B C)
    (hb : ∀ x d n, x ∈ xs → Rel x d → cb n d = true)
    (st : ∀ x ∈ xs, ∃ sl1, g x (wipeD F.sl vs) = some sl1 ∧ ∀ C' acc, B C' → C'.length = C.length → wR (te ⟨C.length, sl1⟩ (accS C' acc)) (fun d S => ∃ C'', S = accS C'' acc ∧ B C'' ∧ C''.length = C.length ∧ Rel x d) noX)
    (q : ∀ (ys : List D) (C' : Store), ys.length = xs.length → (∀ (j : Nat) (x y : D), xs[j]? = some x → ys[j]? = some y → Rel x y) → B C' → C'.length = C.length → Q (.lst ys) C') : wR (lcR it g tYesM te vs F C) Q E := by
  refine w_lc (mi := fun _ C => .ok it C) rfl (p.on fun _ => True) (fun j acc S => ∃ C', S = accS C' acc ∧ B C' ∧ C'.length = C.length ∧ acc.length = j ∧ j ≤ xs.length ∧ ∀ (k : Nat) (x y : D), xs[k]? = some x → acc[k]? = some y → Rel x y) (fun _ _ _ _ => trivial)
    (fun j acc S h => by obtain ⟨_, _, _, _, e, e2, _⟩ := h; omega) ⟨C, rfl, b0, rfl, rfl, Nat.zero_le _, by simp⟩ (fun j x acc S hx hc h => ?_) (fun acc S hc h => ?_)
  · obtain ⟨C', rfl, b, l, hl, hj, hr⟩ := h
    obtain ⟨sl1, e, s⟩ := st x (List.mem_of_getElem? hx)
    have hjl : j < xs.length := (List.getElem?_eq_some_iff.mp hx).1
    refine ⟨sl1, e, w_yes (wI_t (w_mono (s C' acc b l) (fun d S g => ?_) fun _ _ z => z))⟩
    obtain ⟨C'', rfl, b2, l2, r⟩ := g
    refine ⟨acc, by rw [← l2]; exact get_new, by omega, ⟨C'', by simp [accS, ← l2], b2, l2, by simp [hl], by omega, fun k x' y hk hy => ?_⟩, by simp [accS, l2]⟩
    by_cases hkj : k < acc.length
    · rw [List.getElem?_append_left hkj] at hy
      exact hr k x' y hk hy
    · have hk2 : k < (acc ++ [d]).length := (List.getElem?_eq_some_iff.mp hy).1
      have : k = acc.length := by simp at hk2; omega
      subst this
      rw [hl, hx] at hk
      cases hk
      simp at hy
      subst hy
      exact r
  · obtain ⟨C', rfl, b, l, hl, hj, hr⟩ := h
    have tk : (accS C' acc).take C.length = C' := by rw [← l]; simp [accS]
    refine ⟨?_, ?_⟩
    · have : ∀ (l : List D), (∀ d ∈ l, cb C.length d = true) → cbL C.length l = true := by
        intro l
        induction l with
        | nil => intro _; rfl
        | cons d l ih => intro hl; simp only [cbL, hl d (List.mem_cons_self ..), ih fun x hx => hl x (List.mem_cons_of_mem _ hx), Bool.and_self]
      refine this acc fun d hd => ?_
      obtain ⟨k, hk, rfl⟩ := List.getElem_of_mem hd
      have hkx : k < xs.length := by omega
      exact hb xs[k] acc[k] _ (List.getElem_mem hkx) (hr k _ _ (List.getElem?_eq_getElem hkx) (List.getElem?_eq_getElem hk))
    · rw [tk]
      exact q acc C' hl hr b l
end
end CT
set_option maxHeartbeats 4000000
/-! M22: the bag. -/
namespace CL
open PySem L2 CT
theorem filter_yes {α : Type} (l : List α) : l.filter (fun _ => true) = l := List.filter_eq_self.mpr fun _ _ => rfl
def absD : D → D
  | .int i => .int (i.natAbs : Int)
  | _ => .non
theorem bag_ok (ns : List Int) (hl : ns.length ≤ 63) : ∃ cs : List Int, (∀ c ∈ cs, 0 ≤ c) ∧ m_law_bag [scrD ns] [] = .ok (.cell 0) [some (bagC 0 1234567891 0 cs)] := by
  obtain ⟨ms, e, hm⟩ : ∃ ms : List Int, cutD (ns.map D.int) none (some 63) = ms.map D.int ∧ ms.length ≤ 63 := by
    refine ⟨(ns.drop (HT.sIx (ns.map D.int).length 0 none)).take (HT.sIx (ns.map D.int).length (ns.map D.int).length (some 63) - HT.sIx (ns.map D.int).length 0 none), ?_, ?_⟩
    · unfold cutD
      rw [List.map_take, List.map_drop]
    · rw [List.length_take, List.length_drop]
      omega
  refine ⟨ms.map fun i => (i.natAbs : Int), fun c hc => ?_, ?_⟩
  · obtain ⟨i, _, rfl⟩ := List.mem_map.mp hc
    omega
  have es : mSlL false (mVar 0) mNoPart (mPart (mC (.int 63))) ⟨0, [some (scrD ns), none]⟩ [] = .ok (.lst (ms.map D.int)) [] := by
    show ofO (some (mkL false (cutD (ns.map D.int) none (some 63)) [])) = _
    rw [e]
    rfl
  have el := ev_lc (pure_C (ms.map D.int)) (mi := mSeq (mSlL false (mVar 0) mNoPart (mPart (mC (.int 63))))) (g := (Tgt.nm 1).M) (tt := tYesM) (te := mAp oAbs (mCons (mVar 1) mNil)) (vs := [1]) (F := ⟨0, [some (scrD ns), none]⟩) (C := []) (fun _ => true) absD
    (ev_seqI (d := .lst (ms.map D.int)) es rfl) (by rw [List.length_map]; omega)
    (fun y hy => by
      obtain ⟨i, _, rfl⟩ := List.mem_map.mp hy
      exact ⟨[some (scrD ns), some (.int i)], by simp, fun acc => ⟨rfl, fun _ => by simp [absD]⟩⟩)
    (fun y hy _ => by
      obtain ⟨i, _, rfl⟩ := List.mem_map.mp hy
      rfl)
  rw [filter_yes, List.map_map] at el
  have eb : b_law_bag ⟨0, [some (scrD ns), none]⟩ [] = .rt (.cell 0) [some (bagC 0 1234567891 0 (ms.map fun i => (i.natAbs : Int)))] := by
    rw [b_law_bag, ev_sret, ev_ap, ev_cons, ev_c, consK_ok, ev_cons, ev_c, consK_ok, ev_cons, ev_c, consK_ok, ev_cons, el, consK_ok, ev_nil, consK2_ok, consK2_ok, consK2_ok, consK2_ok, apK_ok]
    have eo : ∀ x : D, oLst true [.int 0, .int 1234567891, .int 0, x] [] = some (.cell 0, [some (.lst [.int 0, .int 1234567891, .int 0, x])]) := fun x => by simp [oLst, szN, mkL]
    rw [eo, ev_ofO_some, retK_ok, bagC, List.map_map]
    rfl
  have ed : m_law_bag [scrD ns] [] = (match b_law_bag ⟨0, [some (scrD ns), none]⟩ [] with
    | .rt d C' => finO 0 d C'
    | .xc e _ C' => if cbL 0 e.fs = true then .exc e (C'.take 0) else .stuck
    | _ => .stuck) := rfl
  have cI := cbL_ints 0 (ms.map fun i => (i.natAbs : Int))
  rw [List.map_map] at cI
  rw [ed, eb]
  simp [finO, bagC, cbL, cb, cI]
theorem cbL_all {n : Nat} : ∀ {l : List D}, (∀ d ∈ l, cb n d = true) → cbL n l = true
  | [], _ => rfl
  | d :: l, h => by
    show (cb n d && cbL n l) = true
    rw [h d (List.mem_cons_self ..), cbL_all fun x hx => h x (List.mem_cons_of_mem _ hx)]
    rfl
theorem mem_rng {lo : Int} {N : Nat} {x : D} (h : x ∈ rngI lo N) : ∃ u : Nat, u < N ∧ x = .int (lo + u) := by
  unfold rngI at h
  obtain ⟨u, hu, rfl⟩ := List.mem_map.mp h
  exact ⟨u, List.mem_range.mp hu, rfl⟩
@[simp] theorem dBools_map : ∀ l : List Bool, dBools (l.map D.bl) = some l
  | [] => rfl
  | x :: l => by
    show (dBools (l.map D.bl)).map _ = _
    rw [dBools_map l]
    rfl
@[simp] theorem dInts_map : ∀ l : List Int, dInts (l.map D.int) = some l
  | [] => rfl
  | x :: l => by
    show (dInts (l.map D.int)).map _ = _
    rw [dInts_map l]
    rfl
/-- a bag at i -/
def Bg (i : Nat) (C : Store) : Prop := ∃ cs, (∀ x ∈ cs, 0 ≤ x) ∧ Bag i cs C
/-- the bag alone has changed -/
def To (i : Nat) (C C' : Store) : Prop := ∃ x, C' = C.set i (some x) ∧ Bg i C'
section
variable {i : Nat} {C C' C'' Y Z : Store} {n : Int}
theorem Bg.lt (h : Bg i C) : i < C.length := by
  obtain ⟨cs, _, a, b, c, e, _⟩ := h
  exact (List.getElem?_eq_some_iff.mp e).1
theorem Bg.app (h : Bg i C) (Y : Store) : Bg i (C ++ Y) := by
  have hi := h.lt
  obtain ⟨cs, hcs, a, b, c, e, q⟩ := h
  exact ⟨cs, hcs, a, b, c, by rw [List.getElem?_append_left hi]; exact e, q⟩
theorem Bg.cut (hi : i < C.length) (h : Bg i (C ++ Y)) : Bg i C := by
  obtain ⟨cs, hcs, a, b, c, e, q⟩ := h
  exact ⟨cs, hcs, a, b, c, by rw [List.getElem?_append_left hi] at e; exact e, q⟩
theorem To.bg (h : To i C C') : Bg i C' := by
  obtain ⟨x, _, b⟩ := h
  exact b
theorem To.len (h : To i C C') : C'.length = C.length := by
  obtain ⟨x, rfl, _⟩ := h
  simp
theorem To.trans (h : To i C C') (g : To i C' C'') : To i C C'' := by
  obtain ⟨x, rfl, _⟩ := h
  obtain ⟨y, rfl, b⟩ := g
  exact ⟨y, by simp, b⟩
theorem To.refl (h : Bg i C) : To i C C := by
  obtain ⟨cs, hcs, a, b, c, e, q⟩ := h
  refine ⟨bagC a b c cs, ?_, cs, hcs, a, b, c, e, q⟩
  obtain ⟨h1, h2⟩ := List.getElem?_eq_some_iff.mp e
  have z := List.set_getElem_self (as := C) (i := i) h1
  rw [h2] at z
  exact z.symm
theorem To.cut (hi : i < C.length) (h : To i (C ++ Y) Z) : ∃ C', Z = C' ++ Y ∧ To i C C' := by
  obtain ⟨x, rfl, b⟩ := h
  rw [List.set_append_left _ _ hi] at b ⊢
  exact ⟨_, rfl, x, rfl, b.cut (by simpa using hi)⟩
theorem take_to (hB : Bg i C) (hn : 0 < n) (hn2 : n < 4611686018427387904) (Y : Store) : ∃ r C', m_law_take [.cell i, .int n] (C ++ Y) = .ok (.int r) (C' ++ Y) ∧ 0 ≤ r ∧ r < n ∧ To i C C' := by
  have hi := hB.lt
  obtain ⟨cs, hcs, hB'⟩ := hB.app Y
  obtain ⟨r, x, e, h1, h2, h3⟩ := take_ok hB' hcs hn hn2
  obtain ⟨C', e2, t⟩ := To.cut hi (⟨x, rfl, cs, hcs, h3⟩ : To i (C ++ Y) ((C ++ Y).set i (some x)))
  exact ⟨r, C', by rw [e, e2], h1, h2, t⟩
end
theorem To.get {i j : Nat} {C C' : Store} (h : To i C C') (hj : j ≠ i) : C'[j]? = C[j]? := by
  obtain ⟨x, rfl, _⟩ := h
  rw [List.getElem?_set_ne (Ne.symm hj)]
theorem To.tk {i : Nat} {C C' : Store} (h : To i C C') : C'.take C.length = C' := by
  rw [← h.len, List.take_length]
theorem take_w {i : Nat} {C : Store} {n : Int} {Q : D → Store → Prop} {E : Exc → Store → Prop} (hB : Bg i C) (hn : 0 < n) (hn2 : n < 4611686018427387904) (h : ∀ r C', 0 ≤ r → r < n → To i C C' → Q (.int r) C') : wR (m_law_take [.cell i, .int n] C) Q E := by
  obtain ⟨r, C', e, r0, r1, t⟩ := take_to hB hn hn2 []
  rw [List.append_nil, List.append_nil] at e
  exact w_of e (h r C' r0 r1 t)
/-! TK3: data that can be shown and compared. -/
mutual
def sm : PyData → Bool
  | .none => true
  | .bool _ => true
  | .int i => decide (i.natAbs < 1000000000000)
  | .list xs => smA xs
  | .tuple xs => smA xs
  | .str _ => false
  | .dict _ => false
def smA : List PyData → Bool
  | [] => true
  | x :: xs => sm x && smA xs
end
mutual
theorem sm_ok : ∀ p : PyData, sm p = true → p.showable = true ∧ p.hasDict = false ∧ p.leavesShort 13 = true
  | .none, _ => ⟨rfl, rfl, rfl⟩
  | .bool _, _ => ⟨rfl, rfl, rfl⟩
  | .int i, h => by
    have h' : i.natAbs < 10 ^ 12 := by simpa [sm] using h
    refine ⟨?_, rfl, ?_⟩
    · show decide (i.natAbs.log2 < 1920) = true
      refine decide_eq_true ?_
      by_cases z : i.natAbs = 0
      · rw [z]
        decide
      · exact (Nat.log2_lt z).mpr (Nat.lt_trans h' (by decide))
    · show decide ((PyData.shown (.int i)).length ≤ 13) = true
      exact decide_eq_true (PyData.shown_int_le h')
  | .list xs, h => by
    have := smA_ok xs (by simpa [sm] using h)
    refine ⟨?_, ?_, ?_⟩
    · simpa [PyData.showable] using this.1
    · simpa [PyData.hasDict] using this.2.1
    · simpa [PyData.leavesShort] using this.2.2
  | .tuple xs, h => by
    have := smA_ok xs (by simpa [sm] using h)
    refine ⟨?_, ?_, ?_⟩
    · simpa [PyData.showable] using this.1
    · simpa [PyData.hasDict] using this.2.1
    · simpa [PyData.leavesShort] using this.2.2
  | .str _, h => by simp [sm] at h
  | .dict _, h => by simp [sm] at h
theorem smA_ok : ∀ xs : List PyData, smA xs = true → PyData.showableAll xs = true ∧ PyData.hasDictAll xs = false ∧ PyData.leavesShortAll 13 xs = true
  | [], _ => ⟨rfl, rfl, rfl⟩
  | x :: xs, h => by
    simp only [smA, Bool.and_eq_true] at h
    obtain ⟨a1, a2, a3⟩ := sm_ok x h.1
    obtain ⟨b1, b2, b3⟩ := smA_ok xs h.2
    simp [PyData.showableAll, PyData.hasDictAll, PyData.leavesShortAll, a1, a2, a3, b1, b2, b3]
end
theorem wt_int {i : Int} (h : i.natAbs < 1000000000000) : (PyData.int i).weight ≤ 40 := by
  simp only [PyData.weight]
  split
  · omega
  · rename_i z
    have z' : i.natAbs ≠ 0 := by
      intro e
      apply z
      have : i = 0 := by omega
      rw [this]
      rfl
    have : i.natAbs.log2 < 40 := (Nat.log2_lt z').mpr (Nat.lt_trans h (by decide))
    omega
structure Gd (w dp : Nat) (x : D) (p : PyData) : Prop where
  tp : ∀ C, toP C x = some p
  cl : p.canLay0 = true
  sh : p.showable = true
  nd : p.hasDict = false
  ls : p.leavesShort 40 = true
  dp : p.depth ≤ dp
  wt : p.weight ≤ w
structure GdL (w dp : Nat) (xs : List D) (ps : List PyData) : Prop where
  tp : ∀ C, toPs C xs = some ps
  cl : PyData.canLayAll0 ps = true
  sh : PyData.showableAll ps = true
  nd : PyData.hasDictAll ps = false
  ls : PyData.leavesShortAll 40 ps = true
  dp : PyData.depthAll ps ≤ dp
  wt : PyData.weightAll ps ≤ xs.length * (w + 1)
  len : ps.length = xs.length
theorem gdl_nil {w dp : Nat} : GdL w dp [] [] := ⟨fun _ => rfl, rfl, rfl, rfl, rfl, by simp [PyData.depthAll], by simp [PyData.weightAll], rfl⟩
theorem gdl_cons {w dp : Nat} {x : D} {p : PyData} {xs : List D} {ps : List PyData} (h : Gd w dp x p) (t : GdL w dp xs ps) : GdL w dp (x :: xs) (p :: ps) := by
  refine ⟨fun C => ?_, ?_, ?_, ?_, ?_, ?_, ?_, ?_⟩
  · simp only [toPs, h.tp, t.tp]
  · simp [PyData.canLayAll0, h.cl, t.cl]
  · simp [PyData.showableAll, h.sh, t.sh]
  · simp [PyData.hasDictAll, h.nd, t.nd]
  · simp [PyData.leavesShortAll, h.ls, t.ls]
  · have h1 := h.dp
    have h2 := t.dp
    simp only [PyData.depthAll]
    omega
  · have h1 := h.wt
    have h2 := t.wt
    simp only [PyData.weightAll, List.length_cons, Nat.succ_mul]
    omega
  · simp [t.len]
theorem gdl_all {w dp : Nat} : ∀ {xs : List D}, (∀ x ∈ xs, ∃ p, Gd w dp x p) → ∃ ps, GdL w dp xs ps
  | [], _ => ⟨[], gdl_nil⟩
  | x :: xs, h => by
    obtain ⟨p, hp⟩ := h x (List.mem_cons_self ..)
    obtain ⟨ps, ht⟩ := gdl_all fun y hy => h y (List.mem_cons_of_mem _ hy)
    exact ⟨p :: ps, gdl_cons hp ht⟩
theorem gd_tup {w dp n : Nat} {xs : List D} {ps : List PyData} (h : GdL w dp xs ps) (hn : xs.length ≤ n) : Gd (n * (w + 1)) (dp + 1) (.tup xs) (.tuple ps) := by
  refine ⟨fun C => ?_, ?_, ?_, ?_, ?_, ?_, ?_⟩
  · simp only [toP, h.tp, Option.map_some]
  · simpa [PyData.canLay0] using h.cl
  · simpa [PyData.showable] using h.sh
  · simpa [PyData.hasDict] using h.nd
  · simpa [PyData.leavesShort] using h.ls
  · have := h.dp
    simp only [PyData.depth]
    omega
  · have := h.wt
    have z : xs.length * (w + 1) ≤ n * (w + 1) := Nat.mul_le_mul_right _ hn
    simp only [PyData.weight]
    omega
theorem Gd.mono {w w' dp dp' : Nat} {x : D} {p : PyData} (h : Gd w dp x p) (hw : w ≤ w') (hd : dp ≤ dp') : Gd w' dp' x p := ⟨h.tp, h.cl, h.sh, h.nd, h.ls, Nat.le_trans h.dp hd, Nat.le_trans h.wt hw⟩
theorem Gd.ok {w dp : Nat} {x : D} {p : PyData} (h : Gd w dp x p) (hw : w ≤ 300000) (hd : dp ≤ 60) : repOk p = true := by
  have h4 := PyData.shown_le 40 (by decide) p h.ls
  have h5 := h.wt
  have h6 := h.dp
  have hz : p.shown.length ≤ 16777216 := by omega
  have hd' : p.depth ≤ 60 := by omega
  simp [repOk, h.sh, h.nd, hd', szN, hz]
theorem Gd.shp {w dp : Nat} {x : D} {p : PyData} (h : Gd w dp x p) (hd : dp ≤ 60) : SeqAt.shaped p = true := by
  have := h.dp
  have h64 : p.depth ≤ 64 := by omega
  simp [SeqAt.shaped, h.cl, h64]
theorem gd_int {i : Int} (h : i.natAbs < 1000000000000) : Gd 40 0 (.int i) (.int i) := by
  have h1 := sm_ok (.int i) (by simpa [sm] using h)
  have h' : i.natAbs < 10 ^ 12 := h
  refine ⟨fun _ => rfl, rfl, h1.1, rfl, ?_, by simp [PyData.depth], wt_int h⟩
  have := PyData.shown_int_le h'
  simp only [PyData.leavesShort, decide_eq_true_eq]
  omega
theorem is_integer_int (x : Int) (C : Store) : m_is_integer [.int x] C = .ok (.bl true) C := by
  simp [m_is_integer, b_is_integer, ev_def, isi, tyD, isaT]
local macro_rules | `(tactic| walk_at "w") => `(tactic| first | ((with_reducible apply gR); first | with_reducible refine w_var rfl ?_ | with_reducible apply w_cons | with_reducible apply w_c | with_reducible apply w_nil | with_reducible apply w_op | with_reducible apply w_ap | with_reducible apply w_call | with_reducible apply w_tst | with_reducible apply w_un | with_reducible apply w_tand | with_reducible apply w_tor | with_reducible apply w_tnot | with_reducible apply w_yes | with_reducible apply w_and | with_reducible apply w_or | with_reducible apply w_not | with_reducible apply w_if | with_reducible apply w_chain | with_reducible apply w_isi | with_reducible apply w_isi2 | with_reducible apply w_prop | with_reducible apply w_meth | with_reducible apply w_dget | with_reducible apply w_dnewF | with_reducible apply w_dnewT | with_reducible apply w_part | with_reducible apply w_noPart | with_reducible apply w_slLF | with_reducible apply w_slA | with_reducible apply w_ok | with_reducible apply w_ofO | with_reducible apply w_lcI | with_reducible apply w_seqI | with_reducible apply w_rng1 | with_reducible apply w_rng2 | with_reducible apply w_enum) | ((with_reducible apply gO); first | with_reducible apply wo_add | with_reducible apply wo_sub | with_reducible apply wo_lt | with_reducible apply wo_gt | with_reducible apply wo_eq | with_reducible apply wo_ne | with_reducible apply wo_le | with_reducible apply wo_ge | with_reducible apply wo_neg | with_reducible apply wo_eqS | with_reducible apply wo_neS | with_reducible apply wo_min | with_reducible apply wo_max | with_reducible apply wo_int | with_reducible apply wo_abs | with_reducible apply wo_tupL | with_reducible apply wo_tupT | with_reducible refine wo_tup (by with_unfolding_all rfl) ?_ | with_reducible refine wo_lstF (by with_unfolding_all rfl) ?_ | with_reducible refine wo_lstT (by with_unfolding_all rfl) ?_ | with_reducible apply wo_fld0 | with_reducible apply wo_fldH0 | with_reducible apply wo_fld1 | with_reducible apply wo_fld2 | with_reducible apply wo_fldW0 | with_reducible apply wo_fldW1 | with_reducible apply wo_fldW2) | ((with_reducible apply gS); first | with_reducible apply w_seq | with_reducible apply w_asg | with_reducible apply w_sif | with_reducible apply w_next | with_reducible apply w_ret | with_reducible apply w_par | with_reducible apply w_drop | with_reducible apply w_asgT | with_reducible apply w_retN | with_reducible apply w_brk | with_reducible apply w_cnt | with_reducible apply w_raise | with_reducible apply w_forI) | ((with_reducible apply gI); first | with_reducible apply wI_t | with_reducible apply wI_f | with_reducible apply wI_not) | with_reducible apply w_bl | with_reducible apply thn_nx | with_reducible apply w_int | with_reducible apply w_obj | with_reducible apply thn_rt | with_reducible apply lp_nx | with_reducible apply fnl_int | with_reducible apply fnl_bl | with_reducible apply fnl_non | with_reducible apply fnl_str | with_reducible apply fnl_nx | with_reducible apply thn_bk | with_reducible apply thn_ct | with_reducible apply thn_xc | with_reducible apply lp_rt | with_reducible apply lp_bk | with_reducible apply lp_xc | with_reducible apply w_itL | with_reducible apply w_itT | with_reducible apply w_itK)
local macro_rules | `(tactic| walk_at "p") => `(tactic| repeat walk_at "w")
/-! LE2D: pairs in order. -/
def le2 (p q : Int × Int) : Bool := decide (p.1 < q.1 ∨ (p.1 = q.1 ∧ p.2 ≤ q.2))
theorem le2_trans (a b c : Int × Int) (h1 : le2 a b = true) (h2 : le2 b c = true) : le2 a c = true := by
  simp only [le2, decide_eq_true_eq] at *
  omega
theorem le2_total (a b : Int × Int) : (le2 a b || le2 b a) = true := by
  simp only [le2, Bool.or_eq_true, decide_eq_true_eq]
  omega
/-! S2: runs as data; merged. -/
def rD (r : Rn) : D := .tup [.int r.1, .int r.2]
def rsD (l : List Rn) : List D := l.map rD
def rP (r : Rn) : PyData := .tuple [.int r.1, .int r.2]
def rsP (l : List Rn) : List PyData := l.map rP
@[simp] theorem rsD_len (l : List Rn) : (rsD l).length = l.length := by simp [rsD]
theorem toPs_rs (C : Store) : ∀ l, toPs C (rsD l) = some (rsP l)
  | [] => rfl
  | r :: l => by
    have e := toPs_rs C l
    show (match toP C (rD r), toPs C (rsD l) with | some p, some ps => some (p :: ps) | _, _ => none) = _
    rw [e]
    rfl
theorem toP0s_rs : ∀ l, toP0s (rsD l) = some (rsP l)
  | [] => rfl
  | r :: l => by
    have e := toP0s_rs l
    show (match toP0 (rD r), toP0s (rsD l) with | some p, some ps => some (p :: ps) | _, _ => none) = _
    rw [e]
    rfl
theorem toP_tup (C : Store) (l : List Rn) : toP C (.tup (rsD l)) = some (.tuple (rsP l)) := by simp [toP, toPs_rs]
theorem toP_lst (C : Store) (l : List Rn) : toP C (.lst (rsD l)) = some (.list (rsP l)) := by simp [toP, toPs_rs]
theorem toP_cell {C : Store} {i : Nat} {l : List Rn} (h : C[i]? = some (some (.lst (rsD l)))) : toP C (.cell i) = some (.list (rsP l)) := by simp [toP, h, toP0s_rs]
theorem eqv_rs : ∀ a b : List Rn, PyData.eqvAll (rsP a) (rsP b) = decide (a = b)
  | [], [] => rfl
  | [], _ :: _ => rfl
  | _ :: _, [] => rfl
  | x :: a, y :: b => by
    have e := eqv_rs a b
    show (PyData.eqv (rP x) (rP y) && PyData.eqvAll (rsP a) (rsP b)) = _
    rw [e, Bool.eq_iff_iff]
    obtain ⟨x1, x2⟩ := x
    obtain ⟨y1, y2⟩ := y
    simp [PyData.eqv, PyData.eqvAll, rP]
theorem lay_rs : ∀ l : List Rn, PyData.canLayAll0 (rsP l) = true
  | [] => rfl
  | r :: l => by
    have e := lay_rs l
    show (PyData.canLay0 (rP r) && PyData.canLayAll0 (rsP l)) = true
    rw [e]
    rfl
theorem dep_rs : ∀ l : List Rn, PyData.depthAll (rsP l) ≤ 1
  | [] => by simp [rsP, PyData.depthAll]
  | r :: l => by
    have e := dep_rs l
    have e1 : (rP r).depth = 1 := rfl
    show max (rP r).depth (PyData.depthAll (rsP l)) ≤ 1
    omega
theorem shp_t (l : List Rn) : SeqAt.shaped (.tuple (rsP l)) = true := by
  have := dep_rs l
  have h : PyData.depthAll (rsP l) + 1 ≤ 64 := by omega
  simp [SeqAt.shaped, PyData.canLay0, lay_rs, PyData.depth, h]
theorem shp_l (l : List Rn) : SeqAt.shaped (.list (rsP l)) = true := by
  have := dep_rs l
  have h : PyData.depthAll (rsP l) + 1 ≤ 64 := by omega
  simp [SeqAt.shaped, PyData.canLay0, lay_rs, PyData.depth, h]
theorem ne_cell {C : Store} {i : Nat} {l : List Rn} (h : C[i]? = some (some (.lst (rsD l)))) : oEqA true (.cell i) (.lst []) C = some (.bl (!decide (l = [])), C) := by
  show oEqD true (.cell i) (.lst (rsD [])) C = _
  simp only [oEqD, toP_cell h, toP_lst, shp_l, PyData.eqv, eqv_rs, Bool.and_self, if_true]
def hvP (E O : List Rn) : PyData := .tuple [.tuple (rsP E), .tuple (rsP O)]
def hvD (E O : List Rn) : D := .tup [.tup (rsD E), .tup (rsD O)]
theorem toP_hv (C : Store) (E O : List Rn) : toP C (hvD E O) = some (hvP E O) := by
  have e1 := toP_tup C E
  have e2 := toP_tup C O
  simp [hvD, hvP, toP, toPs] at e1 e2 ⊢
  rw [toPs_rs, toPs_rs]
  rfl
theorem shp_hv (E O : List Rn) : SeqAt.shaped (hvP E O) = true := by
  have h1 := dep_rs E
  have h2 := dep_rs O
  have h : max (PyData.depthAll (rsP E) + 1) (PyData.depthAll (rsP O) + 1) + 1 ≤ 64 := by omega
  simp [hvP, SeqAt.shaped, PyData.canLay0, PyData.canLayAll0, lay_rs, PyData.depth, PyData.depthAll]
  omega
theorem eq_hv (E O E' O' : List Rn) (C : Store) : oEqA false (hvD E O) (hvD E' O') C = some (.bl (decide (E = E' ∧ O = O')), C) := by
  show oEqD false (hvD E O) (hvD E' O') C = _
  simp only [oEqD, toP_hv, shp_hv, Bool.and_self, if_true]
  have e : PyData.eqv (hvP E O) (hvP E' O') = decide (E = E' ∧ O = O') := by
    simp [hvP, PyData.eqv, PyData.eqvAll, eqv_rs]
  rw [e]
  rfl
def srt (l : List Rn) : List Rn := l.mergeSort le2
theorem le2_enc (C : Store) (p q : Rn) : PySem.W.dataLe false (encD C) (rD p) (rD q) = le2 p q := by
  have e := congrFun (congrFun (PySem.W.dataLe_ii (fun b : Int × Int => b.1) (fun b => b.2)) p) q
  exact e
theorem srtb_rs (l : List Rn) (C : Store) : srtb ((rsD l).map (encD C)) = true := by
  have e : ∀ p ∈ (rsD l).map (encD C), ∃ a b : Int, p = .tuple [.int a, .int b] := fun p hp => by
    obtain ⟨k, hk, rfl⟩ := List.mem_map.mp hp
    obtain ⟨q, _, rfl⟩ := List.mem_map.mp hk
    exact ⟨q.1, q.2, rfl⟩
  simp only [srtb, Bool.and_eq_true, Bool.or_eq_true, List.all_eq_true]
  refine ⟨fun x hx y hy => ?_, .inl fun x hx => ?_⟩
  · obtain ⟨a, b, rfl⟩ := e x hx
    obtain ⟨a', b', rfl⟩ := e y hy
    simp [PySem.W.alike, PySem.W.alikeAll]
  · obtain ⟨a, b, rfl⟩ := e x hx
    rfl
theorem all_rs (l : List Rn) (C : Store) : ((rsD l).all fun d => (toP C d).isSome && decide ((encD C d).depth ≤ 60)) = true := by
  simp only [List.all_eq_true]
  intro d hd
  obtain ⟨q, _, rfl⟩ := List.mem_map.mp hd
  have e1 : toP C (rD q) = some (rP q) := rfl
  have e2 : encD C (rD q) = rP q := rfl
  have e3 : (rP q).depth = 1 := rfl
  rw [e1, e2, e3]
  rfl
theorem sort_map (l : List Rn) (C : Store) : (rsD l).mergeSort (PySem.W.dataLe false (encD C)) = rsD (srt l) :=
  (List.map_mergeSort (r := le2) (s := PySem.W.dataLe false (encD C)) (f := rD) (l := l) (fun a _ b _ => (le2_enc C a b).symm)).symm
theorem sortQ_t (l : List Rn) (C : Store) : oSortQ false [.tup (rsD l)] C = some (.lst (rsD (srt l)), C) := by
  show (if (((rsD l).all fun d => (toP C d).isSome && decide ((encD C d).depth ≤ 60)) && srtb ((rsD l).map (encD C))) = true then some (mkL false ((rsD l).mergeSort (PySem.W.dataLe false (encD C))) C) else none) = _
  rw [all_rs, srtb_rs, sort_map]
  rfl
theorem sortQ_l (l : List Rn) (C : Store) : oSortQ false [.lst (rsD l)] C = some (.lst (rsD (srt l)), C) := by
  show (if (((rsD l).all fun d => (toP C d).isSome && decide ((encD C d).depth ≤ 60)) && srtb ((rsD l).map (encD C))) = true then some (mkL false ((rsD l).mergeSort (PySem.W.dataLe false (encD C))) C) else none) = _
  rw [all_rs, srtb_rs, sort_map]
  rfl
theorem srt_mem {l : List Rn} {r : Rn} : r ∈ srt l ↔ r ∈ l := List.mem_mergeSort
theorem srt_up (l : List Rn) : (srt l).Pairwise (fun r s => r.1 ≤ s.1) := (List.pairwise_mergeSort le2_trans le2_total l).imp fun {a b} h => by simp only [le2, decide_eq_true_eq] at h; omega
theorem srt_len (l : List Rn) : (srt l).length = l.length := List.length_mergeSort l
/-- merged -/
def mgd (l : List Rn) : List Rn := (srt l).foldl mstep []
theorem mgd_ok {p : Int} {l : List Rn} (h : ∀ r ∈ l, RunOk p r) : Canon p (mgd l) ∧ ∀ x, x % 2 = p → (mR (mgd l) x ↔ mR l x) := by
  obtain ⟨h1, h2⟩ := fold_ok (l := srt l) (canon_nil p) (fun r hr => h r (srt_mem.mp hr)) (srt_up l) (by simp)
  refine ⟨h1, fun x hx => ?_⟩
  rw [mgd, h2 x hx]
  constructor
  · rintro (z | ⟨r, hr, z⟩)
    · exact absurd z (mR_nil _)
    · exact ⟨r, srt_mem.mp hr, z⟩
  · rintro ⟨r, hr, z⟩
    exact .inr ⟨r, srt_mem.mpr hr, z⟩
theorem fold_take {α β : Type} {f : β → α → β} {l : List α} {b : β} {j : Nat} {x : α} (h : l[j]? = some x) : (l.take (j + 1)).foldl f b = f ((l.take j).foldl f b) x := by
  obtain ⟨hj, e⟩ := List.getElem?_eq_some_iff.mp h
  rw [← List.take_append_getElem hj, e, List.foldl_append]
  rfl
theorem rs_get {l : List Rn} {j : Nat} {y : D} (h : (rsD l)[j]? = some y) : ∃ r, l[j]? = some r ∧ y = rD r := by
  rw [rsD, List.getElem?_map] at h
  obtain ⟨r, h1, h2⟩ := Option.map_eq_some_iff.mp h
  exact ⟨r, h1, h2.symm⟩
theorem wo_last {C : Store} {i : Nat} {l : List Rn} {q : Rn} {Q : D → Store → Prop} (hC : C[i]? = some (some (.lst (rsD l)))) (hl : l.getLast? = some q) (h : Q (rD q) C) : wO (oIx (.cell i) (.int (-1)) C) Q := by
  have hs := last_split hl
  refine wo_of (C' := C) (d := rD q) ?_ h
  have e : ixN (rsD l).length (-1) = some (l.length - 1) := by
    have : 0 < l.length := by rw [hs]; simp
    rw [rsD_len]
    unfold ixN
    rw [if_neg (by omega), if_pos (by omega)]
    congr 1
    omega
  have e2 : (rsD l)[l.length - 1]? = some (rD q) := by
    rw [rsD, List.getElem?_map, ← List.getLast?_eq_getElem?, hl]
    rfl
  simp only [oIx, vS, hC, Option.bind_some, atI, e, e2, Option.map_some]
/-! S3: merged, common, rest, walked. -/
section
variable {C : Store} {l : List Rn} {x : D}
theorem last_nil {l : List Rn} (h : l ≠ []) : ∃ q, l.getLast? = some q := ⟨l.getLast h, List.getLast?_eq_some_getLast h⟩
theorem set_last {l : List Rn} {q r : Rn} (h : l.getLast? = some q) : (rsD l).set (l.length - 1) (rD r) = rsD (l.dropLast ++ [r]) := by
  have hs := last_split h
  generalize l.dropLast = l0 at hs
  subst hs
  simp [rsD]
theorem merged_w (hx : ∀ S : Store, oSortQ false [x] S = some (.lst (rsD (srt l)), S)) (hl : l.length ≤ 10000) {Q : D → Store → Prop} {E : Exc → Store → Prop} (h : Q (.tup (rsD (mgd l))) C) : wR (m_merged [x] C) Q E := by
  rw [e_merged]
  apply w_fin
  unfold b_merged b_merged_0 b_merged_1
  walk_at "p"
  refine wo_of (hx _) ?_
  walk_at "p"
  refine loop_p (pure_C _) (fun j sl S => S = C ++ [some (.lst (rsD (((srt l).take j).foldl mstep [])))] ∧ ∃ s2 s3, sl = [some x, some (.cell C.length), s2, s3]) ⟨rfl, _, _, rfl⟩ ?_ ?_
  · rintro j y sl S hy ⟨rfl, s2, s3, rfl⟩
    obtain ⟨r, hr, rfl⟩ := rs_get hy
    have hf := fold_take (f := mstep) (b := []) hr
    have hjl : j < (srt l).length := (List.getElem?_eq_some_iff.mp hr).1
    rw [srt_len] at hjl
    have hln := fold_len ((srt l).take j) []
    rw [List.length_take, srt_len] at hln
    simp only [List.length_nil] at hln
    generalize ((srt l).take j).foldl mstep [] = f at hln hf ⊢
    have at_n : (C ++ [some (Cell.lst (rsD f))])[C.length]? = some (some (.lst (rsD f))) := by simp
    refine ⟨[some x, some (.cell C.length), some (.int r.1), some (.int r.2)], rfl, ?_⟩
    have app : (mstep f r = f ++ [r]) → wS (sDrop (mAppend (mVar 1) (mAp oTup (mCons (mVar 2) (mCons (mVar 3) mNil)))) ⟨C.length, [some x, some (.cell C.length), some (.int r.1), some (.int r.2)]⟩ (C ++ [some (.lst (rsD f))])) (lpP (fun j sl S => S = C ++ [some (.lst (rsD (((srt l).take j).foldl mstep [])))] ∧ ∃ s2 s3, sl = [some x, some (.cell C.length), s2, s3]) (j + 1) (thn b_merged_2 C.length (fnl C.length Q E))) := fun he => by
      walk_at "p"
      refine w_append ?_
      walk_at "p"
      refine ⟨by simp [vL, at_n], ?_⟩
      walk_at "p"
      refine ⟨C.length, rsD f, by simp only [cL, at_n], Nat.le_refl _, by rw [rsD_len]; omega, ?_⟩
      walk_at "p"
      refine ⟨?_, _, _, rfl⟩
      rw [hf, he]
      simp [rsD, rD]
    unfold b_merged_1b_0
    walk_at "p"
    refine wo_of (ne_cell at_n) ?_
    walk_at "p"
    refine wI_d (fun he => ?_) fun he => ?_
    · exact wI_f (app (by rw [he]; rfl))
    · obtain ⟨q, hq⟩ := last_nil he
      walk_at "p"
      refine wo_last at_n hq ?_
      walk_at "p"
      refine wo_ix rfl (k := 1) rfl rfl ?_
      walk_at "p"
      refine wI_d (fun hc => ?_) fun hc => ?_
      · refine w_setL ?_
        walk_at "p"
        refine wo_last at_n hq ?_
        walk_at "p"
        refine wo_ix rfl (k := 0) rfl rfl ?_
        walk_at "p"
        refine wo_last at_n hq ?_
        walk_at "p"
        refine wo_ix rfl (k := 1) rfl rfl ?_
        walk_at "p"
        refine ⟨-1, C.length, rsD f, f.length - 1, _, rfl, by simp only [cL, at_n], ?_, wr_hi (Nat.le_refl _), ?_⟩
        · have hp : 0 < f.length := List.length_pos_iff.mpr he
          rw [rsD_len]
          unfold ixN
          rw [if_neg (by omega), if_pos (by omega)]
          congr 1
          omega
        · walk_at "p"
          refine ⟨?_, _, _, rfl⟩
          rw [hf]
          have e1 : mstep f r = f.dropLast ++ [(q.1, max q.2 r.2)] := by
            unfold mstep
            rw [hq]
            simp only
            rw [if_pos hc]
          rw [e1, ← set_last (r := (q.1, max q.2 r.2)) hq]
          simp [rD]
      · exact app (by unfold mstep; rw [hq]; simp only; rw [if_neg hc])
  · rintro sl S ⟨rfl, s2, s3, rfl⟩
    walk_at "p"
    unfold b_merged_2
    walk_at "p"
    refine wo_tupC (xs := rsD (mgd l)) ?_ ?_
    · rw [rsD_len, List.take_length]
      simp [mgd]
    · walk_at "p"
      refine fnl_p ?_ (by simpa using h)
      exact cbL_all fun d hd => by obtain ⟨r, _, rfl⟩ := List.mem_map.mp hd; rfl
end
/-! S3b: runs appended. -/
theorem cb_rs (n : Nat) (l : List Rn) : cbL n (rsD l) = true := cbL_all fun d hd => by obtain ⟨r, _, rfl⟩ := List.mem_map.mp hd; rfl
theorem cb_tup (n : Nat) (l : List Rn) : cb n (.tup (rsD l)) = true := cb_rs n l
/-! S5: a Want made; without, within, |, &, ^, ==. -/
def wantD (E O : List Rn) : D := .obj 1 [hvD E O]
def sideL (p : Int) (xs : List Int) : List Rn := (xs.filter fun x => decide (x % 2 = p)).map fun x => (x, x)
def hvF (xs : List Int) : D → D
  | .int p => .tup (rsD (mgd (sideL p xs)))
  | _ => .non
def selD (A B : List Rn) : D → D
  | .int i => if i = 0 then .tup (rsD A) else .tup (rsD B)
  | _ => .non
def parD (p : Int) : D → Bool
  | .int x => decide (x % 2 = p)
  | _ => false
def ptD : D → D
  | .int x => .tup [.int x, .int x]
  | _ => .non
theorem side_map (p : Int) (xs : List Int) : ((xs.map D.int).filter (parD p)).map ptD = rsD (sideL p xs) := by
  rw [List.filter_map, List.map_map, rsD, sideL, List.map_map]
  rfl
theorem side_len (p : Int) (xs : List Int) : (sideL p xs).length ≤ xs.length := by
  rw [sideL, List.length_map]
  exact List.length_filter_le _ _
theorem cb_hv (n : Nat) (E O : List Rn) : cb n (hvD E O) = true := by
  show (cb n (.tup (rsD E)) && (cb n (.tup (rsD O)) && true)) = true
  rw [cb_tup, cb_tup]
  rfl
theorem cb_want (n : Nat) (E O : List Rn) : cb n (wantD E O) = true := by
  show (cb n (hvD E O) && true) = true
  rw [cb_hv]
  rfl
section
variable {C : Store} {Q : D → Store → Prop} {E : Exc → Store → Prop} {xs : List Int} {Ev Od Ew Ow : List Rn}
theorem wo_fldH0 (h : Q (hvD Ev Od) C) : wO (oFld 1 0 (wantD Ev Od) C) Q := wo_fld rfl h
theorem is_number_w {x : Int} (h1 : -1000000000 ≤ x) (h2 : x ≤ 1000000000) (h : Q (.bl true) C) : wR (m_is_number [.int x] C) Q E := by
  rw [e_is_number]
  apply w_fin
  unfold b_is_number
  walk_at "p"
  refine w_of (is_integer_int x C) ?_
  walk_at "p"
  refine wI_dt h1 ?_
  walk_at "p"
  rw [decide_eq_true h2]
  simpa using h
theorem check_w (hb : ∀ x ∈ xs, -1000000000 ≤ x ∧ x ≤ 1000000000) (h : Q .non C) : wR (m_check_numbers [.tup (xs.map .int)] C) Q E := by
  rw [e_check_numbers]
  apply w_fin
  unfold b_check_numbers
  walk_at "p"
  refine loop_p (pure_P (pure_C _)) (fun j sl S => S = C ∧ ∃ s1 s2, sl = [some (.tup (xs.map .int)), s1, s2]) ⟨rfl, _, _, rfl⟩ ?_ ?_
  · rintro j y sl S hy ⟨rfl, s1, s2, rfl⟩
    obtain ⟨z, hz, rfl⟩ := List.mem_map.mp (List.mem_of_getElem? hy)
    obtain ⟨n, d⟩ := z
    obtain ⟨x, hx, rfl⟩ := List.mem_map.mp (List.of_mem_zip hz).2
    refine ⟨[some (.tup (xs.map .int)), some (.int n), some (.int x)], rfl, ?_⟩
    unfold b_check_numbersb_0
    walk_at "p"
    refine is_number_w (hb x hx).1 (hb x hx).2 ?_
    walk_at "p"
    exact ⟨rfl, _, _, rfl⟩
  · rintro sl S ⟨rfl, s1, s2, rfl⟩
    walk_at "p"
    simpa using h
theorem halves_of_w (hl : xs.length ≤ 10000) (h : Q (hvD (mgd (sideL 0 xs)) (mgd (sideL 1 xs))) C) : wR (m_halves_of [.tup (xs.map .int)] C) Q E := by
  rw [e_halves_of]
  apply w_fin
  unfold b_halves_of
  walk_at "p"
  refine lc_p (pure_C _) (fun _ => true) (hvF xs) (by simp) (fun x hx => ?_) (fun x hx _ => ?_) ?_
  · have hp : ∃ p : Int, x = .int p := by
      simp only [List.mem_cons, List.not_mem_nil, or_false] at hx
      rcases hx with rfl | rfl <;> exact ⟨_, rfl⟩
    obtain ⟨p, rfl⟩ := hp
    refine ⟨_, rfl, fun acc => ⟨?_, fun _ => ?_⟩⟩
    · walk_at "p"
      exact ⟨rfl, rfl⟩
    · walk_at "p"
      refine lc_p (pure_C _) (parD p) ptD (by simp; omega) (fun y hy => ?_) (fun y hy _ => ?_) ?_
      · obtain ⟨z, _, rfl⟩ := List.mem_map.mp hy
        refine ⟨_, rfl, fun acc => ⟨?_, fun _ => ?_⟩⟩
        · walk_at "p"
          refine wo_mod (by decide) ?_
          walk_at "p"
          exact ⟨rfl, rfl⟩
        · walk_at "p"
          exact ⟨rfl, rfl⟩
      · obtain ⟨z, _, rfl⟩ := List.mem_map.mp hy
        rfl
      · rw [side_map]
        walk_at "p"
        refine merged_w (fun S => sortQ_l _ S) (by have := side_len p xs; omega) ?_
        exact ⟨rfl, rfl⟩
  · simp only [List.mem_cons, List.not_mem_nil, or_false] at hx
    rcases hx with rfl | rfl <;> exact cb_tup _ _
  · walk_at "p"
    refine fnl_p (cb_hv _ _ _) ?_
    simpa [hvF, hvD] using h
theorem srtI_len1 : ∀ l : List Int, (srtI l).length ≤ l.length
  | [] => by simp [srtI]
  | y :: r => by
    have h1 := srtI_len1 r
    have h2 : ∀ l : List Int, (insI y l).length ≤ l.length + 1 := by
      intro l
      induction l with
      | nil => simp [insI]
      | cons z l ih =>
        unfold insI
        split
        · simp
        · split
          · simp
          · simp only [List.length_cons]; omega
    have h3 := h2 (srtI r)
    show (insI y (srtI r)).length ≤ _
    simp only [List.length_cons]
    omega
theorem lenSI_ok (h : xs.length < 64) : oLenSI [.tup (xs.map .int)] C = some (.int (srtI xs).length, C) := by
  simp only [oLenSI, vT, Option.bind_some, dInts_map, h, if_true]
theorem init_end {c : Cell} {h : D} {P : RS → Prop} {sl : List (Option D)} {me : ME} (h0 : sl[0]? = some (some (.cell C.length))) (hc : cb 0 h = true) (hv : wR (me ⟨C.length + 1, sl⟩ (C ++ [some (.ins 1 [])])) (fun d S => d = h ∧ S = C ++ [some (.ins 1 [])]) noX) (q : P (.nx sl (C ++ [some (.ins 1 [h])]))) : wS (sFldS 1 0 me (mVar 0) ⟨C.length + 1, sl⟩ (C ++ [some (.ins 1 [])])) P := by
  have e1 := w_eqv hv
  have e2 : mVar 0 ⟨C.length + 1, sl⟩ (C ++ [some (.ins 1 [])]) = .ok (.cell C.length) (C ++ [some (.ins 1 [])]) := by
    unfold mVar
    simp only [h0]
  have w : wr (C.length + 1) C.length (.ins 1 [h]) (C ++ [some (.ins 1 [])]) = some (C ++ [some (.ins 1 [h])]) := by
    unfold wr
    rw [if_neg (fun z => by have : cbC 0 (.ins 1 [h]) = (cb 0 h && true) := rfl; rw [this, hc] at z; cases z.2)]
    simp
  refine w_eq (r' := .nx sl (C ++ [some (.ins 1 [h])])) ?_ q
  unfold sFldS
  rw [e1]
  simp only [bndS_ok]
  rw [e2]
  have gt : (C ++ [some (Cell.ins 1 [])])[C.length]? = some (some (.ins 1 [])) := by simp
  simp only [bndS_ok, gt]
  rw [if_pos ⟨trivial, Nat.zero_le _⟩, if_neg (by simp)]
  simp only [List.nil_append]
  rw [w]
theorem init_kw : m_Want__init [.cell C.length, hvD Ev Od, .tup []] (C ++ [some (.ins 1 [])]) = .ok .non (C ++ [some (.ins 1 [hvD Ev Od])]) := by
  refine w_eqv ?_
  rw [e_Want__init]
  apply w_fin
  unfold b_Want__init b_Want__init_0 b_Want__init_1
  walk_at "p"
  refine check_w (xs := []) (by simp) ?_
  walk_at "p"
  refine wo_of (lenSI_ok (xs := []) (by simp)) ?_
  walk_at "p"
  refine wI_df (by decide) ?_
  walk_at "p"
  unfold b_Want__init_2
  have e : (C ++ [some (Cell.ins 1 [])]).length = C.length + 1 := by simp
  rw [e]
  refine init_end (c := .ins 1 []) (h := hvD Ev Od) rfl (cb_hv _ _ _) ?_ ?_
  · walk_at "p"
    refine wo_of (d := .bl false) (C' := _) rfl ?_
    walk_at "p"
    exact ⟨rfl, rfl⟩
  · walk_at "p"
    exact ⟨rfl, List.take_of_length_le (by simp)⟩
theorem init_pos (hb : ∀ x ∈ xs, -1000000000 ≤ x ∧ x ≤ 1000000000) (hl : xs.length ≤ 40) : m_Want__init [.cell C.length, .non, .tup (xs.map .int)] (C ++ [some (.ins 1 [])]) = .ok .non (C ++ [some (.ins 1 [hvD (mgd (sideL 0 xs)) (mgd (sideL 1 xs))])]) := by
  refine w_eqv ?_
  rw [e_Want__init]
  apply w_fin
  unfold b_Want__init b_Want__init_0 b_Want__init_1
  walk_at "p"
  refine check_w hb ?_
  walk_at "p"
  refine wo_of (lenSI_ok (by omega)) ?_
  walk_at "p"
  have := srtI_len1 xs
  refine wI_df (by omega) ?_
  walk_at "p"
  unfold b_Want__init_2
  have e : (C ++ [some (Cell.ins 1 [])]).length = C.length + 1 := by simp
  rw [e]
  refine init_end (c := .ins 1 []) (h := hvD (mgd (sideL 0 xs)) (mgd (sideL 1 xs))) rfl (cb_hv _ _ _) ?_ ?_
  · walk_at "p"
    refine wo_of (d := .bl true) (C' := _) rfl ?_
    walk_at "p"
    refine halves_of_w (by omega) ?_
    exact ⟨rfl, rfl⟩
  · walk_at "p"
    exact ⟨rfl, List.take_of_length_le (by simp)⟩
theorem mk_tail {F : Fr} {g : Vg} {n : Nat} {m : MF} {ma : MA} {ds : List D} {S : Store} (ha : ma F C = .ok ds S) (hi : vaM g n m (.cell S.length :: ds) (S ++ [some (.ins 1 [])]) = .ok .non (S ++ [some (.ins 1 [hvD Ev Od])])) : mMake false 1 1 (vaM g n m) [] ma F C = .ok (wantD Ev Od) S := by
  unfold mMake
  rw [ha]
  simp only [bnd_ok]
  rw [List.append_nil, hi]
  have gt : ∀ x : Option Cell, (S ++ [x])[S.length]? = some x := fun x => by simp
  simp only [gt]
  have c : cbL S.length [hvD Ev Od] = true := by
    show (cb S.length (hvD Ev Od) && true) = true
    rw [cb_hv]
    rfl
  simp [c, wantD]
theorem mk_kw {F : Fr} {me : ME} (h : wR (me F C) (fun d C1 => ∃ Ev Od, d = hvD Ev Od ∧ Q (wantD Ev Od) C1) noX) : wR (mMake false 1 1 (vaM .kw 1 m_Want__init) [] (mCons me mNil) F C) Q E := by
  obtain ⟨d, S, e, Ev, Od, rfl, q⟩ := w_out h
  refine w_of (mk_tail (Ev := Ev) (Od := Od) (S := S) (ds := [hvD Ev Od]) ?_ ?_) q
  · refine w_eqv ?_
    refine w_cons (w_of e (w_nil ⟨rfl, rfl⟩))
  · show m_Want__init [.cell S.length, hvD Ev Od, .tup []] _ = _
    exact init_kw
theorem mk_pos {F : Fr} {ma : MA} (hb : ∀ x ∈ xs, -1000000000 ≤ x ∧ x ≤ 1000000000) (hl : xs.length ≤ 40) {n : Nat} (hn : xs.length = n) (ha : ma F C = .ok (xs.map .int) C) : mMake false 1 1 (vaM .pos n m_Want__init) [] ma F C = .ok (wantD (mgd (sideL 0 xs)) (mgd (sideL 1 xs))) C := by
  refine mk_tail ha ?_
  unfold vaM
  rw [if_pos (by simp [hn])]
  exact init_pos hb hl
/-- a comprehension over (0, 1) that makes halves -/
theorem halves_lc {F : Fr} {k : Nat} {te : ME} {A B : List Rn} (hk : k < F.sl.length) (h0 : ∀ acc, te ⟨C.length, (F.sl.set k none).set k (some (.int 0))⟩ (accS C acc) = .ok (.tup (rsD A)) (accS C acc)) (h1 : ∀ acc, te ⟨C.length, (F.sl.set k none).set k (some (.int 1))⟩ (accS C acc) = .ok (.tup (rsD B)) (accS C acc)) (q : Q (hvD A B) C) :
    wR (mAp oTupOf (mCons (mLc false (mSeq (mAp oTup (mCons (mC (.int 0)) (mCons (mC (.int 1)) mNil)))) (Tgt.nm k).M tYesM te [k]) mNil) F C) Q E := by
  walk_at "p"
  refine lc_p (pure_C _) (fun _ => true) (selD A B) (by simp) (fun x hx => ?_) (fun x hx _ => ?_) ?_
  · simp only [List.mem_cons, List.not_mem_nil, or_false] at hx
    rcases hx with rfl | rfl
    · exact ⟨_, rfl, fun acc => ⟨w_yes ⟨rfl, rfl⟩, fun _ => w_of (h0 acc) ⟨rfl, rfl⟩⟩⟩
    · exact ⟨_, rfl, fun acc => ⟨w_yes ⟨rfl, rfl⟩, fun _ => w_of (h1 acc) ⟨rfl, rfl⟩⟩⟩
  · simp only [List.mem_cons, List.not_mem_nil, or_false] at hx
    rcases hx with rfl | rfl <;> exact cb_tup _ _
  · walk_at "p"
    simpa [hvD, selD] using q
end
/-! OPS: own operators, == : steps. -/
section
variable {C : Store} {Q : D → Store → Prop} {X : Exc → Store → Prop} {F : Fr} {P : RS → Prop}
theorem w_binO {c : Nat} {m : MF} {mo me : ME} (h : wR (mo F C) (fun x C1 => wR (me F C1) (fun y C2 => (isC c x C2 && isC c y C2) = true ∧ wR (m [x, y] C2) Q X) X) X) : wR (mBinO c m mo me F C) Q X := by
  unfold mBinO
  refine w_bnd (w_mono h (fun x C1 g => w_bnd (w_mono g (fun y C2 g => ?_) fun _ _ z => z)) fun _ _ z => z)
  rw [if_pos g.1]
  exact g.2
theorem w_eqO {neg : Bool} {c : Nat} {m : MF} {mo me : ME} (h : wR (mo F C) (fun x C1 => wR (me F C1) (fun y C2 => (isC c x C2 && okT c (tyD y C2)) = true ∧ wR (m [x, y] C2) (fun z C3 => ∃ t, z = .bl t ∧ Q (.bl (if neg = true then !t else t)) C3) X) X) X) : wR (mEqO neg c m mo me F C) Q X := by
  unfold mEqO
  refine w_bnd (w_mono h (fun x C1 g => w_bnd (w_mono g (fun y C2 g => ?_) fun _ _ z => z)) fun _ _ z => z)
  rw [if_pos g.1]
  unfold negB
  refine w_bnd (w_mono g.2 (fun z C3 g => ?_) fun _ _ z => z)
  obtain ⟨t, rfl, q⟩ := g
  exact w_ok q
end
/-! S6g: own operators walked. -/
section
variable {C : Store} {Q : D → Store → Prop} {X : Exc → Store → Prop} {E O E' O' : List Rn}
theorem cat_t (A B : List Rn) (h : A.length + B.length ≤ 10000) : oCatT (.tup (rsD A)) (.tup (rsD B)) C = some (.tup (rsD (A ++ B)), C) := by
  have hz : szN ((rsD A).length + (rsD B).length) = true := by
    rw [rsD_len, rsD_len]
    simp [szN]
    omega
  simp only [oCatT, vT, hz, if_true]
  cases A with
  | nil => rfl
  | cons a A =>
    cases B with
    | nil => simp [rsD]
    | cons b B => simp [rsD]
end
/-! S6a: without, within, |, &, ^, ==, walked. -/
section
variable {C : Store} {Q : D → Store → Prop} {X : Exc → Store → Prop} {E O E' O' : List Rn}
theorem or_w (h1 : E.length + E'.length ≤ 10000) (h2 : O.length + O'.length ≤ 10000) (h : Q (wantD (mgd (E ++ E')) (mgd (O ++ O'))) C) : wR (m_Want__or [wantD E O, wantD E' O'] C) Q X := by
  rw [e_Want__or]
  apply w_fin
  unfold b_Want__or b_Want__or_0 b_Want__or_1
  walk_at "p"
  refine ⟨true, rfl, ?_⟩
  walk_at "p"
  refine mk_kw (halves_lc (A := mgd (E ++ E')) (B := mgd (O ++ O')) (k := 2) (by simp) (fun acc => w_eqv ?_) (fun acc => w_eqv ?_) ⟨_, _, rfl, fnl_p (cb_want _ _ _) (by simpa using h)⟩)
  · walk_at "p"
    try (refine wo_fld (d := hvD E O) rfl ?_; walk_at "p")
    refine wo_ix (xs := [.tup (rsD E), .tup (rsD O)]) (k := 0) rfl rfl rfl ?_
    walk_at "p"
    try (refine wo_fld (d := hvD E' O') rfl ?_; walk_at "p")
    refine wo_ix (xs := [.tup (rsD E'), .tup (rsD O')]) (k := 0) rfl rfl rfl ?_
    refine wo_of (cat_t _ _ h1) ?_
    walk_at "p"
    exact merged_w (fun S => sortQ_t _ S) (by simpa using h1) ⟨rfl, rfl⟩
  · walk_at "p"
    try (refine wo_fld (d := hvD E O) rfl ?_; walk_at "p")
    refine wo_ix (xs := [.tup (rsD E), .tup (rsD O)]) (k := 1) rfl rfl rfl ?_
    walk_at "p"
    try (refine wo_fld (d := hvD E' O') rfl ?_; walk_at "p")
    refine wo_ix (xs := [.tup (rsD E'), .tup (rsD O')]) (k := 1) rfl rfl rfl ?_
    refine wo_of (cat_t _ _ h2) ?_
    walk_at "p"
    exact merged_w (fun S => sortQ_t _ S) (by simpa using h2) ⟨rfl, rfl⟩
end
/-! S7: the law's own runs; the text of a Want. -/
def lawR (p : Int) (xs : List Int) : List Rn := (srtI xs).foldl (lstep p) []
def wtD (xs : List Int) : D := wantD (lawR 0 xs) (lawR 1 xs)
theorem lawR_ok (p : Int) (xs : List Int) : Canon p (lawR p xs) ∧ ∀ x, x % 2 = p → (mR (lawR p xs) x ↔ x ∈ xs) := by
  obtain ⟨h1, h2⟩ := lfold_ok (p := p) (l := srtI xs) (canon_nil p) srtI_up (by simp)
  refine ⟨h1, fun x hx => ?_⟩
  rw [lawR, h2 x hx, srtI_mem]
  exact ⟨fun z => z.elim (fun z => absurd z (mR_nil _)) id, .inr⟩
theorem lawR_of {p : Int} {xs : List Int} {rs : List Rn} (h : Canon p rs) (g : ∀ x, x % 2 = p → (mR rs x ↔ x ∈ xs)) : rs = lawR p xs :=
  canon_inj h (lawR_ok p xs).1 fun x hx => by rw [g x hx, (lawR_ok p xs).2 x hx]
theorem lawR_len (p : Int) (xs : List Int) : (lawR p xs).length ≤ xs.length := by
  have h1 := lfold_len p (srtI xs) []
  have h2 := srtI_len1 xs
  simp only [List.length_nil] at h1
  unfold lawR
  omega
theorem lawR_or (p : Int) (xs ys : List Int) : mgd (lawR p xs ++ lawR p ys) = lawR p (xs ++ ys) := by
  obtain ⟨h1, h2⟩ := mgd_ok (p := p) (l := lawR p xs ++ lawR p ys) fun r hr => (List.mem_append.mp hr).elim (fun h => (lawR_ok p xs).1.ok r h) fun h => (lawR_ok p ys).1.ok r h
  refine lawR_of h1 fun x hx => ?_
  rw [h2 x hx, mR_append, (lawR_ok p xs).2 x hx, (lawR_ok p ys).2 x hx, List.mem_append]
theorem lawR_side (p : Int) (xs : List Int) : mgd (sideL p xs) = lawR p xs := by
  obtain ⟨h1, h2⟩ := mgd_ok (p := p) (l := sideL p xs) fun r hr => by
    obtain ⟨x, hx, rfl⟩ := List.mem_map.mp hr
    have := of_decide_eq_true (List.mem_filter.mp hx).2
    exact ⟨Int.le_refl _, this, this⟩
  refine lawR_of h1 fun x hx => ?_
  rw [h2 x hx]
  constructor
  · rintro ⟨r, hr, z1, z2⟩
    obtain ⟨y, hy, rfl⟩ := List.mem_map.mp hr
    have : x = y := by simp only at z1 z2; omega
    rw [this]
    exact (List.mem_filter.mp hy).1
  · intro h
    exact ⟨(x, x), List.mem_map.mpr ⟨x, List.mem_filter.mpr ⟨h, decide_eq_true hx⟩, rfl⟩, Int.le_refl _, Int.le_refl _⟩
/-! LWN: a law's want out of a list of ints (split from LE15). -/
section
variable {C : Store} {Q : D → Store → Prop} {X : Exc → Store → Prop}
theorem cut_one (x : Int) (l : List Int) : cutD ((x :: l).map D.int) (some 1) none = l.map D.int := by
  simp [cutD, HT.sIx]
  exact List.take_of_length_le (by simp)
theorem law_want_w {x : Int} {ys : List Int} (hl : ys.length ≤ 50) (hz : ∀ z ∈ x :: ys, -1000000000 ≤ z ∧ z ≤ 1000000000) (h : Q (wtD (x :: ys)) C) : wR (m_law_want [.lst ((x :: ys).map .int)] C) Q X := by
  rw [e_law_want]
  apply w_fin
  unfold b_law_want b_law_want_0
  walk_at "p"
  refine w_of (mk_pos (xs := [x]) (fun z hz' => by rw [List.mem_singleton.mp hz']; exact hz x (List.mem_cons_self ..)) (by simp) rfl (w_eqv ?_)) ?_
  · walk_at "p"
    refine wo_ix rfl (k := 0) rfl rfl ?_
    walk_at "p"
    exact ⟨rfl, rfl⟩
  rw [lawR_side, lawR_side]
  walk_at "p"
  unfold b_law_want_1
  walk_at "p"
  refine ⟨_, rfl, ?_⟩
  rw [cut_one]
  walk_at "p"
  refine loop_p (pure_C _) (fun j sl S => S = C ∧ ∃ s2, sl = [some (.lst ((x :: ys).map .int)), some (wtD (x :: ys.take j)), s2]) ⟨rfl, _, rfl⟩ ?_ ?_
  · rintro j y0 sl S hy0 ⟨rfl, s2, rfl⟩
    rw [List.getElem?_map] at hy0
    obtain ⟨y, hy, rfl⟩ := Option.map_eq_some_iff.mp hy0
    have hjl : j < ys.length := (List.getElem?_eq_some_iff.mp hy).1
    have hm : y ∈ ys := List.mem_of_getElem? hy
    have tkj : ys.take (j + 1) = ys.take j ++ [y] := by
      rw [← (List.getElem?_eq_some_iff.mp hy).2]
      exact (List.take_append_getElem hjl).symm
    refine ⟨_, rfl, ?_⟩
    unfold b_law_want_1b_0
    walk_at "p"
    refine w_binO ?_
    walk_at "p"
    refine w_of (mk_pos (xs := [y]) (fun z hz' => by rw [List.mem_singleton.mp hz']; exact hz y (List.mem_cons_of_mem _ hm)) (by simp) rfl rfl) ?_
    refine ⟨rfl, ?_⟩
    have l0 := lawR_len 0 (x :: ys.take j)
    have l1 := lawR_len 1 (x :: ys.take j)
    simp only [List.length_cons, List.length_take] at l0 l1
    rw [lawR_side, lawR_side]
    have m0 := lawR_len 0 [y]
    have m1 := lawR_len 1 [y]
    simp only [List.length_cons, List.length_nil] at m0 m1
    refine or_w (by omega) (by omega) ?_
    rw [lawR_or, lawR_or, List.cons_append, ← tkj]
    walk_at "p"
    exact ⟨rfl, _, rfl⟩
  · rintro sl S ⟨rfl, s2, rfl⟩
    rw [List.length_map, List.take_length]
    walk_at "p"
    unfold b_law_want_2
    walk_at "p"
    exact fnl_p (cb_want _ _ _) (by rw [List.take_length]; exact h)
end
end CL
set_option maxHeartbeats 4000000
/-! E7: own operators with an int, list(range), extend, two writes, told backwards. -/
namespace CT
open PySem L2
section
variable {Q : D → Store → Prop} {E : Exc → Store → Prop} {F : Fr} {C : Store}
theorem w_bO {c : Nat} {m : MF} {me : ME} (h : wR (me F C) (fun x C1 => ∃ fs, vO x C1 = some (c, fs) ∧ wR (m [x] C1) (fun d C2 => ∃ s, d = .bl s ∧ Q (.bl s) C2) noX) E) : wR (mBoolO c m me F C) Q E := by
  unfold mBoolO
  refine w_bnd (w_mono h (fun x C1 g => ?_) fun _ _ z => z)
  obtain ⟨fs, e, q⟩ := g
  simp only [e, if_true]
  obtain ⟨d, C2, e2, s, rfl, q⟩ := w_out q
  simp only [e2]
  exact w_ok q
end
/-! ### a comprehension whose list is an own one -/
/-! ### a def that hands back an own list -/
end CT
set_option maxHeartbeats 4000000
namespace CL
open PySem L2 CT
local macro_rules | `(tactic| walk_at "w") => `(tactic| first | ((with_reducible apply gR); first | with_reducible refine w_var rfl ?_ | with_reducible apply w_cons | with_reducible apply w_c | with_reducible apply w_nil | with_reducible apply w_op | with_reducible apply w_ap | with_reducible apply w_call | with_reducible apply w_tst | with_reducible apply w_un | with_reducible apply w_tand | with_reducible apply w_tor | with_reducible apply w_tnot | with_reducible apply w_yes | with_reducible apply w_and | with_reducible apply w_or | with_reducible apply w_not | with_reducible apply w_if | with_reducible apply w_chain | with_reducible apply w_isi | with_reducible apply w_isi2 | with_reducible apply w_prop | with_reducible apply w_meth | with_reducible apply w_dget | with_reducible apply w_dnewF | with_reducible apply w_dnewT | with_reducible apply w_part | with_reducible apply w_noPart | with_reducible apply w_slLF | with_reducible apply w_slA | with_reducible apply w_ok | with_reducible apply w_ofO | with_reducible apply w_lcI | with_reducible apply w_seqI | with_reducible apply w_rng1 | with_reducible apply w_rng2 | with_reducible apply w_enum) | ((with_reducible apply gO); first | with_reducible apply wo_add | with_reducible apply wo_sub | with_reducible apply wo_lt | with_reducible apply wo_gt | with_reducible apply wo_eq | with_reducible apply wo_ne | with_reducible apply wo_le | with_reducible apply wo_ge | with_reducible apply wo_neg | with_reducible apply wo_eqS | with_reducible apply wo_neS | with_reducible apply wo_min | with_reducible apply wo_max | with_reducible apply wo_int | with_reducible apply wo_abs | with_reducible apply wo_tupL | with_reducible apply wo_tupT | with_reducible refine wo_tup (by with_unfolding_all rfl) ?_ | with_reducible refine wo_lstF (by with_unfolding_all rfl) ?_ | with_reducible refine wo_lstT (by with_unfolding_all rfl) ?_ | with_reducible apply wo_fld0 | with_reducible apply wo_fldH0 | with_reducible apply wo_fld1 | with_reducible apply wo_fld2 | with_reducible apply wo_fldW0 | with_reducible apply wo_fldW1 | with_reducible apply wo_fldW2) | ((with_reducible apply gS); first | with_reducible apply w_seq | with_reducible apply w_asg | with_reducible apply w_sif | with_reducible apply w_next | with_reducible apply w_ret | with_reducible apply w_par | with_reducible apply w_drop | with_reducible apply w_asgT | with_reducible apply w_retN | with_reducible apply w_brk | with_reducible apply w_cnt | with_reducible apply w_raise | with_reducible apply w_forI) | ((with_reducible apply gI); first | with_reducible apply wI_t | with_reducible apply wI_f | with_reducible apply wI_not) | with_reducible apply w_bl | with_reducible apply thn_nx | with_reducible apply w_int | with_reducible apply w_obj | with_reducible apply thn_rt | with_reducible apply lp_nx | with_reducible apply fnl_int | with_reducible apply fnl_bl | with_reducible apply fnl_non | with_reducible apply fnl_str | with_reducible apply fnl_nx | with_reducible apply thn_bk | with_reducible apply thn_ct | with_reducible apply thn_xc | with_reducible apply lp_rt | with_reducible apply lp_bk | with_reducible apply lp_xc | with_reducible apply w_itL | with_reducible apply w_itT | with_reducible apply w_itK)
local macro_rules | `(tactic| walk_at "p") => `(tactic| repeat walk_at "w")
local macro_rules | `(tactic| walk_at "w") => `(tactic| first | ((with_reducible apply gR); first | with_reducible refine w_var rfl ?_ | with_reducible apply w_cons | with_reducible apply w_c | with_reducible apply w_nil | with_reducible apply w_op | with_reducible apply w_ap | with_reducible apply w_call | with_reducible apply w_tst | with_reducible apply w_un | with_reducible apply w_tand | with_reducible apply w_tor | with_reducible apply w_tnot | with_reducible apply w_yes | with_reducible apply w_and | with_reducible apply w_or | with_reducible apply w_not | with_reducible apply w_if | with_reducible apply w_chain | with_reducible apply w_isi | with_reducible apply w_isi2 | with_reducible apply w_prop | with_reducible apply w_meth | with_reducible apply w_dget | with_reducible apply w_dnewF | with_reducible apply w_dnewT | with_reducible apply w_part | with_reducible apply w_noPart | with_reducible apply w_slLF | with_reducible apply w_slA | with_reducible apply w_ok | with_reducible apply w_ofO | with_reducible apply w_lcI | with_reducible apply w_seqI | with_reducible apply w_rng1 | with_reducible apply w_rng2 | with_reducible apply w_enum) | ((with_reducible apply gO); first | with_reducible apply wo_add | with_reducible apply wo_sub | with_reducible apply wo_lt | with_reducible apply wo_gt | with_reducible apply wo_eq | with_reducible apply wo_ne | with_reducible apply wo_le | with_reducible apply wo_ge | with_reducible apply wo_neg | with_reducible apply wo_eqS | with_reducible apply wo_neS | with_reducible apply wo_min | with_reducible apply wo_max | with_reducible apply wo_int | with_reducible apply wo_abs | with_reducible apply wo_tupL | with_reducible apply wo_tupT | with_reducible refine wo_tup (by with_unfolding_all rfl) ?_ | with_reducible refine wo_lstF (by with_unfolding_all rfl) ?_ | with_reducible refine wo_lstT (by with_unfolding_all rfl) ?_ | with_reducible apply wo_fld0 | with_reducible apply wo_fldH0 | with_reducible apply wo_fld1 | with_reducible apply wo_fld2 | with_reducible apply wo_fldW0 | with_reducible apply wo_fldW1 | with_reducible apply wo_fldW2) | ((with_reducible apply gS); first | with_reducible apply w_seq | with_reducible apply w_asg | with_reducible apply w_sif | with_reducible apply w_next | with_reducible apply w_ret | with_reducible apply w_par | with_reducible apply w_drop | with_reducible apply w_asgT | with_reducible apply w_retN | with_reducible apply w_brk | with_reducible apply w_cnt | with_reducible apply w_raise | with_reducible apply w_forI) | ((with_reducible apply gI); first | with_reducible apply wI_t | with_reducible apply wI_f | with_reducible apply wI_not) | with_reducible apply w_bl | with_reducible apply thn_nx | with_reducible apply w_int | with_reducible apply w_obj | with_reducible apply thn_rt | with_reducible apply lp_nx | with_reducible apply fnl_int | with_reducible apply fnl_bl | with_reducible apply fnl_non | with_reducible apply fnl_str | with_reducible apply fnl_nx | with_reducible apply thn_bk | with_reducible apply thn_ct | with_reducible apply thn_xc | with_reducible apply lp_rt | with_reducible apply lp_bk | with_reducible apply lp_xc | with_reducible apply w_itL | with_reducible apply w_itT | with_reducible apply w_itK)
local macro_rules | `(tactic| walk_at "p") => `(tactic| repeat walk_at "w")
/-! KBW (split from K1). -/
section
variable {C : Store} {Q : D → Store → Prop} {X : Exc → Store → Prop} {E O : List Rn} {xs : List Int} {x : Int}
theorem w_orT {a b : ME} {F : Fr} (h : wR (a F C) (fun d C1 => ∃ l : List Rn, d = .tup (rsD l) ∧ ((l = [] → wR (b F C1) Q X) ∧ (l ≠ [] → Q d C1))) X) : wR (mOrT a b F C) Q X := by
  unfold mOrT
  refine w_bnd (w_mono h (fun d C1 g => ?_) fun _ _ z => z)
  obtain ⟨l, rfl, g1, g2⟩ := g
  simp only [vT]
  cases l with
  | nil => exact g1 rfl
  | cons r l => exact w_ok (g2 (by simp))
theorem boolT_rs (l : List Rn) : oBoolT [.tup (rsD l)] C = some (.bl (!l.isEmpty), C) := by
  cases l <;> rfl
def someW (E O : List Rn) : Bool := !(E.isEmpty && O.isEmpty)
theorem bool_w (h : Q (.bl (someW E O)) C) : wR (m_Want__bool [wantD E O] C) Q X := by
  rw [e_Want__bool]
  apply w_fin
  unfold b_Want__bool
  walk_at "p"
  refine w_orT ?_
  walk_at "p"
  refine wo_ix rfl (k := 0) rfl rfl ⟨E, rfl, fun e => ?_, fun e => ?_⟩
  · walk_at "p"
    refine wo_ix rfl (k := 1) rfl rfl ?_
    walk_at "p"
    refine wo_of (boolT_rs _) ?_
    walk_at "p"
    rw [List.take_length]
    subst e
    exact h
  · walk_at "p"
    refine wo_of (boolT_rs _) ?_
    walk_at "p"
    rw [List.take_length]
    have e2 : (!E.isEmpty) = someW E O := by
      cases E with
      | nil => exact absurd rfl e
      | cons r E => rfl
    rw [e2]
    exact h
end
end CL
set_option maxHeartbeats 4000000
/-! S12: runs moved, mirrored, counted, spread out; in plain Lean. -/
namespace CT
/-! ### few runs are left -/
/-! ### moved, mirrored -/
def mirR (m : Int) (rs : List Rn) : List Rn := rs.reverse.map fun r => (m - r.2, m - r.1)
theorem mir_ok {p q m : Int} {rs : List Rn} (h : Canon p rs) (hq : (m - p) % 2 = q) : Canon q (mirR m rs) := by
  refine ⟨fun s hs => ?_, ?_⟩
  · obtain ⟨r, hr, rfl⟩ := List.mem_map.mp hs
    obtain ⟨a, b, c⟩ := h.ok r (List.mem_reverse.mp hr)
    refine ⟨?_, ?_, ?_⟩ <;> simp only <;> omega
  · unfold mirR
    rw [List.pairwise_map, List.pairwise_reverse]
    exact h.sep.imp fun {r s} e => by unfold Sep at e ⊢; simp only; omega
/-! ### spread out -/
def exR1 (r : Rn) : List Int := rgI2 r.1 (r.2 + 1)
def exR (rs : List Rn) : List Int := rs.flatMap exR1
theorem rgI2_mem {a b x : Int} : x ∈ rgI2 a b ↔ a ≤ x ∧ x < b ∧ (x - a) % 2 = 0 := by
  unfold rgI2 rn2
  rw [List.mem_map]
  constructor
  · rintro ⟨i, hi, rfl⟩
    have := List.mem_range.mp hi
    omega
  · rintro ⟨h1, h2, h3⟩
    exact ⟨((x - a) / 2).toNat, List.mem_range.mpr (by omega), by omega⟩
theorem rgI2_up (a b : Int) : (rgI2 a b).Pairwise (· < ·) := by
  unfold rgI2
  rw [List.pairwise_map]
  exact List.pairwise_lt_range.imp fun h => by omega
theorem exR1_mem {p : Int} {r : Rn} (h : RunOk p r) {x : Int} : x ∈ exR1 r ↔ x % 2 = p ∧ r.1 ≤ x ∧ x ≤ r.2 := by
  obtain ⟨a, b, c⟩ := h
  unfold exR1
  rw [rgI2_mem]
  omega
theorem exR_mem {p : Int} {rs : List Rn} (h : Canon p rs) {x : Int} : x ∈ exR rs ↔ x % 2 = p ∧ mR rs x := by
  unfold exR
  rw [List.mem_flatMap]
  constructor
  · rintro ⟨r, hr, hx⟩
    obtain ⟨a, b⟩ := (exR1_mem (h.ok r hr)).mp hx
    exact ⟨a, r, hr, b⟩
  · rintro ⟨a, r, hr, b⟩
    exact ⟨r, hr, (exR1_mem (h.ok r hr)).mpr ⟨a, b⟩⟩
theorem exR_up {p : Int} {rs : List Rn} (h : Canon p rs) : (exR rs).Pairwise (· < ·) := by
  unfold exR
  rw [List.pairwise_flatMap]
  refine ⟨fun r _ => rgI2_up _ _, h.sep.imp_of_mem fun {r s} hr hs e x hx y hy => ?_⟩
  have h1 := (exR1_mem (h.ok r hr)).mp hx
  have h2 := (exR1_mem (h.ok s hs)).mp hy
  unfold Sep at e
  omega
theorem exR_app (a b : List Rn) : exR (a ++ b) = exR a ++ exR b := by simp [exR]
/-! ### ascending lists parted by parity -/
def par (p : Int) (x : Int) : Bool := decide (x % 2 = p)
theorem filt_up {l : List Int} (h : l.Pairwise (· < ·)) (f : Int → Bool) : (l.filter f).Pairwise (· < ·) := h.sublist List.filter_sublist
theorem ex_filt {p : Int} {rs : List Rn} {l : List Int} (h : Canon p rs) (hl : l.Pairwise (· < ·)) (hm : ∀ x, x % 2 = p → (mR rs x ↔ x ∈ l)) : exR rs = l.filter (par p) := by
  refine up_one (exR_up h) (filt_up hl _) fun x => ?_
  rw [exR_mem h, List.mem_filter]
  unfold par
  rw [decide_eq_true_eq]
  constructor
  · rintro ⟨a, b⟩
    exact ⟨(hm x a).mp b, a⟩
  · rintro ⟨a, b⟩
    exact ⟨b, (hm x b).mpr a⟩
/-- the least of both halves -/
def loO : Option Int → Option Int → Option Int
  | none, b => b
  | a, none => a
  | some a, some b => some (min a b)
def hiO : Option Int → Option Int → Option Int
  | none, b => b
  | a, none => a
  | some a, some b => some (max a b)
theorem head_parts : ∀ {l : List Int}, l.Pairwise (· < ·) → loO (l.filter (par 0)).head? (l.filter (par 1)).head? = l.head?
  | [], _ => rfl
  | a :: l, h => by
    have ⟨h1, h2⟩ := List.pairwise_cons.mp h
    have up : ∀ (f : Int → Bool) b, (l.filter f).head? = some b → a < b := fun f b hb => h1 b (List.mem_filter.mp (List.mem_of_mem_head? hb)).1
    rcases Int.emod_two_eq a with ha | ha
    · have e0 : par 0 a = true := decide_eq_true ha
      have e1 : ¬ par 1 a = true := by simp [par]; omega
      rw [List.filter_cons_of_pos e0, List.filter_cons_of_neg e1]
      cases hb : (l.filter (par 1)).head? with
      | none => rfl
      | some b =>
        have := up _ b hb
        show some (min a b) = some a
        congr 1
        omega
    · have e0 : ¬ par 0 a = true := by simp [par]; omega
      have e1 : par 1 a = true := decide_eq_true ha
      rw [List.filter_cons_of_neg e0, List.filter_cons_of_pos e1]
      cases hb : (l.filter (par 0)).head? with
      | none => rfl
      | some b =>
        have := up _ b hb
        show some (min b a) = some a
        congr 1
        omega
theorem last_parts {l : List Int} (h : l.Pairwise (· < ·)) : hiO (l.filter (par 0)).getLast? (l.filter (par 1)).getLast? = l.getLast? := by
  rcases List.eq_nil_or_concat l with rfl | ⟨l, a, rfl⟩
  · rfl
  · rw [List.concat_eq_append] at h ⊢
    obtain ⟨_, _, h1⟩ := List.pairwise_append.mp h
    have up : ∀ (f : Int → Bool) b, (l.filter f).getLast? = some b → b < a := fun f b hb => h1 b (List.mem_filter.mp (List.mem_of_getLast? hb)).1 a (by simp)
    rw [List.filter_append, List.filter_append]
    rcases Int.emod_two_eq a with ha | ha
    · have e0 : par 0 a = true := decide_eq_true ha
      have e1 : par 1 a = false := by simp [par]; omega
      simp only [List.filter_cons, List.filter_nil, e0, e1, if_true, if_false, Bool.false_eq_true, List.append_nil, List.getLast?_concat]
      cases hb : (l.filter (par 1)).getLast? with
      | none => rfl
      | some b =>
        have := up _ b hb
        show some (max a b) = some a
        congr 1
        omega
    · have e0 : par 0 a = false := by simp [par]; omega
      have e1 : par 1 a = true := decide_eq_true ha
      simp only [List.filter_cons, List.filter_nil, e0, e1, if_true, if_false, Bool.false_eq_true, List.append_nil, List.getLast?_concat]
      cases hb : (l.filter (par 0)).getLast? with
      | none => rfl
      | some b =>
        have := up _ b hb
        show some (max b a) = some a
        congr 1
        omega
theorem ex_head {p : Int} {rs : List Rn} (h : Canon p rs) : (exR rs).head? = rs.head?.map (·.1) := by
  cases rs with
  | nil => rfl
  | cons r rs =>
    obtain ⟨a, b, c⟩ := h.ok r (List.mem_cons_self ..)
    have e : exR (r :: rs) = exR1 r ++ exR rs := rfl
    have e2 : ∃ t, exR1 r = r.1 :: t := by
      unfold exR1 rgI2
      have : rn2 r.1 (r.2 + 1) = (rn2 r.1 (r.2 + 1) - 1) + 1 := by unfold rn2; omega
      rw [this, List.range_succ_eq_map, List.map_cons]
      exact ⟨_, by simp; rfl⟩
    obtain ⟨t, e2⟩ := e2
    rw [e, e2]
    rfl
theorem ex_last {p : Int} {rs : List Rn} (h : Canon p rs) : (exR rs).getLast? = rs.getLast?.map (·.2) := by
  rcases List.eq_nil_or_concat rs with rfl | ⟨l, r, rfl⟩
  · rfl
  · rw [List.concat_eq_append] at h ⊢
    obtain ⟨a, b, c⟩ := h.ok r (by simp)
    have e2 : ∃ t, exR1 r = t ++ [r.2] := by
      unfold exR1 rgI2
      have : rn2 r.1 (r.2 + 1) = (rn2 r.1 (r.2 + 1) - 1) + 1 := by unfold rn2; omega
      rw [this, List.range_succ, List.map_append]
      refine ⟨_, congrArg _ ?_⟩
      simp only [List.map_cons, List.map_nil, List.cons.injEq, and_true]
      unfold rn2
      omega
    obtain ⟨t, e2⟩ := e2
    have e3 : exR [r] = exR1 r := by simp [exR]
    rw [exR_app, e3, e2, ← List.append_assoc, List.getLast?_concat, List.getLast?_concat]
    rfl
end CT
set_option maxHeartbeats 4000000
/-! S13: stretches and blocks, in plain Lean. -/
namespace CT
end CT
set_option maxHeartbeats 4000000
namespace CL
open PySem L2 CT
local macro_rules | `(tactic| walk_at "w") => `(tactic| first | ((with_reducible apply gR); first | with_reducible refine w_var rfl ?_ | with_reducible apply w_cons | with_reducible apply w_c | with_reducible apply w_nil | with_reducible apply w_op | with_reducible apply w_ap | with_reducible apply w_call | with_reducible apply w_tst | with_reducible apply w_un | with_reducible apply w_tand | with_reducible apply w_tor | with_reducible apply w_tnot | with_reducible apply w_yes | with_reducible apply w_and | with_reducible apply w_or | with_reducible apply w_not | with_reducible apply w_if | with_reducible apply w_chain | with_reducible apply w_isi | with_reducible apply w_isi2 | with_reducible apply w_prop | with_reducible apply w_meth | with_reducible apply w_dget | with_reducible apply w_dnewF | with_reducible apply w_dnewT | with_reducible apply w_part | with_reducible apply w_noPart | with_reducible apply w_slLF | with_reducible apply w_slA | with_reducible apply w_ok | with_reducible apply w_ofO | with_reducible apply w_lcI | with_reducible apply w_seqI | with_reducible apply w_rng1 | with_reducible apply w_rng2 | with_reducible apply w_enum) | ((with_reducible apply gO); first | with_reducible apply wo_add | with_reducible apply wo_sub | with_reducible apply wo_lt | with_reducible apply wo_gt | with_reducible apply wo_eq | with_reducible apply wo_ne | with_reducible apply wo_le | with_reducible apply wo_ge | with_reducible apply wo_neg | with_reducible apply wo_eqS | with_reducible apply wo_neS | with_reducible apply wo_min | with_reducible apply wo_max | with_reducible apply wo_int | with_reducible apply wo_abs | with_reducible apply wo_tupL | with_reducible apply wo_tupT | with_reducible refine wo_tup (by with_unfolding_all rfl) ?_ | with_reducible refine wo_lstF (by with_unfolding_all rfl) ?_ | with_reducible refine wo_lstT (by with_unfolding_all rfl) ?_ | with_reducible apply wo_fld0 | with_reducible apply wo_fldH0 | with_reducible apply wo_fld1 | with_reducible apply wo_fld2 | with_reducible apply wo_fldW0 | with_reducible apply wo_fldW1 | with_reducible apply wo_fldW2) | ((with_reducible apply gS); first | with_reducible apply w_seq | with_reducible apply w_asg | with_reducible apply w_sif | with_reducible apply w_next | with_reducible apply w_ret | with_reducible apply w_par | with_reducible apply w_drop | with_reducible apply w_asgT | with_reducible apply w_retN | with_reducible apply w_brk | with_reducible apply w_cnt | with_reducible apply w_raise | with_reducible apply w_forI) | ((with_reducible apply gI); first | with_reducible apply wI_t | with_reducible apply wI_f | with_reducible apply wI_not) | with_reducible apply w_bl | with_reducible apply thn_nx | with_reducible apply w_int | with_reducible apply w_obj | with_reducible apply thn_rt | with_reducible apply lp_nx | with_reducible apply fnl_int | with_reducible apply fnl_bl | with_reducible apply fnl_non | with_reducible apply fnl_str | with_reducible apply fnl_nx | with_reducible apply thn_bk | with_reducible apply thn_ct | with_reducible apply thn_xc | with_reducible apply lp_rt | with_reducible apply lp_bk | with_reducible apply lp_xc | with_reducible apply w_itL | with_reducible apply w_itT | with_reducible apply w_itK)
local macro_rules | `(tactic| walk_at "p") => `(tactic| repeat walk_at "w")
/-! S14: Wants as sets: the operators, blocks; no program in sight. -/
structure CW (E O : List Rn) : Prop where
  e : Canon 0 E
  o : Canon 1 O
theorem law_cw (xs : List Int) : CW (lawR 0 xs) (lawR 1 xs) := ⟨(lawR_ok 0 xs).1, (lawR_ok 1 xs).1⟩
/-! LHS (split from Z1). -/
section
variable {B : Int} {n m : Nat} {xs ys : List Int}
variable {C : Store} {Q : D → Store → Prop} {X : Exc → Store → Prop}
theorem exr_srt (xs : List Int) : exR (lawR 0 xs) = (srtI xs).filter (par 0) ∧ exR (lawR 1 xs) = (srtI xs).filter (par 1) :=
  ⟨ex_filt (law_cw xs).e srtI_up fun x hp => by rw [(lawR_ok 0 xs).2 x hp, srtI_mem], ex_filt (law_cw xs).o srtI_up fun x hp => by rw [(lawR_ok 1 xs).2 x hp, srtI_mem]⟩
theorem low_srt (xs : List Int) : loO ((lawR 0 xs).head?.map (·.1)) ((lawR 1 xs).head?.map (·.1)) = (srtI xs).head? := by
  rw [← ex_head (law_cw xs).e, ← ex_head (law_cw xs).o, (exr_srt xs).1, (exr_srt xs).2]
  exact head_parts srtI_up
theorem high_srt (xs : List Int) : hiO ((lawR 0 xs).getLast?.map (·.2)) ((lawR 1 xs).getLast?.map (·.2)) = (srtI xs).getLast? := by
  rw [← ex_last (law_cw xs).e, ← ex_last (law_cw xs).o, (exr_srt xs).1, (exr_srt xs).2]
  exact last_parts srtI_up
end
/-! LOWN: the low of a Want, walked. -/
def neD2 : D → Bool
  | .tup (_ :: _) => true
  | _ => false
def hdD : D → D
  | .tup (.tup (d :: _) :: _) => d
  | _ => .non
def oD : Option Int → D
  | some i => .int i
  | none => .non
theorem ne_tup (a b : List Rn) (C : Store) : oEqA true (.tup (rsD a)) (.tup (rsD b)) C = some (.bl (!decide (a = b)), C) := by
  show oEqD true (.tup (rsD a)) (.tup (rsD b)) C = _
  simp [oEqD, toP_tup, shp_t, PyData.eqv, eqv_rs]
section
variable {C : Store} {Q : D → Store → Prop} {X : Exc → Store → Prop} {E O : List Rn}
theorem w_mnd {f : Int → Int → Int} {a b : ME} {F : Fr} (h : wR (a F C) (fun x C1 => wR (b F C1) (fun z C2 => ∃ ns, (vL x C2).bind dInts = some ns ∧ (match ns with | [] => Q z C2 | y :: ys => Q (.int (ys.foldl f y)) C2)) X) X) : wR (mMnD f a b F C) Q X := by
  unfold mMnD
  refine w_bnd (w_mono h (fun x C1 g => w_bnd (w_mono g (fun z C2 g => ?_) fun _ _ z => z)) fun _ _ z => z)
  obtain ⟨ns, e, g⟩ := g
  rw [e]
  cases ns with
  | nil => exact w_ok g
  | cons y ys => exact w_ok g
theorem two_t {y : D} (hy : y ∈ [D.tup (rsD E), D.tup (rsD O)]) : ∃ l : List Rn, y = .tup (rsD l) := by
  simp only [List.mem_cons, List.not_mem_nil, or_false] at hy
  rcases hy with rfl | rfl <;> exact ⟨_, rfl⟩
theorem lowA_w (h : Q (oD (loO (E.head?.map (·.1)) (O.head?.map (·.1)))) C) : wR (m_Want_low [wantD E O] C) Q X := by
  rw [e_Want_low]
  apply w_fin
  unfold b_Want_low
  walk_at "p"
  refine w_mnd ?_
  walk_at "p"
  refine ⟨_, rfl, ?_⟩
  refine lc_p (pure_C _) neD2 hdD (by simp) (fun y hy => ?_) (fun y hy hn => ?_) ?_
  · obtain ⟨l, rfl⟩ := two_t hy
    refine ⟨_, rfl, fun acc => ⟨?_, fun hn => ?_⟩⟩
    · walk_at "p"
      refine wo_of (ne_tup l [] _) ?_
      walk_at "p"
      cases l with
      | nil => exact ⟨rfl, rfl⟩
      | cons r l => exact ⟨rfl, rfl⟩
    · cases l with
      | nil => cases hn
      | cons r l =>
        walk_at "p"
        refine wo_ix rfl (k := 0) rfl rfl ?_
        walk_at "p"
        refine wo_ix rfl (k := 0) rfl rfl ?_
        exact ⟨rfl, rfl⟩
  · obtain ⟨l, rfl⟩ := two_t hy
    cases l with
    | nil => cases hn
    | cons r l => rfl
  · walk_at "p"
    cases E with
    | nil =>
      cases O with
      | nil =>
        refine ⟨[], rfl, ?_⟩
        exact fnl_p rfl (by rw [List.take_length]; exact h)
      | cons r O =>
        refine ⟨[r.1], rfl, ?_⟩
        exact fnl_p rfl (by rw [List.take_length]; exact h)
    | cons r E =>
      cases O with
      | nil =>
        refine ⟨[r.1], rfl, ?_⟩
        exact fnl_p rfl (by rw [List.take_length]; exact h)
      | cons r2 O =>
        refine ⟨[r.1, r2.1], rfl, ?_⟩
        exact fnl_p rfl (by rw [List.take_length]; exact h)
end
/-! S15n: halves told apart. -/
/-! S16: low, high, many, first of a Want; walked. -/
def ltD : D → D
  | .tup xs => (match xs.getLast? with
    | some (.tup [_, d]) => d
    | _ => .non)
  | _ => .non
theorem rs_last {l : List Rn} {r : Rn} (h : l.getLast? = some r) : (rsD l).getLast? = some (rD r) := by
  rw [rsD, List.getLast?_map, h]
  rfl
section
variable {C : Store} {Q : D → Store → Prop} {X : Exc → Store → Prop} {E O : List Rn}
theorem wo_lastT {l : List Rn} {r : Rn} (hl : l.getLast? = some r) (h : Q (rD r) C) : wO (oIx (.tup (rsD l)) (.int (-1)) C) Q := by
  have hp : 0 < l.length := by
    cases l with
    | nil => cases hl
    | cons _ _ => simp
  have e : atI (rsD l) (-1) = some (rD r) := by
    unfold atI ixN
    rw [if_neg (by decide), if_pos (by rw [rsD_len]; omega), rsD_len]
    have e1 : ((-1 : Int) + l.length).toNat = l.length - 1 := by omega
    show (rsD l)[((-1 : Int) + l.length).toNat]? = _
    rw [e1, ← rs_last hl, List.getLast?_eq_getElem?, rsD_len]
  refine wo_of (d := rD r) (C' := C) ?_ h
  show ((some (rsD l)).bind fun xs => (atI xs (-1)).map fun d => (d, C)) = _
  rw [Option.bind_some, e]
  rfl
theorem highA_w (h : Q (oD (hiO (E.getLast?.map (·.2)) (O.getLast?.map (·.2)))) C) : wR (m_Want_high [wantD E O] C) Q X := by
  have lt : ∀ {l : List Rn} {r : Rn}, l.getLast? = some r → ltD (.tup (rsD l)) = .int r.2 := fun {l r} e => by
    unfold ltD
    simp only [rs_last e]
    rfl
  rw [e_Want_high]
  apply w_fin
  unfold b_Want_high
  walk_at "p"
  refine w_mnd ?_
  walk_at "p"
  refine ⟨_, rfl, ?_⟩
  refine lc_p (pure_C _) neD2 ltD (by simp) (fun y hy => ?_) (fun y hy hn => ?_) ?_
  · obtain ⟨l, rfl⟩ := two_t hy
    refine ⟨_, rfl, fun acc => ⟨?_, fun hn => ?_⟩⟩
    · walk_at "p"
      refine wo_of (ne_tup l [] _) ?_
      walk_at "p"
      cases l with
      | nil => exact ⟨rfl, rfl⟩
      | cons r l => exact ⟨rfl, rfl⟩
    · have hne : l ≠ [] := fun e => by subst e; cases hn
      obtain ⟨r, hr⟩ := last_nil hne
      walk_at "p"
      refine wo_lastT hr ?_
      walk_at "p"
      refine wo_ix rfl (k := 1) rfl rfl ?_
      exact ⟨(lt hr).symm, rfl⟩
  · obtain ⟨l, rfl⟩ := two_t hy
    have hne : l ≠ [] := fun e => by subst e; cases hn
    obtain ⟨r, hr⟩ := last_nil hne
    rw [lt hr]
    rfl
  · walk_at "p"
    by_cases hE : E = []
    · subst hE
      by_cases hO : O = []
      · subst hO
        refine ⟨[], rfl, ?_⟩
        exact fnl_p rfl (by rw [List.take_length]; exact h)
      · obtain ⟨r, hr⟩ := last_nil hO
        have f : neD2 (.tup (rsD O)) = true := by cases O with | nil => exact absurd rfl hO | cons _ _ => rfl
        refine ⟨[r.2], ?_, ?_⟩
        · simp only [List.filter_cons, f, show neD2 (.tup (rsD [])) = false from rfl, if_true, if_false, Bool.false_eq_true, List.filter_nil, List.map_cons, List.map_nil, lt hr]
          rfl
        · rw [hr] at h
          exact fnl_p rfl (by rw [List.take_length]; exact h)
    · obtain ⟨r, hr⟩ := last_nil hE
      have f : neD2 (.tup (rsD E)) = true := by cases E with | nil => exact absurd rfl hE | cons _ _ => rfl
      by_cases hO : O = []
      · subst hO
        refine ⟨[r.2], ?_, ?_⟩
        · simp only [List.filter_cons, f, show neD2 (.tup (rsD [])) = false from rfl, if_true, if_false, Bool.false_eq_true, List.filter_nil, List.map_cons, List.map_nil, lt hr]
          rfl
        · rw [hr] at h
          exact fnl_p rfl (by rw [List.take_length]; exact h)
      · obtain ⟨r2, hr2⟩ := last_nil hO
        have f2 : neD2 (.tup (rsD O)) = true := by cases O with | nil => exact absurd rfl hO | cons _ _ => rfl
        refine ⟨[r.2, r2.2], ?_, ?_⟩
        · simp only [List.filter_cons, f, f2, if_true, List.filter_nil, List.map_cons, List.map_nil, lt hr, lt hr2]
          rfl
        · rw [hr, hr2] at h
          exact fnl_p rfl (by rw [List.take_length]; exact h)
end
/-! S8p: small lists, their runs shown. -/
section
variable {C : Store} {Q : D → Store → Prop} {X : Exc → Store → Prop} {xs ys : List Int} {p : Int}
theorem sortS_ok (h : xs.length < 64) : oSortS false [.lst (xs.map .int)] C = some (.lst ((srtI xs).map .int), C) := by
  simp only [oSortS, vL, Option.bind_some, dInts_map, h, if_true]
  rfl
end
/-! SML (split from S22p). -/
section
variable {xs : List Int} {B : Int}
theorem some_law : someW (lawR 0 xs) (lawR 1 xs) = !decide (xs = []) := by
  rw [Bool.eq_iff_iff]
  unfold someW
  simp only [Bool.not_eq_true', Bool.and_eq_false_iff, decide_eq_false_iff_not, List.isEmpty_eq_false_iff]
  constructor
  · rintro (h | h) e
    · subst e; exact h rfl
    · subst e; exact h rfl
  · intro h
    obtain ⟨x, ys, rfl⟩ : ∃ x ys, xs = x :: ys := by
      cases xs with
      | nil => exact absurd rfl h
      | cons x ys => exact ⟨x, ys, rfl⟩
    rcases Int.emod_two_eq x with hx | hx
    · refine .inl fun e => ?_
      have := ((lawR_ok 0 (x :: ys)).2 x hx).mpr (List.mem_cons_self ..)
      rw [e] at this
      exact mR_nil _ this
    · refine .inr fun e => ?_
      have := ((lawR_ok 1 (x :: ys)).2 x hx).mpr (List.mem_cons_self ..)
      rw [e] at this
      exact mR_nil _ this
end
end CL
set_option maxHeartbeats 4000000
/-! DM32: d[k] += e on a dict with tuple keys; x *= e of ints. -/
namespace CT
open PySem L2
end CT
set_option maxHeartbeats 4000000
/-! DM33: zip of two sequences, each a list or a tuple. -/
namespace CT
open PySem L2 PySem.Spec PyProof.Rows
end CT
set_option maxHeartbeats 4000000
/-! E9: comprehensions and walks over lists of values that are written as data. -/
namespace CT
open PySem L2
theorem cbL_allM {n : Nat} : ∀ {l : List D}, (∀ d ∈ l, cb n d = true) → cbL n l = true
  | [], _ => rfl
  | d :: l, h => by
    show (cb n d && cbL n l) = true
    rw [h d (List.mem_cons_self ..), cbL_allM fun x hx => h x (List.mem_cons_of_mem _ hx)]
    rfl
theorem take_s1 {α : Type} {l : List α} {j : Nat} {x : α} (h : l[j]? = some x) : l.take (j + 1) = l.take j ++ [x] := by
  obtain ⟨hj, e⟩ := List.getElem?_eq_some_iff.mp h
  rw [← e]
  exact (List.take_append_getElem hj).symm
section
variable {α β : Type} {l : List α} {enc : α → D} {g g1 : MG} {tt tt1 : MT} {te : ME} {vs vs1 : List Nat} {F : Fr} {C : Store} {Q : D → Store → Prop} {E : Exc → Store → Prop} {it : ItD} {S : Store → Prop} {n : Nat} {sl : List (Option D)} {P : RS → Prop} {fl : Nat} {body : MS}
theorem acc_new (acc : List D) : (accS C acc)[C.length]? = some (some (.lst acc)) := by simp [accS]
theorem acc_set (acc acc' : List D) : (accS C acc).set C.length (some (.lst acc')) = accS C acc' := by simp [accS]
theorem lcN_M (p : ItOn S it (l.map enc)) (hS : ∀ acc, S (accS C acc)) (a0 : List D) (f : α → Bool) (h : α → D) (sz : a0.length + l.length ≤ 16777215)
    (st : ∀ a ∈ l, ∃ sl1, g (enc a) sl = some sl1 ∧ ∀ acc, wR (tt ⟨C.length, sl1⟩ (accS C acc)) (fun b C' => b = f a ∧ C' = accS C acc) noX ∧ (f a = true → wR (te ⟨C.length, sl1⟩ (accS C acc)) (fun d C' => d = h a ∧ C' = accS C acc) noX)) :
    lcN it g tt te C.length sl it.n 0 (accS C a0) = .ok () (accS C (a0 ++ (l.filter f).map h)) := by
  have len : ∀ j, (a0 ++ ((l.take j).filter f).map h).length ≤ a0.length + l.length := fun j => by
    have h1 := List.length_filter_le f (l.take j)
    rw [List.length_take] at h1
    rw [List.length_append, List.length_map]
    omega
  obtain ⟨acc', C', e, c, hC, ha⟩ := lc_w (tt := tt) (te := te) (g := g) (n := C.length) (sl := sl) p (fun j acc S => S = accS C acc ∧ acc = a0 ++ ((l.take j).filter f).map h) (fun j acc S z => z.1 ▸ hS acc) (fun j acc S z => by
    have := len j
    rw [z.2]
    omega) (fun j x acc S hx hc z => by
      obtain ⟨rfl, hacc⟩ := z
      rw [List.getElem?_map] at hx
      obtain ⟨a, ha, rfl⟩ := Option.map_eq_some_iff.mp hx
      obtain ⟨sl1, e, s⟩ := st a (List.mem_of_getElem? ha)
      have l1 := len j
      refine ⟨sl1, e, w_mono (s acc).1 (fun b S z => ?_) fun _ _ z => z⟩
      obtain ⟨rfl, rfl⟩ := z
      cases hf : f a with
      | true =>
        refine wI_t (w_mono ((s acc).2 hf) (fun d S z => ?_) fun _ _ z => z)
        obtain ⟨rfl, rfl⟩ := z
        refine ⟨acc, acc_new acc, by rw [hacc]; omega, ⟨acc_set _ _, ?_⟩, by simp [accS]⟩
        rw [hacc, take_s1 ha, List.filter_append]
        simp [hf]
      | false =>
        refine wI_f ⟨acc, acc_new acc, rfl, ?_⟩
        rw [hacc, take_s1 ha, List.filter_append]
        simp [hf]) it.n 0 a0 (accS C a0) (by rw [p.n]; omega) (acc_new a0) ⟨rfl, by simp⟩
  subst hC
  rw [e, ha, List.length_map, List.take_length]
theorem lcMo (p : ItOn S it (l.map enc)) (hS : ∀ acc, S (accS C acc)) (f : α → Bool) (h : α → D) (sz : l.length ≤ 16777215)
    (st : ∀ a ∈ l, ∃ sl1, g (enc a) (wipeD F.sl vs) = some sl1 ∧ ∀ acc, wR (tt ⟨C.length, sl1⟩ (accS C acc)) (fun b C' => b = f a ∧ C' = accS C acc) noX ∧ (f a = true → wR (te ⟨C.length, sl1⟩ (accS C acc)) (fun d C' => d = h a ∧ C' = accS C acc) noX))
    (hc : ∀ a ∈ l, f a = true → cb C.length (h a) = true) (q : Q (.lst ((l.filter f).map h)) C) : wR (lcR it g tt te vs F C) Q E := by
  have e := lcN_M (C := C) p hS [] f h (by simp only [List.length_nil]; omega) st
  unfold lcR mLc
  simp only [bnd_ok]
  rw [show C ++ [some (Cell.lst [])] = accS C [] from rfl, e]
  simp only [bn0_ok, List.nil_append]
  unfold lcEnd
  rw [if_neg (by decide), acc_new]
  have hb : cbL C.length ((l.filter f).map h) = true := cbL_allM fun d hd => by
    obtain ⟨a, ha, rfl⟩ := List.mem_map.mp hd
    obtain ⟨a1, a2⟩ := List.mem_filter.mp ha
    exact hc a a1 a2
  simp only [hb, if_true]
  rw [show (accS C ((l.filter f).map h)).take C.length = C from by simp [accS]]
  exact w_ok q
theorem lcM (p : PureIt it (l.map enc)) (f : α → Bool) (h : α → D) (sz : l.length ≤ 16777215)
    (st : ∀ a ∈ l, ∃ sl1, g (enc a) (wipeD F.sl vs) = some sl1 ∧ ∀ acc, wR (tt ⟨C.length, sl1⟩ (accS C acc)) (fun b C' => b = f a ∧ C' = accS C acc) noX ∧ (f a = true → wR (te ⟨C.length, sl1⟩ (accS C acc)) (fun d C' => d = h a ∧ C' = accS C acc) noX))
    (hc : ∀ a ∈ l, f a = true → cb C.length (h a) = true) (q : Q (.lst ((l.filter f).map h)) C) : wR (lcR it g tt te vs F C) Q E :=
  lcMo (p.on fun _ => True) (fun _ => trivial) f h sz st hc q
/-- without a test -/
theorem lcY (p : PureIt it (l.map enc)) (h : α → D) (sz : l.length ≤ 16777215)
    (st : ∀ a ∈ l, ∃ sl1, g (enc a) (wipeD F.sl vs) = some sl1 ∧ ∀ acc, wR (te ⟨C.length, sl1⟩ (accS C acc)) (fun d C' => d = h a ∧ C' = accS C acc) noX)
    (hc : ∀ a ∈ l, cb C.length (h a) = true) (q : Q (.lst (l.map h)) C) : wR (lcR it g tYesM te vs F C) Q E := by
  refine lcM p (fun _ => true) h sz (fun a ha => ?_) (fun a ha _ => hc a ha) ?_
  · obtain ⟨sl1, e, s⟩ := st a ha
    exact ⟨sl1, e, fun acc => ⟨w_yes ⟨rfl, rfl⟩, fun _ => s acc⟩⟩
  · rw [List.filter_eq_self.mpr fun _ _ => rfl]
    exact q
/-! ### two clauses -/
theorem fm_len {ys : α → List β} {m : Nat} : ∀ {l : List α}, (∀ a ∈ l, (ys a).length ≤ m) → (l.flatMap ys).length ≤ l.length * m
  | [], _ => by simp
  | a :: l, h => by
    have h1 := fm_len (l := l) fun x hx => h x (List.mem_cons_of_mem _ hx)
    have h2 := h a (List.mem_cons_self ..)
    rw [List.flatMap_cons, List.length_append, List.length_cons, Nat.succ_mul]
    omega
/-! ### walks -/
theorem loopM (p : PureIt it (l.map enc)) (I : Nat → List (Option D) → Store → Prop) (i0 : I 0 sl C)
    (step : ∀ j a sl C, l[j]? = some a → I j sl C → ∃ sl1, g (enc a) sl = some sl1 ∧ wS (body ⟨fl, sl1⟩ C) (lpP I (j + 1) P)) (fin : ∀ sl C, I l.length sl C → P (.nx sl C)) : wS (loopN it g body fl it.n 0 sl C) P := by
  refine loop_p p I i0 (fun j x sl C hx i => ?_) (fun sl C i => fin sl C (by rw [List.length_map] at i; exact i))
  rw [List.getElem?_map] at hx
  obtain ⟨a, ha, rfl⟩ := Option.map_eq_some_iff.mp hx
  exact step j a sl C ha i
/-- a range as a list of numbers -/
theorem rngI_M (n : Nat) : rngI 0 n = (List.range n).map fun k : Nat => D.int (k : Int) := by
  unfold rngI
  exact List.map_congr_left fun k _ => by rw [Int.zero_add]
theorem pureR0 (n : Nat) : PureIt (itR 0 n) ((List.range n).map fun k : Nat => D.int (k : Int)) := rngI_M n ▸ pure_R 0 n
end
/-! ### x *= e, d[k] += e -/
end CT
set_option maxHeartbeats 4000000
namespace CL
open PySem L2 CT
local macro_rules | `(tactic| walk_at "w") => `(tactic| first | ((with_reducible apply gR); first | with_reducible refine w_var rfl ?_ | with_reducible apply w_cons | with_reducible apply w_c | with_reducible apply w_nil | with_reducible apply w_op | with_reducible apply w_ap | with_reducible apply w_call | with_reducible apply w_tst | with_reducible apply w_un | with_reducible apply w_tand | with_reducible apply w_tor | with_reducible apply w_tnot | with_reducible apply w_yes | with_reducible apply w_and | with_reducible apply w_or | with_reducible apply w_not | with_reducible apply w_if | with_reducible apply w_chain | with_reducible apply w_isi | with_reducible apply w_isi2 | with_reducible apply w_prop | with_reducible apply w_meth | with_reducible apply w_dget | with_reducible apply w_dnewF | with_reducible apply w_dnewT | with_reducible apply w_part | with_reducible apply w_noPart | with_reducible apply w_slLF | with_reducible apply w_slA | with_reducible apply w_ok | with_reducible apply w_ofO | with_reducible apply w_lcI | with_reducible apply w_seqI | with_reducible apply w_rng1 | with_reducible apply w_rng2 | with_reducible apply w_enum) | ((with_reducible apply gO); first | with_reducible apply wo_add | with_reducible apply wo_sub | with_reducible apply wo_lt | with_reducible apply wo_gt | with_reducible apply wo_eq | with_reducible apply wo_ne | with_reducible apply wo_le | with_reducible apply wo_ge | with_reducible apply wo_neg | with_reducible apply wo_eqS | with_reducible apply wo_neS | with_reducible apply wo_min | with_reducible apply wo_max | with_reducible apply wo_int | with_reducible apply wo_abs | with_reducible apply wo_tupL | with_reducible apply wo_tupT | with_reducible refine wo_tup (by with_unfolding_all rfl) ?_ | with_reducible refine wo_lstF (by with_unfolding_all rfl) ?_ | with_reducible refine wo_lstT (by with_unfolding_all rfl) ?_ | with_reducible apply wo_fld0 | with_reducible apply wo_fldH0 | with_reducible apply wo_fld1 | with_reducible apply wo_fld2 | with_reducible apply wo_fldW0 | with_reducible apply wo_fldW1 | with_reducible apply wo_fldW2) | ((with_reducible apply gS); first | with_reducible apply w_seq | with_reducible apply w_asg | with_reducible apply w_sif | with_reducible apply w_next | with_reducible apply w_ret | with_reducible apply w_par | with_reducible apply w_drop | with_reducible apply w_asgT | with_reducible apply w_retN | with_reducible apply w_brk | with_reducible apply w_cnt | with_reducible apply w_raise | with_reducible apply w_forI) | ((with_reducible apply gI); first | with_reducible apply wI_t | with_reducible apply wI_f | with_reducible apply wI_not) | with_reducible apply w_bl | with_reducible apply thn_nx | with_reducible apply w_int | with_reducible apply w_obj | with_reducible apply thn_rt | with_reducible apply lp_nx | with_reducible apply fnl_int | with_reducible apply fnl_bl | with_reducible apply fnl_non | with_reducible apply fnl_str | with_reducible apply fnl_nx | with_reducible apply thn_bk | with_reducible apply thn_ct | with_reducible apply thn_xc | with_reducible apply lp_rt | with_reducible apply lp_bk | with_reducible apply lp_xc | with_reducible apply w_itL | with_reducible apply w_itT | with_reducible apply w_itK)
local macro_rules | `(tactic| walk_at "p") => `(tactic| repeat walk_at "w")
/-! E10: an own list made by a comprehension with a test. -/
/-! RDC: dicts whose keys are tuples of ints. -/
def tI (r : List Int) : D := .tup (r.map .int)
theorem cb_tI (n : Nat) (r : List Int) : cb n (tI r) = true := cbL_ints _ _
/-! ### the keys in order -/
/-! APP (split from LST3). -/
section
variable {N : Nat} {C : Store} {Q : D → Store → Prop} {X : Exc → Store → Prop} {f : Int × Int → Int} {fl : Nat} {sl : List (Option D)} {P : RS → Prop}
theorem app_set {S : Store} {a b : Option Cell} : (S ++ [a]).set S.length b = S ++ [b] := by simp
theorem app_at {S : Store} {a : Option Cell} : (S ++ [a])[S.length]? = some a := by simp
end
/-! MKI (split from SO7). -/
section
variable {N u v : Nat} {C : Store} {Q : D → Store → Prop} {X : Exc → Store → Prop} {P : RS → Prop} {f : Int × Int → Int} {r r2 : List Int} {x : D} {e : Exc} {n : Int}
theorem w_fld7 {c n i : Nat} {me mo : ME} {fl : Nat} {sl : List (Option D)} (h : wR (me ⟨fl, sl⟩ C) (fun v C1 => wR (mo ⟨fl, sl⟩ C1) (fun o C2 => ∃ fs, o = .cell i ∧ C2[i]? = some (some (.ins c fs)) ∧ n ≤ fs.length ∧ cbL 0 (if n < fs.length then fs.set n v else fs ++ [v]) = true ∧ P (.nx sl (C2.set i (some (.ins c (if n < fs.length then fs.set n v else fs ++ [v])))))) (fun e C2 => P (.xc e sl C2))) (fun e C1 => P (.xc e sl C1))) : wS (sFldS c n me mo ⟨fl, sl⟩ C) P := by
  unfold sFldS
  refine w_bndS (w_mono h (fun v C1 g => w_bndS (w_mono g (fun o C2 g => ?_) fun _ _ z => z)) fun _ _ z => z)
  obtain ⟨fs, rfl, h1, h2, h3, q⟩ := g
  have w : wr fl i (.ins c (if n < fs.length then fs.set n v else fs ++ [v])) C2 = some (C2.set i (some (.ins c (if n < fs.length then fs.set n v else fs ++ [v])))) := by
    unfold wr
    rw [if_neg (fun z => by
      have : cbC 0 (.ins c (if n < fs.length then fs.set n v else fs ++ [v])) = true := h3
      rw [this] at z
      exact absurd z.2 (by decide))]
  simp only [h1]
  rw [if_pos ⟨trivial, h2⟩, w]
  exact w_sof q
theorem e1_set {S : Store} {a b : Option Cell} : (S ++ [a]).set S.length b = S ++ [b] := by simp
theorem w_mk7 {c nf : Nat} {m : MF} {ds fs : List D} {F : Fr} (hf : fs.length = nf) (hc : cbL C.length fs = true) (h : wR (m (.cell C.length :: (ds ++ [])) (C ++ [some (.ins c [])])) (fun d C2 => d = .non ∧ C2 = C ++ [some (.ins c fs)]) noX) (q : Q (.obj c fs) C) : wR (mMake false c nf m [] (fun _ _ => .ok ds C) F C) Q X := by
  obtain ⟨d, C2, e, rfl, rfl⟩ := w_out h
  unfold mMake
  simp only [bnd_ok, e]
  rw [if_neg (by decide), app_at]
  simp only [hf, hc, and_self, if_true]
  rw [show (C ++ [some (Cell.ins c fs)]).take C.length = C by simp]
  exact w_ok q
end
theorem is_count_int (x a b : Int) (C : Store) : m_is_count [.int x, .int a, .int b] C = .ok (.bl (decide (a ≤ x) && decide (x ≤ b))) C := by
  simp [m_is_count, b_is_count, ev_def, is_integer_int]
  by_cases h : a ≤ x <;> simp [h]
end CL
set_option maxHeartbeats 4000000
/-! M2: sums of ties, grids, webs. -/
namespace CL
open PySem L2 CT
abbrev T3 := Int × Int × Int
def triD (t : T3) : D := .tup [.int t.1, .int t.2.1, .int t.2.2]
def pr (t : T3) : Int × Int := (min t.1 t.2.1, max t.1 t.2.1)
def addT (d : Dc) (t : T3) : Dc := dp d (pr t) (dg0 d (pr t) + t.2.2)
def sums (L : List T3) : Dc := L.foldl addT []
def IsSeq (d : D) (xs : List D) : Prop := ∀ C, itS d C = some (itC xs)
theorem seq_lst (xs : List D) : IsSeq (.lst xs) xs := fun _ => rfl
theorem seq_tup (xs : List D) : IsSeq (.tup xs) xs := fun _ => rfl
theorem seq_kt (xs : List D) : IsSeq (.kt xs) xs := fun _ => rfl
/-! ### d[k] = v -/
def puK4 (F : Fr) (v o x : D) (C3 : Store) : RS := match x, cD o C3 with
  | .tup ds, some (i, ks, vs) => match keyL ds with
    | some key => if szN (ks.length + 1) = true then match wr F.fl i (.dT (putT ks vs key v).1 (putT ks vs key v).2) C3 with
      | some C4 => .nx F.sl C4
      | none => .stuck
      else .stuck
    | none => .stuck
  | _, _ => .stuck
def puK3 (F : Fr) (v o : D) (m : R D) : RS := bndS F.sl m fun x C3 => puK4 F v o x C3
@[simp] theorem puK3_ok (F : Fr) (v o x : D) (C : Store) : puK3 F v o (.ok x C) = puK4 F v o x C := rfl
def puK2 (mi : ME) (F : Fr) (v : D) (m : R D) : RS := bndS F.sl m fun o C2 => puK3 F v o (mi F C2)
@[simp] theorem puK2_ok (mi : ME) (F : Fr) (v o : D) (C : Store) : puK2 mi F v (.ok o C) = puK3 F v o (mi F C) := rfl
def puK (mo mi : ME) (F : Fr) (m : R D) : RS := bndS F.sl m fun v C1 => puK2 mi F v (mo F C1)
@[simp] theorem puK_ok (mo mi : ME) (F : Fr) (v : D) (C : Store) : puK mo mi F (.ok v C) = puK2 mi F v (mo F C) := rfl
@[simp] theorem ev_put (me mo mi : ME) (F : Fr) (C : Store) : sPut me mo mi F C = puK mo mi F (me F C) := rfl
@[simp] theorem keyL2 (a b : Int) : keyL [.int a, .int b] = some [.inl a, .inl b] := rfl
theorem put_at {F : Fr} {C : Store} {i : Nat} {d : Dc} {a b v : Int} (hC : C[i]? = some (some (.dT (dcK d) (dcV d)))) (hz : d.length < 16777216) (hf : F.fl ≤ i ∨ True) :
    puK4 F (.int v) (.cell i) (.tup [.int a, .int b]) C = .nx F.sl (C.set i (some (.dT (dcK (dp d (a, b) v)) (dcV (dp d (a, b) v))))) := by
  have e := put_dc d (a, b) v
  have z : szN ((dcK d).length + 1) = true := by simp [szN, dcK]; omega
  have c0 : cbC 0 (.dT (dcK (dp d (a, b) v)) (dcV (dp d (a, b) v))) = true := by
    show cbL 0 (dcV (dp d (a, b) v)) = true
    unfold dcV
    have := cbL_ints 0 ((dp d (a, b) v).map (·.2))
    rw [List.map_map] at this
    exact this
  have w : wr F.fl i (.dT (dcK (dp d (a, b) v)) (dcV (dp d (a, b) v))) C = some (C.set i (some (.dT (dcK (dp d (a, b) v)) (dcV (dp d (a, b) v))))) := by
    unfold wr
    rw [if_neg (fun h => by rw [c0] at h; cases h.2)]
  simp only [puK4, cD, hC, keyL2, z, if_true]
  simp only at e
  rw [e]
  simp only [w]
theorem get_at {x : D} {C : Store} {d : Dc} {a b : Int} (h : vD x C = some (dcK d, dcV d)) : oDGet x (.tup [.int a, .int b]) (.int 0) C = some (.int (dg0 d (a, b)), C) := by
  have e := look_dc (a, b) d
  simp only at e
  simp only [oDGet, h, keyL2, Option.bind_some, Option.map_some]
  rw [e]
  unfold dg0
  cases dg d (a, b) <;> rfl
theorem ix_at {x : D} {C : Store} {d : Dc} {a b n : Int} (h : vD x C = some (dcK d, dcV d)) (hn : dg d (a, b) = some n) : oDIx x (.tup [.int a, .int b]) C = some (.int n, C) := by
  have e := look_dc (a, b) d
  simp only at e
  simp only [oDIx, h, keyL2, Option.bind_some]
  rw [e, hn]
  rfl
theorem sums_take (L : List T3) (j : Nat) (t : T3) (h : L[j]? = some t) : sums (L.take (j + 1)) = addT (sums (L.take j)) t := by
  have hj : j < L.length := (List.getElem?_eq_some_iff.mp h).1
  have e : L.take (j + 1) = L.take j ++ [t] := by
    rw [← (List.getElem?_eq_some_iff.mp h).2]
    exact (List.take_append_getElem hj).symm
  unfold sums
  rw [e, List.foldl_append]
  rfl
theorem sums_len : ∀ (L : List T3) (d : Dc), (L.foldl addT d).length ≤ d.length + L.length
  | [], d => by simp
  | t :: L, d => by
    have h1 := sums_len L (addT d t)
    have h2 : (addT d t).length ≤ d.length + 1 := dp_len _ _ _
    simp only [List.foldl_cons, List.length_cons]
    omega
theorem summed_ok {d : D} {L : List T3} {C : Store} (hd : SeqIn d (L.map triD) C) (hl : L.length ≤ 1000000) : m_summed [d] C = .ok (.dT (dcK (sums L)) (dcV (sums L))) C := by
  obtain ⟨it, hit, pit⟩ := hd
  rw [e_summed, b_summed, ev_seq]
  have e0 : b_summed_0 ⟨C.length, [some d, none, none, none, none, none]⟩ C = .nx [some d, some (.cell C.length), none, none, none, none] (C ++ [some (.dT [] [])]) := by
    simp [b_summed_0, mDNew, mkD]
  rw [e0, seqK_nx, ev_seq, b_summed_1, ev_for]
  rw [ev_seqI (d := d) (it := it) (by simp) (hit _), forK_ok]
  obtain ⟨sl', C', h1, h2⟩ := loop_on pit (g := (Tgt.tp [2, 3, 4]).M) (body := sSeq b_summed_1b_0 b_summed_1b_1) (fl := C.length)
    (fun j sl St => St = C ++ [some (.dT (dcK (sums (L.take j))) (dcV (sums (L.take j))))] ∧ ∃ s2 s3 s4 s5, sl = [some d, some (.cell C.length), s2, s3, s4, s5])
    (fun j sl St hi => ⟨_, hi.1⟩)
    (fun j x sl St hx hi => by
      obtain ⟨rfl, s2, s3, s4, s5, rfl⟩ := hi
      rw [List.getElem?_map, Option.map_eq_some_iff] at hx
      obtain ⟨t, ht, rfl⟩ := hx
      have at_n : ∀ c : Option Cell, (C ++ [c])[C.length]? = some c := fun c => by simp
      have hv : vD (.cell C.length) (C ++ [some (.dT (dcK (sums (L.take j))) (dcV (sums (L.take j))))]) = some (dcK (sums (L.take j)), dcV (sums (L.take j))) := by
        simp only [vD, at_n]
      have hz : (sums (L.take j)).length < 16777216 := by
        have h1 := sums_len (L.take j) []
        have h2 : (L.take j).length ≤ L.length := by simp; omega
        have h3 : (sums (L.take j)).length ≤ ([] : Dc).length + (L.take j).length := h1
        simp only [List.length_nil] at h3
        omega
      refine ⟨[some d, some (.cell C.length), some (.int t.1), some (.int t.2.1), some (.int t.2.2), s5], [some d, some (.cell C.length), some (.int t.1), some (.int t.2.1), some (.int t.2.2), some (.tup [.int (pr t).1, .int (pr t).2])], C ++ [some (.dT (dcK (addT (sums (L.take j)) t)) (dcV (addT (sums (L.take j)) t)))], by simp [triD], ?_, ?_, _, _, _, _, rfl⟩
      · rw [ev_seq]
        have eb : b_summed_1b_0 ⟨C.length, [some d, some (.cell C.length), some (.int t.1), some (.int t.2.1), some (.int t.2.2), s5]⟩ (C ++ [some (.dT (dcK (sums (L.take j))) (dcV (sums (L.take j))))]) =
            .nx [some d, some (.cell C.length), some (.int t.1), some (.int t.2.1), some (.int t.2.2), some (.tup [.int (pr t).1, .int (pr t).2])] (C ++ [some (.dT (dcK (sums (L.take j))) (dcV (sums (L.take j))))]) := by
          simp [b_summed_1b_0, oTup, szN, pr]
        rw [eb, seqK_nx]
        have hs : (vD (.cell C.length) (C ++ [some (.dT (dcK (sums (L.take j))) (dcV (sums (L.take j))))])).isSome = true := by rw [hv]; rfl
        simp only [b_summed_1b_1, ev_put, ev_op, ev_dget, ev_var, List.getElem?_cons_succ, List.getElem?_cons_zero, getV_some, getK_ok _ _ _ hs, getK2_ok, ev_c, getK3_ok, get_at hv, ev_ofO_some, opK_ok, opK2_ok, ev_add, puK_ok, puK2_ok, puK3_ok]
        rw [put_at (at_n _) hz (.inr trivial)]
        simp [addT]
      · rw [sums_take L j t ht])
    (sl := [some d, some (.cell C.length), none, none, none, none]) (C := C ++ [some (.dT [] [])]) ⟨rfl, _, _, _, _, rfl⟩
  rw [h1, seqK_nx]
  obtain ⟨rfl, s2, s3, s4, s5, rfl⟩ := h2
  have hL : L.take (L.map triD).length = L := by rw [List.length_map, List.take_length]
  rw [hL]
  have at_n : ∀ c : Option Cell, (C ++ [c])[C.length]? = some c := fun c => by simp
  have cv : cbL C.length (dcV (sums L)) = true := by
    unfold dcV
    have := cbL_ints C.length ((sums L).map (·.2))
    rw [List.map_map] at this
    exact this
  simp [b_summed_2, fin, fz, cb, cv]
end CL
set_option maxHeartbeats 4000000
/-! M3: a web is made. -/
namespace CL
open PySem L2 CT
@[simp] theorem getK_dT (b c : ME) (F : Fr) (ks : List (List Key)) (vs : List D) (C : Store) : getK b c F (.ok (.dT ks vs) C) = getK2 c F (.dT ks vs) (b F C) := rfl
def ValidT (N : Nat) (t : T3) : Prop := 0 ≤ t.1 ∧ t.1 < N ∧ 0 ≤ t.2.1 ∧ t.2.1 < N ∧ t.1 ≠ t.2.1 ∧ 0 ≤ t.2.2 ∧ t.2.2 ≤ 1000000000
theorem is_tie_true {N : Nat} {t : T3} (h : ValidT N t) (C : Store) : m_is_tie [.int N, triD t] C = .ok (.bl true) C := by
  obtain ⟨h1, h2, h3, h4, h5, h6, h7⟩ := h
  have a1 : t.1 ≤ (N : Int) - 1 := by omega
  have a2 : t.2.1 ≤ (N : Int) - 1 := by omega
  simp [e_is_tie, b_is_tie, b_is_tie_0, b_is_tie_1, b_is_tie_2, b_is_tie_3, isi, tyD, isaT, oLen, vS, triD, is_count_int, h1, h3, h5, h6, h7, a1, a2]
def rowsOf (N : Nat) (f : Int × Int → Int) : List (List Int) := (List.range N).map fun u : Nat => (List.range N).map fun v : Nat => f (min (u : Int) (v : Int), max (u : Int) (v : Int))
def gridD (G : List (List Int)) : D := .lst (G.map fun r => .lst (r.map .int))
def asI : D → Int
  | .int i => i
  | _ => 0
theorem rng_all (N : Nat) (h : D → D) : ((rngI 0 N).filter fun _ => true).map h = (List.range N).map fun u => h (.int (u : Nat)) := by
  rw [filter_yes, rngI, List.map_map]
  apply List.map_congr_left
  intro a _
  simp
theorem inR_nat {N : Nat} (h : N ≤ 1000) : inR (N : Int) = true := by
  simp only [inR, Bool.and_eq_true, decide_eq_true_eq]
  omega
theorem grid_of_ok {d : D} {L : List T3} {C : Store} {N : Nat} (hN : N ≤ 60) (hd : SeqIn d (L.map triD) C) (hl : L.length ≤ 1000000) : m_grid_of [.int N, d] C = .ok (gridD (rowsOf N (dg0 (sums L)))) C := by
  rw [e_grid_of, b_grid_of, ev_seq]
  have e0 : b_grid_of_0 ⟨C.length, [some (.int N), some d, none, none, none]⟩ C = .nx [some (.int N), some d, some (.dT (dcK (sums L)) (dcV (sums L))), none, none] C := by
    simp [b_grid_of_0, summed_ok hd hl]
  rw [e0, seqK_nx]
  have inner : ∀ (u : Int) (C' : Store), mLc false (mRng1 (mVar 0)) (Tgt.nm 4).M tYesM (mDGet (mVar 2) (mAp oTup (mCons (mAp oMin2 (mCons (mVar 3) (mCons (mVar 4) mNil))) (mCons (mAp oMax2 (mCons (mVar 3) (mCons (mVar 4) mNil))) mNil))) (mC (.int 0))) [4]
      ⟨C.length, [some (.int N), some d, some (.dT (dcK (sums L)) (dcV (sums L))), some (.int u), none]⟩ C' = .ok (.lst (((List.range N).map fun v : Nat => dg0 (sums L) (min u (v : Int), max u (v : Int))).map .int)) C' := fun u C' => by
    rw [ev_lc (pure_R 0 N) (fun _ => true) (fun x => .int (dg0 (sums L) (min u (asI x), max u (asI x)))) (by rw [ev_rng1 (j := (N : Int)) (by simp) (inR_nat (by omega))]; simp) (by simp [rngI]; omega)
      (fun x hx => by
        obtain ⟨v, hv, rfl⟩ := mem_rng hx
        refine ⟨[some (.int N), some d, some (.dT (dcK (sums L)) (dcV (sums L))), some (.int u), some (.int (0 + (v : Int)))], by simp, fun acc => ⟨rfl, fun _ => ?_⟩⟩
        simp [oTup, szN, asI, get_at (x := .dT (dcK (sums L)) (dcV (sums L))) rfl])
      (fun x hx _ => rfl)]
    rw [rng_all, List.map_map]
    rfl
  have e1 : mLc false (mRng1 (mVar 0)) (Tgt.nm 3).M tYesM (mLc false (mRng1 (mVar 0)) (Tgt.nm 4).M tYesM (mDGet (mVar 2) (mAp oTup (mCons (mAp oMin2 (mCons (mVar 3) (mCons (mVar 4) mNil))) (mCons (mAp oMax2 (mCons (mVar 3) (mCons (mVar 4) mNil))) mNil))) (mC (.int 0))) [4]) [3]
      ⟨C.length, [some (.int N), some d, some (.dT (dcK (sums L)) (dcV (sums L))), none, none]⟩ C = .ok (gridD (rowsOf N (dg0 (sums L)))) C := by
    rw [ev_lc (pure_R 0 N) (fun _ => true) (fun x => .lst (((List.range N).map fun v : Nat => dg0 (sums L) (min (asI x) (v : Int), max (asI x) (v : Int))).map .int)) (by rw [ev_rng1 (j := (N : Int)) (by simp) (inR_nat (by omega))]; simp) (by simp [rngI]; omega)
      (fun x hx => by
        obtain ⟨u, hu, rfl⟩ := mem_rng hx
        refine ⟨[some (.int N), some d, some (.dT (dcK (sums L)) (dcV (sums L))), some (.int (0 + (u : Int))), none], by simp, fun acc => ⟨rfl, fun _ => ?_⟩⟩
        exact inner (0 + (u : Int)) _)
      (fun x hx _ => cbL_ints _ _)]
    rw [rng_all]
    simp [gridD, rowsOf, asI, List.map_map]
  have cg : cb C.length (gridD (rowsOf N (dg0 (sums L)))) = true := by
    show cbL C.length _ = true
    refine cbL_all fun d hd => ?_
    obtain ⟨r, hr, rfl⟩ := List.mem_map.mp hd
    exact cbL_ints _ _
  rw [b_grid_of_1, ev_sret, e1, retK_ok, finS_rt]
  show (if cb C.length (gridD (rowsOf N (dg0 (sums L)))) = true then R.ok (gridD (rowsOf N (dg0 (sums L)))) (C.take C.length) else .stuck) = _
  rw [if_pos cg, List.take_length]
end CL
set_option maxHeartbeats 4000000
/-! M4: Web(size, ties). -/
namespace CL
open PySem L2 CT
def pairsL (N : Nat) : List (Int × Int) := (List.range N).flatMap fun u : Nat => (List.range (N - (u + 1))).map fun w : Nat => ((u : Int), ((u + 1 + w : Nat) : Int))
def tiesL (N : Nat) (f : Int × Int → Int) : List T3 := ((pairsL N).filter fun p => decide (0 < f p)).map fun p => (p.1, p.2, f p)
def webD (N : Nat) (f : Int × Int → Int) : D := .obj 0 [.int N, gridD (rowsOf N f), .tup ((tiesL N f).map triD)]
def pD (p : Int × Int) : D := .tup [.int p.1, .int p.2]
theorem mem_pairs {N : Nat} {p : Int × Int} : p ∈ pairsL N ↔ ∃ u v : Nat, u < v ∧ v < N ∧ p = ((u : Int), (v : Int)) := by
  unfold pairsL
  rw [List.mem_flatMap]
  constructor
  · rintro ⟨u, hu, hp⟩
    obtain ⟨w, hw, rfl⟩ := List.mem_map.mp hp
    have := List.mem_range.mp hu
    have := List.mem_range.mp hw
    exact ⟨u, u + 1 + w, by omega, by omega, rfl⟩
  · rintro ⟨u, v, h1, h2, rfl⟩
    refine ⟨u, List.mem_range.mpr (by omega), List.mem_map.mpr ⟨v - (u + 1), List.mem_range.mpr (by omega), ?_⟩⟩
    have e : u + 1 + (v - (u + 1)) = v := by omega
    rw [e]
theorem grid_ix {N : Nat} {f : Int × Int → Int} {u : Nat} (hu : u < N) (C : Store) : oIx (gridD (rowsOf N f)) (.int u) C = some (.lst (((List.range N).map fun v : Nat => f (min (u : Int) (v : Int), max (u : Int) (v : Int))).map .int), C) := by
  simp [oIx, vS, gridD, rowsOf, atI, ixN, hu]
theorem row_ix {N : Nat} {g : Nat → Int} {v : Nat} (hv : v < N) (C : Store) : oIx (.lst (((List.range N).map g).map .int)) (.int v) C = some (.int (g v), C) := by
  simp [oIx, vS, atI, ixN, hv]
theorem anyF {C : Store} {l : List D} (h : ∀ d ∈ l, d = .bl false) : oAny [.lst l] C = some (.bl false, C) := by
  have e : dBools l = some (l.map fun _ => false) := by
    induction l with
    | nil => rfl
    | cons d l ih =>
      have h1 := h d (List.mem_cons_self ..)
      subst h1
      simp [dBools, ih fun x hx => h x (List.mem_cons_of_mem _ hx)]
  simp [oAny, vL, e]
def big : D → Bool
  | .int n => decide (1000000000 < n)
  | _ => false
theorem flatMap_cg {α β : Type} {f g : α → List β} : ∀ {l : List α}, (∀ x ∈ l, f x = g x) → l.flatMap f = l.flatMap g
  | [], _ => rfl
  | x :: l, h => by rw [List.flatMap_cons, List.flatMap_cons, h x (List.mem_cons_self ..), flatMap_cg fun y hy => h y (List.mem_cons_of_mem _ hy)]
def itemsD : D → List D
  | .lst l => l
  | _ => []
theorem rows_len {N : Nat} {f : Int × Int → Int} {r : List Int} (h : r ∈ rowsOf N f) : r.length = N ∧ ∀ x ∈ r, ∃ u v : Nat, u < N ∧ v < N ∧ x = f (min (u : Int) (v : Int), max (u : Int) (v : Int)) := by
  unfold rowsOf at h
  obtain ⟨u, hu, rfl⟩ := List.mem_map.mp h
  refine ⟨by simp, fun x hx => ?_⟩
  obtain ⟨v, hv, rfl⟩ := List.mem_map.mp hx
  exact ⟨u, v, List.mem_range.mp hu, List.mem_range.mp hv, rfl⟩
/-- d is a list or a tuple of these items, perhaps a cell -/
def SeqD (d : D) (xs : List D) (C : Store) : Prop := d = .lst xs ∨ d = .tup xs ∨ d = .kt xs ∨ ∃ i, d = .cell i ∧ C[i]? = some (some (.lst xs))
theorem SeqD.app {d : D} {xs : List D} {C : Store} (h : SeqD d xs C) (Z : Store) : SeqD d xs (C ++ Z) := by
  rcases h with h | h | h | ⟨i, h, e⟩
  · exact .inl h
  · exact .inr (.inl h)
  · exact .inr (.inr (.inl h))
  · exact .inr (.inr (.inr ⟨i, h, by rw [List.getElem?_append_left (List.getElem?_eq_some_iff.mp e).1]; exact e⟩))
theorem SeqD.seq {d : D} {xs : List D} {C : Store} (h : SeqD d xs C) : SeqIn d xs C := by
  rcases h with rfl | rfl | rfl | ⟨i, rfl, e⟩
  · exact seq_of (seq_lst xs) C
  · exact seq_of (seq_tup xs) C
  · exact seq_of (seq_kt xs) C
  · exact seq_cell e
section
variable {N : Nat} {L : List T3} {C : Store} {d : D}
abbrev fL (L : List T3) : Int × Int → Int := dg0 (sums L)
theorem init_0 {sl : List (Option D)} {fl : Nat} (hN : N ≤ 60) (h : sl[1]? = some (some (.int N))) : b_Web__init_0 ⟨fl, sl⟩ C = .nx sl C := by
  have h60 : (N : Int) ≤ 60 := by omega
  simp [b_Web__init_0, h, is_count_int, h60]
theorem init_1 {sl : List (Option D)} {fl : Nat} {xs : List D} (h : sl[2]? = some (some d)) (hd : SeqD d xs C) : b_Web__init_1 ⟨fl, sl⟩ C = .nx sl C := by
  rcases hd with rfl | rfl | rfl | ⟨i, rfl, e⟩
  · simp [b_Web__init_1, h, mIsi2, isi, tyD, isaT]
  · simp [b_Web__init_1, h, mIsi2, isi, tyD, isaT]
  · simp [b_Web__init_1, h, mIsi2, isi, tyD, isaT]
  · simp [b_Web__init_1, h, mIsi2, isi, tyD, isaT, e]
theorem init_2 {fl i : Nat} (hs : SeqIn d (L.map triD) C) (hv : ∀ t ∈ L, ValidT N t) : ∃ s3 s4, b_Web__init_2 ⟨fl, [some (.cell i), some (.int N), some d, none, none, none, none, none, none, none, none]⟩ C = .nx [some (.cell i), some (.int N), some d, s3, s4, none, none, none, none, none, none] C := by
  obtain ⟨it, hit, pit⟩ := hs.at0
  rw [b_Web__init_2, ev_for, ev_enum (d := d) (it := it) (by simp) hit, forK_ok]
  obtain ⟨sl', C', h1, h2⟩ := loop_on pit.pairs (g := (Tgt.tp [3, 4]).M) (body := b_Web__init_2b_0) (fl := fl)
    (fun j sl St => St = C ∧ ∃ s3 s4, sl = [some (.cell i), some (.int N), some d, s3, s4, none, none, none, none, none, none])
    (fun j sl St hi => ⟨[], by rw [hi.1, List.append_nil]⟩)
    (fun j x sl St hx hi => by
      obtain ⟨rfl, s3, s4, rfl⟩ := hi
      rw [List.getElem?_map, Option.map_eq_some_iff] at hx
      obtain ⟨⟨a, y⟩, hy, rfl⟩ := hx
      obtain ⟨_, hy2⟩ := List.getElem?_zip_eq_some.mp hy
      rw [List.getElem?_map, Option.map_eq_some_iff] at hy2
      obtain ⟨t, ht, rfl⟩ := hy2
      refine ⟨[some (.cell i), some (.int N), some d, some (.int a), some (triD t), none, none, none, none, none, none], [some (.cell i), some (.int N), some d, some (.int a), some (triD t), none, none, none, none, none, none], St, by simp, ?_, rfl, _, _, rfl⟩
      simp [b_Web__init_2b_0, is_tie_true (hv t (List.mem_of_getElem? ht))])
    (sl := [some (.cell i), some (.int N), some d, none, none, none, none, none, none, none, none]) (C := C) ⟨rfl, _, _, rfl⟩
  obtain ⟨rfl, s3, s4, rfl⟩ := h2
  exact ⟨s3, s4, h1⟩
theorem init_3 {fl i : Nat} {s3 s4 : Option D} (hN : N ≤ 60) (hs : SeqIn d (L.map triD) C) (hl : L.length ≤ 1000000) : b_Web__init_3 ⟨fl, [some (.cell i), some (.int N), some d, s3, s4, none, none, none, none, none, none]⟩ C =
    .nx [some (.cell i), some (.int N), some d, s3, s4, some (gridD (rowsOf N (fL L))), none, none, none, none, none] C := by
  simp [b_Web__init_3, grid_of_ok hN hs hl]
theorem init_4 {fl i : Nat} {s3 s4 : Option D} {f : Int × Int → Int} (hN : N ≤ 60) (hf : ∀ u v : Nat, u < N → v < N → f (min (u : Int) (v : Int), max (u : Int) (v : Int)) ≤ 1000000000) :
    b_Web__init_4 ⟨fl, [some (.cell i), some (.int N), some d, s3, s4, some (gridD (rowsOf N f)), none, none, none, none, none]⟩ C = .nx [some (.cell i), some (.int N), some d, s3, s4, some (gridD (rowsOf N f)), none, none, none, none, none] C := by
  have e : mLc2 false (mSeq (mVar 5)) (Tgt.nm 7).M tYesM (mSeq (mVar 7)) (Tgt.nm 8).M tYesM (mOp oGt (mVar 8) (mC (.int 1000000000))) [7, 8] [8] ⟨fl, [some (.cell i), some (.int N), some d, s3, s4, some (gridD (rowsOf N f)), none, none, none, none, none]⟩ C =
      .ok (.lst (flat2 ((rowsOf N f).map fun r => .lst (r.map .int)) itemsD (fun _ _ => true) fun _ y => .bl (big y))) C := by
    refine ev_lc2 (pure_C ((rowsOf N f).map fun r => D.lst (r.map .int))) itemsD (fun _ _ => true) (fun _ y => .bl (big y)) 60 ?_ (fun x hx => ?_) ?_ (by omega) (fun x hx => ?_) (fun _ _ _ _ _ => rfl)
    · exact ev_seqI (d := gridD (rowsOf N f)) (by simp) rfl
    · obtain ⟨r, hr, rfl⟩ := List.mem_map.mp hx
      show (r.map D.int).length ≤ 60
      rw [List.length_map, (rows_len hr).1]
      exact hN
    · have : (rowsOf N f).length = N := by simp [rowsOf]
      rw [List.length_map, this]
      omega
    · obtain ⟨r, hr, rfl⟩ := List.mem_map.mp hx
      refine ⟨[some (.cell i), some (.int N), some d, s3, s4, some (gridD (rowsOf N f)), none, some (.lst (r.map .int)), none, none, none], by simp, fun acc => ⟨⟨itC (r.map .int), pure_C _, ev_seqI (d := .lst (r.map .int)) (by simp) rfl⟩, fun y hy => ?_⟩⟩
      obtain ⟨n, hn, rfl⟩ := List.mem_map.mp hy
      exact ⟨[some (.cell i), some (.int N), some d, s3, s4, some (gridD (rowsOf N f)), none, some (.lst (r.map .int)), some (.int n), none, none], by simp, fun acc => ⟨rfl, fun _ => by simp [big]⟩⟩
  have a := anyF (C := C) (l := flat2 ((rowsOf N f).map fun r => .lst (r.map .int)) itemsD (fun _ _ => true) fun _ y => .bl (big y)) fun x hx => by
    unfold flat2 at hx
    obtain ⟨row, hrow, hx⟩ := List.mem_flatMap.mp hx
    obtain ⟨r, hr, rfl⟩ := List.mem_map.mp hrow
    obtain ⟨y, hy, rfl⟩ := List.mem_map.mp hx
    have hy' := (List.mem_filter.mp hy).1
    obtain ⟨n, hn, rfl⟩ := List.mem_map.mp hy'
    obtain ⟨u, v, hu, hv, rfl⟩ := (rows_len hr).2 n hn
    have := hf u v hu hv
    simp only [big]
    rw [decide_eq_false (by omega)]
  simp only [b_Web__init_4, ev_sif, ev_tst, ev_ap, ev_cons, e, consK_ok, ev_nil, consK2_ok, apK_ok, a, ev_ofO_some, tstK_ok, sifK_f, ev_next]
theorem init_5 {fl i : Nat} {s3 s4 s5 : Option D} (hN : N ≤ 60) : b_Web__init_5 ⟨fl, [some (.cell i), some (.int N), some d, s3, s4, s5, none, none, none, none, none]⟩ C =
    .nx [some (.cell i), some (.int N), some d, s3, s4, s5, some (.lst ((pairsL N).map pD)), none, none, none, none] C := by
  have e : mLc2 false (mRng1 (mVar 1)) (Tgt.nm 9).M tYesM (mRng2 (mOp oAdd (mVar 9) (mC (.int 1))) (mVar 1)) (Tgt.nm 10).M tYesM (mAp oTup (mCons (mVar 9) (mCons (mVar 10) mNil))) [9, 10] [10] ⟨fl, [some (.cell i), some (.int N), some d, s3, s4, s5, none, none, none, none, none]⟩ C =
      .ok (.lst (flat2 (rngI 0 N) (fun x => rngI (asI x + 1) (N - (asI x + 1)).toNat) (fun _ _ => true) fun x y => .tup [x, y])) C := by
    refine ev_lc2 (pure_R 0 N) (fun x => rngI (asI x + 1) (N - (asI x + 1)).toNat) (fun _ _ => true) (fun x y => .tup [x, y]) 60 (by rw [ev_rng1 (j := (N : Int)) (by simp) (inR_nat (by omega))]; simp) (fun x hx => ?_) (by simp [rngI]; omega) (by omega) (fun x hx => ?_) (fun x hx y hy _ => ?_)
    · obtain ⟨u, hu, rfl⟩ := mem_rng hx
      simp [rngI, asI]
      omega
    · obtain ⟨u, hu, rfl⟩ := mem_rng hx
      refine ⟨[some (.cell i), some (.int N), some d, s3, s4, s5, none, none, none, some (.int (0 + (u : Int))), none], by simp, fun acc => ⟨⟨itR ((0 + (u : Int)) + 1) ((N : Int) - ((0 + (u : Int)) + 1)).toNat, pure_R _ _, ?_⟩, fun y hy => ?_⟩⟩
      · exact ev_rng2 (by simp) (by simp) (by have := inR_nat (N := u + 1) (by omega); simpa using this) (inR_nat (by omega))
      · obtain ⟨w, hw, rfl⟩ := mem_rng hy
        exact ⟨[some (.cell i), some (.int N), some d, s3, s4, s5, none, none, none, some (.int (0 + (u : Int))), some (.int (asI (.int (0 + (u : Int))) + 1 + (w : Int)))], by simp, fun acc => ⟨rfl, fun _ => by simp [oTup, szN]⟩⟩
    · obtain ⟨u, hu, rfl⟩ := mem_rng hx
      obtain ⟨w, hw, rfl⟩ := mem_rng hy
      rfl
  have ep : flat2 (rngI 0 N) (fun x => rngI (asI x + 1) (N - (asI x + 1)).toNat) (fun _ _ => true) (fun x y => .tup [x, y]) = (pairsL N).map pD := by
    unfold flat2 pairsL
    rw [List.map_flatMap]
    unfold rngI
    rw [List.flatMap_map]
    apply flatMap_cg
    intro u hu
    have hu' := List.mem_range.mp hu
    rw [filter_yes, List.map_map, List.map_map]
    have e1 : ((N : Int) - (asI (.int (0 + (u : Int))) + 1)).toNat = N - (u + 1) := by simp only [asI]; omega
    rw [e1]
    apply List.map_congr_left
    intro w hw
    simp [pD, asI]
  rw [b_Web__init_5, ev_asg, e, ep]
  simp
end
end CL
set_option maxHeartbeats 4000000
/-! M5: Web(size, ties), made. -/
namespace CL
open PySem L2 CT
theorem fld_ok {c n i : Nat} {me mo : ME} {F : Fr} {C : Store} {v : D} {fs : List D} (h1 : me F C = .ok v C) (h2 : mo F C = .ok (.cell i) C) (h3 : C[i]? = some (some (.ins c fs))) (h4 : n = fs.length) (h5 : cbL 0 (fs ++ [v]) = true) :
    sFldS c n me mo F C = .nx F.sl (C.set i (some (.ins c (fs ++ [v])))) := by
  have w : wr F.fl i (.ins c (fs ++ [v])) C = some (C.set i (some (.ins c (fs ++ [v])))) := by
    unfold wr
    rw [if_neg (fun h => by rw [show cbC 0 (.ins c (fs ++ [v])) = cbL 0 (fs ++ [v]) from rfl, h5] at h; cases h.2)]
  unfold sFldS
  rw [h1]
  simp only [bndS_ok]
  rw [h2]
  simp only [bndS_ok, h3]
  rw [if_pos ⟨trivial, Nat.le_of_eq h4⟩, if_neg (by omega), w]
theorem cbL_app {n : Nat} : ∀ {l m : List D}, cbL n (l ++ m) = (cbL n l && cbL n m)
  | [], m => by simp [cbL]
  | d :: l, m => by
    show (cb n d && cbL n (l ++ m)) = ((cb n d && cbL n l) && cbL n m)
    rw [cbL_app, Bool.and_assoc]
def rowD (N : Nat) (f : Int × Int → Int) (u : Nat) : D := .lst (((List.range N).map fun v : Nat => f (min (u : Int) (v : Int), max (u : Int) (v : Int))).map .int)
theorem gix {N : Nat} {f : Int × Int → Int} {u : Nat} (hu : u < N) (C : Store) : oIx (gridD (rowsOf N f)) (.int u) C = some (rowD N f u, C) := grid_ix hu C
theorem rix {N : Nat} {f : Int × Int → Int} {u v : Nat} (hv : v < N) (C : Store) : oIx (rowD N f u) (.int v) C = some (.int (f (min (u : Int) (v : Int), max (u : Int) (v : Int))), C) := row_ix (g := fun v : Nat => f (min (u : Int) (v : Int), max (u : Int) (v : Int))) hv C
def posB (f : Int × Int → Int) : D → Bool
  | .tup [.int a, .int b] => decide (0 < f (a, b))
  | _ => false
def triB (f : Int × Int → Int) : D → D
  | .tup [.int a, .int b] => triD (a, b, f (a, b))
  | _ => .non
theorem cb_grid (n : Nat) (G : List (List Int)) : cb n (gridD G) = true := by
  show cbL n _ = true
  refine cbL_all fun d hd => ?_
  obtain ⟨r, hr, rfl⟩ := List.mem_map.mp hd
  exact cbL_ints _ _
theorem cb_ties (n : Nat) (l : List T3) : cbL n (l.map triD) = true := cbL_all fun d hd => by
  obtain ⟨t, _, rfl⟩ := List.mem_map.mp hd
  rfl
section
variable {N : Nat} {L : List T3} {C : Store} {d : D}
theorem ties_lc {fl i : Nat} {s3 s4 : Option D} {f : Int × Int → Int} : mLc false (mSeq (mVar 6)) (Tgt.tp [9, 10]).M (mTst (mOp oGt (mOp oIx (mOp oIx (mVar 5) (mVar 9)) (mVar 10)) (mC (.int 0)))) (mAp oTup (mCons (mVar 9) (mCons (mVar 10) (mCons (mOp oIx (mOp oIx (mVar 5) (mVar 9)) (mVar 10)) mNil)))) [9, 10]
    ⟨fl, [some (.cell i), some (.int N), some d, s3, s4, some (gridD (rowsOf N f)), some (.lst ((pairsL N).map pD)), none, none, none, none]⟩ C = .ok (.lst ((tiesL N f).map triD)) C ∨ 3600 < (pairsL N).length := by
  by_cases hz : 3600 < (pairsL N).length
  · exact .inr hz
  refine .inl ?_
  have e := ev_lc (pure_C ((pairsL N).map pD)) (mi := mSeq (mVar 6)) (g := (Tgt.tp [9, 10]).M) (tt := mTst (mOp oGt (mOp oIx (mOp oIx (mVar 5) (mVar 9)) (mVar 10)) (mC (.int 0)))) (te := mAp oTup (mCons (mVar 9) (mCons (mVar 10) (mCons (mOp oIx (mOp oIx (mVar 5) (mVar 9)) (mVar 10)) mNil)))) (vs := [9, 10])
    (F := ⟨fl, [some (.cell i), some (.int N), some d, s3, s4, some (gridD (rowsOf N f)), some (.lst ((pairsL N).map pD)), none, none, none, none]⟩) (C := C) (posB f) (triB f) (ev_seqI (d := .lst ((pairsL N).map pD)) (by simp) rfl) (by rw [List.length_map]; omega)
    (fun x hx => by
      obtain ⟨p, hp, rfl⟩ := List.mem_map.mp hx
      obtain ⟨u, v, h1, h2, rfl⟩ := mem_pairs.mp hp
      have hu : u < N := by omega
      have e1 : min (u : Int) (v : Int) = u := by omega
      have e2 : max (u : Int) (v : Int) = v := by omega
      refine ⟨[some (.cell i), some (.int N), some d, s3, s4, some (gridD (rowsOf N f)), some (.lst ((pairsL N).map pD)), none, none, some (.int u), some (.int v)], by simp [pD], fun acc => ⟨?_, fun _ => ?_⟩⟩
      · simp [gix hu, rix h2, e1, e2, posB, pD]
      · simp [gix hu, rix h2, e1, e2, triB, pD, oTup, szN, triD])
    (fun x hx _ => by
      obtain ⟨p, hp, rfl⟩ := List.mem_map.mp hx
      rfl)
  rw [e]
  congr 2
  unfold tiesL
  rw [List.filter_map, List.map_map, List.map_map]
  rfl
theorem pairs_len (h : N ≤ 60) : (pairsL N).length ≤ 3600 := by
  have : ∀ l : List Nat, (l.flatMap fun u : Nat => (List.range (N - (u + 1))).map fun w : Nat => ((u : Int), ((u + 1 + w : Nat) : Int))).length ≤ l.length * 60 := by
    intro l
    induction l with
    | nil => simp
    | cons u l ih =>
      rw [List.flatMap_cons, List.length_append, List.length_cons, List.length_map, List.length_range, Nat.succ_mul]
      omega
  have h2 := this (List.range N)
  rw [List.length_range] at h2
  have h3 : N * 60 ≤ 3600 := by omega
  exact Nat.le_trans h2 h3
end
end CL
set_option maxHeartbeats 4000000
/-! M6: the instance. -/
namespace CL
open PySem L2 CT
section
variable {N : Nat} {L : List T3} {C : Store} {d : D}
/-- the ties fit into a web of N places -/
structure Fits (N : Nat) (L : List T3) : Prop where
  n : N ≤ 60
  v : ∀ t ∈ L, ValidT N t
  l : L.length ≤ 1000000
  s : ∀ u v : Nat, u < N → v < N → fL L (min (u : Int) (v : Int), max (u : Int) (v : Int)) ≤ 1000000000
theorem init_ok (h : Fits N L) (hd : SeqD d (L.map triD) C) : m_Web__init [.cell C.length, .int N, d] (C ++ [some (.ins 0 [])]) = .ok .non (C ++ [some (.ins 0 [.int N, gridD (rowsOf N (fL L)), .tup ((tiesL N (fL L)).map triD)])]) := by
  have st : ∀ x y : Option Cell, (C ++ [x]).set C.length y = C ++ [y] := fun x y => by simp
  have gt : ∀ x : Option Cell, (C ++ [x])[C.length]? = some x := fun x => by simp
  have hd1 := hd.app [some (.ins 0 [])]
  rw [e_Web__init, b_Web__init, ev_seq, init_0 h.n rfl, seqK_nx, ev_seq, init_1 rfl hd1, seqK_nx, ev_seq]
  obtain ⟨s3, s4, e2⟩ := init_2 (C := C ++ [some (.ins 0 [])]) (fl := (C ++ [some (Cell.ins 0 [])]).length) (i := C.length) hd1.seq h.v
  rw [e2, seqK_nx, ev_seq, init_3 h.n hd1.seq h.l, seqK_nx, ev_seq, init_4 h.n h.s, seqK_nx, ev_seq, init_5 h.n, seqK_nx, ev_seq]
  have e6 : ∀ fl sl, sl[0]? = some (some (D.cell C.length)) → sl[1]? = some (some (.int N)) → b_Web__init_6 ⟨fl, sl⟩ (C ++ [some (.ins 0 [])]) = .nx sl (C ++ [some (.ins 0 [.int N])]) := fun fl sl h0 h1 => by
    rw [b_Web__init_6, fld_ok (n := 0) (v := .int N) (i := C.length) (fs := []) (by simp [h1]) (by simp [h0]) (gt _) rfl rfl, st]
    rfl
  have e7 : ∀ fl sl, sl[0]? = some (some (D.cell C.length)) → sl[5]? = some (some (gridD (rowsOf N (fL L)))) → b_Web__init_7 ⟨fl, sl⟩ (C ++ [some (.ins 0 [.int N])]) = .nx sl (C ++ [some (.ins 0 [.int N, gridD (rowsOf N (fL L))])]) := fun fl sl h0 h1 => by
    rw [b_Web__init_7, fld_ok (n := 1) (v := gridD (rowsOf N (fL L))) (i := C.length) (fs := [.int N]) (by simp [h1]) (by simp [h0]) (gt _) rfl (by
      rw [cbL_app]
      show (true && (cb 0 (gridD (rowsOf N (fL L))) && true)) = true
      rw [cb_grid]
      rfl), st]
    rfl
  rw [e6 _ _ rfl rfl, seqK_nx, ev_seq, e7 _ _ rfl rfl, seqK_nx]
  have el : mLc false (mSeq (mVar 6)) (Tgt.tp [9, 10]).M (mTst (mOp oGt (mOp oIx (mOp oIx (mVar 5) (mVar 9)) (mVar 10)) (mC (.int 0)))) (mAp oTup (mCons (mVar 9) (mCons (mVar 10) (mCons (mOp oIx (mOp oIx (mVar 5) (mVar 9)) (mVar 10)) mNil)))) [9, 10]
      ⟨(C ++ [some (Cell.ins 0 [])]).length, [some (.cell C.length), some (.int N), some d, s3, s4, some (gridD (rowsOf N (fL L))), some (.lst ((pairsL N).map pD)), none, none, none, none]⟩ (C ++ [some (.ins 0 [.int N, gridD (rowsOf N (fL L))])]) = .ok (.lst ((tiesL N (fL L)).map triD)) (C ++ [some (.ins 0 [.int N, gridD (rowsOf N (fL L))])]) := by
    rcases ties_lc (N := N) (d := d) (C := C ++ [some (.ins 0 [.int N, gridD (rowsOf N (fL L))])]) (fl := (C ++ [some (Cell.ins 0 [])]).length) (i := C.length) (s3 := s3) (s4 := s4) (f := fL L) with e | e
    · exact e
    · have := pairs_len h.n
      omega
  rw [b_Web__init_8, fld_ok (n := 2) (v := .tup ((tiesL N (fL L)).map triD)) (i := C.length) (fs := [.int N, gridD (rowsOf N (fL L))]) (by
    rw [ev_ap, ev_cons]
    simp only [List.cons_append, List.nil_append]
    rw [el]
    simp [oTupOf, vL]) (by simp) (gt _) rfl (by
    show (true && (cb 0 (gridD (rowsOf N (fL L))) && (cbL 0 ((tiesL N (fL L)).map triD) && true))) = true
    rw [cb_grid, cb_ties]
    rfl), st, finS_nx, fin_non]
  congr 1
  exact List.take_of_length_le (by simp)
theorem make_ok {F : Fr} {a : MA} {dds ds : List D} (h : Fits N L) (hd : SeqD d (L.map triD) C) (ha : a F C = .ok ds C) (e : ds ++ dds = [.int N, d]) : mMake false 0 3 m_Web__init dds a F C = .ok (webD N (fL L)) C := by
  unfold mMake
  rw [ha]
  simp only [bnd_ok]
  rw [e, init_ok h hd]
  have gt : ∀ x : Option Cell, (C ++ [x])[C.length]? = some x := fun x => by simp
  simp only [gt]
  have c : cbL C.length [.int N, gridD (rowsOf N (fL L)), .tup ((tiesL N (fL L)).map triD)] = true := by
    show (true && (cb C.length (gridD (rowsOf N (fL L))) && (cbL C.length ((tiesL N (fL L)).map triD) && true))) = true
    rw [cb_grid, cb_ties]
    rfl
  simp [c, webD]
end
local macro_rules | `(tactic| walk_at "w") => `(tactic| first | ((with_reducible apply gR); first | with_reducible refine w_var rfl ?_ | with_reducible apply w_cons | with_reducible apply w_c | with_reducible apply w_nil | with_reducible apply w_op | with_reducible apply w_ap | with_reducible apply w_call | with_reducible apply w_tst | with_reducible apply w_un | with_reducible apply w_tand | with_reducible apply w_tor | with_reducible apply w_tnot | with_reducible apply w_yes | with_reducible apply w_and | with_reducible apply w_or | with_reducible apply w_not | with_reducible apply w_if | with_reducible apply w_chain | with_reducible apply w_isi | with_reducible apply w_isi2 | with_reducible apply w_prop | with_reducible apply w_meth | with_reducible apply w_dget | with_reducible apply w_dnewF | with_reducible apply w_dnewT | with_reducible apply w_part | with_reducible apply w_noPart | with_reducible apply w_slLF | with_reducible apply w_slA | with_reducible apply w_ok | with_reducible apply w_ofO | with_reducible apply w_lcI | with_reducible apply w_seqI | with_reducible apply w_rng1 | with_reducible apply w_rng2 | with_reducible apply w_enum) | ((with_reducible apply gO); first | with_reducible apply wo_add | with_reducible apply wo_sub | with_reducible apply wo_lt | with_reducible apply wo_gt | with_reducible apply wo_eq | with_reducible apply wo_ne | with_reducible apply wo_le | with_reducible apply wo_ge | with_reducible apply wo_neg | with_reducible apply wo_eqS | with_reducible apply wo_neS | with_reducible apply wo_min | with_reducible apply wo_max | with_reducible apply wo_int | with_reducible apply wo_abs | with_reducible apply wo_tupL | with_reducible apply wo_tupT | with_reducible refine wo_tup (by with_unfolding_all rfl) ?_ | with_reducible refine wo_lstF (by with_unfolding_all rfl) ?_ | with_reducible refine wo_lstT (by with_unfolding_all rfl) ?_ | with_reducible apply wo_fld0 | with_reducible apply wo_fldH0 | with_reducible apply wo_fld1 | with_reducible apply wo_fld2 | with_reducible apply wo_fldW0 | with_reducible apply wo_fldW1 | with_reducible apply wo_fldW2) | ((with_reducible apply gS); first | with_reducible apply w_seq | with_reducible apply w_asg | with_reducible apply w_sif | with_reducible apply w_next | with_reducible apply w_ret | with_reducible apply w_par | with_reducible apply w_drop | with_reducible apply w_asgT | with_reducible apply w_retN | with_reducible apply w_brk | with_reducible apply w_cnt | with_reducible apply w_raise | with_reducible apply w_forI) | ((with_reducible apply gI); first | with_reducible apply wI_t | with_reducible apply wI_f | with_reducible apply wI_not) | with_reducible apply w_bl | with_reducible apply thn_nx | with_reducible apply w_int | with_reducible apply w_obj | with_reducible apply thn_rt | with_reducible apply lp_nx | with_reducible apply fnl_int | with_reducible apply fnl_bl | with_reducible apply fnl_non | with_reducible apply fnl_str | with_reducible apply fnl_nx | with_reducible apply thn_bk | with_reducible apply thn_ct | with_reducible apply thn_xc | with_reducible apply lp_rt | with_reducible apply lp_bk | with_reducible apply lp_xc | with_reducible apply w_itL | with_reducible apply w_itT | with_reducible apply w_itK)
local macro_rules | `(tactic| walk_at "p") => `(tactic| repeat walk_at "w")
local macro_rules | `(tactic| walk_at "w") => `(tactic| first | ((with_reducible apply gR); first | with_reducible refine w_var rfl ?_ | with_reducible apply w_cons | with_reducible apply w_c | with_reducible apply w_nil | with_reducible apply w_op | with_reducible apply w_ap | with_reducible apply w_call | with_reducible apply w_tst | with_reducible apply w_un | with_reducible apply w_tand | with_reducible apply w_tor | with_reducible apply w_tnot | with_reducible apply w_yes | with_reducible apply w_and | with_reducible apply w_or | with_reducible apply w_not | with_reducible apply w_if | with_reducible apply w_chain | with_reducible apply w_isi | with_reducible apply w_isi2 | with_reducible apply w_prop | with_reducible apply w_meth | with_reducible apply w_dget | with_reducible apply w_dnewF | with_reducible apply w_dnewT | with_reducible apply w_part | with_reducible apply w_noPart | with_reducible apply w_slLF | with_reducible apply w_slA | with_reducible apply w_ok | with_reducible apply w_ofO | with_reducible apply w_lcI | with_reducible apply w_seqI | with_reducible apply w_rng1 | with_reducible apply w_rng2 | with_reducible apply w_enum) | ((with_reducible apply gO); first | with_reducible apply wo_add | with_reducible apply wo_sub | with_reducible apply wo_lt | with_reducible apply wo_gt | with_reducible apply wo_eq | with_reducible apply wo_ne | with_reducible apply wo_le | with_reducible apply wo_ge | with_reducible apply wo_neg | with_reducible apply wo_eqS | with_reducible apply wo_neS | with_reducible apply wo_min | with_reducible apply wo_max | with_reducible apply wo_int | with_reducible apply wo_abs | with_reducible apply wo_tupL | with_reducible apply wo_tupT | with_reducible refine wo_tup (by with_unfolding_all rfl) ?_ | with_reducible refine wo_lstF (by with_unfolding_all rfl) ?_ | with_reducible refine wo_lstT (by with_unfolding_all rfl) ?_ | with_reducible apply wo_fld0 | with_reducible apply wo_fldH0 | with_reducible apply wo_fld1 | with_reducible apply wo_fld2 | with_reducible apply wo_fldW0 | with_reducible apply wo_fldW1 | with_reducible apply wo_fldW2) | ((with_reducible apply gS); first | with_reducible apply w_seq | with_reducible apply w_asg | with_reducible apply w_sif | with_reducible apply w_next | with_reducible apply w_ret | with_reducible apply w_par | with_reducible apply w_drop | with_reducible apply w_asgT | with_reducible apply w_retN | with_reducible apply w_brk | with_reducible apply w_cnt | with_reducible apply w_raise | with_reducible apply w_forI) | ((with_reducible apply gI); first | with_reducible apply wI_t | with_reducible apply wI_f | with_reducible apply wI_not) | with_reducible apply w_bl | with_reducible apply thn_nx | with_reducible apply w_int | with_reducible apply w_obj | with_reducible apply thn_rt | with_reducible apply lp_nx | with_reducible apply fnl_int | with_reducible apply fnl_bl | with_reducible apply fnl_non | with_reducible apply fnl_str | with_reducible apply fnl_nx | with_reducible apply thn_bk | with_reducible apply thn_ct | with_reducible apply thn_xc | with_reducible apply lp_rt | with_reducible apply lp_bk | with_reducible apply lp_xc | with_reducible apply w_itL | with_reducible apply w_itT | with_reducible apply w_itK)
local macro_rules | `(tactic| walk_at "p") => `(tactic| repeat walk_at "w")
/-! WTEQ: == of wants, of tuples of wants. -/
section
variable {C : Store} {Q : D → Store → Prop} {X : Exc → Store → Prop} {E O : List Rn} {F : Fr}
theorem eq_want_w (h : Q (.bl true) C) : wR (m_Want__eq [wantD E O, wantD E O] C) Q X := by
  rw [e_Want__eq]
  apply w_fin
  unfold b_Want__eq
  walk_at "p"
  refine ⟨true, rfl, ?_⟩
  walk_at "p"
  refine wo_of (eq_hv _ _ _ _ _) ?_
  walk_at "p"
  simpa using h
theorem w_eqTs {c : Nat} {m : MF} {mo me : ME} (h : wR (mo F C) (fun x C1 => wR (me F C1) (fun y C2 => AllEqT c m x y C2 ∧ Q (.bl true) C2) X) X) : wR (mEqTs c m mo me F C) Q X := by
  unfold mEqTs
  refine w_bnd (w_mono h (fun x C1 g => w_bnd (w_mono g (fun y C2 g => ?_) fun _ _ z => z)) fun _ _ z => z)
  rw [if_pos g.1]
  exact w_ok g.2
theorem all_eq_wants (ws : List D) (hw : ∀ w ∈ ws, ∃ E O, w = wantD E O) : AllEqT 1 m_Want__eq (.tup ws) (.tup ws) C := by
  refine ⟨ws, ws, rfl, rfl, rfl, fun i a b ha hb => ?_⟩
  obtain rfl : a = b := by rw [ha] at hb; exact Option.some.inj hb
  obtain ⟨E, O, rfl⟩ := hw a (List.mem_of_getElem? ha)
  exact ⟨rfl, rfl, w_eqv (eq_want_w ⟨rfl, rfl⟩)⟩
end
/-! LZ1: is_cell_want, Cell (k62). -/
section
variable {C : Store} {Q : D → Store → Prop} {X : Exc → Store → Prop} {xs ys : List Int} {ws : List (List Int)} {n : Int}
/-- a cell's want, told as a list -/
structure Cw (xs : List Int) : Prop where
  ne : xs ≠ []
  b : ∀ x ∈ xs, 0 ≤ x ∧ x ≤ 9
  l : xs.length ≤ 40
theorem Cw.low (h : Cw xs) : ∃ a : Int, (srtI xs).head? = some a ∧ 0 ≤ a ∧ a ≤ 9 := by
  obtain ⟨x, hx⟩ := List.exists_mem_of_ne_nil _ h.ne
  have hs : x ∈ srtI xs := srtI_mem.mpr hx
  cases e : srtI xs with
  | nil => rw [e] at hs; cases hs
  | cons a l =>
    have : a ∈ xs := srtI_mem.mp (by rw [e]; exact List.mem_cons_self ..)
    exact ⟨a, rfl, h.b a this⟩
theorem Cw.high (h : Cw xs) : ∃ a : Int, (srtI xs).getLast? = some a ∧ 0 ≤ a ∧ a ≤ 9 := by
  obtain ⟨a, e, _⟩ := h.low
  have ne : srtI xs ≠ [] := fun z => by rw [z] at e; cases e
  refine ⟨(srtI xs).getLast ne, List.getLast?_eq_getLast ne, h.b _ (srtI_mem.mp (List.getLast_mem ne))⟩
theorem cell_want_w (h : Cw xs) (q : Q (.bl true) C) : wR (m_is_cell_want [wtD xs] C) Q X := by
  obtain ⟨a, ea, a0, a9⟩ := h.low
  obtain ⟨b, eb, b0, b9⟩ := h.high
  rw [e_is_cell_want]
  apply w_fin
  unfold b_is_cell_want
  walk_at "p"
  refine ⟨_, rfl, _, rfl, wI_t ?_⟩
  walk_at "p"
  refine w_bO ?_
  walk_at "p"
  refine ⟨_, rfl, ?_⟩
  refine bool_w ⟨_, rfl, ?_⟩
  rw [some_law, decide_eq_false h.ne]
  refine ⟨_, rfl, wI_t ?_⟩
  walk_at "p"
  refine ⟨_, rfl, lowA_w ?_⟩
  rw [low_srt, ea]
  rw [show oD (some a) = .int a from rfl]
  walk_at "p"
  rw [decide_eq_true a0]
  refine wI_t ?_
  walk_at "p"
  refine ⟨_, rfl, highA_w ?_⟩
  rw [high_srt, eb, show oD (some b) = .int b from rfl]
  walk_at "p"
  rw [decide_eq_true b9, List.take_length]
  exact q
/-- a Cell as data -/
def cellD (ws : List (List Int)) (n : Int) : D := .obj 3 [.tup (ws.map wtD), .int n]
/-- a Cell's parts -/
structure Ce (ws : List (List Int)) (n : Int) : Prop where
  cw : ∀ xs ∈ ws, Cw xs
  len : ws.length = 1 ∨ ws.length = 2
  inn : 0 ≤ n ∧ n ≤ 6
  one : ws.length = 1 → n = 0
/-- a list or a tuple of data -/
def Seqd (d : D) (ds : List D) : Prop := d = .lst ds ∨ d = .tup ds
theorem cb_wants (ws : List (List Int)) : cbL 0 (ws.map wtD) = true := cbL_allM fun d hd => by
  obtain ⟨x, _, rfl⟩ := List.mem_map.mp hd
  exact cb_want _ _ _
theorem isi_seq {d : D} {ds : List D} (hd : Seqd d ds) (C : Store) : ∃ b b', isi [0, 1, 3, 4] d C (.ty .list) = some b ∧ isi [0, 1, 3, 4] d C (.ty .tuple) = some b' ∧ (b || b') = true := by
  rcases hd with rfl | rfl
  · exact ⟨_, _, rfl, rfl, rfl⟩
  · exact ⟨_, _, rfl, rfl, rfl⟩
theorem len_seqd {d : D} {ds : List D} (hd : Seqd d ds) (C : Store) : oLen [d] C = some (.int ds.length, C) := by
  rcases hd with rfl | rfl <;> rfl
theorem tup_seqd {d : D} {ds : List D} (hd : Seqd d ds) (C : Store) : oTupOf [d] C = some (.tup ds, C) := by
  rcases hd with rfl | rfl <;> rfl
theorem in_12 {k : Nat} (h : k = 1 ∨ k = 2) (S : Store) : oInD true (.int (k : Int)) (.tup [.int 1, .int 2]) S = some (.bl false, S) := by
  rcases h with rfl | rfl <;> rfl
theorem it_seqd {d : D} {ds : List D} (hd : Seqd d ds) (C : Store) : itS d C = some (itC ds) := by
  rcases hd with rfl | rfl <;> rfl
theorem all_bl (l : List Bool) (C : Store) : oAll [.lst (l.map .bl)] C = some (.bl (l.all id), C) := by
  simp [oAll, vL]
theorem all_tt {α : Type} (l : List α) (C : Store) : oAll [.lst (l.map fun _ => D.bl true)] C = some (.bl true, C) := by
  have := all_bl (l.map fun _ => true) C
  rw [List.map_map] at this
  refine this.trans ?_
  rw [List.all_map]
  simp
theorem cell_init {d : D} (h : Ce ws n) (hd : Seqd d (ws.map wtD)) : wR (m_Cell__init [.cell C.length, d, .int n] (C ++ [some (.ins 3 [])])) (fun d C2 => d = .non ∧ C2 = C ++ [some (.ins 3 [.tup (ws.map wtD), .int n])]) noX := by
  rw [e_Cell__init]
  apply w_fin
  unfold b_Cell__init b_Cell__init_0
  walk_at "p"
  obtain ⟨b, b', e1, e2, e3⟩ := isi_seq hd (C ++ [some (.ins 3 [])])
  refine ⟨b, b', e1, e2, ?_⟩
  rw [e3]
  refine ⟨_, rfl, wI_f ?_⟩
  walk_at "p"
  refine wo_of (len_seqd hd _) ?_
  walk_at "p"
  rw [List.length_map]
  refine wo_of (in_12 h.len _) ?_
  refine ⟨_, rfl, wI_f ?_⟩
  walk_at "p"
  unfold b_Cell__init_1
  walk_at "p"
  refine ⟨_, it_seqd hd _, ?_⟩
  refine lcY (l := ws) (enc := wtD) (pure_C _) (fun _ => .bl true) (by have := h.len; omega) (fun xs hx => ⟨_, rfl, fun acc => ?_⟩) (fun _ _ => rfl) ?_
  · walk_at "p"
    refine cell_want_w (h.cw xs hx) ?_
    exact ⟨rfl, rfl⟩
  walk_at "p"
  refine wo_of (show oAll [.lst (ws.map fun _ => D.bl true)] _ = some (.bl true, _) from all_tt ws _) ?_
  refine ⟨_, rfl, wI_f ?_⟩
  walk_at "p"
  unfold b_Cell__init_2
  walk_at "p"
  refine w_of (is_count_int _ _ _ _) ?_
  rw [decide_eq_true h.inn.1, decide_eq_true h.inn.2]
  refine ⟨_, rfl, wI_f ?_⟩
  walk_at "p"
  refine wo_of (len_seqd hd _) ?_
  walk_at "p"
  rw [List.length_map]
  have tail : wS (b_Cell__init_3 ⟨(C ++ [some (Cell.ins 3 [])]).length, [some (.cell C.length), some d, some (.int n), none]⟩ (C ++ [some (.ins 3 [])])) (CT.thn b_Cell__init_4 (C ++ [some (Cell.ins 3 [])]).length (fnl (C ++ [some (Cell.ins 3 [])]).length (fun d C2 => d = .non ∧ C2 = C ++ [some (.ins 3 [.tup (ws.map wtD), .int n])]) noX)) := by
    unfold b_Cell__init_3
    refine w_fld7 (i := C.length) ?_
    walk_at "p"
    refine wo_of (tup_seqd hd _) ?_
    walk_at "p"
    refine ⟨[], rfl, app_at, Nat.le_refl _, by simp only [List.length_nil, Nat.lt_irrefl, if_false, List.nil_append, cbL, cb, cb_wants, Bool.and_self], ?_⟩
    rw [e1_set]
    walk_at "p"
    unfold b_Cell__init_4
    refine w_fld7 (i := C.length) ?_
    walk_at "p"
    refine ⟨[.tup (ws.map wtD)], rfl, app_at, Nat.le_refl _, by simp only [List.length_singleton, Nat.lt_irrefl, if_false, List.singleton_append, cbL, cb, cb_wants, Bool.and_self], ?_⟩
    rw [e1_set]
    walk_at "p"
    rw [List.take_of_length_le (by simp)]
    exact ⟨rfl, rfl⟩
  refine wI_d (fun z => ?_) fun _ => ?_
  · obtain rfl := h.one (by omega)
    walk_at "p"
    refine wI_dt rfl ?_
    walk_at "p"
    exact tail
  · walk_at "p"
    exact tail
theorem cb_cell (k : Nat) : cb k (cellD ws n) = true := by
  have : cbL k (ws.map wtD) = true := cbL_allM fun d hd => by
    obtain ⟨x, _, rfl⟩ := List.mem_map.mp hd
    exact cb_want _ _ _
  simp only [cellD, cb, cbL, this, Bool.and_self]
theorem mk_cell {d : D} {F : Fr} (h : Ce ws n) (hd : Seqd d (ws.map wtD)) (q : Q (cellD ws n) C) : wR (mMake false 3 2 m_Cell__init [] (fun _ _ => .ok [d, .int n] C) F C) Q X := by
  refine w_mk7 (fs := [.tup (ws.map wtD), .int n]) rfl ?_ (cell_init h hd) q
  have := cb_cell (ws := ws) (n := n) C.length
  simpa only [cellD, cb] using this
theorem cell_len_w (q : Q (.int ws.length) C) : wR (m_Cell__len [cellD ws n] C) Q X := by
  rw [e_Cell__len]
  apply w_fin
  unfold b_Cell__len
  walk_at "p"
  refine wo_fld (d := .tup (ws.map wtD)) rfl ?_
  walk_at "p"
  refine wo_of (len_seqd (ds := ws.map wtD) (.inr rfl) _) ?_
  rw [List.length_map]
  walk_at "p"
  rw [List.take_length]
  exact q
theorem len_cell (h : ws.length ≤ 2) (C : Store) : oLenO 3 m_Cell__len [cellD ws n] C = some (.int ws.length, C) := by
  obtain ⟨d, C2, e, rfl, rfl⟩ := w_out (cell_len_w (ws := ws) (n := n) (C := C) (Q := fun d C' => d = .int ws.length ∧ C' = C) (X := noX) ⟨rfl, rfl⟩)
  have v : vO (cellD ws n) C2 = some (3, [.tup (ws.map wtD), .int n]) := rfl
  have b : 0 ≤ (ws.length : Int) ∧ (ws.length : Int) < 2 ^ 62 := ⟨by omega, Int.lt_of_le_of_lt (by omega : (ws.length : Int) ≤ 2) (by decide)⟩
  simp only [oLenO, v, if_true, e]
  rw [if_pos b]
theorem cell_eq_w (q : Q (.bl true) C) : wR (m_Cell__eq [cellD ws n, cellD ws n] C) Q X := by
  rw [e_Cell__eq]
  apply w_fin
  unfold b_Cell__eq
  walk_at "p"
  refine ⟨_, rfl, _, rfl, wI_t ?_⟩
  walk_at "p"
  refine w_eqTs ?_
  walk_at "p"
  refine wo_fld (d := .tup (ws.map wtD)) rfl ?_
  walk_at "p"
  refine wo_fld (d := .tup (ws.map wtD)) rfl ?_
  refine ⟨all_eq_wants _ (fun w hw => ?_), _, rfl, wI_t ?_⟩
  · obtain ⟨x, _, rfl⟩ := List.mem_map.mp hw
    exact ⟨_, _, rfl⟩
  walk_at "p"
  refine wo_fld (d := .int n) rfl ?_
  walk_at "p"
  refine wo_fld (d := .int n) rfl ?_
  walk_at "p"
  rw [decide_eq_true rfl, List.take_length]
  exact q
/-- the ties within a cell -/
def inT (ws : List (List Int)) (n base : Int) : List T3 := if ws.length = 2 then [(base, base + 1, n)] else []
theorem inner_w (h : ws.length ≤ 2) {base : Int} (q : Q (.lst ((inT ws n base).map triD)) C) : wR (m_inner_ties [cellD ws n, .int base] C) Q X := by
  rw [e_inner_ties]
  apply w_fin
  unfold b_inner_ties
  walk_at "p"
  refine wo_of (len_cell h _) ?_
  walk_at "p"
  refine wI_d (fun z => ?_) fun z => ?_
  · have e : ws.length = 2 := by omega
    walk_at "p"
    refine wo_fld (d := .int n) rfl ?_
    walk_at "p"
    refine fnl_p rfl ?_
    rw [List.take_length]
    have : inT ws n base = [(base, base + 1, n)] := if_pos e
    rw [this] at q
    exact q
  · walk_at "p"
    refine fnl_p rfl ?_
    rw [List.take_length]
    have : inT ws n base = [] := if_neg fun e => z (by rw [e]; rfl)
    rw [this] at q
    exact q
end
/-! LZ2: is_onward, Strip (k62). -/
section
variable {C : Store} {Q : D → Store → Prop} {X : Exc → Store → Prop} {ws : List (List Int)} {n : Int} {W : Nat} {rows : List (List Int)} {b : Bool} {d : D}
/-- a row of the crossing numbers, a list or a tuple -/
def lineD (b : Bool) (r : List Int) : D := if b then .tup (r.map .int) else .lst (r.map .int)
theorem line_seq (b : Bool) (r : List Int) : Seqd (lineD b r) (r.map .int) := by cases b; exact .inl rfl; exact .inr rfl
structure Ow (W : Nat) (rows : List (List Int)) : Prop where
  len : rows.length = W
  row : ∀ r ∈ rows, r.length = W
  bd : ∀ r ∈ rows, ∀ x ∈ r, 0 ≤ x ∧ x ≤ 6
  wid : W = 1 ∨ W = 2
theorem onward_w (h : Ow W rows) (hd : Seqd d (rows.map (lineD b))) (q : Q (.bl true) C) : wR (m_is_onward [.int W, d] C) Q X := by
  have hw := h.wid
  rw [e_is_onward]
  apply w_fin
  unfold b_is_onward b_is_onward_0
  walk_at "p"
  obtain ⟨b1, b2, e1, e2, e3⟩ := isi_seq hd C
  refine ⟨b1, b2, e1, e2, ?_⟩
  rw [e3]
  refine ⟨_, rfl, wI_f ?_⟩
  walk_at "p"
  refine wo_of (len_seqd hd _) ?_
  rw [List.length_map, h.len]
  walk_at "p"
  refine wI_dt rfl ?_
  walk_at "p"
  unfold b_is_onward_1
  walk_at "p"
  refine ⟨_, it_seqd hd _, ?_⟩
  refine loopM (l := rows) (enc := lineD b) (pure_C _) (fun j sl S => S = C ∧ ∃ s2, sl = [some (.int W), some d, s2, none]) ⟨rfl, _, rfl⟩ ?_ ?_
  · rintro j r sl S hj ⟨rfl, s2, rfl⟩
    have hr := List.mem_of_getElem? hj
    refine ⟨_, rfl, ?_⟩
    unfold b_is_onward_1b_0
    walk_at "p"
    obtain ⟨b1, b2, e1, e2, e3⟩ := isi_seq (line_seq b r) S
    refine ⟨b1, b2, e1, e2, ?_⟩
    rw [e3]
    refine ⟨_, rfl, wI_f ?_⟩
    walk_at "p"
    refine wo_of (len_seqd (line_seq b r) _) ?_
    rw [List.length_map, h.row r hr]
    walk_at "p"
    refine wI_dt rfl ?_
    walk_at "p"
    unfold b_is_onward_1b_1
    walk_at "p"
    refine ⟨_, it_seqd (line_seq b r) _, ?_⟩
    refine lcY (l := r) (enc := D.int) (pure_C _) (fun _ => .bl true) (by have := h.row r hr; omega) (fun x hx => ⟨_, rfl, fun acc => ?_⟩) (fun _ _ => rfl) ?_
    · have hx6 := h.bd r hr x hx
      walk_at "p"
      refine w_of (is_count_int _ _ _ _) ?_
      rw [decide_eq_true hx6.1, decide_eq_true hx6.2]
      exact ⟨rfl, rfl⟩
    walk_at "p"
    refine wo_of (all_tt r _) ?_
    refine ⟨_, rfl, wI_f ?_⟩
    walk_at "p"
    exact ⟨rfl, _, rfl⟩
  · rintro sl S ⟨rfl, s2, rfl⟩
    walk_at "p"
    unfold b_is_onward_2
    walk_at "p"
    rw [List.take_length]
    exact q
/-- a Strip's parts: head, cell, tail, the crossing numbers -/
structure Sp4 where
  hw : List (List Int)
  hn : Int
  cw : List (List Int)
  cn : Int
  tw : List (List Int)
  tn : Int
  rows : List (List Int)
structure SOk (s : Sp4) : Prop where
  h : Ce s.hw s.hn
  c : Ce s.cw s.cn
  t : Ce s.tw s.tn
  o : Ow s.hw.length s.rows
  lc : s.cw.length = s.hw.length
  lt : s.tw.length = s.hw.length
def stripD (s : Sp4) : D := .obj 4 [cellD s.hw s.hn, cellD s.cw s.cn, cellD s.tw s.tn, .tup (s.rows.map fun r => .tup (r.map .int)), .int s.hw.length]
def stripF (s : Sp4) : List D := [cellD s.hw s.hn, cellD s.cw s.cn, cellD s.tw s.tn, .tup (s.rows.map fun r => .tup (r.map .int)), .int s.hw.length]
theorem cb_rows (rows : List (List Int)) (k : Nat) : cbL k (rows.map fun r => D.tup (r.map .int)) = true := cbL_allM fun d hd => by
  obtain ⟨r, _, rfl⟩ := List.mem_map.mp hd
  exact cb_tI _ _
theorem strip_init {s : Sp4} (h : SOk s) (hd : Seqd d (s.rows.map (lineD b))) : wR (m_Strip__init [.cell C.length, cellD s.hw s.hn, cellD s.cw s.cn, cellD s.tw s.tn, d] (C ++ [some (.ins 4 [])])) (fun d C2 => d = .non ∧ C2 = C ++ [some (.ins 4 (stripF s))]) noX := by
  have l2 : s.hw.length ≤ 2 := by have := h.h.len; omega
  rw [e_Strip__init]
  apply w_fin
  unfold b_Strip__init b_Strip__init_0
  walk_at "p"
  refine ⟨_, rfl, _, rfl, wI_f ?_⟩
  walk_at "p"
  unfold b_Strip__init_1
  walk_at "p"
  refine ⟨_, rfl, _, rfl, wI_f ?_⟩
  walk_at "p"
  refine wo_of (len_cell (by have := h.lc; omega) _) ?_
  walk_at "p"
  refine wo_of (len_cell l2 _) ?_
  rw [h.lc]
  walk_at "p"
  refine wI_dt rfl ?_
  walk_at "p"
  unfold b_Strip__init_2
  walk_at "p"
  refine ⟨_, rfl, _, rfl, wI_f ?_⟩
  walk_at "p"
  refine wo_of (len_cell (by have := h.lt; omega) _) ?_
  walk_at "p"
  refine wo_of (len_cell l2 _) ?_
  rw [h.lt]
  walk_at "p"
  refine wI_dt rfl ?_
  walk_at "p"
  unfold b_Strip__init_3
  walk_at "p"
  refine wo_of (len_cell l2 _) ?_
  walk_at "p"
  refine onward_w h.o hd ?_
  refine ⟨_, rfl, wI_f ?_⟩
  walk_at "p"
  unfold b_Strip__init_4
  refine w_fld7 (i := C.length) ?_
  walk_at "p"
  refine ⟨[], rfl, app_at, Nat.le_refl _, by simp only [List.length_nil, List.length_cons, Nat.lt_irrefl, if_false, List.nil_append, List.cons_append, cbL, cb, cb_cell, cb_rows, Bool.and_self], ?_⟩
  rw [e1_set]
  walk_at "p"
  unfold b_Strip__init_5
  refine w_fld7 (i := C.length) ?_
  walk_at "p"
  refine ⟨[cellD s.hw s.hn], rfl, app_at, Nat.le_refl _, by simp only [List.length_nil, List.length_cons, Nat.lt_irrefl, if_false, List.nil_append, List.cons_append, cbL, cb, cb_cell, cb_rows, Bool.and_self], ?_⟩
  rw [e1_set]
  walk_at "p"
  unfold b_Strip__init_6
  refine w_fld7 (i := C.length) ?_
  walk_at "p"
  refine ⟨[cellD s.hw s.hn, cellD s.cw s.cn], rfl, app_at, Nat.le_refl _, by simp only [List.length_nil, List.length_cons, Nat.lt_irrefl, if_false, List.nil_append, List.cons_append, cbL, cb, cb_cell, cb_rows, Bool.and_self], ?_⟩
  rw [e1_set]
  walk_at "p"
  unfold b_Strip__init_7
  refine w_fld7 (i := C.length) ?_
  walk_at "p"
  have ow := h.o.wid
  refine ⟨_, it_seqd hd _, ?_⟩
  refine lcY (l := s.rows) (enc := lineD b) (pure_C _) (fun r => .tup (r.map .int)) (by have := h.o.len; omega) (fun r hr => ⟨_, rfl, fun acc => ?_⟩) (fun r _ => cb_tI _ _) ?_
  · walk_at "p"
    refine wo_of (tup_seqd (line_seq b r) _) ?_
    exact ⟨rfl, rfl⟩
  walk_at "p"
  refine ⟨[cellD s.hw s.hn, cellD s.cw s.cn, cellD s.tw s.tn], rfl, app_at, Nat.le_refl _, by simp only [List.length_nil, List.length_cons, Nat.lt_irrefl, if_false, List.nil_append, List.cons_append, cbL, cb, cb_cell, cb_rows, Bool.and_self], ?_⟩
  rw [e1_set]
  walk_at "p"
  unfold b_Strip__init_8
  refine w_fld7 (i := C.length) ?_
  walk_at "p"
  refine wo_of (len_cell l2 _) ?_
  walk_at "p"
  refine ⟨[cellD s.hw s.hn, cellD s.cw s.cn, cellD s.tw s.tn, .tup (s.rows.map fun r => .tup (r.map .int))], rfl, app_at, Nat.le_refl _, by simp only [List.length_nil, List.length_cons, Nat.lt_irrefl, if_false, List.nil_append, List.cons_append, cbL, cb, cb_cell, cb_rows, Bool.and_self], ?_⟩
  rw [e1_set]
  walk_at "p"
  rw [List.take_of_length_le (by simp)]
  exact ⟨rfl, rfl⟩
end
/-! EQV: data that are equal to themselves. -/
mutual
theorem eqv_refl : ∀ p : PyData, p.canLay0 = true → p.eqv p = true
  | .none, _ => by simp [PyData.eqv]
  | .bool _, _ => by simp [PyData.eqv]
  | .int _, _ => by simp [PyData.eqv]
  | .str _, _ => by simp [PyData.eqv]
  | .list xs, h => by
    simp only [PyData.eqv]
    exact eqvAll_refl xs (by simpa only [PyData.canLay0] using h)
  | .tuple xs, h => by
    simp only [PyData.eqv]
    exact eqvAll_refl xs (by simpa only [PyData.canLay0] using h)
  | .dict _, h => by simp [PyData.canLay0] at h
theorem eqvAll_refl : ∀ xs : List PyData, PyData.canLayAll0 xs = true → PyData.eqvAll xs xs = true
  | [], _ => by simp [PyData.eqvAll]
  | x :: xs, h => by
    simp only [PyData.canLayAll0, Bool.and_eq_true] at h
    simp only [PyData.eqvAll, eqv_refl x h.1, eqvAll_refl xs h.2, Bool.and_self]
end
/-! ALKp: own lists beside lists of plain data: alike. -/
section
variable {C : Store} {Q : D → Store → Prop} {X : Exc → Store → Prop} {k w dp n : Nat} {xs : List D} {ps : List PyData}
theorem eqD_same {x y : D} {p : PyData} (hx : toP C x = some p) (hy : toP C y = some p) (hc : p.canLay0 = true) (hs : SeqAt.shaped p = true) (neg : Bool) : oEqD neg x y C = some (.bl (!neg), C) := by
  simp only [oEqD, hx, hy, hs, Bool.and_self, if_true, eqv_refl _ hc]
  cases neg <;> rfl
end
/-! LZ3: Strip, its == (k62). -/
section
variable {C : Store} {Q : D → Store → Prop} {X : Exc → Store → Prop} {P : RS → Prop} {s : Sp4} {b : Bool} {d : D} {i j : Nat} {fl : Nat} {sl : List (Option D)} {me : ME}
theorem cb_strip (k : Nat) : cbL k (stripF s) = true := by
  simp only [stripF, cbL, cb, cb_cell, cb_rows, Bool.and_self]
theorem mk_strip {F : Fr} (h : SOk s) (hd : Seqd d (s.rows.map (lineD b))) (q : Q (stripD s) C) : wR (mMake false 4 5 m_Strip__init [] (fun _ _ => .ok [cellD s.hw s.hn, cellD s.cw s.cn, cellD s.tw s.tn, d] C) F C) Q X :=
  w_mk7 (fs := stripF s) rfl (cb_strip _) (strip_init h hd) q
/-- x += y of an own list -/
theorem w_augLs (hi : sl[i]? = some (some (.cell j))) (h : wR (me ⟨fl, sl⟩ C) (fun v C2 => ∃ ds es, C2[j]? = some (some (.lst ds)) ∧ vL v C2 = some es ∧ szN (ds.length + es.length) = true ∧ ∃ C3, wr fl j (.lst (ds ++ es)) C2 = some C3 ∧ P (.nx sl C3)) (fun e C' => P (.xc e sl C'))) : wS (sAugLs i me ⟨fl, sl⟩ C) P := by
  unfold sAugLs
  simp only [hi]
  refine w_bndS (w_mono h (fun v C2 g => ?_) fun _ _ z => z)
  obtain ⟨ds, es, h1, h2, h3, C3, h4, q⟩ := g
  have c : cL (.cell j) C2 = some (j, ds) := by simp [cL, h1]
  simp only [c, h2, h3, if_true, h4]
  exact w_sof q
theorem rows_gd {W : Nat} {rows : List (List Int)} (h : Ow W rows) : ∃ p, Gd (2 * (2 * 41 + 1)) 2 (.tup (rows.map fun r => .tup (r.map .int))) p := by
  have hw := h.wid
  obtain ⟨ps, g⟩ := gdl_all (w := 2 * 41) (dp := 1) (xs := rows.map fun r => D.tup (r.map .int)) fun x hx => by
    obtain ⟨r, hr, rfl⟩ := List.mem_map.mp hx
    obtain ⟨qs, g⟩ := gdl_all (w := 40) (dp := 0) (xs := r.map D.int) fun y hy => by
      obtain ⟨z, hz, rfl⟩ := List.mem_map.mp hy
      have := h.bd r hr z hz
      exact ⟨_, gd_int (by omega)⟩
    exact ⟨_, gd_tup (n := 2) g (by rw [List.length_map, h.row r hr]; omega)⟩
  exact ⟨_, gd_tup (n := 2) g (by rw [List.length_map, h.len]; omega)⟩
theorem strip_eq_w (ho : Ow s.hw.length s.rows) (q : Q (.bl true) C) : wR (m_Strip__eq [stripD s, stripD s] C) Q X := by
  rw [e_Strip__eq]
  apply w_fin
  unfold b_Strip__eq b_Strip__eq_0
  walk_at "p"
  refine ⟨_, rfl, _, rfl, wI_f ?_⟩
  walk_at "p"
  unfold b_Strip__eq_1
  walk_at "p"
  refine w_eqO ?_
  walk_at "p"
  refine wo_fld (d := cellD s.hw s.hn) rfl ?_
  walk_at "p"
  refine wo_fld (d := cellD s.hw s.hn) rfl ?_
  refine ⟨rfl, cell_eq_w ⟨true, rfl, _, rfl, wI_f ?_⟩⟩
  walk_at "p"
  refine w_eqO ?_
  walk_at "p"
  refine wo_fld (d := cellD s.cw s.cn) rfl ?_
  walk_at "p"
  refine wo_fld (d := cellD s.cw s.cn) rfl ?_
  refine ⟨rfl, cell_eq_w ⟨true, rfl, _, rfl, wI_f ?_⟩⟩
  walk_at "p"
  refine w_eqO ?_
  walk_at "p"
  refine wo_fld (d := cellD s.tw s.tn) rfl ?_
  walk_at "p"
  refine wo_fld (d := cellD s.tw s.tn) rfl ?_
  refine ⟨rfl, cell_eq_w ⟨true, rfl, _, rfl, wI_f ?_⟩⟩
  walk_at "p"
  unfold b_Strip__eq_2
  walk_at "p"
  refine wo_fld (d := .tup (s.rows.map fun r => .tup (r.map .int))) rfl ?_
  walk_at "p"
  refine wo_fld (d := .tup (s.rows.map fun r => .tup (r.map .int))) rfl ?_
  obtain ⟨p, g⟩ := rows_gd ho
  refine wo_of (show oEqA false (.tup (s.rows.map fun r => .tup (r.map .int))) (.tup (s.rows.map fun r => .tup (r.map .int))) C = some (.bl true, C) from eqD_same (g.tp C) (g.tp C) g.cl (g.shp (by decide)) false) ?_
  refine fnl_bl ?_
  rw [List.take_length]
  exact q
end
end CL
set_option maxHeartbeats 4000000
/-! M7: total, degrees, within, changed, crossing. -/
set_option maxHeartbeats 4000000
/-! M9: plain facts on sums. -/
namespace CL
open PySem L2 CT
/-- what the items give a pair together -/
def tot (L : List T3) (k : Int × Int) : Int := (L.map fun t => if pr t = k then t.2.2 else 0).sum
theorem dg0_fold (k : Int × Int) : ∀ (L : List T3) (d : Dc), dg0 (L.foldl addT d) k = dg0 d k + tot L k
  | [], d => by simp [tot]
  | t :: L, d => by
    rw [List.foldl_cons, dg0_fold k L]
    unfold addT
    rw [dg0_dp]
    by_cases h : k = pr t
    · subst h
      simp [tot]
      omega
    · have h' : ¬ pr t = k := fun e => h e.symm
      simp [tot, h, h']
theorem dg0_sums (L : List T3) (k : Int × Int) : dg0 (sums L) k = tot L k := by
  have := dg0_fold k L []
  rw [show dg0 ([] : Dc) k = 0 from rfl, Int.zero_add] at this
  exact this
theorem tot_app (L M : List T3) (k : Int × Int) : tot (L ++ M) k = tot L k + tot M k := by
  simp [tot]
theorem tot_cons (t : T3) (L : List T3) (k : Int × Int) : tot (t :: L) k = (if pr t = k then t.2.2 else 0) + tot L k := by
  simp [tot]
theorem fold_keys : ∀ (L : List T3) (d : Dc), (d.map (·.1)).Nodup → ((L.foldl addT d).map (·.1)).Nodup
  | [], d, h => h
  | t :: L, d, h => by
    rw [List.foldl_cons]
    exact fold_keys L _ (dp_keys _ _ _ h)
theorem sums_keys (L : List T3) : ((sums L).map (·.1)).Nodup := fold_keys L [] (by simp)
theorem fold_mem {P : (Int × Int) × Int → Prop} : ∀ (L : List T3) (d : Dc), (∀ p ∈ d, P p) → (∀ t ∈ L, ∀ n, P (pr t, n)) → ∀ p ∈ L.foldl addT d, P p
  | [], d, h, _, p, hp => h p hp
  | t :: L, d, h, g, p, hp => by
    rw [List.foldl_cons] at hp
    refine fold_mem L _ (fun q hq => ?_) (fun s hs => g s (List.mem_cons_of_mem _ hs)) p hp
    rcases mem_dp hq with rfl | hq
    · exact g t (List.mem_cons_self ..) _
    · exact h q hq
theorem pairs_nodup (N : Nat) : (pairsL N).Nodup := by
  unfold pairsL
  have key : ∀ l : List Nat, l.Nodup → (l.flatMap fun u : Nat => (List.range (N - (u + 1))).map fun w : Nat => ((u : Int), ((u + 1 + w : Nat) : Int))).Nodup := by
    intro l
    induction l with
    | nil => intro _; simp
    | cons u l ih =>
      intro hl
      rw [List.nodup_cons] at hl
      rw [List.flatMap_cons, List.nodup_append]
      refine ⟨?_, ih hl.2, ?_⟩
      · apply nodup_map_on List.nodup_range
        intro x _ y _ e
        have := congrArg Prod.snd e
        simp only at this
        omega
      · intro a ha b hb e
        subst e
        obtain ⟨w, _, rfl⟩ := List.mem_map.mp ha
        obtain ⟨u', hu', hb'⟩ := List.mem_flatMap.mp hb
        obtain ⟨w', _, e⟩ := List.mem_map.mp hb'
        have := congrArg Prod.fst e
        simp only at this
        have eu : u' = u := by omega
        subst eu
        exact hl.1 hu'
  exact key _ List.nodup_range
local macro_rules | `(tactic| walk_at "w") => `(tactic| first | ((with_reducible apply gR); first | with_reducible refine w_var rfl ?_ | with_reducible apply w_cons | with_reducible apply w_c | with_reducible apply w_nil | with_reducible apply w_op | with_reducible apply w_ap | with_reducible apply w_call | with_reducible apply w_tst | with_reducible apply w_un | with_reducible apply w_tand | with_reducible apply w_tor | with_reducible apply w_tnot | with_reducible apply w_yes | with_reducible apply w_and | with_reducible apply w_or | with_reducible apply w_not | with_reducible apply w_if | with_reducible apply w_chain | with_reducible apply w_isi | with_reducible apply w_isi2 | with_reducible apply w_prop | with_reducible apply w_meth | with_reducible apply w_dget | with_reducible apply w_dnewF | with_reducible apply w_dnewT | with_reducible apply w_part | with_reducible apply w_noPart | with_reducible apply w_slLF | with_reducible apply w_slA | with_reducible apply w_ok | with_reducible apply w_ofO | with_reducible apply w_lcI | with_reducible apply w_seqI | with_reducible apply w_rng1 | with_reducible apply w_rng2 | with_reducible apply w_enum) | ((with_reducible apply gO); first | with_reducible apply wo_add | with_reducible apply wo_sub | with_reducible apply wo_lt | with_reducible apply wo_gt | with_reducible apply wo_eq | with_reducible apply wo_ne | with_reducible apply wo_le | with_reducible apply wo_ge | with_reducible apply wo_neg | with_reducible apply wo_eqS | with_reducible apply wo_neS | with_reducible apply wo_min | with_reducible apply wo_max | with_reducible apply wo_int | with_reducible apply wo_abs | with_reducible apply wo_tupL | with_reducible apply wo_tupT | with_reducible refine wo_tup (by with_unfolding_all rfl) ?_ | with_reducible refine wo_lstF (by with_unfolding_all rfl) ?_ | with_reducible refine wo_lstT (by with_unfolding_all rfl) ?_ | with_reducible apply wo_fld0 | with_reducible apply wo_fldH0 | with_reducible apply wo_fld1 | with_reducible apply wo_fld2 | with_reducible apply wo_fldW0 | with_reducible apply wo_fldW1 | with_reducible apply wo_fldW2) | ((with_reducible apply gS); first | with_reducible apply w_seq | with_reducible apply w_asg | with_reducible apply w_sif | with_reducible apply w_next | with_reducible apply w_ret | with_reducible apply w_par | with_reducible apply w_drop | with_reducible apply w_asgT | with_reducible apply w_retN | with_reducible apply w_brk | with_reducible apply w_cnt | with_reducible apply w_raise | with_reducible apply w_forI) | ((with_reducible apply gI); first | with_reducible apply wI_t | with_reducible apply wI_f | with_reducible apply wI_not) | with_reducible apply w_bl | with_reducible apply thn_nx | with_reducible apply w_int | with_reducible apply w_obj | with_reducible apply thn_rt | with_reducible apply lp_nx | with_reducible apply fnl_int | with_reducible apply fnl_bl | with_reducible apply fnl_non | with_reducible apply fnl_str | with_reducible apply fnl_nx | with_reducible apply thn_bk | with_reducible apply thn_ct | with_reducible apply thn_xc | with_reducible apply lp_rt | with_reducible apply lp_bk | with_reducible apply lp_xc | with_reducible apply w_itL | with_reducible apply w_itT | with_reducible apply w_itK)
local macro_rules | `(tactic| walk_at "p") => `(tactic| repeat walk_at "w")
/-! LZp: a strip's ties, as the program lists them and as the law does (k62). -/
section
variable {s : Sp4} {c W : Nat} {rows : List (List Int)} {ws : List (List Int)} {n : Int} {k : Int × Int}
def gij (rows : List (List Int)) (i j : Nat) : Int := (rows.getD i []).getD j 0
/-- the ties from one cell to the next one -/
def onT (rows : List (List Int)) (W : Nat) (base : Int) : List T3 := (List.range W).flatMap fun i : Nat => (List.range W).map fun j : Nat => (base + (i : Int), base + (W : Int) + (j : Int), gij rows i j)
def midT (ws : List (List Int)) (n : Int) (W c : Nat) : List T3 := (List.range c).flatMap fun k : Nat => inT ws n ((1 + (k : Int)) * (W : Int))
def onsT (rows : List (List Int)) (W c : Nat) : List T3 := (List.range c).flatMap fun k : Nat => onT rows W ((k : Int) * (W : Int))
/-- the program's list -/
def prT (s : Sp4) (c : Nat) : List T3 := (inT s.hw s.hn 0 ++ inT s.tw s.tn (((c : Int) + 2) * (s.hw.length : Int) - (s.hw.length : Int))) ++ midT s.cw s.cn s.hw.length c ++ onsT s.rows s.hw.length (c + 1)
/-- the cells of the strip of c cells -/
def cellsL (s : Sp4) (c : Nat) : List (List (List Int) × Int) := (s.hw, s.hn) :: (List.replicate c (s.cw, s.cn) ++ [(s.tw, s.tn)])
/-- the law's list, from the cell k on -/
def lawT (rows : List (List Int)) (W : Nat) : Nat → List (List (List Int) × Int) → List T3
  | _, [] => []
  | k, [a] => inT a.1 a.2 ((k : Int) * (W : Int))
  | k, a :: b :: r => inT a.1 a.2 ((k : Int) * (W : Int)) ++ onT rows W ((k : Int) * (W : Int)) ++ lawT rows W (k + 1) (b :: r)
/-- the middle and the end, from the cell m on -/
theorem lawT_rep (s : Sp4) (rows : List (List Int)) (W : Nat) : ∀ (c m : Nat), tot (lawT rows W m (List.replicate c (s.cw, s.cn) ++ [(s.tw, s.tn)])) k
    = tot ((List.range c).flatMap fun j : Nat => inT s.cw s.cn (((m : Int) + (j : Int)) * (W : Int))) k + tot ((List.range c).flatMap fun j : Nat => onT rows W (((m : Int) + (j : Int)) * (W : Int))) k + tot (inT s.tw s.tn (((m : Int) + (c : Int)) * (W : Int))) k
  | 0, m => by simp [lawT, tot]
  | c + 1, m => by
    have ih := lawT_rep s rows W c (m + 1)
    have e : lawT rows W m (List.replicate (c + 1) (s.cw, s.cn) ++ [(s.tw, s.tn)]) = inT s.cw s.cn ((m : Int) * (W : Int)) ++ onT rows W ((m : Int) * (W : Int)) ++ lawT rows W (m + 1) (List.replicate c (s.cw, s.cn) ++ [(s.tw, s.tn)]) := by
      rw [List.replicate_succ, List.cons_append]
      cases c with
      | zero => rfl
      | succ c => rfl
    have sh : ∀ j : Nat, ((m : Int) + ((j + 1 : Nat) : Int)) = (((m + 1 : Nat) : Int) + (j : Int)) := fun j => by omega
    rw [e, tot_app, tot_app, ih, List.range_succ_eq_map, List.flatMap_cons, List.flatMap_cons, tot_app, tot_app, List.flatMap_map, List.flatMap_map]
    simp only [sh]
    rw [show (m : Int) + ((0 : Nat) : Int) = (m : Int) from by omega, show ((m + 1 : Nat) : Int) + (c : Int) = (m : Int) + ((c + 1 : Nat) : Int) from by omega]
    omega
theorem lawT_tot (s : Sp4) (c : Nat) : tot (lawT s.rows s.hw.length 0 (cellsL s c)) k = tot (prT s c) k := by
  have e : lawT s.rows s.hw.length 0 (cellsL s c) = inT s.hw s.hn 0 ++ onT s.rows s.hw.length 0 ++ lawT s.rows s.hw.length 1 (List.replicate c (s.cw, s.cn) ++ [(s.tw, s.tn)]) := by
    unfold cellsL
    cases c with
    | zero => simp [lawT]
    | succ c => simp [lawT, List.replicate_succ]
  have e2 : onsT s.rows s.hw.length (c + 1) = onT s.rows s.hw.length 0 ++ (List.range c).flatMap fun j : Nat => onT s.rows s.hw.length ((((1 : Nat) : Int) + (j : Int)) * (s.hw.length : Int)) := by
    unfold onsT
    rw [List.range_succ_eq_map, List.flatMap_cons, List.flatMap_map]
    rw [show (((0 : Nat) : Int) * (s.hw.length : Int)) = 0 from by simp]
    congr 1
    congr 1
    funext j
    rw [show ((j + 1 : Nat) : Int) = ((1 : Nat) : Int) + (j : Int) from by omega]
  have e3 : ((c : Int) + 2) * (s.hw.length : Int) - (s.hw.length : Int) = (((1 : Nat) : Int) + (c : Int)) * (s.hw.length : Int) := by
    rw [show (c : Int) + 2 = (((1 : Nat) : Int) + (c : Int)) + 1 from by omega, Int.add_mul, Int.one_mul]
    omega
  rw [e, tot_app, tot_app, lawT_rep]
  unfold prT midT
  rw [e2, e3, tot_app, tot_app, tot_app, tot_app]
  simp only [show ((1 : Nat) : Int) = 1 from rfl]
  omega
theorem fL_t {L : List T3} : fL L = tot L := funext fun k => dg0_sums L k
theorem fL_law (s : Sp4) (c : Nat) : fL (lawT s.rows s.hw.length 0 (cellsL s c)) = fL (prT s c) := by
  rw [fL_t, fL_t]
  exact funext fun k => lawT_tot s c
/-! ### the ties are well made -/
structure Tz (N : Nat) (t : T3) : Prop where
  u : 0 ≤ t.1
  lt : t.1 < t.2.1
  v : t.2.1 < N
  n : 0 ≤ t.2.2 ∧ t.2.2 ≤ 6
theorem Tz.valid {N : Nat} {t : T3} (h : Tz N t) : ValidT N t := ⟨h.u, by have := h.lt; have := h.v; omega, by have := h.lt; have := h.u; omega, h.v, by have := h.lt; omega, h.n.1, by have := h.n; omega⟩
theorem inT_z {N : Nat} {base : Int} (h : Ce ws n) (hb : 0 ≤ base) (hN : base + ws.length ≤ N) : ∀ t ∈ inT ws n base, Tz N t := fun t ht => by
  unfold inT at ht
  split at ht
  · rename_i e
    obtain rfl := List.mem_singleton.mp ht
    exact ⟨hb, by show base < base + 1; omega, by show base + 1 < (N : Int); omega, h.inn⟩
  · cases ht
theorem gij_b (h : Ow W rows) {i j : Nat} (hi : i < W) (hj : j < W) : 0 ≤ gij rows i j ∧ gij rows i j ≤ 6 := by
  unfold gij
  have hl := h.len
  rw [List.getD_eq_getElem?_getD (l := rows), List.getElem?_eq_getElem (by omega), Option.getD_some]
  have hm : rows[i]'(by omega) ∈ rows := List.getElem_mem _
  have hr := h.row _ hm
  rw [List.getD_eq_getElem?_getD, List.getElem?_eq_getElem (by omega), Option.getD_some]
  exact h.bd _ hm _ (List.getElem_mem _)
theorem onT_z {N : Nat} {base : Int} (h : Ow W rows) (hb : 0 ≤ base) (hN : base + W + W ≤ N) : ∀ t ∈ onT rows W base, Tz N t := fun t ht => by
  obtain ⟨i, hi, ht⟩ := List.mem_flatMap.mp ht
  obtain ⟨j, hj, rfl⟩ := List.mem_map.mp ht
  have hi := List.mem_range.mp hi
  have hj := List.mem_range.mp hj
  exact ⟨by show 0 ≤ base + (i : Int); omega, by show base + (i : Int) < base + (W : Int) + (j : Int); omega, by show base + (W : Int) + (j : Int) < (N : Int); omega, gij_b h hi hj⟩
theorem inT_len (ws : List (List Int)) (n b : Int) : (inT ws n b).length ≤ 1 := by
  unfold inT
  split <;> simp
theorem flat_len {α : Type} {m : Nat} {f : α → List T3} : ∀ {l : List α}, (∀ a ∈ l, (f a).length ≤ m) → (l.flatMap f).length ≤ l.length * m := fun h => fm_len h
theorem onT_len (h : W ≤ 2) (b : Int) : (onT rows W b).length ≤ 4 := by
  have := fm_len (l := List.range W) (ys := fun i : Nat => (List.range W).map fun j : Nat => ((b + (i : Int), b + (W : Int) + (j : Int), gij rows i j) : T3)) (m := 2) fun i _ => by simp; omega
  unfold onT
  rw [List.length_range] at this
  omega
theorem prT_z (h : SOk s) : ∀ t ∈ prT s c, Tz ((c + 2) * s.hw.length) t := fun t ht => by
  have hw := h.h.len
  have lc := h.lc
  have lt := h.lt
  have eN : (((c + 2) * s.hw.length : Nat) : Int) = ((c : Int) + 2) * (s.hw.length : Int) := by rw [Int.natCast_mul]; rfl
  have le : ∀ m : Nat, m ≤ c + 1 → 0 ≤ (m : Int) * (s.hw.length : Int) ∧ (m : Int) * (s.hw.length : Int) + (s.hw.length : Int) ≤ ((c : Int) + 2) * (s.hw.length : Int) := fun m hm => by
    rcases hw with e | e <;> rw [e] <;> omega
  unfold prT at ht
  rcases List.mem_append.mp ht with ht | ht
  · rcases List.mem_append.mp ht with ht | ht
    · rcases List.mem_append.mp ht with ht | ht
      · exact inT_z h.h (by omega) (by have := le 0 (by omega); omega) t ht
      · exact inT_z h.t (by have := le (c + 1) (by omega); rcases hw with e | e <;> rw [e] <;> omega) (by rw [eN, h.lt]; omega) t ht
    · obtain ⟨k, hk, ht⟩ := List.mem_flatMap.mp ht
      have hk := List.mem_range.mp hk
      have := le (k + 1) (by omega)
      rw [show ((k + 1 : Nat) : Int) = 1 + (k : Int) from by omega] at this
      exact inT_z h.c this.1 (by rw [eN, h.lc]; exact this.2) t ht
  · obtain ⟨k, hk, ht⟩ := List.mem_flatMap.mp ht
    have hk := List.mem_range.mp hk
    have := le (k + 1) (by omega)
    have h0 := le k (by omega)
    rw [show ((k + 1 : Nat) : Int) = (k : Int) + 1 from by omega, Int.add_mul, Int.one_mul] at this
    exact onT_z h.o h0.1 (by rw [eN]; exact this.2) t ht
theorem prT_len (h : SOk s) (hc : c ≤ 58) : (prT s c).length ≤ 400 := by
  have hw := h.h.len
  have a := inT_len s.hw s.hn 0
  have b := inT_len s.tw s.tn (((c : Int) + 2) * (s.hw.length : Int) - (s.hw.length : Int))
  have d := flat_len (m := 1) (l := List.range c) (f := fun k : Nat => inT s.cw s.cn ((1 + (k : Int)) * (s.hw.length : Int))) fun k _ => inT_len _ _ _
  have e := flat_len (m := 4) (l := List.range (c + 1)) (f := fun k : Nat => onT s.rows s.hw.length ((k : Int) * (s.hw.length : Int))) fun k _ => onT_len (by omega) _
  rw [List.length_range] at d e
  unfold prT midT onsT
  rw [List.length_append, List.length_append, List.length_append]
  omega
theorem tot_le6 : ∀ {L : List T3}, (∀ t ∈ L, t.2.2 ≤ 6) → tot L k ≤ 6 * L.length
  | [], _ => by simp [tot]
  | t :: L, h => by
    have ih := tot_le6 (L := L) fun s hs => h s (List.mem_cons_of_mem _ hs)
    have ht := h t (List.mem_cons_self ..)
    rw [tot_cons, List.length_cons]
    split <;> omega
theorem prT_fits (h : SOk s) (hc : (c + 2) * s.hw.length ≤ 60) : Fits ((c + 2) * s.hw.length) (prT s c) := by
  have hw := h.h.len
  have c58 : c ≤ 58 := by
    rcases hw with e | e <;> rw [e] at hc <;> omega
  have hl := prT_len h c58
  exact ⟨hc, fun t ht => (prT_z h t ht).valid, by omega, fun u v _ _ => by
    rw [fL_t]
    have := tot_le6 (L := prT s c) (k := (min (u : Int) (v : Int), max (u : Int) (v : Int))) fun t ht => (prT_z h t ht).n.2
    omega⟩
/-- enumerate(line) -/
theorem zip_rg {α : Type} (d : α) (l : List α) : (List.range l.length).zip l = (List.range l.length).map fun j => (j, l.getD j d) := by
  apply List.ext_getElem?
  intro j
  rw [List.getElem?_map]
  by_cases hj : j < l.length
  · rw [show ((List.range l.length).zip l)[j]? = some (j, l[j]) from List.getElem?_zip_eq_some.mpr ⟨List.getElem?_range hj, List.getElem?_eq_getElem hj⟩, List.getElem?_range hj]
    simp [List.getD_eq_getElem?_getD, hj]
  · rw [List.getElem?_eq_none (by simp; omega), List.getElem?_eq_none (by simp; omega)]
    rfl
end
/-! PZ (split from LSTc). -/
section
theorem pure_Z {α : Type} {l : List α} {enc : α → D} : PureIt (prI (itC (l.map enc))) (((List.range l.length).zip l).map fun p => D.tup [.int (p.1 : Nat), enc p.2]) := by
  have h := pure_P (pure_C (l.map enc))
  rw [List.length_map, List.zip_map_right, List.map_map] at h
  exact h
end
/-! LZ4: wants_of, web_of, mirrored (k62). -/
section
variable {C : Store} {Q : D → Store → Prop} {X : Exc → Store → Prop} {s : Sp4} {c W : Nat} {rows : List (List Int)} {ws : List (List Int)} {n : Int}
theorem cb_web62 (n N : Nat) (f : Int × Int → Int) : cb n (webD N f) = true := by
  show (true && (cb n (gridD (rowsOf N f)) && (cbL n ((tiesL N f).map triD) && true))) = true
  rw [cb_grid, cb_ties]
  rfl
theorem rep_wants (h : ws.length = 1 ∨ ws.length = 2) (hc : c ≤ 1000) (C : Store) : oRepZ (.tup (ws.map wtD)) (.int c) C = some (.tup ((List.replicate c ws).flatten.map wtD), C) := by
  have ne : ws.map wtD ≠ [] := fun z => by
    have := congrArg List.length z
    simp at this
    rw [this] at h
    simp at h
  unfold oRepZ
  simp only [vT]
  by_cases h0 : c = 0
  · subst h0
    rw [if_pos ⟨rfl, ne⟩]
    rfl
  · rw [if_neg (fun z => h0 (by have := z.1; omega))]
    unfold oRepA
    simp only [vT]
    by_cases h1 : c = 1
    · subst h1
      rw [if_pos (show ((1 : Nat) : Int) = 1 from rfl)]
      simp
    · rw [if_neg (by omega)]
      unfold oRepT
      simp only [vT]
      have e0 : (ws.map wtD).isEmpty = false := by
        cases e : ws.map wtD with
        | nil => exact absurd e ne
        | cons a b => rfl
      rw [if_pos (by rw [decide_eq_true (by omega : (2 : Int) ≤ (c : Int)), decide_eq_true (by omega : (c : Int) ≤ 1000), decide_eq_true (by rw [List.length_map]; omega : (ws.map wtD).length ≤ 1000), e0]; rfl)]
      simp
theorem cat_g {C : Store} (xs ys : List D) (h : xs.length + ys.length ≤ 10000) : oCatT (.tup xs) (.tup ys) C = some (.tup (xs ++ ys), C) := by
  have hz : szN (xs.length + ys.length) = true := by
    simp [szN]
    omega
  simp only [oCatT, vT, hz, if_true]
  cases xs with
  | nil => rfl
  | cons a A =>
    cases ys with
    | nil => simp
    | cons b B => rfl
/-- the wants of the strip of c cells -/
def wantsL (s : Sp4) (c : Nat) : List (List Int) := s.hw ++ (List.replicate c s.cw).flatten ++ s.tw
theorem rep_len {α : Type} (l : List α) : ∀ c : Nat, (List.replicate c l).flatten.length = c * l.length
  | 0 => by simp
  | c + 1 => by rw [List.replicate_succ, List.flatten_cons, List.length_append, rep_len l c, Nat.succ_mul]; omega
theorem wantsL_len (h : SOk s) : (wantsL s c).length = (c + 2) * s.hw.length := by
  unfold wantsL
  rw [List.length_append, List.length_append, rep_len, h.lc, h.lt, Nat.add_mul]
  omega
theorem wants_of_w (h : SOk s) (hc : c ≤ 1000) (q : Q (.tup ((wantsL s c).map wtD)) C) : wR (m_Strip_wants_of [stripD s, .int c] C) Q X := by
  have l1 := h.h.len
  have l2 := h.c.len
  have l3 := h.t.len
  have lr : (List.replicate c s.cw).flatten.length ≤ 2000 := by
    rw [rep_len]
    rcases l2 with e | e <;> rw [e] <;> omega
  rw [e_Strip_wants_of]
  apply w_fin
  unfold b_Strip_wants_of
  walk_at "p"
  refine wo_fld (d := cellD s.hw s.hn) rfl ?_
  refine wo_fld (d := .tup (s.hw.map wtD)) rfl ?_
  walk_at "p"
  refine wo_fld (d := cellD s.cw s.cn) rfl ?_
  refine wo_fld (d := .tup (s.cw.map wtD)) rfl ?_
  walk_at "p"
  refine wo_of (rep_wants l2 hc _) ?_
  refine wo_of (cat_g _ _ (by rw [List.length_map, List.length_map]; omega)) ?_
  walk_at "p"
  refine wo_fld (d := cellD s.tw s.tn) rfl ?_
  refine wo_fld (d := .tup (s.tw.map wtD)) rfl ?_
  refine wo_of (cat_g _ _ (by rw [List.length_append, List.length_map, List.length_map, List.length_map]; omega)) ?_
  rw [← List.map_append, ← List.map_append]
  refine fnl_p ?_ ?_
  · exact cbL_allM fun d hd => by
      obtain ⟨x, _, rfl⟩ := List.mem_map.mp hd
      exact cb_want _ _ _
  rw [List.take_length]
  exact q
/-! ### web_of -/
theorem big_x (h : SOk s) {m : Int} (hm : 60 < (m + 2) * (s.hw.length : Int)) (h0 : 0 ≤ m) (h9 : m ≤ 1000000000) (q : X ⟨2, [.int 60]⟩ C) : wR (m_Strip_web_of [stripD s, .int m] C) Q X := by
  rw [e_Strip_web_of]
  apply w_fin
  unfold b_Strip_web_of b_Strip_web_of_0
  walk_at "p"
  refine wo_fld (d := .int s.hw.length) rfl ?_
  refine wo_mul (by unfold cMul; rw [decide_eq_true (by omega), decide_eq_true (by omega)]; rfl) ?_
  walk_at "p"
  unfold b_Strip_web_of_1
  walk_at "p"
  refine wI_dt hm ?_
  walk_at "p"
  refine ⟨rfl, ?_⟩
  walk_at "p"
  refine fnl_xc rfl ?_
  rw [List.take_length]
  exact q
theorem line_zip (r : List Int) (b : Int) (i : Nat) : ((List.range r.length).zip r).map (fun p => D.tup [.int (b + (i : Int)), .int (b + (W : Int) + (p.1 : Nat)), .int p.2])
    = ((List.range r.length).map fun j : Nat => ((b + (i : Int), b + (W : Int) + (j : Int), r.getD j 0) : T3)).map triD := by
  rw [zip_rg 0 r, List.map_map, List.map_map]
  rfl
theorem cb_tris (L : List T3) (k : Nat) : cbL k (L.map triD) = true := cbL_allM fun d hd => by
  obtain ⟨t, _, rfl⟩ := List.mem_map.mp hd
  rfl
/-- the first i rows of the ties from a cell to the next one -/
def onI (rows : List (List Int)) (W : Nat) (b : Int) (i : Nat) : List T3 := (List.range i).flatMap fun i : Nat => (List.range W).map fun j : Nat => (b + (i : Int), b + (W : Int) + (j : Int), gij rows i j)
theorem onI_succ (b : Int) (i : Nat) : onI rows W b (i + 1) = onI rows W b i ++ (List.range W).map fun j : Nat => (b + (i : Int), b + (W : Int) + (j : Int), gij rows i j) := by
  unfold onI
  rw [List.range_succ, List.flatMap_append]
  simp
theorem web_of_w (h : SOk s) (hc : (c + 2) * s.hw.length ≤ 60) (q : Q (webD ((c + 2) * s.hw.length) (fL (prT s c))) C) : wR (m_Strip_web_of [stripD s, .int c] C) Q X := by
  have l1 := h.h.len
  have lc := h.lc
  have lt := h.lt
  have lo := h.o.len
  have fits := prT_fits h hc
  have eN : (((c + 2) * s.hw.length : Nat) : Int) = ((c : Int) + 2) * (s.hw.length : Int) := by rw [Int.natCast_mul]; rfl
  have c58 : c ≤ 58 := by
    rcases l1 with e | e <;> rw [e] at hc <;> omega
  have il := inT_len s.cw s.cn
  rw [e_Strip_web_of]
  apply w_fin
  unfold b_Strip_web_of b_Strip_web_of_0
  walk_at "p"
  refine wo_fld (d := .int s.hw.length) rfl ?_
  refine wo_mul (by unfold cMul; rw [decide_eq_true (by omega), decide_eq_true (by omega)]; rfl) ?_
  walk_at "p"
  unfold b_Strip_web_of_1
  walk_at "p"
  refine wI_df (by rw [← eN]; omega) ?_
  walk_at "p"
  unfold b_Strip_web_of_2
  walk_at "p"
  refine wo_fld (d := cellD s.hw s.hn) rfl ?_
  walk_at "p"
  refine inner_w (by omega) ?_
  walk_at "p"
  refine wo_fld (d := cellD s.tw s.tn) rfl ?_
  walk_at "p"
  refine wo_fld (d := .int s.hw.length) rfl ?_
  walk_at "p"
  refine inner_w (by omega) ?_
  have a1 := inT_len s.hw s.hn 0
  have a2 := inT_len s.tw s.tn (((c : Int) + 2) * (s.hw.length : Int) - (s.hw.length : Int))
  refine wo_of (show oCat true _ _ _ = some (.cell C.length, C ++ [some (.lst ((inT s.hw s.hn 0 ++ inT s.tw s.tn (((c : Int) + 2) * (s.hw.length : Int) - (s.hw.length : Int))).map triD))]) from ?_) ?_
  · have z : (inT s.hw s.hn 0).length + (inT s.tw s.tn (((c : Int) + 2) * (s.hw.length : Int) - (s.hw.length : Int))).length ≤ 16777216 := by omega
    simp [oCat, vL, szN, z, mkL]
  generalize eA : inT s.hw s.hn 0 ++ inT s.tw s.tn (((c : Int) + 2) * (s.hw.length : Int) - (s.hw.length : Int)) = A
  have lA : A.length ≤ 2 := by rw [← eA, List.length_append]; omega
  walk_at "p"
  unfold b_Strip_web_of_3
  walk_at "p"
  refine ⟨_, _, rfl, rfl, inR_of (by omega) (by omega), inR_of (by omega) (by omega), ?_⟩
  rw [show ((c : Int) + 1 - 1).toNat = c from by omega]
  refine loopM (l := List.range c) (enc := fun k : Nat => D.int (1 + (k : Int))) (pure_R 1 c) (fun j sl S => ∃ z4, S = C ++ [some (.lst ((A ++ midT s.cw s.cn s.hw.length j).map triD))] ∧ sl = [some (stripD s), some (.int c), some (.int (((c : Int) + 2) * (s.hw.length : Int))), some (.cell C.length), z4, none, none, none, none, none]) ⟨none, by simp [midT], rfl⟩ ?_ ?_
  · rintro j k sl S hj ⟨z4, rfl, rfl⟩
    obtain ⟨hj1, hj2⟩ := List.getElem?_eq_some_iff.mp hj
    rw [List.length_range] at hj1
    have ek : k = j := by rw [← hj2, List.getElem_range]
    subst ek
    refine ⟨_, rfl, ?_⟩
    unfold b_Strip_web_of_3b_0
    refine w_augLs (j := C.length) rfl ?_
    walk_at "p"
    refine wo_fld (d := cellD s.cw s.cn) rfl ?_
    walk_at "p"
    refine wo_fld (d := .int s.hw.length) rfl ?_
    refine wo_mul (by unfold cMul; rw [decide_eq_true (by omega), decide_eq_true (by omega)]; rfl) ?_
    walk_at "p"
    refine inner_w (by omega) ?_
    have lm := flat_len (m := 1) (l := List.range k) (f := fun k : Nat => inT s.cw s.cn ((1 + (k : Int)) * (s.hw.length : Int))) fun k _ => inT_len _ _ _
    rw [List.length_range] at lm
    refine ⟨_, _, app_at, rfl, ?_, _, wr_hi (Nat.le_refl _), ?_⟩
    · have := il ((1 + (k : Int)) * (s.hw.length : Int))
      simp only [szN, decide_eq_true_eq, List.length_map, List.length_append]
      unfold midT
      omega
    · rw [app_set, ← List.map_append, List.append_assoc]
      have e : midT s.cw s.cn s.hw.length k ++ inT s.cw s.cn ((1 + (k : Int)) * (s.hw.length : Int)) = midT s.cw s.cn s.hw.length (k + 1) := by
        unfold midT
        rw [List.range_succ, List.flatMap_append]
        simp
      rw [e]
      exact lp_nx ⟨_, rfl, rfl⟩
  rintro sl S ⟨z4, rfl, rfl⟩
  rw [List.length_range]
  generalize eB : A ++ midT s.cw s.cn s.hw.length c = B
  have lB : B.length ≤ 60 := by
    have lm := flat_len (m := 1) (l := List.range c) (f := fun k : Nat => inT s.cw s.cn ((1 + (k : Int)) * (s.hw.length : Int))) fun k _ => inT_len _ _ _
    rw [List.length_range] at lm
    rw [← eB, List.length_append]
    unfold midT
    omega
  walk_at "p"
  unfold b_Strip_web_of_4
  walk_at "p"
  refine ⟨inR_of (by omega) (by omega), ?_⟩
  rw [show ((c : Int) + 1).toNat = c + 1 from by omega]
  refine loopM (l := List.range (c + 1)) (enc := fun k : Nat => .int (k : Int)) (pureR0 (c + 1)) (fun j sl S => ∃ z4 z5 z6 z7, S = C ++ [some (.lst ((B ++ onsT s.rows s.hw.length j).map triD))] ∧ sl = [some (stripD s), some (.int c), some (.int (((c : Int) + 2) * (s.hw.length : Int))), some (.cell C.length), z4, z5, z6, z7, none, none]) ⟨z4, none, none, none, by simp [onsT], rfl⟩ ?_ ?_
  · rintro j k sl S hj ⟨y4, y5, y6, y7, rfl, rfl⟩
    obtain ⟨hj1, hj2⟩ := List.getElem?_eq_some_iff.mp hj
    rw [List.length_range] at hj1
    have ek : k = j := by rw [← hj2, List.getElem_range]
    subst ek
    refine ⟨_, rfl, ?_⟩
    unfold b_Strip_web_of_4b_0
    walk_at "p"
    refine wo_fld (d := .int s.hw.length) rfl ?_
    refine wo_mul (by unfold cMul; rw [decide_eq_true (by omega), decide_eq_true (by omega)]; rfl) ?_
    walk_at "p"
    unfold b_Strip_web_of_4b_1
    walk_at "p"
    refine wo_fld (d := .tup (s.rows.map fun r => .tup (r.map .int))) rfl ?_
    walk_at "p"
    have lm := flat_len (m := 4) (l := List.range k) (f := fun k : Nat => onT s.rows s.hw.length ((k : Int) * (s.hw.length : Int))) fun k _ => onT_len (by omega) _
    rw [List.length_range] at lm
    generalize eD : B ++ onsT s.rows s.hw.length k = Dd
    have lD : Dd.length ≤ 400 := by
      rw [← eD, List.length_append]
      unfold onsT
      omega
    refine loopM (l := (List.range s.rows.length).zip s.rows) (enc := fun p => D.tup [.int (p.1 : Nat), .tup (p.2.map .int)]) (pure_Z (enc := fun r : List Int => D.tup (r.map .int))) (fun i sl S => ∃ z6 z7, S = C ++ [some (.lst ((Dd ++ onI s.rows s.hw.length ((k : Int) * (s.hw.length : Int)) i).map triD))] ∧ sl = [some (stripD s), some (.int c), some (.int (((c : Int) + 2) * (s.hw.length : Int))), some (.cell C.length), some (.int k), some (.int ((k : Int) * (s.hw.length : Int))), z6, z7, none, none]) ⟨_, _, by simp [onI], rfl⟩ ?_ ?_
    · rintro i p sl S hi ⟨z6, z7, rfl, rfl⟩
      rw [zip_rg [] s.rows, List.getElem?_map] at hi
      obtain ⟨i', hi', rfl⟩ := Option.map_eq_some_iff.mp hi
      obtain ⟨hi1, hi2⟩ := List.getElem?_eq_some_iff.mp hi'
      rw [List.length_range] at hi1
      have ei : i' = i := by rw [← hi2, List.getElem_range]
      subst ei
      have hm : s.rows.getD i' [] ∈ s.rows := by
        rw [List.getD_eq_getElem?_getD, List.getElem?_eq_getElem hi1, Option.getD_some]
        exact List.getElem_mem _
      have lr := h.o.row _ hm
      have li : (onI s.rows s.hw.length ((k : Int) * (s.hw.length : Int)) i').length ≤ 4 := by
        have := fm_len (l := List.range i') (ys := fun i : Nat => (List.range s.hw.length).map fun j : Nat => (((k : Int) * (s.hw.length : Int) + (i : Int), (k : Int) * (s.hw.length : Int) + (s.hw.length : Int) + (j : Int), gij s.rows i j) : T3)) (m := 2) fun i _ => by simp; omega
        unfold onI
        rw [List.length_range] at this
        omega
      refine ⟨_, rfl, ?_⟩
      unfold b_Strip_web_of_4b_1b_0
      refine w_augLs (j := C.length) rfl ?_
      walk_at "p"
      refine lcY (l := (List.range (s.rows.getD i' []).length).zip (s.rows.getD i' [])) (enc := fun p => D.tup [.int (p.1 : Nat), .int p.2]) (pure_Z (enc := D.int)) (fun p => D.tup [.int ((k : Int) * (s.hw.length : Int) + (i' : Int)), .int ((k : Int) * (s.hw.length : Int) + (s.hw.length : Int) + (p.1 : Nat)), .int p.2]) (by rw [List.length_zip, List.length_range]; omega) (fun p hp => ⟨_, rfl, fun acc => ?_⟩) (fun p _ => rfl) ?_
      · walk_at "p"
        refine wo_fld (d := .int s.hw.length) rfl ?_
        walk_at "p"
        exact ⟨rfl, rfl⟩
      rw [line_zip]
      refine ⟨_, _, app_at, rfl, ?_, _, wr_hi (Nat.le_refl _), ?_⟩
      · simp only [szN, decide_eq_true_eq, List.length_map, List.length_append, List.length_range]
        omega
      · rw [app_set, ← List.map_append, List.append_assoc]
        have e : onI s.rows s.hw.length ((k : Int) * (s.hw.length : Int)) i' ++ ((List.range (s.rows.getD i' []).length).map fun j : Nat => (((k : Int) * (s.hw.length : Int) + (i' : Int), (k : Int) * (s.hw.length : Int) + (s.hw.length : Int) + (j : Int), (s.rows.getD i' []).getD j 0) : T3)) = onI s.rows s.hw.length ((k : Int) * (s.hw.length : Int)) (i' + 1) := by
          rw [onI_succ, lr]
          rfl
        rw [e]
        exact lp_nx ⟨_, _, rfl, rfl⟩
    · rintro sl S ⟨z6, z7, rfl, rfl⟩
      rw [List.length_zip, List.length_range, Nat.min_self, lo]
      have e : Dd ++ onI s.rows s.hw.length ((k : Int) * (s.hw.length : Int)) s.hw.length = B ++ onsT s.rows s.hw.length (k + 1) := by
        rw [← eD, List.append_assoc]
        congr 1
        unfold onsT
        rw [List.range_succ, List.flatMap_append]
        simp [onT, onI]
      rw [e]
      exact lp_nx ⟨_, _, _, _, rfl, rfl⟩
  rintro sl S ⟨y4, y5, y6, y7, rfl, rfl⟩
  rw [List.length_range]
  walk_at "p"
  unfold b_Strip_web_of_5
  walk_at "p"
  have eP : B ++ onsT s.rows s.hw.length (c + 1) = prT s c := by
    rw [← eB, ← eA]
    rfl
  rw [eP, ← eN]
  refine w_mkT ?_
  walk_at "p"
  refine w_of (make_ok (L := prT s c) (d := .cell C.length) (ds := [.int (((c + 2) * s.hw.length : Nat) : Int), .cell C.length]) fits (.inr (.inr (.inr ⟨_, rfl, app_at⟩))) rfl rfl) ?_
  refine fnl_p (cb_web62 _ _ _) ?_
  rw [take_app rfl]
  exact q
/-! ### mirrored -/
def trn (rows : List (List Int)) (W : Nat) : List (List Int) := (List.range W).map fun j => rows.map fun r => r.getD j 0
def mirS (s : Sp4) : Sp4 := ⟨s.tw, s.tn, s.cw, s.cn, s.hw, s.hn, trn s.rows s.hw.length⟩
theorem trn_ow (h : Ow W rows) : Ow W (trn rows W) := by
  refine ⟨by simp [trn], fun r hr => ?_, fun r hr x hx => ?_, h.wid⟩
  · obtain ⟨j, _, rfl⟩ := List.mem_map.mp hr
    rw [List.length_map, h.len]
  · obtain ⟨j, hj, rfl⟩ := List.mem_map.mp hr
    obtain ⟨l, hl, rfl⟩ := List.mem_map.mp hx
    have hj := List.mem_range.mp hj
    have := h.row l hl
    rw [List.getD_eq_getElem?_getD, List.getElem?_eq_getElem (by omega), Option.getD_some]
    exact h.bd l hl _ (List.getElem_mem _)
theorem mir_ok (h : SOk s) : SOk (mirS s) := ⟨h.t, h.c, h.h, by show Ow s.tw.length (trn s.rows s.hw.length); rw [h.lt]; exact trn_ow h.o, by show s.cw.length = s.tw.length; rw [h.lc, h.lt], h.lt.symm⟩
theorem mirrored_w (h : SOk s) (q : Q (stripD (mirS s)) C) : wR (m_Strip_mirrored [stripD s] C) Q X := by
  have l1 := h.h.len
  have lo := h.o.len
  rw [e_Strip_mirrored]
  apply w_fin
  unfold b_Strip_mirrored b_Strip_mirrored_0
  walk_at "p"
  refine wo_fld (d := .int s.hw.length) rfl ?_
  refine ⟨_, rfl, inR_of (by omega) (by omega), ?_⟩
  rw [show ((s.hw.length : Nat) : Int).toNat = s.hw.length from by omega]
  refine lcY (l := List.range s.hw.length) (enc := fun k : Nat => .int (k : Int)) (pureR0 _) (fun j => .lst ((s.rows.map fun r => r.getD j 0).map .int)) (by simp; omega) (fun j hj => ⟨_, rfl, fun acc => ?_⟩) (fun j _ => cbL_allM fun d hd => by obtain ⟨x, _, rfl⟩ := List.mem_map.mp hd; rfl) ?_
  · have hj := List.mem_range.mp hj
    walk_at "p"
    refine wo_fld (d := .tup (s.rows.map fun r => .tup (r.map .int))) rfl ?_
    walk_at "p"
    refine lcY (l := s.rows) (enc := fun r : List Int => D.tup (r.map .int)) (pure_C _) (fun r => .int (r.getD j 0)) (by omega) (fun r hr => ⟨_, rfl, fun acc => ?_⟩) (fun _ _ => rfl) ?_
    · have lr := h.o.row r hr
      walk_at "p"
      refine wo_ix (k := j) rfl rfl ?_ ⟨rfl, rfl⟩
      rw [List.getElem?_map, List.getElem?_eq_getElem (by omega), List.getD_eq_getElem?_getD, List.getElem?_eq_getElem (by omega)]
      rfl
    · rw [List.map_map]
      exact ⟨rfl, rfl⟩
  walk_at "p"
  unfold b_Strip_mirrored_1
  walk_at "p"
  refine w_mkT ?_
  walk_at "p"
  refine wo_fld (d := cellD s.tw s.tn) rfl ?_
  walk_at "p"
  refine wo_fld (d := cellD s.cw s.cn) rfl ?_
  walk_at "p"
  refine wo_fld (d := cellD s.hw s.hn) rfl ?_
  walk_at "p"
  have e : ((List.range s.hw.length).map fun j => D.lst ((s.rows.map fun r => r.getD j 0).map .int)) = (mirS s).rows.map (lineD false) := by
    show _ = (trn s.rows s.hw.length).map (lineD false)
    unfold trn
    rw [List.map_map]
    rfl
  rw [e]
  refine mk_strip (s := mirS s) (b := false) (mir_ok h) (.inl rfl) ?_
  refine fnl_p (show cbL 0 (stripF (mirS s)) = true from cb_strip 0) ?_
  rw [List.take_length]
  exact q
end
/-! V1: ties in order. -/
def lt2 (p q : Int × Int) : Prop := p.1 < q.1 ∨ (p.1 = q.1 ∧ p.2 < q.2)
theorem pairs_sorted (N : Nat) : (pairsL N).Pairwise lt2 := by
  unfold pairsL
  rw [List.pairwise_flatMap]
  refine ⟨fun u _ => ?_, ?_⟩
  · rw [List.pairwise_map]
    refine (List.pairwise_lt_range (n := N - (u + 1))).imp fun {a b} h => ?_
    refine .inr ⟨rfl, ?_⟩
    show ((u + 1 + a : Nat) : Int) < ((u + 1 + b : Nat) : Int)
    omega
  · refine (List.pairwise_lt_range (n := N)).imp fun {a b} h x hx y hy => ?_
    obtain ⟨_, _, rfl⟩ := List.mem_map.mp hx
    obtain ⟨_, _, rfl⟩ := List.mem_map.mp hy
    refine .inl ?_
    show (a : Int) < (b : Int)
    omega
def lt3 (s t : T3) : Prop := s.1 < t.1 ∨ (s.1 = t.1 ∧ s.2.1 < t.2.1)
structure Tie (N : Nat) (L : List T3) : Prop where
  ok : ∀ t ∈ L, 0 ≤ t.1 ∧ t.1 < t.2.1 ∧ t.2.1 < N ∧ 1 ≤ t.2.2 ∧ t.2.2 ≤ 1000000000
  up : L.Pairwise lt3
theorem pr_lt {t : T3} (h : t.1 < t.2.1) : pr t = (t.1, t.2.1) := by
  unfold pr
  rw [show min t.1 t.2.1 = t.1 by omega, show max t.1 t.2.1 = t.2.1 by omega]
theorem dg0_add (d : Dc) (t : T3) (k : Int × Int) : dg0 (addT d t) k = if k = pr t then dg0 d k + t.2.2 else dg0 d k := by
  unfold addT
  rw [dg0_dp]
  by_cases h : k = pr t
  · rw [if_pos h, if_pos h, h]
  · rw [if_neg h, if_neg h]
theorem fold_out {k : Int × Int} : ∀ {L : List T3} {d : Dc}, (∀ t ∈ L, pr t ≠ k) → dg0 (L.foldl addT d) k = dg0 d k
  | [], _, _ => rfl
  | t :: L, d, h => by
    rw [List.foldl_cons, fold_out fun s hs => h s (List.mem_cons_of_mem _ hs), dg0_add, if_neg fun e => h t (List.mem_cons_self ..) e.symm]
theorem fold_in : ∀ {L : List T3} {d : Dc} {t : T3}, L.Pairwise (fun s t => pr s ≠ pr t) → t ∈ L → dg0 (L.foldl addT d) (pr t) = dg0 d (pr t) + t.2.2
  | s :: L, d, t, h, ht => by
    rw [List.pairwise_cons] at h
    rw [List.foldl_cons]
    rcases List.mem_cons.mp ht with rfl | ht
    · rw [fold_out fun s hs => (h.1 s hs).symm, dg0_add, if_pos rfl]
    · rw [fold_in h.2 ht, dg0_add, if_neg fun e => h.1 t ht e.symm]
section
variable {N : Nat} {L : List T3}
theorem Tie.rev (h : Tie N L) : L.reverse.Pairwise (fun s t => pr s ≠ pr t) := by
  rw [List.pairwise_reverse]
  refine h.up.imp_of_mem fun {s t} hs ht e => ?_
  have a := h.ok s hs
  have b := h.ok t ht
  rw [pr_lt a.2.1, pr_lt b.2.1]
  intro z
  simp only [Prod.mk.injEq] at z
  unfold lt3 at e
  omega
theorem Tie.get (h : Tie N L) {t : T3} (ht : t ∈ L) : fL L.reverse (t.1, t.2.1) = t.2.2 := by
  have a := h.ok t ht
  have e := fold_in (d := []) h.rev (List.mem_reverse.mpr ht)
  rw [pr_lt a.2.1] at e
  show dg0 (L.reverse.foldl addT []) _ = _
  rw [e]
  show 0 + t.2.2 = _
  omega
theorem Tie.zero (h : Tie N L) {p : Int × Int} (hp : ∀ t ∈ L, (t.1, t.2.1) ≠ p) : fL L.reverse p = 0 := by
  refine (fold_out (d := []) fun t ht => ?_).trans rfl
  have ht := List.mem_reverse.mp ht
  rw [pr_lt (h.ok t ht).2.1]
  exact hp t ht
theorem Tie.any (h : Tie N L) (p : Int × Int) : fL L.reverse p = 0 ∨ ∃ t ∈ L, (t.1, t.2.1) = p ∧ fL L.reverse p = t.2.2 := by
  by_cases hp : ∃ t ∈ L, (t.1, t.2.1) = p
  · obtain ⟨t, ht, rfl⟩ := hp
    exact .inr ⟨t, ht, rfl, h.get ht⟩
  · exact .inl (h.zero fun t ht e => hp ⟨t, ht, e⟩)
end
/-! LZ5: the law's cells, strips, ties (k62). -/
section
variable {C : Store} {Q : D → Store → Prop} {X : Exc → Store → Prop} {s : Sp4} {c W : Nat} {rows : List (List Int)} {ws : List (List Int)} {n : Int}
def liD (xs : List Int) : D := .lst (xs.map .int)
def rowsD (rows : List (List Int)) : D := .lst (rows.map liD)
/-- a cell of a plan -/
def celD (ws : List (List Int)) (n : Int) : D := .lst [.lst (ws.map liD), .int n]
def planD (s : Sp4) : D := .tup [celD s.hw s.hn, celD s.cw s.cn, celD s.tw s.tn, rowsD s.rows]
theorem cb_li (k : Nat) (xs : List Int) : cb k (liD xs) = true := cbL_allM fun d hd => by
  obtain ⟨x, _, rfl⟩ := List.mem_map.mp hd
  rfl
theorem cb_lis (k : Nat) (l : List (List Int)) : cbL k (l.map liD) = true := cbL_allM fun d hd => by
  obtain ⟨x, _, rfl⟩ := List.mem_map.mp hd
  exact cb_li _ _
theorem cb_cel (k : Nat) : cb k (celD ws n) = true := by
  show (cbL k (ws.map liD) && (true && true)) = true
  rw [cb_lis]
  rfl
theorem cw_want (h : Cw xs) (q : Q (wtD xs) C) : wR (m_law_want [liD xs] C) Q X := by
  obtain ⟨ne, b, l⟩ := h
  cases xs with
  | nil => exact absurd rfl ne
  | cons x ys => exact law_want_w (by simp at l; omega) (fun z hz => by have := b z hz; omega) q
theorem law_cell_w (h : Ce ws n) (q : Q (cellD ws n) C) : wR (m_law_cell [celD ws n] C) Q X := by
  have hl := h.len
  obtain ⟨w0, hw0⟩ : ∃ w0, ws[0]? = some w0 := ⟨_, List.getElem?_eq_getElem (by omega)⟩
  rw [e_law_cell]
  apply w_fin
  unfold b_law_cell b_law_cell_0
  walk_at "p"
  refine wo_ix (k := 0) (xs := [.lst (ws.map liD), .int n]) rfl rfl rfl ?_
  walk_at "p"
  refine lcY (l := ws) (enc := liD) (pure_C _) wtD (by omega) (fun xs hx => ⟨_, rfl, fun acc => ?_⟩) (fun _ _ => cb_want _ _ _) ?_
  · walk_at "p"
    exact cw_want (h.cw xs hx) ⟨rfl, rfl⟩
  walk_at "p"
  unfold b_law_cell_1
  walk_at "p"
  refine wo_ix (k := 0) (xs := [.lst (ws.map liD), .int n]) rfl rfl rfl ?_
  walk_at "p"
  refine wo_ix (k := 0) (xs := ws.map liD) (d := liD w0) rfl rfl (by rw [List.getElem?_map, hw0]; rfl) ?_
  walk_at "p"
  refine wo_len (xs := w0.map .int) rfl ?_
  walk_at "p"
  have tail : ∀ d : D, Seqd d (ws.map wtD) → wS (b_law_cell_2 ⟨C.length, [some (celD ws n), some d, none]⟩ C) (fnl C.length Q X) := fun d hd => by
    unfold b_law_cell_2
    walk_at "p"
    refine w_mkT ?_
    walk_at "p"
    refine wo_ix (k := 1) (xs := [.lst (ws.map liD), .int n]) rfl rfl rfl ?_
    walk_at "p"
    refine mk_cell h hd ?_
    refine fnl_p (cb_cell 0) ?_
    rw [List.take_length]
    exact q
  refine wI_d (fun _ => ?_) fun _ => ?_
  · walk_at "p"
    exact tail _ (.inr rfl)
  · walk_at "p"
    exact tail _ (.inl rfl)
theorem in_pair (a b k : Int) (S : Store) : oInD false (.int k) (.tup [.int a, .int b]) S = some (.bl (decide (k = a ∨ k = b)), S) := by
  have : oInD false (.int k) (.tup [.int a, .int b]) S = some (.bl (decide (a = k) || (decide (b = k) || false)), S) := by
    first
      | rfl
      | (simp [oInD, vS, toP, toPs, PyData.eqv, tyD]; done)
  rw [this]
  congr 3
  rw [Bool.eq_iff_iff]
  simp only [Bool.or_eq_true, decide_eq_true_eq, Bool.or_false]
  exact ⟨fun z => z.elim (fun e => .inl e.symm) fun e => .inr e.symm, fun z => z.elim (fun e => .inl e.symm) fun e => .inr e.symm⟩
theorem law_strip_w (h : SOk s) (q : Q (stripD s) C) : wR (m_law_strip [planD s] C) Q X := by
  have hl := h.h.len
  have lo := h.o.len
  obtain ⟨r0, hr0⟩ : ∃ r0, s.rows[0]? = some r0 := ⟨_, List.getElem?_eq_getElem (by omega)⟩
  have lr0 := h.o.row r0 (List.mem_of_getElem? hr0)
  obtain ⟨x0, hx0⟩ : ∃ x0, r0[0]? = some x0 := ⟨_, List.getElem?_eq_getElem (by omega)⟩
  rw [e_law_strip]
  apply w_fin
  unfold b_law_strip b_law_strip_0
  walk_at "p"
  refine wo_ix (k := 3) (d := rowsD s.rows) (xs := [celD s.hw s.hn, celD s.cw s.cn, celD s.tw s.tn, rowsD s.rows]) rfl rfl rfl ?_
  walk_at "p"
  refine wo_ix (k := 3) (d := rowsD s.rows) (xs := [celD s.hw s.hn, celD s.cw s.cn, celD s.tw s.tn, rowsD s.rows]) rfl rfl rfl ?_
  walk_at "p"
  refine wo_ix (k := 0) (xs := s.rows.map liD) (d := liD r0) rfl rfl (by rw [List.getElem?_map, hr0]; rfl) ?_
  walk_at "p"
  refine wo_ix (k := 0) (xs := r0.map .int) (d := .int x0) rfl rfl (by rw [List.getElem?_map, hx0]; rfl) ?_
  walk_at "p"
  refine wo_mod (by decide) ?_
  walk_at "p"
  refine ⟨_, rfl, ?_⟩
  walk_at "p"
  have last : ∀ (b : Bool) (d x3 : D), Seqd d (s.rows.map (lineD b)) → ∀ o : Option D, wS (b_law_strip_3 ⟨C.length, [some (planD s), some d, some (.int (x0 % 4)), o]⟩ C) (fnl C.length Q X) := fun b d x3 hd o => by
    unfold b_law_strip_3
    walk_at "p"
    refine w_mkT ?_
    walk_at "p"
    refine wo_ix (k := 0) (d := celD s.hw s.hn) (xs := [celD s.hw s.hn, celD s.cw s.cn, celD s.tw s.tn, rowsD s.rows]) rfl rfl rfl ?_
    walk_at "p"
    refine law_cell_w h.h ?_
    walk_at "p"
    refine wo_ix (k := 1) (d := celD s.cw s.cn) (xs := [celD s.hw s.hn, celD s.cw s.cn, celD s.tw s.tn, rowsD s.rows]) rfl rfl rfl ?_
    walk_at "p"
    refine law_cell_w h.c ?_
    walk_at "p"
    refine wo_ix (k := 2) (d := celD s.tw s.tn) (xs := [celD s.hw s.hn, celD s.cw s.cn, celD s.tw s.tn, rowsD s.rows]) rfl rfl rfl ?_
    walk_at "p"
    refine law_cell_w h.t ?_
    walk_at "p"
    refine mk_strip (b := b) h hd ?_
    refine fnl_p (show cbL 0 (stripF s) = true from cb_strip 0) ?_
    rw [List.take_length]
    exact q
  have mid : ∀ (b : Bool) (o : Option D), wS (b_law_strip_2 ⟨C.length, [some (planD s), some (.lst (s.rows.map (lineD b))), some (.int (x0 % 4)), o]⟩ C) (CT.thn b_law_strip_3 C.length (fnl C.length Q X)) := fun b o => by
    unfold b_law_strip_2
    walk_at "p"
    refine wo_of (in_pair _ _ _ _) ?_
    walk_at "p"
    refine wI_d (fun _ => ?_) fun _ => ?_
    · walk_at "p"
      exact last b _ .non (.inr rfl) _
    · walk_at "p"
      exact last b _ .non (.inl rfl) _
  unfold b_law_strip_1
  walk_at "p"
  refine wo_of (in_pair _ _ _ _) ?_
  walk_at "p"
  refine wI_d (fun _ => ?_) fun _ => ?_
  · walk_at "p"
    refine ⟨itC (s.rows.map liD), rfl, ?_⟩
    refine lcY (l := s.rows) (enc := liD) (pure_C _) (lineD true) (by omega) (fun r hr => ⟨_, rfl, fun acc => ?_⟩) (fun r _ => cb_tI _ _) ?_
    · walk_at "p"
      refine wo_of (tup_seqd (ds := r.map .int) (.inl rfl) _) ?_
      exact ⟨rfl, rfl⟩
    walk_at "p"
    exact mid true _
  · walk_at "p"
    exact mid false _
end
/-! LZ6: the law's ties and lists (k62). -/
section
variable {C : Store} {Q : D → Store → Prop} {X : Exc → Store → Prop} {s : Sp4} {c W : Nat} {rows : List (List Int)} {ws : List (List Int)} {n : Int}
def celP (p : List (List Int) × Int) : D := celD p.1 p.2
def lawTj (rows : List (List Int)) (W : Nat) (cs : List (List (List Int) × Int)) (m : Nat) (j : Nat) : List T3 :=
  inT (cs.getD j ([], 0)).1 (cs.getD j ([], 0)).2 (((m : Int) + (j : Int)) * (W : Int)) ++ if j + 1 < cs.length then onT rows W (((m : Int) + (j : Int)) * (W : Int)) else []
theorem lawT_flat (rows : List (List Int)) (W : Nat) : ∀ (cs : List (List (List Int) × Int)) (m : Nat), lawT rows W m cs = (List.range cs.length).flatMap (lawTj rows W cs m)
  | [], m => rfl
  | [a], m => by simp [lawT, lawTj]
  | a :: b :: r, m => by
    rw [lawT, lawT_flat rows W (b :: r) (m + 1), List.length_cons (a := a), List.range_succ_eq_map, List.flatMap_cons, List.flatMap_map]
    have e1 : lawTj rows W (a :: b :: r) m 0 = inT a.1 a.2 ((m : Int) * (W : Int)) ++ onT rows W ((m : Int) * (W : Int)) := by simp [lawTj]
    have e2 : (fun j : Nat => lawTj rows W (a :: b :: r) m j.succ) = lawTj rows W (b :: r) (m + 1) := by
      funext j
      unfold lawTj
      rw [List.getD_cons_succ, show ((m + 1 : Nat) : Int) + (j : Int) = (m : Int) + ((j.succ : Nat) : Int) from by omega, List.length_cons (a := a)]
      simp only [Nat.succ_eq_add_one, Nat.add_lt_add_iff_right]
    rw [e1, e2]
theorem cells_len : (cellsL s c).length = c + 2 := by simp [cellsL]
theorem cells_ce (h : SOk s) : ∀ p ∈ cellsL s c, Ce p.1 p.2 ∧ p.1.length = s.hw.length := fun p hp => by
  unfold cellsL at hp
  rcases List.mem_cons.mp hp with rfl | hp
  · exact ⟨h.h, rfl⟩
  · rcases List.mem_append.mp hp with hp | hp
    · obtain ⟨_, rfl⟩ := List.mem_replicate.mp hp
      exact ⟨h.c, h.lc⟩
    · obtain rfl := List.mem_singleton.mp hp
      exact ⟨h.t, h.lt⟩
theorem plan_ix {k : Nat} {d : D} (e : [celD s.hw s.hn, celD s.cw s.cn, celD s.tw s.tn, rowsD s.rows][k]? = some d) {R : D → Store → Prop} (q : R d C) : wO (oIx (planD s) (.int k) C) R := wo_ix (k := k) (d := d) (xs := [celD s.hw s.hn, celD s.cw s.cn, celD s.tw s.tn, rowsD s.rows]) rfl rfl e q
theorem cel_w (ws : List (List Int)) (n : Int) {R : D → Store → Prop} (q : R (.lst (ws.map liD)) C) : wO (oIx (celD ws n) (.int 0) C) R := wo_ix (k := 0) (xs := [.lst (ws.map liD), .int n]) rfl rfl rfl q
theorem cel_n (ws : List (List Int)) (n : Int) {R : D → Store → Prop} (q : R (.int n) C) : wO (oIx (celD ws n) (.int 1) C) R := wo_ix (k := 1) (xs := [.lst (ws.map liD), .int n]) rfl rfl rfl q
/-- [plan[0]] + [plan[1] for k in range(count)] + [plan[2]] -/
theorem cells_w {F : Fr} {i j t : Nat} (hc : c ≤ 1000) (h0 : F.sl[i]? = some (some (planD s))) (h1 : F.sl[j]? = some (some (.int c))) (wi : (wipeD F.sl [t])[i]? = F.sl[i]?) (ne : t ≠ i) (q : Q (.lst ((cellsL s c).map celP)) C) :
    wR (mOp (oCat false) (mOp (oCat false) (mAp (oLst false) (mCons (mOp oIx (mVar i) (mC (.int 0))) mNil)) (mLc false (mRng1 (mVar j)) (Tgt.nm t).M tYesM (mOp oIx (mVar i) (mC (.int 1))) [t])) (mAp (oLst false) (mCons (mOp oIx (mVar i) (mC (.int 2))) mNil)) F C) Q X := by
  refine w_op (w_op (w_ap (w_cons (w_op (w_var h0 (w_c (plan_ix (k := 0) rfl ?_)))))) )
  refine w_nil ?_
  refine wo_lstF (by with_unfolding_all rfl) ?_
  refine w_lcI (w_rng1 (w_var h1 ⟨_, rfl, inR_of (by omega) (by omega), ?_⟩))
  rw [show ((c : Nat) : Int).toNat = c from by omega]
  refine lcY (l := List.range c) (enc := fun k : Nat => .int (k : Int)) (pureR0 c) (fun _ => celD s.cw s.cn) (by simp; omega) (fun k _ => ⟨_, rfl, fun acc => ?_⟩) (fun _ _ => cb_cel _) ?_
  · refine w_op (w_var (d := planD s) ?_ (w_c (plan_ix (k := 1) rfl ⟨rfl, rfl⟩)))
    rw [List.getElem?_set_ne ne, wi]
    exact h0
  refine wo_catF (by simp; omega) ?_
  refine w_ap (w_cons (w_op (w_var h0 (w_c (plan_ix (k := 2) rfl ?_)))))
  refine w_nil ?_
  refine wo_lstF (by with_unfolding_all rfl) ?_
  refine wo_catF (by simp; omega) ?_
  have e : [celD s.hw s.hn] ++ (List.range c).map (fun _ => celD s.cw s.cn) ++ [celD s.tw s.tn] = (cellsL s c).map celP := by
    unfold cellsL
    rw [List.map_cons, List.map_append, List.map_replicate]
    have : (List.range c).map (fun _ => celD s.cw s.cn) = List.replicate c (celP (s.cw, s.cn)) := by
      rw [List.eq_replicate_iff]
      refine ⟨by simp, fun b hb => ?_⟩
      obtain ⟨_, _, rfl⟩ := List.mem_map.mp hb
      rfl
    rw [this]
    rfl
  rw [e]
  exact q
theorem onI_all (b : Int) : onI rows W b W = onT rows W b := rfl
theorem cL_app {S : Store} (X : List D) : cL (.cell S.length) (S ++ [some (.lst X)]) = some (S.length, X) := by simp [cL]
/-- the innermost walk: the ties of a row -/
theorem law_row_w {S : Store} {fl : Nat} {P : RS → Prop} {b : Int} {i : Nat} {L : List T3} {z4 z5 z8 : Option D} (h : Ow W rows) (hP : (planD s) = planD s) (hr : s.rows = rows) (hi : i < W) (hf : fl ≤ S.length) (hL : L.length ≤ 1000000)
    (q : ∀ z8, P (.nx [some (planD s), some (.int c), some (.int W), some (.cell S.length), z4, z5, some (.int b), some (.int i), z8] (S ++ [some (.lst ((L ++ (List.range W).map fun j : Nat => (b + (i : Int), b + (W : Int) + (j : Int), gij rows i j)).map triD))]))) :
    wS (b_law_strip_ties_2b_2tb_0 ⟨fl, [some (planD s), some (.int c), some (.int W), some (.cell S.length), z4, z5, some (.int b), some (.int i), z8]⟩ (S ++ [some (.lst (L.map triD))])) P := by
  have hw := h.wid
  have hl := h.len
  subst hr
  obtain ⟨r, hr⟩ : ∃ r, s.rows[i]? = some r := ⟨_, List.getElem?_eq_getElem (by omega)⟩
  have lr := h.row r (List.mem_of_getElem? hr)
  unfold b_law_strip_ties_2b_2tb_0
  walk_at "p"
  refine ⟨inR_of (by omega) (by omega), ?_⟩
  rw [show ((W : Nat) : Int).toNat = W from by omega]
  refine loopM (l := List.range W) (enc := fun k : Nat => .int (k : Int)) (pureR0 W) (fun j sl S' => ∃ z8, sl = [some (planD s), some (.int c), some (.int W), some (.cell S.length), z4, z5, some (.int b), some (.int i), z8] ∧ S' = S ++ [some (.lst ((L ++ (List.range j).map fun j : Nat => (b + (i : Int), b + (W : Int) + (j : Int), gij s.rows i j)).map triD))]) ⟨_, rfl, by simp⟩ ?_ ?_
  · rintro j k sl S' hj ⟨z8, rfl, rfl⟩
    obtain ⟨hj1, hj2⟩ := List.getElem?_eq_some_iff.mp hj
    rw [List.length_range] at hj1
    have ek : k = j := by rw [← hj2, List.getElem_range]
    subst ek
    obtain ⟨x, hx⟩ : ∃ x, r[k]? = some x := ⟨_, List.getElem?_eq_getElem (by omega)⟩
    have gx : gij s.rows i k = x := by
      unfold gij
      rw [List.getD_eq_getElem?_getD, List.getD_eq_getElem?_getD, hr, Option.getD_some, hx, Option.getD_some]
    refine ⟨_, rfl, ?_⟩
    unfold b_law_strip_ties_2b_2tbb_0
    walk_at "p"
    refine w_append ?_
    walk_at "p"
    refine ⟨by simp [vL], ?_⟩
    walk_at "p"
    refine plan_ix (k := 3) rfl ?_
    walk_at "p"
    refine wo_ix (k := i) (xs := s.rows.map liD) (d := liD r) rfl rfl (by rw [List.getElem?_map, hr]; rfl) ?_
    walk_at "p"
    refine wo_ix (k := k) (xs := r.map .int) (d := .int x) rfl rfl (by rw [List.getElem?_map, hx]; rfl) ?_
    walk_at "p"
    refine ⟨S.length, _, cL_app _, hf, by rw [List.length_map, List.length_append, List.length_map, List.length_range]; omega, ?_⟩
    refine lp_nx ⟨_, rfl, ?_⟩
    simp only [app_set, List.range_succ, List.map_append, List.map_cons, List.map_nil, List.append_assoc, gx, triD]
  · rintro sl S' ⟨z8, rfl, rfl⟩
    rw [List.length_range]
    exact q z8
theorem law_ties_w (h : SOk s) (hc : c ≤ 58) (q : Q (.lst ((lawT s.rows s.hw.length 0 (cellsL s c)).map triD)) C) : wR (m_law_strip_ties [planD s, .int c] C) Q X := by
  have hl := h.h.len
  have lo := h.o.len
  obtain ⟨w0, hw0⟩ : ∃ w0, s.hw[0]? = some w0 := ⟨_, List.getElem?_eq_getElem (by omega)⟩
  rw [e_law_strip_ties]
  apply w_fin
  unfold b_law_strip_ties b_law_strip_ties_0
  walk_at "p"
  refine plan_ix (k := 0) rfl ?_
  walk_at "p"
  refine cel_w _ _ ?_
  walk_at "p"
  refine wo_len (xs := s.hw.map liD) rfl ?_
  rw [List.length_map]
  walk_at "p"
  refine ⟨_, rfl, ?_⟩
  walk_at "p"
  unfold b_law_strip_ties_1
  refine w_asg (cells_w (by omega) rfl rfl rfl (by decide) ?_)
  walk_at "p"
  unfold b_law_strip_ties_2
  walk_at "p"
  refine wo_len (xs := (cellsL s c).map celP) rfl ?_
  rw [List.length_map, cells_len]
  refine ⟨_, rfl, inR_of (by omega) (by omega), ?_⟩
  rw [show (((c + 2 : Nat) : Int)).toNat = c + 2 from by omega]
  refine loopM (l := List.range (c + 2)) (enc := fun k : Nat => .int (k : Int)) (pureR0 (c + 2)) (fun j sl S => ∃ z5 z6 z7 z8, S = C ++ [some (.lst (((List.range j).flatMap (lawTj s.rows s.hw.length (cellsL s c) 0)).map triD))] ∧ sl = [some (planD s), some (.int c), some (.int s.hw.length), some (.cell C.length), some (.lst ((cellsL s c).map celP)), z5, z6, z7, z8]) ⟨none, none, none, none, by simp, rfl⟩ ?_ ?_
  · rintro j k sl S hj ⟨z5, z6, z7, z8, rfl, rfl⟩
    obtain ⟨hj1, hj2⟩ := List.getElem?_eq_some_iff.mp hj
    rw [List.length_range] at hj1
    have ek : k = j := by rw [← hj2, List.getElem_range]
    subst ek
    obtain ⟨p, hp⟩ : ∃ p, (cellsL s c)[k]? = some p := ⟨_, List.getElem?_eq_getElem (by rw [cells_len]; omega)⟩
    have pl := (cells_ce h p (List.mem_of_getElem? hp)).2
    have pz : (cellsL s c).getD k ([], 0) = p := by rw [List.getD_eq_getElem?_getD, hp, Option.getD_some]
    have lj : ∀ j : Nat, (lawTj s.rows s.hw.length (cellsL s c) 0 j).length ≤ 5 := fun j => by
      have a := inT_len ((cellsL s c).getD j ([], 0)).1 ((cellsL s c).getD j ([], 0)).2 ((((0 : Nat) : Int) + (j : Int)) * (s.hw.length : Int))
      have b := onT_len (rows := s.rows) (show s.hw.length ≤ 2 by omega) ((((0 : Nat) : Int) + (j : Int)) * (s.hw.length : Int))
      unfold lawTj
      rw [List.length_append]
      split
      · omega
      · rw [List.length_nil]; omega
    have ll := flat_len (m := 5) (l := List.range k) (f := lawTj s.rows s.hw.length (cellsL s c) 0) fun j _ => lj j
    rw [List.length_range] at ll
    have nx : (List.range (k + 1)).flatMap (lawTj s.rows s.hw.length (cellsL s c) 0) = (List.range k).flatMap (lawTj s.rows s.hw.length (cellsL s c) 0) ++ lawTj s.rows s.hw.length (cellsL s c) 0 k := by
      rw [List.range_succ, List.flatMap_append]
      simp
    have ej : lawTj s.rows s.hw.length (cellsL s c) 0 k = inT p.1 p.2 ((k : Int) * (s.hw.length : Int)) ++ if k + 1 < c + 2 then onT s.rows s.hw.length ((k : Int) * (s.hw.length : Int)) else [] := by
      unfold lawTj
      rw [pz, cells_len, show ((0 : Nat) : Int) + (k : Int) = (k : Int) from by omega]
    generalize (List.range k).flatMap (lawTj s.rows s.hw.length (cellsL s c) 0) = L at ll nx
    refine ⟨_, rfl, ?_⟩
    unfold b_law_strip_ties_2b_0
    walk_at "p"
    refine wo_mul (by unfold cMul; rw [decide_eq_true (by omega), decide_eq_true (by omega)]; rfl) ?_
    walk_at "p"
    unfold b_law_strip_ties_2b_1
    walk_at "p"
    have last : ∀ M : List T3, M = L ++ inT p.1 p.2 ((k : Int) * (s.hw.length : Int)) → ∀ z6 z7 z8 : Option D, wS (b_law_strip_ties_2b_2 ⟨C.length, [some (planD s), some (.int c), some (.int s.hw.length), some (.cell C.length), some (.lst ((cellsL s c).map celP)), some (.int (k : Int)), some (.int ((k : Int) * (s.hw.length : Int))), z7, z8]⟩ (C ++ [some (.lst (M.map triD))])) (lpP (fun j sl S => ∃ z5 z6 z7 z8, S = C ++ [some (.lst (((List.range j).flatMap (lawTj s.rows s.hw.length (cellsL s c) 0)).map triD))] ∧ sl = [some (planD s), some (.int c), some (.int s.hw.length), some (.cell C.length), some (.lst ((cellsL s c).map celP)), z5, z6, z7, z8]) (k + 1) (CT.thn b_law_strip_ties_3 C.length (fnl C.length Q X))) := fun M hM z6 z7 z8 => by
      have lM : M.length ≤ 1000 := by
        have := inT_len p.1 p.2 ((k : Int) * (s.hw.length : Int))
        rw [hM, List.length_append]
        omega
      unfold b_law_strip_ties_2b_2
      walk_at "p"
      refine wo_len (xs := (cellsL s c).map celP) rfl ?_
      rw [List.length_map, cells_len]
      walk_at "p"
      refine wI_d (fun lt => ?_) fun ge => ?_
      · have ej2 : lawTj s.rows s.hw.length (cellsL s c) 0 k = inT p.1 p.2 ((k : Int) * (s.hw.length : Int)) ++ onT s.rows s.hw.length ((k : Int) * (s.hw.length : Int)) := by rw [ej, if_pos (by omega)]
        walk_at "p"
        refine ⟨inR_of (by omega) (by omega), ?_⟩
        rw [show ((s.hw.length : Nat) : Int).toNat = s.hw.length from by omega]
        refine loopM (l := List.range s.hw.length) (enc := fun k : Nat => .int (k : Int)) (pureR0 _) (fun i sl S => ∃ z7 z8, S = C ++ [some (.lst ((M ++ onI s.rows s.hw.length ((k : Int) * (s.hw.length : Int)) i).map triD))] ∧ sl = [some (planD s), some (.int c), some (.int s.hw.length), some (.cell C.length), some (.lst ((cellsL s c).map celP)), some (.int (k : Int)), some (.int ((k : Int) * (s.hw.length : Int))), z7, z8]) ⟨z7, z8, by simp [onI], rfl⟩ ?_ ?_
        · rintro i i' sl S hi ⟨z7, z8, rfl, rfl⟩
          obtain ⟨hi1, hi2⟩ := List.getElem?_eq_some_iff.mp hi
          rw [List.length_range] at hi1
          have ei : i' = i := by rw [← hi2, List.getElem_range]
          subst ei
          refine ⟨_, rfl, ?_⟩
          have li : (onI s.rows s.hw.length ((k : Int) * (s.hw.length : Int)) i').length ≤ 4 := by
            have := fm_len (l := List.range i') (ys := fun i : Nat => (List.range s.hw.length).map fun j : Nat => (((k : Int) * (s.hw.length : Int) + (i : Int), (k : Int) * (s.hw.length : Int) + (s.hw.length : Int) + (j : Int), gij s.rows i j) : T3)) (m := 2) fun i _ => by simp; omega
            unfold onI
            rw [List.length_range] at this
            omega
          refine law_row_w h.o rfl rfl hi1 (Nat.le_refl _) (by rw [List.length_append]; omega) fun z8 => ?_
          rw [List.append_assoc, ← onI_succ]
          exact lp_nx ⟨_, _, rfl, rfl⟩
        · rintro sl S ⟨z7, z8, rfl, rfl⟩
          rw [List.length_range]
          have e : M ++ onI s.rows s.hw.length ((k : Int) * (s.hw.length : Int)) s.hw.length = (List.range (k + 1)).flatMap (lawTj s.rows s.hw.length (cellsL s c) 0) := by
            rw [nx, ej2, hM, onI_all, List.append_assoc]
          rw [e]
          exact lp_nx ⟨_, _, _, _, rfl, rfl⟩
      · have ej2 : lawTj s.rows s.hw.length (cellsL s c) 0 k = inT p.1 p.2 ((k : Int) * (s.hw.length : Int)) := by rw [ej, if_neg (by omega), List.append_nil]
        walk_at "p"
        have e : M = (List.range (k + 1)).flatMap (lawTj s.rows s.hw.length (cellsL s c) 0) := by rw [nx, ej2, hM]
        rw [e]
        exact ⟨_, _, _, _, rfl, rfl⟩
    refine wI_d (fun z => ?_) fun z => ?_
    · have e2 : p.1.length = 2 := by omega
      walk_at "p"
      refine w_append ?_
      walk_at "p"
      refine ⟨by simp [vL], ?_⟩
      walk_at "p"
      refine wo_ix (k := k) (xs := (cellsL s c).map celP) (d := celD p.1 p.2) rfl rfl (by rw [List.getElem?_map, hp]; rfl) ?_
      walk_at "p"
      refine cel_n _ _ ?_
      walk_at "p"
      refine ⟨C.length, _, cL_app _, Nat.le_refl _, by rw [List.length_map]; omega, ?_⟩
      walk_at "p"
      have := last (L ++ [((k : Int) * (s.hw.length : Int), (k : Int) * (s.hw.length : Int) + 1, p.2)]) (by unfold inT; rw [if_pos e2]) z6 z7 z8
      rw [List.map_append] at this
      rw [app_set]
      exact this
    · have e1 : p.1.length ≠ 2 := fun e => z (by rw [← pl, e]; rfl)
      walk_at "p"
      exact last L (by unfold inT; rw [if_neg e1, List.append_nil]) z6 z7 z8
  · rintro sl S ⟨z5, z6, z7, z8, rfl, rfl⟩
    rw [List.length_range]
    walk_at "p"
    unfold b_law_strip_ties_3
    walk_at "p"
    have e : (List.range (c + 2)).flatMap (lawTj s.rows s.hw.length (cellsL s c) 0) = lawT s.rows s.hw.length 0 (cellsL s c) := by rw [lawT_flat, cells_len]
    rw [e]
    refine fnl_own (xs := (lawT s.rows s.hw.length 0 (cellsL s c)).map triD) (Nat.le_refl _) app_at (cb_tris _ _) ?_
    rw [take_app rfl]
    exact q
end
/-! LZ7: the law's lists, its sums of ties, the turned plan (k62). -/
section
variable {C : Store} {Q : D → Store → Prop} {X : Exc → Store → Prop} {s : Sp4} {c W N : Nat} {rows : List (List Int)} {ws : List (List Int)} {n : Int} {L : List T3}
theorem cells_flat (s : Sp4) (c : Nat) : (cellsL s c).flatMap (fun p => p.1) = wantsL s c := by
  unfold cellsL wantsL
  rw [List.flatMap_cons, List.flatMap_append]
  have : ∀ c : Nat, (List.replicate c (s.cw, s.cn)).flatMap (fun p => p.1) = (List.replicate c s.cw).flatten := fun c => by
    rw [List.flatMap_replicate]
  rw [this]
  simp
theorem law_lists_w (h : SOk s) (hc : c ≤ 60) (q : Q (.lst ((wantsL s c).map liD)) C) : wR (m_law_strip_lists [planD s, .int c] C) Q X := by
  have hl := h.h.len
  have lw : ∀ j : Nat, (((cellsL s c).take j).flatMap fun p => p.1).length ≤ 200 := fun j => by
    have := fm_len (l := (cellsL s c).take j) (ys := fun p => p.1) (m := 2) fun p hp => by
      have := (cells_ce h p (List.mem_of_mem_take hp)).2
      omega
    have l2 : ((cellsL s c).take j).length ≤ c + 2 := by rw [List.length_take, cells_len]; omega
    omega
  rw [e_law_strip_lists]
  apply w_fin
  unfold b_law_strip_lists b_law_strip_lists_0
  walk_at "p"
  unfold b_law_strip_lists_1
  refine w_forI (w_seqI (cells_w (by omega) rfl rfl rfl (by decide) ?_))
  walk_at "p"
  refine loopM (l := cellsL s c) (enc := celP) (pure_C _) (fun j sl S => ∃ z3, S = C ∧ sl = [some (planD s), some (.int c), some (.lst ((((cellsL s c).take j).flatMap fun p => p.1).map liD)), z3, none]) ⟨none, rfl, rfl⟩ ?_ ?_
  · rintro j p sl S hj ⟨z3, rfl, rfl⟩
    have hp := cells_ce h p (List.mem_of_getElem? hj)
    refine ⟨_, rfl, ?_⟩
    unfold b_law_strip_lists_1b_0
    walk_at "p"
    refine cel_w _ _ ?_
    refine wo_catF (by rw [List.length_map, List.length_map]; have := lw j; omega) ?_
    walk_at "p"
    refine ⟨some (celP p), rfl, ?_⟩
    rw [← List.map_append, take_s1 hj, List.flatMap_append]
    simp
  · rintro sl S ⟨z3, rfl, rfl⟩
    rw [List.take_length, cells_flat]
    walk_at "p"
    unfold b_law_strip_lists_2
    walk_at "p"
    refine fnl_p (cb_lis _ _) ?_
    rw [List.take_length]
    exact q
/-! ### sums of ties -/
structure TzL (N : Nat) (L : List T3) : Prop where
  n : N ≤ 60
  z : ∀ t ∈ L, Tz N t
  l : L.length ≤ 1000
theorem le2_asym {a b : Int × Int} (h1 : le2 a b = true) (h2 : le2 b a = true) : a = b := by
  simp only [le2, decide_eq_true_eq] at h1 h2
  exact Prod.ext (by omega) (by omega)
theorem TzL.key (h : TzL N L) {p : (Int × Int) × Int} (hp : p ∈ sums L) : 0 ≤ p.1.1 ∧ p.1.1 < p.1.2 ∧ p.1.2 < N :=
  fold_mem (P := fun p => 0 ≤ p.1.1 ∧ p.1.1 < p.1.2 ∧ p.1.2 < N) L [] (by simp) (fun t ht m => by
    have := h.z t ht
    have a := this.u
    have b := this.lt
    have c := this.v
    simp only [pr]
    omega) p hp
theorem sums_few (L : List T3) : (sums L).length ≤ L.length := by
  have := sums_len L []
  simp only [List.length_nil] at this
  have q : (sums L).length ≤ 0 + L.length := this
  omega
/-- the keys in order, those with a sum above 0: the web's pairs -/
theorem keys_pairs (h : TzL N L) : ((srt ((sums L).map (·.1))).filter fun p => decide (0 < fL L p)) = (pairsL N).filter fun p => decide (0 < fL L p) := by
  have nd := sums_keys L
  refine List.Perm.eq_of_pairwise (le := fun a b => le2 a b = true) (fun a b _ _ => le2_asym) ?_ ?_ ?_
  · exact List.Pairwise.sublist List.filter_sublist (List.pairwise_mergeSort le2_trans le2_total _)
  · refine List.Pairwise.sublist List.filter_sublist ((pairs_sorted N).imp fun {a b} z => ?_)
    simp only [lt2] at z
    simp only [le2, decide_eq_true_eq]
    omega
  · refine (List.perm_ext_iff_of_nodup ?_ ?_).mpr fun p => ?_
    · exact List.Nodup.sublist List.filter_sublist ((List.mergeSort_perm _ _).nodup_iff.mpr nd)
    · exact List.Nodup.sublist List.filter_sublist (pairs_nodup N)
    · simp only [List.mem_filter, decide_eq_true_eq, srt_mem]
      refine ⟨fun ⟨a, b⟩ => ⟨?_, b⟩, fun ⟨_, b⟩ => ⟨?_, b⟩⟩
      · obtain ⟨e, he, rfl⟩ := List.mem_map.mp a
        have := h.key he
        exact mem_pairs.mpr ⟨e.1.1.toNat, e.1.2.toNat, by omega, by omega, Prod.ext (by show e.1.1 = _; omega) (by show e.1.2 = _; omega)⟩
      · unfold fL dg0 at b
        cases e : dg (sums L) p with
        | none => rw [e] at b; exact absurd b (by decide)
        | some m => exact List.mem_map.mpr ⟨_, dg_mem e, rfl⟩
theorem keysL {x : D} {d : Dc} (h : vD x C = some (dcK d, dcV d)) : oListOfD false [x] C = some (.lst (rsD (d.map (·.1))), C) := by
  have e : (dcK d).map (fun q => D.tup (q.map kyD)) = (d.map (·.1)).map rD := by
    unfold dcK
    rw [List.map_map, List.map_map]
    rfl
  simp only [oListOfD, h, Option.map_some, e]
  rfl
theorem vD_app {d : Dc} : vD (.cell C.length) (C ++ [some (.dT (dcK d) (dcV d))]) = some (dcK d, dcV d) := by simp [vD]
theorem ties_of_w (h : TzL N L) (m : D) (q : Q (.lst ((tiesL N (fL L)).map triD)) C) : wR (m_law_ties_of [m, .lst (L.map triD)] C) Q X := by
  have hL := h.l
  rw [e_law_ties_of]
  apply w_fin
  unfold b_law_ties_of b_law_ties_of_0
  walk_at "p"
  unfold b_law_ties_of_1
  walk_at "p"
  refine loopM (l := L) (enc := triD) (pure_C _) (fun j sl S => ∃ z3 z4 z5, S = C ++ [some (.dT (dcK (sums (L.take j))) (dcV (sums (L.take j))))] ∧ sl = [some m, some (.lst (L.map triD)), some (.cell C.length), z3, z4, z5]) ⟨none, none, none, rfl, rfl⟩ ?_ ?_
  · rintro j t sl S hj ⟨z3, z4, z5, rfl, rfl⟩
    have ht := h.z t (List.mem_of_getElem? hj)
    have hu : t.1 < t.2.1 := ht.lt
    have ep : pr t = (t.1, t.2.1) := by
      simp only [pr]
      exact Prod.ext (by show min t.1 t.2.1 = t.1; omega) (by show max t.1 t.2.1 = t.2.1; omega)
    have hz : (sums (L.take j)).length < 16777216 := by
      have := sums_few (L.take j)
      have h2 : (L.take j).length ≤ L.length := by rw [List.length_take]; omega
      omega
    refine ⟨_, rfl, ?_⟩
    unfold b_law_ties_of_1b_0
    refine w_put ?_
    walk_at "p"
    refine ⟨by rw [vD_app]; rfl, ?_⟩
    walk_at "p"
    refine wo_of (get_at vD_app) ?_
    walk_at "p"
    refine ⟨_, ?_, lp_nx ⟨_, _, _, rfl, rfl⟩⟩
    have := put_at (F := ⟨C.length, [some m, some (.lst (L.map triD)), some (.cell C.length), some (.int t.1), some (.int t.2.1), some (.int t.2.2)]⟩) (C := C ++ [some (.dT (dcK (sums (L.take j))) (dcV (sums (L.take j))))]) (a := t.1) (b := t.2.1) (v := dg0 (sums (L.take j)) (t.1, t.2.1) + t.2.2) app_at hz (.inr trivial)
    rw [ev_put]
    simp only [puK_ok, puK2_ok, puK3_ok]
    refine this.trans ?_
    rw [app_set, sums_take L j t hj]
    unfold addT
    rw [ep]
    rfl
  · rintro sl S ⟨z3, z4, z5, rfl, rfl⟩
    rw [List.take_length]
    walk_at "p"
    unfold b_law_ties_of_2
    walk_at "p"
    refine wo_of (keysL vD_app) ?_
    walk_at "p"
    refine wo_of (sortQ_l _ _) ?_
    walk_at "p"
    have key : ∀ p ∈ srt ((sums L).map (·.1)), ∃ v, dg (sums L) p = some v ∧ fL L p = v := fun p hp => by
      obtain ⟨e, he, rfl⟩ := List.mem_map.mp (srt_mem.mp hp)
      have z := mem_dg (sums_keys L) (by exact he : (e.1, e.2) ∈ sums L)
      refine ⟨e.2, z, ?_⟩
      show (dg (sums L) e.1).getD 0 = e.2
      rw [z]
      rfl
    have ks : (srt ((sums L).map (·.1))).length ≤ 1000 := by
      rw [srt_len, List.length_map]
      have := sums_few L
      omega
    have vD2 : ∀ acc : List D, vD (.cell C.length) (accS (C ++ [some (.dT (dcK (sums L)) (dcV (sums L)))]) acc) = some (dcK (sums L), dcV (sums L)) := fun acc => by
      simp [vD, accS]
    refine lcM (l := srt ((sums L).map (·.1))) (enc := rD) (pure_C _) (fun p => decide (0 < fL L p)) (fun p => triD (p.1, p.2, fL L p)) (by omega) (fun p hp => ⟨_, rfl, fun acc => ⟨?_, fun _ => ?_⟩⟩) (fun _ _ _ => rfl) ?_
    · obtain ⟨v, h1, h2⟩ := key p hp
      walk_at "p"
      refine wo_of (ix_at (vD2 acc) h1) ?_
      walk_at "p"
      rw [h2]
      exact ⟨rfl, rfl⟩
    · obtain ⟨v, h1, h2⟩ := key p hp
      walk_at "p"
      refine wo_of (ix_at (vD2 acc) h1) ?_
      walk_at "p"
      rw [h2]
      exact ⟨rfl, rfl⟩
    have e : ((srt ((sums L).map (·.1))).filter fun p => decide (0 < fL L p)).map (fun p => triD (p.1, p.2, fL L p)) = (tiesL N (fL L)).map triD := by
      rw [keys_pairs h]
      unfold tiesL
      rw [List.map_map]
      rfl
    rw [e]
    refine fnl_p (cb_tris _ _) ?_
    rw [take_app rfl]
    exact q
theorem lawT_z (h : SOk s) : ∀ t ∈ lawT s.rows s.hw.length 0 (cellsL s c), Tz ((c + 2) * s.hw.length) t := fun t ht => by
  have hw := h.h.len
  have eN : (((c + 2) * s.hw.length : Nat) : Int) = ((c : Int) + 2) * (s.hw.length : Int) := by rw [Int.natCast_mul]; rfl
  have le : ∀ m : Nat, m ≤ c + 1 → 0 ≤ (m : Int) * (s.hw.length : Int) ∧ (m : Int) * (s.hw.length : Int) + (s.hw.length : Int) ≤ ((c : Int) + 2) * (s.hw.length : Int) := fun m hm => by
    rcases hw with e | e <;> rw [e] <;> omega
  rw [lawT_flat] at ht
  obtain ⟨k, hk, ht⟩ := List.mem_flatMap.mp ht
  have hk := List.mem_range.mp hk
  rw [cells_len] at hk
  obtain ⟨p, hp⟩ : ∃ p, (cellsL s c)[k]? = some p := ⟨_, List.getElem?_eq_getElem (by rw [cells_len]; omega)⟩
  have pl := cells_ce h p (List.mem_of_getElem? hp)
  have pz : (cellsL s c).getD k ([], 0) = p := by rw [List.getD_eq_getElem?_getD, hp, Option.getD_some]
  unfold lawTj at ht
  rw [pz, cells_len, show ((0 : Nat) : Int) + (k : Int) = (k : Int) from by omega] at ht
  have z0 := le k (by omega)
  rcases List.mem_append.mp ht with ht | ht
  · exact inT_z pl.1 z0.1 (by rw [eN, pl.2]; exact z0.2) t ht
  · split at ht
    · rename_i z
      have z1 := le (k + 1) (by omega)
      rw [show ((k + 1 : Nat) : Int) = (k : Int) + 1 from by omega, Int.add_mul, Int.one_mul] at z1
      exact onT_z h.o z0.1 (by rw [eN]; exact z1.2) t ht
    · cases ht
theorem lawT_len (h : SOk s) (hc : c ≤ 58) : (lawT s.rows s.hw.length 0 (cellsL s c)).length ≤ 1000 := by
  have hl := h.h.len
  have lj : ∀ j : Nat, (lawTj s.rows s.hw.length (cellsL s c) 0 j).length ≤ 5 := fun j => by
    have a := inT_len ((cellsL s c).getD j ([], 0)).1 ((cellsL s c).getD j ([], 0)).2 ((((0 : Nat) : Int) + (j : Int)) * (s.hw.length : Int))
    have b := onT_len (rows := s.rows) (show s.hw.length ≤ 2 by omega) ((((0 : Nat) : Int) + (j : Int)) * (s.hw.length : Int))
    unfold lawTj
    rw [List.length_append]
    split
    · omega
    · rw [List.length_nil]; omega
  have ll := flat_len (m := 5) (l := List.range (cellsL s c).length) (f := lawTj s.rows s.hw.length (cellsL s c) 0) fun j _ => lj j
  rw [List.length_range, cells_len] at ll
  rw [lawT_flat, cells_len]
  omega
/-! ### the turned plan -/
theorem law_turned_w (h : SOk s) (q : Q (planD (mirS s)) C) : wR (m_law_turned [planD s] C) Q X := by
  have hl := h.h.len
  have lo := h.o.len
  rw [e_law_turned]
  apply w_fin
  unfold b_law_turned b_law_turned_0
  walk_at "p"
  refine plan_ix (k := 3) rfl ?_
  walk_at "p"
  refine wo_len (xs := s.rows.map liD) rfl ?_
  rw [List.length_map, lo]
  walk_at "p"
  unfold b_law_turned_1
  walk_at "p"
  refine plan_ix (k := 2) rfl ?_
  walk_at "p"
  refine plan_ix (k := 1) rfl ?_
  walk_at "p"
  refine plan_ix (k := 0) rfl ?_
  walk_at "p"
  refine ⟨inR_of (by omega) (by omega), ?_⟩
  rw [show ((s.hw.length : Nat) : Int).toNat = s.hw.length from by omega]
  refine lcY (l := List.range s.hw.length) (enc := fun k : Nat => .int (k : Int)) (pureR0 _) (fun j => liD (s.rows.map fun r => r.getD j 0)) (by simp; omega) (fun j hj => ⟨_, rfl, fun acc => ?_⟩) (fun j _ => cb_li _ _) ?_
  · have hj := List.mem_range.mp hj
    walk_at "p"
    refine ⟨inR_of (by omega) (by omega), ?_⟩
    rw [show ((s.hw.length : Nat) : Int).toNat = s.hw.length from by omega]
    refine lcY (l := List.range s.hw.length) (enc := fun k : Nat => .int (k : Int)) (pureR0 _) (fun i => .int (gij s.rows i j)) (by simp; omega) (fun i hi => ⟨_, rfl, fun acc => ?_⟩) (fun _ _ => rfl) ?_
    · have hi := List.mem_range.mp hi
      obtain ⟨r, hr⟩ : ∃ r, s.rows[i]? = some r := ⟨_, List.getElem?_eq_getElem (by omega)⟩
      have lr := h.o.row r (List.mem_of_getElem? hr)
      obtain ⟨x, hx⟩ : ∃ x, r[j]? = some x := ⟨_, List.getElem?_eq_getElem (by omega)⟩
      have gx : gij s.rows i j = x := by
        unfold gij
        rw [List.getD_eq_getElem?_getD, List.getD_eq_getElem?_getD, hr, Option.getD_some, hx, Option.getD_some]
      walk_at "p"
      refine plan_ix (k := 3) rfl ?_
      walk_at "p"
      refine wo_ix (k := i) (xs := s.rows.map liD) (d := liD r) rfl rfl (by rw [List.getElem?_map, hr]; rfl) ?_
      walk_at "p"
      refine wo_ix (k := j) (xs := r.map .int) (d := .int x) rfl rfl (by rw [List.getElem?_map, hx]; rfl) ?_
      rw [gx]
      exact ⟨rfl, rfl⟩
    · refine ⟨?_, rfl⟩
      unfold liD
      congr 1
      apply List.ext_getElem?
      intro i
      rw [List.getElem?_map, List.getElem?_map, List.getElem?_map]
      by_cases hi : i < s.rows.length
      · rw [List.getElem?_range (by omega), List.getElem?_eq_getElem hi]
        simp only [Option.map_some, gij, List.getD_eq_getElem?_getD, List.getElem?_eq_getElem hi, Option.getD_some]
      · rw [List.getElem?_eq_none (by simp; omega), List.getElem?_eq_none (by omega)]
        rfl
  walk_at "p"
  refine fnl_p ?_ ?_
  · simp only [cb, cbL, cb_cel, Bool.and_true, Bool.true_and]
    exact cbL_allM fun d hd => by
      obtain ⟨j, _, rfl⟩ := List.mem_map.mp hd
      exact cb_li _ _
  rw [List.take_length]
  have e : planD (mirS s) = .tup [celD s.tw s.tn, celD s.cw s.cn, celD s.hw s.hn, .lst ((List.range s.hw.length).map fun j => liD (s.rows.map fun r => r.getD j 0))] := by
    unfold planD mirS rowsD trn
    rw [List.map_map]
    rfl
  rw [e] at q
  exact q
end
/-! EDD: data that can be laid, of small depth: == of a thing and itself. -/
structure Ed (dp : Nat) (x : D) (p : PyData) : Prop where
  tp : ∀ C, toP C x = some p
  cl : p.canLay0 = true
  dp : p.depth ≤ dp
structure EdL (dp : Nat) (xs : List D) (ps : List PyData) : Prop where
  tp : ∀ C, toPs C xs = some ps
  cl : PyData.canLayAll0 ps = true
  dp : PyData.depthAll ps ≤ dp
theorem edl_nil {dp : Nat} : EdL dp [] [] := ⟨fun _ => rfl, rfl, by simp [PyData.depthAll]⟩
theorem edl_cons {dp : Nat} {x : D} {p : PyData} {xs : List D} {ps : List PyData} (h : Ed dp x p) (t : EdL dp xs ps) : EdL dp (x :: xs) (p :: ps) := by
  refine ⟨fun C => ?_, ?_, ?_⟩
  · simp only [toPs, h.tp, t.tp]
  · simp [PyData.canLayAll0, h.cl, t.cl]
  · have := h.dp
    have := t.dp
    simp only [PyData.depthAll]
    omega
theorem edl_all {dp : Nat} : ∀ {xs : List D}, (∀ x ∈ xs, ∃ p, Ed dp x p) → ∃ ps, EdL dp xs ps
  | [], _ => ⟨[], edl_nil⟩
  | x :: xs, h => by
    obtain ⟨p, hp⟩ := h x (List.mem_cons_self ..)
    obtain ⟨ps, ht⟩ := edl_all fun y hy => h y (List.mem_cons_of_mem _ hy)
    exact ⟨p :: ps, edl_cons hp ht⟩
theorem ed_tup {dp : Nat} {xs : List D} {ps : List PyData} (h : EdL dp xs ps) : Ed (dp + 1) (.tup xs) (.tuple ps) := by
  refine ⟨fun C => ?_, ?_, ?_⟩
  · simp only [toP, h.tp, Option.map_some]
  · simpa [PyData.canLay0] using h.cl
  · have := h.dp
    simp only [PyData.depth]
    omega
theorem ed_lst {dp : Nat} {xs : List D} {ps : List PyData} (h : EdL dp xs ps) : Ed (dp + 1) (.lst xs) (.list ps) := by
  refine ⟨fun C => ?_, ?_, ?_⟩
  · simp only [toP, h.tp, Option.map_some]
  · simpa [PyData.canLay0] using h.cl
  · have := h.dp
    simp only [PyData.depth]
    omega
theorem ed_int {dp : Nat} (i : Int) : Ed dp (.int i) (.int i) := ⟨fun _ => rfl, rfl, by simp [PyData.depth]⟩
theorem Ed.shp {dp : Nat} {x : D} {p : PyData} (h : Ed dp x p) (hd : dp ≤ 60) : SeqAt.shaped p = true := by
  have := h.dp
  have h64 : p.depth ≤ 64 := by omega
  simp [SeqAt.shaped, h.cl, h64]
theorem Ed.eq {dp : Nat} {x : D} {p : PyData} (h : Ed dp x p) (hd : dp ≤ 60) (neg : Bool) (C : Store) : oEqD neg x x C = some (.bl (!neg), C) := eqD_same (h.tp C) (h.tp C) h.cl (h.shp hd) neg
theorem eq_lstS {dp : Nat} {xs : List D} (h : ∀ x ∈ xs, ∃ p, Ed dp x p) (hd : dp ≤ 50) (neg : Bool) (C : Store) : oEqA neg (.lst xs) (.lst xs) C = some (.bl (!neg), C) := by
  obtain ⟨ps, e⟩ := edl_all h
  exact (ed_lst e).eq (by omega) neg C
theorem ed_intsT {dp : Nat} (l : List Int) : ∃ p, Ed (dp + 1) (.tup (l.map .int)) p := by
  obtain ⟨ps, e⟩ := edl_all (dp := dp) (xs := l.map D.int) fun x hx => by
    obtain ⟨i, _, rfl⟩ := List.mem_map.mp hx
    exact ⟨_, ed_int i⟩
  exact ⟨_, ed_tup e⟩
/-! TRYN: try with one named clause. -/
section
variable {C : Store} {Q : D → Store → Prop} {X : Exc → Store → Prop} {F : Fr} {P : RS → Prop}
theorem w_tryN {v : Nat} {cs ds : List Nat} {mb mh : MS} (h : wS (mb F C) (fun r => match r with
      | .xc e sl C' => e.c ∈ cs ∧ wS (mh ⟨F.fl, sl.set v (some (.exn e.c e.fs))⟩ C') (fun r => ∃ d, r = .rt d C' ∧ nx d = true ∧ P (.rt d C'))
      | r => P r)) : wS (sTry v cs ds mb mh F C) P := by
  refine ⟨?_⟩
  have h := h.h
  unfold sTry
  cases em : mb F C with
  | xc e sl C' =>
    rw [em] at h
    simp only at h ⊢
    obtain ⟨a, g⟩ := h
    obtain ⟨d, er, nd, p⟩ := g.h
    rw [if_pos a, er]
    simp only [nd, and_self, if_true]
    exact p
  | _ => rw [em] at h; exact h
end
/-! S6e: evens, odds. -/
section
variable {C : Store} {Q : D → Store → Prop} {X : Exc → Store → Prop} {E O : List Rn}
theorem evens_w (h : Q (.tup (rsD E)) C) : wR (m_Want_evens [wantD E O] C) Q X := by
  rw [e_Want_evens]
  apply w_fin
  unfold b_Want_evens
  walk_at "p"
  refine wo_ix rfl (k := 0) rfl rfl ?_
  walk_at "p"
  exact fnl_p (cb_tup _ _) (by simpa using h)
theorem odds_w (h : Q (.tup (rsD O)) C) : wR (m_Want_odds [wantD E O] C) Q X := by
  rw [e_Want_odds]
  apply w_fin
  unfold b_Want_odds
  walk_at "p"
  refine wo_ix rfl (k := 1) rfl rfl ?_
  walk_at "p"
  exact fnl_p (cb_tup _ _) (by simpa using h)
end
/-! LZ8: a strip laid out, as the law asks (k62). -/
section
variable {C : Store} {Q : D → Store → Prop} {X : Exc → Store → Prop} {s : Sp4} {c W N : Nat} {n : Int}
def toldW (N : Nat) (f : Int × Int → Int) : D := .tup [.str "told", webD N f]
def manyD : D := .tup [.str "many", .int 60]
theorem law_web_w (h : SOk s) (hc : (c + 2) * s.hw.length ≤ 60) (q : Q (toldW ((c + 2) * s.hw.length) (fL (prT s c))) C) : wR (m_law_web [stripD s, .int c] C) Q X := by
  rw [e_law_web]
  apply w_fin
  unfold b_law_web
  refine w_tryN ?_
  unfold b_law_webt_
  walk_at "p"
  refine ⟨_, rfl, ?_⟩
  walk_at "p"
  refine web_of_w h hc ?_
  walk_at "p"
  refine fnl_p ?_ ?_
  · show (true && (cb 0 (webD ((c + 2) * s.hw.length) (fL (prT s c))) && true)) = true
    rw [cb_web62]
    rfl
  rw [List.take_length]
  exact q
theorem law_big_w (h : SOk s) {m : Int} (hm : 60 < (m + 2) * (s.hw.length : Int)) (h0 : 0 ≤ m) (h9 : m ≤ 1000000000) (q : Q manyD C) : wR (m_law_web [stripD s, .int m] C) Q X := by
  rw [e_law_web]
  apply w_fin
  unfold b_law_web
  refine w_tryN ?_
  unfold b_law_webt_
  walk_at "p"
  refine ⟨_, rfl, ?_⟩
  walk_at "p"
  refine big_x h hm h0 h9 ?_
  refine ⟨List.mem_singleton.mpr rfl, ?_⟩
  unfold b_law_webx_
  walk_at "p"
  refine wo_of (show oXf 2 0 (.exn 2 [.int 60]) C = some (.int 60, C) from rfl) ?_
  walk_at "p"
  refine ⟨_, rfl, rfl, ?_⟩
  refine fnl_p rfl ?_
  rw [List.take_length]
  exact q
theorem ed_tri (L : List T3) : ∀ x ∈ L.map triD, ∃ p, Ed 1 x p := fun x hx => by
  obtain ⟨t, _, rfl⟩ := List.mem_map.mp hx
  exact ed_intsT [t.1, t.2.1, t.2.2]
theorem ed_rs (l : List Rn) : ∃ p, Ed 2 (.tup (rsD l)) p := by
  obtain ⟨ps, e⟩ := edl_all (dp := 1) (xs := rsD l) fun x hx => by
    obtain ⟨r, _, rfl⟩ := List.mem_map.mp hx
    exact ed_intsT [r.1, r.2]
  exact ⟨_, ed_tup e⟩
theorem ed_hv (E O : List Rn) : ∃ p, Ed 3 (.tup [.tup (rsD E), .tup (rsD O)]) p := by
  obtain ⟨p, h1⟩ := ed_rs E
  obtain ⟨r, h2⟩ := ed_rs O
  exact ⟨_, ed_tup (edl_cons h1 (edl_cons h2 edl_nil))⟩
theorem eq_many (neg : Bool) (C : Store) : oEqA neg manyD manyD C = some (.bl (!neg), C) := by
  have e1 : Ed 0 (.str "many") (.str "many") := ⟨fun _ => rfl, by decide +kernel, by simp [PyData.depth]⟩
  exact (ed_tup (edl_cons e1 (edl_cons (ed_int 60) edl_nil))).eq (by decide) neg C
theorem is_laid_w (h : SOk s) (hc : c ≤ 59) (q : Q (.bl true) C) : wR (m_law_is_laid [stripD s, planD s, .int c] C) Q X := by
  have hl := h.h.len
  have eN : (((c + 2) * s.hw.length : Nat) : Int) = ((c : Int) + 2) * (s.hw.length : Int) := by rw [Int.natCast_mul]; rfl
  have lN : (c + 2) * s.hw.length ≤ 122 := by rcases hl with e | e <;> rw [e] <;> omega
  have wl : (wantsL s c).length = (c + 2) * s.hw.length := wantsL_len h
  rw [e_law_is_laid]
  apply w_fin
  unfold b_law_is_laid b_law_is_laid_0
  walk_at "p"
  refine plan_ix (k := 0) rfl ?_
  walk_at "p"
  refine cel_w _ _ ?_
  walk_at "p"
  refine wo_len (xs := s.hw.map liD) rfl ?_
  rw [List.length_map]
  walk_at "p"
  unfold b_law_is_laid_1
  walk_at "p"
  refine wo_mul (by unfold cMul; rw [decide_eq_true (by omega), decide_eq_true (by omega)]; rfl) ?_
  walk_at "p"
  unfold b_law_is_laid_2
  walk_at "p"
  have tail : ∀ d : D, wS (b_law_is_laid_4 ⟨C.length, [some (stripD s), some (planD s), some (.int c), some (.int s.hw.length), some (.int (((c : Int) + 2) * (s.hw.length : Int))), some d, none, none, none, none]⟩ C) (CT.thn (sSeq b_law_is_laid_5 (sSeq b_law_is_laid_6 b_law_is_laid_7)) C.length (fnl C.length Q X)) := fun d => by
    unfold b_law_is_laid_4
    walk_at "p"
    refine ⟨_, rfl, ?_⟩
    walk_at "p"
    refine wants_of_w h (by omega) ?_
    walk_at "p"
    unfold b_law_is_laid_5
    walk_at "p"
    refine ⟨_, rfl, _, rfl, wI_f ?_⟩
    walk_at "p"
    refine wo_len (xs := (wantsL s c).map wtD) rfl ?_
    rw [List.length_map, wl, eN]
    walk_at "p"
    refine wI_dt rfl ?_
    walk_at "p"
    unfold b_law_is_laid_6
    walk_at "p"
    refine law_lists_w h (by omega) ?_
    walk_at "p"
    have cws : ∀ xs ∈ wantsL s c, Cw xs := fun xs hx => by
      unfold wantsL at hx
      rcases List.mem_append.mp hx with hx | hx
      · rcases List.mem_append.mp hx with hx | hx
        · exact h.h.cw xs hx
        · obtain ⟨l, hl, hx⟩ := List.mem_flatten.mp hx
          obtain ⟨_, rfl⟩ := List.mem_replicate.mp hl
          exact h.c.cw xs hx
      · exact h.t.cw xs hx
    refine lcY (l := wantsL s c) (enc := liD) (pure_C _) wtD (by omega) (fun xs hx => ⟨_, rfl, fun acc => ?_⟩) (fun _ _ => cb_want _ _ _) ?_
    · walk_at "p"
      exact cw_want (cws xs hx) ⟨rfl, rfl⟩
    walk_at "p"
    unfold b_law_is_laid_7
    walk_at "p"
    refine lcY (l := wantsL s c) (enc := wtD) (pure_C _) (fun xs => D.tup [.tup (rsD (lawR 0 xs)), .tup (rsD (lawR 1 xs))]) (by omega) (fun xs hx => ⟨_, rfl, fun acc => ?_⟩) (fun xs _ => ?_) ?_
    · walk_at "p"
      refine ⟨_, rfl, evens_w ?_⟩
      walk_at "p"
      refine ⟨_, rfl, odds_w ?_⟩
      walk_at "p"
      exact ⟨rfl, rfl⟩
    · simp only [cb, cbL, cb_rs, Bool.and_true]
    walk_at "p"
    refine lcY (l := wantsL s c) (enc := wtD) (pure_C _) (fun xs => D.tup [.tup (rsD (lawR 0 xs)), .tup (rsD (lawR 1 xs))]) (by omega) (fun xs hx => ⟨_, rfl, fun acc => ?_⟩) (fun xs _ => ?_) ?_
    · walk_at "p"
      refine ⟨_, rfl, evens_w ?_⟩
      walk_at "p"
      refine ⟨_, rfl, odds_w ?_⟩
      walk_at "p"
      exact ⟨rfl, rfl⟩
    · simp only [cb, cbL, cb_rs, Bool.and_true]
    refine wo_of (eq_lstS (dp := 3) (fun x hx => by
      obtain ⟨xs, _, rfl⟩ := List.mem_map.mp hx
      exact ed_hv _ _) (by decide) false _) ?_
    refine fnl_bl ?_
    rw [List.take_length]
    exact q
  by_cases big : (c + 2) * s.hw.length ≤ 60
  · have hc : c ≤ 58 := by rcases hl with e | e <;> rw [e] at big <;> omega
    refine law_web_w h big ?_
    walk_at "p"
    unfold b_law_is_laid_3
    walk_at "p"
    refine wI_df (by rw [← eN]; omega) ?_
    walk_at "p"
    refine wo_ix (k := 0) (xs := [.str "told", webD ((c + 2) * s.hw.length) (fL (prT s c))]) rfl rfl rfl ?_
    walk_at "p"
    refine wI_dt rfl ?_
    walk_at "p"
    refine wo_ix (k := 1) (xs := [.str "told", webD ((c + 2) * s.hw.length) (fL (prT s c))]) rfl rfl rfl ?_
    refine ⟨_, rfl, _, rfl, wI_f ?_⟩
    walk_at "p"
    refine wo_ix (k := 1) (xs := [.str "told", webD ((c + 2) * s.hw.length) (fL (prT s c))]) rfl rfl rfl ?_
    refine wo_fld (d := .int (((c + 2) * s.hw.length : Nat) : Int)) rfl ?_
    walk_at "p"
    refine wI_dt eN ?_
    walk_at "p"
    refine wo_ix (k := 1) (xs := [.str "told", webD ((c + 2) * s.hw.length) (fL (prT s c))]) rfl rfl rfl ?_
    refine wo_fld (d := .tup ((tiesL ((c + 2) * s.hw.length) (fL (prT s c))).map triD)) rfl ?_
    walk_at "p"
    refine wo_listF (xs := (tiesL ((c + 2) * s.hw.length) (fL (prT s c))).map triD) rfl ?_
    walk_at "p"
    refine law_ties_w h hc ?_
    walk_at "p"
    refine ties_of_w (N := (c + 2) * s.hw.length) ⟨big, lawT_z h, lawT_len h hc⟩ _ ?_
    rw [fL_law]
    refine wo_of (eq_lstS (dp := 1) (ed_tri _) (by decide) true _) ?_
    refine ⟨_, rfl, wI_f ?_⟩
    walk_at "p"
    exact tail _
  · have hb : 60 < ((c : Int) + 2) * (s.hw.length : Int) := by rw [← eN]; omega
    refine law_big_w h hb (by omega) (by omega) ?_
    walk_at "p"
    unfold b_law_is_laid_3
    walk_at "p"
    refine wI_dt hb ?_
    walk_at "p"
    refine wo_of (eq_many true _) ?_
    refine ⟨_, rfl, wI_f ?_⟩
    walk_at "p"
    exact tail _
end
/-! LZ9: the law's draws (k62). -/
section
variable {C : Store} {Q : D → Store → Prop} {X : Exc → Store → Prop} {i : Nat} {xs ys zs : List Int} {n m k x a b c d low : Int}
theorem take_z (hB : Bg i C) (hn : 0 < n) (hn2 : n < 4611686018427387904) (Y : Store) (h : ∀ r C', 0 ≤ r → r < n → To i C C' → Q (.int r) (C' ++ Y)) : wR (m_law_take [.cell i, .int n] (C ++ Y)) Q X := by
  obtain ⟨r, C', e, r0, r1, t⟩ := take_to hB hn hn2 Y
  exact w_of e (h r C' r0 r1 t)
theorem cw_srt (ne : xs ≠ []) (b : ∀ x ∈ xs, 0 ≤ x ∧ x ≤ 9) (l : xs.length ≤ 40) : Cw (srtI xs) := by
  refine ⟨fun z => ?_, fun x hx => b x (srtI_mem.mp hx), Nat.le_trans (srtI_len1 xs) l⟩
  obtain ⟨x, hx⟩ := List.exists_mem_of_ne_nil _ ne
  have : x ∈ srtI xs := srtI_mem.mpr hx
  rw [z] at this
  cases this
theorem cw_1 (h : 0 ≤ x ∧ x ≤ 9) : Cw [x] := ⟨by simp, fun y hy => by rw [List.mem_singleton.mp hy]; exact h, by simp⟩
theorem ce1 (h : Cw xs) : Ce [xs] 0 := ⟨fun y hy => by rw [List.mem_singleton.mp hy]; exact h, .inl rfl, by decide, fun _ => rfl⟩
theorem ce2 (h : Cw xs) (g : Cw ys) (hn : 0 ≤ n ∧ n ≤ 6) : Ce [xs, ys] n := ⟨fun y hy => by
  rcases List.mem_cons.mp hy with rfl | hy
  · exact h
  · rw [List.mem_singleton.mp hy]; exact g, .inr rfl, hn, fun z => by cases z⟩
theorem ow1 (h : 0 ≤ x ∧ x ≤ 6) : Ow 1 [[x]] := ⟨rfl, fun r hr => by rw [List.mem_singleton.mp hr]; rfl, fun r hr y hy => by
  rw [List.mem_singleton.mp hr] at hy
  rw [List.mem_singleton.mp hy]
  exact h, .inl rfl⟩
theorem ow2 (ha : 0 ≤ a ∧ a ≤ 6) (hb : 0 ≤ b ∧ b ≤ 6) (hc : 0 ≤ c ∧ c ≤ 6) (hd : 0 ≤ d ∧ d ≤ 6) : Ow 2 [[a, b], [c, d]] := ⟨rfl, fun r hr => by
  rcases List.mem_cons.mp hr with rfl | hr
  · rfl
  · rw [List.mem_singleton.mp hr]; rfl, fun r hr y hy => by
  rcases List.mem_cons.mp hr with rfl | hr
  · rcases List.mem_cons.mp hy with rfl | hy
    · exact ha
    · rw [List.mem_singleton.mp hy]; exact hb
  · rw [List.mem_singleton.mp hr] at hy
    rcases List.mem_cons.mp hy with rfl | hy
    · exact hc
    · rw [List.mem_singleton.mp hy]; exact hd, .inr rfl⟩
def gapsL : List (List Int) := [[0], [0, 1], [0, 2], [0], [0, 1, 2], [0, 3], [0, 4], [0, 1, 4, 5], [0, 5, 6], [0, 1, 2, 3, 4, 6, 7, 8, 9]]
theorem gaps_b : ∀ g ∈ gapsL, g ≠ [] ∧ g.length ≤ 9 ∧ ∀ x ∈ g, 0 ≤ x ∧ x ≤ 9 := by decide
theorem near_y (hB : Bg i C) (hl : 0 ≤ low) (Y : Store) (q : ∀ xs C', Cw xs → To i C C' → Q (liD xs) (C' ++ Y)) : wR (m_law_near [.cell i, .int low] (C ++ Y)) Q X := by
  rw [e_law_near]
  apply w_fin
  unfold b_law_near b_law_near_0
  walk_at "p"
  unfold b_law_near_1
  walk_at "p"
  refine take_z hB (by decide) (by decide) Y fun r C1 r0 r1 t1 => ?_
  obtain ⟨j, rfl⟩ : ∃ j : Nat, r = (j : Int) := ⟨r.toNat, by omega⟩
  obtain ⟨g, hg⟩ : ∃ g, gapsL[j]? = some g := ⟨_, List.getElem?_eq_getElem (by show j < 10; omega)⟩
  obtain ⟨g1, g2, g3⟩ := gaps_b g (List.mem_of_getElem? hg)
  refine wo_ix (k := j) (xs := gapsL.map liD) (d := liD g) rfl rfl (by rw [List.getElem?_map, hg]; rfl) ?_
  refine ⟨_, rfl, ?_⟩
  refine lcY (l := g) (enc := D.int) (pure_C _) (fun x => .int (min 9 (low + x))) (by omega) (fun x hx => ⟨_, rfl, fun acc => ?_⟩) (fun _ _ => rfl) ?_
  · walk_at "p"
    exact ⟨rfl, rfl⟩
  walk_at "p"
  have e : g.map (fun x => D.int (min 9 (low + x))) = (g.map fun x => min 9 (low + x)).map .int := by rw [List.map_map]; rfl
  rw [e]
  refine wo_of (sortS_ok (by rw [List.length_map]; omega)) ?_
  refine fnl_p (cb_li _ _) ?_
  have el : (C1 ++ Y).take (C ++ Y).length = C1 ++ Y := by
    rw [List.take_of_length_le (by rw [List.length_append, List.length_append, t1.len]; exact Nat.le_refl _)]
  rw [el]
  refine q _ C1 (cw_srt ?_ ?_ ?_) t1
  · intro z
    exact g1 (List.map_eq_nil_iff.mp z)
  · intro x hx
    obtain ⟨y, hy, rfl⟩ := List.mem_map.mp hx
    have := g3 y hy
    omega
  · rw [List.length_map]
    omega
theorem near_w (hB : Bg i C) (hl : 0 ≤ low) (q : ∀ xs C', Cw xs → To i C C' → Q (liD xs) C') : wR (m_law_near [.cell i, .int low] C) Q X := by
  have := near_y (Q := Q) (X := X) hB hl [] fun xs C' h t => by rw [List.append_nil]; exact q xs C' h t
  rw [List.append_nil] at this
  exact this
theorem any_y (hB : Bg i C) (Y : Store) (q : ∀ xs C', Cw xs → To i C C' → Q (liD xs) (C' ++ Y)) : wR (m_law_any [.cell i] (C ++ Y)) Q X := by
  rw [e_law_any]
  apply w_fin
  unfold b_law_any b_law_any_0
  walk_at "p"
  refine take_z hB (by decide) (by decide) Y fun r C1 r0 r1 t1 => ?_
  walk_at "p"
  unfold b_law_any_1
  walk_at "p"
  refine near_y t1.bg r0 Y fun xs C2 h t2 => ?_
  walk_at "p"
  refine fnl_p (cb_li _ _) ?_
  have el : (C2 ++ Y).take (C ++ Y).length = C2 ++ Y := by
    rw [List.take_of_length_le (by rw [List.length_append, List.length_append, t2.len, t1.len]; exact Nat.le_refl _)]
  rw [el]
  exact q xs C2 h (t1.trans t2)
theorem any_w (hB : Bg i C) (q : ∀ xs C', Cw xs → To i C C' → Q (liD xs) C') : wR (m_law_any [.cell i] C) Q X := by
  have := any_y (Q := Q) (X := X) hB [] fun xs C' h t => by rw [List.append_nil]; exact q xs C' h t
  rw [List.append_nil] at this
  exact this
theorem sok1 (h : Cw xs) (g : Cw ys) (f : Cw zs) (hx : 0 ≤ x ∧ x ≤ 6) : SOk ⟨[xs], 0, [ys], 0, [zs], 0, [[x]]⟩ := ⟨ce1 h, ce1 g, ce1 f, ow1 hx, rfl, rfl⟩
theorem sok2 {x1 x2 x3 x4 x5 x6 : List Int} (h1 : Cw x1) (h2 : Cw x2) (hn : 0 ≤ n ∧ n ≤ 6) (h3 : Cw x3) (h4 : Cw x4) (hm : 0 ≤ m ∧ m ≤ 6) (h5 : Cw x5) (h6 : Cw x6) (hk : 0 ≤ k ∧ k ≤ 6) (ha : 0 ≤ a ∧ a ≤ 6) (hb : 0 ≤ b ∧ b ≤ 6) (hc : 0 ≤ c ∧ c ≤ 6) (hd : 0 ≤ d ∧ d ≤ 6) :
    SOk ⟨[x1, x2], n, [x3, x4], m, [x5, x6], k, [[a, b], [c, d]]⟩ := ⟨ce2 h1 h2 hn, ce2 h3 h4 hm, ce2 h5 h6 hk, ow2 ha hb hc hd, rfl, rfl⟩
theorem cb_plan (s : Sp4) : cb 0 (planD s) = true := by
  show (cb 0 (celD s.hw s.hn) && (cb 0 (celD s.cw s.cn) && (cb 0 (celD s.tw s.tn) && (cbL 0 (s.rows.map liD) && true)))) = true
  rw [cb_cel, cb_cel, cb_cel, cb_lis]
  rfl
theorem fin_plan {C' : Store} {D' : D} {s : Sp4} {t : To i C C'} (q : ∀ s C', SOk s → To i C C' → Q (planD s) C') (h : SOk s) (e : D' = planD s) : fnl C.length Q X (.rt D' C') := by
  subst e
  refine fnl_p (cb_plan s) ?_
  rw [t.tk]
  exact q s C' h t
end
/-! LZA: the law's plans (k62). -/
section
variable {C : Store} {Q : D → Store → Prop} {X : Exc → Store → Prop} {i : Nat}
theorem plan_w (hB : Bg i C) (q : ∀ s C', SOk s → To i C C' → Q (planD s) C') : wR (m_law_plan [.cell i] C) Q X := by
  rw [e_law_plan]
  apply w_fin
  unfold b_law_plan b_law_plan_0
  walk_at "p"
  refine take_w hB (by decide) (by decide) fun road C1 r0 r1 t1 => ?_
  walk_at "p"
  unfold b_law_plan_1
  walk_at "p"
  refine wI_d (fun _ => ?_) fun h6 => ?_
  · unfold b_law_plan_1t_0
    walk_at "p"
    refine take_w t1.bg (by decide) (by decide) fun a C2 a0 a1 t2 => ?_
    walk_at "p"
    refine take_w t2.bg (by decide) (by decide) fun b C3 b0 b1 t3 => ?_
    walk_at "p"
    refine ⟨_, rfl, ?_⟩
    walk_at "p"
    unfold b_law_plan_1t_1
    walk_at "p"
    unfold b_law_plan_1t_2
    walk_at "p"
    refine wo_mul (by unfold cMul; rw [decide_eq_true (by omega), decide_eq_true (by omega)]; rfl) ?_
    walk_at "p"
    refine fin_plan (t := (t1.trans t2).trans t3) q (sok2 (x1 := [5]) (x2 := [5]) (n := 6) (x3 := [4 + a, min 9 (2 * b + (4 + a) + 1)]) (x4 := [b]) (m := 6) (x5 := [5]) (x6 := [5]) (k := 6) (a := 6) (b := 6) (c := 6) (d := 6) (cw_1 (by decide)) (cw_1 (by decide)) (by decide) ⟨by simp, fun y hy => ?_, by simp⟩ (cw_1 (by omega)) (by decide) (cw_1 (by decide)) (cw_1 (by decide)) (by decide) (by decide) (by decide) (by decide) (by decide)) rfl
    rcases List.mem_cons.mp hy with rfl | hy
    · omega
    · rw [List.mem_singleton.mp hy]
      omega
  walk_at "p"
  unfold b_law_plan_2
  walk_at "p"
  refine wI_d (fun _ => ?_) fun h0 => ?_
  · walk_at "p"
    refine any_w t1.bg fun xs C2 hx t2 => ?_
    walk_at "p"
    refine any_w t2.bg fun ys C3 hy t3 => ?_
    walk_at "p"
    refine any_w t3.bg fun zs C4 hz t4 => ?_
    walk_at "p"
    refine take_w t4.bg (by decide) (by decide) fun a C5 a0 a1 t5 => ?_
    walk_at "p"
    exact fin_plan (t := (((t1.trans t2).trans t3).trans t4).trans t5) q (sok1 hx hy hz (x := a) (by omega)) rfl
  walk_at "p"
  unfold b_law_plan_3
  walk_at "p"
  refine wI_d (fun _ => ?_) fun h1 => ?_
  · unfold b_law_plan_3t_0
    walk_at "p"
    refine take_w t1.bg (by decide) (by decide) fun a' C2 a0 a1 t2 => ?_
    walk_at "p"
    generalize ea : 1 + a' = a
    unfold b_law_plan_3t_1
    walk_at "p"
    refine take_w t2.bg (by omega) (by omega) fun b C3 b0 b1 t3 => ?_
    walk_at "p"
    unfold b_law_plan_3t_2
    walk_at "p"
    have cs : Cw (srtI [b, a - b]) := cw_srt (by simp) (fun y hy => by
      rcases List.mem_cons.mp hy with rfl | hy
      · omega
      · rw [List.mem_singleton.mp hy]
        omega) (by simp)
    refine wo_of (sortS_ok (xs := [b, a - b]) (by simp)) ?_
    walk_at "p"
    refine take_w t3.bg (by decide) (by decide) fun m C4 m0 m1 t4 => ?_
    have fin : ∀ es : List Int, Cw es → wS (b_law_plan_3t_3 ⟨C.length, [some (.cell i), some (.int road), none, none, some (liD es), some (.int a), some (.int b), none, none, none, none, none, none]⟩ C4) (CT.thn (sSeq b_law_plan_4 (sSeq b_law_plan_5 (sSeq b_law_plan_6 (sSeq b_law_plan_7 (sSeq b_law_plan_8 b_law_plan_9))))) C.length (fnl C.length Q X)) := fun es he => by
      unfold b_law_plan_3t_3
      walk_at "p"
      refine wo_of (sortS_ok (xs := [b, a - b]) (by simp)) ?_
      walk_at "p"
      refine take_w t4.bg (by omega) (by omega) fun g C5 g0 g1 t5 => ?_
      walk_at "p"
      exact fin_plan (t := (((t1.trans t2).trans t3).trans t4).trans t5) q (sok1 cs (cw_1 (x := a) (by omega)) he (x := a + g) (by omega)) rfl
    rcases (show m = 0 ∨ m = 1 ∨ m = 2 by omega) with rfl | rfl | rfl
    · refine wo_ix (k := 0) (xs := [liD [a - b], liD [b], liD (srtI [b, a - b])]) rfl rfl rfl ?_
      walk_at "p"
      exact fin _ (cw_1 (by omega))
    · refine wo_ix (k := 1) (xs := [liD [a - b], liD [b], liD (srtI [b, a - b])]) rfl rfl rfl ?_
      walk_at "p"
      exact fin _ (cw_1 (by omega))
    · refine wo_ix (k := 2) (xs := [liD [a - b], liD [b], liD (srtI [b, a - b])]) rfl rfl rfl ?_
      walk_at "p"
      exact fin _ cs
  walk_at "p"
  unfold b_law_plan_4
  walk_at "p"
  refine wI_d (fun _ => ?_) fun h2 => ?_
  · unfold b_law_plan_4t_0
    walk_at "p"
    refine take_w t1.bg (by decide) (by decide) fun b C2 b0 b1 t2 => ?_
    walk_at "p"
    unfold b_law_plan_4t_1
    walk_at "p"
    refine wo_mul (by unfold cMul; rw [decide_eq_true (by omega), decide_eq_true (by omega)]; rfl) ?_
    walk_at "p"
    refine near_w t2.bg (by omega) fun xs C3 hx t3 => ?_
    walk_at "p"
    refine take_w t3.bg (by decide) (by decide) fun g C4 g0 g1 t4 => ?_
    walk_at "p"
    exact fin_plan (t := ((t1.trans t2).trans t3).trans t4) q (sok1 (cw_1 (x := b) (by omega)) hx (cw_1 (x := b) (by omega)) (x := 3 + g) (by omega)) rfl
  walk_at "p"
  unfold b_law_plan_5
  walk_at "p"
  refine wI_d (fun _ => ?_) fun h3 => ?_
  · unfold b_law_plan_5t_0
    walk_at "p"
    refine take_w t1.bg (by decide) (by decide) fun b C2 b0 b1 t2 => ?_
    walk_at "p"
    refine ⟨_, rfl, ?_⟩
    walk_at "p"
    unfold b_law_plan_5t_1
    walk_at "p"
    unfold b_law_plan_5t_2
    walk_at "p"
    refine near_w t2.bg (by omega) fun xs C3 hx t3 => ?_
    walk_at "p"
    refine near_w t3.bg (by omega) fun ys C4 hy t4 => ?_
    walk_at "p"
    exact fin_plan (t := ((t1.trans t2).trans t3).trans t4) q (sok2 (cw_1 (x := 1 + b) (by omega)) (cw_1 (x := 1 + b) (by omega)) (n := 6) (by decide) hx hy (m := 6) (by decide) (cw_1 (x := 1 + b) (by omega)) (cw_1 (x := 1 + b) (by omega)) (k := 6) (by decide) (a := 6) (b := 6) (c := 6) (d := 6) (by decide) (by decide) (by decide) (by decide)) rfl
  walk_at "p"
  unfold b_law_plan_6
  walk_at "p"
  refine wI_d (fun _ => ?_) fun h4 => ?_
  · unfold b_law_plan_6t_0
    walk_at "p"
    refine take_w t1.bg (by decide) (by decide) fun b C2 b0 b1 t2 => ?_
    walk_at "p"
    unfold b_law_plan_6t_1
    walk_at "p"
    refine near_w t2.bg (by omega) fun xs C3 hx t3 => ?_
    walk_at "p"
    refine near_w t3.bg (by omega) fun ys C4 hy t4 => ?_
    walk_at "p"
    refine ⟨_, rfl, ?_⟩
    walk_at "p"
    unfold b_law_plan_6t_2
    walk_at "p"
    refine take_w t4.bg (by decide) (by decide) fun g1 C5 g10 g11 t5 => ?_
    walk_at "p"
    refine take_w t5.bg (by decide) (by decide) fun g2 C6 g20 g21 t6 => ?_
    walk_at "p"
    refine take_w t6.bg (by decide) (by decide) fun g3 C7 g30 g31 t7 => ?_
    walk_at "p"
    refine take_w t7.bg (by decide) (by decide) fun g4 C8 g40 g41 t8 => ?_
    walk_at "p"
    unfold b_law_plan_6t_3
    walk_at "p"
    refine take_w t8.bg (by decide) (by decide) fun g5 C9 g50 g51 t9 => ?_
    walk_at "p"
    refine take_w t9.bg (by decide) (by decide) fun g6 C10 g60 g61 t10 => ?_
    walk_at "p"
    exact fin_plan (t := ((((((((t1.trans t2).trans t3).trans t4).trans t5).trans t6).trans t7).trans t8).trans t9).trans t10) q (sok2 (cw_1 (x := b) (by omega)) (cw_1 (x := b) (by omega)) (n := g5) (by omega) hx hy (m := g6) (by omega) hx (cw_1 (x := b) (by omega)) (k := 2) (by decide) (a := g1) (b := g2) (c := g3) (d := g4) (by omega) (by omega) (by omega) (by omega)) rfl
  walk_at "p"
  unfold b_law_plan_7
  walk_at "p"
  refine take_w t1.bg (by decide) (by decide) fun g1 C2 g10 g11 t2 => ?_
  walk_at "p"
  refine take_w t2.bg (by decide) (by decide) fun g2 C3 g20 g21 t3 => ?_
  walk_at "p"
  refine take_w t3.bg (by decide) (by decide) fun g3 C4 g30 g31 t4 => ?_
  walk_at "p"
  refine take_w t4.bg (by decide) (by decide) fun g4 C5 g40 g41 t5 => ?_
  walk_at "p"
  unfold b_law_plan_8
  walk_at "p"
  refine ⟨inR_of (by decide) (by decide), ?_⟩
  refine lc_d (pureR0 3) (fun C' => To i C5 C') (fun _ d => ∃ xs ys n, Cw xs ∧ Cw ys ∧ 0 ≤ n ∧ n ≤ 6 ∧ d = celD [xs, ys] n) (by simp) (To.refl t5.bg) (fun x d n _ hd => by obtain ⟨_, _, _, _, _, _, _, rfl⟩ := hd; exact cb_cel _) (fun x hx => ⟨_, rfl, fun C6 acc t6 l6 => ?_⟩) fun ds C6 hdl hr t6 hl6 => ?_
  · walk_at "p"
    refine any_y t6.bg [some (.lst acc)] fun xs C7 hx t7 => ?_
    walk_at "p"
    refine any_y t7.bg [some (.lst acc)] fun ys C8 hy t8 => ?_
    walk_at "p"
    refine take_z t8.bg (by decide) (by decide) [some (.lst acc)] fun g C9 g0 g1 t9 => ?_
    walk_at "p"
    exact ⟨C9, rfl, ((t6.trans t7).trans t8).trans t9, by rw [t9.len, t8.len, t7.len, l6], xs, ys, g, hx, hy, by omega, by omega, rfl⟩
  have l3 : ds.length = 3 := by simpa using hdl
  have at_ : ∀ k, k < 3 → ∃ xs ys n, Cw xs ∧ Cw ys ∧ 0 ≤ n ∧ n ≤ 6 ∧ ds[k]? = some (celD [xs, ys] n) := fun k hk => by
    have e1 : ((List.range 3).map fun k : Nat => D.int (k : Int))[k]? = some (.int k) := by rw [List.getElem?_map, List.getElem?_range hk]; rfl
    obtain ⟨xs, ys, n, a, b, c, d, e⟩ := hr k _ _ e1 (List.getElem?_eq_getElem (by omega))
    exact ⟨xs, ys, n, a, b, c, d, by rw [List.getElem?_eq_getElem (by omega), e]⟩
  obtain ⟨x1, y1, n1, a1, b1, c1, d1, e1⟩ := at_ 0 (by decide)
  obtain ⟨x2, y2, n2, a2, b2, c2, d2, e2⟩ := at_ 1 (by decide)
  obtain ⟨x3, y3, n3, a3, b3, c3, d3, e3⟩ := at_ 2 (by decide)
  walk_at "p"
  unfold b_law_plan_9
  walk_at "p"
  refine wo_ix (k := 0) (xs := ds) rfl rfl e1 ?_
  walk_at "p"
  refine wo_ix (k := 1) (xs := ds) rfl rfl e2 ?_
  walk_at "p"
  refine wo_ix (k := 2) (xs := ds) rfl rfl e3 ?_
  walk_at "p"
  exact fin_plan (t := ((((t1.trans t2).trans t3).trans t4).trans t5).trans t6) q (sok2 a1 b1 (n := n1) ⟨c1, d1⟩ a2 b2 (m := n2) ⟨c2, d2⟩ a3 b3 (k := n3) ⟨c3, d3⟩ (a := g1) (b := g2) (c := g3) (d := g4) (by omega) (by omega) (by omega) (by omega)) rfl
end
/-! LZB: the law k62. -/
section
variable {C : Store} {Q : D → Store → Prop} {X : Exc → Store → Prop} {s : Sp4} {W : Nat} {rows : List (List Int)}
theorem trn_trn (h : Ow W rows) : trn (trn rows W) W = rows := by
  have hl := h.len
  unfold trn
  apply List.ext_getElem?
  intro i
  rw [List.getElem?_map]
  by_cases hi : i < W
  · rw [List.getElem?_range hi, Option.map_some, List.map_map, List.getElem?_eq_getElem (by omega)]
    have lr := h.row rows[i] (List.getElem_mem _)
    congr 1
    apply List.ext_getElem?
    intro j
    rw [List.getElem?_map]
    by_cases hj : j < W
    · rw [List.getElem?_range hj, List.getElem?_eq_getElem (by omega)]
      simp only [Option.map_some, Function.comp, List.getD_eq_getElem?_getD, List.getElem?_map, List.getElem?_eq_getElem (show i < rows.length by omega), Option.map_some, Option.getD_some, List.getElem?_eq_getElem (show j < rows[i].length by omega)]
    · rw [List.getElem?_eq_none (by simp; omega), List.getElem?_eq_none (by omega)]
      rfl
  · rw [List.getElem?_eq_none (by simp; omega), List.getElem?_eq_none (by omega)]
    rfl
theorem mir_mir (h : SOk s) : mirS (mirS s) = s := by
  have e : trn (trn s.rows s.hw.length) s.tw.length = s.rows := by rw [h.lt]; exact trn_trn h.o
  show (⟨s.hw, s.hn, s.cw, s.cn, s.tw, s.tn, trn (trn s.rows s.hw.length) s.tw.length⟩ : Sp4) = s
  rw [e]
noncomputable abbrev lawB : MS := sSeq b_law_1b_0 (sSeq b_law_1b_1 (sSeq b_law_1b_2 (sSeq b_law_1b_3 (sSeq b_law_1b_4 (sSeq b_law_1b_5 (sSeq b_law_1b_6 (sSeq b_law_1b_7 b_law_1b_8)))))))
theorem turn62 {fl : Nat} {P : RS → Prop} {S : Store} {z0 z2 z3 z4 z5 z6 z7 z8 z9 : Option D} (hB : Bg 0 S) (q : ∀ S' sl, Bg 0 S' → (∃ z3 z4 z5 z6 z7 z8 z9, sl = [z0, some (.cell 0), z2, z3, z4, z5, z6, z7, z8, z9]) → P (.nx sl S')) :
    wS (lawB ⟨fl, [z0, some (.cell 0), z2, z3, z4, z5, z6, z7, z8, z9]⟩ S) P := by
  unfold lawB
  walk_at "w"
  unfold b_law_1b_0
  walk_at "p"
  refine plan_w hB fun s C1 h t1 => ?_
  have hl := h.h.len
  have ow := h.o
  have hm := mir_ok h
  have hml : (mirS s).hw.length = s.hw.length := h.lt
  walk_at "p"
  unfold b_law_1b_1
  walk_at "p"
  refine law_strip_w h ?_
  walk_at "p"
  refine plan_ix (k := 0) rfl ?_
  walk_at "p"
  refine cel_w _ _ ?_
  walk_at "p"
  refine wo_len (xs := s.hw.map liD) rfl ?_
  rw [List.length_map]
  walk_at "p"
  refine ⟨_, rfl, ?_⟩
  walk_at "p"
  unfold b_law_1b_2
  walk_at "p"
  refine take_w t1.bg (by decide) (by decide) fun g C2 g0 g1 t2 => ?_
  walk_at "p"
  have wp : 0 < (s.hw.length : Int) := by omega
  refine wo_div wp (by omega) ?_
  walk_at "p"
  refine wo_div wp (by omega) ?_
  walk_at "p"
  obtain ⟨c4, c5, e4, e5, h4, h5⟩ : ∃ c4 c5 : Nat, (60 : Int) / (s.hw.length : Int) - 2 = c4 ∧ (60 : Int) / (s.hw.length : Int) - 1 = c5 ∧ c4 ≤ 59 ∧ c5 ≤ 59 := by
    rcases hl with e | e <;> rw [e]
    · exact ⟨58, 59, rfl, rfl, by decide, by decide⟩
    · exact ⟨28, 29, rfl, rfl, by decide, by decide⟩
  rw [e4, e5]
  unfold b_law_1b_3
  walk_at "p"
  refine loopM (l := [0, 1, 2, g.toNat, c4, c5]) (enc := fun k : Nat => .int (k : Int)) (by
    have := pure_C [D.int 0, .int 1, .int 2, .int g, .int c4, .int c5]
    have e : ([0, 1, 2, g.toNat, c4, c5].map fun k : Nat => D.int (k : Int)) = [D.int 0, .int 1, .int 2, .int g, .int c4, .int c5] := by
      have : ((g.toNat : Nat) : Int) = g := by omega
      simp [this]
    rw [e]
    exact this) (fun j sl S => S = C2 ∧ ∃ z7, sl = [z0, some (.cell 0), z2, some (planD s), some (stripD s), some (.int s.hw.length), some (.lst [.int 0, .int 1, .int 2, .int g, .int c4, .int c5]), z7, z8, z9]) ⟨rfl, _, rfl⟩ ?_ ?_
  · rintro j k sl S hj ⟨rfl, z7, rfl⟩
    have hk : k ≤ 59 := by
      have hm := List.mem_of_getElem? hj
      simp only [List.mem_cons, List.not_mem_nil, or_false] at hm
      omega
    refine ⟨_, rfl, ?_⟩
    unfold b_law_1b_3b_0
    walk_at "p"
    refine is_laid_w h hk ?_
    refine ⟨_, rfl, wI_f ?_⟩
    walk_at "p"
    refine is_laid_w h hk ?_
    refine ⟨_, rfl, wI_f ?_⟩
    walk_at "p"
    exact ⟨rfl, _, rfl⟩
  rintro sl S ⟨rfl, z7, rfl⟩
  walk_at "p"
  unfold b_law_1b_4
  walk_at "p"
  refine law_big_w h (by omega) (by decide) (by decide) ?_
  walk_at "p"
  refine wo_of (eq_many true _) ?_
  refine ⟨_, rfl, wI_f ?_⟩
  walk_at "p"
  refine law_big_w h (by omega) (by decide) (by decide) ?_
  walk_at "p"
  refine wo_of (eq_many true _) ?_
  refine ⟨_, rfl, wI_f ?_⟩
  walk_at "p"
  unfold b_law_1b_5
  walk_at "p"
  refine ⟨_, rfl, ?_⟩
  walk_at "p"
  refine mirrored_w h ?_
  walk_at "p"
  refine law_turned_w h ?_
  walk_at "p"
  refine ⟨_, rfl, ?_⟩
  walk_at "p"
  unfold b_law_1b_6
  walk_at "p"
  refine ⟨_, rfl, _, rfl, wI_f ?_⟩
  walk_at "p"
  refine wo_fld (d := .int (mirS s).hw.length) rfl ?_
  walk_at "p"
  refine wI_dt (by rw [hml]) ?_
  walk_at "p"
  refine w_eqO ?_
  walk_at "p"
  refine law_strip_w hm ?_
  refine ⟨rfl, strip_eq_w hm.o ⟨true, rfl, ?_⟩⟩
  walk_at "p"
  refine wo_of (show oIsB true (.bl true) (.bl true) _ = some (.bl false, _) from rfl) ?_
  refine ⟨_, rfl, wI_f ?_⟩
  walk_at "p"
  unfold b_law_1b_7
  walk_at "p"
  refine loopM (l := [0, 1, 3]) (enc := fun k : Nat => .int (k : Int)) (pure_C _) (fun j sl S' => S' = S ∧ ∃ z7, sl = [z0, some (.cell 0), z2, some (planD s), some (stripD s), some (.int s.hw.length), some (.lst [.int 0, .int 1, .int 2, .int g, .int c4, .int c5]), z7, some (stripD (mirS s)), some (planD (mirS s))]) ⟨rfl, _, rfl⟩ ?_ ?_
  · rintro j k sl S' hj ⟨rfl, z7, rfl⟩
    have hk : k ≤ 59 := by
      have hm := List.mem_of_getElem? hj
      simp only [List.mem_cons, List.not_mem_nil, or_false] at hm
      omega
    refine ⟨_, rfl, ?_⟩
    unfold b_law_1b_7b_0
    walk_at "p"
    refine is_laid_w hm hk ?_
    refine ⟨_, rfl, wI_f ?_⟩
    walk_at "p"
    exact ⟨rfl, _, rfl⟩
  rintro sl S' ⟨rfl, z7, rfl⟩
  walk_at "p"
  unfold b_law_1b_8
  walk_at "p"
  refine w_eqO ?_
  walk_at "p"
  refine ⟨_, rfl, ?_⟩
  walk_at "p"
  refine mirrored_w hm ?_
  rw [mir_mir h]
  walk_at "p"
  refine ⟨rfl, strip_eq_w h.o ⟨true, rfl, ?_⟩⟩
  walk_at "p"
  refine wo_of (show oIsB true (.bl true) (.bl true) _ = some (.bl false, _) from rfl) ?_
  refine ⟨_, rfl, wI_f ?_⟩
  walk_at "p"
  refine is_laid_w (c := 3) h (by decide) ?_
  refine ⟨_, rfl, wI_f ?_⟩
  walk_at "p"
  exact q _ _ t2.bg ⟨_, _, _, _, _, _, _, rfl⟩
theorem law_true (ns : List Int) (hl : ns.length ≤ 63) : ∃ C, m_law [scrD ns] [] = .ok (.bl true) C := by
  obtain ⟨cs, hcs, eb⟩ := bag_ok ns hl
  have hB : Bg 0 [some (bagC 0 1234567891 0 cs)] := ⟨cs, hcs, 0, 1234567891, 0, rfl, by decide, by decide, by decide, by decide⟩
  refine ⟨[], w_eqv ?_⟩
  rw [e_law]
  apply w_fin
  unfold b_law b_law_0
  walk_at "p"
  refine w_of eb ?_
  walk_at "p"
  unfold b_law_1
  walk_at "p"
  refine ⟨inR_of (by decide) (by decide), ?_⟩
  refine loopM (l := List.range 2) (enc := fun k : Nat => .int (k : Int)) (pureR0 2) (fun j sl S => Bg 0 S ∧ ∃ z2 z3 z4 z5 z6 z7 z8 z9, sl = [some (scrD ns), some (.cell 0), z2, z3, z4, z5, z6, z7, z8, z9]) ⟨hB, _, _, _, _, _, _, _, _, rfl⟩ ?_ ?_
  · rintro j k sl S _ ⟨hB, z2, z3, z4, z5, z6, z7, z8, z9, rfl⟩
    refine ⟨_, rfl, ?_⟩
    refine turn62 hB fun C' sl b h => ?_
    obtain ⟨z3, z4, z5, z6, z7, z8, z9, rfl⟩ := h
    exact lp_nx ⟨b, _, _, _, _, _, _, _, _, rfl⟩
  · rintro sl S ⟨hB, z2, z3, z4, z5, z6, z7, z8, z9, rfl⟩
    walk_at "p"
    unfold b_law_2
    walk_at "p"
    exact ⟨rfl, rfl⟩
end
end CL
theorem PySem.Challenge.cw_contentties_k62_strip_laid_out_holds : PySem.Challenge.rw_contentties_k62_strip_laid_out.Holds :=
  CL.holds_of fun ns hl => CL.law_true ns hl
