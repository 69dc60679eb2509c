import PyProof.Rows.All
import Wide.All
import OpenK.AllK
import Wide.FinOn
import HandS.ForMost
import KE.KDictDisplayH
import HandS.Lambda
import HandS.Walk
import HandS.Exc
import HandS.ExcInit
import HandS.IsInst
import HandS.Deep
import HandS.TupAny
import HandS.Replace
import KE.SortData
import KE.KDictSum
import HandS.Conv
import HandS.Small
import HandS.Dict
import KE.KDictPairs
import HandS.Words
import HandS.WordsExc
import HandS.ClsMeth
import HandS.ExcIs
import HandS.ExcField
import KE.DataFind
import HandS.Style
import KE.DataCmp
import HandS.TupSets
import HandS.TupMul
import HandS.EndOwn
import KE.KNestM
import PySem.Challenge.RW_hivekeys_k08_fewest_by_trying_all
set_option Elab.async false
set_option linter.all false
set_option maxRecDepth 100000
set_option maxHeartbeats 4000000
/-! G3: a small evaluator over data and ids, and its soundness over the hand layer: each def becomes a Lean function. -/
namespace G3
open PySem PySem.Spec PyProof.Rows L2

/-- data: what cannot change, and the ids of what can -/
inductive D where
  | non | bl (b : Bool) | int (i : Int) | str (x : Str) | tup (l : List D) | lst (l : List D) | scr (l : List D) | ref (n : Nat) | adr (a : Addr) (vs : List V) (l : List D) | exn (k : Int)
instance : Inhabited D := ⟨.non⟩
/-- what can change -/
inductive MO where
  | lst (l : List D) | dic (kvs : List (D × D)) | lok (kvs : List (D × D)) | ins (c : Nat) (fs : List (Str × D)) | nst (ks : List D) | tab (q : Str)
structure S3 where
  next : Nat
  ob : Nat → Option MO
def S3.set (S : S3) (n : Nat) (o : MO) : S3 := ⟨S.next, fun m => if m = n then some o else S.ob m⟩
def S3.del (S : S3) (n : Nat) : S3 := ⟨S.next, fun m => if m = n then none else S.ob m⟩
def S3.new (S : S3) (o : MO) : S3 := ⟨S.next + 1, fun m => if m = S.next then some o else S.ob m⟩
/-- the written part, the classes' addresses -/
structure G where
  K : PySem.W.Frag
  cm : Nat → Addr
  hs : NestedKey → Int
  bt : Addr
  tp : Addr
/-- where our objects stand; what is hidden: held by somebody ahead, not to be touched or leant on -/
structure Loc where
  ad : Nat → Addr
  hid : Addr → Prop
def Live (S : S3) (loc : Loc) (p : Addr) : Prop := (∃ n o, S.ob n = some o ∧ loc.ad n = p) ∨ loc.hid p
/-- a list, a tuple of the written part -/
def KL (K : PySem.W.Frag) (T : String) (p : Addr) (xs : List V) : Prop :=
  ∃ (o : Obj) (its : Array Value) (n : Nat), K.lookup p = some o ∧ o.cls = .type T ∧ (T = "list" → o.dict = none) ∧ o.data = .seq its n ∧ its.size ≤ sizeLine ∧ Vals xs its.toList

mutual
inductive Rep (g : G) (S : S3) (loc : Loc) (H : Hp) : D → V → Prop
  | non : Rep g S loc H .non .non
  | bl (b : Bool) : Rep g S loc H (.bl b) (.bl b)
  | int (i : Int) : Rep g S loc H (.int i) (.int i)
  | str (x : Str) : Rep g S loc H (.str x) (.str x)
  | tup {l : List D} {p : Addr} {xs : List V} : H p = some (.tup xs) → Reps g S loc H l xs → Rep g S loc H (.tup l) (.ref p)
  | lst {l : List D} {p : Addr} {xs : List V} : H p = some (.lst xs) → ¬ Live S loc p → Reps g S loc H l xs → Rep g S loc H (.lst l) (.ref p)
  | scr {l : List D} {p : Addr} {xs : List V} : Rd H p (.lst xs) → ¬ Live S loc p → Reps g S loc H l xs → Rep g S loc H (.scr l) (.ref p)
  | kscr {l : List D} {p : Addr} {xs : List V} : KL g.K "list" p xs → Reps g S loc H l xs → Rep g S loc H (.scr l) (.ref p)
  | ref {n : Nat} : n < S.next → Rep g S loc H (.ref n) (.ref (loc.ad n))
  | adr (a : Addr) {vs : List V} {l : List D} : Reps g S loc H l vs → Rep g S loc H (.adr a vs l) (.ref a)
  | exn {k : Int} {p : Addr} {fs : List (Str × V)} : H p = some (.xd fs) → fs.lookup ("number" : Str) = some (V.int k) → ¬ Live S loc p → Rep g S loc H (.exn k) (.ref p)
inductive Reps (g : G) (S : S3) (loc : Loc) (H : Hp) : List D → List V → Prop
  | nil : Reps g S loc H [] []
  | cons {d : D} {v : V} {l : List D} {xs : List V} : Rep g S loc H d v → Reps g S loc H l xs → Reps g S loc H (d :: l) (v :: xs)
end

def keyD : Key → D
  | .inl i => .int i
  | .inr x => .str x
def tkD (k : List Key) : D := .tup (k.map keyD)
/-! data as a key of a dict of keys of any depth -/
mutual
def nkOf : D → Option NestedKey
  | .int i => some (.num i)
  | .str x => some (.text x)
  | .tup l => (nksOf l).map .tup
  | _ => none
def nksOf : List D → Option (List NestedKey)
  | [] => some []
  | d :: l => (nkOf d).bind fun k => (nksOf l).map fun ks => k :: ks
end
/-- a dict's object, by its entries -/
abbrev rawD (p : Addr) (es : List DictEntry) : HO := .ext fun h => ∃ o ep, h.get? p = some o ∧ o.ExactDict ∧ o.data = .dict es.toArray ep
abbrev NEs (g : G) (S : S3) (loc : Loc) (H : Hp) : List D → List DictEntry → Prop := Paired fun d e => ∃ b k, e.key = .ref b ∧ (nkOf d = some k ∧ k.depth ≤ 8) ∧ e.hash = g.hs k ∧ Rep g S loc H d (.ref b)
abbrev KVs (g : G) (S : S3) (loc : Loc) (H : Hp) {κ : Type} (f : κ → D) : List (D × D) → List (κ × V) → Prop := Paired fun p q => p.1 = f q.1 ∧ Rep g S loc H p.2 q.2
abbrev FSs (g : G) (S : S3) (loc : Loc) (H : Hp) : List (Str × D) → List (Str × V) → Prop := Paired fun p q => p.1 = q.1 ∧ Rep g S loc H p.2 q.2
def RepO (g : G) (S : S3) (loc : Loc) (H : Hp) (p : Addr) : MO → Prop
  | .lst l => ∃ xs, H p = some (.lst xs) ∧ Reps g S loc H l xs
  | .dic kvs => ∃ ys, H p = some (.dT ys) ∧ KVs g S loc H tkD kvs ys
  | .lok kvs => ∃ o ys, H p = some (.frz o (.dT ys)) ∧ KVs g S loc H tkD kvs ys
  | .ins c fs => ∃ dx gs, H p = some (.ins (g.cm c) dx gs) ∧ FSs g S loc H fs gs
  | .nst ks => ∃ es, H p = some (rawD p es) ∧ (p == sysModules) = false ∧ NEs g S loc H ks es ∧ ks.Nodup
  | .tab q => p = g.tp ∧ ∃ ps, H p = some (.tbl ps) ∧ TriplesOk ps.toList ∧ ∀ (pos : Pos) (cv : Value), codeAmong pos ps.toList = some cv → ∃ c, cv = .ref c ∧ H c = some (LamX.CodeO c q) ∧ ¬ Live S loc c
structure Abs (g : G) (S : S3) (loc : Loc) (H : Hp) : Prop where
  inj : ∀ m n a b, S.ob m = some a → S.ob n = some b → loc.ad m = loc.ad n → m = n
  fresh : ∀ n, S.next ≤ n → S.ob n = none
  ob : ∀ n o, S.ob n = some o → RepO g S loc H (loc.ad n) o
  hs : ∀ p, loc.hid p → (∃ o, H p = some o) ∧ ∀ xs, ¬ Rd H p (.tup xs)
  hd : ∀ n o, S.ob n = some o → ¬ loc.hid (loc.ad n)
structure Ext (S : S3) (loc : Loc) (H : Hp) (S' : S3) (loc' : Loc) (H' : Hp) : Prop where
  nx : S.next ≤ S'.next
  lc : ∀ n, n < S.next → loc'.ad n = loc.ad n
  keep : ∀ p o, H p = some o → ¬ Live S loc p → H' p = some o ∧ ¬ Live S' loc' p
  hk : ∀ p, loc.hid p → H' p = H p ∧ loc'.hid p
  lk : ∀ n kvs, S.ob n = some (.lok kvs) → S'.ob n = some (.lok kvs) ∧ H' (loc.ad n) = H (loc.ad n)
  la : ∀ n kvs, S.ob n = some (.lok kvs) → loc'.ad n = loc.ad n
theorem Ext.refl {S : S3} {loc : Loc} {H : Hp} : Ext S loc H S loc H := ⟨Nat.le_refl _, fun _ _ => rfl, fun _ _ h n => ⟨h, n⟩, fun _ h => ⟨rfl, h⟩, fun _ _ h => ⟨h, rfl⟩, fun _ _ _ => rfl⟩
theorem Ext.trans {S S1 S2 : S3} {loc loc1 loc2 : Loc} {H H1 H2 : Hp} (a : Ext S loc H S1 loc1 H1) (b : Ext S1 loc1 H1 S2 loc2 H2) : Ext S loc H S2 loc2 H2 :=
  ⟨Nat.le_trans a.nx b.nx, fun n h => (b.lc n (Nat.lt_of_lt_of_le h a.nx)).trans (a.lc n h), fun p o h n => let ⟨h1, n1⟩ := a.keep p o h n; b.keep p o h1 n1,
    fun p h => ⟨(b.hk p (a.hk p h).2).1.trans (a.hk p h).1, (b.hk p (a.hk p h).2).2⟩, fun n kvs h => ⟨(b.lk n kvs (a.lk n kvs h).1).1, by
      have q := (b.lk n kvs (a.lk n kvs h).1).2
      rw [a.la n kvs h] at q
      exact q.trans (a.lk n kvs h).2⟩, fun n kvs h => (b.la n kvs (a.lk n kvs h).1).trans (a.la n kvs h)⟩

theorem Abs.notup {g : G} {S : S3} {loc : Loc} {H : Hp} (A : Abs g S loc H) {p : Addr} {xs : List V} (h : Rd H p (.tup xs)) : ¬ Live S loc p := by
  rintro (⟨n, o, e, rfl⟩ | hh)
  · have q := A.ob n o e
    cases o with
    | lst l => obtain ⟨ys, e1, _⟩ := q; rcases h with h | ⟨u, h⟩ <;> (rw [h] at e1; cases e1)
    | dic l => obtain ⟨ys, e1, _⟩ := q; (rcases h with h | ⟨u, h⟩ <;> (rw [h] at e1; cases e1))
    | lok l => obtain ⟨z, q⟩ := q; obtain ⟨ys, e1, _⟩ := q; (rcases h with h | ⟨u, h⟩ <;> (rw [h] at e1; cases e1))
    | ins c l => obtain ⟨dx, gs, e1, _⟩ := q; rcases h with h | ⟨u, h⟩ <;> (rw [h] at e1; cases e1)
    | nst l => obtain ⟨es, e1, _⟩ := q; rcases h with h | ⟨u, h⟩ <;> (rw [h] at e1; cases e1)
    | tab l => obtain ⟨_, es, e1, _⟩ := q; rcases h with h | ⟨u, h⟩ <;> (rw [h] at e1; cases e1)
  · exact (A.hs p hh).2 xs h
theorem Ext.rd {S S' : S3} {loc loc' : Loc} {H H' : Hp} (x : Ext S loc H S' loc' H') {p : Addr} {u : HO} (h : Rd H p u) (n : ¬ Live S loc p) : Rd H' p u ∧ ¬ Live S' loc' p := by
  rcases h with h | ⟨o, h⟩
  · exact ⟨.inl (x.keep p _ h n).1, (x.keep p _ h n).2⟩
  · exact ⟨.inr ⟨o, (x.keep p _ h n).1⟩, (x.keep p _ h n).2⟩
section
variable {g : G} {S S' : S3} {loc loc' : Loc} {H H' : Hp}
mutual
theorem Rep.ext (A : Abs g S loc H) (x : Ext S loc H S' loc' H') : ∀ {d : D} {v : V}, Rep g S loc H d v → Rep g S' loc' H' d v
  | _, _, .non => .non
  | _, _, .bl b => .bl b
  | _, _, .int i => .int i
  | _, _, .str z => .str z
  | _, _, .tup h r => .tup (x.keep _ _ h (A.notup (.inl h))).1 (Reps.ext A x r)
  | _, _, .lst h n r => .lst (x.keep _ _ h n).1 (x.keep _ _ h n).2 (Reps.ext A x r)
  | _, _, .scr h n r => .scr (x.rd h n).1 (x.rd h n).2 (Reps.ext A x r)
  | _, _, .kscr h r => .kscr h (Reps.ext A x r)
  | _, _, .ref (n := n) h => by rw [← x.lc n h]; exact .ref (Nat.lt_of_lt_of_le h x.nx)
  | _, _, .adr a r => .adr a (Reps.ext A x r)
  | _, _, .exn h l n => .exn (x.keep _ _ h n).1 l (x.keep _ _ h n).2
theorem Reps.ext (A : Abs g S loc H) (x : Ext S loc H S' loc' H') : ∀ {l : List D} {vs : List V}, Reps g S loc H l vs → Reps g S' loc' H' l vs
  | _, _, .nil => .nil
  | _, _, .cons a b => .cons (Rep.ext A x a) (Reps.ext A x b)
end
theorem KVs.ext {κ : Type} {f : κ → D} (A : Abs g S loc H) (x : Ext S loc H S' loc' H') {kvs : List (D × D)} {ys : List (κ × V)} (r : KVs g S loc H f kvs ys) : KVs g S' loc' H' f kvs ys :=
  Paired.mapP r fun _ _ z => ⟨z.1, z.2.ext A x⟩
theorem FSs.ext (A : Abs g S loc H) (x : Ext S loc H S' loc' H') {fs : List (Str × D)} {ys : List (Str × V)} (r : FSs g S loc H fs ys) : FSs g S' loc' H' fs ys :=
  Paired.mapP r fun _ _ z => ⟨z.1, z.2.ext A x⟩
theorem NEs.ext (A : Abs g S loc H) (x : Ext S loc H S' loc' H') {ks : List D} {es : List DictEntry} (r : NEs g S loc H ks es) : NEs g S' loc' H' ks es :=
  Paired.mapP r fun _ _ ⟨b, k, z1, z2, z3, z4⟩ => ⟨b, k, z1, z2, z3, z4.ext A x⟩
theorem Reps.length : ∀ {l : List D} {vs : List V}, Reps g S loc H l vs → l.length = vs.length
  | _, _, .nil => rfl
  | _, _, .cons _ b => by rw [List.length_cons, List.length_cons, b.length]
theorem Reps.get : ∀ {l : List D} {vs : List V} {i : Nat} {d : D}, Reps g S loc H l vs → l[i]? = some d → ∃ v, vs[i]? = some v ∧ Rep g S loc H d v
  | _, _, _, _, .nil, e => by simp at e
  | _, _, 0, _, .cons a _, e => by simp at e; subst e; exact ⟨_, rfl, a⟩
  | _, _, i + 1, _, .cons _ b, e => by
    obtain ⟨v, h1, h2⟩ := Reps.get (i := i) b (by simpa using e)
    exact ⟨v, by simpa using h1, h2⟩
theorem Reps.get' : ∀ {l : List D} {vs : List V} {i : Nat} {v : V}, Reps g S loc H l vs → vs[i]? = some v → ∃ d, l[i]? = some d ∧ Rep g S loc H d v
  | _, _, _, _, .nil, e => by simp at e
  | _, _, 0, _, .cons a _, e => by simp at e; subst e; exact ⟨_, rfl, a⟩
  | _, _, i + 1, _, .cons _ b, e => by
    obtain ⟨v, h1, h2⟩ := Reps.get' (i := i) b (by simpa using e)
    exact ⟨v, by simpa using h1, h2⟩
theorem Reps.append : ∀ {l m : List D} {vs ws : List V}, Reps g S loc H l vs → Reps g S loc H m ws → Reps g S loc H (l ++ m) (vs ++ ws)
  | _, _, _, _, .nil, b => b
  | _, _, _, _, .cons a r, b => .cons a (Reps.append r b)
theorem Reps.one {d : D} {v : V} (h : Rep g S loc H d v) : Reps g S loc H [d] [v] := .cons h .nil
theorem Reps.take : ∀ {l : List D} {vs : List V} (n : Nat), Reps g S loc H l vs → Reps g S loc H (l.take n) (vs.take n)
  | _, _, 0, _ => .nil
  | _, _, _ + 1, .nil => .nil
  | _, _, n + 1, .cons a r => .cons a (Reps.take n r)
theorem Reps.drop : ∀ {l : List D} {vs : List V} (n : Nat), Reps g S loc H l vs → Reps g S loc H (l.drop n) (vs.drop n)
  | _, _, 0, r => r
  | _, _, _ + 1, .nil => .nil
  | _, _, n + 1, .cons _ r => Reps.drop n r
theorem Reps.set {d : D} {v : V} (h : Rep g S loc H d v) : ∀ {l : List D} {vs : List V} (n : Nat), Reps g S loc H l vs → Reps g S loc H (l.set n d) (vs.set n v)
  | _, _, _, .nil => .nil
  | _, _, 0, .cons _ r => .cons h r
  | _, _, n + 1, .cons a r => .cons a (Reps.set h n r)
theorem Reps.reverse {l : List D} {vs : List V} (r : Reps g S loc H l vs) : Reps g S loc H l.reverse vs.reverse := by
  induction l generalizing vs with
  | nil => cases r; exact .nil
  | cons d l ih => cases r with
    | cons a b => rw [List.reverse_cons, List.reverse_cons]; exact (ih b).append (.one a)
end

/-! ### the states of the abstract heap that a step may come to -/
section
variable {g : G} {S S' : S3} {loc loc' : Loc} {H H' : Hp}
/-- all objects anew -/
theorem RepO.ext (A : Abs g S loc H) (x : Ext S loc H S' loc' H') {p : Addr} {o : MO} (hp : H' p = H p) (r : RepO g S loc H p o) : RepO g S' loc' H' p o := by
  cases o with
  | lst l => obtain ⟨xs, e, q⟩ := r; exact ⟨xs, hp.trans e, q.ext A x⟩
  | dic l =>
    obtain ⟨ys, e, q⟩ := r
    exact ⟨ys, hp.trans e, KVs.ext A x q⟩
  | lok l =>
    obtain ⟨o, r⟩ := r
    obtain ⟨ys, e, q⟩ := r
    exact ⟨o, ys, hp.trans e, KVs.ext A x q⟩
  | ins c fs => obtain ⟨dx, gs, e, q⟩ := r; exact ⟨dx, gs, hp.trans e, FSs.ext A x q⟩
  | nst ks => obtain ⟨es, e, n, q, nd⟩ := r; exact ⟨es, hp.trans e, n, NEs.ext A x q, nd⟩
  | tab q => obtain ⟨e0, ps, e, t, w⟩ := r; exact ⟨e0, ps, hp.trans e, t, fun pos cv h => let ⟨c, e1, e2, e3⟩ := w pos cv h; ⟨c, e1, x.keep _ _ e2 e3⟩⟩
theorem RepO.some (r : RepO g S loc H p o) : ∃ u, H p = some u := by
  cases o with
  | lst l => obtain ⟨xs, e, q⟩ := r; exact ⟨_, e⟩
  | dic l => obtain ⟨ys, e, q⟩ := r; exact ⟨_, e⟩
  | lok l => obtain ⟨o, r⟩ := r; obtain ⟨ys, e, q⟩ := r; exact ⟨_, e⟩
  | ins c fs => obtain ⟨dx, gs, e, q⟩ := r; exact ⟨_, e⟩
  | nst ks => obtain ⟨es, e, _⟩ := r; exact ⟨_, e⟩
  | tab q => obtain ⟨_, es, e, _⟩ := r; exact ⟨_, e⟩
theorem Abs.live_some (A : Abs g S loc H) {p : Addr} (h : Live S loc p) : ∃ u, H p = some u := by
  rcases h with ⟨n, o, e, rfl⟩ | h
  · exact (A.ob n o e).some
  · exact (A.hs p h).1
theorem Abs.nolive (A : Abs g S loc H) {p : Addr} (hp : H p = none) : ¬ Live S loc p := fun h => by
  obtain ⟨u, e⟩ := A.live_some h
  rw [hp] at e; cases e
/-- what is new is tracked by H alone -/
theorem ext_same (A : Abs g S loc H) {p : Addr} {o : HO} (hp : H p = none) : Ext S loc H S loc (upd H p o) :=
  ⟨Nat.le_refl _, fun _ _ => rfl, fun q u h n => ⟨by rw [upd_ne (ne_of_none h hp)]; exact h, n⟩, fun q h => ⟨by obtain ⟨u, hu⟩ := (A.hs q h).1; rw [upd_ne (ne_of_none hu hp)], h⟩,
    fun m kvs h => ⟨h, by obtain ⟨u, hu⟩ := (A.ob m _ h).some; rw [upd_ne (ne_of_none hu hp)]⟩, fun _ _ _ => rfl⟩
theorem rd_upd {H : Hp} {p q : Addr} {o u : HO} (h : q ≠ p) (r : Rd (upd H p o) q u) : Rd H q u := by
  rcases r with r | ⟨z, r⟩
  · rw [upd_ne h] at r; exact .inl r
  · rw [upd_ne h] at r; exact .inr ⟨z, r⟩
theorem Abs.same (A : Abs g S loc H) {p : Addr} {o : HO} (hp : H p = none) : Abs g S loc (upd H p o) where
  inj := A.inj
  fresh := A.fresh
  ob := fun n u e => by
    obtain ⟨w, hw⟩ := (A.ob n u e).some
    exact (A.ob n u e).ext A (ext_same A hp) (upd_ne (ne_of_none hw hp))
  hs := fun q h => by
    obtain ⟨⟨u, hu⟩, nt⟩ := A.hs q h
    have ne := ne_of_none hu hp
    exact ⟨⟨u, by rw [upd_ne ne]; exact hu⟩, fun xs r => nt xs (rd_upd ne r)⟩
  hd := A.hd
def bind1 (loc : Loc) (n : Nat) (p : Addr) : Loc := ⟨fun m => if m = n then p else loc.ad m, loc.hid⟩
theorem bind1_self {n : Nat} {p : Addr} : (bind1 loc n p).ad n = p := by show (if n = n then _ else _) = _; rw [if_pos rfl]
theorem bind1_ne {m n : Nat} {p : Addr} (h : m ≠ n) : (bind1 loc n p).ad m = loc.ad m := by show (if m = n then _ else _) = _; rw [if_neg h]
theorem new_self {o : MO} : (S.new o).ob S.next = some o := by show (if S.next = S.next then _ else _) = _; rw [if_pos rfl]
theorem new_ne {o : MO} {n : Nat} (h : n ≠ S.next) : (S.new o).ob n = S.ob n := by show (if n = S.next then _ else _) = _; rw [if_neg h]
theorem set_self {o : MO} {n : Nat} : (S.set n o).ob n = some o := by show (if n = n then _ else _) = _; rw [if_pos rfl]
theorem set_ne {o : MO} {n m : Nat} (h : m ≠ n) : (S.set n o).ob m = S.ob m := by show (if m = n then _ else _) = _; rw [if_neg h]
theorem del_self {n : Nat} : (S.del n).ob n = none := by show (if n = n then _ else _) = _; rw [if_pos rfl]
theorem del_ne {n m : Nat} (h : m ≠ n) : (S.del n).ob m = S.ob m := by show (if m = n then _ else _) = _; rw [if_neg h]
theorem del_some {n m : Nat} {o : MO} (h : (S.del n).ob m = some o) : m ≠ n ∧ S.ob m = some o := by
  by_cases e : m = n
  · subst e; rw [del_self] at h; cases h
  · exact ⟨e, by rw [del_ne e] at h; exact h⟩
/-- a new object of ours at p -/
theorem ext_new (A : Abs g S loc H) {p : Addr} {u : HO} {o : MO} (hp : H p = none) : Ext S loc H (S.new o) (bind1 loc S.next p) (upd H p u) := by
  have nn : ∀ m a, S.ob m = some a → m ≠ S.next := fun m a e z => by rw [z, A.fresh _ (Nat.le_refl _)] at e; cases e
  refine ⟨Nat.le_succ _, fun n h => bind1_ne (Nat.ne_of_lt h), fun q v h n => ⟨by rw [upd_ne (ne_of_none h hp)]; exact h, ?_⟩, fun q h => ⟨by obtain ⟨u, hu⟩ := (A.hs q h).1; rw [upd_ne (ne_of_none hu hp)], h⟩,
    fun m kvs h => ⟨by rw [new_ne (nn m _ h)]; exact h, by obtain ⟨u, hu⟩ := (A.ob m _ h).some; rw [upd_ne (ne_of_none hu hp)]⟩, fun m kvs h => bind1_ne (nn m _ h)⟩
  rintro (⟨m, w, e, rfl⟩ | hh)
  · by_cases hm : m = S.next
    · subst hm; rw [bind1_self] at h; rw [h] at hp; cases hp
    · rw [bind1_ne hm] at n h
      rw [new_ne hm] at e
      exact n (.inl ⟨m, w, e, rfl⟩)
  · exact n (.inr hh)
theorem Abs.new (A : Abs g S loc H) {p : Addr} {u : HO} {o : MO} (hp : H p = none) (r : RepO g (S.new o) (bind1 loc S.next p) (upd H p u) p o) : Abs g (S.new o) (bind1 loc S.next p) (upd H p u) where
  inj := fun m n a b e1 e2 e => by
    by_cases hm : m = S.next
    · by_cases hn : n = S.next
      · rw [hm, hn]
      · rw [new_ne hn] at e2
        subst hm
        rw [bind1_self, bind1_ne hn] at e
        exact absurd (.inl ⟨n, b, e2, e.symm⟩) (A.nolive hp)
    · by_cases hn : n = S.next
      · rw [new_ne hm] at e1
        subst hn
        rw [bind1_self, bind1_ne hm] at e
        exact absurd (.inl ⟨m, a, e1, e⟩) (A.nolive hp)
      · rw [new_ne hm] at e1
        rw [new_ne hn] at e2
        rw [bind1_ne hm, bind1_ne hn] at e
        exact A.inj m n a b e1 e2 e
  fresh := fun n h => by
    have h' : S.next + 1 ≤ n := h
    rw [new_ne (by omega)]
    exact A.fresh n (by omega)
  ob := fun n w e => by
    by_cases hn : n = S.next
    · subst hn; rw [new_self] at e; cases e; rw [bind1_self]; exact r
    · rw [new_ne hn] at e
      rw [bind1_ne hn]
      obtain ⟨v, hv⟩ := (A.ob n w e).some
      exact (A.ob n w e).ext A (ext_new A hp) (upd_ne (ne_of_none hv hp))
  hs := (A.same hp).hs
  hd := fun n w e => by
    by_cases hn : n = S.next
    · subst hn; rw [bind1_self]; exact fun h => A.nolive hp (.inr h)
    · rw [new_ne hn] at e
      rw [bind1_ne hn]
      exact A.hd n w e
/-- an object of ours is changed -/
theorem ext_set (A : Abs g S loc H) {n : Nat} {o o' : MO} {u : HO} (h : S.ob n = some o) (nl : ∀ k, o ≠ .lok k := by intro _ z; cases z) : Ext S loc H (S.set n o') loc (upd H (loc.ad n) u) := by
  have nn : ∀ m kvs, S.ob m = some (.lok kvs) → m ≠ n := fun m kvs e z => by rw [z, h] at e; exact nl kvs (Option.some.inj e)
  refine ⟨Nat.le_refl _, fun _ _ => rfl, fun q v hq nl => ?_, fun q hq => ⟨upd_ne fun e => A.hd n o h (by rw [← e]; exact hq), hq⟩,
    fun m kvs e => ⟨by rw [set_ne (nn m kvs e)]; exact e, upd_ne fun z => nn m kvs e (A.inj m n _ o e h z)⟩, fun _ _ _ => rfl⟩
  have ne : q ≠ loc.ad n := fun e => nl (.inl ⟨n, o, h, e.symm⟩)
  refine ⟨by rw [upd_ne ne]; exact hq, ?_⟩
  rintro (⟨m, w, e, rfl⟩ | hh)
  · by_cases hm : m = n
    · subst hm; exact ne rfl
    · rw [set_ne hm] at e; exact nl (.inl ⟨m, w, e, rfl⟩)
  · exact nl (.inr hh)
theorem set_some {n : Nat} {o o' : MO} (h : S.ob n = some o) {m : Nat} {a : MO} (e : (S.set n o').ob m = some a) : ∃ a, S.ob m = some a := by
  by_cases hm : m = n
  · subst hm; exact ⟨_, h⟩
  · rw [set_ne hm] at e; exact ⟨_, e⟩
theorem Abs.set (A : Abs g S loc H) {n : Nat} {o o' : MO} {u : HO} (h : S.ob n = some o) (nl : ∀ k, o ≠ .lok k) (r : RepO g (S.set n o') loc (upd H (loc.ad n) u) (loc.ad n) o') : Abs g (S.set n o') loc (upd H (loc.ad n) u) where
  inj := fun m k a b e1 e2 e => by
    obtain ⟨a', e1'⟩ := set_some h e1
    obtain ⟨b', e2'⟩ := set_some h e2
    exact A.inj m k a' b' e1' e2' e
  fresh := fun m hm => by
    have : m ≠ n := fun e => by subst e; rw [A.fresh m hm] at h; cases h
    rw [set_ne this]; exact A.fresh m hm
  ob := fun m w e => by
    by_cases hm : m = n
    · subst hm; rw [set_self] at e; cases e; exact r
    · rw [set_ne hm] at e
      have ne : loc.ad m ≠ loc.ad n := fun q => hm (A.inj m n w o e h q)
      exact (A.ob m w e).ext A (ext_set A h nl) (upd_ne ne)
  hs := fun q hq => by
    have ne : q ≠ loc.ad n := fun e => A.hd n o h (by rw [← e]; exact hq)
    obtain ⟨⟨u, hu⟩, nt⟩ := A.hs q hq
    exact ⟨⟨u, by rw [upd_ne ne]; exact hu⟩, fun xs r => nt xs (rd_upd ne r)⟩
  hd := fun m a e => by
    obtain ⟨a', e'⟩ := set_some h e
    exact A.hd m a' e'
/-- an object of ours is given up -/
theorem ext_del {n : Nat} (nl : ∀ k, S.ob n ≠ some (.lok k)) : Ext S loc H (S.del n) loc H :=
  ⟨Nat.le_refl _, fun _ _ => rfl, fun q v hq nl => ⟨hq, fun z => nl (z.elim (fun ⟨m, w, e, z⟩ => .inl ⟨m, w, (del_some e).2, z⟩) .inr)⟩, fun _ h => ⟨rfl, h⟩,
    fun m kvs e => ⟨by rw [del_ne (show m ≠ n from fun z => nl kvs (by rw [← z]; exact e))]; exact e, rfl⟩, fun _ _ _ => rfl⟩
theorem Abs.del (A : Abs g S loc H) (n : Nat) (nl : ∀ k, S.ob n ≠ some (.lok k)) : Abs g (S.del n) loc H where
  inj := fun m k a b e1 e2 e => A.inj m k a b (del_some e1).2 (del_some e2).2 e
  fresh := fun m h => by
    by_cases e : m = n
    · subst e; exact del_self
    · rw [del_ne e]; exact A.fresh m h
  ob := fun m o e => (A.ob m o (del_some e).2).ext A (ext_del nl) rfl
  hs := A.hs
  hd := fun m a e => A.hd m a (del_some e).2
theorem Abs.lt (A : Abs g S loc H) {n : Nat} {o : MO} (h : S.ob n = some o) : n < S.next := by
  rcases Nat.lt_or_ge n S.next with q | q
  · exact q
  · rw [A.fresh n q] at h; cases h
/-! hiding a new object, and showing it again -/
def hide1 (loc : Loc) (p : Addr) : Loc := ⟨loc.ad, fun q => q = p ∨ loc.hid q⟩
def show1 (loc : Loc) (p : Addr) : Loc := ⟨loc.ad, fun q => q ≠ p ∧ loc.hid q⟩
theorem ext_hide (A : Abs g S loc H) {p : Addr} {o : HO} (hp : H p = none) : Ext S loc H S (hide1 loc p) (upd H p o) :=
  ⟨Nat.le_refl _, fun _ _ => rfl, fun q u h n => ⟨by rw [upd_ne (ne_of_none h hp)]; exact h, fun z => by
    rcases z with z | z | z
    · exact n (.inl z)
    · subst z; rw [hp] at h; cases h
    · exact n (.inr z)⟩, fun q h => ⟨by obtain ⟨u, hu⟩ := (A.hs q h).1; rw [upd_ne (ne_of_none hu hp)], .inr h⟩,
    fun m kvs h => ⟨h, by obtain ⟨u, hu⟩ := (A.ob m _ h).some; rw [upd_ne (ne_of_none hu hp)]⟩, fun _ _ _ => rfl⟩
theorem Abs.hide (A : Abs g S loc H) {p : Addr} {xs : List V} (hp : H p = none) : Abs g S (hide1 loc p) (upd H p (.lst xs)) where
  inj := A.inj
  fresh := A.fresh
  ob := fun n u e => by
    obtain ⟨w, hw⟩ := (A.ob n u e).some
    exact (A.ob n u e).ext A (ext_hide A hp) (upd_ne (ne_of_none hw hp))
  hs := fun q h => by
    rcases h with rfl | h
    · exact ⟨⟨_, upd_same⟩, fun ys r => by rcases r with r | ⟨z, r⟩ <;> (rw [upd_same] at r; cases r)⟩
    · exact (A.same hp).hs q h
  hd := fun n o e h => by
    rcases h with h | h
    · exact A.nolive hp (.inl ⟨n, o, e, h⟩)
    · exact A.hd n o e h
/-- the hidden list is changed by who hid it -/
theorem ext_hid {p : Addr} {o : HO} (hh : loc.hid p) : ∀ q u, H q = some u → ¬ Live S loc q → upd H p o q = some u ∧ ¬ Live S loc q := fun q u h n => ⟨by rw [upd_ne (show q ≠ p from fun e => n (.inr (by rw [e]; exact hh)))]; exact h, n⟩
section
variable {p : Addr} {xs : List V}
mutual
theorem Rep.hid {o : HO} (A : Abs g S loc H) (hh : loc.hid p) : ∀ {d : D} {v : V}, Rep g S loc H d v → Rep g S loc (upd H p o) d v
  | _, _, .non => .non
  | _, _, .bl b => .bl b
  | _, _, .int i => .int i
  | _, _, .str z => .str z
  | _, _, .tup (p := q) h r => by
    have ne : q ≠ p := fun e => A.notup (.inl h) (.inr (e ▸ hh))
    exact .tup (by rw [upd_ne ne]; exact h) (Reps.hid A hh r)
  | _, _, .lst h n r => .lst (ext_hid hh _ _ h n).1 n (Reps.hid A hh r)
  | _, _, .scr (p := q) h n r => by
    have ne : q ≠ p := fun e => n (.inr (e ▸ hh))
    refine .scr ?_ n (Reps.hid A hh r)
    rcases h with h | ⟨z, h⟩
    · exact .inl (by rw [upd_ne ne]; exact h)
    · exact .inr ⟨z, by rw [upd_ne ne]; exact h⟩
  | _, _, .kscr h r => .kscr h (Reps.hid A hh r)
  | _, _, .ref h => .ref h
  | _, _, .adr a r => .adr a (Reps.hid A hh r)
  | _, _, .exn h l n => .exn (ext_hid hh _ _ h n).1 l n
theorem Reps.hid {o : HO} (A : Abs g S loc H) (hh : loc.hid p) : ∀ {l : List D} {vs : List V}, Reps g S loc H l vs → Reps g S loc (upd H p o) l vs
  | _, _, .nil => .nil
  | _, _, .cons a b => .cons (Rep.hid A hh a) (Reps.hid A hh b)
end
theorem Abs.hid (A : Abs g S loc H) (hh : loc.hid p) : Abs g S loc (upd H p (.lst xs)) where
  inj := A.inj
  fresh := A.fresh
  ob := fun n u e => by
    have ne : loc.ad n ≠ p := fun z => A.hd n u e (z ▸ hh)
    have q := A.ob n u e
    cases u with
    | lst l => obtain ⟨xs, e, q⟩ := q; exact ⟨xs, (upd_ne ne).trans e, q.hid A hh⟩
    | dic l =>
      obtain ⟨ys, e, q⟩ := q
      exact ⟨ys, (upd_ne ne).trans e, Paired.mapP q fun _ _ z => ⟨z.1, z.2.hid A hh⟩⟩
    | lok l =>
      obtain ⟨o, r⟩ := q
      obtain ⟨ys, e, q⟩ := r
      exact ⟨o, ys, (upd_ne ne).trans e, Paired.mapP q fun _ _ z => ⟨z.1, z.2.hid A hh⟩⟩
    | ins c fs => obtain ⟨dx, gs, e, q⟩ := q; exact ⟨dx, gs, (upd_ne ne).trans e, Paired.mapP q fun _ _ z => ⟨z.1, z.2.hid A hh⟩⟩
    | nst ks => obtain ⟨es, e, m, q, nd⟩ := q; exact ⟨es, (upd_ne ne).trans e, m, Paired.mapP q fun _ _ ⟨b, k, z1, z2, z3, z4⟩ => ⟨b, k, z1, z2, z3, z4.hid A hh⟩, nd⟩
    | tab q => obtain ⟨e0, ps, e, t, w⟩ := q; exact ⟨e0, ps, (upd_ne ne).trans e, t, fun pos cv h => let ⟨c, e1, e2, e3⟩ := w pos cv h; ⟨c, e1, (ext_hid hh _ _ e2 e3).1, e3⟩⟩
  hs := fun q h => by
    by_cases ne : q = p
    · subst ne
      exact ⟨⟨_, upd_same⟩, fun ys r => by rcases r with r | ⟨z, r⟩ <;> (rw [upd_same] at r; cases r)⟩
    · obtain ⟨⟨u, hu⟩, nt⟩ := A.hs q h
      exact ⟨⟨u, by rw [upd_ne ne]; exact hu⟩, fun xs r => nt xs (rd_upd ne r)⟩
  hd := A.hd
/-- shown again -/
theorem Live.of_show (h : Live S (show1 loc p) q) : Live S loc q := by
  rcases h with h | h
  · exact .inl h
  · exact .inr h.2
mutual
theorem Rep.shown : ∀ {d : D} {v : V}, Rep g S loc H d v → Rep g S (show1 loc p) H d v
  | _, _, .non => .non
  | _, _, .bl b => .bl b
  | _, _, .int i => .int i
  | _, _, .str z => .str z
  | _, _, .tup h r => .tup h (Reps.shown r)
  | _, _, .lst h n r => .lst h (fun z => n z.of_show) (Reps.shown r)
  | _, _, .scr h n r => .scr h (fun z => n z.of_show) (Reps.shown r)
  | _, _, .kscr h r => .kscr h (Reps.shown r)
  | _, _, .ref (n := n) h => Rep.ref (loc := show1 loc p) h
  | _, _, .adr a r => .adr a (Reps.shown r)
  | _, _, .exn h l n => .exn h l (fun z => n z.of_show)
theorem Reps.shown : ∀ {l : List D} {vs : List V}, Reps g S loc H l vs → Reps g S (show1 loc p) H l vs
  | _, _, .nil => .nil
  | _, _, .cons a b => .cons (Rep.shown a) (Reps.shown b)
end
theorem Abs.shown (A : Abs g S loc H) : Abs g S (show1 loc p) H where
  inj := A.inj
  fresh := A.fresh
  ob := fun n u e => by
    have q := A.ob n u e
    cases u with
    | lst l => obtain ⟨xs, e, q⟩ := q; exact ⟨xs, e, q.shown⟩
    | dic l =>
      obtain ⟨ys, e, q⟩ := q
      exact ⟨ys, e, Paired.mapP q fun _ _ z => ⟨z.1, z.2.shown⟩⟩
    | lok l =>
      obtain ⟨o, r⟩ := q
      obtain ⟨ys, e, q⟩ := r
      exact ⟨o, ys, e, Paired.mapP q fun _ _ z => ⟨z.1, z.2.shown⟩⟩
    | ins c fs => obtain ⟨dx, gs, e, q⟩ := q; exact ⟨dx, gs, e, Paired.mapP q fun _ _ z => ⟨z.1, z.2.shown⟩⟩
    | nst ks => obtain ⟨es, e, m, q, nd⟩ := q; exact ⟨es, e, m, Paired.mapP q fun _ _ ⟨b, k, z1, z2, z3, z4⟩ => ⟨b, k, z1, z2, z3, z4.shown⟩, nd⟩
    | tab q => obtain ⟨e0, ps, e, t, w⟩ := q; exact ⟨e0, ps, e, t, fun pos cv h => let ⟨c, e1, e2, e3⟩ := w pos cv h; ⟨c, e1, e2, fun z => e3 z.of_show⟩⟩
  hs := fun q h => A.hs q h.2
  hd := fun n o e h => A.hd n o e h.2
theorem nolive_show (A : Abs g S loc H) (hh : loc.hid p) : ¬ Live S (show1 loc p) p := by
  rintro (⟨n, o, e, z⟩ | z)
  · exact A.hd n o e (by rw [show (show1 loc p).ad n = loc.ad n from rfl] at z; rw [z]; exact hh)
  · exact z.1 rfl
/-- from ahead of the hidden object's making: it may have changed, it may be shown again -/
theorem Ext.app {S0 : S3} {loc0 : Loc} {H0 : Hp} {p : Addr} {o : HO} (A0 : Abs g S0 loc0 H0) (x : Ext S0 loc0 H0 S loc H) (hp : H0 p = none) : Ext S0 loc0 H0 S loc (upd H p o) :=
  ⟨x.nx, x.lc, fun q u h n => ⟨by rw [upd_ne (ne_of_none h hp)]; exact (x.keep q u h n).1, (x.keep q u h n).2⟩, fun q h => ⟨by
    obtain ⟨u, hu⟩ := (A0.hs q h).1
    rw [upd_ne (ne_of_none hu hp)]; exact (x.hk q h).1, (x.hk q h).2⟩, fun m kvs h => ⟨(x.lk m kvs h).1, by
    obtain ⟨u, hu⟩ := (A0.ob m _ h).some
    rw [upd_ne (ne_of_none hu hp)]; exact (x.lk m kvs h).2⟩, x.la⟩
theorem Ext.showing {S0 : S3} {loc0 : Loc} {H0 : Hp} {p : Addr} (A0 : Abs g S0 loc0 H0) (x : Ext S0 loc0 H0 S loc H) (hp : H0 p = none) : Ext S0 loc0 H0 S (show1 loc p) H :=
  ⟨x.nx, x.lc, fun q u h n => ⟨(x.keep q u h n).1, fun z => (x.keep q u h n).2 z.of_show⟩, fun q h => ⟨(x.hk q h).1, by
    obtain ⟨u, hu⟩ := (A0.hs q h).1
    exact ne_of_none hu hp, (x.hk q h).2⟩, x.lk, x.la⟩
end
end
end G3
set_option maxHeartbeats 4000000
/-! G3: expressions, tests, arguments, statements as functions of data; each one's soundness. -/
namespace G3
open PySem PySem.Spec PyProof.Rows L2

/-! ### equality of data is decided -/
mutual
def D.same : D → D → Bool
  | .non, .non => true
  | .bl a, .bl b => a == b
  | .int a, .int b => decide (a = b)
  | .str a, .str b => decide (a = b)
  | .tup a, .tup b => D.sames a b
  | .lst a, .lst b => D.sames a b
  | .scr a, .scr b => D.sames a b
  | .ref a, .ref b => decide (a = b)
  | .adr a vs l, .adr b ws m => decide (a = b) && (decide (vs = ws) && D.sames l m)
  | .exn a, .exn b => decide (a = b)
  | _, _ => false
def D.sames : List D → List D → Bool
  | [], [] => true
  | a :: l, b :: m => D.same a b && D.sames l m
  | _, _ => false
end
mutual
theorem D.same_eq : ∀ {a b : D}, D.same a b = true → a = b
  | .non, b, h => by cases b <;> simp_all [D.same]
  | .bl _, b, h => by cases b <;> simp_all [D.same]
  | .int _, b, h => by cases b <;> simp_all [D.same]
  | .str _, b, h => by cases b <;> simp_all [D.same]
  | .tup l, b, h => by cases b <;> first | (simp only [D.same] at h; rw [D.sames_eq h]) | simp_all [D.same]
  | .lst l, b, h => by cases b <;> first | (simp only [D.same] at h; rw [D.sames_eq h]) | simp_all [D.same]
  | .scr l, b, h => by cases b <;> first | (simp only [D.same] at h; rw [D.sames_eq h]) | simp_all [D.same]
  | .ref _, b, h => by cases b <;> simp_all [D.same]
  | .exn _, b, h => by cases b <;> simp_all [D.same]
  | .adr _ _ l, b, h => by cases b <;> first | (simp only [D.same, Bool.and_eq_true, decide_eq_true_eq] at h; rw [D.sames_eq h.2.2, h.1, h.2.1]) | simp_all [D.same]
theorem D.sames_eq : ∀ {l m : List D}, D.sames l m = true → l = m
  | [], m, h => by cases m <;> simp_all [D.sames]
  | a :: l, m, h => by
    cases m with
    | nil => simp_all [D.sames]
    | cons b m =>
      simp only [D.sames, Bool.and_eq_true] at h
      rw [D.same_eq h.1, D.sames_eq h.2]
end
mutual
theorem D.same_refl : ∀ a : D, D.same a a = true
  | .non => rfl
  | .bl _ => by simp [D.same]
  | .int _ => by simp [D.same]
  | .str _ => by simp [D.same]
  | .tup l => by simp only [D.same]; exact D.sames_refl l
  | .lst l => by simp only [D.same]; exact D.sames_refl l
  | .scr l => by simp only [D.same]; exact D.sames_refl l
  | .ref _ => by simp [D.same]
  | .exn _ => by simp [D.same]
  | .adr _ _ l => by simp only [D.same, decide_true, Bool.true_and]; exact D.sames_refl l
theorem D.sames_refl : ∀ l : List D, D.sames l l = true
  | [] => rfl
  | a :: l => by simp only [D.sames, Bool.and_eq_true]; exact ⟨D.same_refl a, D.sames_refl l⟩
end
instance : DecidableEq D := fun a b => if h : D.same a b = true then .isTrue (D.same_eq h) else .isFalse fun e => h (by rw [e]; exact D.same_refl b)

/-! ### the functions' types -/
abbrev En := List (Option D)
abbrev M (α : Type) := S3 → Option (α × S3)
abbrev ME := En → M D
abbrev MB := En → M Bool
abbrev MA := En → M (List D)
abbrev MO1 := En → M (Option Int)
inductive Fl where
  | nx | bk | ct | rt (d : D) | ex (i : Int)
abbrev MS := En → S3 → Option (Fl × En × S3)

structure REn (g : G) (S : S3) (loc : Loc) (H : Hp) (ρ : En) (σ : L2.St) : Prop where
  len : ρ.length = σ.length
  get : ∀ (i : Nat) (d : D), ρ[i]? = some (some d) → ∃ v, σ[i]? = some (some v) ∧ Rep g S loc H d v
section
variable {g : G} {S S' : S3} {loc loc' : Loc} {H H' : Hp} {ρ : En} {σ : L2.St}
theorem REn.ext (A : Abs g S loc H) (x : Ext S loc H S' loc' H') (R : REn g S loc H ρ σ) : REn g S' loc' H' ρ σ :=
  ⟨R.len, fun i d e => let ⟨v, h, r⟩ := R.get i d e; ⟨v, h, r.ext A x⟩⟩
theorem REn.set (R : REn g S loc H ρ σ) {d : D} {v : V} (r : Rep g S loc H d v) (i : Nat) : REn g S loc H (ρ.set i (some d)) (σ.set i (some v)) := by
  refine ⟨by simp [R.len], fun j e he => ?_⟩
  by_cases hj : i = j
  · subst hj
    rw [List.getElem?_set] at he
    simp only [if_pos] at he
    split at he
    · rename_i hl
      rw [R.len] at hl
      simp only [Option.some.injEq] at he
      subst he
      exact ⟨v, by rw [List.getElem?_set_self hl], r⟩
    · cases he
  · rw [List.getElem?_set_ne hj] at he
    rw [List.getElem?_set_ne hj]
    exact R.get j e he
theorem REn.shown {p : Addr} (R : REn g S loc H ρ σ) : REn g S (show1 loc p) H ρ σ :=
  ⟨R.len, fun i d e => let ⟨v, h, r⟩ := R.get i d e; ⟨v, h, r.shown⟩⟩
theorem REn.hid {p : Addr} {o : HO} (A : Abs g S loc H) (hh : loc.hid p) (R : REn g S loc H ρ σ) : REn g S loc (upd H p o) ρ σ :=
  ⟨R.len, fun i d e => let ⟨v, h, r⟩ := R.get i d e; ⟨v, h, r.hid A hh⟩⟩
end

/-- what an expression's function says -/
def tE (g : G) (f : ME) : TE := fun σ H Q => ∃ S loc ρ d S', Abs g S loc H ∧ REn g S loc H ρ σ ∧ f ρ S = some (d, S') ∧
  ∀ v loc' H', Abs g S' loc' H' → Ext S loc H S' loc' H' → Rep g S' loc' H' d v → Q v H'
def tB (g : G) (f : MB) : TT := fun σ H Q => ∃ S loc ρ b S', Abs g S loc H ∧ REn g S loc H ρ σ ∧ f ρ S = some (b, S') ∧
  ∀ loc' H', Abs g S' loc' H' → Ext S loc H S' loc' H' → Q b H'
def tA (g : G) (f : MA) : TA := fun σ H Q => ∃ S loc ρ ds S', Abs g S loc H ∧ REn g S loc H ρ σ ∧ f ρ S = some (ds, S') ∧
  ∀ vs loc' H', Abs g S' loc' H' → Ext S loc H S' loc' H' → Reps g S' loc' H' ds vs → Q vs H'
def tO (g : G) (f : MO1) : TO := fun σ H Q => ∃ S loc ρ o S', Abs g S loc H ∧ REn g S loc H ρ σ ∧ f ρ S = some (o, S') ∧
  ∀ loc' H', Abs g S' loc' H' → Ext S loc H S' loc' H' → Q o H'
/-- the exception BadTree(i), its dict at d -/
def ExD (g : G) (S : S3) (loc : Loc) (H : Hp) (i : Int) (cls : Value) (d : Option Addr) : Prop := cls = .ref g.bt ∧ ∃ (dd : Addr) (fs : List (Str × V)), d = some dd ∧ H dd = some (.xd fs) ∧ fs.lookup ("number" : Str) = some (V.int i) ∧ ¬ Live S loc dd
def tS (g : G) (W : WX) (f : MS) : TS := fun D σ H => ∃ S loc ρ fl ρ' S', Abs g S loc H ∧ REn g S loc H ρ σ ∧ f ρ S = some (fl, ρ', S') ∧
  match fl with
  | .nx => ∀ σ' loc' H', Abs g S' loc' H' → Ext S loc H S' loc' H' → REn g S' loc' H' ρ' σ' → D.nx σ' H'
  | .bk => ∀ σ' loc' H', Abs g S' loc' H' → Ext S loc H S' loc' H' → REn g S' loc' H' ρ' σ' → D.bk σ' H'
  | .ct => ∀ σ' loc' H', Abs g S' loc' H' → Ext S loc H S' loc' H' → REn g S' loc' H' ρ' σ' → D.ct σ' H'
  | .rt d => ∀ v loc' H', Abs g S' loc' H' → Ext S loc H S' loc' H' → Rep g S' loc' H' d v → D.rt v H'
  | .ex i => ∀ σ' loc' H' cls d, Abs g S' loc' H' → Ext S loc H S' loc' H' → REn g S' loc' H' ρ' σ' → ExD g S' loc' H' i cls d → W cls d σ' H'
/-- operations by values -/
def rK1 (g : G) (k : D → M D) : V → Hp → VK → Prop := fun x H Q => ∃ S loc d z S', Abs g S loc H ∧ Rep g S loc H d x ∧ k d S = some (z, S') ∧
  ∀ w loc' H', Abs g S' loc' H' → Ext S loc H S' loc' H' → Rep g S' loc' H' z w → Q w H'
def rK2 (g : G) (k : D → D → M D) : R2 := fun x y H Q => ∃ S loc d e z S', Abs g S loc H ∧ Rep g S loc H d x ∧ Rep g S loc H e y ∧ k d e S = some (z, S') ∧
  ∀ w loc' H', Abs g S' loc' H' → Ext S loc H S' loc' H' → Rep g S' loc' H' z w → Q w H'
def rKn (g : G) (k : List D → M D) : List V → Hp → VK → Prop := fun xs H Q => ∃ S loc ds z S', Abs g S loc H ∧ Reps g S loc H ds xs ∧ k ds S = some (z, S') ∧
  ∀ w loc' H', Abs g S' loc' H' → Ext S loc H S' loc' H' → Rep g S' loc' H' z w → Q w H'
def rKm (g : G) (k : D → List D → M D) : V → List V → Hp → VK → Prop := fun x xs H Q => ∃ S loc d ds z S', Abs g S loc H ∧ Rep g S loc H d x ∧ Reps g S loc H ds xs ∧ k d ds S = some (z, S') ∧
  ∀ w loc' H', Abs g S' loc' H' → Ext S loc H S' loc' H' → Rep g S' loc' H' z w → Q w H'
/-- a def's promise -/
def spM (g : G) (f : List D → M D) : Sp := fun vs H Q _ => rKn g f vs H Q

/-! ### implications -/
section
variable {X : Cx}
theorem PE.imp {e : Expr} {t t' : TE} (h : PE X e t) (k : ∀ σ H Q, t' σ H Q → t σ H Q) : PE X e t' := ⟨fun pins s σ H Q I q => h.run pins s σ H Q I (k _ _ _ q)⟩
theorem PT.imp {e : Expr} {t t' : TT} (h : PT X e t) (k : ∀ σ H Q, t' σ H Q → t σ H Q) : PT X e t' := ⟨fun pins s σ H Q I q => h.run pins s σ H Q I (k _ _ _ q)⟩
theorem PW.imp {e : Expr} {t t' : TT} (h : PW X e t) (k : ∀ σ H Q, t' σ H Q → t σ H Q) : PW X e t' := ⟨fun wh pins s σ H Q I q => h.run wh pins s σ H Q I (k _ _ _ q)⟩
theorem PA.imp {es : List Expr} {t t' : TA} (h : PA X es t) (k : ∀ σ H Q, t' σ H Q → t σ H Q) : PA X es t' := ⟨fun pos pins s σ H Q I q => h.run pos pins s σ H Q I (k _ _ _ q)⟩
theorem PO.imp {e : Option Expr} {t t' : TO} (h : PO X e t) (k : ∀ σ H Q, t' σ H Q → t σ H Q) : PO X e t' := ⟨fun pins s σ H Q I q => h.run pins s σ H Q I (k _ _ _ q)⟩
theorem PS.imp {st : Stmt} {t t' : TS} (h : PS X st t) (k : ∀ D σ H, t' D σ H → t D σ H) : PS X st t' := ⟨fun pins s σ H D I q => h.run pins s σ H D I (k _ _ _ q)⟩
theorem PSs.imp {st : List Stmt} {t t' : TS} (h : PSs X st t) (k : ∀ D σ H, t' D σ H → t D σ H) : PSs X st t' := ⟨fun pins s σ H D I q => h.run pins s σ H D I (k _ _ _ q)⟩
theorem OpR.imp {f : Value → Value → Sem Value} {r r' : R2} (h : OpR X f r) (k : ∀ x y H Q, r' x y H Q → r x y H Q) : OpR X f r' := fun pins s σ H x y v u Q I rx ry q => h pins s σ H x y v u Q I rx ry (k _ _ _ _ q)
theorem UnR.imp {f : Value → Sem Value} {r r' : V → Hp → VK → Prop} (h : UnR X f r) (k : ∀ x H Q, r' x H Q → r x H Q) : UnR X f r' := fun pins s σ H x v Q I rx q => h pins s σ H x v Q I rx (k _ _ _ q)
theorem CallR.imp {f : Value} {r r' : List V → Hp → VK → Prop} (h : CallR X f r) (k : ∀ xs H Q, r' xs H Q → r xs H Q) : CallR X f r' := fun pins s σ H xs us Q I rx q => h pins s σ H xs us Q I rx (k _ _ _ q)
theorem IxR.imp {r r' : R2} (h : IxR X r) (k : ∀ x y H Q, r' x y H Q → r x y H Q) : IxR X r' := fun value slice pins s σ H x y v u Q I rx ry q => h value slice pins s σ H x y v u Q I rx ry (k _ _ _ _ q)
theorem MtR.imp {id : String} {r r' : V → List V → Hp → VK → Prop} (h : MtR X id r) (k : ∀ x xs H Q, r' x xs H Q → r x xs H Q) : MtR X id r' := fun pins s σ H x xs v us Q I rx rs q => h pins s σ H x xs v us Q I rx rs (k _ _ _ _ q)
theorem SlR.imp {r r' : V → Option Int → Option Int → Hp → VK → Prop} (h : SlR X r) (k : ∀ x lo hi H Q, r' x lo hi H Q → r x lo hi H Q) : SlR X r' := fun pins s σ H x v vl vu lo hi sl Q I rx hs pl pu q => h pins s σ H x v vl vu lo hi sl Q I rx hs pl pu (k _ _ _ _ _ q)
end

/-! ### the functions of the forms -/
def eVar (i : Nat) : ME := fun ρ S => match ρ[i]? with
  | some (some d) => some (d, S)
  | _ => none
def eC (d : D) : ME := fun _ S => some (d, S)
def op1 (k : D → M D) (a : ME) : ME := fun ρ S => (a ρ S).bind fun r => k r.1 r.2
def op2 (k : D → D → M D) (a b : ME) : ME := fun ρ S => (a ρ S).bind fun r => (b ρ r.2).bind fun q => k r.1 q.1 q.2
def opn (k : List D → M D) (a : MA) : ME := fun ρ S => (a ρ S).bind fun r => k r.1 r.2
def opm (k : D → List D → M D) (o : ME) (a : MA) : ME := fun ρ S => (o ρ S).bind fun r => (a ρ r.2).bind fun q => k r.1 q.1 q.2
def aNil : MA := fun _ S => some ([], S)
def aCons (a : ME) (b : MA) : MA := fun ρ S => (a ρ S).bind fun r => (b ρ r.2).bind fun q => some (r.1 :: q.1, q.2)
def oNone : MO1 := fun _ S => some (none, S)
def oSome (a : ME) : MO1 := fun ρ S => (a ρ S).bind fun r => match r.1 with
  | .int i => some (some i, r.2)
  | _ => none
def bVal (a : ME) : MB := fun ρ S => (a ρ S).bind fun r => match r.1 with
  | .bl b => some (b, r.2)
  | _ => none
def bAnd (a b : MB) : MB := fun ρ S => (a ρ S).bind fun r => if r.1 then b ρ r.2 else some (false, r.2)
def bOr (a b : MB) : MB := fun ρ S => (a ρ S).bind fun r => if r.1 then some (true, r.2) else b ρ r.2
def bNot (a : MB) : MB := fun ρ S => (a ρ S).bind fun r => some (!r.1, r.2)
def eAnd (a b : ME) : ME := fun ρ S => (a ρ S).bind fun r => match r.1 with
  | .bl true => b ρ r.2
  | .bl false => some (.bl false, r.2)
  | _ => none
def eOr (a b : ME) : ME := fun ρ S => (a ρ S).bind fun r => match r.1 with
  | .bl true => some (.bl true, r.2)
  | .bl false => b ρ r.2
  | _ => none
def eNot (a : ME) : ME := fun ρ S => (a ρ S).bind fun r => match r.1 with
  | .bl b => some (.bl (!b), r.2)
  | _ => none
def eIf (c : MB) (a b : ME) : ME := fun ρ S => (c ρ S).bind fun r => if r.1 then a ρ r.2 else b ρ r.2
/-- x op y op' z -/
def eChain (k k' : D → D → M D) (a b c : ME) : ME := fun ρ S => (a ρ S).bind fun r => (b ρ r.2).bind fun q => (k r.1 q.1 q.2).bind fun z => match z.1 with
  | .bl true => (c ρ z.2).bind fun y => k' q.1 y.1 y.2
  | .bl false => some (.bl false, z.2)
  | _ => none
/-- a list of ours is given up, its items stay as data -/
def eFrz (a : ME) : ME := fun ρ S => (a ρ S).bind fun r => match r.1 with
  | .ref n => match r.2.ob n with
    | some (.lst l) => some (.lst l, r.2.del n)
    | _ => none
  | _ => none
/-- a new list: one that may change (b), or not -/
def newL (b : Bool) (l : List D) : M D := fun S => if b then some (.ref S.next, S.new (.lst l)) else some (.lst l, S)

section
variable {X : Cx} {g : G}
/-- the new list at any free place -/
theorem newL_ok {b : Bool} {l : List D} {xs : List V} {S S' : S3} {loc : Loc} {H : Hp} {z : D} (A : Abs g S loc H) (r : Reps g S loc H l xs) (e : newL b l S = some (z, S')) {Q : VK}
    (q : ∀ w loc' H', Abs g S' loc' H' → Ext S loc H S' loc' H' → Rep g S' loc' H' z w → Q w H') : ∀ p, H p = none → Q (.ref p) (upd H p (.lst xs)) := by
  intro p hp
  unfold newL at e
  cases b with
  | false =>
    simp only [Bool.false_eq_true, if_false, Option.some.injEq, Prod.mk.injEq] at e
    obtain ⟨rfl, rfl⟩ := e
    exact q _ loc _ (A.same hp) (ext_same A hp) (.lst upd_same (A.nolive hp) (r.ext A (ext_same A hp)))
  | true =>
    simp only [if_true, Option.some.injEq, Prod.mk.injEq] at e
    obtain ⟨rfl, rfl⟩ := e
    have x := ext_new A (u := .lst xs) (o := .lst l) hp
    have z := Rep.ref (g := g) (S := S.new (.lst l)) (loc := bind1 loc S.next p) (H := upd H p (.lst xs)) (Nat.lt_succ_self S.next)
    rw [bind1_self] at z
    exact q _ _ _ (A.new hp ⟨xs, upd_same, r.ext A x⟩) x z
theorem newT_ok {l : List D} {xs : List V} {S : S3} {loc : Loc} {H : Hp} (A : Abs g S loc H) (r : Reps g S loc H l xs) {Q : VK}
    (q : ∀ w loc' H', Abs g S loc' H' → Ext S loc H S loc' H' → Rep g S loc' H' (.tup l) w → Q w H') : ∀ p, H p = none → Q (.ref p) (upd H p (.tup xs)) := by
  intro p hp
  exact q _ loc _ (A.same hp) (ext_same A hp) (.tup upd_same (r.ext A (ext_same A hp)))

/-! ### the reductions -/
variable {σ : L2.St} {H : Hp}
theorem red1 {k : D → M D} {a : ME} {Q : VK} (h : tE g (op1 k a) σ H Q) : tE g a σ H fun x H1 => rK1 g k x H1 Q := by
  obtain ⟨S, loc, ρ, z, S', A, R, e, q⟩ := h
  unfold op1 at e
  obtain ⟨⟨d, S1⟩, e1, e2⟩ := Option.bind_eq_some_iff.mp e
  exact ⟨S, loc, ρ, d, S1, A, R, e1, fun v loc1 H1 A1 x1 r1 => ⟨S1, loc1, d, z, S', A1, r1, e2, fun w loc2 H2 A2 x2 r2 => q w loc2 H2 A2 (x1.trans x2) r2⟩⟩
theorem red2 {k : D → D → M D} {a b : ME} {Q : VK} (h : tE g (op2 k a b) σ H Q) : tE g a σ H fun x H1 => tE g b σ H1 fun y H2 => rK2 g k x y H2 Q := by
  obtain ⟨S, loc, ρ, z, S', A, R, e, q⟩ := h
  unfold op2 at e
  obtain ⟨⟨d, S1⟩, e1, e⟩ := Option.bind_eq_some_iff.mp e
  obtain ⟨⟨d2, S2⟩, e2, e3⟩ := Option.bind_eq_some_iff.mp e
  exact ⟨S, loc, ρ, d, S1, A, R, e1, fun v loc1 H1 A1 x1 r1 => ⟨S1, loc1, ρ, d2, S2, A1, R.ext A x1, e2, fun w loc2 H2 A2 x2 r2 =>
    ⟨S2, loc2, d, d2, z, S', A2, r1.ext A1 x2, r2, e3, fun y loc3 H3 A3 x3 r3 => q y loc3 H3 A3 ((x1.trans x2).trans x3) r3⟩⟩⟩
theorem redn {k : List D → M D} {a : MA} {Q : VK} (h : tE g (opn k a) σ H Q) : tA g a σ H fun xs H1 => rKn g k xs H1 Q := by
  obtain ⟨S, loc, ρ, z, S', A, R, e, q⟩ := h
  unfold opn at e
  obtain ⟨⟨d, S1⟩, e1, e2⟩ := Option.bind_eq_some_iff.mp e
  exact ⟨S, loc, ρ, d, S1, A, R, e1, fun v loc1 H1 A1 x1 r1 => ⟨S1, loc1, d, z, S', A1, r1, e2, fun w loc2 H2 A2 x2 r2 => q w loc2 H2 A2 (x1.trans x2) r2⟩⟩
theorem redm {k : D → List D → M D} {o : ME} {a : MA} {Q : VK} (h : tE g (opm k o a) σ H Q) : tE g o σ H fun x H1 => tA g a σ H1 fun xs H2 => rKm g k x xs H2 Q := by
  obtain ⟨S, loc, ρ, z, S', A, R, e, q⟩ := h
  unfold opm at e
  obtain ⟨⟨d, S1⟩, e1, e⟩ := Option.bind_eq_some_iff.mp e
  obtain ⟨⟨d2, S2⟩, e2, e3⟩ := Option.bind_eq_some_iff.mp e
  exact ⟨S, loc, ρ, d, S1, A, R, e1, fun v loc1 H1 A1 x1 r1 => ⟨S1, loc1, ρ, d2, S2, A1, R.ext A x1, e2, fun w loc2 H2 A2 x2 r2 =>
    ⟨S2, loc2, d, d2, z, S', A2, r1.ext A1 x2, r2, e3, fun y loc3 H3 A3 x3 r3 => q y loc3 H3 A3 ((x1.trans x2).trans x3) r3⟩⟩⟩
theorem redC {a : ME} {b : MA} {Q : List V → Hp → Prop} (h : tA g (aCons a b) σ H Q) : tE g a σ H fun x H1 => tA g b σ H1 fun xs H2 => Q (x :: xs) H2 := by
  obtain ⟨S, loc, ρ, z, S', A, R, e, q⟩ := h
  unfold aCons at e
  obtain ⟨⟨d, S1⟩, e1, e⟩ := Option.bind_eq_some_iff.mp e
  obtain ⟨⟨d2, S2⟩, e2, e3⟩ := Option.bind_eq_some_iff.mp e
  simp only [Option.some.injEq, Prod.mk.injEq] at e3
  obtain ⟨rfl, rfl⟩ := e3
  exact ⟨S, loc, ρ, d, S1, A, R, e1, fun v loc1 H1 A1 x1 r1 => ⟨S1, loc1, ρ, d2, S2, A1, R.ext A x1, e2, fun w loc2 H2 A2 x2 r2 => q _ loc2 H2 A2 (x1.trans x2) (.cons (r1.ext A1 x2) r2)⟩⟩
/-- a value's end at once -/
theorem now {a : ME} {S : S3} {loc : Loc} {ρ : En} {d : D} {S' : S3} {Q : VK} (A : Abs g S loc H) (q : ∀ v loc' H', Abs g S loc' H' → Ext S loc H S loc' H' → Rep g S loc' H' d v → Q v H') {v : V} (r : Rep g S loc H d v) : Q v H := q v loc H A .refl r

/-! ### names, constants -/
theorem qe_var (i : Nat) {x : Str} {pos : Pos} (hN : X.N[i]? = some x := by rfl) (hv : Vis X.env.scope x := by first | exact Or.inl rfl | exact Or.inr (Or.inl rfl) | exact Or.inr (Or.inr rfl)) (hd : (x == ("__debug__" : Str)) = false := by decide)
    (hcd : (x == ("__classdict__" : Str)) = false := by decide) : PE X (.Name x pos) (tE g (eVar i)) := by
  refine PE.imp (pe_var hN hv hd hcd) fun σ H Q h => ?_
  obtain ⟨S, loc, ρ, d, S', A, R, e, q⟩ := h
  unfold eVar at e
  split at e
  · rename_i d' hd'
    simp only [Option.some.injEq, Prod.mk.injEq] at e
    obtain ⟨rfl, rfl⟩ := e
    obtain ⟨v, h1, h2⟩ := R.get i _ hd'
    exact ⟨v, h1, q v loc H A .refl h2⟩
  · cases e
theorem qe_c {e : Expr} {d : D} {v : V} (h : PE X e (tC v)) (r : ∀ S loc H, Rep g S loc H d v) : PE X e (tE g (eC d)) := by
  refine PE.imp h fun σ H Q h => ?_
  obtain ⟨S, loc, ρ, z, S', A, R, e, q⟩ := h
  simp only [eC, Option.some.injEq, Prod.mk.injEq] at e
  obtain ⟨rfl, rfl⟩ := e
  exact q v loc H A .refl (r _ _ _)
theorem qe_int {i : Int} {j pos} : PE X (.Constant (.int i) j pos) (tE g (eC (.int i))) := qe_c pe_int fun _ _ _ => .int i
theorem qe_str {i : Str} {j pos} : PE X (.Constant (.str i) j pos) (tE g (eC (.str i))) := qe_c pe_str fun _ _ _ => .str i
theorem qe_bl {i : Bool} {j pos} : PE X (.Constant (.bool i) j pos) (tE g (eC (.bl i))) := qe_c pe_bl fun _ _ _ => .bl i
theorem qe_non {j pos} : PE X (.Constant .none j pos) (tE g (eC .non)) := qe_c pe_non fun _ _ _ => .non
/-- a module's constant -/
theorem qe_globS {x : Str} {z : Str} {u : Value} {pos : Pos} (hg : Gl X x) (hm : X.mg x = some u) (r : ∃ t, u = .str z t) (hd : (x == ("__debug__" : Str)) = false := by decide) : PE X (.Name x pos) (tE g (eC (.str z))) :=
  qe_c (pe_glob hg hm (v := .str z) r hd) fun _ _ _ => .str z
theorem qe_globI {x : Str} {z : Int} {u : Value} {pos : Pos} (hg : Gl X x) (hm : X.mg x = some u) (r : ∃ t, u = .int z t) (hd : (x == ("__debug__" : Str)) = false := by decide) : PE X (.Name x pos) (tE g (eC (.int z))) :=
  qe_c (pe_glob hg hm (v := .int z) r hd) fun _ _ _ => .int z

/-! ### operators -/
variable {a b c : Expr} {fa fb fc : ME} {pos : Pos}
theorem qe_op {op : Operator} {k : D → D → M D} (ho : OpR X (binaryOp op) (rK2 g k)) (ha : PE X a (tE g fa)) (hb : PE X b (tE g fb)) : PE X (.BinOp a op b pos) (tE g (op2 k fa fb)) :=
  PE.imp (pe_op ho ha hb) fun _ _ _ h => red2 h
theorem qe_un {op : UnaryOp} {k : D → M D} (ho : UnR X (unaryOp op) (rK1 g k)) (ha : PE X a (tE g fa)) : PE X (.UnaryOp op a pos) (tE g (op1 k fa)) :=
  PE.imp (pe_un ho ha) fun _ _ _ h => red1 h
theorem qe_cmp {op : CmpOp} {k : D → D → M D} (ho : OpR X (compareOp op) (rK2 g k)) (ha : PE X a (tE g fa)) (hb : PE X b (tE g fb)) (hm : behindInMarks op b = false) : PE X (.Compare a [op] [b] pos) (tE g (op2 k fa fb)) :=
  PE.imp (pe_cmpR ho ha hb hm) fun _ _ _ h => red2 h
theorem redV {a : ME} {Q : Bool → Hp → Prop} (h : tB g (bVal a) σ H Q) : tE g a σ H fun x H1 => ∃ c, x = .bl c ∧ Q c H1 := by
  obtain ⟨S, loc, ρ, z, S', A, R, e, q⟩ := h
  unfold bVal at e
  obtain ⟨⟨d, S1⟩, e1, e2⟩ := Option.bind_eq_some_iff.mp e
  simp only at e2
  split at e2
  · rename_i bb
    simp only [Option.some.injEq, Prod.mk.injEq] at e2
    obtain ⟨rfl, rfl⟩ := e2
    exact ⟨S, loc, ρ, .bl bb, S1, A, R, e1, fun v loc1 H1 A1 x1 r1 => by cases r1; exact ⟨bb, rfl, q loc1 H1 A1 x1⟩⟩
  · cases e2
theorem redV2 {k : D → D → M D} {a b : ME} {Q : Bool → Hp → Prop} (h : tB g (bVal (op2 k a b)) σ H Q) : tTest (tOp (rK2 g k) (tE g a) (tE g b)) σ H Q := red2 (redV h)
theorem qt_cmp {op : CmpOp} {k : D → D → M D} (ho : OpR X (compareOp op) (rK2 g k)) (ha : PE X a (tE g fa)) (hb : PE X b (tE g fb)) (hm : behindInMarks op b = false) : PT X (.Compare a [op] [b] pos) (tB g (bVal (op2 k fa fb))) :=
  PT.imp (pt_cmpR ho ha hb hm) fun _ _ _ h => redV2 h
/-- any expression whose value is a truth -/
theorem qt_val (ha : PE X a (tE g fa)) (he : ∀ whole, isTrue a X.env whole = (do let v ← whole; standAt a.pos; holding [v] (truthy v)) := by intro _; rfl) : PT X a (tB g (bVal fa)) :=
  PT.imp (pt_val ha he) fun _ _ _ h => redV h
theorem redCh {k k' : D → D → M D} {Q : VK} (h : tE g (eChain k k' fa fb fc) σ H Q) : tChain (rK2 g k) (rK2 g k') (tE g fa) (tE g fb) (tE g fc) σ H Q := by
  obtain ⟨S, loc, ρ, z, S', A, R, e, q⟩ := h
  unfold eChain at e
  obtain ⟨⟨d, S1⟩, e1, e⟩ := Option.bind_eq_some_iff.mp e
  obtain ⟨⟨d2, S2⟩, e2, e⟩ := Option.bind_eq_some_iff.mp e
  obtain ⟨⟨d3, S3⟩, e3, e⟩ := Option.bind_eq_some_iff.mp e
  refine ⟨S, loc, ρ, d, S1, A, R, e1, fun v loc1 H1 A1 x1 r1 => ⟨S1, loc1, ρ, d2, S2, A1, R.ext A x1, e2, fun w loc2 H2 A2 x2 r2 =>
    ⟨S2, loc2, d, d2, d3, S3, A2, r1.ext A1 x2, r2, e3, fun y loc3 H3 A3 x3 r3 => ?_⟩⟩⟩
  simp only at e
  split at e
  · obtain ⟨⟨d4, S4⟩, e4, e5⟩ := Option.bind_eq_some_iff.mp e
    cases r3
    refine ⟨true, rfl, iteT ?_⟩
    exact ⟨_, loc3, ρ, d4, S4, A3, ((R.ext A x1).ext A1 x2).ext A2 x3, e4, fun u loc4 H4 A4 x4 r4 => ⟨S4, loc4, d2, d4, z, S', A4, (r2.ext A2 x3).ext A3 x4, r4, e5, fun u5 loc5 H5 A5 x5 r5 =>
      q u5 loc5 H5 A5 ((((x1.trans x2).trans x3).trans x4).trans x5) r5⟩⟩
  · simp only [Option.some.injEq, Prod.mk.injEq] at e
    obtain ⟨rfl, rfl⟩ := e
    cases r3
    exact ⟨false, rfl, iteF (q _ loc3 H3 A3 ((x1.trans x2).trans x3) (.bl false))⟩
  · cases e
theorem qe_chain {op op' : CmpOp} {k k' : D → D → M D} (ho : OpR X (compareOp op) (rK2 g k)) (ho' : OpR X (compareOp op') (rK2 g k')) (ha : PE X a (tE g fa)) (hb : PE X b (tE g fb)) (hc : PE X c (tE g fc))
    (hm : lastMarks [op, op'] [b, c] = false := by rfl) : PE X (.Compare a [op, op'] [b, c] pos) (tE g (eChain k k' fa fb fc)) :=
  PE.imp (pe_chain ho ho' ha hb hc hm) fun _ _ _ h => redCh h
theorem qt_chain {op op' : CmpOp} {k k' : D → D → M D} (ho : OpR X (compareOp op) (rK2 g k)) (ho' : OpR X (compareOp op') (rK2 g k')) (ha : PE X a (tE g fa)) (hb : PE X b (tE g fb)) (hc : PE X c (tE g fc))
    (hm : lastMarks [op, op'] [b, c] = false := by rfl) : PT X (.Compare a [op, op'] [b, c] pos) (tB g (bVal (eChain k k' fa fb fc))) :=
  PT.imp (pt_chain ho ho' ha hb hc hm) fun σ H Q h => redCh (redV h)

/-! ### and, or, not, if -/
variable {ba bb : MB} {rest : List Expr}
theorem redAnd {Q : Bool → Hp → Prop} (h : tB g (bAnd ba bb) σ H Q) : tAnd (tB g ba) (tB g bb) σ H Q := by
  obtain ⟨S, loc, ρ, z, S', A, R, e, q⟩ := h
  unfold bAnd at e
  obtain ⟨⟨d, S1⟩, e1, e2⟩ := Option.bind_eq_some_iff.mp e
  refine ⟨S, loc, ρ, d, S1, A, R, e1, fun loc1 H1 A1 x1 => ?_⟩
  cases d with
  | true =>
    simp only [if_true] at e2
    exact iteT ⟨S1, loc1, ρ, z, S', A1, R.ext A x1, e2, fun loc2 H2 A2 x2 => q loc2 H2 A2 (x1.trans x2)⟩
  | false =>
    simp only [Bool.false_eq_true, if_false, Option.some.injEq, Prod.mk.injEq] at e2
    obtain ⟨rfl, rfl⟩ := e2
    exact iteF (q loc1 H1 A1 x1)
theorem redOr {Q : Bool → Hp → Prop} (h : tB g (bOr ba bb) σ H Q) : tOr (tB g ba) (tB g bb) σ H Q := by
  obtain ⟨S, loc, ρ, z, S', A, R, e, q⟩ := h
  unfold bOr at e
  obtain ⟨⟨d, S1⟩, e1, e2⟩ := Option.bind_eq_some_iff.mp e
  refine ⟨S, loc, ρ, d, S1, A, R, e1, fun loc1 H1 A1 x1 => ?_⟩
  cases d with
  | false =>
    simp only [Bool.false_eq_true, if_false] at e2
    exact iteF ⟨S1, loc1, ρ, z, S', A1, R.ext A x1, e2, fun loc2 H2 A2 x2 => q loc2 H2 A2 (x1.trans x2)⟩
  | true =>
    simp only [if_true, Option.some.injEq, Prod.mk.injEq] at e2
    obtain ⟨rfl, rfl⟩ := e2
    exact iteT (q loc1 H1 A1 x1)
theorem qw_and1 (ha : PT X a (tB g ba)) : PW X (.BoolOp .And [a] pos) (tB g ba) := pw_and1 ha
theorem qw_or1 (ha : PT X a (tB g ba)) : PW X (.BoolOp .Or [a] pos) (tB g ba) := pw_or1 ha
theorem qw_and (ha : PT X a (tB g ba)) (hb : PW X (.BoolOp .And (b :: rest) pos) (tB g bb)) : PW X (.BoolOp .And (a :: b :: rest) pos) (tB g (bAnd ba bb)) := PW.imp (pw_and ha hb) fun _ _ _ h => redAnd h
theorem qw_or (ha : PT X a (tB g ba)) (hb : PW X (.BoolOp .Or (b :: rest) pos) (tB g bb)) : PW X (.BoolOp .Or (a :: b :: rest) pos) (tB g (bOr ba bb)) := PW.imp (pw_or ha hb) fun _ _ _ h => redOr h
theorem qt_not (ha : PT X a (tB g ba)) : PT X (.UnaryOp .Not a pos) (tB g (bNot ba)) := PT.imp (pt_not ha) fun σ H Q h => by
  obtain ⟨S, loc, ρ, z, S', A, R, e, q⟩ := h
  unfold bNot at e
  obtain ⟨⟨d, S1⟩, e1, e2⟩ := Option.bind_eq_some_iff.mp e
  simp only [Option.some.injEq, Prod.mk.injEq] at e2
  obtain ⟨rfl, rfl⟩ := e2
  exact ⟨S, loc, ρ, d, S1, A, R, e1, fun loc1 H1 A1 x1 => q loc1 H1 A1 x1⟩
theorem qe_one {op} (ha : PE X a (tE g fa)) : PE X (.BoolOp op [a] pos) (tE g fa) := pe_one ha
theorem qe_and (ha : PE X a (tE g fa)) (hb : PE X (.BoolOp .And (b :: rest) pos) (tE g fb)) : PE X (.BoolOp .And (a :: b :: rest) pos) (tE g (eAnd fa fb)) := PE.imp (pe_and ha hb) fun σ H Q h => by
  obtain ⟨S, loc, ρ, z, S', A, R, e, q⟩ := h
  unfold eAnd at e
  obtain ⟨⟨d, S1⟩, e1, e2⟩ := Option.bind_eq_some_iff.mp e
  simp only at e2
  refine ⟨S, loc, ρ, d, S1, A, R, e1, fun v loc1 H1 A1 x1 r1 => ?_⟩
  split at e2
  · cases r1
    exact ⟨true, rfl, iteT ⟨_, loc1, ρ, z, S', A1, R.ext A x1, e2, fun w loc2 H2 A2 x2 r2 => q w loc2 H2 A2 (x1.trans x2) r2⟩⟩
  · cases r1
    simp only [Option.some.injEq, Prod.mk.injEq] at e2
    obtain ⟨rfl, rfl⟩ := e2
    exact ⟨false, rfl, iteF (q _ loc1 H1 A1 x1 (.bl false))⟩
  · cases e2
theorem qe_or (ha : PE X a (tE g fa)) (hb : PE X (.BoolOp .Or (b :: rest) pos) (tE g fb)) : PE X (.BoolOp .Or (a :: b :: rest) pos) (tE g (eOr fa fb)) := PE.imp (pe_or ha hb) fun σ H Q h => by
  obtain ⟨S, loc, ρ, z, S', A, R, e, q⟩ := h
  unfold eOr at e
  obtain ⟨⟨d, S1⟩, e1, e2⟩ := Option.bind_eq_some_iff.mp e
  simp only at e2
  refine ⟨S, loc, ρ, d, S1, A, R, e1, fun v loc1 H1 A1 x1 r1 => ?_⟩
  split at e2
  · cases r1
    simp only [Option.some.injEq, Prod.mk.injEq] at e2
    obtain ⟨rfl, rfl⟩ := e2
    exact ⟨true, rfl, iteT (q _ loc1 H1 A1 x1 (.bl true))⟩
  · cases r1
    exact ⟨false, rfl, iteF ⟨_, loc1, ρ, z, S', A1, R.ext A x1, e2, fun w loc2 H2 A2 x2 r2 => q w loc2 H2 A2 (x1.trans x2) r2⟩⟩
  · cases e2
theorem qe_not (ha : PE X a (tE g fa)) : PE X (.UnaryOp .Not a pos) (tE g (eNot fa)) := PE.imp (pe_not ha) fun σ H Q h => by
  obtain ⟨S, loc, ρ, z, S', A, R, e, q⟩ := h
  unfold eNot at e
  obtain ⟨⟨d, S1⟩, e1, e2⟩ := Option.bind_eq_some_iff.mp e
  simp only at e2
  refine ⟨S, loc, ρ, d, S1, A, R, e1, fun v loc1 H1 A1 x1 r1 => ?_⟩
  split at e2
  · rename_i bb
    cases r1
    simp only [Option.some.injEq, Prod.mk.injEq] at e2
    obtain ⟨rfl, rfl⟩ := e2
    exact ⟨bb, rfl, q _ loc1 H1 A1 x1 (.bl _)⟩
  · cases e2
theorem qe_if {t : Expr} (ht : PT X t (tB g ba)) (ha : PE X a (tE g fa)) (hb : PE X b (tE g fb)) : PE X (.IfExp t a b pos) (tE g (eIf ba fa fb)) := PE.imp (pe_ifExp ht ha hb) fun σ H Q h => by
  obtain ⟨S, loc, ρ, z, S', A, R, e, q⟩ := h
  unfold eIf at e
  obtain ⟨⟨d, S1⟩, e1, e2⟩ := Option.bind_eq_some_iff.mp e
  refine ⟨S, loc, ρ, d, S1, A, R, e1, fun loc1 H1 A1 x1 => ?_⟩
  cases d with
  | true =>
    simp only [if_true] at e2
    exact iteT ⟨S1, loc1, ρ, z, S', A1, R.ext A x1, e2, fun v loc2 H2 A2 x2 r2 => q v loc2 H2 A2 (x1.trans x2) r2⟩
  | false =>
    simp only [Bool.false_eq_true, if_false] at e2
    exact iteF ⟨S1, loc1, ρ, z, S', A1, R.ext A x1, e2, fun v loc2 H2 A2 x2 r2 => q v loc2 H2 A2 (x1.trans x2) r2⟩

/-! ### arguments, displays -/
variable {es : List Expr} {e : Expr} {as : MA}
theorem qa_nil : PA X [] (tA g aNil) := PA.imp pa_nil fun σ H Q h => by
  obtain ⟨S, loc, ρ, z, S', A, R, e, q⟩ := h
  simp only [aNil, Option.some.injEq, Prod.mk.injEq] at e
  obtain ⟨rfl, rfl⟩ := e
  exact q [] loc H A .refl .nil
theorem qa_cons (ha : PE X e (tE g fa)) (hr : PA X es (tA g as)) (hs : starEach (e :: es) X.env = (false, eval e X.env) :: starEach es X.env := by rfl) : PA X (e :: es) (tA g (aCons fa as)) :=
  PA.imp (pa_cons ha hr hs) fun _ _ _ h => redC h
def kTup : List D → M D := fun l S => if l.length ≤ sizeLine then some (.tup l, S) else none
def kLst (b : Bool) : List D → M D := fun l S => if l.length ≤ sizeLine then newL b l S else none
theorem qe_tup {x1} (h : PA X es (tA g as)) : PE X (.Tuple es x1 pos) (tE g (opn kTup as)) := PE.imp (pe_tup h) fun σ H Q h => by
  obtain ⟨S, loc, ρ, z, S', A, R, e, q⟩ := redn h
  refine ⟨S, loc, ρ, z, S', A, R, e, fun vs loc1 H1 A1 x1 r1 => ?_⟩
  obtain ⟨S2, loc2, ds, y, S3, A2, r2, e2, q2⟩ := q vs loc1 H1 A1 x1 r1
  unfold kTup at e2
  split at e2
  · rename_i hl
    simp only [Option.some.injEq, Prod.mk.injEq] at e2
    obtain ⟨rfl, rfl⟩ := e2
    exact ⟨by rw [← r2.length]; exact hl, newT_ok A2 r2 q2⟩
  · cases e2
theorem qe_lst (b : Bool) (h : PA X es (tA g as)) : PE X (.List es pos) (tE g (opn (kLst b) as)) := PE.imp (pe_lst h) fun σ H Q h => by
  obtain ⟨S, loc, ρ, z, S', A, R, e, q⟩ := redn h
  refine ⟨S, loc, ρ, z, S', A, R, e, fun vs loc1 H1 A1 x1 r1 => ?_⟩
  obtain ⟨S2, loc2, ds, y, S3, A2, r2, e2, q2⟩ := q vs loc1 H1 A1 x1 r1
  unfold kLst at e2
  split at e2
  · rename_i hl
    exact ⟨by rw [← r2.length]; exact hl, newL_ok A2 r2 e2 q2⟩
  · cases e2
/-- a list of ours, held by nobody else, becomes data -/
theorem qe_frz (ha : PE X e (tE g fa)) : PE X e (tE g (eFrz fa)) := PE.imp ha fun σ H Q h => by
  obtain ⟨S, loc, ρ, z, S', A, R, e, q⟩ := h
  unfold eFrz at e
  obtain ⟨⟨d, S1⟩, e1, e2⟩ := Option.bind_eq_some_iff.mp e
  simp only at e2
  split at e2
  · rename_i n
    split at e2
    · rename_i l hl
      simp only [Option.some.injEq, Prod.mk.injEq] at e2
      obtain ⟨rfl, rfl⟩ := e2
      refine ⟨S, loc, ρ, .ref n, S1, A, R, e1, fun v loc1 H1 A1 x1 r1 => ?_⟩
      cases r1
      obtain ⟨xs, hx, rx⟩ := A1.ob n _ hl
      have nk : ∀ k, S1.ob n ≠ some (.lok k) := fun k z => by rw [hl] at z; cases z
      refine q _ loc1 H1 (A1.del n nk) (x1.trans (ext_del nk)) (.lst hx ?_ (rx.ext A1 (ext_del nk)))
      rintro (⟨m, o, eo, em⟩ | hh)
      · have := del_some eo
        exact this.1 (A1.inj m n o _ this.2 hl em)
      · exact A1.hd n _ hl hh
    · cases e2
  · cases e2
end
end G3
set_option maxHeartbeats 4000000
/-! G3: calls, fields, subscripts, statements, loops, comprehensions. -/
namespace G3
open PySem PySem.Spec PyProof.Rows L2

/-- the class c's instance, the name m not among its fields -/
def isIns (c : Nat) (m : Str) (d : D) (S : S3) : Bool := match d with
  | .ref n => match S.ob n with
    | some (.ins c' fs) => decide (c' = c) && (fs.lookup m).isNone
    | _ => false
  | _ => false
def eMeth (c : Nat) (m : Str) (f : List D → M D) (o : ME) (as : MA) : ME := fun ρ S => (o ρ S).bind fun r => if isIns c m r.1 r.2 then (as ρ r.2).bind fun q => f (r.1 :: q.1) q.2 else none
def eMake (c : Nat) (f : List D → M D) (as : MA) : ME := fun ρ S => (as ρ S).bind fun r => (f (.ref r.2.next :: r.1) (r.2.new (.ins c []))).bind fun q => match q.1 with
  | .non => some (.ref r.2.next, q.2)
  | _ => none
def kFld (c : Nat) (f : Str) : D → M D := fun d S => match d with
  | .ref n => match S.ob n with
    | some (.ins c' fs) => if c' = c then (fs.lookup f).map (·, S) else none
    | _ => none
  | _ => none
def putD (f : Str) (v : D) : List (Str × D) → List (Str × D)
  | [] => [(f, v)]
  | (h, w) :: r => if h = f then (h, v) :: r else (h, w) :: putD f v r

section
variable {g : G} {S : S3} {loc : Loc} {H : Hp}
theorem FSs.look (f : Str) : ∀ {fs : List (Str × D)} {gs : List (Str × V)}, FSs g S loc H fs gs → (fs.lookup f = none ∧ gs.lookup f = none) ∨ ∃ d v, fs.lookup f = some d ∧ gs.lookup f = some v ∧ Rep g S loc H d v
  | _, _, .nil => .inl ⟨rfl, rfl⟩
  | (n, d) :: fs, (n', v) :: gs, .cons ⟨e, r⟩ t => by
    have e' : n = n' := e
    subst e'
    simp only [List.lookup_cons]
    cases q : f == n with
    | true => exact .inr ⟨d, v, rfl, rfl, r⟩
    | false => exact FSs.look f t
theorem FSs.put (f : Str) {d : D} {v : V} (r : Rep g S loc H d v) : ∀ {fs : List (Str × D)} {gs : List (Str × V)}, FSs g S loc H fs gs → FSs g S loc H (putD f d fs) (putF f v gs)
  | _, _, .nil => .cons ⟨rfl, r⟩ .nil
  | (n, d') :: fs, (n', v') :: gs, .cons ⟨e, r'⟩ t => by
    have e' : n = n' := e
    subst e'
    unfold putD putF
    by_cases h : n = f
    · rw [if_pos h, if_pos h]; exact .cons ⟨rfl, r⟩ t
    · rw [if_neg h, if_neg h]; exact .cons ⟨rfl, r'⟩ (FSs.put f r t)
theorem FSs.length {fs : List (Str × D)} {gs : List (Str × V)} (r : FSs g S loc H fs gs) : fs.length = gs.length := Paired.length r
end

section
variable {X : Cx} {g : G} {σ : L2.St} {H : Hp} {W : WX}
/-! ### calls of built-ins -/
variable {x m f : Str} {p pos apos cpos : Pos} {e o : Expr} {es : List Expr} {as : MA} {fo fa fb : ME} {id T : String} {c : Nat}
theorem qe_callB {k : List D → M D} (hc : CallR X (.builtin id) (rKn g k)) (hg : Gl X x) (hm : X.mg x = none) (hv : bootBuiltins x = some (.builtin id)) (ha : PA X (e :: es) (tA g as)) (hn : x ≠ "__name__" := by decide) (hdb : (x == ("__debug__" : Str)) = false := by decide)
    (he : starEach (e :: es) X.env = (false, eval e X.env) :: starEach es X.env := by rfl) (hpl : (backTo pos (starEach es X.env)).any (·.1) = false := by rfl) : PE X (.Call (.Name x p) (e :: es) [] pos) (tE g (opn k as)) :=
  PE.imp (pe_callB hc hg hm hv ha hn hdb he hpl) fun _ _ _ h => redn h
theorem qe_callTy {k : List D → M D} (hc : CallR X (.type T) (rKn g k)) (hg : Gl X x) (hm : X.mg x = none) (hv : bootBuiltins x = some (.type T)) (ha : PA X (e :: es) (tA g as)) (hn : x ≠ "__name__" := by decide) (hdb : (x == ("__debug__" : Str)) = false := by decide)
    (he : starEach (e :: es) X.env = (false, eval e X.env) :: starEach es X.env := by rfl) (hpl : (backTo pos (starEach es X.env)).any (·.1) = false := by rfl) : PE X (.Call (.Name x p) (e :: es) [] pos) (tE g (opn k as)) :=
  PE.imp (pe_callTy hc hg hm hv ha hn hdb he hpl) fun _ _ _ h => redn h
theorem qe_callTy0 {k : List D → M D} (hc : CallR X (.type T) (rKn g k)) (hg : Gl X x) (hm : X.mg x = none) (hv : bootBuiltins x = some (.type T)) (hn : x ≠ "__name__" := by decide) (hdb : (x == ("__debug__" : Str)) = false := by decide) :
    PE X (.Call (.Name x p) [] [] pos) (tE g (opn k aNil)) :=
  PE.imp (pe_callTy0 hc hg hm hv hn hdb) fun σ H Q h => by
    obtain ⟨S, loc, ρ, z, S', A, R, e, q⟩ := redn h
    simp only [aNil, Option.some.injEq, Prod.mk.injEq] at e
    obtain ⟨rfl, rfl⟩ := e
    exact q [] loc H A .refl .nil
/-! ### calls of defs -/
theorem qe_call {k : Nat} {f : Addr} {fd : FuncData} {ps : List Str} {fn : List D → M D} (F : FnOk X.prog X.w X.K X.mg X.base CX0 k f fd ps (spM g fn)) (hr : Room k X.A) (hg : Gl X x) (hm : X.mg x = some (.ref f)) (hk : PySem.W.keepIn X.K (.ref f) = true) (hb : Binds X.K fd ps [])
    (ha : PA X (e :: es) (tA g as)) (hdb : (x == ("__debug__" : Str)) = false := by decide) (he : starEach (e :: es) X.env = (false, eval e X.env) :: starEach es X.env := by rfl) (hpl : (backTo pos (starEach es X.env)).any (·.1) = false := by rfl) : PE X (.Call (.Name x p) (e :: es) [] pos) (tE g (opn fn as)) := by
  refine PE.imp (pe_call F hr hg hm hk hb .nil pass0 ha hdb he hpl) fun σ H Q h => ?_
  obtain ⟨S, loc, ρ, z, S', A, R, e, q⟩ := redn h
  exact ⟨S, loc, ρ, z, S', A, R, e, fun vs loc' H' A' x' r' => by show spM g fn (vs ++ []) H' Q E0; rw [List.append_nil]; exact q vs loc' H' A' x' r'⟩
theorem qe_call0 {k : Nat} {f : Addr} {fd : FuncData} {ps : List Str} {fn : List D → M D} (F : FnOk X.prog X.w X.K X.mg X.base CX0 k f fd ps (spM g fn)) (hr : Room k X.A) (hg : Gl X x) (hm : X.mg x = some (.ref f)) (hk : PySem.W.keepIn X.K (.ref f) = true) (hb : Binds X.K fd ps [])
    (hdb : (x == ("__debug__" : Str)) = false := by decide) : PE X (.Call (.Name x p) [] [] pos) (tE g (opn fn aNil)) := by
  refine PE.imp (pe_call0 F hr hg hm hk hb .nil pass0 hdb) fun σ H Q h => ?_
  obtain ⟨S, loc, ρ, z, S', A, R, e, q⟩ := redn h
  simp only [aNil, Option.some.injEq, Prod.mk.injEq] at e
  obtain ⟨rfl, rfl⟩ := e
  exact q [] loc H A .refl .nil
theorem redMeth {fn : List D → M D} {Q : VK} {vs0 : List V} {E : XK} (h : tE g (eMeth c m fn fo as) σ H Q) : tE g fo σ H fun x H1 => ∃ a dx fs, x = .ref a ∧ H1 a = some (.ins (g.cm c) dx fs) ∧ fs.lookup m = none ∧
    tA g as σ H1 fun vs H2 => spM g fn (x :: (vs ++ [])) H2 Q E := by
  obtain ⟨S, loc, ρ, z, S', A, R, e, q⟩ := h
  unfold eMeth at e
  obtain ⟨⟨d, S1⟩, e1, e2⟩ := Option.bind_eq_some_iff.mp e
  simp only at e2
  split at e2
  · rename_i hi
    obtain ⟨⟨ds, S2⟩, e3, e4⟩ := Option.bind_eq_some_iff.mp e2
    refine ⟨S, loc, ρ, d, S1, A, R, e1, fun v loc1 H1 A1 x1 r1 => ?_⟩
    unfold isIns at hi
    split at hi
    · rename_i n
      split at hi
      · rename_i c' fs hn
        simp only [Bool.and_eq_true, decide_eq_true_eq] at hi
        obtain ⟨rfl, hl⟩ := hi
        cases r1 with
        | ref hlt =>
        obtain ⟨dx, gs, eH, rf⟩ := A1.ob n _ hn
        refine ⟨loc1.ad n, dx, gs, rfl, eH, ?_, S1, loc1, ρ, ds, S2, A1, R.ext A x1, e3, fun vs loc2 H2 A2 x2 r2 => ?_⟩
        · rcases FSs.look m rf with ⟨_, z⟩ | ⟨d, v, z, _⟩
          · exact z
          · rw [z] at hl; cases hl
        · show spM g fn (V.ref (loc1.ad n) :: (vs ++ [])) H2 Q E
          rw [List.append_nil]
          exact ⟨S2, loc2, .ref n :: ds, z, S', A2, .cons ((Rep.ref hlt).ext A1 x2) r2, e4, fun w loc3 H3 A3 x3 r3 => q w loc3 H3 A3 ((x1.trans x2).trans x3) r3⟩
      · cases hi
    · cases hi
  · cases e2
theorem qe_meth {pl : Sem Bool} {k : Nat} {fn : List D → M D} {f : Addr} {fd : FuncData} {ps : List Str} (he : PE X o (tE g fo)) (cl : Cls X.K (g.cm c)) (hm : Meth X.K (g.cm c) m f) (F : FnOk X.prog X.w X.K X.mg X.base CX0 k f fd ps (spM g fn)) (hr : Room k X.A) (hb : Binds X.K fd ps []) (ha : PA X (e :: es) (tA g as))
    (hst : starEach (e :: es) X.env = (false, eval e X.env) :: starEach es X.env := by rfl) (hpl : (backTo pos (starEach es X.env)).any (·.1) = false := by rfl)
    (ht : eval (.Call (.Attribute o m apos) (e :: es) [] pos) X.env = (do
      let ov ← eval o X.env
      standAt apos.atName
      let (f, first) ← holding [ov] (getMethod ov m pl)
      callWith pos f first (backTo pos (starEach (e :: es) X.env)) (backToKw pos (keywordEach [] X.env))) := by rfl) :
    PE X (.Call (.Attribute o m apos) (e :: es) [] pos) (tE g (eMeth c m fn fo as)) :=
  PE.imp (pe_meth he cl hm F hr hb .nil pass0 ha hst hpl ht) fun _ _ _ h => redMeth (vs0 := []) (E := E0) h
theorem qe_meth0 {pl : Sem Bool} {k : Nat} {fn : List D → M D} {f : Addr} {fd : FuncData} {ps : List Str} (he : PE X o (tE g fo)) (cl : Cls X.K (g.cm c)) (hm : Meth X.K (g.cm c) m f) (F : FnOk X.prog X.w X.K X.mg X.base CX0 k f fd ps (spM g fn)) (hr : Room k X.A) (hb : Binds X.K fd ps [])
    (ht : eval (.Call (.Attribute o m apos) [] [] pos) X.env = (do
      let ov ← eval o X.env
      standAt apos.atName
      let (f, first) ← holding [ov] (getMethod ov m pl)
      callWith pos f first (backTo pos (starEach [] X.env)) (backToKw pos (keywordEach [] X.env))) := by rfl) :
    PE X (.Call (.Attribute o m apos) [] [] pos) (tE g (eMeth c m fn fo aNil)) :=
  PE.imp (pe_meth0 he cl hm F hr hb .nil pass0 ht) fun σ H Q h => by
    obtain ⟨S, loc, ρ, z, S', A, R, e, q⟩ := redMeth (vs0 := []) (E := E0) h
    refine ⟨S, loc, ρ, z, S', A, R, e, fun v loc' H' A' x' r' => ?_⟩
    obtain ⟨a, dx, fs, h1, h2, h3, S2, loc2, ρ2, z2, S3, A2, R2, e2, q2⟩ := q v loc' H' A' x' r'
    simp only [aNil, Option.some.injEq, Prod.mk.injEq] at e2
    obtain ⟨rfl, rfl⟩ := e2
    exact ⟨a, dx, fs, h1, h2, h3, q2 [] loc2 H' A2 .refl .nil⟩
theorem made_ok {fn : List D → M D} {Q : VK} {E : XK} {S S' : S3} {loc : Loc} {ds : List D} {vs : List V} {z : D} (A : Abs g S loc H) (r : Reps g S loc H ds vs)
    (e : ((fn (.ref S.next :: ds) (S.new (.ins c []))).bind fun q => match q.1 with | .non => some (D.ref S.next, q.2) | _ => none) = some (z, S'))
    (q : ∀ w loc' H', Abs g S' loc' H' → Ext S loc H S' loc' H' → Rep g S' loc' H' z w → Q w H') :
    ∀ x dx, H x = none → H dx = none → dx ≠ x → spM g fn (.ref x :: (vs ++ [])) (upd (upd H dx (.own x)) x (.ins (g.cm c) dx [])) (fun v H2 => v = .non ∧ Q (.ref x) H2) E := by
  intro x dx hx hdx ne
  rw [List.append_nil]
  obtain ⟨⟨d, S2⟩, e1, e2⟩ := Option.bind_eq_some_iff.mp e
  simp only at e2
  split at e2
  · simp only [Option.some.injEq, Prod.mk.injEq] at e2
    obtain ⟨rfl, rfl⟩ := e2
    have A1 := A.same (o := .own x) hdx
    have x1 := ext_same A (o := .own x) hdx
    have hx1 : (upd H dx (.own x)) x = none := by rw [upd_ne (Ne.symm ne)]; exact hx
    have x2 := ext_new A1 (u := .ins (g.cm c) dx []) (o := .ins c []) hx1
    have A2 := A1.new (u := .ins (g.cm c) dx []) (o := .ins c []) hx1 ⟨dx, [], upd_same, .nil⟩
    have r0 := Rep.ref (g := g) (S := S.new (.ins c [])) (loc := bind1 loc S.next x) (H := upd (upd H dx (.own x)) x (.ins (g.cm c) dx [])) (Nat.lt_succ_self S.next)
    have r0' : Rep g (S.new (.ins c [])) (bind1 loc S.next x) (upd (upd H dx (.own x)) x (.ins (g.cm c) dx [])) (.ref S.next) (.ref x) := by
      rw [bind1_self] at r0; exact r0
    refine ⟨S.new (.ins c []), bind1 loc S.next x, .ref S.next :: ds, .non, S2, A2, .cons r0' ((r.ext A x1).ext A1 x2), e1, fun w loc3 H3 A3 x3 r3 => ?_⟩
    cases r3
    refine ⟨rfl, ?_⟩
    have r4 := r0'.ext A2 x3
    exact q _ loc3 H3 A3 ((x1.trans x2).trans x3) r4
  · cases e2
theorem qe_make {k : Nat} {fn : List D → M D} {f : Addr} {fd : FuncData} {ps : List Str} (M : Mk X.K (g.cm c) f) (F : FnOk X.prog X.w X.K X.mg X.base CX0 k f fd ps (spM g fn)) (hr : Room (k + 1) X.A) (hg : Gl X x) (hm : X.mg x = some (.ref (g.cm c))) (hb : Binds X.K fd ps [])
    (ha : PA X (e :: es) (tA g as)) (hdb : (x == ("__debug__" : Str)) = false := by decide) (he : starEach (e :: es) X.env = (false, eval e X.env) :: starEach es X.env := by rfl) (hpl : (backTo pos (starEach es X.env)).any (·.1) = false := by rfl) :
    PE X (.Call (.Name x p) (e :: es) [] pos) (tE g (eMake c fn as)) :=
  PE.imp (pe_make M F hr hg hm hb .nil pass0 ha hdb he hpl) fun σ H Q h => by
    obtain ⟨S, loc, ρ, z, S', A, R, e, q⟩ := h
    unfold eMake at e
    obtain ⟨⟨ds, S1⟩, e1, e2⟩ := Option.bind_eq_some_iff.mp e
    exact ⟨S, loc, ρ, ds, S1, A, R, e1, fun vs loc1 H1 A1 x1 r1 => made_ok A1 r1 e2 fun w loc2 H2 A2 x2 r2 => q w loc2 H2 A2 (x1.trans x2) r2⟩
theorem qe_make0 {k : Nat} {fn : List D → M D} {f : Addr} {fd : FuncData} {ps : List Str} (M : Mk X.K (g.cm c) f) (F : FnOk X.prog X.w X.K X.mg X.base CX0 k f fd ps (spM g fn)) (hr : Room (k + 1) X.A) (hg : Gl X x) (hm : X.mg x = some (.ref (g.cm c))) (hb : Binds X.K fd ps [])
    (hdb : (x == ("__debug__" : Str)) = false := by decide) : PE X (.Call (.Name x p) [] [] pos) (tE g (eMake c fn aNil)) :=
  PE.imp (pe_make0 M F hr hg hm hb .nil pass0 hdb) fun σ H Q h => by
    obtain ⟨S, loc, ρ, z, S', A, R, e, q⟩ := h
    unfold eMake at e
    obtain ⟨⟨ds, S1⟩, e1, e2⟩ := Option.bind_eq_some_iff.mp e
    simp only [aNil, Option.some.injEq, Prod.mk.injEq] at e1
    obtain ⟨rfl, rfl⟩ := e1
    exact made_ok A .nil e2 q

/-! ### fields -/
theorem qe_fld (he : PE X e (tE g fa)) (cl : Cls X.K (g.cm c)) (na : NoAttr X.K (g.cm c) f) (hb : attributeBase e f X.env (eval e X.env) = eval e X.env := by rfl) : PE X (.Attribute e f pos) (tE g (op1 (kFld c f) fa)) :=
  PE.imp (pe_fld he hb) fun σ H Q h => by
    obtain ⟨S, loc, ρ, z, S', A, R, e, q⟩ := red1 h
    refine ⟨S, loc, ρ, z, S', A, R, e, fun v loc1 H1 A1 x1 r1 => ?_⟩
    obtain ⟨S2, loc2, d, y, S3, A2, r2, e2, q2⟩ := q v loc1 H1 A1 x1 r1
    unfold kFld at e2
    split at e2
    · rename_i n
      split at e2
      · rename_i c' fs hn
        split at e2
        · rename_i hc
          subst hc
          obtain ⟨dd, hd, ed⟩ := Option.map_eq_some_iff.mp e2
          simp only [Prod.mk.injEq] at ed
          obtain ⟨rfl, rfl⟩ := ed
          cases r2 with
          | ref hlt =>
          obtain ⟨dx, gs, eH, rf⟩ := A2.ob n _ hn
          rcases FSs.look f rf with ⟨z, _⟩ | ⟨d', v', z1, z2, rr⟩
          · rw [z] at hd; cases hd
          · rw [z1] at hd; cases hd
            exact ⟨loc2.ad n, _, dx, gs, v', rfl, eH, cl, na, z2, q2 v' loc2 H1 A2 .refl rr⟩
        · cases e2
      · cases e2
    · cases e2
def sFld (c : Nat) (f : Str) (o v : ME) : MS := fun ρ S => (v ρ S).bind fun r => (o ρ r.2).bind fun q => match q.1 with
  | .ref n => match q.2.ob n with
    | some (.ins c' fs) => if c' = c ∧ fs.length < 1000 then some (.nx, ρ, q.2.set n (.ins c (putD f r.1 fs))) else none
    | _ => none
  | _ => none
theorem qs_fld {value : Expr} {pos' : Pos} (ha : PE X o (tE g fo)) (hv : PE X value (tE g fa)) (cl : Cls X.K (g.cm c)) (na : NoAttr X.K (g.cm c) f) (hs : swapsWith value (some (.Attribute o f pos')) pos.line X.env = pure false := by rfl) : PS X (.Assign [.Attribute o f pos'] value pos) (tS g W (sFld c f fo fa)) :=
  PS.imp (ps_fld ha hv hs) fun D σ H h => by
    obtain ⟨S, loc, ρ, fl, ρ', S', A, R, e, q⟩ := h
    unfold sFld at e
    obtain ⟨⟨d, S1⟩, e1, e⟩ := Option.bind_eq_some_iff.mp e
    obtain ⟨⟨d2, S2⟩, e2, e3⟩ := Option.bind_eq_some_iff.mp e
    refine ⟨S, loc, ρ, d, S1, A, R, e1, fun v loc1 H1 A1 x1 r1 => ⟨S1, loc1, ρ, d2, S2, A1, R.ext A x1, e2, fun w loc2 H2 A2 x2 r2 => ?_⟩⟩
    simp only at e3
    split at e3
    · rename_i n
      split at e3
      · rename_i c' fs hn
        split at e3
        · rename_i hc
          obtain ⟨rfl, hl⟩ := hc
          simp only [Option.some.injEq, Prod.mk.injEq] at e3
          obtain ⟨rfl, rfl, rfl⟩ := e3
          cases r2 with
          | ref hlt =>
          obtain ⟨dx, gs, eH, rf⟩ := A2.ob n _ hn
          refine ⟨loc2.ad n, _, dx, gs, rfl, eH, cl, na, by rw [← FSs.length rf]; exact hl, ?_⟩
          have x3 := ext_set A2 (o' := .ins c' (putD f d fs)) (u := .ins (g.cm c') dx (putF f v gs)) hn
          have A3 := A2.set (o' := .ins c' (putD f d fs)) (u := .ins (g.cm c') dx (putF f v gs)) hn (by intro _ z; cases z) ⟨dx, _, upd_same, FSs.put f ((r1.ext A1 x2).ext A2 x3) (FSs.ext A2 x3 rf)⟩
          exact q σ loc2 _ A3 ((x1.trans x2).trans x3) (((R.ext A x1).ext A1 x2).ext A2 x3)
        · cases e3
      · cases e3
    · cases e3

/-! ### subscripts, slices, methods of built-ins -/
theorem qe_ix {k : D → D → M D} {a b : Expr} (hr : IxR X (rK2 g k)) (ha : PE X a (tE g fa)) (hb : PE X b (tE g fb)) (hs : PlainIx b := by intro _ _; rfl) : PE X (.Subscript a b pos) (tE g (op2 k fa fb)) :=
  PE.imp (pe_ix hr ha hb hs) fun _ _ _ h => red2 h
theorem qo_none : PO X none (tO g oNone) := PO.imp po_none fun σ H Q h => by
  obtain ⟨S, loc, ρ, z, S', A, R, e, q⟩ := h
  simp only [oNone, Option.some.injEq, Prod.mk.injEq] at e
  obtain ⟨rfl, rfl⟩ := e
  exact q loc H A .refl
theorem qo_some (h : PE X e (tE g fa)) : PO X (some e) (tO g (oSome fa)) := PO.imp (po_some h) fun σ H Q h => by
  obtain ⟨S, loc, ρ, z, S', A, R, e, q⟩ := h
  unfold oSome at e
  obtain ⟨⟨d, S1⟩, e1, e2⟩ := Option.bind_eq_some_iff.mp e
  simp only at e2
  split at e2
  · rename_i i
    simp only [Option.some.injEq, Prod.mk.injEq] at e2
    obtain ⟨rfl, rfl⟩ := e2
    exact ⟨S, loc, ρ, .int i, S1, A, R, e1, fun v loc1 H1 A1 x1 r1 => by cases r1; exact ⟨i, rfl, q loc1 H1 A1 x1⟩⟩
  · cases e2
def rKs (g : G) (k : D → Option Int → Option Int → M D) : V → Option Int → Option Int → Hp → VK → Prop := fun x lo hi H Q => ∃ S loc d z S', Abs g S loc H ∧ Rep g S loc H d x ∧ k d lo hi S = some (z, S') ∧
  ∀ w loc' H', Abs g S' loc' H' → Ext S loc H S' loc' H' → Rep g S' loc' H' z w → Q w H'
def eSl (k : D → Option Int → Option Int → M D) (a : ME) (lo hi : MO1) : ME := fun ρ S => (a ρ S).bind fun r => (lo ρ r.2).bind fun l => (hi ρ l.2).bind fun h => k r.1 l.1 h.1 h.2
theorem qe_sl {k : D → Option Int → Option Int → M D} {lo hi : Option Expr} {fl fh : MO1} {p2 : Pos} (hr : SlR X (rKs g k)) (he : PE X e (tE g fa)) (hl : PO X lo (tO g fl)) (hu : PO X hi (tO g fh)) : PE X (.Subscript e (.Slice lo hi none p2) pos) (tE g (eSl k fa fl fh)) :=
  PE.imp (pe_slice hr he hl hu) fun σ H Q h => by
    obtain ⟨S, loc, ρ, z, S', A, R, e, q⟩ := h
    unfold eSl at e
    obtain ⟨⟨d, S1⟩, e1, e⟩ := Option.bind_eq_some_iff.mp e
    obtain ⟨⟨l, S2⟩, e2, e⟩ := Option.bind_eq_some_iff.mp e
    obtain ⟨⟨h, S3⟩, e3, e4⟩ := Option.bind_eq_some_iff.mp e
    exact ⟨S, loc, ρ, d, S1, A, R, e1, fun v loc1 H1 A1 x1 r1 => ⟨S1, loc1, ρ, l, S2, A1, R.ext A x1, e2, fun loc2 H2 A2 x2 => ⟨S2, loc2, ρ, h, S3, A2, (R.ext A x1).ext A1 x2, e3, fun loc3 H3 A3 x3 =>
      ⟨S3, loc3, d, z, S', A3, (r1.ext A1 x2).ext A2 x3, e4, fun w loc4 H4 A4 x4 r4 => q w loc4 H4 A4 (((x1.trans x2).trans x3).trans x4) r4⟩⟩⟩⟩
/-- a built-in's method; the receiver's type is told by ty -/
def isTy (T : String) (d : D) (S : S3) : Bool := match d with
  | .str _ => T == "str"
  | .lst _ => T == "list"
  | .ref n => match S.ob n with
    | some (.lst _) => T == "list"
    | some (.dic _) => T == "dict"
    | _ => false
  | _ => false
def eBm (T : String) (k : D → List D → M D) (o : ME) (a : MA) : ME := fun ρ S => (o ρ S).bind fun r => if isTy T r.1 r.2 then (a ρ r.2).bind fun q => k r.1 q.1 q.2 else none
theorem isTy_ok {S : S3} {loc : Loc} {d : D} {v : V} (A : Abs g S loc H) (r : Rep g S loc H d v) (h : isTy T d S = true) : tyV g.K T v H := by
  unfold isTy at h
  split at h
  · cases r; exact eq_of_beq h
  · cases r with
    | lst h1 _ _ => exact .inl ⟨eq_of_beq h, _, SqL.of h1⟩
  · cases r
    split at h
    · rename_i e
      obtain ⟨xs, h1, _⟩ := A.ob _ _ e
      exact .inl ⟨eq_of_beq h, xs, SqL.of h1⟩
    · rename_i e
      refine .inr (.inr (.inl ⟨eq_of_beq h, ?_⟩))
      obtain ⟨ys, h1, _⟩ := A.ob _ _ e
      exact .inr ⟨ys, h1⟩
    · cases h
  · cases h
theorem redBm {k : D → List D → M D} {Q : VK} (h : tE g (eBm T k fo as) σ H Q) : tE g fo σ H fun x H1 => tyV g.K T x H1 ∧ tA g as σ H1 fun xs H2 => rKm g k x xs H2 Q := by
  obtain ⟨S, loc, ρ, z, S', A, R, e, q⟩ := h
  unfold eBm at e
  obtain ⟨⟨d, S1⟩, e1, e⟩ := Option.bind_eq_some_iff.mp e
  simp only at e
  split at e
  · rename_i ht
    obtain ⟨⟨d2, S2⟩, e2, e3⟩ := Option.bind_eq_some_iff.mp e
    exact ⟨S, loc, ρ, d, S1, A, R, e1, fun v loc1 H1 A1 x1 r1 => ⟨isTy_ok A1 r1 ht, S1, loc1, ρ, d2, S2, A1, R.ext A x1, e2, fun w loc2 H2 A2 x2 r2 =>
      ⟨S2, loc2, d, d2, z, S', A2, r1.ext A1 x2, r2, e3, fun y loc3 H3 A3 x3 r3 => q y loc3 H3 A3 ((x1.trans x2).trans x3) r3⟩⟩⟩
  · cases e
theorem qe_bm {k : D → List D → M D} {name : Str} (hK : X.K = g.K) (pa : PlainAttrs T) (slot : Slot T name id) (hty : typeOf (.builtin id) = pure (.type "method_descriptor")) (hm : MtR X id (rKm g k)) (ho : PE X o (tE g fo)) (ha : PA X (e :: es) (tA g as))
    (hbase : attributeBase o name X.env (eval o X.env) = eval o X.env := by rfl)
    (hfew : ((backTo cpos (starEach (e :: es) X.env)).all (fun x => !x.1) && (backToKw cpos (keywordEach [] X.env)).all (fun x => x.1.isSome)
      && decide ((e :: es).length + ([] : List Keyword).length + (if ([] : List Keyword).isEmpty then 0 else 1) < 30)) = true := by rfl)
    (hline : (apos.endLine == cpos.line) = true := by rfl) (hs : starEach (e :: es) X.env = (false, eval e X.env) :: starEach es X.env := by rfl) (hplain : (backTo cpos (starEach es X.env)).any (·.1) = false := by rfl) :
    PE X (.Call (.Attribute o name apos) (e :: es) [] cpos) (tE g (eBm T k fo as)) :=
  PE.imp (pe_bm pa slot hty hm ho ha hbase hfew hline hs hplain) fun σ H Q h => by rw [hK]; exact redBm h
theorem qe_bm0 {k : D → List D → M D} {name : Str} (hK : X.K = g.K) (pa : PlainAttrs T) (slot : Slot T name id) (hty : typeOf (.builtin id) = pure (.type "method_descriptor")) (hm : MtR X id (rKm g k)) (ho : PE X o (tE g fo))
    (hbase : attributeBase o name X.env (eval o X.env) = eval o X.env := by rfl) (hline : (apos.endLine == cpos.line) = true := by rfl) : PE X (.Call (.Attribute o name apos) [] [] cpos) (tE g (eBm T k fo aNil)) :=
  PE.imp (pe_bm0 pa slot hty hm ho hbase hline) fun σ H Q h => by
    rw [hK]
    obtain ⟨S, loc, ρ, z, S', A, R, e, q⟩ := redBm h
    refine ⟨S, loc, ρ, z, S', A, R, e, fun v loc' H' A' x' r' => ?_⟩
    obtain ⟨h1, S2, loc2, ρ2, z2, S3, A2, R2, e2, q2⟩ := q v loc' H' A' x' r'
    simp only [aNil, Option.some.injEq, Prod.mk.injEq] at e2
    obtain ⟨rfl, rfl⟩ := e2
    exact ⟨h1, q2 [] loc2 H' A2 .refl .nil⟩

/-! ### statements -/
variable {st : Stmt} {rest sts : List Stmt} {sa sb : MS} {ba : MB}
def sSkip : MS := fun ρ S => some (.nx, ρ, S)
def sSeq (a b : MS) : MS := fun ρ S => (a ρ S).bind fun r => match r.1 with
  | .nx => b r.2.1 r.2.2
  | _ => some r
def sRet (e : ME) : MS := fun ρ S => (e ρ S).bind fun r => some (.rt r.1, ρ, r.2)
def sRetN : MS := fun ρ S => some (.rt .non, ρ, S)
def sExp (e : ME) : MS := fun ρ S => (e ρ S).bind fun r => some (.nx, ρ, r.2)
def sIf (c : MB) (a b : MS) : MS := fun ρ S => (c ρ S).bind fun r => if r.1 then a ρ r.2 else b ρ r.2
def sNever : MS := fun _ _ => none
def sSet (i : Nat) (e : ME) : MS := fun ρ S => (e ρ S).bind fun r => some (.nx, ρ.set i (some r.1), r.2)
theorem qss_nil : PSs X [] (tS g W sSkip) := PSs.imp pss_nil fun D σ H h => by
  obtain ⟨S, loc, ρ, fl, ρ', S', A, R, e, q⟩ := h
  simp only [sSkip, Option.some.injEq, Prod.mk.injEq] at e
  obtain ⟨rfl, rfl, rfl⟩ := e
  exact q σ loc H A .refl R
theorem qss_cons (h1 : PS X st (tS g W sa)) (h2 : PSs X rest (tS g W sb)) : PSs X (st :: rest) (tS g W (sSeq sa sb)) := PSs.imp (pss_cons h1 h2) fun D σ H h => by
  obtain ⟨S, loc, ρ, fl, ρ', S', A, R, e, q⟩ := h
  unfold sSeq at e
  obtain ⟨⟨f1, ρ1, S1⟩, e1, e2⟩ := Option.bind_eq_some_iff.mp e
  refine ⟨S, loc, ρ, f1, ρ1, S1, A, R, e1, ?_⟩
  cases f1 with
  | nx =>
    intro σ1 loc1 H1 A1 x1 R1
    refine ⟨S1, loc1, ρ1, fl, ρ', S', A1, R1, e2, ?_⟩
    cases fl with
    | nx => exact fun σ2 loc2 H2 A2 x2 R2 => q σ2 loc2 H2 A2 (x1.trans x2) R2
    | bk => exact fun σ2 loc2 H2 A2 x2 R2 => q σ2 loc2 H2 A2 (x1.trans x2) R2
    | ct => exact fun σ2 loc2 H2 A2 x2 R2 => q σ2 loc2 H2 A2 (x1.trans x2) R2
    | rt d => exact fun v loc2 H2 A2 x2 R2 => q v loc2 H2 A2 (x1.trans x2) R2
    | ex i => exact fun σ2 loc2 H2 cls dx A2 x2 R2 ed => q σ2 loc2 H2 cls dx A2 (x1.trans x2) R2 ed
  | bk =>
    simp only [Option.some.injEq, Prod.mk.injEq] at e2
    obtain ⟨rfl, rfl, rfl⟩ := e2
    exact q
  | ct =>
    simp only [Option.some.injEq, Prod.mk.injEq] at e2
    obtain ⟨rfl, rfl, rfl⟩ := e2
    exact q
  | rt d =>
    simp only [Option.some.injEq, Prod.mk.injEq] at e2
    obtain ⟨rfl, rfl, rfl⟩ := e2
    exact q
  | ex i =>
    simp only [Option.some.injEq, Prod.mk.injEq] at e2
    obtain ⟨rfl, rfl, rfl⟩ := e2
    exact q
theorem qss_one (h1 : PS X st (tS g W sa)) : PSs X [st] (tS g W sa) := pss_one h1
theorem qs_pass : PS X (.Pass pos) (tS g W sSkip) := PS.imp ps_pass fun D σ H h => by
  obtain ⟨S, loc, ρ, fl, ρ', S', A, R, e, q⟩ := h
  simp only [sSkip, Option.some.injEq, Prod.mk.injEq] at e
  obtain ⟨rfl, rfl, rfl⟩ := e
  exact q σ loc H A .refl R
theorem qs_never : PS X st (tS g W sNever) := PS.imp ps_never fun D σ H h => by
  obtain ⟨S, loc, ρ, fl, ρ', S', A, R, e, q⟩ := h
  cases e
theorem qs_ret (he : PE X e (tE g fa)) : PS X (.Return (some e) pos) (tS g W (sRet fa)) := PS.imp (ps_ret he) fun D σ H h => by
  obtain ⟨S, loc, ρ, fl, ρ', S', A, R, e, q⟩ := h
  unfold sRet at e
  obtain ⟨⟨d, S1⟩, e1, e2⟩ := Option.bind_eq_some_iff.mp e
  simp only [Option.some.injEq, Prod.mk.injEq] at e2
  obtain ⟨rfl, rfl, rfl⟩ := e2
  exact ⟨S, loc, ρ, d, S1, A, R, e1, q⟩
theorem qs_retN : PS X (.Return none pos) (tS g W sRetN) := PS.imp ps_retN fun D σ H h => by
  obtain ⟨S, loc, ρ, fl, ρ', S', A, R, e, q⟩ := h
  simp only [sRetN, Option.some.injEq, Prod.mk.injEq] at e
  obtain ⟨rfl, rfl, rfl⟩ := e
  exact q _ loc H A .refl .non
theorem qs_exp (he : PE X e (tE g fa)) (hs : swapsWith e none pos.line X.env = pure false := by rfl) : PS X (.Expr e pos) (tS g W (sExp fa)) := PS.imp (ps_expr he hs) fun D σ H h => by
  obtain ⟨S, loc, ρ, fl, ρ', S', A, R, e, q⟩ := h
  unfold sExp at e
  obtain ⟨⟨d, S1⟩, e1, e2⟩ := Option.bind_eq_some_iff.mp e
  simp only [Option.some.injEq, Prod.mk.injEq] at e2
  obtain ⟨rfl, rfl, rfl⟩ := e2
  exact ⟨S, loc, ρ, d, S1, A, R, e1, fun v loc1 H1 A1 x1 r1 => q σ loc1 H1 A1 x1 (R.ext A x1)⟩
theorem qs_if {c : Expr} {a b : List Stmt} (hc : PT X c (tB g ba)) (ha : PSs X a (tS g W sa)) (hb : PSs X b (tS g W sb)) : PS X (.If c a b pos) (tS g W (sIf ba sa sb)) := PS.imp (ps_if hc ha hb) fun D σ H h => by
  obtain ⟨S, loc, ρ, fl, ρ', S', A, R, e, q⟩ := h
  unfold sIf at e
  obtain ⟨⟨d, S1⟩, e1, e2⟩ := Option.bind_eq_some_iff.mp e
  refine ⟨S, loc, ρ, d, S1, A, R, e1, fun loc1 H1 A1 x1 => ?_⟩
  have fin : ∀ {f : MS}, f ρ S1 = some (fl, ρ', S') → tS g W f D σ H1 := fun {f} ef => by
    refine ⟨S1, loc1, ρ, fl, ρ', S', A1, R.ext A x1, ef, ?_⟩
    cases fl with
    | nx => exact fun σ2 loc2 H2 A2 x2 R2 => q σ2 loc2 H2 A2 (x1.trans x2) R2
    | bk => exact fun σ2 loc2 H2 A2 x2 R2 => q σ2 loc2 H2 A2 (x1.trans x2) R2
    | ct => exact fun σ2 loc2 H2 A2 x2 R2 => q σ2 loc2 H2 A2 (x1.trans x2) R2
    | rt d => exact fun v loc2 H2 A2 x2 R2 => q v loc2 H2 A2 (x1.trans x2) R2
    | ex i => exact fun σ2 loc2 H2 cls dx A2 x2 R2 ed => q σ2 loc2 H2 cls dx A2 (x1.trans x2) R2 ed
  cases d with
  | true => simp only [if_true] at e2; exact iteT (fin e2)
  | false => simp only [Bool.false_eq_true, if_false] at e2; exact iteF (fin e2)
theorem qs_set {i : Nat} {pos' : Pos} (hN : X.N.Nodup) (hi : X.N[i]? = some x) (hx : L2.Loc X.env.scope x) (he : PE X e (tE g fa)) (hs : swapsWith e (some (.Name x pos')) pos.line X.env = pure false := by rfl) (hf : X.fn x = true ∨ X.env.scope.names.lookup x = some .local := by first | exact .inl rfl | exact .inr rfl | assumption) :
    PS X (.Assign [.Name x pos'] e pos) (tS g W (sSet i fa)) := PS.imp (ps_set hN hi hx he hs hf) fun D σ H h => by
  obtain ⟨S, loc, ρ, fl, ρ', S', A, R, e, q⟩ := h
  unfold sSet at e
  obtain ⟨⟨d, S1⟩, e1, e2⟩ := Option.bind_eq_some_iff.mp e
  simp only [Option.some.injEq, Prod.mk.injEq] at e2
  obtain ⟨rfl, rfl, rfl⟩ := e2
  exact ⟨S, loc, ρ, d, S1, A, R, e1, fun v loc1 H1 A1 x1 r1 => q _ loc1 H1 A1 x1 ((R.ext A x1).set r1 i)⟩
end
end G3
set_option maxHeartbeats 4000000
/-! G3: targets, sources, for, comprehensions, locks; a def's promise by its body. -/
namespace G3
open PySem PySem.Spec PyProof.Rows L2

/-! ### targets: a name, a tuple of names -/
abbrev MT := D → En → Option En
def gN (i : Nat) : MT := fun d ρ => some (ρ.set i (some d))
def setAll : List Nat → List D → En → Option En
  | [], [], ρ => some ρ
  | i :: is, d :: ds, ρ => setAll is ds (ρ.set i (some d))
  | _, _, _ => none
def gT (is : List Nat) : MT := fun d ρ => match d with
  | .tup l => setAll is l ρ
  | _ => none
/-- what a target's function says; it stores only at vs -/
def gM (g : G) (T : MT) (vs : List Nat) : TG := fun v σ H Q => ∃ S loc ρ d ρ', Abs g S loc H ∧ REn g S loc H ρ σ ∧ Rep g S loc H d v ∧ T d ρ = some ρ' ∧
  ∀ σ', REn g S loc H ρ' σ' → σ'.length = σ.length → (∀ i : Nat, i ∉ vs → σ'[i]? = σ[i]?) → Q σ' H
def gNames : List Nat → TGs
  | [] => gNil
  | i :: is => gCons (gName i) (gNames is)
section
variable {X : Cx} {g : G} {σ : L2.St} {H : Hp} {W : WX}
theorem PG.imp {e : Expr} {t t' : TG} (h : PG X e t) (k : ∀ v σ H Q, t' v σ H Q → t v σ H Q) : PG X e t' := ⟨fun pins s σ H v u Q I r q => h.run pins s σ H v u Q I r (k _ _ _ _ q)⟩
theorem qg_name {i : Nat} {x : Str} {pos : Pos} (hN : X.N.Nodup) (hi : X.N[i]? = some x) (hx : L2.Loc X.env.scope x) (hf : X.fn x = true ∨ X.env.scope.names.lookup x = some .local := by first | exact .inl rfl | exact .inr rfl | assumption) : PG X (.Name x pos) (gM g (gN i) [i]) :=
  PG.imp (pg_name hN hi hx hf) fun v σ H Q h => by
    obtain ⟨S, loc, ρ, d, ρ', A, R, r, e, q⟩ := h
    simp only [gN, Option.some.injEq] at e
    subst e
    exact q _ (R.set r i) (by simp) fun j hj => by
      rw [List.getElem?_set_ne]
      intro e; subst e; exact hj (by simp)
theorem gNames_ok {S : S3} {loc : Loc} : ∀ {is : List Nat} {l : List D} {vs : List V} {ρ ρ' : En} {σ : L2.St} {Q : L2.St → Hp → Prop}, Reps g S loc H l vs → REn g S loc H ρ σ → setAll is l ρ = some ρ' →
    (∀ σ', REn g S loc H ρ' σ' → σ'.length = σ.length → (∀ i : Nat, i ∉ is → σ'[i]? = σ[i]?) → Q σ' H) → gNames is vs σ H Q
  | [], _, _, _, _, _, _, .nil, R, e, q => by
    simp only [setAll, Option.some.injEq] at e
    subst e
    exact ⟨rfl, q _ R rfl fun _ _ => rfl⟩
  | [], _, _, _, _, _, _, .cons _ _, _, e, _ => by simp [setAll] at e
  | i :: is, _, _, _, _, _, _, .nil, _, e, _ => by simp [setAll] at e
  | i :: is, _, _, ρ, ρ', σ, Q, .cons a b, R, e, q => by
    simp only [setAll] at e
    refine ⟨_, _, rfl, ?_⟩
    show gNames is _ (σ.set i _) H Q
    refine gNames_ok b (R.set a i) e fun σ' R' hl hk => q σ' R' (by rw [hl]; simp) fun j hj => ?_
    have h1 : j ∉ is := fun m => hj (List.mem_cons_of_mem _ m)
    have h2 : i ≠ j := fun z => hj (by rw [z]; exact List.mem_cons_self)
    rw [hk j h1, List.getElem?_set_ne h2]
theorem setAll_len : ∀ {is : List Nat} {l : List D} {ρ ρ' : En}, setAll is l ρ = some ρ' → l.length = is.length
  | [], [], _, _, _ => rfl
  | [], _ :: _, _, _, e => by simp [setAll] at e
  | _ :: _, [], _, _, e => by simp [setAll] at e
  | _ :: is, _ :: l, _, _, e => by simp only [setAll] at e; rw [List.length_cons, List.length_cons, setAll_len e]
theorem Rep.tupSq {S : S3} {loc : Loc} {l : List D} {v : V} (r : Rep g S loc H (.tup l) v) : ∃ p xs, v = .ref p ∧ SqT g.K H p xs ∧ Reps g S loc H l xs := by
  cases r with
  | tup h r => exact ⟨_, _, rfl, SqT.of h, r⟩
theorem qg_tup {es : List Expr} {k : Nat} {is : List Nat} {pos : Pos} (hK : X.K = g.K) (hc : X.calm = true) (h : PGs X es (gNames is))
    (hn : (assignEach es X.env).length = is.length := by rfl) (hst : (assignEach es X.env).findIdx? (·.1) = none := by rfl) : PG X (.Tuple es k pos) (gM g (gT is) is) :=
  PG.imp (pg_tup hc h hn hst) fun v σ H Q h => by
    obtain ⟨S, loc, ρ, d, ρ', A, R, r, e, q⟩ := h
    unfold gT at e
    split at e
    · rename_i l
      obtain ⟨p, xs, rfl, hs, rs⟩ := r.tupSq
      exact ⟨p, xs, rfl, by rw [hK]; exact hs, by rw [← rs.length, setAll_len e], gNames_ok rs R e q⟩
    · cases e
def sAsg (T : MT) (e : ME) : MS := fun ρ S => (e ρ S).bind fun r => (T r.1 ρ).bind fun ρ' => some (.nx, ρ', r.2)
theorem qs_asg {tg e : Expr} {fa : ME} {T : MT} {vs : List Nat} {pos : Pos} (he : PE X e (tE g fa)) (hg : PG X tg (gM g T vs)) (hs : swapsWithSole [tg] e pos.line X.env = pure false := by rfl) (hw : swappedStores [tg] e X.env = pure none := by rfl)
    (h1 : (assignEach [tg] X.env).map (·.2) = [assign tg X.env] := by rfl) : PS X (.Assign [tg] e pos) (tS g W (sAsg T fa)) := PS.imp (ps_asg he hg hs hw h1) fun D σ H h => by
  obtain ⟨S, loc, ρ, fl, ρ', S', A, R, e, q⟩ := h
  unfold sAsg at e
  obtain ⟨⟨d, S1⟩, e1, e⟩ := Option.bind_eq_some_iff.mp e
  obtain ⟨ρ1, e2, e3⟩ := Option.bind_eq_some_iff.mp e
  simp only [Option.some.injEq, Prod.mk.injEq] at e3
  obtain ⟨rfl, rfl, rfl⟩ := e3
  exact ⟨S, loc, ρ, d, S1, A, R, e1, fun v loc1 H1 A1 x1 r1 => ⟨S1, loc1, ρ, d, ρ1, A1, R.ext A x1, r1, e2, fun σ' R' _ _ => q σ' loc1 H1 A1 x1 R'⟩⟩
/-- a, b = x, y -/
def sPar (i j : Nat) (as : MA) : MS := fun ρ S => (as ρ S).bind fun r => match r.1 with
  | [a, b] => some (.nx, (ρ.set i (some a)).set j (some b), r.2)
  | _ => none
theorem qs_par {i j : Nat} {x y : Str} {a b : Expr} {as : MA} {px py pt pos : Pos} {kt k2 pt2} (hc : X.calm = true) (hN : X.N.Nodup) (hi : X.N[i]? = some x) (hj : X.N[j]? = some y) (hij : i ≠ j)
    (hx : X.env.scope.names.lookup x = some .local) (hy : X.env.scope.names.lookup y = some .local) (ha : PA X [a, b] (tA g as))
    (hw : swappedStores [.Tuple [.Name x px, .Name y py] kt pt] (.Tuple [a, b] k2 pt2) X.env = pure (some [x, y]) := by rfl)
    (hs : swapsWithSole [.Tuple [.Name x px, .Name y py] kt pt] (.Tuple [a, b] k2 pt2) pos.line X.env = pure false := by rfl) :
    PS X (.Assign [.Tuple [.Name x px, .Name y py] kt pt] (.Tuple [a, b] k2 pt2) pos) (tS g W (sPar i j as)) := PS.imp (ps_par hc hN hi hj hij hx hy ha hw hs) fun D σ H h => by
  obtain ⟨S, loc, ρ, fl, ρ', S', A, R, e, q⟩ := h
  unfold sPar at e
  obtain ⟨⟨ds, S1⟩, e1, e⟩ := Option.bind_eq_some_iff.mp e
  simp only at e
  split at e
  · simp only [Option.some.injEq, Prod.mk.injEq] at e
    obtain ⟨rfl, rfl, rfl⟩ := e
    refine ⟨S, loc, ρ, _, S1, A, R, e1, fun vs loc1 H1 A1 x1 r1 => ?_⟩
    cases r1 with
    | cons ra r1 => cases r1 with
      | cons rb r1 =>
        cases r1
        exact ⟨_, _, rfl, q _ loc1 H1 A1 x1 (((R.ext A x1).set ra i).set rb j)⟩
  · cases e
/-- o[i] = e -/
def sSub (k : D → D → D → S3 → Option S3) (o i e : ME) : MS := fun ρ S => (e ρ S).bind fun r => (o ρ r.2).bind fun p => (i ρ p.2).bind fun q => (k p.1 q.1 r.1 q.2).bind fun S' => some (.nx, ρ, S')
def rK3 (g : G) (k : D → D → D → S3 → Option S3) : V → V → V → Hp → (Hp → Prop) → Prop := fun o i v H Q => ∃ S loc d e z S', Abs g S loc H ∧ Rep g S loc H d o ∧ Rep g S loc H e i ∧ Rep g S loc H z v ∧ k d e z S = some S' ∧
  ∀ loc' H', Abs g S' loc' H' → Ext S loc H S' loc' H' → Q H'
theorem PSet.imp {t t' : V → V → V → Hp → (Hp → Prop) → Prop} (h : PSet X t) (k : ∀ o i v H Q, t' o i v H Q → t o i v H Q) : PSet X t' := by
  intro pins s σ H o i v ov iv w Q I r1 r2 r3 q
  exact h pins s σ H o i v ov iv w Q I r1 r2 r3 (k _ _ _ _ _ q)
theorem qs_sub {o i e : Expr} {fo fi fa : ME} {k : D → D → D → S3 → Option S3} {pos p2 : Pos} (he : PE X e (tE g fa)) (ho : PE X o (tE g fo)) (hi : PE X i (tE g fi)) (hk : PSet X (rK3 g k))
    (ha : ∀ v, assign (.Subscript o i p2) X.env v = (do
      let ov ← holding [v] (eval o X.env)
      let iv ← holding [v, ov] (eval i X.env)
      standAt p2
      holding [v, ov, iv] (setItem ov iv v)
      release [v, ov, iv] []) := by intro _; rfl)
    (hs : swapsWithSole [.Subscript o i p2] e pos.line X.env = pure false := by rfl) (hw : swappedStores [.Subscript o i p2] e X.env = pure none := by rfl)
    (h1 : (assignEach [.Subscript o i p2] X.env).map (·.2) = [assign (.Subscript o i p2) X.env] := by rfl) : PS X (.Assign [.Subscript o i p2] e pos) (tS g W (sSub k fo fi fa)) :=
  PS.imp (ps_asg he (pg_sub ho hi hk ha) hs hw h1) fun D σ H h => by
  obtain ⟨S, loc, ρ, fl, ρ', S', A, R, e, q⟩ := h
  unfold sSub at e
  obtain ⟨⟨d, S1⟩, e1, e⟩ := Option.bind_eq_some_iff.mp e
  obtain ⟨⟨d2, S2⟩, e2, e⟩ := Option.bind_eq_some_iff.mp e
  obtain ⟨⟨d3, S3⟩, e3, e⟩ := Option.bind_eq_some_iff.mp e
  obtain ⟨S4, e4, e5⟩ := Option.bind_eq_some_iff.mp e
  simp only [Option.some.injEq, Prod.mk.injEq] at e5
  obtain ⟨rfl, rfl, rfl⟩ := e5
  exact ⟨S, loc, ρ, d, S1, A, R, e1, fun v loc1 H1 A1 x1 r1 => ⟨S1, loc1, ρ, d2, S2, A1, R.ext A x1, e2, fun w loc2 H2 A2 x2 r2 => ⟨S2, loc2, ρ, d3, S3, A2, (R.ext A x1).ext A1 x2, e3, fun u loc3 H3 A3 x3 r3 =>
    ⟨S3, loc3, d2, d3, d, S4, A3, r2.ext A2 x3, r3, (r1.ext A1 x2).ext A2 x3, e4, fun loc4 H4 A4 x4 => q σ loc4 H4 A4 (((x1.trans x2).trans x3).trans x4) ((((R.ext A x1).ext A1 x2).ext A2 x3).ext A3 x4)⟩⟩⟩⟩
end

/-! ### sources -/
inductive Src where
  | seq (d : D) (l : List D) | rng (lo c : Int) (n : Nat) | txt (x : Str) | enm (d : D) (l : List D) | key (n : Nat) (ks : List D) | etx (x : Str)
def signs (x : Str) : List D := x.cps.toList.map fun c => D.str ⟨#[c]⟩
def pairsFrom : Nat → List D → List D
  | _, [] => []
  | k, d :: l => .tup [.int k, d] :: pairsFrom (k + 1) l
def Src.items : Src → List D
  | .seq _ l => l
  | .rng lo c n => (List.range n).map fun (i : Nat) => D.int (lo + (i : Int) * c)
  | .txt x => signs x
  | .enm _ l => pairsFrom 0 l
  | .key _ ks => ks
  | .etx x => pairsFrom 0 (signs x)
def listOf (S : S3) : D → Option (List D)
  | .lst l => some l
  | .scr l => some l
  | .ref n => match S.ob n with
    | some (.lst l) => some l
    | _ => none
  | _ => none
def seqOf (S : S3) : D → Option (List D)
  | .tup l => some l
  | d => listOf S d
def Src.valid (S : S3) : Src → Bool
  | .seq d l => decide (seqOf S d = some l)
  | .enm d l => decide (listOf S d = some l)
  | .key n ks => match S.ob n with
    | some (.lok kvs) => decide (kvs.map (·.1) = ks)
    | _ => false
  | _ => true
abbrev MI := En → M Src
def tI (g : G) (f : MI) (ok : Src → S3 → Loc → Hp → It → Prop) : TI := fun σ H R => ∃ S loc ρ src S', Abs g S loc H ∧ REn g S loc H ρ σ ∧ f ρ S = some (src, S') ∧
  ∀ J loc' H', Abs g S' loc' H' → Ext S loc H S' loc' H' → ok src S' loc' H' J → R J H'
/-- the walk J gives the source's items, while it stands -/
structure SrcOk (g : G) (src : Src) (S0 : S3) (loc0 : Loc) (H0 : Hp) (J : It) : Prop where
  go : ∀ (i : Nat) S loc H, i < src.items.length → Ext S0 loc0 H0 S loc H → Abs g S loc H → src.valid S = true → J.go i H
  stop : ∀ S loc H, Ext S0 loc0 H0 S loc H → Abs g S loc H → src.valid S = true → J.stop src.items.length H
  yld : ∀ (i : Nat) S loc H x H', i < src.items.length → Ext S0 loc0 H0 S loc H → Abs g S loc H → src.valid S = true → J.yld i H x H' → ∃ d, src.items[i]? = some d ∧ Abs g S loc H' ∧ Ext S loc H S loc H' ∧ Rep g S loc H' d x
section
variable {X : Cx} {g : G} {W : WX}
theorem PI.imp {tg e : Expr} {t t' : TI} (h : PI X tg e t) (k : ∀ σ H R, t' σ H R → t σ H R) : PI X tg e t' := ⟨fun pins s σ H R I q => h.run pins s σ H R I (k _ _ _ q)⟩
/-- a list's place -/
theorem listOf_sq {S : S3} {loc : Loc} {H : Hp} {d : D} {v : V} {l : List D} (A : Abs g S loc H) (r : Rep g S loc H d v) (h : listOf S d = some l) : ∃ p xs, v = .ref p ∧ SqL g.K H p xs ∧ Reps g S loc H l xs := by
  unfold listOf at h
  split at h
  · simp only [Option.some.injEq] at h; subst h
    cases r with
    | lst h1 _ rs => exact ⟨_, _, rfl, SqL.of h1, rs⟩
  · simp only [Option.some.injEq] at h; subst h
    cases r with
    | scr h1 _ rs => exact ⟨_, _, rfl, .inl h1, rs⟩
    | kscr h1 rs =>
      obtain ⟨o, its, n, a1, a2, a3, a4, a5, a6⟩ := h1
      exact ⟨_, _, rfl, .inr ⟨o, its, n, a1, a2, a3 rfl, a4, a5, a6⟩, rs⟩
  · split at h
    · rename_i n _ l' e
      simp only [Option.some.injEq] at h; subst h
      cases r with
      | ref hlt =>
        obtain ⟨xs, h1, rs⟩ := A.ob _ _ e
        exact ⟨_, xs, rfl, SqL.of h1, rs⟩
    · cases h
  · cases h
theorem src_list {S0 : S3} {loc0 : Loc} {H0 : Hp} {d : D} {l : List D} {p : Addr} (A0 : Abs g S0 loc0 H0) (r : Rep g S0 loc0 H0 d (.ref p)) (h : listOf S0 d = some l) : SrcOk g (.seq d l) S0 loc0 H0 (Itl g.K p) := by
  have hd : ∀ l', d ≠ .tup l' := fun l' e => by subst e; simp [listOf] at h
  have at_ : ∀ S loc H, Ext S0 loc0 H0 S loc H → Abs g S loc H → (Src.seq d l).valid S = true → ∃ xs, SqL g.K H p xs ∧ Reps g S loc H l xs := fun S loc H x A v => by
    have v' : seqOf S d = some l := of_decide_eq_true v
    have v2 : listOf S d = some l := by
      unfold seqOf at v'
      split at v'
      · rename_i l' ; exact absurd rfl (hd l')
      · exact v'
    obtain ⟨q, xs, e, hs, rs⟩ := listOf_sq A (r.ext A0 x) v2
    cases e
    exact ⟨xs, hs, rs⟩
  refine ⟨fun i S loc H hi x A v => ?_, fun S loc H x A v => ?_, fun i S loc H y H' hi x A v hy => ?_⟩
  · obtain ⟨xs, hs, rs⟩ := at_ S loc H x A v
    obtain ⟨w, hw, _⟩ := rs.get (List.getElem?_eq_getElem hi)
    exact ⟨xs, w, hs, hw⟩
  · obtain ⟨xs, hs, rs⟩ := at_ S loc H x A v
    exact ⟨xs, hs, by rw [← rs.length]; exact Nat.le_refl _⟩
  · obtain ⟨xs, hs, rs⟩ := at_ S loc H x A v
    obtain ⟨rfl, hy⟩ := hy
    obtain ⟨d', e1, r1⟩ := rs.get' (hy xs hs)
    exact ⟨d', e1, A, .refl, r1⟩
theorem src_tup {S0 : S3} {loc0 : Loc} {H0 : Hp} {l : List D} {p : Addr} (A0 : Abs g S0 loc0 H0) (r : Rep g S0 loc0 H0 (.tup l) (.ref p)) : SrcOk g (.seq (.tup l) l) S0 loc0 H0 (Itt g.K p) := by
  have at_ : ∀ S loc H, Ext S0 loc0 H0 S loc H → ∃ xs, SqT g.K H p xs ∧ Reps g S loc H l xs := fun S loc H x => by
    obtain ⟨q, xs, e, hs, rs⟩ := (r.ext A0 x).tupSq
    cases e
    exact ⟨xs, hs, rs⟩
  refine ⟨fun i S loc H hi x A v => ?_, fun S loc H x A v => ?_, fun i S loc H y H' hi x A v hy => ?_⟩
  · obtain ⟨xs, hs, rs⟩ := at_ S loc H x
    obtain ⟨w, hw, _⟩ := rs.get (List.getElem?_eq_getElem hi)
    exact ⟨xs, w, hs, hw⟩
  · obtain ⟨xs, hs, rs⟩ := at_ S loc H x
    exact ⟨xs, hs, by rw [← rs.length]; exact Nat.le_refl _⟩
  · obtain ⟨xs, hs, rs⟩ := at_ S loc H x
    obtain ⟨rfl, hy⟩ := hy
    obtain ⟨d', e1, r1⟩ := rs.get' (hy xs hs)
    exact ⟨d', e1, A, .refl, r1⟩
def iSeq (a : ME) : MI := fun ρ S => (a ρ S).bind fun r => match listOf r.2 r.1 with
  | some l => some (.seq r.1 l, r.2)
  | none => none
def iTupl (a : ME) : MI := fun ρ S => (a ρ S).bind fun r => match r.1 with
  | .tup l => some (.seq (.tup l) l, r.2)
  | _ => none
theorem qi_list {tg l : Expr} {fa : ME} (hK : X.K = g.K) (hl : PE X l (tE g fa)) : PI X tg l (tI g (iSeq fa) (SrcOk g)) := PI.imp (pi_list hl) fun σ H Q h => by
  obtain ⟨S, loc, ρ, src, S', A, R, e, q⟩ := h
  unfold iSeq at e
  obtain ⟨⟨d, S1⟩, e1, e2⟩ := Option.bind_eq_some_iff.mp e
  simp only at e2
  split at e2
  · rename_i l hl
    simp only [Option.some.injEq, Prod.mk.injEq] at e2
    obtain ⟨rfl, rfl⟩ := e2
    refine ⟨S, loc, ρ, d, S1, A, R, e1, fun v loc1 H1 A1 x1 r1 => ?_⟩
    obtain ⟨p, xs, rfl, hs, rs⟩ := listOf_sq A1 r1 hl
    exact ⟨p, rfl, ⟨xs, by rw [hK]; exact hs⟩, by rw [hK]; exact q _ loc1 H1 A1 x1 (src_list A1 r1 hl)⟩
  · cases e2
theorem qi_tup {tg l : Expr} {fa : ME} (hK : X.K = g.K) (hl : PE X l (tE g fa)) : PI X tg l (tI g (iTupl fa) (SrcOk g)) := PI.imp (pi_tup hl) fun σ H Q h => by
  obtain ⟨S, loc, ρ, src, S', A, R, e, q⟩ := h
  unfold iTupl at e
  obtain ⟨⟨d, S1⟩, e1, e2⟩ := Option.bind_eq_some_iff.mp e
  simp only at e2
  split at e2
  · rename_i l
    simp only [Option.some.injEq, Prod.mk.injEq] at e2
    obtain ⟨rfl, rfl⟩ := e2
    refine ⟨S, loc, ρ, .tup l, S1, A, R, e1, fun v loc1 H1 A1 x1 r1 => ?_⟩
    obtain ⟨p, xs, rfl, hs, rs⟩ := r1.tupSq
    exact ⟨p, rfl, ⟨xs, by rw [hK]; exact hs⟩, by rw [hK]; exact q _ loc1 H1 A1 x1 (src_tup A1 r1)⟩
  · cases e2
/-- a text -/
theorem src_str {S0 : S3} {loc0 : Loc} {H0 : Hp} {x : Str} : SrcOk g (.txt x) S0 loc0 H0 (Its x) := by
  have hl : (signs x).length = x.cps.size := by simp [signs]
  refine ⟨fun i S loc H hi _ A v => ?_, fun S loc H _ A v => ?_, fun i S loc H y H' hi _ A v hy => ?_⟩
  · rw [show (Src.txt x).items = signs x from rfl, hl] at hi; exact hi
  · show x.cps.size ≤ (signs x).length
    rw [hl]; exact Nat.le_refl _
  · obtain ⟨rfl, c, hc, rfl⟩ := hy
    refine ⟨.str ⟨#[c]⟩, ?_, A, .refl, .str _⟩
    show (signs x)[i]? = _
    unfold signs
    rw [List.getElem?_map, Array.getElem?_toList, hc]; rfl
def iTxt (a : ME) : MI := fun ρ S => (a ρ S).bind fun r => match r.1 with
  | .str x => some (.txt x, r.2)
  | _ => none
theorem qi_str {tg l : Expr} {fa : ME} (hl : PE X l (tE g fa)) : PI X tg l (tI g (iTxt fa) (SrcOk g)) := PI.imp (pi_str hl) fun σ H Q h => by
  obtain ⟨S, loc, ρ, src, S', A, R, e, q⟩ := h
  unfold iTxt at e
  obtain ⟨⟨d, S1⟩, e1, e2⟩ := Option.bind_eq_some_iff.mp e
  simp only at e2
  split at e2
  · rename_i x
    simp only [Option.some.injEq, Prod.mk.injEq] at e2
    obtain ⟨rfl, rfl⟩ := e2
    exact ⟨S, loc, ρ, .str x, S1, A, R, e1, fun v loc1 H1 A1 x1 r1 => by cases r1; exact ⟨x, rfl, q _ loc1 H1 A1 x1 src_str⟩⟩
  · cases e2
/-- ranges -/
theorem range_items {lo c : Int} {n i : Nat} (h : i < n) : (Src.rng lo c n).items[i]? = some (.int (lo + (i : Int) * c)) := by
  show ((List.range n).map _)[i]? = _
  rw [List.getElem?_map, List.getElem?_range h]; rfl
theorem src_rng {S0 : S3} {loc0 : Loc} {H0 : Hp} {lo : Int} {n : Nat} : SrcOk g (.rng lo 1 n) S0 loc0 H0 (Itr lo n) := by
  have hl : (Src.rng lo 1 n).items.length = n := by simp [Src.items]
  refine ⟨fun i S loc H hi _ A v => by rw [hl] at hi; exact hi, fun S loc H _ A v => by rw [hl]; exact Nat.le_refl _, fun i S loc H y H' hi _ A v hy => ?_⟩
  rw [hl] at hi
  obtain ⟨rfl, rfl⟩ := hy
  exact ⟨_, range_items hi, A, .refl, by rw [Int.mul_one]; exact .int _⟩
theorem src_rngC {S0 : S3} {loc0 : Loc} {H0 : Hp} {lo c : Int} {n : Nat} : SrcOk g (.rng lo c n) S0 loc0 H0 (Itc lo c n) := by
  have hl : (Src.rng lo c n).items.length = n := by simp [Src.items]
  refine ⟨fun i S loc H hi _ A v => by rw [hl] at hi; exact hi, fun S loc H _ A v => by rw [hl]; exact Nat.le_refl _, fun i S loc H y H' hi _ A v hy => ?_⟩
  rw [hl] at hi
  obtain ⟨rfl, rfl⟩ := hy
  exact ⟨_, range_items hi, A, .refl, .int _⟩
def rOk (i : Int) : Bool := decide (-(2 ^ 62) ≤ i) && decide (i < 2 ^ 62)
def iRng (a : MA) : MI := fun ρ S => (a ρ S).bind fun r => match r.1 with
  | [.int j] => if rOk j then some (.rng 0 1 j.toNat, r.2) else none
  | [.int i, .int j] => if rOk i && rOk j then some (.rng i 1 (j - i).toNat, r.2) else none
  | _ => none
theorem rOk_ok {i : Int} (h : rOk i = true) : -(2 ^ 62) ≤ i ∧ i < 2 ^ 62 := by
  unfold rOk at h
  rw [Bool.and_eq_true, decide_eq_true_eq, decide_eq_true_eq] at h
  exact h
theorem qi_range1 {tg a : Expr} {as : ME} {p pos : Pos} (hg : Gl X "range") (hm : X.mg "range" = none) (ha : PA X [a] (tA g (aCons as aNil))) (hs : starEach [a] X.env = [(false, eval a X.env)] := by rfl) : PI X tg (.Call (.Name "range" p) [a] [] pos) (tI g (iRng (aCons as aNil)) (SrcOk g)) :=
  PI.imp (pi_range1 hg hm ha hs) fun σ H Q h => by
  obtain ⟨S, loc, ρ, src, S', A, R, e, q⟩ := h
  unfold iRng at e
  obtain ⟨⟨ds, S1⟩, e1, e2⟩ := Option.bind_eq_some_iff.mp e
  have hl : ds.length = 1 := by
    simp only [aCons, aNil] at e1
    obtain ⟨⟨d, S2⟩, e3, e4⟩ := Option.bind_eq_some_iff.mp e1
    simp only [Option.bind_some, Option.some.injEq, Prod.mk.injEq] at e4
    rw [← e4.1]; rfl
  simp only at e2
  split at e2
  · rename_i j
    split at e2
    · rename_i hj
      simp only [Option.some.injEq, Prod.mk.injEq] at e2
      obtain ⟨rfl, rfl⟩ := e2
      refine ⟨S, loc, ρ, _, S1, A, R, e1, fun vs loc1 H1 A1 x1 r1 => ?_⟩
      cases r1 with
      | cons ra r1 =>
        cases ra; cases r1
        exact ⟨j, rfl, (rOk_ok hj).1, (rOk_ok hj).2, q _ loc1 H1 A1 x1 src_rng⟩
    · cases e2
  · simp at hl
  · cases e2
theorem qi_range2 {tg a b : Expr} {as bs : ME} {p pos : Pos} (hg : Gl X "range") (hm : X.mg "range" = none) (ha : PA X [a, b] (tA g (aCons as (aCons bs aNil)))) (hs : starEach [a, b] X.env = [(false, eval a X.env), (false, eval b X.env)] := by rfl) (hs2 : starEach [b] X.env = [(false, eval b X.env)] := by rfl) :
    PI X tg (.Call (.Name "range" p) [a, b] [] pos) (tI g (iRng (aCons as (aCons bs aNil))) (SrcOk g)) :=
  PI.imp (pi_range2 hg hm ha hs hs2) fun σ H Q h => by
  obtain ⟨S, loc, ρ, src, S', A, R, e, q⟩ := h
  unfold iRng at e
  obtain ⟨⟨ds, S1⟩, e1, e2⟩ := Option.bind_eq_some_iff.mp e
  have hl : ds.length = 2 := by
    simp only [aCons, aNil] at e1
    obtain ⟨⟨d, S2⟩, e3, e4⟩ := Option.bind_eq_some_iff.mp e1
    obtain ⟨⟨d2, S3⟩, e5, e6⟩ := Option.bind_eq_some_iff.mp e4
    obtain ⟨⟨d3, S4⟩, e7, e8⟩ := Option.bind_eq_some_iff.mp e5
    simp only [Option.bind_some, Option.some.injEq, Prod.mk.injEq] at e6 e8
    rw [← e6.1, ← e8.1]; rfl
  simp only at e2
  split at e2
  · simp at hl
  · rename_i i j
    split at e2
    · rename_i hj
      rw [Bool.and_eq_true] at hj
      simp only [Option.some.injEq, Prod.mk.injEq] at e2
      obtain ⟨rfl, rfl⟩ := e2
      refine ⟨S, loc, ρ, _, S1, A, R, e1, fun vs loc1 H1 A1 x1 r1 => ?_⟩
      cases r1 with
      | cons ra r1 => cases r1 with
        | cons rb r1 =>
          cases ra; cases rb; cases r1
          exact ⟨i, j, rfl, ⟨(rOk_ok hj.1).1, (rOk_ok hj.1).2, (rOk_ok hj.2).1, (rOk_ok hj.2).2⟩, q _ loc1 H1 A1 x1 src_rng⟩
    · cases e2
  · cases e2
/-- enumerate(list) -/
theorem pairs_get : ∀ {k i : Nat} {l : List D} {d : D}, l[i]? = some d → (pairsFrom k l)[i]? = some (.tup [.int ((k + i : Nat) : Int), d])
  | _, _, [], _, h => by simp at h
  | k, 0, d :: l, e, h => by simp at h; subst h; rfl
  | k, i + 1, d :: l, e, h => by
    have q := pairs_get (k := k + 1) (i := i) (l := l) (d := e) (by simpa using h)
    rw [show k + 1 + i = k + (i + 1) by omega] at q
    exact q
theorem pairs_len : ∀ (k : Nat) (l : List D), (pairsFrom k l).length = l.length
  | _, [] => rfl
  | k, d :: l => by show (pairsFrom (k + 1) l).length + 1 = _; rw [pairs_len]; rfl
def iEnm (a : MA) : MI := fun ρ S => (a ρ S).bind fun r => match r.1 with
  | [d] => match listOf r.2 d with
    | some l => some (.enm d l, r.2)
    | none => none
  | _ => none
theorem src_enm {S0 : S3} {loc0 : Loc} {H0 : Hp} {d : D} {l : List D} {p : Addr} (A0 : Abs g S0 loc0 H0) (r : Rep g S0 loc0 H0 d (.ref p)) : SrcOk g (.enm d l) S0 loc0 H0 (Ite g.K p) := by
  have at_ : ∀ S loc H, Ext S0 loc0 H0 S loc H → Abs g S loc H → (Src.enm d l).valid S = true → ∃ xs, SqL g.K H p xs ∧ Reps g S loc H l xs := fun S loc H x A v => by
    have v' : listOf S d = some l := of_decide_eq_true v
    obtain ⟨q, xs, e, hs, rs⟩ := listOf_sq A (r.ext A0 x) v'
    cases e
    exact ⟨xs, hs, rs⟩
  have hl : (Src.enm d l).items.length = l.length := pairs_len 0 l
  refine ⟨fun i S loc H hi x A v => ?_, fun S loc H x A v => ?_, fun i S loc H y H' hi x A v hy => ?_⟩
  · obtain ⟨xs, hs, rs⟩ := at_ S loc H x A v
    rw [hl] at hi
    obtain ⟨w, hw, _⟩ := rs.get (List.getElem?_eq_getElem hi)
    exact ⟨xs, w, hs, hw⟩
  · obtain ⟨xs, hs, rs⟩ := at_ S loc H x A v
    exact ⟨xs, hs, by rw [hl, ← rs.length]; exact Nat.le_refl _⟩
  · obtain ⟨xs, hs, rs⟩ := at_ S loc H x A v
    obtain ⟨T, w, rfl, hT, rfl, hw⟩ := hy
    obtain ⟨d', e1, r1⟩ := rs.get' (hw xs hs)
    have q := pairs_get (k := 0) e1
    rw [Nat.zero_add] at q
    exact ⟨_, q, A.same hT, ext_same A hT, .tup upd_same (.cons (.int _) (.cons (r1.ext A (ext_same A hT)) .nil))⟩
theorem qi_enum {e : Expr} {as : ME} {p pos tpos : Pos} {elts : List Expr} {kk : Nat} (hK : X.K = g.K) (hg : Gl X "enumerate") (hm : X.mg "enumerate" = none) (ha : PA X [e] (tA g (aCons as aNil))) (hs : starEach [e] X.env = [(false, eval e X.env)] := by rfl) :
    PI X (.Tuple elts kk tpos) (.Call (.Name "enumerate" p) [e] [] pos) (tI g (iEnm (aCons as aNil)) (SrcOk g)) :=
  PI.imp (pi_enum hg hm ha hs) fun σ H Q h => by
  obtain ⟨S, loc, ρ, src, S', A, R, e, q⟩ := h
  unfold iEnm at e
  obtain ⟨⟨ds, S1⟩, e1, e2⟩ := Option.bind_eq_some_iff.mp e
  simp only at e2
  split at e2
  · rename_i d
    split at e2
    · rename_i l hl
      simp only [Option.some.injEq, Prod.mk.injEq] at e2
      obtain ⟨rfl, rfl⟩ := e2
      refine ⟨S, loc, ρ, _, S1, A, R, e1, fun vs loc1 H1 A1 x1 r1 => ?_⟩
      cases r1 with
      | cons ra r1 =>
        cases r1
        obtain ⟨p, xs, rfl, hs, rs⟩ := listOf_sq A1 ra hl
        exact ⟨p, xs, rfl, by rw [hK]; exact hs, by rw [hK]; exact q _ loc1 H1 A1 x1 (src_enm A1 ra)⟩
    · cases e2
  · cases e2
/-- a locked dict's keys -/
def iKey (a : ME) : MI := fun ρ S => (a ρ S).bind fun r => match r.1 with
  | .ref n => match r.2.ob n with
    | some (.lok kvs) => some (.key n (kvs.map (·.1)), r.2)
    | _ => none
  | _ => none
theorem KVs.get {S : S3} {loc : Loc} {H : Hp} {κ : Type} {f : κ → D} : ∀ {kvs : List (D × D)} {ys : List (κ × V)} {i : Nat} {k : κ} {v : V}, KVs g S loc H f kvs ys → ys[i]? = some (k, v) → (kvs.map (·.1))[i]? = some (f k)
  | _, _, _, _, _, .nil, h => by simp at h
  | _, _, 0, _, _, .cons a _, h => by simp at h; subst h; simp [a.1]
  | _, _, i + 1, _, _, .cons _ t, h => by
    have q := KVs.get (i := i) t (by simpa using h)
    simpa using q
theorem KVs.len {S : S3} {loc : Loc} {H : Hp} {κ : Type} {f : κ → D} {kvs : List (D × D)} {ys : List (κ × V)} (r : KVs g S loc H f kvs ys) : kvs.length = ys.length := Paired.length r
theorem rep_key {S : S3} {loc : Loc} {H : Hp} (k : Key) : Rep g S loc H (keyD k) (kV k) := by
  cases k with
  | inl i => exact .int i
  | inr x => exact .str x
theorem reps_key {S : S3} {loc : Loc} {H : Hp} : ∀ k : List Key, Reps g S loc H (k.map keyD) (k.map kV)
  | [] => .nil
  | k :: r => .cons (rep_key k) (reps_key r)
theorem qi_key {tg l : Expr} {fa : ME} (hl : PE X l (tE g fa)) : PI X tg l (tI g (iKey fa) (SrcOk g)) := PI.imp (pi_keys hl) fun σ H Q h => by
  obtain ⟨S, loc, ρ, src, S', A, R, e, q⟩ := h
  unfold iKey at e
  obtain ⟨⟨d, S1⟩, e1, e2⟩ := Option.bind_eq_some_iff.mp e
  simp only at e2
  split at e2
  · rename_i n
    split at e2
    · rename_i kvs hn
      simp only [Option.some.injEq, Prod.mk.injEq] at e2
      obtain ⟨rfl, rfl⟩ := e2
      refine ⟨S, loc, ρ, .ref n, S1, A, R, e1, fun v loc1 H1 A1 x1 r1 => ?_⟩
      cases r1
      obtain ⟨o, hh⟩ := A1.ob n _ hn
      refine ⟨loc1.ad n, o, rfl, ?_⟩
      obtain ⟨ys, h1, rk⟩ := hh
      · refine .inr ⟨ys, h1, q _ loc1 H1 A1 x1 ?_⟩
        have hl : (Src.key n (kvs.map (·.1))).items.length = ys.length := by show (kvs.map _).length = _; rw [List.length_map]; exact KVs.len rk
        refine ⟨fun i S2 loc2 H2 hi x2 A2 v => ?_, fun S2 loc2 H2 x2 A2 v => ?_, fun i S2 loc2 H2 y H2' hi x2 A2 v hy => ?_⟩
        · rw [hl] at hi; exact ⟨(x2.lk n kvs hn).2.trans h1, hi⟩
        · rw [hl]; exact ⟨(x2.lk n kvs hn).2.trans h1, Nat.le_refl _⟩
        · obtain ⟨rfl, k, v', w, hk, rfl, hw⟩ := hy
          exact ⟨_, KVs.get rk hk, A2, .refl, .tup hw (reps_key k)⟩
    · cases e2
  · cases e2

/-! ### for -/
def loopM (src : Src) (body : D → En → S3 → Option (Fl × En × S3)) : List D → En → S3 → Option (Fl × En × S3)
  | [], ρ, S => if src.valid S = true then some (.nx, ρ, S) else none
  | d :: ds, ρ, S => if src.valid S = true then (body d ρ S).bind fun r => match r.1 with
    | .nx => loopM src body ds r.2.1 r.2.2
    | .ct => loopM src body ds r.2.1 r.2.2
    | .bk => some (.nx, r.2.1, r.2.2)
    | .ex v => some (.ex v, r.2.1, r.2.2)
    | .rt v => some (.rt v, r.2.1, r.2.2) else none
def sFor (i : MI) (T : MT) (b : MS) : MS := fun ρ S => (i ρ S).bind fun r => loopM r.1 (fun d ρ S => (T d ρ).bind fun ρ' => b ρ' S) r.1.items ρ r.2
theorem qs_for {tg iter : Expr} {body : List Stmt} {fi : MI} {T : MT} {vs : List Nat} {sb : MS} {pos : Pos} (hp : PassesOwn (model X.prog X.w) X.A X.env X.xe) (hc : X.calm = true) (hi : PI X tg iter (tI g fi (SrcOk g))) (hg : PG X tg (gM g T vs)) (hb : PSs X body (tS g W sb))
    (hs : ∀ x, foldedSetIterable iter X.env x = pure x := by intro _; rfl) : PS X (.For tg iter body [] pos) (tS g W (sFor fi T sb)) := PS.imp (ps_for hp hc hi hg hb hs) fun D σ H h => by
  obtain ⟨S, loc, ρ, fl, ρ', S', A, R, e, q⟩ := h
  unfold sFor at e
  obtain ⟨⟨src, S1⟩, e1, e2⟩ := Option.bind_eq_some_iff.mp e
  refine ⟨S, loc, ρ, src, S1, A, R, e1, fun J loc1 H1 A1 x1 ok => ?_⟩
  refine ⟨fun i m σ2 H2 => m = src.items.length - i ∧ i ≤ src.items.length ∧ ∃ S2 loc2 ρ2, Abs g S2 loc2 H2 ∧ Ext S1 loc1 H1 S2 loc2 H2 ∧ REn g S2 loc2 H2 ρ2 σ2 ∧
    loopM src (fun d ρ S => (T d ρ).bind fun ρ' => sb ρ' S) (src.items.drop i) ρ2 S2 = some (fl, ρ', S'), ⟨_, rfl, Nat.zero_le _, S1, loc1, ρ, A1, .refl, R.ext A x1, e2⟩, ?_⟩
  rintro i m σ2 H2 ⟨rfl, hi, S2, loc2, ρ2, A2, x2, R2, e3⟩
  by_cases hlt : i < src.items.length
  · rw [List.drop_eq_getElem_cons hlt] at e3
    simp only [loopM] at e3
    split at e3
    · rename_i hv
      obtain ⟨⟨f1, ρ3, S3⟩, e4, e5⟩ := Option.bind_eq_some_iff.mp e3
      obtain ⟨ρ4, e6, e7⟩ := Option.bind_eq_some_iff.mp e4
      refine .inr ⟨ok.go i S2 loc2 H2 hlt x2 A2 hv, fun σ5 H5 => ∃ S5 loc5 ρ5, Abs g S5 loc5 H5 ∧ Ext S1 loc1 H1 S5 loc5 H5 ∧ REn g S5 loc5 H5 ρ5 σ5 ∧
        loopM src (fun d ρ S => (T d ρ).bind fun ρ' => sb ρ' S) (src.items.drop (i + 1)) ρ5 S5 = some (fl, ρ', S'), fun σ5 H5 h5 => ⟨src.items.length - (i + 1), by omega, rfl, hlt, h5⟩, fun x H3 hy => ?_⟩
      obtain ⟨d, hd, A3, x3, r3⟩ := ok.yld i S2 loc2 H2 x H3 hlt x2 A2 hv hy
      have ed : src.items[i] = d := by rw [List.getElem?_eq_getElem hlt] at hd; exact Option.some.inj hd
      rw [ed] at e6
      refine ⟨S2, loc2, ρ2, d, ρ4, A3, R2.ext A2 x3, r3, e6, fun σ4 R4 _ _ => ?_⟩
      refine ⟨S2, loc2, ρ4, f1, ρ3, S3, A3, R4, e7, ?_⟩
      cases f1 with
      | nx => exact fun σ5 loc5 H5 A5 x5 R5 => ⟨S3, loc5, ρ3, A5, (x2.trans x3).trans x5, R5, e5⟩
      | ct => exact fun σ5 loc5 H5 A5 x5 R5 => ⟨S3, loc5, ρ3, A5, (x2.trans x3).trans x5, R5, e5⟩
      | bk =>
        simp only [Option.some.injEq, Prod.mk.injEq] at e5
        obtain ⟨rfl, rfl, rfl⟩ := e5
        exact fun σ5 loc5 H5 A5 x5 R5 => q σ5 loc5 H5 A5 (((x1.trans x2).trans x3).trans x5) R5
      | rt v =>
        simp only [Option.some.injEq, Prod.mk.injEq] at e5
        obtain ⟨rfl, rfl, rfl⟩ := e5
        exact fun w loc5 H5 A5 x5 r5 => q w loc5 H5 A5 (((x1.trans x2).trans x3).trans x5) r5
      | ex v =>
        simp only [Option.some.injEq, Prod.mk.injEq] at e5
        obtain ⟨rfl, rfl, rfl⟩ := e5
        exact fun σ5 loc5 H5 cls dx A5 x5 R5 ed => q σ5 loc5 H5 cls dx A5 (((x1.trans x2).trans x3).trans x5) R5 ed
    · cases e3
  · have ei : i = src.items.length := by omega
    subst ei
    rw [List.drop_length] at e3
    simp only [loopM] at e3
    split at e3
    · rename_i hv
      simp only [Option.some.injEq, Prod.mk.injEq] at e3
      obtain ⟨rfl, rfl, rfl⟩ := e3
      exact .inl ⟨ok.stop S2 loc2 H2 x2 A2 hv, q σ2 loc2 H2 A2 (x1.trans x2) R2⟩
    · cases e3

/-! ### comprehensions -/
section
variable {S S' : S3} {loc loc' : Loc} {H : Hp}
mutual
theorem Rep.mono (h1 : ∀ p, Live S' loc' p → Live S loc p) (h2 : ∀ n, n < S.next → loc'.ad n = loc.ad n ∧ n < S'.next) : ∀ {d : D} {v : V}, Rep g S loc H d v → Rep g S' loc' H d v
  | _, _, .non => .non
  | _, _, .bl b => .bl b
  | _, _, .int i => .int i
  | _, _, .str z => .str z
  | _, _, .tup h r => .tup h (Reps.mono h1 h2 r)
  | _, _, .lst h n r => .lst h (fun z => n (h1 _ z)) (Reps.mono h1 h2 r)
  | _, _, .scr h n r => .scr h (fun z => n (h1 _ z)) (Reps.mono h1 h2 r)
  | _, _, .kscr h r => .kscr h (Reps.mono h1 h2 r)
  | _, _, .ref (n := n) h => by rw [← (h2 n h).1]; exact .ref (h2 n h).2
  | _, _, .adr a r => .adr a (Reps.mono h1 h2 r)
  | _, _, .exn h l n => .exn h l (fun z => n (h1 _ z))
theorem Reps.mono (h1 : ∀ p, Live S' loc' p → Live S loc p) (h2 : ∀ n, n < S.next → loc'.ad n = loc.ad n ∧ n < S'.next) : ∀ {l : List D} {vs : List V}, Reps g S loc H l vs → Reps g S' loc' H l vs
  | _, _, .nil => .nil
  | _, _, .cons a b => .cons (Rep.mono h1 h2 a) (Reps.mono h1 h2 b)
end
theorem RepO.mono (h1 : ∀ p, Live S' loc' p → Live S loc p) (h2 : ∀ n, n < S.next → loc'.ad n = loc.ad n ∧ n < S'.next) {p : Addr} {o : MO} (r : RepO g S loc H p o) : RepO g S' loc' H p o := by
  cases o with
  | lst l => obtain ⟨xs, e, q⟩ := r; exact ⟨xs, e, q.mono h1 h2⟩
  | dic l =>
    obtain ⟨ys, e, q⟩ := r
    exact ⟨ys, e, Paired.mapP q fun _ _ z => ⟨z.1, z.2.mono h1 h2⟩⟩
  | lok l =>
    obtain ⟨o, r⟩ := r
    obtain ⟨ys, e, q⟩ := r
    exact ⟨o, ys, e, Paired.mapP q fun _ _ z => ⟨z.1, z.2.mono h1 h2⟩⟩
  | ins c fs => obtain ⟨dx, gs, e, q⟩ := r; exact ⟨dx, gs, e, Paired.mapP q fun _ _ z => ⟨z.1, z.2.mono h1 h2⟩⟩
  | nst ks => obtain ⟨es, e, m, q, nd⟩ := r; exact ⟨es, e, m, Paired.mapP q fun _ _ ⟨b, k, z1, z2, z3, z4⟩ => ⟨b, k, z1, z2, z3, z4.mono h1 h2⟩, nd⟩
  | tab q => obtain ⟨e0, ps, e, t, w⟩ := r; exact ⟨e0, ps, e, t, fun pos cv h => let ⟨c, e1, e2, e3⟩ := w pos cv h; ⟨c, e1, e2, fun z => e3 (h1 _ z)⟩⟩
/-- the hidden list becomes an object of ours -/
theorem adopt {p : Addr} {l : List D} {xs : List V} (A : Abs g S loc H) (hh : loc.hid p) (hp : H p = some (.lst xs)) (r : Reps g S loc H l xs) :
    Abs g (S.new (.lst l)) (bind1 (show1 loc p) S.next p) H ∧ (∀ q, Live (S.new (.lst l)) (bind1 (show1 loc p) S.next p) q → Live S loc q) ∧
    (∀ n, n < S.next → (bind1 (show1 loc p) S.next p).ad n = loc.ad n ∧ n < (S.new (.lst l)).next) := by
  have h1 : ∀ q, Live (S.new (.lst l)) (bind1 (show1 loc p) S.next p) q → Live S loc q := fun q h => by
    rcases h with ⟨n, o, e, z⟩ | h
    · by_cases hn : n = S.next
      · subst hn
        rw [bind1_self] at z
        exact .inr (by rw [← z]; exact hh)
      · rw [new_ne hn] at e
        rw [bind1_ne hn] at z
        exact .inl ⟨n, o, e, z⟩
    · exact .inr h.2
  have h2 : ∀ n, n < S.next → (bind1 (show1 loc p) S.next p).ad n = loc.ad n ∧ n < (S.new (.lst l)).next := fun n h => ⟨bind1_ne (Nat.ne_of_lt h), Nat.lt_succ_of_lt h⟩
  refine ⟨⟨fun m n a b e1 e2 e => ?_, fun n h => ?_, fun n o e => ?_, fun q h => A.hs q h.2, fun n o e h => ?_⟩, h1, h2⟩
  · by_cases hm : m = S.next
    · by_cases hn : n = S.next
      · rw [hm, hn]
      · rw [new_ne hn] at e2
        subst hm
        rw [bind1_self, bind1_ne hn] at e
        exact absurd (show loc.hid (loc.ad n) by rw [show loc.ad n = p from e.symm]; exact hh) (A.hd n b e2)
    · by_cases hn : n = S.next
      · rw [new_ne hm] at e1
        subst hn
        rw [bind1_self, bind1_ne hm] at e
        exact absurd (show loc.hid (loc.ad m) by rw [show loc.ad m = p from e]; exact hh) (A.hd m a e1)
      · rw [new_ne hm] at e1
        rw [new_ne hn] at e2
        rw [bind1_ne hm, bind1_ne hn] at e
        exact A.inj m n a b e1 e2 e
  · have h' : S.next + 1 ≤ n := h
    rw [new_ne (by omega)]
    exact A.fresh n (by omega)
  · by_cases hn : n = S.next
    · subst hn; rw [new_self] at e; cases e; rw [bind1_self]; exact ⟨xs, hp, r.mono h1 h2⟩
    · rw [new_ne hn] at e
      rw [bind1_ne hn]
      exact (A.ob n o e).mono h1 h2
  · by_cases hn : n = S.next
    · subst hn; rw [bind1_self] at h; exact h.1 rfl
    · rw [new_ne hn] at e
      rw [bind1_ne hn] at h
      exact A.hd n o e h.2
theorem Ext.adopting {S0 : S3} {loc0 : Loc} {H0 : Hp} {p : Addr} {l : List D} (A0 : Abs g S0 loc0 H0) (A : Abs g S loc H) (x : Ext S0 loc0 H0 S loc H) (hp : H0 p = none) (h1 : ∀ q, Live (S.new (.lst l)) (bind1 (show1 loc p) S.next p) q → Live S loc q) :
    Ext S0 loc0 H0 (S.new (.lst l)) (bind1 (show1 loc p) S.next p) H := by
  have nn : ∀ m a, S.ob m = some a → m ≠ S.next := fun m a e z => by rw [z, A.fresh _ (Nat.le_refl _)] at e; cases e
  refine ⟨Nat.le_succ_of_le x.nx, fun n h => (bind1_ne (Nat.ne_of_lt (Nat.lt_of_lt_of_le h x.nx))).trans (x.lc n h), fun q u h n => ⟨(x.keep q u h n).1, fun z => (x.keep q u h n).2 (h1 q z)⟩, fun q h => ⟨(x.hk q h).1, ?_, (x.hk q h).2⟩,
    fun m kvs h => ⟨by rw [new_ne (nn m _ (x.lk m kvs h).1)]; exact (x.lk m kvs h).1, (x.lk m kvs h).2⟩, fun m kvs h => (bind1_ne (nn m _ (x.lk m kvs h).1)).trans (x.la m kvs h)⟩
  obtain ⟨u, hu⟩ := (A0.hs q h).1
  exact ne_of_none hu hp
end
/-- the block's own names forgotten -/
def wipeD (ρ : En) : List Nat → En
  | [] => ρ
  | v :: vs => (wipeD ρ vs).set v none
def lcM (src : Src) (T : MT) (t : MB) (el : ME) (ρ : En) : List D → List D → S3 → Option (List D × S3)
  | [], acc, S => if src.valid S = true then some (acc, S) else none
  | d :: ds, acc, S => if src.valid S = true then (T d ρ).bind fun ρ' => (t ρ' S).bind fun r => if r.1 then (el ρ' r.2).bind fun q => if acc.length < sizeLine then lcM src T t el ρ ds (acc ++ [q.1]) q.2 else none else lcM src T t el ρ ds acc r.2 else none
def eLc (b : Bool) (i : MI) (T : MT) (t : MB) (el : ME) (vs : List Nat) : ME := fun ρ S => (i ρ S).bind fun r => (lcM r.1 T t el (wipeD ρ vs) r.1.items [] r.2).bind fun q => newL b q.1 q.2
def bYes : MB := fun _ S => some (true, S)
theorem wipe_get {σ : L2.St} : ∀ {vs : List Nat} {i : Nat}, i ∈ vs → (wipe σ vs)[i]? = if i < σ.length then some none else none
  | [], i, h => by simp at h
  | v :: vs, i, h => by
    unfold wipe
    by_cases hv : v = i
    · subst hv
      by_cases hl : v < (wipe σ vs).length
      · rw [List.getElem?_set_self hl, if_pos (by rw [← wipe_length σ vs]; exact hl)]
      · rw [List.getElem?_eq_none (by simpa using hl), if_neg (by rw [← wipe_length σ vs]; exact hl)]
    · rw [List.getElem?_set_ne hv]
      exact wipe_get ((List.mem_cons.mp h).resolve_left fun e => hv e.symm)
theorem wipe_same {σ τ : L2.St} {vs us : List Nat} (hl : τ.length = σ.length) (h : ∀ i : Nat, i ∉ us → τ[i]? = (wipe σ vs)[i]?) (hs : ∀ i ∈ us, i ∈ vs) : wipe τ vs = wipe σ vs := by
  apply List.ext_getElem?
  intro i
  by_cases hi : i ∈ vs
  · rw [wipe_get hi, wipe_get hi, hl]
  · rw [wipe_out hi, h i (fun m => hi (hs i m))]
theorem wipeD_get {ρ : En} : ∀ {vs : List Nat} {i : Nat} {d : D}, (wipeD ρ vs)[i]? = some (some d) → ρ[i]? = some (some d) ∧ i ∉ vs
  | [], _, _, h => ⟨h, by simp⟩
  | v :: vs, i, d, h => by
    unfold wipeD at h
    by_cases hi : v = i
    · subst hi
      rw [List.getElem?_set] at h
      simp only [if_pos] at h
      split at h <;> cases h
    · rw [List.getElem?_set_ne hi] at h
      obtain ⟨h1, h2⟩ := wipeD_get h
      exact ⟨h1, by simp only [List.mem_cons, not_or]; exact ⟨fun e => hi e.symm, h2⟩⟩
theorem wipeD_len (ρ : En) : ∀ vs : List Nat, (wipeD ρ vs).length = ρ.length
  | [] => rfl
  | v :: vs => by unfold wipeD; rw [List.length_set, wipeD_len ρ vs]
theorem REn.wiped {S : S3} {loc : Loc} {H : Hp} {ρ : En} {σ : L2.St} (R : REn g S loc H ρ σ) (vs : List Nat) : REn g S loc H (wipeD ρ vs) (wipe σ vs) :=
  ⟨by rw [wipeD_len, wipe_length, R.len], fun i d h => by
    obtain ⟨h1, h2⟩ := wipeD_get h
    obtain ⟨v, h3, r⟩ := R.get i d h1
    exact ⟨v, by rw [wipe_out h2]; exact h3, r⟩⟩
theorem lc_red {b : Bool} {fi : MI} {T : MT} {us vs : List Nat} {t : MB} {el : ME} {σ : L2.St} {H : Hp} {Q : VK} (hsub : ∀ i ∈ us, i ∈ vs) (h : tE g (eLc b fi T t el vs) σ H Q) :
    tLc (tI g fi (SrcOk g)) (gM g T us) (tB g t) (tE g el) vs σ H Q := by
  obtain ⟨S, loc, ρ, z, S', A, R, e, q⟩ := h
  unfold eLc at e
  obtain ⟨⟨src, S1⟩, e1, e⟩ := Option.bind_eq_some_iff.mp e
  obtain ⟨⟨l, S9⟩, e2, e9⟩ := Option.bind_eq_some_iff.mp e
  refine ⟨S, loc, ρ, src, S1, A, R, e1, fun J loc1 H1 A1 x1 ok D hD => ?_⟩
  -- the invariant: the hidden list holds the items so far
  refine ⟨fun i m H2 => m = src.items.length - i ∧ i ≤ src.items.length ∧ ∃ S2 loc2 acc xs, Abs g S2 loc2 H2 ∧ Ext S1 loc1 H1 S2 loc2 H2 ∧ loc2.hid D ∧ H2 D = some (.lst xs) ∧ Reps g S2 loc2 H2 acc xs ∧
    REn g S2 loc2 H2 (wipeD ρ vs) (wipe σ vs) ∧ lcM src T t el (wipeD ρ vs) (src.items.drop i) acc S2 = some (l, S9), ⟨_, rfl, Nat.zero_le _, S1, hide1 loc1 D, [], [], A1.hide hD, ext_hide A1 hD, .inl rfl, upd_same, .nil,
      (REn.wiped R vs |>.ext A x1).ext A1 (ext_hide A1 hD), e2⟩, ?_⟩
  rintro i m H2 ⟨rfl, hi, S2, loc2, acc, xs, A2, x2, hh, hDl, ra, R2, e3⟩
  by_cases hlt : i < src.items.length
  · rw [List.drop_eq_getElem_cons hlt] at e3
    simp only [lcM] at e3
    split at e3
    · rename_i hv
      obtain ⟨ρ4, e6, e7⟩ := Option.bind_eq_some_iff.mp e3
      obtain ⟨⟨bb, S3⟩, e8, e10⟩ := Option.bind_eq_some_iff.mp e7
      refine .inr ⟨ok.go i S2 loc2 H2 hlt x2 A2 hv, fun H5 => ∃ S5 loc5 acc5 xs5, Abs g S5 loc5 H5 ∧ Ext S1 loc1 H1 S5 loc5 H5 ∧ loc5.hid D ∧ H5 D = some (.lst xs5) ∧ Reps g S5 loc5 H5 acc5 xs5 ∧
        REn g S5 loc5 H5 (wipeD ρ vs) (wipe σ vs) ∧ lcM src T t el (wipeD ρ vs) (src.items.drop (i + 1)) acc5 S5 = some (l, S9), fun H5 h5 => ⟨src.items.length - (i + 1), by omega, rfl, hlt, h5⟩, fun x H3 hy => ?_⟩
      obtain ⟨d, hd, A3, x3, r3⟩ := ok.yld i S2 loc2 H2 x H3 hlt x2 A2 hv hy
      have ed : src.items[i] = d := by rw [List.getElem?_eq_getElem hlt] at hd; exact Option.some.inj hd
      rw [ed] at e6
      refine ⟨S2, loc2, wipeD ρ vs, d, ρ4, A3, R2.ext A2 x3, r3, e6, fun σ4 R4 hl4 hk4 => ⟨wipe_same (by rw [hl4, wipe_length]) hk4 hsub, ?_⟩⟩
      refine ⟨S2, loc2, ρ4, bb, S3, A3, R4, e8, fun loc5 H5 A5 x5 => ?_⟩
      have xx := (x2.trans x3).trans x5
      have h5 : loc5.hid D := (x5.hk D (x3.hk D hh).2).2
      have hD5 : H5 D = some (.lst xs) := by rw [(x5.hk D (x3.hk D hh).2).1, (x3.hk D hh).1]; exact hDl
      cases bb with
      | false =>
        simp only [Bool.false_eq_true, if_false] at e10 ⊢
        exact ⟨S3, loc5, acc, xs, A5, xx, h5, hD5, (ra.ext A2 x3).ext A3 x5, (R2.ext A2 x3).ext A3 x5, e10⟩
      | true =>
        simp only [if_true] at e10 ⊢
        obtain ⟨⟨y, S6⟩, e11, e12⟩ := Option.bind_eq_some_iff.mp e10
        simp only at e12
        split at e12
        · rename_i hz
          refine ⟨S3, loc5, ρ4, y, S6, A5, R4.ext A3 x5, e11, fun w loc6 H6 A6 x6 r6 => ?_⟩
          have h6 : loc6.hid D := (x6.hk D h5).2
          have hD6 : H6 D = some (.lst xs) := by rw [(x6.hk D h5).1]; exact hD5
          have ra6 := ((ra.ext A2 x3).ext A3 x5).ext A5 x6
          refine ⟨xs, hD6, by rw [← ra.length]; exact hz, S6, loc6, acc ++ [y], xs ++ [w], A6.hid h6, (xx.trans x6).app A1 hD, h6, upd_same, (ra6.hid A6 h6).append (.one (r6.hid A6 h6)),
            (((R2.ext A2 x3).ext A3 x5).ext A5 x6).hid A6 h6, e12⟩
        · cases e12
    · cases e3
  · have ei : i = src.items.length := by omega
    subst ei
    rw [List.drop_length] at e3
    simp only [lcM] at e3
    split at e3
    · rename_i hv
      simp only [Option.some.injEq, Prod.mk.injEq] at e3
      obtain ⟨rfl, rfl⟩ := e3
      refine .inl ⟨ok.stop S2 loc2 H2 x2 A2 hv, ?_⟩
      -- the list is shown: frozen, or ours
      have As := A2.shown (p := D)
      have xs1 := x2.showing A1 hD
      have nl := nolive_show A2 hh
      unfold newL at e9
      cases b with
      | false =>
        simp only [Bool.false_eq_true, if_false, Option.some.injEq, Prod.mk.injEq] at e9
        obtain ⟨rfl, rfl⟩ := e9
        exact q _ _ H2 As (x1.trans xs1) (.lst hDl nl ra.shown)
      | true =>
        simp only [if_true, Option.some.injEq, Prod.mk.injEq] at e9
        obtain ⟨rfl, rfl⟩ := e9
        obtain ⟨Aa, h1, h2⟩ := adopt A2 hh hDl ra
        have xa := x2.adopting (l := acc) A1 A2 hD h1
        have r0 := Rep.ref (g := g) (S := S2.new (.lst acc)) (loc := bind1 (show1 loc2 D) S2.next D) (H := H2) (Nat.lt_succ_self S2.next)
        rw [bind1_self] at r0
        exact q _ _ H2 Aa (x1.trans xa) r0
    · cases e3
theorem qts_nil : PTs X [] (tB g bYes) := by
  refine ⟨fun pins s σ H Q I h => pts_nil.run pins s σ H Q I ?_⟩
  obtain ⟨S, loc, ρ, b, S', A, R, e, q⟩ := h
  simp only [bYes, Option.some.injEq, Prod.mk.injEq] at e
  obtain ⟨rfl, rfl⟩ := e
  exact q loc H A .refl
theorem qts_one {c : Expr} {ba : MB} (h : PT X c (tB g ba)) : PTs X [c] (tB g ba) := pts_one h
theorem qe_lc (b : Bool) {elt tg iter : Expr} {ifs : List Expr} {scope : Scope} {own : List (Str × Nat)} {pos : Pos} {fi : MI} {T : MT} {us : List Nat} {t : MB} {el : ME} (hc : X.calm = true) (hN : X.N.Nodup) (hi : PI X tg iter (tI g fi (SrcOk g))) (ok : BlkOk X.N X.env.scope scope own)
    (hg : ∀ (s : Shared) (H : Hp) (C : Addr) (cl : List (Str × Addr)) (fp : List Addr), PG (X.blk s H scope (compEnvC scope cl C X.env) fp) tg (gM g T us)) (ht : ∀ (s : Shared) (H : Hp) (C : Addr) (cl : List (Str × Addr)) (fp : List Addr), PTs (X.blk s H scope (compEnvC scope cl C X.env) fp) ifs (tB g t))
    (he : ∀ (s : Shared) (H : Hp) (C : Addr) (cl : List (Str × Addr)) (fp : List Addr), PE (X.blk s H scope (compEnvC scope cl C X.env) fp) elt (tE g el)) (hsub : ∀ i ∈ us, i ∈ own.map (·.2) := by decide) (hs : ∀ x, foldedSetIterable iter X.env x = pure x := by intro _; rfl) :
    PE X (.ListComp elt [⟨tg, iter, ifs, 0⟩] scope pos) (tE g (eLc b fi T t el (own.map (·.2)))) :=
  PE.imp (pe_lc hc hN hi ok hg ht he hs) fun _ _ _ h => lc_red hsub h
/-- name = [..] -/
theorem qs_setLc (b : Bool) {i : Nat} {y : Str} {py : Pos} {elt tg iter : Expr} {ifs : List Expr} {scope : Scope} {own : List (Str × Nat)} {pos spos : Pos} {fi : MI} {T : MT} {us : List Nat} {t : MB} {el : ME} (hc : X.calm = true) (hN : X.N.Nodup) (hy : X.N[i]? = some y) (hyl : X.env.scope.names.lookup y = some .local)
    (hsw : swapsWith (.ListComp elt [⟨tg, iter, ifs, 0⟩] scope pos) (some (.Name y py)) spos.line X.env = pure true) (hi : PI X tg iter (tI g fi (SrcOk g))) (ok : BlkOk X.N X.env.scope scope own)
    (hg : ∀ (s : Shared) (H : Hp) (C : Addr) (cl : List (Str × Addr)) (fp : List Addr), PG (X.blk s H scope (compEnvC scope cl C X.env) fp) tg (gM g T us)) (ht : ∀ (s : Shared) (H : Hp) (C : Addr) (cl : List (Str × Addr)) (fp : List Addr), PTs (X.blk s H scope (compEnvC scope cl C X.env) fp) ifs (tB g t))
    (he : ∀ (s : Shared) (H : Hp) (C : Addr) (cl : List (Str × Addr)) (fp : List Addr), PE (X.blk s H scope (compEnvC scope cl C X.env) fp) elt (tE g el)) (hsub : ∀ i ∈ us, i ∈ own.map (·.2) := by decide) (hs : ∀ x, foldedSetIterable iter X.env x = pure x := by intro _; rfl) :
    PS X (.Assign [.Name y py] (.ListComp elt [⟨tg, iter, ifs, 0⟩] scope pos) spos) (tS g W (sSet i (eLc b fi T t el (own.map (·.2))))) :=
  PS.imp (ps_setLc hc hN hy hyl hsw hi ok hg ht he hs) fun D σ H h => by
    obtain ⟨S, loc, ρ, fl, ρ', S', A, R, e, q⟩ := h
    unfold sSet at e
    obtain ⟨⟨d, S1⟩, e1, e2⟩ := Option.bind_eq_some_iff.mp e
    simp only [Option.some.injEq, Prod.mk.injEq] at e2
    obtain ⟨rfl, rfl, rfl⟩ := e2
    exact lc_red hsub ⟨S, loc, ρ, d, S1, A, R, e1, fun v loc1 H1 A1 x1 r1 => q _ loc1 H1 A1 x1 ((R.ext A x1).set r1 i)⟩

/-! ### locks: a dict that is walked -/
def lockS (n : Nat) (S : S3) : Option S3 := match S.ob n with
  | some (.dic kvs) => some (S.set n (.lok kvs))
  | _ => none
def unlockS (n : Nat) (S : S3) : Option S3 := match S.ob n with
  | some (.lok kvs) => some (S.set n (.dic kvs))
  | _ => none
/-- pk tells which dict is walked (it changes nothing) -/
def eLock (pk f : ME) : ME := fun ρ S => (pk ρ S).bind fun r => match r.1 with
  | .ref n => (lockS n S).bind fun S1 => (f ρ S1).bind fun q => (unlockS n q.2).bind fun S2 => some (q.1, S2)
  | _ => none
def sLock (pk : ME) (f : MS) : MS := fun ρ S => (pk ρ S).bind fun r => match r.1 with
  | .ref n => (lockS n S).bind fun S1 => (f ρ S1).bind fun q => (unlockS n q.2.2).bind fun S2 => match q.1 with
    | .ex _ => none
    | _ => some (q.1, q.2.1, S2)
  | _ => none
theorem ext_lock {S : S3} {loc : Loc} {H : Hp} {n : Nat} {kvs : List (D × D)} {u : HO} {od : Obj} (A : Abs g S loc H) (h : S.ob n = some (.dic kvs)) : Ext S loc H (S.set n (.lok kvs)) loc (upd H (loc.ad n) (.frz od u)) := ext_set A h
theorem abs_lock {S : S3} {loc : Loc} {H : Hp} {n : Nat} {kvs : List (D × D)} (A : Abs g S loc H) (h : S.ob n = some (.dic kvs)) : ∃ u, H (loc.ad n) = some u ∧ Mut (some u) ∧ ((∃ ys, u = .dK ys) ∨ ∃ ys, u = .dT ys) ∧
    ∀ od, Abs g (S.set n (.lok kvs)) loc (upd H (loc.ad n) (.frz od u)) := by
  obtain ⟨ys, e, r⟩ := A.ob n _ h
  exact ⟨_, e, trivial, .inr ⟨ys, rfl⟩, fun od => A.set h (by intro _ z; cases z) ⟨od, ys, upd_same, KVs.ext A (ext_set A h) r⟩⟩
/-- behind the walk -/
theorem unlocked {S0 S : S3} {loc0 loc : Loc} {H0 H : Hp} {n : Nat} {kvs kvs0 : List (D × D)} {u : HO} {od : Obj} (A0 : Abs g S0 loc0 H0) (h0 : S0.ob n = some (.dic kvs0)) (x : Ext S0 loc0 H0 S loc H) (hn : loc.ad n = loc0.ad n) (A : Abs g S loc H) (h : S.ob n = some (.lok kvs)) (hH : H (loc.ad n) = some (.frz od u)) (hu : (∃ ys, u = .dK ys) ∨ ∃ ys, u = .dT ys) :
    Abs g (S.set n (.dic kvs)) loc (upd H (loc.ad n) u) ∧ Ext S0 loc0 H0 (S.set n (.dic kvs)) loc (upd H (loc.ad n) u) ∧ (∀ d v, Rep g S loc H d v → Rep g (S.set n (.dic kvs)) loc (upd H (loc.ad n) u) d v) := by
  -- all that leans on H leans not on n's own place
  have lv : ∀ q, Live (S.set n (.dic kvs)) loc q → Live S loc q := fun q z => by
    rcases z with ⟨m, o, e, z⟩ | z
    · obtain ⟨a, ha⟩ := set_some h e
      exact .inl ⟨m, a, ha, z⟩
    · exact .inr z
  have nl : ∀ q, ¬ Live S loc q → q ≠ loc.ad n := fun q z e => z (.inl ⟨n, _, h, e.symm⟩)
  have rd : ∀ q w, Rd H q w → ¬ Live S loc q → Rd (upd H (loc.ad n) u) q w := fun q w r z => by
    rcases r with r | ⟨o, r⟩
    · exact .inl (by rw [upd_ne (nl q z)]; exact r)
    · exact .inr ⟨o, by rw [upd_ne (nl q z)]; exact r⟩
  have hrep : ∀ d v, Rep g S loc H d v → Rep g (S.set n (.dic kvs)) loc (upd H (loc.ad n) u) d v := by
    intro d v r
    refine Rep.rec (motive_1 := fun d v _ => Rep g (S.set n (.dic kvs)) loc (upd H (loc.ad n) u) d v) (motive_2 := fun l vs _ => Reps g (S.set n (.dic kvs)) loc (upd H (loc.ad n) u) l vs)
      .non (fun b => .bl b) (fun i => .int i) (fun x => .str x) (fun h1 _ ih => .tup (by rw [upd_ne (nl _ (A.notup (.inl h1)))]; exact h1) ih) (fun h1 h2 _ ih => .lst (by rw [upd_ne (nl _ h2)]; exact h1) (fun z => h2 (lv _ z)) ih)
      (fun h1 h2 _ ih => .scr (rd _ _ h1 h2) (fun z => h2 (lv _ z)) ih) (fun h1 _ ih => .kscr h1 ih) (fun h1 => .ref h1) (fun a {_ _} _ ih => .adr a ih) (fun h1 l h2 => .exn (by rw [upd_ne (nl _ h2)]; exact h1) l (fun z => h2 (lv _ z))) .nil (fun _ _ a b => .cons a b) r
  have hreps : ∀ l vs, Reps g S loc H l vs → Reps g (S.set n (.dic kvs)) loc (upd H (loc.ad n) u) l vs := by
    intro l
    induction l with
    | nil => intro vs r; cases r; exact .nil
    | cons d l ih => intro vs r; cases r with
      | cons a b => exact .cons (hrep _ _ a) (ih _ b)
  have hO : ∀ m o, m ≠ n → RepO g S loc H (loc.ad m) o → loc.ad m ≠ loc.ad n → RepO g (S.set n (.dic kvs)) loc (upd H (loc.ad n) u) (loc.ad m) o := fun m o hm r ne => by
    cases o with
    | lst l => obtain ⟨xs, e, q⟩ := r; exact ⟨xs, (upd_ne ne).trans e, hreps _ _ q⟩
    | dic l =>
      obtain ⟨ys, e, q⟩ := r
      exact ⟨ys, (upd_ne ne).trans e, Paired.mapP q fun _ _ z => ⟨z.1, hrep _ _ z.2⟩⟩
    | lok l =>
      obtain ⟨o, r⟩ := r
      obtain ⟨ys, e, q⟩ := r
      exact ⟨o, ys, (upd_ne ne).trans e, Paired.mapP q fun _ _ z => ⟨z.1, hrep _ _ z.2⟩⟩
    | ins c fs => obtain ⟨dx, gs, e, q⟩ := r; exact ⟨dx, gs, (upd_ne ne).trans e, Paired.mapP q fun _ _ z => ⟨z.1, hrep _ _ z.2⟩⟩
    | nst ks => obtain ⟨es, e, m, q, nd⟩ := r; exact ⟨es, (upd_ne ne).trans e, m, Paired.mapP q fun _ _ ⟨b, k, z1, z2, z3, z4⟩ => ⟨b, k, z1, z2, z3, hrep _ _ z4⟩, nd⟩
    | tab q => obtain ⟨e0, ps, e, t, w⟩ := r; exact ⟨e0, ps, (upd_ne ne).trans e, t, fun pos cv h => let ⟨c, e1, e2, e3⟩ := w pos cv h; ⟨c, e1, (upd_ne (nl _ e3)).trans e2, fun z => e3 (lv _ z)⟩⟩
  refine ⟨⟨fun m k a b e1 e2 e => ?_, fun m hm => ?_, fun m w e => ?_, fun q hq => ?_, fun m a e => ?_⟩, ⟨x.nx, x.lc, fun q w hq z => ?_, fun q hq => ?_, fun m k e => ?_, x.la⟩, hrep⟩
  · obtain ⟨a', e1'⟩ := set_some h e1
    obtain ⟨b', e2'⟩ := set_some h e2
    exact A.inj m k a' b' e1' e2' e
  · have : m ≠ n := fun e => by subst e; rw [A.fresh m hm] at h; cases h
    rw [set_ne this]; exact A.fresh m hm
  · by_cases hm : m = n
    · subst hm
      rw [set_self] at e; cases e
      obtain ⟨o, ys, e, q⟩ := A.ob m _ h
      rw [hH] at e; cases e
      exact ⟨ys, upd_same, Paired.mapP q fun _ _ z => ⟨z.1, hrep _ _ z.2⟩⟩
    · rw [set_ne hm] at e
      exact hO m w hm (A.ob m w e) fun q => hm (A.inj m n w _ e h q)
  · have ne : q ≠ loc.ad n := fun e => A.hd n _ h (by rw [← e]; exact hq)
    obtain ⟨⟨w, hw⟩, nt⟩ := A.hs q hq
    exact ⟨⟨w, by rw [upd_ne ne]; exact hw⟩, fun xs r => nt xs (rd_upd ne r)⟩
  · obtain ⟨a', e'⟩ := set_some h e
    exact A.hd m a' e'
  · obtain ⟨k1, k2⟩ := x.keep q w hq z
    exact ⟨by rw [upd_ne (nl q k2)]; exact k1, fun y => k2 (lv q y)⟩
  · obtain ⟨k1, k2⟩ := x.hk q hq
    have ne : q ≠ loc.ad n := fun e => A.hd n _ h (by rw [← e]; exact k2)
    exact ⟨by rw [upd_ne ne]; exact k1, k2⟩
  · have hm : m ≠ n := fun z => by subst z; rw [h0] at e; cases e
    refine ⟨by rw [set_ne hm]; exact (x.lk m k e).1, ?_⟩
    rw [upd_ne (show loc0.ad m ≠ loc.ad n from fun z => hm (A0.inj m n _ _ e h0 (z.trans hn)))]
    exact (x.lk m k e).2
theorem qe_lock {e : Expr} {pk f : ME} (h : PE X e (tE g f)) : PE X e (tE g (eLock pk f)) := PE.imp (pe_lock h) fun σ H Q h => by
  obtain ⟨S, loc, ρ, z, S', A, R, e, q⟩ := h
  unfold eLock at e
  obtain ⟨⟨d, S1⟩, e1, e⟩ := Option.bind_eq_some_iff.mp e
  simp only at e
  split at e
  · rename_i n
    obtain ⟨S2, e2, e⟩ := Option.bind_eq_some_iff.mp e
    obtain ⟨⟨y, S8⟩, e3, e⟩ := Option.bind_eq_some_iff.mp e
    obtain ⟨S4, e4, e5⟩ := Option.bind_eq_some_iff.mp e
    simp only [Option.some.injEq, Prod.mk.injEq] at e5
    obtain ⟨rfl, rfl⟩ := e5
    unfold lockS at e2
    split at e2
    · rename_i kvs hn
      simp only [Option.some.injEq] at e2
      subst e2
      obtain ⟨u, hu, mu, hk, Al⟩ := abs_lock A hn
      refine ⟨loc.ad n, u, hu, mu, fun od => ?_⟩
      have xl := ext_lock (od := od) (u := u) A hn
      refine ⟨_, loc, ρ, y, S8, Al od, R.ext A xl, e3, fun v loc1 H1 A1 x1 r1 => ?_⟩
      have hl := x1.lk n kvs set_self
      have ha := x1.la n kvs set_self
      have hH : H1 (loc.ad n) = some (.frz od u) := by rw [hl.2]; exact upd_same
      refine ⟨hH, ?_⟩
      unfold unlockS at e4
      rw [hl.1] at e4
      simp only [Option.some.injEq] at e4
      subst e4
      obtain ⟨B1, B2, B3⟩ := unlocked (u := u) (od := od) A hn (xl.trans x1) ha A1 hl.1 (by rw [ha]; exact hH) hk
      rw [ha] at B1 B2 B3
      exact q v loc1 _ B1 B2 (B3 _ _ r1)
    · cases e2
  · cases e
theorem qs_lock {st : Stmt} {pk : ME} {f : MS} (h : PS X st (tS g W f)) : PS X st (tS g W (sLock pk f)) := PS.imp (ps_lock h) fun D σ H h => by
  obtain ⟨S, loc, ρ, fl, ρ', S', A, R, e, q⟩ := h
  unfold sLock at e
  obtain ⟨⟨d, S1⟩, e1, e⟩ := Option.bind_eq_some_iff.mp e
  simp only at e
  split at e
  · rename_i n
    obtain ⟨S2, e2, e⟩ := Option.bind_eq_some_iff.mp e
    obtain ⟨⟨f3, ρ3, S8⟩, e3, e⟩ := Option.bind_eq_some_iff.mp e
    obtain ⟨S4, e4, e5⟩ := Option.bind_eq_some_iff.mp e
    have e6 : some (f3, ρ3, S4) = some (fl, ρ', S') ∧ ∀ i, f3 ≠ .ex i := by
      cases f3 <;> first | (cases e5; done) | exact ⟨e5, fun _ z => nomatch z⟩
    obtain ⟨e5, fx⟩ := e6
    simp only [Option.some.injEq, Prod.mk.injEq] at e5
    obtain ⟨rfl, rfl, rfl⟩ := e5
    unfold lockS at e2
    split at e2
    · rename_i kvs hn
      simp only [Option.some.injEq] at e2
      subst e2
      obtain ⟨u, hu, mu, hk, Al⟩ := abs_lock A hn
      refine ⟨loc.ad n, u, hu, mu, fun od => ?_⟩
      have xl := ext_lock (od := od) (u := u) A hn
      have fin : ∀ {loc1 : Loc} {H1 : Hp}, Abs g S8 loc1 H1 → Ext (S.set n (.lok kvs)) loc (upd H (loc.ad n) (.frz od u)) S8 loc1 H1 → H1 (loc.ad n) = some (.frz od u) ∧ Abs g S4 loc1 (upd H1 (loc.ad n) u) ∧ Ext S loc H S4 loc1 (upd H1 (loc.ad n) u) ∧
          ∀ d v, Rep g S8 loc1 H1 d v → Rep g S4 loc1 (upd H1 (loc.ad n) u) d v := fun {loc1 H1} A1 x1 => by
        have hl := x1.lk n kvs set_self
        have ha := x1.la n kvs set_self
        have hH : H1 (loc.ad n) = some (.frz od u) := by rw [hl.2]; exact upd_same
        unfold unlockS at e4
        rw [hl.1] at e4
        simp only [Option.some.injEq] at e4
        subst e4
        obtain ⟨B1, B2, B3⟩ := unlocked (u := u) (od := od) A hn (xl.trans x1) ha A1 hl.1 (by rw [ha]; exact hH) hk
        rw [ha] at B1 B2 B3
        exact ⟨hH, B1, B2, B3⟩
      have envs : ∀ {loc1 : Loc} {H1 H2 : Hp} {S5 : G3.S3} {σ1 : L2.St}, (∀ d v, Rep g S8 loc1 H1 d v → Rep g S5 loc1 H2 d v) → REn g S8 loc1 H1 ρ3 σ1 → REn g S5 loc1 H2 ρ3 σ1 := fun h R => ⟨R.len, fun i d e => let ⟨v, h1, r⟩ := R.get i d e; ⟨v, h1, h d v r⟩⟩
      refine ⟨_, loc, ρ, f3, ρ3, S8, Al od, R.ext A xl, e3, ?_⟩
      cases f3 with
      | ex i => exact absurd rfl (fx i)
      | nx => exact fun σ1 loc1 H1 A1 x1 R1 => let ⟨a, b, c, d⟩ := fin A1 x1; ⟨a, q σ1 loc1 _ b c (envs d R1)⟩
      | bk => exact fun σ1 loc1 H1 A1 x1 R1 => let ⟨a, b, c, d⟩ := fin A1 x1; ⟨a, q σ1 loc1 _ b c (envs d R1)⟩
      | ct => exact fun σ1 loc1 H1 A1 x1 R1 => let ⟨a, b, c, d⟩ := fin A1 x1; ⟨a, q σ1 loc1 _ b c (envs d R1)⟩
      | rt v => exact fun w loc1 H1 A1 x1 r1 => let ⟨a, b, c, d⟩ := fin A1 x1; ⟨a, q w loc1 _ b c (d _ _ r1)⟩
    · cases e2
  · cases e

/-! ### a def -/
/-- n parameters, N names, the body -/
def fnM (n N : Nat) (b : MS) : List D → M D := fun ds S => if ds.length = n then (b (ds.map some ++ List.replicate (N - n) none) S).bind fun r => match r.1 with
  | .rt d => some (d, r.2.2)
  | .nx => some (.non, r.2.2)
  | _ => none else none
theorem start_env {S : S3} {loc : Loc} {H : Hp} {N : List Str} {ds : List D} {vs : List V} {n : Nat} (hl : ds.length = n) (r : Reps g S loc H ds vs) : REn g S loc H (ds.map some ++ List.replicate (N.length - n) none) (L2.start N vs) := by
  have hv := r.length
  refine ⟨by unfold L2.start; simp [← hv, hl], fun i d h => ?_⟩
  by_cases hi : i < ds.length
  · rw [List.getElem?_append_left (by simpa using hi), List.getElem?_map] at h
    cases q : ds[i]? with
    | none => rw [q] at h; cases h
    | some d' =>
      rw [q] at h; cases h
      obtain ⟨v, h1, h2⟩ := r.get q
      refine ⟨v, ?_, h2⟩
      unfold L2.start
      rw [List.getElem?_append_left (by rw [List.length_map, ← hv]; exact hi), List.getElem?_map, h1]; rfl
  · rw [List.getElem?_append_right (by simpa using hi)] at h
    rw [List.getElem?_replicate] at h
    split at h <;> cases h
theorem fn_ok {P : Program} {w : World} {K : PySem.W.Frag} {mg : Str → Option Value} {base : Heap} {x qual : Str} {st : Stmt} {f : Addr} {fd : FuncData} {N ps : List Str} {k : Nat} {b : MS} (F : Fun K x qual st f fd) (Sc : FnScope N ps (defScope st))
    (hb : ∀ (cdv : Value) (A : Around) (outer : List Env) (s : Shared) (H : Hp) (E : XK), Room k (A.deeper (envOfC qual (defScope st) s.heap.objs.size f cdv)) → PSs (cxOf CX0 P w K mg base N qual (defScope st) f cdv A outer s H E).nox (defBody st) (tS g (fun _ _ _ _ => False) b)) :
    FnOk P w K mg base CX0 (k + 1) f fd ps (spM g (fnM ps.length N.length b)) := by
  refine F.ok Sc (fun vs H Q E h => ?_) (fun cdv A outer s H vs Q E hr h => ?_)
  · obtain ⟨S, loc, ds, z, S', A, r, e, q⟩ := h
    unfold fnM at e
    split at e
    · rename_i hl
      rw [← r.length]; exact hl
    · cases e
  · refine ⟨_, hb cdv A outer s H E hr, ?_⟩
    obtain ⟨S, loc, ds, z, S', Ab, r, e, q⟩ := h
    unfold fnM at e
    split at e
    · rename_i hl
      obtain ⟨⟨fl, ρ', S1⟩, e1, e2⟩ := Option.bind_eq_some_iff.mp e
      refine ⟨S, loc, _, fl, ρ', S1, Ab, start_env hl r, e1, ?_⟩
      cases fl with
      | nx =>
        simp only [Option.some.injEq, Prod.mk.injEq] at e2
        obtain ⟨rfl, rfl⟩ := e2
        exact fun σ' loc' H' A' x' _ => q _ loc' H' A' x' .non
      | rt d =>
        simp only [Option.some.injEq, Prod.mk.injEq] at e2
        obtain ⟨rfl, rfl⟩ := e2
        exact fun v loc' H' A' x' r' => q v loc' H' A' x' r'
      | bk => cases e2
      | ct => cases e2
      | ex i => cases e2
    · cases e
end
end G3
set_option maxHeartbeats 4000000
/-! G3: operations on numbers, texts, lists, tuples. -/
namespace G3
open PySem PySem.Spec PyProof.Rows L2

/-- a list that may be written, or data: not the script -/
def lstOf (S : S3) : D → Option (List D)
  | .lst l => some l
  | .ref n => match S.ob n with
    | some (.lst l) => some l
    | _ => none
  | _ => none
def kAdd (b : Bool) : D → D → M D := fun d e S => match d, e with
  | .int i, .int j => some (.int (i + j), S)
  | .str x, .str y => if x.length + y.length ≤ sizeLine then some (.str (x ++ y), S) else none
  | .tup l, .tup m => if l.length + m.length ≤ sizeLine then some (.tup (l ++ m), S) else none
  | d, e => match lstOf S d, lstOf S e with
    | some l, some m => if l.length + m.length ≤ sizeLine then newL b (l ++ m) S else none
    | _, _ => none
def kInt2 (c : Int → Int → Bool) (f : Int → Int → Int) : D → D → M D := fun d e S => match d, e with
  | .int i, .int j => if c i j then some (.int (f i j), S) else none
  | _, _ => none
def kSub : D → D → M D := kInt2 (fun _ _ => true) (fun i j => i - j)
def kMod : D → D → M D := kInt2 (fun _ j => decide (0 < j)) (fun i j => i % j)
def kDiv : D → D → M D := kInt2 (fun _ j => decide (0 < j ∧ j < 1073741824)) (fun i j => i / j)
def kPow : D → D → M D := kInt2 (fun i j => decide (0 ≤ j ∧ j ≤ 1000000 ∧ i.natAbs < 2 ^ 64)) (fun i j => i ^ j.toNat)
def mulOk (i j : Int) : Bool := decide ((-(2 ^ 64) < i ∧ i < 2 ^ 64) ∨ (-(2 ^ 64) < j ∧ j < 2 ^ 64))
def kMul (b : Bool) : D → D → M D := fun d e S => match d, e with
  | .int i, .int j => if mulOk i j then some (.int (i * j), S) else none
  | d, .int k => match lstOf S d with
    | some l => if -(2 ^ 63) ≤ k ∧ k < 2 ^ 63 ∧ l.length * k.toNat ≤ sizeLine then newL b (List.replicate k.toNat l).flatten S else none
    | none => none
  | _, _ => none
def kNeg : D → M D := fun d S => match d with
  | .int i => some (.int (-i), S)
  | _ => none
def kCmpI (f : Int → Int → Bool) : D → D → M D := fun d e S => match d, e with
  | .int i, .int j => some (.bl (f i j), S)
  | _, _ => none
def kLt := kCmpI fun i j => decide (i < j)
def kLe := kCmpI fun i j => decide (i ≤ j)
def kGt := kCmpI fun i j => decide (j < i)
def kGe := kCmpI fun i j => decide (j ≤ i)
def D.isNon : D → Bool
  | .non => true
  | _ => false
def kIs : D → D → M D := fun d e S => match e with
  | .non => some (.bl d.isNon, S)
  | _ => none
def kIsNot : D → D → M D := fun d e S => match e with
  | .non => some (.bl (!d.isNon), S)
  | _ => none

section
variable {X : Cx} {g : G}
theorem lstOf_at {S : S3} {loc : Loc} {H : Hp} {d : D} {v : V} {l : List D} (A : Abs g S loc H) (r : Rep g S loc H d v) (h : lstOf S d = some l) : ∃ p xs, v = .ref p ∧ H p = some (.lst xs) ∧ Reps g S loc H l xs := by
  unfold lstOf at h
  split at h
  · simp only [Option.some.injEq] at h; subst h
    cases r with
    | lst h1 _ rs => exact ⟨_, _, rfl, h1, rs⟩
  · split at h
    · rename_i n _ l' e
      simp only [Option.some.injEq] at h; subst h
      cases r with
      | ref hlt =>
        obtain ⟨xs, h1, rs⟩ := A.ob _ _ e
        exact ⟨_, xs, rfl, h1, rs⟩
    · cases h
  · cases h
theorem Rep.tupAt {S : S3} {loc : Loc} {H : Hp} {l : List D} {v : V} (r : Rep g S loc H (.tup l) v) : ∃ p xs, v = .ref p ∧ H p = some (.tup xs) ∧ Reps g S loc H l xs := by
  cases r with
  | tup h r => exact ⟨_, _, rfl, h, r⟩
theorem Reps.nil_iff {S : S3} {loc : Loc} {H : Hp} {l : List D} {vs : List V} (r : Reps g S loc H l vs) : vs = [] ↔ l = [] := by
  cases r with
  | nil => simp
  | cons a b => simp
theorem op_Add (b : Bool) : OpR X (binaryOp .Add) (rK2 g (kAdd b)) := by
  refine OpR.imp (OpR.or op_add (OpR.or op_add_str (OpR.or op_catA op_cat))) fun x y H Q h => ?_
  obtain ⟨S, loc, d, e, z, S', A, r1, r2, ek, q⟩ := h
  unfold kAdd at ek
  split at ek
  · cases r1; cases r2
    simp only [Option.some.injEq, Prod.mk.injEq] at ek
    obtain ⟨rfl, rfl⟩ := ek
    exact .inl ⟨_, _, rfl, rfl, q _ loc H A .refl (.int _)⟩
  · cases r1; cases r2
    split at ek
    · rename_i hl
      simp only [Option.some.injEq, Prod.mk.injEq] at ek
      obtain ⟨rfl, rfl⟩ := ek
      exact .inr (.inl ⟨_, _, rfl, rfl, hl, q _ loc H A .refl (.str _)⟩)
    · cases ek
  · rename_i l m
    split at ek
    · rename_i hl
      simp only [Option.some.injEq, Prod.mk.injEq] at ek
      obtain ⟨rfl, rfl⟩ := ek
      obtain ⟨p, xs, rfl, hp, ra⟩ := r1.tupAt
      obtain ⟨p2, ys, rfl, hp2, rb⟩ := r2.tupAt
      refine .inr (.inr (.inl ⟨p, p2, xs, ys, rfl, rfl, SqT.of hp, SqT.of hp2, by rw [← ra.length, ← rb.length]; exact hl, fun h0 => ?_, fun _ h0 => ?_, fun _ _ => newT_ok A (ra.append rb) q⟩))
      · have e0 := ra.nil_iff.mp h0
        subst e0
        exact q _ loc H A .refl r2
      · have e0 := rb.nil_iff.mp h0
        subst e0
        rw [List.append_nil] at q
        exact q _ loc H A .refl r1
    · cases ek
  · split at ek
    · rename_i l m hl hm
      split at ek
      · rename_i hz
        obtain ⟨p, xs, rfl, hp, ra⟩ := lstOf_at A r1 hl
        obtain ⟨p2, ys, rfl, hp2, rb⟩ := lstOf_at A r2 hm
        exact .inr (.inr (.inr ⟨p, p2, xs, ys, rfl, rfl, hp, hp2, by rw [← ra.length, ← rb.length]; exact hz, newL_ok A (ra.append rb) ek q⟩))
      · cases ek
    · cases ek
theorem op_Int2 {f : Value → Value → Sem Value} {c : Int → Int → Bool} {h : Int → Int → Int} {C : Int → Int → Prop} (ho : OpR X f (rI C fun i j => .int (h i j))) (hc : ∀ i j, c i j = true → C i j) : OpR X f (rK2 g (kInt2 c h)) :=
  OpR.imp ho fun x y H Q k => by
  obtain ⟨S, loc, d, e, z, S', A, r1, r2, ek, q⟩ := k
  unfold kInt2 at ek
  split at ek
  · cases r1; cases r2
    split at ek
    · rename_i hh
      simp only [Option.some.injEq, Prod.mk.injEq] at ek
      obtain ⟨rfl, rfl⟩ := ek
      exact ⟨_, _, rfl, rfl, hc _ _ hh, q _ loc H A .refl (.int _)⟩
    · cases ek
  · cases ek
theorem op_Sub : OpR X (binaryOp .Sub) (rK2 g kSub) := op_Int2 (C := fun _ _ => True) (OpR.imp op_sub fun x y H Q ⟨i, j, a, b, _, c⟩ => ⟨i, j, a, b, c⟩) fun _ _ _ => trivial
theorem op_Mod : OpR X (binaryOp .Mod) (rK2 g kMod) := op_Int2 op_mod fun _ _ h => of_decide_eq_true h
theorem op_Div : OpR X (binaryOp .FloorDiv) (rK2 g kDiv) := op_Int2 op_fdiv fun i j h => (of_decide_eq_true h : 0 < j ∧ j < 1073741824)
theorem op_Pow : OpR X (binaryOp .Pow) (rK2 g kPow) := op_Int2 op_pow fun i j h => (of_decide_eq_true h : 0 ≤ j ∧ j ≤ 1000000 ∧ i.natAbs < 2 ^ 64)
theorem Reps.rep {S : S3} {loc : Loc} {H : Hp} {l : List D} {xs : List V} (r : Reps g S loc H l xs) : ∀ k : Nat, Reps g S loc H (List.replicate k l).flatten (List.replicate k xs).flatten
  | 0 => .nil
  | k + 1 => by rw [List.replicate_succ, List.flatten_cons, List.replicate_succ, List.flatten_cons]; exact r.append (Reps.rep r k)
theorem op_Mul (b : Bool) : OpR X (binaryOp .Mult) (rK2 g (kMul b)) := by
  refine OpR.imp (OpR.or op_mul op_rep) fun x y H Q h => ?_
  obtain ⟨S, loc, d, e, z, S', A, r1, r2, ek, q⟩ := h
  unfold kMul at ek
  split at ek
  · cases r1; cases r2
    split at ek
    · rename_i hh
      simp only [Option.some.injEq, Prod.mk.injEq] at ek
      obtain ⟨rfl, rfl⟩ := ek
      unfold mulOk at hh
      exact .inl ⟨_, _, rfl, rfl, (of_decide_eq_true hh : _), q _ loc H A .refl (.int _)⟩
    · cases ek
  · cases r2
    split at ek
    · rename_i l hl
      split at ek
      · rename_i hz
        obtain ⟨p, xs, rfl, hp, ra⟩ := lstOf_at A r1 hl
        refine .inr ⟨p, _, xs, rfl, rfl, hp, hz.1, hz.2.1, by rw [← ra.length]; exact hz.2.2, ?_⟩
        exact newL_ok A (ra.rep _) ek q
      · cases ek
    · cases ek
  · cases ek
theorem un_Neg : UnR X (unaryOp .USub) (rK1 g kNeg) := UnR.imp un_neg fun x H Q h => by
  obtain ⟨S, loc, d, z, S', A, r1, ek, q⟩ := h
  unfold kNeg at ek
  split at ek
  · cases r1
    simp only [Option.some.injEq, Prod.mk.injEq] at ek
    obtain ⟨rfl, rfl⟩ := ek
    exact ⟨_, rfl, q _ loc H A .refl (.int _)⟩
  · cases ek
theorem op_CmpI {op : CmpOp} {f : Int → Int → Bool} (ho : OpR X (compareOp op) (rI0 fun i j => .bl (f i j))) : OpR X (compareOp op) (rK2 g (kCmpI f)) := OpR.imp ho fun x y H Q h => by
  obtain ⟨S, loc, d, e, z, S', A, r1, r2, ek, q⟩ := h
  unfold kCmpI at ek
  split at ek
  · cases r1; cases r2
    simp only [Option.some.injEq, Prod.mk.injEq] at ek
    obtain ⟨rfl, rfl⟩ := ek
    exact ⟨_, _, rfl, rfl, q _ loc H A .refl (.bl _)⟩
  · cases ek
theorem op_Lt : OpR X (compareOp .Lt) (rK2 g kLt) := op_CmpI op_lt
theorem op_Le : OpR X (compareOp .LtE) (rK2 g kLe) := op_CmpI op_le
theorem op_Gt : OpR X (compareOp .Gt) (rK2 g kGt) := op_CmpI op_gt
theorem op_Ge : OpR X (compareOp .GtE) (rK2 g kGe) := op_CmpI op_ge
theorem Rep.non_iff {S : S3} {loc : Loc} {H : Hp} {d : D} {v : V} (r : Rep g S loc H d v) : decide (v = .non) = d.isNon := by
  cases r <;> first | rfl | (exact decide_eq_false (fun e => by cases e))
theorem op_Is : OpR X (compareOp .Is) (rK2 g kIs) := OpR.imp op_isN fun x y H Q h => by
  obtain ⟨S, loc, d, e, z, S', A, r1, r2, ek, q⟩ := h
  unfold kIs at ek
  split at ek
  · cases r2
    simp only [Option.some.injEq, Prod.mk.injEq] at ek
    obtain ⟨rfl, rfl⟩ := ek
    exact ⟨rfl, by rw [r1.non_iff]; exact q _ loc H A .refl (.bl _)⟩
  · cases ek
theorem op_IsNot : OpR X (compareOp .IsNot) (rK2 g kIsNot) := OpR.imp op_notN fun x y H Q h => by
  obtain ⟨S, loc, d, e, z, S', A, r1, r2, ek, q⟩ := h
  unfold kIsNot at ek
  split at ek
  · cases r2
    simp only [Option.some.injEq, Prod.mk.injEq] at ek
    obtain ⟨rfl, rfl⟩ := ek
    exact ⟨rfl, by rw [r1.non_iff]; exact q _ loc H A .refl (.bl _)⟩
  · cases ek
end

/-! ### == of data -/
mutual
def toPy (rf : Nat → Option PyData) : D → Option PyData
  | .non => some .none
  | .bl b => some (.bool b)
  | .int i => some (.int i)
  | .str x => some (.str x)
  | .tup l => (toPys rf l).map .tuple
  | .lst l => (toPys rf l).map .list
  | .scr l => (toPys rf l).map .list
  | .ref n => rf n
  | .adr _ _ _ => none
  | .exn _ => none
def toPys (rf : Nat → Option PyData) : List D → Option (List PyData)
  | [] => some []
  | d :: l => (toPy rf d).bind fun p => (toPys rf l).map fun ps => p :: ps
end
def rfs (S : S3) : Nat → Nat → Option PyData
  | 0, _ => none
  | k + 1, n => match S.ob n with
    | some (.lst l) => (toPys (rfs S k) l).map .list
    | _ => none
def pyOf (S : S3) (d : D) : Option PyData := toPy (rfs S 3) d
def kEq : D → D → M D := fun d e S => match pyOf S d, pyOf S e with
  | some p, some q => if SeqAt.shaped p && SeqAt.shaped q then some (.bl (PyData.eqv p q), S) else none
  | _, _ => none
def kNe : D → D → M D := fun d e S => match pyOf S d, pyOf S e with
  | some p, some q => if SeqAt.shaped p && SeqAt.shaped q then some (.bl (!PyData.eqv p q), S) else none
  | _, _ => none
section
variable {X : Cx} {g : G} {S : S3} {loc : Loc} {H : Hp}
mutual
theorem toPy_dp {rf : Nat → Option PyData} (h : ∀ n p, rf n = some p → Dp g.K H (.ref (loc.ad n)) p) : ∀ {d : D} {v : V} {p : PyData}, Rep g S loc H d v → toPy rf d = some p → Dp g.K H v p
  | _, _, _, .non, e => by simp only [toPy, Option.some.injEq] at e; subst e; exact .non
  | _, _, _, .bl b, e => by simp only [toPy, Option.some.injEq] at e; subst e; exact .bl b
  | _, _, _, .int i, e => by simp only [toPy, Option.some.injEq] at e; subst e; exact .int i
  | _, _, _, .str x, e => by simp only [toPy, Option.some.injEq] at e; subst e; exact .str x
  | _, _, _, .tup h1 r, e => by
    simp only [toPy] at e
    obtain ⟨ps, e1, rfl⟩ := Option.map_eq_some_iff.mp e
    exact .tup (SqT.of h1) (toPys_dp h r e1)
  | _, _, _, .lst h1 _ r, e => by
    simp only [toPy] at e
    obtain ⟨ps, e1, rfl⟩ := Option.map_eq_some_iff.mp e
    exact .lst (SqL.of h1) (toPys_dp h r e1)
  | _, _, _, .scr h1 _ r, e => by
    simp only [toPy] at e
    obtain ⟨ps, e1, rfl⟩ := Option.map_eq_some_iff.mp e
    exact .lst (.inl h1) (toPys_dp h r e1)
  | _, _, _, .kscr h1 r, e => by
    simp only [toPy] at e
    obtain ⟨ps, e1, rfl⟩ := Option.map_eq_some_iff.mp e
    obtain ⟨o, its, n, a1, a2, a3, a4, a5, a6⟩ := h1
    exact .lst (.inr ⟨o, its, n, a1, a2, a3 rfl, a4, a5, a6⟩) (toPys_dp h r e1)
  | _, _, _, .ref _, e => by simp only [toPy] at e; exact h _ _ e
  | _, _, _, .adr _ _, e => by simp [toPy] at e
  | _, _, _, .exn _ _ _, e => by simp [toPy] at e
theorem toPys_dp {rf : Nat → Option PyData} (h : ∀ n p, rf n = some p → Dp g.K H (.ref (loc.ad n)) p) : ∀ {l : List D} {vs : List V} {ps : List PyData}, Reps g S loc H l vs → toPys rf l = some ps → DpAll g.K H vs ps
  | _, _, _, .nil, e => by simp only [toPys, Option.some.injEq] at e; subst e; exact .nil
  | _, _, _, .cons a b, e => by
    simp only [toPys] at e
    obtain ⟨p, e1, e2⟩ := Option.bind_eq_some_iff.mp e
    obtain ⟨qs, e3, rfl⟩ := Option.map_eq_some_iff.mp e2
    exact .cons (toPy_dp h a e1) (toPys_dp h b e3)
end
theorem rfs_dp (A : Abs g S loc H) : ∀ k n p, rfs S k n = some p → Dp g.K H (.ref (loc.ad n)) p
  | 0, _, _, e => by simp [rfs] at e
  | k + 1, n, p, e => by
    simp only [rfs] at e
    split at e
    · rename_i l hn
      obtain ⟨ps, e1, rfl⟩ := Option.map_eq_some_iff.mp e
      obtain ⟨xs, h1, r⟩ := A.ob _ _ hn
      exact .lst (SqL.of h1) (toPys_dp (rfs_dp A k) r e1)
    · cases e
theorem pyOf_dp (A : Abs g S loc H) {d : D} {v : V} {p : PyData} (r : Rep g S loc H d v) (e : pyOf S d = some p) : Dp g.K H v p := toPy_dp (rfs_dp A 3) r e
theorem op_Eq (hK : X.K = g.K) (hu : X.A.units + 64 < cLine) : OpR X (compareOp .Eq) (rK2 g kEq) := OpR.imp (op_eqD hu) fun x y H Q h => by
  obtain ⟨S, loc, d, e, z, S', A, r1, r2, ek, q⟩ := h
  unfold kEq at ek
  split at ek
  · rename_i p1 p2 h1 h2
    split at ek
    · rename_i hh
      rw [Bool.and_eq_true] at hh
      simp only [Option.some.injEq, Prod.mk.injEq] at ek
      obtain ⟨rfl, rfl⟩ := ek
      exact ⟨p1, p2, by rw [hK]; exact pyOf_dp A r1 h1, by rw [hK]; exact pyOf_dp A r2 h2, hh.1, hh.2, q _ loc H A .refl (.bl _)⟩
    · cases ek
  · cases ek
theorem op_Ne (hK : X.K = g.K) (hu : X.A.units + 64 < cLine) : OpR X (compareOp .NotEq) (rK2 g kNe) := OpR.imp (op_neD hu) fun x y H Q h => by
  obtain ⟨S, loc, d, e, z, S', A, r1, r2, ek, q⟩ := h
  unfold kNe at ek
  split at ek
  · rename_i p1 p2 h1 h2
    split at ek
    · rename_i hh
      rw [Bool.and_eq_true] at hh
      simp only [Option.some.injEq, Prod.mk.injEq] at ek
      obtain ⟨rfl, rfl⟩ := ek
      exact ⟨p1, p2, by rw [hK]; exact pyOf_dp A r1 h1, by rw [hK]; exact pyOf_dp A r2 h2, hh.1, hh.2, q _ loc H A .refl (.bl _)⟩
    · cases ek
  · cases ek
end

/-! ### in: texts, lists -/
def kInS (neg : Bool) : D → D → M D := fun d e S => match d, e with
  | .str ⟨⟨[c]⟩⟩, .str z => some (.bl (if neg then !decide (c ∈ z.cps.toList) else decide (c ∈ z.cps.toList)), S)
  | _, _ => none
/-- data in a list -/
def kInL (neg : Bool) : D → D → M D := fun d e S => match pyOf S d, pyOf S e with
  | some p, some (.list ps) => if SeqAt.shaped p && SeqAt.shaped (.list ps) then some (.bl (if neg then !ps.any fun z => PyData.eqv z p else ps.any fun z => PyData.eqv z p), S) else none
  | _, _ => none
section
variable {X : Cx} {g : G}
theorem op_InS : OpR X (compareOp .In) (rK2 g (kInS false)) := OpR.imp op_in_sign fun x y H Q h => by
  obtain ⟨S, loc, d, e, z, S', A, r1, r2, ek, q⟩ := h
  unfold kInS at ek
  split at ek
  · cases r1; cases r2
    simp only [Option.some.injEq, Prod.mk.injEq] at ek
    obtain ⟨rfl, rfl⟩ := ek
    exact ⟨_, _, rfl, rfl, q _ loc H A .refl (.bl _)⟩
  · cases ek
theorem op_NotInS : OpR X (compareOp .NotIn) (rK2 g (kInS true)) := OpR.imp op_notIn_sign fun x y H Q h => by
  obtain ⟨S, loc, d, e, z, S', A, r1, r2, ek, q⟩ := h
  unfold kInS at ek
  split at ek
  · cases r1; cases r2
    simp only [Option.some.injEq, Prod.mk.injEq] at ek
    obtain ⟨rfl, rfl⟩ := ek
    exact ⟨_, _, rfl, rfl, q _ loc H A .refl (.bl _)⟩
  · cases ek
theorem op_InL (hK : X.K = g.K) (hu : X.A.units + 65 < cLine) : OpR X (compareOp .In) (rK2 g (kInL false)) := OpR.imp (op_inD hu) fun x y H Q h => by
  obtain ⟨S, loc, d, e, z, S', A, r1, r2, ek, q⟩ := h
  unfold kInL at ek
  split at ek
  · rename_i p ps h1 h2
    split at ek
    · rename_i hh
      rw [Bool.and_eq_true] at hh
      simp only [Option.some.injEq, Prod.mk.injEq] at ek
      obtain ⟨rfl, rfl⟩ := ek
      exact ⟨p, ps, by rw [hK]; exact pyOf_dp A r1 h1, by rw [hK]; exact pyOf_dp A r2 h2, hh.1, hh.2, q _ loc H A .refl (.bl _)⟩
    · cases ek
  · cases ek
theorem op_NotInL (hK : X.K = g.K) (hu : X.A.units + 65 < cLine) : OpR X (compareOp .NotIn) (rK2 g (kInL true)) := OpR.imp (op_notInD hu) fun x y H Q h => by
  obtain ⟨S, loc, d, e, z, S', A, r1, r2, ek, q⟩ := h
  unfold kInL at ek
  split at ek
  · rename_i p ps h1 h2
    split at ek
    · rename_i hh
      rw [Bool.and_eq_true] at hh
      simp only [Option.some.injEq, Prod.mk.injEq] at ek
      obtain ⟨rfl, rfl⟩ := ek
      exact ⟨p, ps, by rw [hK]; exact pyOf_dp A r1 h1, by rw [hK]; exact pyOf_dp A r2 h2, hh.1, hh.2, q _ loc H A .refl (.bl _)⟩
    · cases ek
  · cases ek
end

/-! ### items and slices of lists, tuples, texts -/
def kIx : D → D → M D := fun d e S => match e with
  | .int i => match d with
    | .str z => if z.length ≤ sizeLine then (atI z.cps.toList i).map fun c => (.str ⟨#[c]⟩, S) else none
    | d => match seqOf S d with
      | some l => (atI l i).map (·, S)
      | none => none
  | _ => none
def cutD (l : List D) (lo hi : Option Int) : List D := (l.drop (HT.sIx l.length 0 lo)).take (HT.sIx l.length l.length hi - HT.sIx l.length 0 lo)
def kSl (b : Bool) : D → Option Int → Option Int → M D := fun d lo hi S => match d with
  | .str z => if z.length ≤ sizeLine then some (.str (cutS z lo hi), S) else none
  | .tup l => some (.tup (cutD l lo hi), S)
  | d => match listOf S d with
    | some l => newL b (cutD l lo hi) S
    | none => none
section
variable {X : Cx} {g : G}
theorem Reps.atI {S : S3} {loc : Loc} {H : Hp} {l : List D} {xs : List V} (r : Reps g S loc H l xs) {i : Int} {d : D} (h : L2.atI l i = some d) : ∃ v, L2.atI xs i = some v ∧ Rep g S loc H d v := by
  unfold L2.atI at h ⊢
  rw [← r.length]
  cases q : ixN l.length i with
  | none => rw [q] at h; cases h
  | some j =>
    rw [q] at h
    exact r.get h
theorem ix_Seq (hK : X.K = g.K) : IxR X (rK2 g kIx) := IxR.imp ix_seq fun x y H Q h => by
  obtain ⟨S, loc, d, e, z, S', A, r1, r2, ek, q⟩ := h
  unfold kIx at ek
  split at ek
  · cases r2
    rename_i i
    have lst : ∀ l, listOf S d = some l → (L2.atI l i).map (·, S) = some (z, S') → rIx X.K x (.int i) H Q := fun l hl ek => by
      obtain ⟨d', h1, h2⟩ := Option.map_eq_some_iff.mp ek
      simp only [Prod.mk.injEq] at h2
      obtain ⟨rfl, rfl⟩ := h2
      obtain ⟨p, xs, rfl, hs, rs⟩ := listOf_sq A r1 hl
      obtain ⟨v, hv, rv⟩ := rs.atI h1
      exact .inl ⟨p, xs, i, v, rfl, rfl, by rw [hK]; exact hs, hv, q v loc H A .refl rv⟩
    split at ek
    · cases r1
      split at ek
      · rename_i hz
        obtain ⟨c, h1, h2⟩ := Option.map_eq_some_iff.mp ek
        simp only [Prod.mk.injEq] at h2
        obtain ⟨rfl, rfl⟩ := h2
        exact .inr (.inr ⟨_, i, c, rfl, rfl, hz, h1, q _ loc H A .refl (.str _)⟩)
      · cases ek
    · split at ek
      · rename_i l hl
        unfold seqOf at hl
        split at hl
        · simp only [Option.some.injEq] at hl
          subst hl
          obtain ⟨d', h1, h2⟩ := Option.map_eq_some_iff.mp ek
          simp only [Prod.mk.injEq] at h2
          obtain ⟨rfl, rfl⟩ := h2
          obtain ⟨p, xs, rfl, hs, rs⟩ := r1.tupAt
          obtain ⟨v, hv, rv⟩ := rs.atI h1
          exact .inr (.inl ⟨p, xs, i, v, rfl, rfl, SqT.of hs, hv, q v loc H A .refl rv⟩)
        · exact lst l hl ek
      · cases ek
  · cases ek
theorem Reps.cut {S : S3} {loc : Loc} {H : Hp} {l : List D} {xs : List V} (r : Reps g S loc H l xs) (lo hi : Option Int) : Reps g S loc H (cutD l lo hi) (cutV xs lo hi) := by
  unfold cutD cutV
  rw [← r.length]
  exact (r.drop _).take _
theorem cutD_whole {l : List D} {lo hi : Option Int} (h1 : HT.sIx l.length 0 lo = 0) (h2 : HT.sIx l.length l.length hi = l.length) : cutD l lo hi = l := by
  unfold cutD
  rw [h1, h2]; simp
theorem sl_Seq (hK : X.K = g.K) (b : Bool) : SlR X (rKs g (kSl b)) := SlR.imp (SlR.or sl_str (SlR.or sl_tupA sl_list)) fun x lo hi H Q h => by
  obtain ⟨S, loc, d, z, S', A, r1, ek, q⟩ := h
  unfold kSl at ek
  split at ek
  · cases r1
    split at ek
    · rename_i hz
      simp only [Option.some.injEq, Prod.mk.injEq] at ek
      obtain ⟨rfl, rfl⟩ := ek
      exact .inl ⟨_, rfl, hz, q _ loc H A .refl (.str _)⟩
    · cases ek
  · simp only [Option.some.injEq, Prod.mk.injEq] at ek
    obtain ⟨rfl, rfl⟩ := ek
    obtain ⟨p, xs, rfl, hs, rs⟩ := r1.tupAt
    refine .inr (.inl ⟨p, xs, rfl, SqT.of hs, fun hw => ?_, fun _ => newT_ok A (rs.cut lo hi) q⟩)
    rw [← rs.length] at hw
    rw [cutD_whole hw.1 hw.2] at q
    exact q _ loc H A .refl r1
  · split at ek
    · rename_i l hl
      obtain ⟨p, xs, rfl, hs, rs⟩ := listOf_sq A r1 hl
      exact .inr (.inr ⟨p, xs, rfl, by rw [hK]; exact hs, newL_ok A (rs.cut lo hi) ek q⟩)
    · cases ek
end

/-! ### len, str, int, list, tuple, max -/
def kLen : List D → M D := fun ds S => match ds with
  | [.str z] => if z.length ≤ sizeLine then some (.int z.length, S) else none
  | [d] => match seqOf S d with
    | some l => some (.int l.length, S)
    | none => none
  | _ => none
def kStr : List D → M D := fun ds S => match ds with
  | [.int i] => if i.natAbs.log2 < 1920 then some (.str (toString i), S) else none
  | _ => none
def kInt : List D → M D := fun ds S => match ds with
  | [.int i] => some (.int i, S)
  | [.bl b] => some (.int (if b then 1 else 0), S)
  | [.str x] => match PySem.intText? x with
    | some n => if x.length ≤ 640 then some (.int n, S) else none
    | none => none
  | _ => none
def kList (b : Bool) : List D → M D := fun ds S => match ds with
  | [d] => match seqOf S d with
    | some l => newL b l S
    | none => none
  | _ => none
def kTuple : List D → M D := fun ds S => match ds with
  | [d] => match seqOf S d with
    | some l => some (.tup l, S)
    | none => none
  | _ => none
def kMax2 : List D → M D := fun ds S => match ds with
  | [.int i, .int j] => some (.int (if j > i then j else i), S)
  | _ => none
def kMin2 : List D → M D := fun ds S => match ds with
  | [.int i, .int j] => some (.int (if j < i then j else i), S)
  | _ => none
def intsOf : List D → Option (List Int)
  | [] => some []
  | .int i :: l => (intsOf l).map (i :: ·)
  | _ :: _ => none
def mostOf : List Int → Int
  | [] => 0
  | [i] => i
  | i :: l => max i (mostOf l)
def kMax1 : List D → M D := fun ds S => match ds with
  | [d] => match listOf S d with
    | some l => match intsOf l with
      | some (i :: ns) => some (.int (mostOf (i :: ns)), S)
      | _ => none
    | none => none
  | _ => none
def kSum : List D → M D := fun ds S => match ds with
  | [d] => match listOf S d with
    | some l => match intsOf l with
      | some ns => some (.int ns.sum, S)
      | none => none
    | none => none
  | _ => none
section
variable {X : Cx} {g : G} {S : S3} {loc : Loc} {H : Hp}
theorem Reps.one_inv {d : D} {xs : List V} (r : Reps g S loc H [d] xs) : ∃ v, xs = [v] ∧ Rep g S loc H d v := by
  cases r with
  | cons a b => cases b; exact ⟨_, rfl, a⟩
theorem Reps.two_inv {d e : D} {xs : List V} (r : Reps g S loc H [d, e] xs) : ∃ v w, xs = [v, w] ∧ Rep g S loc H d v ∧ Rep g S loc H e w := by
  cases r with
  | cons a b =>
    obtain ⟨w, rfl, c⟩ := b.one_inv
    exact ⟨_, w, rfl, a, c⟩
theorem Reps.nil_inv {xs : List V} (r : Reps g S loc H [] xs) : xs = [] := by cases r; rfl
theorem seqOf_sq {d : D} {v : V} {l : List D} (A : Abs g S loc H) (r : Rep g S loc H d v) (h : seqOf S d = some l) : ∃ p xs, v = .ref p ∧ (SqL g.K H p xs ∨ SqT g.K H p xs) ∧ Reps g S loc H l xs := by
  unfold seqOf at h
  split at h
  · simp only [Option.some.injEq] at h; subst h
    obtain ⟨p, xs, rfl, hs, rs⟩ := r.tupAt
    exact ⟨p, xs, rfl, .inr (SqT.of hs), rs⟩
  · obtain ⟨p, xs, rfl, hs, rs⟩ := listOf_sq A r h
    exact ⟨p, xs, rfl, .inl hs, rs⟩
theorem call_Len (hK : X.K = g.K) : CallR X (.builtin "len") (rKn g kLen) := CallR.imp call_len fun xs H Q h => by
  obtain ⟨S, loc, ds, z, S', A, r, ek, q⟩ := h
  unfold kLen at ek
  split at ek
  · obtain ⟨v, rfl, r1⟩ := r.one_inv
    cases r1
    split at ek
    · rename_i hz
      simp only [Option.some.injEq, Prod.mk.injEq] at ek
      obtain ⟨rfl, rfl⟩ := ek
      exact ⟨_, _, rfl, ⟨hz, rfl⟩, q _ loc H A .refl (.int _)⟩
    · cases ek
  · obtain ⟨v, rfl, r1⟩ := r.one_inv
    split at ek
    · rename_i l hl
      simp only [Option.some.injEq, Prod.mk.injEq] at ek
      obtain ⟨rfl, rfl⟩ := ek
      obtain ⟨p, xs, rfl, hs, rs⟩ := seqOf_sq A r1 hl
      refine ⟨.ref p, l.length, rfl, ?_, q _ loc H A .refl (.int _)⟩
      rw [hK]
      rcases hs with hs | hs
      · exact .inl ⟨xs, hs, rs.length⟩
      · exact .inr ⟨xs, hs, rs.length⟩
    · cases ek
  · cases ek
theorem call_Str : CallR X (.type "str") (rKn g kStr) := CallR.imp call_str_int fun xs H Q h => by
  obtain ⟨S, loc, ds, z, S', A, r, ek, q⟩ := h
  unfold kStr at ek
  split at ek
  · obtain ⟨v, rfl, r1⟩ := r.one_inv
    cases r1
    split at ek
    · rename_i hz
      simp only [Option.some.injEq, Prod.mk.injEq] at ek
      obtain ⟨rfl, rfl⟩ := ek
      exact ⟨_, rfl, hz, q _ loc H A .refl (.str _)⟩
    · cases ek
  · cases ek
theorem call_Int : CallR X (.type "int") (rKn g kInt) := CallR.imp (CallR.or call_int1 call_int_str) fun xs H Q h => by
  obtain ⟨S, loc, ds, z, S', A, r, ek, q⟩ := h
  unfold kInt at ek
  split at ek
  · obtain ⟨v, rfl, r1⟩ := r.one_inv
    cases r1
    simp only [Option.some.injEq, Prod.mk.injEq] at ek
    obtain ⟨rfl, rfl⟩ := ek
    exact .inl (.inl ⟨_, rfl, q _ loc H A .refl (.int _)⟩)
  · obtain ⟨v, rfl, r1⟩ := r.one_inv
    cases r1
    simp only [Option.some.injEq, Prod.mk.injEq] at ek
    obtain ⟨rfl, rfl⟩ := ek
    exact .inl (.inr ⟨_, rfl, q _ loc H A .refl (.int _)⟩)
  · obtain ⟨v, rfl, r1⟩ := r.one_inv
    cases r1
    split at ek
    · rename_i n hn
      split at ek
      · rename_i hz
        simp only [Option.some.injEq, Prod.mk.injEq] at ek
        obtain ⟨rfl, rfl⟩ := ek
        exact .inr ⟨_, n, rfl, hn, hz, q _ loc H A .refl (.int _)⟩
      · cases ek
    · cases ek
  · cases ek
theorem call_List (hK : X.K = g.K) (b : Bool) : CallR X (.type "list") (rKn g (kList b)) := CallR.imp call_list_of fun xs H Q h => by
  obtain ⟨S, loc, ds, z, S', A, r, ek, q⟩ := h
  unfold kList at ek
  split at ek
  · obtain ⟨v, rfl, r1⟩ := r.one_inv
    split at ek
    · rename_i l hl
      obtain ⟨p, xs, rfl, hs, rs⟩ := seqOf_sq A r1 hl
      exact ⟨p, xs, rfl, by rw [hK]; exact hs, newL_ok A rs ek q⟩
    · cases ek
  · cases ek
theorem call_Tuple (hK : X.K = g.K) : CallR X (.type "tuple") (rKn g kTuple) := CallR.imp call_tuple_of fun xs H Q h => by
  obtain ⟨S, loc, ds, z, S', A, r, ek, q⟩ := h
  unfold kTuple at ek
  split at ek
  · obtain ⟨v, rfl, r1⟩ := r.one_inv
    split at ek
    · rename_i l hl
      simp only [Option.some.injEq, Prod.mk.injEq] at ek
      obtain ⟨rfl, rfl⟩ := ek
      unfold seqOf at hl
      split at hl
      · simp only [Option.some.injEq] at hl
        subst hl
        obtain ⟨p, xs, rfl, hs, rs⟩ := r1.tupAt
        exact ⟨p, xs, rfl, .inr ⟨SqT.of hs, q _ loc H A .refl r1⟩⟩
      · obtain ⟨p, xs, rfl, hs, rs⟩ := listOf_sq A r1 hl
        exact ⟨p, xs, rfl, .inl ⟨by rw [hK]; exact hs, newT_ok A rs q⟩⟩
    · cases ek
  · cases ek
theorem call_Max2 (hc : X.calm = true) : CallR X (.builtin "max") (rKn g kMax2) := CallR.imp (call_max2 hc) fun xs H Q h => by
  obtain ⟨S, loc, ds, z, S', A, r, ek, q⟩ := h
  unfold kMax2 at ek
  split at ek
  · obtain ⟨v, w, rfl, r1, r2⟩ := r.two_inv
    cases r1; cases r2
    simp only [Option.some.injEq, Prod.mk.injEq] at ek
    obtain ⟨rfl, rfl⟩ := ek
    exact ⟨_, _, rfl, q _ loc H A .refl (.int _)⟩
  · cases ek
theorem call_Min2 (hc : X.calm = true) : CallR X (.builtin "min") (rKn g kMin2) := CallR.imp (call_min2 hc) fun xs H Q h => by
  obtain ⟨S, loc, ds, z, S', A, r, ek, q⟩ := h
  unfold kMin2 at ek
  split at ek
  · obtain ⟨v, w, rfl, r1, r2⟩ := r.two_inv
    cases r1; cases r2
    simp only [Option.some.injEq, Prod.mk.injEq] at ek
    obtain ⟨rfl, rfl⟩ := ek
    exact ⟨_, _, rfl, q _ loc H A .refl (.int _)⟩
  · cases ek
theorem intsOf_map : ∀ {l : List D} {ns : List Int} {xs : List V}, intsOf l = some ns → Reps g S loc H l xs → xs = ns.map V.int
  | [], ns, xs, e, r => by simp [intsOf] at e; subst e; cases r; rfl
  | .int i :: l, ns, xs, e, r => by
    simp only [intsOf] at e
    obtain ⟨ms, e1, rfl⟩ := Option.map_eq_some_iff.mp e
    cases r with
    | cons a b => cases a; rw [intsOf_map e1 b]; rfl
  | .non :: _, _, _, e, _ => by simp [intsOf] at e
  | .bl _ :: _, _, _, e, _ => by simp [intsOf] at e
  | .str _ :: _, _, _, e, _ => by simp [intsOf] at e
  | .tup _ :: _, _, _, e, _ => by simp [intsOf] at e
  | .lst _ :: _, _, _, e, _ => by simp [intsOf] at e
  | .scr _ :: _, _, _, e, _ => by simp [intsOf] at e
  | .ref _ :: _, _, _, e, _ => by simp [intsOf] at e
  | .adr _ _ _ :: _, _, _, e, _ => by simp [intsOf] at e
  | .exn _ :: _, _, _, e, _ => by simp [intsOf] at e
theorem most_ge : ∀ {l : List Int} {y : Int}, y ∈ l → y ≤ mostOf l
  | [i], y, h => by simp at h; subst h; exact Int.le_refl _
  | i :: j :: l, y, h => by
    show y ≤ max i (mostOf (j :: l))
    rcases List.mem_cons.mp h with rfl | h
    · exact Int.le_max_left _ _
    · exact Int.le_trans (most_ge h) (Int.le_max_right _ _)
theorem most_mem : ∀ {l : List Int}, l ≠ [] → mostOf l ∈ l
  | [i], _ => by simp [mostOf]
  | i :: j :: l, _ => by
    show max i (mostOf (j :: l)) ∈ i :: j :: l
    have q := most_mem (l := j :: l) (by simp)
    rcases Int.le_total i (mostOf (j :: l)) with h | h
    · rw [Int.max_eq_right h]; exact List.mem_cons_of_mem _ q
    · rw [Int.max_eq_left h]; exact List.mem_cons_self
theorem call_Max1 (hK : X.K = g.K) (hc : X.calm = true) : CallR X (.builtin "max") (rKn g kMax1) := CallR.imp (cr_max hc) fun xs H Q h => by
  obtain ⟨S, loc, ds, z, S', A, r, ek, q⟩ := h
  unfold kMax1 at ek
  split at ek
  · obtain ⟨v, rfl, r1⟩ := r.one_inv
    split at ek
    · rename_i l hl
      split at ek
      · rename_i i ns hn
        simp only [Option.some.injEq, Prod.mk.injEq] at ek
        obtain ⟨rfl, rfl⟩ := ek
        obtain ⟨p, xs, rfl, hs, rs⟩ := listOf_sq A r1 hl
        have e := intsOf_map hn rs
        subst e
        refine ⟨p, i :: ns, rfl, by rw [hK]; exact hs, by simp, fun m hm hge => ?_⟩
        have e : m = mostOf (i :: ns) := Int.le_antisymm (most_ge hm) (hge _ (most_mem (by simp)))
        rw [e]
        exact q _ loc H A .refl (.int _)
      · cases ek
    · cases ek
  · cases ek
theorem call_Sum (hK : X.K = g.K) (hc : X.calm = true) : CallR X (.builtin "sum") (rKn g kSum) := CallR.imp (cr_sum hc) fun xs H Q h => by
  obtain ⟨S, loc, ds, z, S', A, r, ek, q⟩ := h
  unfold kSum at ek
  split at ek
  · obtain ⟨v, rfl, r1⟩ := r.one_inv
    split at ek
    · rename_i l hl
      split at ek
      · rename_i ns hn
        simp only [Option.some.injEq, Prod.mk.injEq] at ek
        obtain ⟨rfl, rfl⟩ := ek
        obtain ⟨p, xs, rfl, hs, rs⟩ := listOf_sq A r1 hl
        have e := intsOf_map hn rs
        subst e
        exact ⟨p, ns, rfl, by rw [hK]; exact hs, q _ loc H A .refl (.int _)⟩
      · cases ek
    · cases ek
  · cases ek
end

/-! ### methods of texts and lists -/
def strsOf : List D → Option (List Str)
  | [] => some []
  | .str x :: l => (strsOf l).map (x :: ·)
  | _ :: _ => none
def kJoin : D → List D → M D := fun o ds S => match o, ds with
  | .str a, [d] => match seqOf S d with
    | some l => match strsOf l with
      | some ys => if (ys.map (·.length)).sum + ys.length * a.length ≤ 16777216 then some (.str (Txt.join a ys), S) else none
      | none => none
    | none => none
  | _, _ => none
def kSplit (b : Bool) : D → List D → M D := fun o ds S => match o, ds with
  | .str a, [.str y] => if (y.length == 0) = false ∧ a.length + 2 ≤ sizeLine then newL b ((Txt.split a y).map D.str) S else none
  | _, _ => none
def kIndexS : D → List D → M D := fun o ds S => match o, ds with
  | .str a, [.str y] => match Builtin.Str.occurrences a y 0 a.length 1 with
    | i :: _ => some (.int (i : Nat), S)
    | [] => none
  | _, _ => none
def kAppend : D → List D → M D := fun o ds S => match o, ds with
  | .ref n, [d] => match S.ob n with
    | some (.lst l) => if l.length < sizeLine then some (.non, S.set n (.lst (l ++ [d]))) else none
    | _ => none
  | _, _ => none
def kExtend : D → List D → M D := fun o ds S => match o, ds with
  | .ref n, [d] => match S.ob n, lstOf S d with
    | some (.lst l), some m => if l.length + m.length ≤ sizeLine then some (.non, S.set n (.lst (l ++ m))) else none
    | _, _ => none
  | _, _ => none
def kClear : D → List D → M D := fun o ds S => match o, ds with
  | .ref n, [] => match S.ob n with
    | some (.lst _) => some (.non, S.set n (.lst []))
    | _ => none
  | _, _ => none
def kReverse : D → List D → M D := fun o ds S => match o, ds with
  | .ref n, [] => match S.ob n with
    | some (.lst l) => some (.non, S.set n (.lst l.reverse))
    | _ => none
  | _, _ => none
section
variable {X : Cx} {g : G} {S : S3} {loc : Loc} {H : Hp}
theorem strsOf_map : ∀ {l : List D} {ns : List Str} {xs : List V}, strsOf l = some ns → Reps g S loc H l xs → xs = ns.map V.str
  | [], ns, xs, e, r => by simp [strsOf] at e; subst e; cases r; rfl
  | .str i :: l, ns, xs, e, r => by
    simp only [strsOf] at e
    obtain ⟨ms, e1, rfl⟩ := Option.map_eq_some_iff.mp e
    cases r with
    | cons a b => cases a; rw [strsOf_map e1 b]; rfl
  | .non :: _, _, _, e, _ => by simp [strsOf] at e
  | .bl _ :: _, _, _, e, _ => by simp [strsOf] at e
  | .int _ :: _, _, _, e, _ => by simp [strsOf] at e
  | .tup _ :: _, _, _, e, _ => by simp [strsOf] at e
  | .lst _ :: _, _, _, e, _ => by simp [strsOf] at e
  | .scr _ :: _, _, _, e, _ => by simp [strsOf] at e
  | .ref _ :: _, _, _, e, _ => by simp [strsOf] at e
  | .adr _ _ _ :: _, _, _, e, _ => by simp [strsOf] at e
  | .exn _ :: _, _, _, e, _ => by simp [strsOf] at e
theorem mt_Join (hK : X.K = g.K) : MtR X "str.join" (rKm g kJoin) := MtR.imp mt_join fun x xs H Q h => by
  obtain ⟨S, loc, d, ds, z, S', A, r, rs, ek, q⟩ := h
  unfold kJoin at ek
  split at ek
  · cases r
    obtain ⟨v, rfl, r1⟩ := rs.one_inv
    split at ek
    · rename_i l hl
      split at ek
      · rename_i ys hn
        split at ek
        · rename_i hz
          simp only [Option.some.injEq, Prod.mk.injEq] at ek
          obtain ⟨rfl, rfl⟩ := ek
          obtain ⟨p, xs, rfl, hs, rs⟩ := seqOf_sq A r1 hl
          have e := strsOf_map hn rs
          subst e
          exact ⟨_, p, ys, rfl, rfl, by rw [hK]; exact hs, hz, q _ loc H A .refl (.str _)⟩
        · cases ek
      · cases ek
    · cases ek
  · cases ek
theorem reps_strs : ∀ l : List Str, Reps g S loc H (l.map D.str) (l.map V.str)
  | [] => .nil
  | x :: l => .cons (.str x) (reps_strs l)
theorem mt_Split (b : Bool) : MtR X "str.split" (rKm g (kSplit b)) := MtR.imp mt_split fun x xs H Q h => by
  obtain ⟨S, loc, d, ds, z, S', A, r, rs, ek, q⟩ := h
  unfold kSplit at ek
  split at ek
  · cases r
    obtain ⟨v, rfl, r1⟩ := rs.one_inv
    cases r1
    split at ek
    · rename_i hz
      exact ⟨_, _, rfl, rfl, hz.1, hz.2, newL_ok A (reps_strs _) ek q⟩
    · cases ek
  · cases ek
theorem mt_IndexS : MtR X "str.index" (rKm g kIndexS) := MtR.imp mt_sindex fun x xs H Q h => by
  obtain ⟨S, loc, d, ds, z, S', A, r, rs, ek, q⟩ := h
  unfold kIndexS at ek
  split at ek
  · cases r
    obtain ⟨v, rfl, r1⟩ := rs.one_inv
    cases r1
    split at ek
    · rename_i i rest hi
      simp only [Option.some.injEq, Prod.mk.injEq] at ek
      obtain ⟨rfl, rfl⟩ := ek
      exact ⟨_, _, i, rest, rfl, rfl, hi, q _ loc H A .refl (.int _)⟩
    · cases ek
  · cases ek
theorem mt_Append : MtR X "list.append" (rKm g kAppend) := MtR.imp mt_append fun x xs H Q h => by
  obtain ⟨S, loc, d, ds, z, S', A, r, rs, ek, q⟩ := h
  unfold kAppend at ek
  split at ek
  · rename_i nn dd
    obtain ⟨v, rfl, r1⟩ := rs.one_inv
    cases r with
    | ref hlt =>
    split at ek
    · rename_i l hn
      split at ek
      · rename_i hz
        simp only [Option.some.injEq, Prod.mk.injEq] at ek
        obtain ⟨rfl, rfl⟩ := ek
        obtain ⟨ys, hy, ry⟩ := A.ob _ _ hn
        have x1 := ext_set A (o' := .lst (l ++ [dd])) (u := .lst (ys ++ [v])) hn
        refine ⟨_, ys, v, rfl, rfl, hy, by rw [← ry.length]; exact hz, ?_⟩
        exact q _ loc _ (A.set hn (by intro _ z; cases z) ⟨_, upd_same, (ry.ext A x1).append (.one (r1.ext A x1))⟩) x1 .non
      · cases ek
    · cases ek
  · cases ek
theorem mt_Extend : MtR X "list.extend" (rKm g kExtend) := MtR.imp mt_extend fun x xs H Q h => by
  obtain ⟨S, loc, d, ds, z, S', A, r, rs, ek, q⟩ := h
  unfold kExtend at ek
  split at ek
  · obtain ⟨v, rfl, r1⟩ := rs.one_inv
    cases r with
    | ref hlt =>
    split at ek
    · rename_i l m hn hm
      split at ek
      · rename_i hz
        simp only [Option.some.injEq, Prod.mk.injEq] at ek
        obtain ⟨rfl, rfl⟩ := ek
        obtain ⟨ys, hy, ry⟩ := A.ob _ _ hn
        obtain ⟨p, zs, rfl, hp, rz⟩ := lstOf_at A r1 hm
        have x1 := ext_set A (o' := .lst (l ++ m)) (u := .lst (ys ++ zs)) hn
        refine ⟨_, p, ys, zs, rfl, rfl, hy, hp, by rw [← ry.length, ← rz.length]; exact hz, ?_⟩
        exact q _ loc _ (A.set hn (by intro _ z; cases z) ⟨_, upd_same, (ry.ext A x1).append (rz.ext A x1)⟩) x1 .non
      · cases ek
    · cases ek
  · cases ek
theorem mt_Clear : MtR X "list.clear" (rKm g kClear) := MtR.imp mt_clear fun x xs H Q h => by
  obtain ⟨S, loc, d, ds, z, S', A, r, rs, ek, q⟩ := h
  unfold kClear at ek
  split at ek
  · cases rs
    cases r with
    | ref hlt =>
    split at ek
    · rename_i l hn
      simp only [Option.some.injEq, Prod.mk.injEq] at ek
      obtain ⟨rfl, rfl⟩ := ek
      obtain ⟨ys, hy, ry⟩ := A.ob _ _ hn
      have x1 := ext_set A (o' := .lst []) (u := .lst []) hn
      exact ⟨_, ys, rfl, rfl, hy, q _ loc _ (A.set hn (by intro _ z; cases z) ⟨_, upd_same, .nil⟩) x1 .non⟩
    · cases ek
  · cases ek
theorem mt_Reverse : MtR X "list.reverse" (rKm g kReverse) := MtR.imp mt_reverse fun x xs H Q h => by
  obtain ⟨S, loc, d, ds, z, S', A, r, rs, ek, q⟩ := h
  unfold kReverse at ek
  split at ek
  · cases rs
    cases r with
    | ref hlt =>
    split at ek
    · rename_i l hn
      simp only [Option.some.injEq, Prod.mk.injEq] at ek
      obtain ⟨rfl, rfl⟩ := ek
      obtain ⟨ys, hy, ry⟩ := A.ob _ _ hn
      have x1 := ext_set A (o' := .lst l.reverse) (u := .lst ys.reverse) hn
      exact ⟨_, ys, rfl, rfl, hy, q _ loc _ (A.set hn (by intro _ z; cases z) ⟨_, upd_same, (ry.ext A x1).reverse⟩) x1 .non⟩
    · cases ek
  · cases ek
/-- o[i] = e of a list -/
def kSetL : D → D → D → S3 → Option S3 := fun o i d S => match o, i with
  | .ref n, .int k => match S.ob n with
    | some (.lst l) => (ixN l.length k).map fun j => S.set n (.lst (l.set j d))
    | _ => none
  | _, _ => none
theorem set_L : PSet X (rK3 g kSetL) := PSet.imp set_list fun o i v H Q h => by
  obtain ⟨S, loc, d, e, z, S', A, r1, r2, r3, ek, q⟩ := h
  unfold kSetL at ek
  split at ek
  · cases r1 with
    | ref hlt =>
    cases r2
    split at ek
    · rename_i l hn
      obtain ⟨j, hj, rfl⟩ := Option.map_eq_some_iff.mp ek
      obtain ⟨ys, hy, ry⟩ := A.ob _ _ hn
      have x1 := ext_set A (o' := .lst (l.set j z)) (u := .lst (ys.set j v)) hn
      exact ⟨_, ys, _, j, rfl, rfl, hy, by rw [← ry.length]; exact hj, q loc _ (A.set hn (by intro _ z; cases z) ⟨_, upd_same, (ry.ext A x1).set (r3.ext A x1) j⟩) x1⟩
    · cases ek
  · cases ek
end
end G3
set_option maxHeartbeats 4000000
/-! G3: sorted(..) of tuples, empty ones among them; of a list, of a dict's keys. -/
namespace G3
open PySem PySem.Spec PySem.Calls PyProof.Rows PySem.W SeqAt

section
variable {prog : Program} {w : World} {A : Around} {E : Value → Shared → Prop} {s : Shared}
/-- two tuples, asked by their own type's < -/
theorem one_tups {xs ys : List PyData} {a b : Value} {as bs : List Addr} {Q : Bool → Shared → Prop} (ra : Reads s.heap a (.tuple xs) as) (rb : Reads s.heap b (.tuple ys) bs) (h : alikeAll xs ys = true)
    (hu : A.units + min (PyData.tuple xs).depth (PyData.tuple ys).depth < cLine) (hq : Q (dataLt (.tuple xs) (.tuple ys)) s) : wpAny (model prog w) A (oneLt' true a b) Q E s := by
  cases ra with
  | @tuple l o vs n _ as₁ h1 h2 h3 h4 => cases rb with
    | @tuple l' o' vs' n' _ bs₁ k1 k2 k3 k4 =>
      have n1 : vs.size = xs.length := by simpa using SeqAt.ReadsAll.length _ _ _ h4
      have n2 : vs'.size = ys.length := by simpa using SeqAt.ReadsAll.length _ _ _ k4
      obtain ⟨c1, d1, t1, sl1⟩ := o
      obtain ⟨c2, d2, t2, sl2⟩ := o'
      simp only at h2 h3 k2 k3
      subst h2 h3 k2 k3
      rw [dataLt_tuple, ← firstLt_toks xs ys h, ← n1, ← n2] at hq
      rw [oneLt'_eq, if_pos rfl]
      refine wpAny_bind (wpAny_cRoomFor (SeqAt.room_here hu) (wpAny_bind (wpAny_callSpecialIfBound?_slot (T := "tuple") ⟨_, h1, rfl⟩ F.slot_tuple_lt (call_meets F.slot_tuple_lt ⟨_, h1, rfl⟩ F.entry_tuple_lt (F.args_tuple_lt_2 _ _)
        (tuple_ltAt l l' vs vs' n n' d1 d2 sl1 sl2 (SeqAt.pairEq xs ys) fun j => dataLt (xs.getD j .none) (ys.getD j .none)) ⟨h1, k1, fun j j1 j2 => ?_, fun j j1 j2 hj => ?_, wpAny_truthy_bool hq⟩))))
      · have z := eqAt_alikeAll xs ys A.in1 s vs.toList vs'.toList _ _ h4 k4 h (SeqAt.room_in hu) j (by simpa using j1) (by simpa using j2); simpa using z
      · have z := rcLt_alikeAll xs ys A.in1 s vs.toList vs'.toList _ _ h4 k4 h (SeqAt.room_in hu) j (by simpa using j1) (by simpa using j2) hj; simpa using z
/-- is it a tuple with an item -/
def filled : PyData → Bool
  | .tuple (_ :: _) => true
  | _ => false
/-- the first items of tuples, one by one -/
theorem firsts_of {M : Model} {vs : List Value} {ds : List PyData} (e : EachIs (fun v d => ∃ as, Reads s.heap v d as) vs ds) (ht : ∀ d, d ∈ ds → ∃ xs, d = .tuple xs) :
    ∃ fo : List (Option Value), (∀ Q : List (Option Value) → Shared → Prop, Q fo s → wpAny M A (vs.mapM firstOfTuple') Q E s) ∧ fo.map (·.isSome) = ds.map filled := by
  induction e with
  | nil => exact ⟨[], fun Q q => by rw [List.mapM_nil]; exact wpAny_pure q, rfl⟩
  | @cons v d vs ds r t ih =>
    obtain ⟨fo, h1, h2⟩ := ih fun d hd => ht d (List.mem_cons_of_mem _ hd)
    obtain ⟨xs, rfl⟩ := ht d List.mem_cons_self
    obtain ⟨as, r⟩ := r
    have key : ∃ f : Option Value, f.isSome = filled (.tuple xs) ∧ ∀ Q : Option Value → Shared → Prop, Q f s → wpAny M A (firstOfTuple' v) Q E s := by
      cases r with
      | @tuple l o vs n _ as₁ h1 h2 h3 h4 =>
        refine ⟨vs[0]?, ?_, fun Q q => ?_⟩
        · have n1 : vs.size = xs.length := by simpa using SeqAt.ReadsAll.length _ _ _ h4
          cases xs with
          | nil => rw [Array.getElem?_eq_none (by rw [n1]; exact Nat.le_refl _)] <;> rfl
          | cons x xs => rw [Array.getElem?_eq_getElem (show 0 < vs.size by rw [n1]; exact Nat.succ_pos _)] <;> rfl
        · rw [kas_first_eq]
          refine wpAny_bind ((looks_reads (Reads.tuple h1 h2 h3 h4)).here ?_)
          rw [if_neg (by simp [dataType])]
          exact wpAny_bind (listItems_at h1 h3 (wpAny_pure q))
    obtain ⟨f, f1, f2⟩ := key
    refine ⟨f :: fo, fun Q q => ?_, by rw [List.map_cons, List.map_cons, f1, h2]⟩
    rw [List.mapM_cons]
    exact wpAny_bind (f2 _ (wpAny_bind (h1 (fun bs s' => wpAny M A (pure (f :: bs)) Q E s') (wpAny_pure q))))
theorem head_isSome {α : Type} : ∀ {fo : List (Option α)} {bs : List Bool}, fo.map (·.isSome) = bs → (fo.toArray[0]?.bind id).isSome = (bs.head?).getD false
  | [], _, h => by subst h; rfl
  | f :: fo, _, h => by subst h; cases f <;> rfl
theorem all_isSome {α : Type} {fo : List (Option α)} {bs : List Bool} (h : fo.map (·.isSome) = bs) : (fo.toArray.all fun x => x.isSome) = bs.all id := by
  subst h; simp [List.all_map, Function.comp_def]
/-- values that read as tuples, alike ones, can be sorted -/
theorem sorts_tups {vs : List Value} {ds : List PyData} (e : EachIs (fun v d => ∃ as, Reads s.heap v d as) vs ds) (hal : AllAlike ds) (ht : ∀ d, d ∈ ds → ∃ xs, d = .tuple xs) (hu : ∀ d, d ∈ ds → A.units + d.depth < cLine) :
    SortsAt prog w A s (dataKind s.heap ds) vs := by
  by_cases hf : ∀ d, d ∈ ds → filled d = true
  · refine SortsAt.data e hal (.inl fun d hd => ?_) hu
    obtain ⟨xs, rfl⟩ := ht d hd
    cases xs with
    | nil => exact absurd (hf _ hd) (by simp [filled])
    | cons x r => exact ⟨x, r, rfl⟩
  refine ⟨fun v hv => ?_, ?_⟩
  · obtain ⟨d, hd, as, r⟩ := e.left v hv
    exact ⟨_, dataKind_some hal hd r⟩
  have cmp : ∀ f : Bool, ∀ (E : Value → Shared → Prop) (x y : Value) (a b : List (Int ⊕ List Nat)) {Q : Bool → Shared → Prop}, (dataKind s.heap ds).keyOf x = some a → (dataKind s.heap ds).keyOf y = some b → Q ((dataKind s.heap ds).blt a b) s → wpAny (model prog w) A (oneLt' f x y) Q E s := by
    intro f E x y a b Q ha hb hq
    obtain ⟨d, as, hd, ra, rfl⟩ := dataKind_inv ha
    obtain ⟨d', as', hd', rb, rfl⟩ := dataKind_inv hb
    have hroom : A.units + min d.depth d'.depth < cLine := Nat.lt_of_le_of_lt (Nat.add_le_add_left (Nat.min_le_left _ _) _) (hu d hd)
    obtain ⟨xs, rfl⟩ := ht d hd
    obtain ⟨ys, rfl⟩ := ht d' hd'
    have h := hal _ hd _ hd'
    cases f with
    | false => exact oneLt_alike (fun z => nomatch z) ra rb h (fun z => nomatch z) hroom hq
    | true => exact one_tups ra rb (by simpa [alike] using h) hroom hq
  cases hh : (ds.map filled).head?.getD false with
  | true =>
    refine ⟨general', fun E x y a b Q ha hb hq => cmp false E x y a b ha hb hq, fun h2 E Q hq => ?_⟩
    obtain ⟨fo, f1, f2⟩ := firsts_of (M := model prog w) (A := A) (E := E) e ht
    rw [keyKind'_eq, List.mapM_toArray, map_eq_pure_bind]
    refine wpAny_bind (wpAny_bind (f1 _ (wpAny_pure ?_)))
    rw [if_neg (by rw [all_isSome f2]; simpa using hf), if_pos (by rw [head_isSome f2]; exact hh)]
    exact wpAny_pure hq
  | false =>
    refine ⟨oneType', fun E x y a b Q ha hb hq => ?_, fun h2 E Q hq => ?_⟩
    · rw [keyLt'_oneType]; exact cmp true E x y a b ha hb hq
    obtain ⟨fo, f1, f2⟩ := firsts_of (M := model prog w) (A := A) (E := E) e ht
    rw [keyKind'_eq, List.mapM_toArray, map_eq_pure_bind]
    refine wpAny_bind (wpAny_bind (f1 _ (wpAny_pure ?_)))
    rw [if_neg (by rw [all_isSome f2]; simpa using hf), if_neg (by rw [head_isSome f2, hh]; exact Bool.false_ne_true)]
    rw [oneTypeOnly'_eq, List.mapM_toArray, map_eq_pure_bind]
    refine wpAny_bind (wpAny_bind (wpAny_bind (kas_mapM (r := Value.type "tuple") _ (fun v hv Q' hq' => ?_) (wpAny_pure ?_))))
    · obtain ⟨d, hd, as, r⟩ := e.left v hv
      obtain ⟨xs, rfl⟩ := ht d hd
      exact (looks_reads r).here hq'
    have h0 : (List.map (fun _ => Value.type "tuple") vs).toArray[0]? = some (Value.type "tuple") := by
      cases vs with
      | nil => simp at h2
      | cons v vs => simp
    have hall : ((List.map (fun _ => Value.type "tuple") vs).toArray.all fun x => x == Value.type "tuple") = true := by
      simp only [List.all_toArray, List.all_map, List.all_eq_true]
      intro _ _; rfl
    rw [h0]
    simp only [hall, if_true]
    exact wpAny_pure (wpAny_pure hq)
/-- sorted(r), from what walking through r gives -/
theorem sorted_any {r : Addr} {Q : Value → Shared → Prop} (h : wpAny (model prog w) A.in1 (collect (.ref r)) (fun vs s' => vs.length ≤ sizeLine ∧ ∃ κ : PyProof.Rows.KeyKind,
      SortsAt prog w A.in1.in1 { s' with heap := sortingHeap (s'.heap.push (seqObj "list" vs.toArray 0)) s'.heap.objs.size vs } κ vs ∧
      Q (.ref s'.heap.objs.size) { s' with heap := sortedHeap (s'.heap.push (seqObj "list" vs.toArray 0)) s'.heap.objs.size vs (sortVals κ false vs vs).toArray }) E s) : wpAny (model prog w) A (call (.builtin "sorted") [.ref r]) Q E s := by
  refine call_function_entry kind_sorted plain_sorted entry_sorted (args_sorted1 _) (by
    unfold Builtin.«sorted»
    refine wpAny_bind (m := checkCount "sorted" 1 1 _) (wpAny_pure (wpAny_bind (wpAny_mono h (fun vs s' hq => ?_) fun _ _ e => e)))
    obtain ⟨hL, κ, S, q⟩ := hq
    have hp : (s'.heap.push (seqObj "list" vs.toArray 0)).get? s'.heap.objs.size = some (seqObj "list" vs.toArray 0) := Heap.get?_push_size _ rfl
    refine wpAny_bind (wpAny_newList (wpAny_bind (wpAny_holding (wpAny_call_entry_kw (self := .ref s'.heap.objs.size) slot_list_sort ⟨_, hp, rfl⟩ entry_list_sort ?_ (args_list_sort _)))) hL)
    exact list_sort_vals hp S hL ⟨_, rfl, wpAny_pure ⟨_, rfl, q⟩⟩)
end
end G3

namespace G3
open PySem PySem.Spec PySem.W PyProof.Rows L2
section
variable {X : Cx} {pins : List (Addr × Obj)} {σ : L2.St} {H : Hp} {s : Shared} {A : Around}
/-- values and the data that they stand for -/
abbrev Std (vs : List Value) (bs : List (V × PyData)) : Prop := EachIs (fun (v : Value) (b : V × PyData) => L2.RelV b.1 v) vs bs
theorem std_vals : ∀ {vs : List Value} {bs : List (V × PyData)}, Std vs bs → Vals (bs.map (·.1)) vs
  | _, _, .nil => .nil
  | _, _, .cons r t => .cons r (std_vals t)
theorem std_of : ∀ {xs : List V} {ds : List PyData} {vs : List Value}, Vals xs vs → xs.length = ds.length → Std vs (xs.zip ds)
  | _, [], _, .nil, _ => .nil
  | _, _ :: _, _, .cons r t, h => .cons r (std_of t (by simpa using h))
  | _, [], _, .cons r t, h => by simp at h
  | _, _ :: _, _, .nil, h => by simp at h
theorem each_and {α β : Type} {R T : α → β → Prop} : ∀ {as : List α} {bs : List β}, EachIs R as bs → (∀ a b, b ∈ bs → R a b → T a b) → EachIs T as bs
  | _, _, .nil, _ => .nil
  | _, _, .cons r t, f => .cons (f _ _ List.mem_cons_self r) (each_and t fun a b hb => f a b (List.mem_cons_of_mem _ hb))
/-- the list that walking gave, sorted -/
theorem sort_end (I : Inv X pins σ H s) {vs : List Value} {bs : List (V × PyData)} (e : Std vs bs) (er : ∀ b, b ∈ bs → Dp X.K H b.1 b.2) (hal : AllAlike (bs.map (·.2))) (ht : ∀ d, d ∈ bs.map (·.2) → ∃ xs, d = .tuple xs) (hu : ∀ d, d ∈ bs.map (·.2) → A.units + d.depth < cLine) (hL : bs.length ≤ sizeLine)
    {Q : VK} (q : ∀ p, H p = none → Q (.ref p) (upd H p (.lst ((bs.mergeSort (dataLe false (·.2))).map (·.1))))) : vs.length ≤ sizeLine ∧ ∃ κ : PyProof.Rows.KeyKind,
      SortsAt X.prog X.w A { s with heap := sortingHeap (s.heap.push (seqObj "list" vs.toArray 0)) s.heap.objs.size vs } κ vs ∧
      EP X pins σ Q (.ref s.heap.objs.size) { s with heap := sortedHeap (s.heap.push (seqObj "list" vs.toArray 0)) s.heap.objs.size vs (sortVals κ false vs vs).toArray } := by
  have hl : vs.length = bs.length := e.length
  have hp : (s.heap.push (seqObj "list" vs.toArray 0)).get? s.heap.objs.size = some (seqObj "list" vs.toArray 0) := Heap.get?_push_size _ rfl
  have k1 : ∀ b o, s.heap.get? b = some o → (sortingHeap (s.heap.push (seqObj "list" vs.toArray 0)) s.heap.objs.size vs).get? b = some o := fun b o h => sortingHeap_old (Nat.ne_of_lt (Heap.lt_size h)) (Heap.get?_push_of_some _ h)
  have I1 := I.kept (t' := s.toks) k1
  have er1 : EachIs (fun v b => ∃ as, Reads (sortingHeap (s.heap.push (seqObj "list" vs.toArray 0)) s.heap.objs.size vs) v b.2 as) vs bs := each_and e fun v b hb r => Dp.reads I1 b.2 b.1 v (er b hb) r
  have em := each_map (R := fun v d => ∃ as, Reads (sortingHeap (s.heap.push (seqObj "list" vs.toArray 0)) s.heap.objs.size vs) v d as) (fun b : V × PyData => b.2) er1
  have fin := sortVals_data (R := fun (v : Value) (b : V × PyData) => L2.RelV b.1 v) (enc := fun b : V × PyData => b.2) false e er1 hal
  refine ⟨by rw [hl]; exact hL, _, sorts_tups (s := { s with heap := sortingHeap (s.heap.push (seqObj "list" vs.toArray 0)) s.heap.objs.size vs }) em hal ht hu, ?_⟩
  obtain ⟨n, hn⟩ := sortedHeap_at (vs := vs) (out := (sortVals (dataKind (sortingHeap (s.heap.push (seqObj "list" vs.toArray 0)) s.heap.objs.size vs) (bs.map (·.2))) false vs vs).toArray) hp
  refine ⟨.ref s.heap.objs.size, _, I.laid (t' := s.toks) (o := .lst ((bs.mergeSort (dataLe false (·.2))).map (·.1))) (fun b o h => ?_) (Nat.le_refl _) ⟨?_, _, n, std_vals fin, hn⟩, rfl, q _ (I.hok.fresh (Nat.le_refl _))⟩
  · rw [sortedHeap_old (Nat.ne_of_lt (Heap.lt_size h)) (Heap.lt_size (Heap.get?_push_of_some _ h))]
    exact Heap.get?_push_of_some _ h
  · rw [List.length_map, List.length_mergeSort]; exact hL
end
end G3
set_option maxHeartbeats 4000000
/-! G3: dicts whose keys are tuples of texts and numbers. -/
namespace G3
open PySem PySem.Spec PyProof.Rows L2

/-- a tuple's items as a key's -/
def keysD : List D → Option (List Key)
  | [] => some []
  | .int i :: l => (keysD l).map (Sum.inl i :: ·)
  | .str x :: l => (keysD l).map (Sum.inr x :: ·)
  | _ :: _ => none
theorem keysD_eq : ∀ {l : List D} {ks : List Key}, keysD l = some ks → l = ks.map keyD
  | [], ks, h => by simp only [keysD, Option.some.injEq] at h; subst h; rfl
  | .int i :: l, ks, h => by
    simp only [keysD] at h
    obtain ⟨k, e, rfl⟩ := Option.map_eq_some_iff.mp h
    rw [List.map_cons, ← keysD_eq e] <;> rfl
  | .str x :: l, ks, h => by
    simp only [keysD] at h
    obtain ⟨k, e, rfl⟩ := Option.map_eq_some_iff.mp h
    rw [List.map_cons, ← keysD_eq e] <;> rfl
  | .non :: _, _, h => by simp [keysD] at h
  | .bl _ :: _, _, h => by simp [keysD] at h
  | .tup _ :: _, _, h => by simp [keysD] at h
  | .lst _ :: _, _, h => by simp [keysD] at h
  | .scr _ :: _, _, h => by simp [keysD] at h
  | .ref _ :: _, _, h => by simp [keysD] at h
  | .adr _ _ _ :: _, _, h => by simp [keysD] at h
  | .exn _ :: _, _, h => by simp [keysD] at h
theorem keyD_inj {a b : Key} (h : keyD a = keyD b) : a = b := by
  cases a <;> cases b <;> simp_all [keyD]
theorem keysD_inj : ∀ {a b : List Key}, a.map keyD = b.map keyD → a = b
  | [], [], _ => rfl
  | [], _ :: _, h => by simp at h
  | _ :: _, [], h => by simp at h
  | x :: a, y :: b, h => by
    simp only [List.map_cons, List.cons.injEq] at h
    rw [keyD_inj h.1, keysD_inj h.2]
theorem tkD_inj {a b : List Key} (h : tkD a = tkD b) : a = b := keysD_inj (D.tup.inj h)
def lookD : List (D × D) → D → Option D
  | [], _ => none
  | p :: r, k => if p.1 = k then some p.2 else lookD r k
def putDD (kvs : List (D × D)) (k v : D) : List (D × D) := if (lookD kvs k).isSome = true then kvs.map (fun p => if p.1 = k then (p.1, v) else p) else kvs ++ [(k, v)]
def kDGet : D → D → M D := fun o i S => match o, i with
  | .ref n, .tup l => match S.ob n, keysD l with
    | some (.dic kvs), some _ => (lookD kvs i).map (·, S)
    | _, _ => none
  | _, _ => none
def kInD (neg : Bool) : D → D → M D := fun i o S => match o, i with
  | .ref n, .tup l => match S.ob n, keysD l with
    | some (.dic kvs), some _ => some (.bl (if neg then !(lookD kvs i).isSome else (lookD kvs i).isSome), S)
    | _, _ => none
  | _, _ => none
def kDGet1 : D → D → M D := fun o i S => match o, i with
  | .ref n, .tup l => match S.ob n, keysD l with
    | some (.dic kvs), some _ => some ((lookD kvs i).getD .non, S)
    | _, _ => none
  | _, _ => none
def isDic (d : D) (S : S3) : Bool := match d with
  | .ref n => match S.ob n with
    | some (.dic _) => true
    | _ => false
  | _ => false
def eDGet1 (o i : ME) : ME := fun ρ S => (o ρ S).bind fun r => if isDic r.1 r.2 then (i ρ r.2).bind fun q => kDGet1 r.1 q.1 q.2 else none
def eDNew : ME := fun _ S => some (.ref S.next, S.new (.dic []))
def kSetD : D → D → D → S3 → Option S3 := fun o i v S => match o, i with
  | .ref n, .tup l => match S.ob n, keysD l with
    | some (.dic kvs), some _ => if kvs.length < sizeLine then some (S.set n (.dic (putDD kvs i v))) else none
    | _, _ => none
  | _, _ => none

section
variable {X : Cx} {g : G} {S : S3} {loc : Loc} {H : Hp}
theorem reps_keys : ∀ {ks : List Key} {xs : List V}, Reps g S loc H (ks.map keyD) xs → xs = ks.map kV
  | [], xs, r => by cases r; rfl
  | k :: ks, _, r => by
    cases r with
    | cons a b =>
      rw [reps_keys b, List.map_cons]
      cases k <;> cases a <;> rfl
theorem rep_tup_key {l : List D} {ks : List Key} {v : V} (r : Rep g S loc H (.tup l) v) (h : keysD l = some ks) : ∃ b, v = .ref b ∧ H b = some (.tup (ks.map kV)) ∧ D.tup l = tkD ks := by
  have e := keysD_eq h
  subst e
  obtain ⟨p, xs, rfl, hp, rs⟩ := r.tupAt
  rw [reps_keys rs] at hp
  exact ⟨p, rfl, hp, rfl⟩
theorem KVs.look {kvs : List (D × D)} {ys : List (List Key × V)} (r : KVs g S loc H tkD kvs ys) (k : List Key) :
    (lookD kvs (tkD k) = none ∧ valV ys k = none) ∨ ∃ d v, lookD kvs (tkD k) = some d ∧ valV ys k = some v ∧ Rep g S loc H d v := by
  induction r with
  | nil => exact .inl ⟨rfl, rfl⟩
  | @cons p q ps qs h t ih =>
    by_cases e : q.1 = k
    · refine .inr ⟨p.2, q.2, ?_, valV_pos e, h.2⟩
      show (if _ then _ else _) = _
      rw [if_pos (by rw [h.1, e])]
    · rw [valV_neg e]
      have e2 : lookD (p :: ps) (tkD k) = lookD ps (tkD k) := if_neg fun z => e (tkD_inj (h.1.symm.trans z))
      rw [e2]
      exact ih
theorem KVs.put {kvs : List (D × D)} {ys : List (List Key × V)} (r : KVs g S loc H tkD kvs ys) (k : List Key) {d : D} {v : V} (rv : Rep g S loc H d v) : KVs g S loc H tkD (putDD kvs (tkD k) d) (putK ys k v) := by
  have e : (lookD kvs (tkD k)).isSome = (ys.any fun kv => decide (kv.1 = k)) := by
    rw [valV_any]
    rcases r.look k with ⟨a, b⟩ | ⟨_, _, a, b, _⟩ <;> rw [a, b] <;> rfl
  unfold putDD putK
  rw [e]
  by_cases q : (ys.any fun kv => decide (kv.1 = k)) = true
  · rw [if_pos q, if_pos q]
    clear e q
    induction r with
    | nil => exact .nil
    | @cons p q ps qs h t ih =>
      rw [List.map_cons, List.map_cons]
      refine .cons ?_ ih
      by_cases z : q.1 = k
      · rw [if_pos (by rw [h.1, z]), if_pos z]; exact ⟨h.1, rv⟩
      · rw [if_neg (fun y => z (tkD_inj (h.1.symm.trans y))), if_neg z]; exact h
  · rw [if_neg q, if_neg q]
    exact Paired.snoc r ⟨rfl, rv⟩
theorem dget_of {n : Nat} {kvs : List (D × D)} {l : List D} {ks : List Key} {v : V} (A : Abs g S loc H) (hn : S.ob n = some (.dic kvs)) (hk : keysD l = some ks) (r : Rep g S loc H (.tup l) v) :
    (lookD kvs (.tup l) = none ∧ DGet H (loc.ad n) v none) ∨ ∃ d y, lookD kvs (.tup l) = some d ∧ DGet H (loc.ad n) v (some y) ∧ Rep g S loc H d y := by
  obtain ⟨b, rfl, hb, e⟩ := rep_tup_key r hk
  obtain ⟨ys, hy, ry⟩ := A.ob _ _ hn
  rw [e]
  have q := DGet.t (k := ks) hy hb
  rcases ry.look ks with ⟨a, c⟩ | ⟨d, y, a, c, r⟩
  · exact .inl ⟨a, by rw [c] at q; exact q⟩
  · exact .inr ⟨d, y, a, by rw [c] at q; exact q, r⟩
theorem qe_dget {o i : Expr} {fo fi : ME} {pos : Pos} (hu : X.A.units + 1 < cLine) (ho : PE X o (tE g fo)) (hi : PE X i (tE g fi)) (hs : NoSl i) : PE X (.Subscript o i pos) (tE g (op2 kDGet fo fi)) :=
  PE.imp (pe_dget hu ho hi hs) fun σ H Q h => by
    obtain ⟨S, loc, ρ, d, S1, A, R, e1, q⟩ := red2 h
    refine ⟨S, loc, ρ, d, S1, A, R, e1, fun v loc1 H1 A1 x1 r1 => ?_⟩
    obtain ⟨S1', loc1', ρ', d2, S2, A1', R1', e2, q2⟩ := q v loc1 H1 A1 x1 r1
    refine ⟨S1', loc1', ρ', d2, S2, A1', R1', e2, fun w loc2 H2 A2 x2 r2 => ?_⟩
    obtain ⟨S3', loc3, d, e, z, S4, A3, r3, r4, ek, q3⟩ := q2 w loc2 H2 A2 x2 r2
    unfold kDGet at ek
    split at ek
    · split at ek
      · rename_i kvs ks hn hk
        obtain ⟨y, hy, ez⟩ := Option.map_eq_some_iff.mp ek
        simp only [Prod.mk.injEq] at ez
        obtain ⟨rfl, rfl⟩ := ez
        cases r3 with
        | ref hlt =>
        rcases dget_of A3 hn hk r4 with ⟨a, _⟩ | ⟨d', y', a, c, r⟩
        · rw [a] at hy; cases hy
        · rw [a] at hy; cases hy
          exact ⟨_, y', rfl, c, q3 y' loc3 H2 A3 .refl r⟩
      · cases ek
    · cases ek
theorem op_InD (hu : X.A.units + 1 < cLine) : OpR X (compareOp .In) (rK2 g (kInD false)) := by
  intro pins s σ H x y v u Q I rx ry h
  obtain ⟨S, loc, d, e, z, S', A, r1, r2, ek, q⟩ := h
  unfold kInD at ek
  split at ek
  · split at ek
    · rename_i kvs ks hn hk
      simp only [Option.some.injEq, Prod.mk.injEq] at ek
      obtain ⟨rfl, rfl⟩ := ek
      cases r2 with
      | ref hlt =>
      cases (show u = Value.ref _ from ry)
      rcases dget_of A hn hk r1 with ⟨a, c⟩ | ⟨d', y', a, c, r⟩
      · exact d_in hu I c rx fun s' I' => ⟨.bl false, H, I', rfl, q _ loc H A .refl (by rw [a]; exact .bl false)⟩
      · exact d_in hu I c rx fun s' I' => ⟨.bl true, H, I', rfl, q _ loc H A .refl (by rw [a]; exact .bl true)⟩
    · cases ek
  · cases ek
theorem qe_dget1 {o i : Expr} {fo fi : ME} {apos cpos : Pos} (hu : X.A.units + 1 < cLine) (ho : PE X o (tE g fo)) (hi : PE X i (tE g fi)) (m : M1 X o "get" apos i cpos) : PE X (.Call (.Attribute o "get" apos) [i] [] cpos) (tE g (eDGet1 fo fi)) :=
  PE.imp (pe_dget1 hu ho hi m) fun σ H Q h => by
    obtain ⟨S, loc, ρ, z, S', A, R, e, q⟩ := h
    unfold eDGet1 at e
    obtain ⟨⟨d, S1⟩, e1, e⟩ := Option.bind_eq_some_iff.mp e
    refine ⟨S, loc, ρ, d, S1, A, R, e1, fun v loc1 H1 A1 x1 r1 => ?_⟩
    simp only at e
    split at e
    · rename_i hd
      obtain ⟨⟨d2, S2⟩, e2, e3⟩ := Option.bind_eq_some_iff.mp e
      unfold isDic at hd
      split at hd
      · rename_i n
        split at hd
        · rename_i kvs0 hn0
          cases r1 with
          | ref hlt =>
          obtain ⟨ys, hy, _⟩ := A1.ob _ _ hn0
          refine ⟨loc1.ad n, rfl, .inr ⟨ys, .inl hy⟩, S1, loc1, ρ, d2, S2, A1, R.ext A x1, e2, fun w loc2 H2 A2 x2 r2 => ?_⟩
          have el := x2.lc n hlt
          cases d2 with
          | tup l =>
            simp only [kDGet1] at e3
            split at e3
            · rename_i kvs ks hn hk
              simp only [Option.some.injEq, Prod.mk.injEq] at e3
              obtain ⟨rfl, rfl⟩ := e3
              rw [← el]
              rcases dget_of A2 hn hk r2 with ⟨a, c⟩ | ⟨d', y', a, c, r⟩
              · exact ⟨none, c, q .non loc2 H2 A2 (x1.trans x2) (by rw [a]; exact .non)⟩
              · exact ⟨some y', c, q y' loc2 H2 A2 (x1.trans x2) (by rw [a]; exact r)⟩
            · cases e3
          | _ => cases e3
        · cases hd
      · cases hd
    · cases e
theorem qe_dnew {pos : Pos} : PE X (.Dict [] [] pos) (tE g eDNew) := PE.imp pe_dnewT fun σ H Q h => by
  obtain ⟨S, loc, ρ, z, S', A, R, e, q⟩ := h
  simp only [eDNew, Option.some.injEq, Prod.mk.injEq] at e
  obtain ⟨rfl, rfl⟩ := e
  intro p hp
  have x := ext_new A (u := .dT []) (o := .dic []) hp
  have z := Rep.ref (g := g) (S := S.new (.dic [])) (loc := bind1 loc S.next p) (H := upd H p (.dT [])) (Nat.lt_succ_self S.next)
  rw [bind1_self] at z
  exact q _ _ _ (A.new hp ⟨[], upd_same, .nil⟩) x z
theorem set_D (hu : X.A.units + 1 < cLine) : PSet X (rK3 g kSetD) := PSet.imp (set_dict hu) fun o i v H Q h => by
  obtain ⟨S, loc, d, e, z, S', A, r1, r2, r3, ek, q⟩ := h
  unfold kSetD at ek
  split at ek
  · rename_i n l
    split at ek
    · rename_i kvs ks hn hk
      split at ek
      · rename_i hl
        simp only [Option.some.injEq] at ek
        subst ek
        cases r1 with
        | ref hlt =>
        obtain ⟨b, rfl, hb, e⟩ := rep_tup_key r2 hk
        obtain ⟨ys, hy, ry⟩ := A.ob _ _ hn
        have x1 := ext_set A (o' := .dic (putDD kvs (.tup l) z)) (u := .dT (putK ys ks v)) hn
        refine ⟨_, _, rfl, DPut.t hy hb (by rw [← ry.len]; exact hl), q loc _ (A.set hn (by intro _ z; cases z) ⟨_, upd_same, ?_⟩) x1⟩
        rw [e]
        exact (ry.ext A (by rw [e] at x1; exact x1)).put ks (r3.ext A (by rw [e] at x1; exact x1))
      · cases ek
    · cases ek
  · cases ek
end
end G3
set_option maxHeartbeats 4000000
/-! G3: sorted of lists and of dicts' keys; dict of a list of pairs; the dict of nested keys. -/
namespace G3
open PySem PySem.Spec PySem.W PyProof.Rows L2

def encD (d : D) : PyData := (toPy (fun _ => none) d).getD .none
def isT : D → Bool
  | .tup _ => true
  | _ => false
def okSort (l : List D) : Bool := decide (l.length ≤ sizeLine) && (l.all (fun d => isT d && (toPy (fun _ => none) d).isSome && decide ((encD d).depth ≤ 50)) && l.all fun d => l.all fun e => alike (encD d) (encD e))
def sortL (l : List D) : List D := l.mergeSort (dataLe false encD)
def sortSrc (S : S3) (d : D) : Option (List D) := match d with
  | .ref n => match S.ob n with
    | some (.lst l) => some l
    | some (.dic kvs) => some (kvs.map (·.1))
    | _ => none
  | d => listOf S d
def kSorted (b : Bool) : List D → M D := fun ds S => match ds with
  | [d] => match sortSrc S d with
    | some l => if okSort l then newL b (sortL l) S else none
    | none => none
  | _ => none
section
variable {X : Cx} {g : G} {S : S3} {loc : Loc} {H : Hp}
theorem okSort_all {l : List D} (h : okSort l = true) : l.length ≤ sizeLine ∧ (∀ d, d ∈ l → isT d = true ∧ toPy (fun _ => none) d = some (encD d) ∧ (encD d).depth ≤ 50) ∧ ∀ d, d ∈ l → ∀ e, e ∈ l → alike (encD d) (encD e) = true := by
  unfold okSort at h
  simp only [Bool.and_eq_true, decide_eq_true_eq, List.all_eq_true] at h
  refine ⟨h.1, fun d hd => ?_, fun d hd e he => h.2.2 d hd e he⟩
  obtain ⟨⟨h1, h2⟩, h3⟩ := h.2.1 d hd
  refine ⟨h1, ?_, h3⟩
  obtain ⟨p, hp⟩ := Option.isSome_iff_exists.mp h2
  unfold encD
  rw [hp] <;> rfl
theorem encD_tup {d : D} (h : isT d = true) (e : toPy (fun _ => none) d = some (encD d)) : ∃ xs, encD d = .tuple xs := by
  cases d with
  | tup l =>
    simp only [toPy] at e
    obtain ⟨ps, _, h2⟩ := Option.map_eq_some_iff.mp e
    exact ⟨ps, h2.symm⟩
  | _ => cases h
theorem zip_reps : ∀ {l : List D} {xs : List V}, Reps g S loc H l xs → (∀ t, t ∈ xs.zip l → Rep g S loc H t.2 t.1) ∧ (xs.zip l).map (·.1) = xs ∧ (xs.zip l).map (·.2) = l
  | _, _, .nil => ⟨fun t h => by simp at h, rfl, rfl⟩
  | _, _, .cons a b => by
    obtain ⟨h1, h2, h3⟩ := zip_reps b
    refine ⟨fun t h => ?_, by rw [List.zip_cons_cons, List.map_cons, h2], by rw [List.zip_cons_cons, List.map_cons, h3]⟩
    rcases List.mem_cons.mp h with rfl | h
    · exact a
    · exact h1 t h
theorem reps_of_pairs : ∀ {T : List (V × D)}, (∀ t, t ∈ T → Rep g S loc H t.2 t.1) → Reps g S loc H (T.map (·.2)) (T.map (·.1))
  | [], _ => .nil
  | t :: T, h => .cons (h t List.mem_cons_self) (reps_of_pairs fun t ht => h t (List.mem_cons_of_mem _ ht))
/-- what sort_end asks of data, and what it gives -/
theorem sort_pre {l : List D} {xs : List V} (h : okSort l = true) (r : Reps g S loc H l xs) :
    ∃ bs : List (V × PyData), bs.map (·.1) = xs ∧ (∀ vs : List Value, Vals xs vs → Std vs bs) ∧ (∀ b, b ∈ bs → Dp g.K H b.1 b.2) ∧ AllAlike (bs.map (·.2)) ∧ (∀ d, d ∈ bs.map (·.2) → ∃ xs, d = .tuple xs) ∧ (∀ d, d ∈ bs.map (·.2) → d.depth ≤ 50) ∧ bs.length ≤ sizeLine ∧
      Reps g S loc H (sortL l) ((bs.mergeSort (dataLe false (·.2))).map (·.1)) := by
  obtain ⟨hL, h1, h2⟩ := okSort_all h
  obtain ⟨z1, z2, z3⟩ := zip_reps r
  have mem : ∀ t, t ∈ xs.zip l → t.2 ∈ l := fun t ht => by rw [← z3]; exact List.mem_map.mpr ⟨t, ht, rfl⟩
  have md : ∀ d, d ∈ ((xs.zip l).map fun t => (t.1, encD t.2)).map (·.2) → ∃ e, e ∈ l ∧ d = encD e := fun d hd => by
    rw [List.map_map] at hd
    obtain ⟨t, ht, rfl⟩ := List.mem_map.mp hd
    exact ⟨t.2, mem t ht, rfl⟩
  refine ⟨(xs.zip l).map fun t => (t.1, encD t.2), by rw [List.map_map]; exact z2, fun vs hv => ?_, fun b hb => ?_, fun d hd e he => ?_, fun d hd => ?_, fun d hd => ?_, ?_, ?_⟩
  · have e : ((xs.zip l).map fun t => (t.1, encD t.2)) = xs.zip (l.map encD) := by rw [List.zip_map_right]; rfl
    rw [e]
    exact std_of hv (by rw [List.length_map]; exact r.length.symm)
  · obtain ⟨t, ht, rfl⟩ := List.mem_map.mp hb
    exact toPy_dp (rf := fun _ => none) (fun _ _ z => by cases z) (z1 t ht) (h1 t.2 (mem t ht)).2.1
  · obtain ⟨x, hx, rfl⟩ := md d hd
    obtain ⟨y, hy, rfl⟩ := md e he
    exact h2 x hx y hy
  · obtain ⟨x, hx, rfl⟩ := md d hd
    exact encD_tup (h1 x hx).1 (h1 x hx).2.1
  · obtain ⟨x, hx, rfl⟩ := md d hd
    exact (h1 x hx).2.2
  · have e := congrArg List.length z3
    rw [List.length_map] at e ⊢
    omega
  · have e1 : (((xs.zip l).map fun t => (t.1, encD t.2)).mergeSort (dataLe false (·.2))).map (·.1) = ((xs.zip l).mergeSort (fun a b => dataLe false encD a.2 b.2)).map (·.1) := by
      rw [← List.map_mergeSort (r := fun a b : V × D => dataLe false encD a.2 b.2) (f := fun t : V × D => (t.1, encD t.2)) (fun a _ b _ => rfl), List.map_map]
      rfl
    have e2 : sortL l = ((xs.zip l).mergeSort (fun a b => dataLe false encD a.2 b.2)).map (·.2) := by
      rw [List.map_mergeSort (s := dataLe false encD) (fun a _ b _ => rfl), z3]
      rfl
    rw [e1, e2]
    exact reps_of_pairs fun t ht => z1 t ((List.mergeSort_perm _ _).mem_iff.mp ht)
/-- the keys that walking gives -/
theorem keys_acc {es : Array DictEntry} {acc : Array Value} {κ : Type} {knd : List DictEntry} {xs : List (κ × Addr × Value)} {f : κ × Addr × Value → DictEntry} (he : es.toList = xs.map f) (hf : ∀ x, (f x).key = .ref x.2.1) (it : ItemsOf (fun i v => ∃ en : DictEntry, es[i]? = some en ∧ v = en.key) acc es.size) :
    acc.toList = (xs.map fun x => x.2.1).map Value.ref := by
  have hs : es.size = xs.length := by rw [← Array.length_toList, he, List.length_map]
  have hl : acc.toList.length = xs.length := by rw [Array.length_toList, it.1, hs]
  apply List.ext_getElem?
  intro j
  rw [List.map_map, List.getElem?_map]
  cases hj : acc.toList[j]? with
  | none => rw [List.getElem?_eq_none (by have := List.getElem?_eq_none_iff.mp hj; omega)] <;> rfl
  | some v =>
    obtain ⟨en, hen, hv⟩ := it.2 j v (by rw [← Array.getElem?_toList]; exact hj)
    rw [← Array.getElem?_toList, he, List.getElem?_map] at hen
    cases hb : xs[j]? with
    | none => rw [hb] at hen; cases hen
    | some b =>
      rw [hb] at hen
      cases hen
      rw [hv, hf] <;> rfl
theorem keys_reps {kvs : List (D × D)} {ys : List (List Key × V)} {bs : List Addr} : KVs g S loc H tkD kvs ys → IsKeys H ys bs → Reps g S loc H (kvs.map (·.1)) (bs.map V.ref)
  | .nil, .nil => .nil
  | .cons h t, .cons k r => by
    rw [List.map_cons, List.map_cons]
    refine .cons ?_ (keys_reps t r)
    rw [h.1]
    exact .tup k (reps_key _)
theorem call_Sorted (hK : X.K = g.K) (hc : X.calm = true) (hu : X.A.units + 64 < cLine) (b : Bool) : CallR X (.builtin "sorted") (rKn g (kSorted b)) := by
  intro pins s σ H xs us Q I r h
  obtain ⟨S, loc, ds, z, S', A, rs, ek, q⟩ := h
  unfold kSorted at ek
  split at ek
  · rename_i d
    split at ek
    · rename_i l hl
      split at ek
      · rename_i ho
        obtain ⟨v, rfl, r1⟩ := rs.one_inv
        obtain ⟨u, rfl, ru⟩ := r.one
        have dep : ∀ {n : Nat}, n ≤ 50 → X.A.in1.in1.units + n < cLine := fun {n} hn => by
          show X.A.units + 1 + 1 + n < cLine
          omega
        have lst : ∀ (p : Addr) (ys : List V), v = .ref p → SqL g.K H p ys → Reps g S loc H l ys → wpAny (model X.prog X.w) X.A (call (.builtin "sorted") [u]) (EP X pins σ Q) X.xe s := fun p ys e hs ry => by
          subst e
          cases (show u = Value.ref p from ru)
          obtain ⟨its, rv, pl, hz⟩ := I.list (by rw [hK]; exact hs)
          obtain ⟨bs, b1, b2, b3, b4, b5, b6, b7, b8⟩ := sort_pre ho ry
          have kp : ∀ (b : Addr) (o : Obj), s.heap.get? b = some o → ((s.heap.push (seqObj "list" #[] 0)).update s.heap.objs.size (Obj.mapSeq (· ++ its.toArray))).get? b = some o := fun b o hb => by
            rw [Heap.get?_update_ne _ _ _ _ (Nat.ne_of_lt (Heap.lt_size hb))]; exact Heap.get?_push_of_some _ hb
          refine sorted_any (collect_list pl.isList ?_ (by rw [← rv.length]; exact hz))
          exact sort_end (s := { s with heap := (s.heap.push (seqObj "list" #[] 0)).update s.heap.objs.size (Obj.mapSeq (· ++ its.toArray)) }) (I.kept (t' := s.toks) kp) (b2 its rv) (fun b hb => by rw [hK]; exact b3 b hb) b4 b5 (fun d hd => dep (b6 d hd)) b7 (newL_ok A b8 ek q)
        unfold sortSrc at hl
        split at hl
        · split at hl
          · rename_i n _ l' hn
            simp only [Option.some.injEq] at hl
            subst hl
            cases r1 with
            | ref hlt =>
            obtain ⟨ys, hy, ry⟩ := A.ob _ _ hn
            exact lst _ ys rfl (SqL.of hy) ry
          · rename_i n _ kvs hn
            simp only [Option.some.injEq] at hl
            subst hl
            cases r1 with
            | ref hlt =>
            obtain ⟨ys, hy, ry⟩ := A.ob _ _ hn
            cases (show u = Value.ref _ from ru)
            obtain ⟨z, hs, ks, pr, o, es, ep, hob, hx, hdt, he, hn2⟩ := (show ObjOk X.prog X.w H s.heap _ (.dT ys) from I.hok _ _ hy)
            have l1 : es.size = ks.length := by rw [← Array.length_toList, he, List.length_map]
            have l2 : ys.length = ks.length := Paired.length pr
            have rk := keys_reps ry (isKeys_of pr)
            obtain ⟨bs, b1, b2, b3, b4, b5, b6, b7, b8⟩ := sort_pre ho rk
            refine sorted_any (kdu_collect (kdl_raw hs hx hdt) (I.ok.hd hc) hob (by omega) fun h' tk acc kp it => ?_)
            have ea := keys_acc (knd := []) he (fun _ => rfl) it
            have rv : Vals ((ks.map fun x => x.2.1).map V.ref) acc.toList := by rw [ea]; exact vals_refs _
            exact sort_end (s := { s with heap := h', toks := tk }) (I.kept (t' := tk) kp) (b2 acc.toList rv) (fun b hb => by rw [hK]; exact b3 b hb) b4 b5 (fun d hd => dep (b6 d hd)) b7 (newL_ok A b8 ek q)
          · cases hl
        · obtain ⟨p, ys, e, hs, ry⟩ := listOf_sq A r1 hl
          exact lst p ys e hs ry
      · cases ek
    · cases ek
  · cases ek
end
end G3
set_option maxHeartbeats 4000000
/-! G3: dict of a list of pairs; the dict of keys of any depth. -/
namespace G3
open PySem PySem.Spec PySem.W PyProof.Rows L2

def pairsD : List D → Option (List (D × D))
  | [] => some []
  | .tup [.tup k, v] :: l => match keysD k with
    | some _ => (pairsD l).map ((.tup k, v) :: ·)
    | none => none
  | _ :: _ => none
def putAll (acc : List (D × D)) (ps : List (D × D)) : List (D × D) := ps.foldl (fun a p => putDD a p.1 p.2) acc
def kDictOf : List D → M D := fun ds S => match ds with
  | [d] => match listOf S d with
    | some l => match pairsD l with
      | some ps => if ps.length ≤ sizeLine then some (.ref S.next, S.new (.dic (putAll [] ps))) else none
      | none => none
    | none => none
  | _ => none
/-- a pair that stands: its tuple, its key, the key's tuple, its value -/
abbrev Qd := Addr × List Key × Addr × V × Value
section
variable {X : Cx} {g : G} {S : S3} {loc : Loc} {H : Hp}
theorem pairs_raw {P : Program} {w : World} {h : Heap} (hok : HOk P w H h) : ∀ {l : List D} {xs : List V} {ps : List (D × D)}, Reps g S loc H l xs → pairsD l = some ps →
    ∃ qs : List Qd, xs = qs.map (fun q => V.ref q.1) ∧ Paired (fun (p : D × D) (q : Qd) => p.1 = tkD q.2.1 ∧ Rep g S loc H p.2 q.2.2.2.1) ps qs ∧ ∀ q, q ∈ qs → H q.2.2.1 = some (.tup (q.2.1.map kV)) ∧ L2.RelV q.2.2.2.1 q.2.2.2.2 ∧ PairAt h q.1 (.ref q.2.2.1) q.2.2.2.2
  | [], _, ps, r, e => by
    cases r
    simp only [pairsD, Option.some.injEq] at e
    subst e
    exact ⟨[], rfl, .nil, fun q hq => by simp at hq⟩
  | d :: l, _, ps, r, e => by
    unfold pairsD at e
    split at e
    · rename_i e0; cases e0
    · rename_i k v l' e0
      cases e0
      split at e
      · rename_i ks hk
        obtain ⟨ps', e1, rfl⟩ := Option.map_eq_some_iff.mp e
        cases r with
        | cons r1 r2 =>
          obtain ⟨qs, q1, q2, q3⟩ := pairs_raw hok r2 e1
          obtain ⟨p, ys, rfl, hp, ry⟩ := r1.tupAt
          obtain ⟨a, b, rfl, ra, rb⟩ := ry.two_inv
          obtain ⟨c, rfl, hc, ec⟩ := rep_tup_key ra hk
          obtain ⟨_, its, rv, ht⟩ := (show ObjOk P w H h p (.tup [.ref c, b]) from hok _ _ hp)
          cases rv with
          | @cons _ u1 _ us1 rc rv1 => cases rv1 with
            | @cons _ u2 _ us2 rb2 rv2 =>
              cases rv2
              cases (show u1 = Value.ref c from rc)
              refine ⟨(p, ks, c, b, u2) :: qs, by rw [q1]; rfl, .cons ⟨ec, rb⟩ q2, fun q hq => ?_⟩
              rcases List.mem_cons.mp hq with rfl | hq
              · obtain ⟨o, ho, hc1, n, hd⟩ := ht
                exact ⟨hc, rb2, .inl ⟨o, ho, hc1, n, hd⟩⟩
              · exact q3 q hq
      · cases e
    · cases e
theorem putAll_rel : ∀ {ps : List (D × D)} {qs : List Qd} {acc : List (D × D)} {ys : List (List Key × V)} {xs : List (List Key × Addr × Value)}, Paired (fun (p : D × D) (q : Qd) => p.1 = tkD q.2.1 ∧ Rep g S loc H p.2 q.2.2.2.1) ps qs →
    (∀ q, q ∈ qs → H q.2.2.1 = some (.tup (q.2.1.map kV)) ∧ L2.RelV q.2.2.2.1 q.2.2.2.2) → KVs g S loc H tkD acc ys → KT H ys xs →
    ∃ zs, KVs g S loc H tkD (putAll acc ps) zs ∧ KT H zs (storedAllH xs (qs.map fun q => (q.2.1, q.2.2.1, q.2.2.2.2))) ∧ zs.length ≤ ys.length + qs.length
  | _, _, acc, ys, xs, .nil, _, r, k => ⟨ys, r, k, Nat.le_refl _⟩
  | p :: ps, q :: qs, acc, ys, xs, .cons h t, hq, r, k => by
    obtain ⟨h1, h2⟩ := hq q List.mem_cons_self
    have r' := r.put q.2.1 h.2
    have k' := k.put q.2.1 h1 h2
    obtain ⟨zs, z1, z2, z3⟩ := putAll_rel t (fun q hq' => hq q (List.mem_cons_of_mem _ hq')) r' k'
    refine ⟨zs, ?_, z2, ?_⟩
    · show KVs g S loc H tkD (putAll (putDD acc p.1 p.2) ps) zs
      rw [h.1]; exact z1
    · have := length_putK ys q.2.1 q.2.2.2.1
      rw [List.length_cons]; omega
theorem call_DictOf (hK : X.K = g.K) (hc : X.calm = true) (hu : X.A.units + 64 < cLine) : CallR X (.type "dict") (rKn g kDictOf) := by
  intro pins s σ H xs us Q I r h
  obtain ⟨S, loc, ds, z, S', A, rs, ek, q⟩ := h
  unfold kDictOf at ek
  split at ek
  · rename_i d
    split at ek
    · rename_i l hl
      split at ek
      · rename_i ps hps
        split at ek
        · rename_i hlen
          simp only [Option.some.injEq, Prod.mk.injEq] at ek
          obtain ⟨rfl, rfl⟩ := ek
          obtain ⟨v, rfl, r1⟩ := rs.one_inv
          obtain ⟨u, rfl, ru⟩ := r.one
          obtain ⟨p, ys, rfl, hs, ry⟩ := listOf_sq A r1 hl
          cases (show u = Value.ref p from ru)
          obtain ⟨its, rv, pl, hz⟩ := I.list (by rw [hK]; exact hs)
          obtain ⟨qs, q1, q2, q3⟩ := pairs_raw I.hok ry hps
          subst q1
          have eits : its = qs.map fun q => Value.ref q.1 := by
            clear hz pl q2 q3 hs ry
            induction qs generalizing its with
            | nil => cases rv; rfl
            | cons q qs ih => cases rv with
              | cons a b => cases a; rw [List.map_cons, ← ih _ b]
          have el : ps.length = qs.length := Paired.length q2
          have at_ : ∀ (j : Nat) (k v : Value), (qs.map fun q => (Value.ref q.2.2.1, q.2.2.2.2))[j]? = some (k, v) → ∃ q, qs[j]? = some q ∧ q ∈ qs ∧ k = .ref q.2.2.1 ∧ v = q.2.2.2.2 := fun j k v hj => by
            rw [List.getElem?_map] at hj
            cases hq : qs[j]? with
            | none => rw [hq] at hj; cases hj
            | some q => rw [hq] at hj; cases hj; exact ⟨q, rfl, List.mem_of_getElem? hq, rfl, rfl⟩
          have key : ∀ q, q ∈ qs → (tupleKind (mixKind X.prog X.w)).is s.heap q.2.1 q.2.2.1 := fun q hq => key_of I.hok (q3 q hq).1
          obtain ⟨zs, z1, z2, z3⟩ := putAll_rel (acc := []) (ys := []) (xs := []) q2 (fun q hq => ⟨(q3 q hq).1, (q3 q hq).2.1⟩) .nil .nil
          refine call_dict_pairsH (knd := tupleKind (mixKind X.prog X.w)) (ps := qs.map fun q => (q.2.1, q.2.2.1, q.2.2.2.2)) (PairArg.list p its.toArray (fun j => (qs[j]?.map (·.1)).getD 0) (qs.map fun q => (Value.ref q.2.2.1, q.2.2.2.2))) (I.ok.hd hc)
            (tupleKind_room_in1 (show X.A.units + 1 + 1 < cLine by omega)) ⟨?_, ?_, fun j k v hj => ?_⟩ ⟨by simp, fun i key v hj => ?_⟩ (fun h' hk x hx => ?_) (by rw [List.length_map, ← el]; exact hlen) fun h' tk hd' hk => ?_
          · obtain ⟨o, n, h1, h2, h3, h4⟩ := pl
            exact ⟨o, n, h1, h2, h3, h4⟩
          · rw [eits]; simp
          · obtain ⟨q, h1, h2, rfl, rfl⟩ := at_ j k v hj
            refine ⟨?_, ?_⟩
            · show its.toArray[j]? = some (.ref ((qs[j]?.map (·.1)).getD 0))
              rw [eits, List.getElem?_toArray, List.getElem?_map, h1] <;> rfl
            · show PairAt s.heap ((qs[j]?.map (·.1)).getD 0) _ _
              rw [h1]; exact (q3 q h2).2.2
          · obtain ⟨q, h1, h2, rfl, rfl⟩ := at_ i key v hj
            exact ⟨q.2.1, q.2.2.1, by rw [List.getElem?_map, h1] <;> rfl, rfl⟩
          · obtain ⟨q, hq, rfl⟩ := List.mem_map.mp hx
            exact tupleKind_stays.stays (fun b o vs n hb hd => hk b o (Nat.ne_of_lt (Heap.lt_size hb)) (fun z => nomatch z) hb) (key q hq)
          · have kp : ∀ b o, s.heap.get? b = some o → h'.get? b = some o := fun b o hb => hk b o (fun z => nomatch z) hb
            have hf : H s.heap.objs.size = none := I.hok.fresh (Nat.le_refl _)
            have x1 := ext_new A (u := .dT zs) (o := .dic (putAll [] ps)) hf
            have z := Rep.ref (g := g) (S := S.new (.dic (putAll [] ps))) (loc := bind1 loc S.next s.heap.objs.size) (H := upd H s.heap.objs.size (.dT zs)) (Nat.lt_succ_self S.next)
            rw [bind1_self] at z
            refine ⟨.ref s.heap.objs.size, _, I.laid (t' := tk) (o := .dT zs) kp (Nat.le_refl _) ?_, rfl, q _ _ _ (A.new hf ⟨zs, upd_same, KVs.ext A x1 z1⟩) x1 z⟩
            obtain ⟨o, es, ep, h1, h2, h3, h4, _, h5⟩ := hd'
            refine ⟨by rw [List.length_nil] at z3; omega, beq_eq_false_iff_ne.mpr (Nat.ne_of_gt I.big), _, z2.keeps fun b ys hb => ?_, o, es, ep, h1, h2, h3, h4, h5⟩
            rw [upd_ne (ne_of_none hb hf)]; exact hb
        · cases ek
      · cases ek
    · cases ek
  · cases ek
end
end G3
set_option maxHeartbeats 4000000
/-! G3: the dict of keys of any depth. -/
namespace G3
open PySem PySem.Spec PySem.W PyProof.Rows L2

mutual
theorem nkOf_inj : ∀ {a b : D} {k : NestedKey}, nkOf a = some k → nkOf b = some k → a = b
  | .int i, b, k, ha, hb => by cases b <;> simp_all [nkOf] <;> (subst ha; simp at hb) <;> exact hb.symm
  | .str i, b, k, ha, hb => by cases b <;> simp_all [nkOf] <;> (subst ha; simp at hb) <;> exact hb.symm
  | .tup l, b, k, ha, hb => by
    simp only [nkOf] at ha
    obtain ⟨ks, h1, rfl⟩ := Option.map_eq_some_iff.mp ha
    cases b with
    | tup m =>
      simp only [nkOf] at hb
      obtain ⟨js, h2, h3⟩ := Option.map_eq_some_iff.mp hb
      cases h3
      rw [nksOf_inj h1 h2]
    | _ => simp [nkOf] at hb
  | .non, _, _, ha, _ => by simp [nkOf] at ha
  | .bl _, _, _, ha, _ => by simp [nkOf] at ha
  | .lst _, _, _, ha, _ => by simp [nkOf] at ha
  | .scr _, _, _, ha, _ => by simp [nkOf] at ha
  | .ref _, _, _, ha, _ => by simp [nkOf] at ha
  | .adr _ _ _, _, _, ha, _ => by simp [nkOf] at ha
  | .exn _, _, _, ha, _ => by simp [nkOf] at ha
theorem nksOf_inj : ∀ {a b : List D} {k : List NestedKey}, nksOf a = some k → nksOf b = some k → a = b
  | [], b, k, ha, hb => by
    simp only [nksOf, Option.some.injEq] at ha
    subst ha
    cases b with
    | nil => rfl
    | cons y b =>
      simp only [nksOf] at hb
      obtain ⟨_, _, h2⟩ := Option.bind_eq_some_iff.mp hb
      obtain ⟨_, _, h3⟩ := Option.map_eq_some_iff.mp h2
      cases h3
  | x :: a, b, k, ha, hb => by
    simp only [nksOf] at ha
    obtain ⟨k1, e1, h1⟩ := Option.bind_eq_some_iff.mp ha
    obtain ⟨ks, e2, rfl⟩ := Option.map_eq_some_iff.mp h1
    cases b with
    | nil => simp [nksOf] at hb
    | cons y b =>
      simp only [nksOf] at hb
      obtain ⟨j1, e3, h2⟩ := Option.bind_eq_some_iff.mp hb
      obtain ⟨js, e4, h3⟩ := Option.map_eq_some_iff.mp h2
      cases h3
      rw [nkOf_inj e1 e3, nksOf_inj e2 e4]
end
def okKey (d : D) : Bool := match d with
  | .tup _ => match nkOf d with
    | some k => decide (k.depth ≤ 8)
    | none => false
  | _ => false
theorem okKey_some {d : D} (h : okKey d = true) : ∃ l k, d = .tup l ∧ nkOf d = some k ∧ k.depth ≤ 8 := by
  cases d with
  | tup l =>
    unfold okKey at h
    simp only at h
    split at h
    · rename_i k e
      exact ⟨l, k, rfl, e, of_decide_eq_true h⟩
    · cases h
  | _ => cases h
def eNst1 (fk : ME) : ME := fun ρ S => (fk ρ S).bind fun r => if okKey r.1 then some (.ref r.2.next, r.2.new (.nst [r.1])) else none
def kNotInN : D → D → M D := fun i o S => match o with
  | .ref n => match S.ob n with
    | some (.nst ks) => if okKey i then some (.bl (!decide (i ∈ ks)), S) else none
    | _ => none
  | _ => none
def kSetN : D → D → D → S3 → Option S3 := fun o i _ S => match o with
  | .ref n => match S.ob n with
    | some (.nst ks) => if okKey i ∧ i ∉ ks ∧ ks.length < sizeLine then some (S.set n (.nst (ks ++ [i]))) else none
    | _ => none
  | _ => none
section
variable {X : Cx} {g : G} {S S' : S3} {loc loc' : Loc} {H H' : Hp}
mutual
theorem rep_nested {P : Program} {w : World} {h : Heap} (hok : HOk P w H h) : ∀ {d : D} {v : V} {k : NestedKey} {u : Value}, Rep g S loc H d v → nkOf d = some k → L2.RelV v u → NestedIs h k u
  | .int i, _, k, u, .int _, e, r => by
    simp only [nkOf, Option.some.injEq] at e
    subst e
    obtain ⟨t, rfl⟩ := r
    exact .int i t
  | .str x, _, k, u, .str _, e, r => by
    simp only [nkOf, Option.some.injEq] at e
    subst e
    obtain ⟨t, rfl⟩ := r
    exact .text x t
  | .tup l, _, k, u, .tup (p := p) (xs := xs) hp rs, e, r => by
    simp only [nkOf] at e
    obtain ⟨ks, h1, rfl⟩ := Option.map_eq_some_iff.mp e
    cases (show u = Value.ref p from r)
    obtain ⟨_, its, rv, o, ho, hc, n, hd⟩ := (show ObjOk P w H h p (.tup xs) from hok _ _ hp)
    exact .tup ho hc hd (by simpa using reps_nested hok rs h1 rv)
  | .non, _, _, _, .non, e, _ => by simp [nkOf] at e
  | .bl b, _, _, _, .bl _, e, _ => by simp [nkOf] at e
  | .lst l, _, _, _, .lst _ _ _, e, _ => by simp [nkOf] at e
  | .scr l, _, _, _, .scr _ _ _, e, _ => by simp [nkOf] at e
  | .scr l, _, _, _, .kscr _ _, e, _ => by simp [nkOf] at e
  | .ref n, _, _, _, .ref _, e, _ => by simp [nkOf] at e
  | .adr _ _ _, _, _, _, .adr _ _, e, _ => by simp [nkOf] at e
  | .exn _, _, _, _, .exn _ _ _, e, _ => by simp [nkOf] at e
theorem reps_nested {P : Program} {w : World} {h : Heap} (hok : HOk P w H h) : ∀ {l : List D} {xs : List V} {ks : List NestedKey} {us : List Value}, Reps g S loc H l xs → nksOf l = some ks → Vals xs us → NestedAll h ks us
  | [], _, ks, us, .nil, e, r => by
    simp only [nksOf, Option.some.injEq] at e
    subst e
    cases r
    exact .nil
  | d :: l, _, ks, us, .cons a b, e, r => by
    simp only [nksOf] at e
    obtain ⟨k1, e1, h1⟩ := Option.bind_eq_some_iff.mp e
    obtain ⟨ks', e2, rfl⟩ := Option.map_eq_some_iff.mp h1
    cases r with
    | cons r1 r2 => exact .cons (rep_nested hok a e1 r1) (reps_nested hok b e2 r2)
end
/-- the entries as the library tells them -/
theorem nes_of {P : Program} {w : World} {h : Heap} (hok : HOk P w H h) (hH : g.hs = fun k => k.hash w) : ∀ {ks : List D} {es : List DictEntry}, NEs g S loc H ks es →
    ∃ xs : List (NestedKey × Addr × Value), es = xs.map (entryOfKey (nestedKind P w)) ∧ (∀ x, x ∈ xs → (nestedKind P w).is h x.1 x.2.1) ∧ Paired (fun (d : D) (x : NestedKey × Addr × Value) => nkOf d = some x.1) ks xs
  | _, _, .nil => ⟨[], rfl, fun x hx => by simp at hx, .nil⟩
  | _, _, .cons (a := d) (b := e) ⟨b, k, z1, z2, z3, z4⟩ t => by
    obtain ⟨xs, h1, h2, h3⟩ := nes_of hok hH t
    refine ⟨(k, b, e.val) :: xs, ?_, fun x hx => ?_, .cons z2.1 h3⟩
    · rw [List.map_cons, ← h1]
      obtain ⟨eh, ek, ev⟩ := e
      simp only at z1 z3
      subst z1
      rw [hH] at z3
      rw [z3]
      rfl
    · rcases List.mem_cons.mp hx with rfl | hx
      · exact ⟨rep_nested hok z4 z2.1 rfl, z2.2⟩
      · exact h2 x hx
theorem nk_mem : ∀ {ks : List D} {xs : List (NestedKey × Addr × Value)} {d : D} {k : NestedKey}, Paired (fun (d : D) (x : NestedKey × Addr × Value) => nkOf d = some x.1) ks xs → nkOf d = some k → (d ∈ ks ↔ k ∈ xs.map (·.1))
  | _, _, _, _, .nil, _ => by simp
  | _, _, d, k, .cons (a := e) (b := x) h t, hd => by
    rw [List.mem_cons, List.map_cons, List.mem_cons, nk_mem t hd]
    refine or_congr ⟨fun z => ?_, fun z => ?_⟩ Iff.rfl
    · subst z; rw [hd] at h; exact Option.some.inj h
    · rw [← z] at h; exact nkOf_inj hd h
theorem nk_nodup : ∀ {ks : List D} {xs : List (NestedKey × Addr × Value)}, Paired (fun (d : D) (x : NestedKey × Addr × Value) => nkOf d = some x.1) ks xs → ks.Nodup → (xs.map (·.1)).Nodup
  | _, _, .nil, _ => List.nodup_nil
  | _, _, .cons (a := e) (b := x) h t, hd => by
    obtain ⟨h1, h2⟩ := List.nodup_cons.mp hd
    rw [List.map_cons]
    exact List.nodup_cons.mpr ⟨fun z => h1 ((nk_mem t h).mpr z), nk_nodup t h2⟩
theorem nst_dict {P : Program} {w : World} {h : Heap} {p : Addr} {ks : List D} {es : List DictEntry} (hok : HOk P w H h) (hH : g.hs = fun k => k.hash w) (hp : H p = some (rawD p es)) (r : NEs g S loc H ks es) (nd : ks.Nodup) :
    ∃ xs, h.DictOfH (nestedKind P w) p xs ∧ es = xs.map (entryOfKey (nestedKind P w)) ∧ Paired (fun (d : D) (x : NestedKey × Addr × Value) => nkOf d = some x.1) ks xs := by
  obtain ⟨xs, h1, h2, h3⟩ := nes_of hok hH r
  obtain ⟨⟨o, ep, e1, e2, e3⟩, _, _⟩ := (show ObjOk P w H h p (rawD p es) from hok _ _ hp)
  exact ⟨xs, ⟨o, es.toArray, ep, e1, e2, e3, by simpa using h1, h2, nk_nodup h3 nd⟩, h1, h3⟩
theorem atKey_isSome {xs : List (NestedKey × Addr × Value)} {k : NestedKey} : (atKey xs k).isSome = decide (k ∈ xs.map (·.1)) := by
  induction xs with
  | nil => rfl
  | cons x xs ih =>
    by_cases e : x.1 = k
    · simp [atKey, List.find?_cons, e]
    · have e' : ¬ k = x.1 := fun z => e z.symm
      have q : atKey (x :: xs) k = atKey xs k := by simp [atKey, List.find?_cons, e]
      rw [q, ih]
      simp [e']
theorem op_NotInN (hH : g.hs = fun k => k.hash X.w) (hu : X.A.units + 64 < cLine) : OpR X (compareOp .NotIn) (rK2 g kNotInN) := by
  intro pins s σ H x y v u Q I rx ry h
  obtain ⟨S, loc, d, e, z, S', A, r1, r2, ek, q⟩ := h
  unfold kNotInN at ek
  split at ek
  · split at ek
    · rename_i n _ ks hn
      split at ek
      · rename_i hk
        simp only [Option.some.injEq, Prod.mk.injEq] at ek
        obtain ⟨rfl, rfl⟩ := ek
        obtain ⟨l, k, rfl, h1, h2⟩ := okKey_some hk
        cases r2 with
        | ref hlt =>
        cases (show u = Value.ref _ from ry)
        obtain ⟨b, xs, rfl, hb, rb⟩ := r1.tupAt
        cases (show v = Value.ref b from rx)
        obtain ⟨es, hp, hm, rn, nd⟩ := A.ob _ _ hn
        obtain ⟨xs', hd, _, pr⟩ := nst_dict I.hok hH hp rn nd
        refine wpAny_notIn_heap (knd := nestedKind X.prog X.w) (k := k) (show X.A.units + 1 + 8 < cLine by omega) ⟨rep_nested I.hok r1 h1 rfl, h2⟩ hm hd ?_
        refine ⟨.bl (!decide (D.tup l ∈ ks)), H, I.tok _, ?_, q _ loc H A .refl (.bl _)⟩
        rw [atKey_isSome]
        show Value.bool _ = Value.bool _
        congr 2
        exact decide_eq_decide.mpr (nk_mem pr h1).symm
      · cases ek
    · cases ek
  · cases ek
/-! a new object of ours over one that stands as another thing -/
/-- not a thing told by a predicate, or a code object -/
def Sure (q : Addr) (u : HO) : Prop := (∀ φ, u ≠ HO.ext φ) ∨ ∃ x, u = LamX.CodeO q x
mutual
theorem Rep.move (k : ∀ (q : Addr) (u : HO), Sure q u → H q = some u → H' q = some u) (lv : ∀ (q : Addr) (u : HO), Sure q u → H q = some u → Live S' loc' q → Live S loc q) (ad : ∀ n, n < S.next → loc'.ad n = loc.ad n ∧ n < S'.next) :
    ∀ {d : D} {v : V}, Rep g S loc H d v → Rep g S' loc' H' d v
  | _, _, .non => .non
  | _, _, .bl b => .bl b
  | _, _, .int i => .int i
  | _, _, .str z => .str z
  | _, _, .tup h r => .tup (k _ _ (.inl fun _ => by intro z; cases z) h) (Reps.move k lv ad r)
  | _, _, .lst h n r => .lst (k _ _ (.inl fun _ => by intro z; cases z) h) (fun z => n (lv _ _ (.inl fun _ => by intro z; cases z) h z)) (Reps.move k lv ad r)
  | _, _, .scr h n r => by
    refine .scr ?_ (fun z => ?_) (Reps.move k lv ad r)
    · rcases h with h | ⟨o, h⟩
      · exact .inl (k _ _ (.inl fun _ => by intro z; cases z) h)
      · exact .inr ⟨o, k _ _ (.inl fun _ => by intro z; cases z) h⟩
    · rcases h with h | ⟨o, h⟩
      · exact n (lv _ _ (.inl fun _ => by intro z; cases z) h z)
      · exact n (lv _ _ (.inl fun _ => by intro z; cases z) h z)
  | _, _, .kscr h r => .kscr h (Reps.move k lv ad r)
  | _, _, .ref (n := n) h => by rw [← (ad n h).1]; exact .ref (ad n h).2
  | _, _, .adr a r => .adr a (Reps.move k lv ad r)
  | _, _, .exn h l n => .exn (k _ _ (.inl fun _ => by intro z; cases z) h) l (fun z => n (lv _ _ (.inl fun _ => by intro z; cases z) h z))
theorem Reps.move (k : ∀ (q : Addr) (u : HO), Sure q u → H q = some u → H' q = some u) (lv : ∀ (q : Addr) (u : HO), Sure q u → H q = some u → Live S' loc' q → Live S loc q) (ad : ∀ n, n < S.next → loc'.ad n = loc.ad n ∧ n < S'.next) :
    ∀ {l : List D} {vs : List V}, Reps g S loc H l vs → Reps g S' loc' H' l vs
  | _, _, .nil => .nil
  | _, _, .cons a b => .cons (Rep.move k lv ad a) (Reps.move k lv ad b)
end
theorem RepO.move (k : ∀ (q : Addr) (u : HO), Sure q u → H q = Option.some u → H' q = Option.some u) (lv : ∀ (q : Addr) (u : HO), Sure q u → H q = Option.some u → Live S' loc' q → Live S loc q) (ad : ∀ n, n < S.next → loc'.ad n = loc.ad n ∧ n < S'.next) {p : Addr} {o : MO} (hp : H' p = H p)
    (r : RepO g S loc H p o) : RepO g S' loc' H' p o := by
  cases o with
  | lst l => obtain ⟨xs, e, q⟩ := r; exact ⟨xs, hp.trans e, q.move k lv ad⟩
  | dic l => obtain ⟨ys, e, q⟩ := r; exact ⟨ys, hp.trans e, Paired.mapP q fun _ _ z => ⟨z.1, z.2.move k lv ad⟩⟩
  | lok l => obtain ⟨o, ys, e, q⟩ := r; exact ⟨o, ys, hp.trans e, Paired.mapP q fun _ _ z => ⟨z.1, z.2.move k lv ad⟩⟩
  | ins c fs => obtain ⟨dx, gs, e, q⟩ := r; exact ⟨dx, gs, hp.trans e, Paired.mapP q fun _ _ z => ⟨z.1, z.2.move k lv ad⟩⟩
  | nst ks => obtain ⟨es, e, m, q, nd⟩ := r; exact ⟨es, hp.trans e, m, Paired.mapP q fun _ _ ⟨b, j, z1, z2, z3, z4⟩ => ⟨b, j, z1, z2, z3, z4.move k lv ad⟩, nd⟩
  | tab x => obtain ⟨e0, ps, e, t, w⟩ := r; exact ⟨e0, ps, hp.trans e, t, fun pos cv h => let ⟨c, e1, e2, e3⟩ := w pos cv h; ⟨c, e1, k _ _ (.inr ⟨x, rfl⟩) e2, fun z => e3 (lv _ _ (.inr ⟨x, rfl⟩) e2 z)⟩⟩
section
variable {p : Addr} {φ : Heap → Prop} {u w : HO} {o : MO}
theorem over_k (hp : H p = some (.ext φ)) (nc : ∀ x, H p ≠ some (LamX.CodeO p x)) : ∀ (q : Addr) (w : HO), Sure q w → H q = some w → upd H p u q = some w := fun q w n h => by
  rw [upd_ne (fun e => ?_)]
  · exact h
  · rcases n with n | ⟨x, n⟩
    · rw [e, hp] at h; exact n φ (Option.some.inj h).symm
    · rw [n, e] at h; exact nc x h
theorem over_lv (hp : H p = some (.ext φ)) (nc : ∀ x, H p ≠ some (LamX.CodeO p x)) : ∀ (q : Addr) (w : HO), Sure q w → H q = some w → Live (S.new o) (bind1 loc S.next p) q → Live S loc q := fun q w n h z => by
  rcases z with ⟨m, a, e, z⟩ | z
  · by_cases hm : m = S.next
    · subst hm
      rw [bind1_self] at z
      rcases n with n | ⟨x, n⟩
      · rw [← z, hp] at h
        exact absurd (Option.some.inj h).symm (n φ)
      · rw [n, ← z] at h
        exact absurd h (nc x)
    · rw [new_ne hm] at e
      rw [bind1_ne hm] at z
      exact .inl ⟨m, a, e, z⟩
  · exact .inr z
theorem over_ad : ∀ n, n < S.next → (bind1 loc S.next p).ad n = loc.ad n ∧ n < (S.new o).next := fun n h => ⟨bind1_ne (Nat.ne_of_lt h), Nat.lt_succ_of_lt h⟩
theorem Abs.over (A : Abs g S loc H) (np : ¬ Live S loc p) (hp : H p = some (.ext φ)) (nc : ∀ x, H p ≠ some (LamX.CodeO p x)) (r : RepO g (S.new o) (bind1 loc S.next p) (upd H p u) p o) : Abs g (S.new o) (bind1 loc S.next p) (upd H p u) where
  inj := fun m n a b e1 e2 e => by
    by_cases hm : m = S.next
    · by_cases hn : n = S.next
      · rw [hm, hn]
      · rw [new_ne hn] at e2
        subst hm
        rw [bind1_self, bind1_ne hn] at e
        exact absurd (.inl ⟨n, b, e2, e.symm⟩) np
    · by_cases hn : n = S.next
      · rw [new_ne hm] at e1
        subst hn
        rw [bind1_self, bind1_ne hm] at e
        exact absurd (.inl ⟨m, a, e1, e⟩) np
      · rw [new_ne hm] at e1
        rw [new_ne hn] at e2
        rw [bind1_ne hm, bind1_ne hn] at e
        exact A.inj m n a b e1 e2 e
  fresh := fun n h => by
    have h' : S.next + 1 ≤ n := h
    rw [new_ne (by omega)]
    exact A.fresh n (by omega)
  ob := fun n w e => by
    by_cases hn : n = S.next
    · subst hn; rw [new_self] at e; cases e; rw [bind1_self]; exact r
    · rw [new_ne hn] at e
      rw [bind1_ne hn]
      exact (A.ob n w e).move (over_k hp nc) (over_lv hp nc) over_ad (upd_ne fun z => np (.inl ⟨n, w, e, z⟩))
  hs := fun q h => by
    have ne : q ≠ p := fun z => np (.inr (z ▸ h))
    obtain ⟨⟨w, hw⟩, nt⟩ := A.hs q h
    exact ⟨⟨w, by rw [upd_ne ne]; exact hw⟩, fun xs r => nt xs (rd_upd ne r)⟩
  hd := fun n w e h => by
    by_cases hn : n = S.next
    · subst hn; rw [bind1_self] at h; exact np (.inr h)
    · rw [new_ne hn] at e
      rw [bind1_ne hn] at h
      exact A.hd n w e h
theorem Ext.over {S1 : S3} {loc1 : Loc} {H1 : Hp} {u0 : HO} (A : Abs g S loc H) (hp : H p = none) (x : Ext S loc (upd H p u0) S1 loc1 H1) : Ext S loc H (S1.new o) (bind1 loc1 S1.next p) (upd H1 p u) := by
  refine ⟨Nat.le_succ_of_le x.nx, fun n h => (bind1_ne (Nat.ne_of_lt (Nat.lt_of_lt_of_le h x.nx))).trans (x.lc n h), fun q w h n => ?_, fun q h => ?_, fun m kvs h => ?_, fun m kvs h => ?_⟩
  · have ne := ne_of_none h hp
    obtain ⟨a, b⟩ := x.keep q w (by rw [upd_ne ne]; exact h) n
    refine ⟨by rw [upd_ne ne]; exact a, fun z => ?_⟩
    rcases z with ⟨m, c, e, z⟩ | z
    · by_cases hm : m = S1.next
      · subst hm; rw [bind1_self] at z; exact ne z.symm
      · rw [new_ne hm] at e
        rw [bind1_ne hm] at z
        exact b (.inl ⟨m, c, e, z⟩)
    · exact b (.inr z)
  · obtain ⟨w, hw⟩ := (A.hs q h).1
    have ne := ne_of_none hw hp
    obtain ⟨a, b⟩ := x.hk q h
    exact ⟨by rw [upd_ne ne, a, upd_ne ne], b⟩
  · obtain ⟨w, hw⟩ := (A.ob m _ h).some
    have ne := ne_of_none hw hp
    obtain ⟨a, b⟩ := x.lk m kvs h
    exact ⟨by rw [new_ne (Nat.ne_of_lt (Nat.lt_of_lt_of_le (A.lt h) x.nx))]; exact a, by rw [upd_ne ne, b, upd_ne ne]⟩
  · rw [bind1_ne (Nat.ne_of_lt (Nat.lt_of_lt_of_le (A.lt h) x.nx))]; exact x.la m kvs h
end
theorem raw_ok {P : Program} {w : World} {H : Hp} {h : Heap} {p : Addr} {es : List DictEntry} (r : ∃ o ep, h.get? p = some o ∧ o.ExactDict ∧ o.data = .dict es.toArray ep) : ObjOk P w H h p (rawD p es) := by
  obtain ⟨o, ep, h1, h2, h3⟩ := r
  exact ⟨⟨o, ep, h1, h2, h3⟩, ⟨o, h1⟩, fun a b ⟨o, ep, h1, h2, h3⟩ k => ⟨o, ep, k _ h1, h2, h3⟩⟩
/-- {k: True} -/
theorem qe_nst1 {ke : Expr} {fk : ME} {j} {p2 pos : Pos} (hH : g.hs = fun k => k.hash X.w) (hu : X.A.units + 64 < cLine) (hk : PE X ke (tE g fk)) :
    PE X (.Dict [some ke] [.Constant (.bool true) j p2] pos) (tE g (eNst1 fk)) := by
  refine ⟨fun pins s σ H Q I h => ?_⟩
  obtain ⟨S, loc, ρ, z, S', A, R, e, q⟩ := h
  unfold eNst1 at e
  obtain ⟨⟨d, S1⟩, e1, e2⟩ := Option.bind_eq_some_iff.mp e
  simp only at e2
  split at e2
  · rename_i ho
    simp only [Option.some.injEq, Prod.mk.injEq] at e2
    obtain ⟨rfl, rfl⟩ := e2
    obtain ⟨l, k, rfl, h1, h2⟩ := okKey_some ho
    have hn := I.hok.fresh (Nat.le_refl s.heap.objs.size)
    have I1 := I.laid (a := s.heap.objs.size) (o := rawD s.heap.objs.size []) (h' := s.heap.push { cls := .type "dict", data := .dict #[] }) (t' := s.toks) (fun _ _ q => Heap.get?_push_of_some _ q) (Nat.le_refl _) (raw_ok ⟨_, 0, Heap.get?_push_size _ rfl, ⟨rfl, rfl, rfl⟩, rfl⟩)
    have Ab := A.same (o := rawD s.heap.objs.size []) hn
    have xb := ext_same A (o := rawD s.heap.objs.size []) hn
    have hs : (evalEachOpt [some ke] X.env).zip ((evalEach [Expr.Constant (.bool true) j p2] X.env).map fun v => do let x ← v; standAt pos; pure x) = (pairTrees [some ke] [Expr.Constant (.bool true) j p2] X.env pos).map fun p => (some p.1, p.2) := by rfl
    rw [arm_eval_Dict, hs, dictDisplay_pairs _ (by simp [pairTrees]) (by simp [pairTrees])]
    refine wpAny_bind (wpAny_standAt (wpAny_bind (wpAny_subDictH (knd := nestedKind X.prog X.w) (show X.A.units + 8 < cLine by omega) (by simp [pairTrees]) ?_)))
    refine thn ((pps_cons hk pe_bl pps_nil).run pins _ σ _ (fun ps H2 => ∃ v loc2, ps = [(v, V.bl true)] ∧ Abs g S1 loc2 H2 ∧ Ext S loc (upd H s.heap.objs.size (rawD s.heap.objs.size [])) S1 loc2 H2 ∧ Rep g S1 loc2 H2 (.tup l) v) I1
      ⟨S, loc, ρ, .tup l, S1, Ab, R.ext A xb, e1, fun v loc2 H2 A2 x2 r2 => ⟨v, loc2, rfl, A2, x2, r2⟩⟩) fun ws s2 ⟨ps, H2, I2, rel, v, loc2, eps, A2, x2, r2⟩ => ?_
    subst eps
    obtain ⟨b, xs, rfl, hb, rb⟩ := r2.tupAt
    obtain ⟨u1, rfl⟩ : ∃ u1, ws = [(Value.ref b, u1)] := by
      cases rel with
      | @cons _ w0 _ ws0 h t =>
        cases t
        obtain ⟨u0, u1⟩ := w0
        exact ⟨u1, by rw [show u0 = Value.ref b from h.1]⟩
    have eu : u1 = Value.bool true := by
      cases rel with
      | cons h t => exact h.2
    subst eu
    obtain ⟨hp2, np⟩ := x2.keep s.heap.objs.size (rawD s.heap.objs.size []) upd_same (A.nolive hn)
    obtain ⟨⟨o, ep, o1, o2, o3⟩, _, _⟩ := (show ObjOk X.prog X.w H2 s2.heap _ (rawD s.heap.objs.size []) from I2.hok _ _ hp2)
    have nc : ∀ x, H2 s.heap.objs.size ≠ some (LamX.CodeO s.heap.objs.size x) := fun x z => by
      obtain ⟨⟨oc, vs, t, c1, c2, _⟩, _, _⟩ := (show ObjOk X.prog X.w H2 s2.heap _ (LamX.CodeO s.heap.objs.size x) from I2.hok _ _ z)
      rw [c1] at o1; cases o1
      rw [c2] at o3; cases o3
    refine ⟨[(k, b, .bool true)], ⟨rfl, rfl, ⟨rep_nested I2.hok r2 h1 rfl, h2⟩, trivial⟩, ⟨o, #[], ep, o1, o2, o3, rfl, (fun x hx => by simp at hx), List.nodup_nil⟩, fun h' tk hd hs => wpAny_pure ?_⟩
    obtain ⟨o', es', ep', p1, p2, p3, p4, _, _⟩ := hd
    have ee : es'.toList = [⟨k.hash X.w, .ref b, .bool true⟩] := p4
    have x3 := Ext.over (o := .nst [.tup l]) (u := rawD s.heap.objs.size es'.toList) A hn x2
    refine ⟨.ref s.heap.objs.size, _, d_write (t' := tk) (ob := rawD s.heap.objs.size es'.toList) I2 (by rw [hp2]; exact True.intro) hs ⟨_, p1⟩ (raw_ok ⟨o', ep', p1, p2, by simpa using p3⟩), rfl,
      q _ (bind1 loc2 S1.next s.heap.objs.size) _ (A2.over np hp2 nc ⟨es'.toList, upd_same, beq_eq_false_iff_ne.mpr (Nat.ne_of_gt I.big), ?_, List.nodup_cons.mpr ⟨by simp, List.nodup_nil⟩⟩) x3 ?_⟩
    · rw [ee]
      exact .cons ⟨b, k, rfl, ⟨h1, h2⟩, by rw [hH], r2.move (over_k hp2 nc) (over_lv hp2 nc) over_ad⟩ .nil
    · have z := Rep.ref (g := g) (S := S1.new (.nst [.tup l])) (loc := bind1 loc2 S1.next s.heap.objs.size) (H := upd H2 s.heap.objs.size (rawD s.heap.objs.size es'.toList)) (Nat.lt_succ_self S1.next)
      rw [bind1_self] at z
      exact z
  · cases e2
/-- o[k] = v, k new -/
theorem set_N (hH : g.hs = fun k => k.hash X.w) (hu : X.A.units + 64 < cLine) : PSet X (rK3 g kSetN) := by
  intro pins s σ H o i v ov iv u Q I ro ri rv h
  obtain ⟨S, loc, d, e, z, S', A, r1, r2, r3, ek, q⟩ := h
  unfold kSetN at ek
  split at ek
  · split at ek
    · rename_i n _ ks hn
      split at ek
      · rename_i hk
        obtain ⟨ho, hnew, hlen⟩ := hk
        simp only [Option.some.injEq] at ek
        subst ek
        obtain ⟨l, k, rfl, h1, h2⟩ := okKey_some ho
        cases r1 with
        | ref hlt =>
        cases (show ov = Value.ref _ from ro)
        obtain ⟨b, xs, rfl, hb, rb⟩ := r2.tupAt
        cases (show iv = Value.ref b from ri)
        obtain ⟨es, hp, hm, rn, nd⟩ := A.ob _ _ hn
        obtain ⟨xs', hd, he, pr⟩ := nst_dict I.hok hH hp rn nd
        have el : ks.length = xs'.length := Paired.length pr
        have hnk : atKey xs' k = none := by
          cases hq : atKey xs' k with
          | none => rfl
          | some w =>
            have q := atKey_isSome (xs := xs') (k := k)
            rw [hq] at q
            exact absurd ((nk_mem pr h1).mpr (of_decide_eq_true q.symm)) hnew
        refine wpAny_setItem_heap (knd := nestedKind X.prog X.w) (k := k) (hsz := by omega) (show X.A.units + 1 + 8 < cLine by omega) ⟨rep_nested I.hok r2 h1 rfl, h2⟩ hd fun h' hd' hs => ?_
        rw [storedH_new hnk] at hd'
        obtain ⟨o', es', ep', p1, p2, p3, p4, _, _⟩ := hd'
        have ee : es'.toList = es ++ [⟨k.hash X.w, .ref b, u⟩] := by rw [p4, List.map_append, ← he]; rfl
        have x1 := ext_set A (o' := .nst (ks ++ [.tup l])) (u := rawD (loc.ad n) es'.toList) hn
        refine ⟨_, d_write (ob := rawD (loc.ad n) es'.toList) I (by rw [hp]; exact True.intro) hs ⟨_, p1⟩ (raw_ok ⟨o', ep', p1, p2, by simpa using p3⟩), q loc _ (A.set hn (by intro _ z; cases z) ⟨es'.toList, upd_same, hm, ?_, ?_⟩) x1⟩
        · have z := Paired.snoc (b := (⟨k.hash X.w, .ref b, u⟩ : DictEntry)) (NEs.ext A x1 rn) ⟨b, k, rfl, ⟨h1, h2⟩, by rw [hH], r2.ext A x1⟩
          exact ee ▸ z
        · rw [List.nodup_append]
          exact ⟨nd, List.nodup_cons.mpr ⟨by simp, List.nodup_nil⟩, fun a ha c hc z => by
            rw [List.mem_singleton.mp hc] at z
            exact hnew (z ▸ ha)⟩
      · cases ek
    · cases ek
  · cases ek
end
end G3
set_option maxHeartbeats 4000000
/-! G3: the own exception BadTree: made, raised, let through. -/
namespace G3
open PySem PySem.Spec PyProof.Rows L2

section
variable {X : Cx} {g : G} {S : S3} {loc : Loc} {H : Hp} {W : WX} {σ : L2.St}
/-- Base.__init__(self, ..), Base an own class over ValueError without an own __init__ -/
theorem pe_baseinit {pl : Sem Bool} {x : Str} {B : Addr} {e : Expr} {es : List Expr} {ta : TA} {p1 p2 pos : Pos} (hg : Gl X x) (hm : X.mg x = some (.ref B)) (r : ClX.CRead X.K B (.type "type"))
    (vV : PySem.W.findCls X.K (.ref B) (.type "type") "__init__" = some (.val (.builtin "ValueError.__init__"))) (ha : PA X (e :: es) ta) (hdb : (x == ("__debug__" : Str)) = false := by decide)
    (hc : eval (.Call (.Attribute (.Name x p1) "__init__" p2) (e :: es) [] pos) X.env = (do
      let ov ← eval (.Name x p1) X.env
      standAt p2.atName
      let (f, first) ← holding [ov] (getMethod ov "__init__" pl)
      callWith pos f first (backTo pos (starEach (e :: es) X.env)) (backToKw pos (keywordEach [] X.env))) := by rfl)
    (he : starEach (e :: es) X.env = (false, eval e X.env) :: starEach es X.env := by rfl) (hpl : (backTo pos (starEach es X.env)).any (·.1) = false := by rfl) :
    PE X (.Call (.Attribute (.Name x p1) "__init__" p2) (e :: es) [] pos) (tVeI X.K ta) := by
  refine ⟨fun pins s σ H Q I h => PySem.W.methodCall_KW (ld_glob I hg hm ?_ hdb) hc⟩
  refine PySem.W.method_cls I.kIn r.ga (PySem.W.cls_value I.kIn r.rd vV (by decide +kernel) ?_)
  show wpAny _ _ (callWith pos (Value.builtin "ValueError.__init__") [] (backTo pos (starEach (e :: es) X.env)) []) _ _ _
  refine PyProof.Rows.callWith_method1 (thn (ha.run pos pins _ σ H _ (I.tok _) h) fun us s1 ⟨vs, H1, I1, r1, a, C, ws, ev, hl, T, ea, q⟩ => ?_) he hpl
  subst ev
  cases r1 with
  | @cons _ u0 _ ur ra rw' =>
    cases (show u0 = Value.ref a from ra)
    exact oinit_ok T I1 ea (by rw [← Paired.length rw', sizeLine_eq]; omega) fun s' J => ⟨.non, H1, J, rfl, q⟩
/-- BadTree.__init__(self, number) -/
def spIni (C : Addr) : Sp := fun vs H Q _ => ∃ a y, vs = [V.ref a, y] ∧ H a = some (exo a C none) ∧ ∀ dx, H dx = none → dx ≠ a → Q .non (upd (upd H dx (exd dx [("number", y)])) a (exo a C (some dx)))
/-- what the body of BadTree.__init__ does, C its class -/
def tIni (C : Addr) : TS := fun D σ H => ∃ a y, σ[0]? = some (some (V.ref a)) ∧ σ[1]? = some (some y) ∧ H a = some (exo a C none) ∧ ∀ dx, H dx = none → dx ≠ a → D.nx σ (upd (upd H dx (exd dx [("number", y)])) a (exo a C (some dx)))
theorem pss_ini {C : Addr} {e1 e2 e3 : Expr} {p1 p2 p3 : Pos} (T : OexC X.K C) (hno : PySem.W.findIn X.K (.ref C) "number" = some none) (h1 : PE X e1 (tVeI X.K (tCons (tVar 0) (tCons (tVar 1) tNil)))) (ho : PE X e2 (tVar 0)) (hv : PE X e3 (tVar 1))
    (hs1 : swapsWith e1 none p1.line X.env = pure false := by rfl) (hs2 : swapsWith e3 (some (.Attribute e2 "number" p2)) p3.line X.env = pure false := by rfl) : PSs X [.Expr e1 p1, .Assign [.Attribute e2 "number" p2] e3 p3] (tIni C) :=
  PSs.imp (pss_cons (ps_expr h1 hs1) (pss_one (ps_ost ho hv hs2))) fun D σ H h => by
    obtain ⟨a, y, h0, h1, ea, q⟩ := h
    refine ⟨_, h0, _, h1, a, C, [y], rfl, by simp, T, ea, ?_⟩
    exact ⟨_, h1, _, h0, a, C, rfl, T, hno, .inl ⟨ea, q⟩⟩
theorem ini_ok {P : Program} {w : World} {K : PySem.W.Frag} {mg : Str → Option Value} {base : Heap} {x qual : Str} {st : Stmt} {f C : Addr} {fd : FuncData} {k : Nat} (F : L2.Fun K x qual st f fd) (Sc : FnScope ["self", "number"] ["self", "number"] (defScope st))
    (hb : ∀ (cdv : Value) (A : Around) (outer : List Env) (s : Shared) (H : Hp) (E : XK), Room k (A.deeper (envOfC qual (defScope st) s.heap.objs.size f cdv)) → PSs (cxOf CX0 P w K mg base ["self", "number"] qual (defScope st) f cdv A outer s H E).nox (defBody st) (tIni C)) :
    FnOk P w K mg base CX0 (k + 1) f fd ["self", "number"] (spIni C) := by
  refine F.ok Sc (fun vs H Q E h => ?_) (fun cdv A outer s H vs Q E hr h => ?_)
  · obtain ⟨a, y, rfl, _⟩ := h; rfl
  · obtain ⟨a, y, rfl, ea, q⟩ := h
    exact ⟨_, hb cdv A outer s H E hr, a, y, rfl, rfl, ea, q⟩
/-- raise BadTree(e) -/
def sRaise (fe : ME) : MS := fun ρ S => (fe ρ S).bind fun r => match r.1 with
  | .int i => some (.ex i, ρ, r.2)
  | _ => none
theorem qs_raise {x : Str} {fI : Addr} {k : Nat} {fd : FuncData} {e : Expr} {fe : ME} {p p2 pos : Pos} (hc : X.calm = true) (tk : Takes X W) (T : OexC X.K g.bt) (iC : PySem.W.findIn X.K (.ref g.bt) "__init__" = some (some (.ref fI))) (tI : PySem.W.typeIn X.K (.ref fI) = some (.type "function"))
    (F1 : FnOk X.prog X.w X.K X.mg X.base CX0 k fI fd ["self", "number"] (spIni g.bt)) (hr : Room (k + 1) X.A) (hb : Binds X.K fd ["self", "number"] []) (hg : Gl X x) (hm : X.mg x = some (.ref g.bt)) (ha : PE X e (tE g fe))
    (hst : starEach (e :: []) X.env = (false, eval e X.env) :: starEach [] X.env := by rfl) (hdb : (x == ("__debug__" : Str)) = false := by decide) (hpl : (backTo p2 (starEach [] X.env)).any (·.1) = false := by rfl) :
    PS X (.Raise (some (.Call (.Name x p) [e] [] p2)) none pos) (tS g W (sRaise fe)) :=
  PS.imp (ps_raise hc tk (pmk_oex T iC tI F1 hr hb .nil pass0 hg hm (qa_cons ha qa_nil hst) hdb hst hpl)) fun D σ H h => by
    obtain ⟨S, loc, ρ, fl, ρ', S', A, R, e, q⟩ := h
    unfold sRaise at e
    obtain ⟨⟨d, S1⟩, e1, e2⟩ := Option.bind_eq_some_iff.mp e
    simp only at e2
    split at e2
    · rename_i i
      simp only [Option.some.injEq, Prod.mk.injEq] at e2
      obtain ⟨rfl, rfl, rfl⟩ := e2
      refine ⟨S, loc, ρ, [.int i], S1, A, R, by unfold aCons; rw [e1]; rfl, fun vs loc1 H1 A1 x1 r1 => ?_⟩
      obtain ⟨v, rfl, rv⟩ := r1.one_inv
      cases rv
      refine ⟨by simp, fun a ha0 => ⟨a, V.int i, rfl, upd_same, fun dx hdx ne => ⟨rfl, dx, [("number", V.int i)], upd_same, ?_, ?_, ?_⟩⟩⟩
      · rw [upd_ne ne, upd_same]
      · rw [upd_ne ne] at hdx; exact hdx
      · have hdx' : H1 dx = none := by rw [upd_ne ne] at hdx; exact hdx
        have eH : upd (del (upd (upd (upd H1 a (exo a g.bt none)) dx (exd dx [("number", V.int i)])) a (exo a g.bt (some dx))) a) dx (.xd [("number", V.int i)]) = upd H1 dx (.xd [("number", V.int i)]) := by
          funext b
          by_cases hb : b = dx
          · rw [hb, upd_same, upd_same]
          · rw [upd_ne hb, upd_ne hb]
            by_cases hba : b = a
            · rw [hba, del_same, ha0]
            · rw [L2.del_ne hba, upd_ne hba, upd_ne hb, upd_ne hba]
        rw [eH]
        have x2 := ext_same A1 (o := .xd [("number", V.int i)]) hdx'
        have A2 := A1.same (o := .xd [("number", V.int i)]) hdx'
        exact q σ loc1 _ _ _ A2 (x1.trans x2) ((R.ext A x1).ext A1 x2) ⟨rfl, dx, _, rfl, upd_same, by simp [List.lookup], A1.nolive hdx'⟩
    · cases e2

/-! ### defs that may raise -/
abbrev MX := List D → S3 → Option ((D ⊕ Int) × S3)
abbrev MEX := En → S3 → Option ((D ⊕ Int) × S3)
def spX (g : G) (f : MX) : Sp := fun vs H Q E => ∃ S loc ds r S', Abs g S loc H ∧ Reps g S loc H ds vs ∧ f ds S = some (r, S') ∧
  match r with
  | .inl d => ∀ w loc' H', Abs g S' loc' H' → Ext S loc H S' loc' H' → Rep g S' loc' H' d w → Q w H'
  | .inr i => ∀ loc' H' cls dx, Abs g S' loc' H' → Ext S loc H S' loc' H' → ExD g S' loc' H' i cls dx → E cls dx H'
def tX (g : G) (W : WX) (f : MEX) : TE := fun σ H Q => ∃ S loc ρ r S', Abs g S loc H ∧ REn g S loc H ρ σ ∧ f ρ S = some (r, S') ∧
  match r with
  | .inl d => ∀ v loc' H', Abs g S' loc' H' → Ext S loc H S' loc' H' → Rep g S' loc' H' d v → Q v H'
  | .inr i => ∀ loc' H' cls dx, Abs g S' loc' H' → Ext S loc H S' loc' H' → REn g S' loc' H' ρ σ → ExD g S' loc' H' i cls dx → W cls dx σ H'
def opX (f : MX) (a : MA) : MEX := fun ρ S => (a ρ S).bind fun r => f r.1 r.2
def fnX (n N : Nat) (b : MS) : MX := fun ds S => if ds.length = n then (b (ds.map some ++ List.replicate (N - n) none) S).bind fun r => match r.1 with
  | .rt d => some (.inl d, r.2.2)
  | .nx => some (.inl .non, r.2.2)
  | .ex i => some (.inr i, r.2.2)
  | _ => none else none
/-- those calls of f that do not raise -/
def calmF (f : MX) : List D → M D := fun ds S => match f ds S with
  | some (.inl d, S') => some (d, S')
  | _ => none
theorem fnX_ok {P : Program} {w : World} {K : PySem.W.Frag} {mg : Str → Option Value} {base : Heap} {x qual : Str} {st : Stmt} {f : Addr} {fd : FuncData} {N ps : List Str} {k : Nat} {b : MS} (F : L2.Fun K x qual st f fd) (Sc : FnScope N ps (defScope st))
    (hb : ∀ (cdv : Value) (A : Around) (outer : List Env) (s : Shared) (H : Hp) (E : XK), Room k (A.deeper (envOfC qual (defScope st) s.heap.objs.size f cdv)) →
      PSs (cxOf (L2.CX P w) P w K mg base N qual (defScope st) f cdv A outer s H E) (defBody st) (tS g (fun cls d _ H => E cls d H) b)) :
    FnOk P w K mg base (L2.CX P w) (k + 1) f fd ps (spX g (fnX ps.length N.length b)) := by
  refine F.okX Sc (fun vs H Q E h => ?_) (fun cdv A outer s H vs Q E hr h => ?_)
  · obtain ⟨S, loc, ds, z, S', A, r, e, q⟩ := h
    unfold fnX at e
    split at e
    · rename_i hl
      rw [← r.length]; exact hl
    · cases e
  · refine ⟨_, hb cdv A outer s H E hr, ?_⟩
    obtain ⟨S, loc, ds, z, S', Ab, r, e, q⟩ := h
    unfold fnX at e
    split at e
    · rename_i hl
      obtain ⟨⟨fl, ρ', S1⟩, e1, e2⟩ := Option.bind_eq_some_iff.mp e
      refine ⟨S, loc, _, fl, ρ', S1, Ab, start_env hl r, e1, ?_⟩
      cases fl with
      | nx =>
        simp only [Option.some.injEq, Prod.mk.injEq] at e2
        obtain ⟨rfl, rfl⟩ := e2
        exact fun σ' loc' H' A' x' _ => q _ loc' H' A' x' .non
      | rt d =>
        simp only [Option.some.injEq, Prod.mk.injEq] at e2
        obtain ⟨rfl, rfl⟩ := e2
        exact fun v loc' H' A' x' r' => q v loc' H' A' x' r'
      | ex i =>
        simp only [Option.some.injEq, Prod.mk.injEq] at e2
        obtain ⟨rfl, rfl⟩ := e2
        exact fun σ' loc' H' cls d A' x' _ ed => q loc' H' cls d A' x' ed
      | bk => cases e2
      | ct => cases e2
    · cases e
/-- a call that may raise -/
theorem qe_callX {x : Str} {k : Nat} {f : Addr} {fd : FuncData} {ps : List Str} {fn : MX} {e : Expr} {es : List Expr} {as : MA} {p pos : Pos} (tk : Takes X W) (F : FnOk X.prog X.w X.K X.mg X.base (L2.CX X.prog X.w) k f fd ps (spX g fn)) (hr : Room k X.A) (hg : Gl X x) (hm : X.mg x = some (.ref f))
    (hk : PySem.W.keepIn X.K (.ref f) = true) (hb : Binds X.K fd ps []) (ha : PA X (e :: es) (tA g as)) (hdb : (x == ("__debug__" : Str)) = false := by decide) (he : starEach (e :: es) X.env = (false, eval e X.env) :: starEach es X.env := by rfl) (hpl : (backTo pos (starEach es X.env)).any (·.1) = false := by rfl) :
    PE X (.Call (.Name x p) (e :: es) [] pos) (tX g W (opX fn as)) := by
  refine ⟨fun pins s σ H Q I h => ?_⟩
  obtain ⟨S, loc, ρ, r, S', A, R, e, q⟩ := h
  unfold opX at e
  obtain ⟨⟨ds, S1⟩, e1, e2⟩ := Option.bind_eq_some_iff.mp e
  have tk' : Takes X (fun cls d σ' H' => σ' = σ ∧ W cls d σ H') := tk.imp fun c d σ' H' z => by obtain ⟨rfl, z⟩ := z; exact z
  refine wpAny_Call_Name_kw (ld_glob I hg hm ?_ hdb)
  refine PySem.W.callWith_K (h₀ := X.base) I.ok.mod.kin hk (thn (ha.run pos pins s σ H (fun vs H1 => ∃ loc1, Abs g S1 loc1 H1 ∧ Ext S loc H S1 loc1 H1 ∧ Reps g S1 loc1 H1 ds vs) I ⟨S, loc, ρ, ds, S1, A, R, e1, fun vs loc1 H1 A1 x1 r1 => ⟨loc1, A1, x1, r1⟩⟩) fun us s1 ⟨vs, H1, I1, rv, loc1, A1, x1, r1⟩ => ⟨I1.kIn, ?_⟩) he hpl
  have hsp : spX g fn (vs ++ []) H1 Q (fun cls d H' => W cls d σ H') := by
    rw [List.append_nil]
    refine ⟨S1, loc1, ds, r, S', A1, r1, e2, ?_⟩
    cases r with
    | inl d => exact fun w loc2 H2 A2 x2 r2 => q w loc2 H2 A2 (x1.trans x2) r2
    | inr i => exact fun loc2 H2 cls dx A2 x2 ed => q loc2 H2 cls dx A2 (x1.trans x2) ((R.ext A x1).ext A1 x2) ed
  have r2 : Vals (vs ++ []) (us ++ []) := rv.append .nil
  have hl : (us ++ []).length = ps.length := by rw [← r2.length]; exact F.len _ _ _ _ hsp
  refine wpAny_call (codeAny_mono (F.run X.A X.stack s1 H1 ⟨us, []⟩ (us ++ []) (vs ++ []) Q _ hr I1.env0 (hb s1 us I1.kIn hl) r2 hsp) fun r' s' hq => ?_)
  cases r' with
  | error er => exact tk _ _ (XE.of_call I1 (fun _ _ _ z => z) hq)
  | ok fl => cases fl with
    | ret u => exact I1.after hq
    | next => exact False.elim hq
    | brk => exact False.elim hq
    | cont => exact False.elim hq
def sExpX (f : MEX) : MS := fun ρ S => (f ρ S).bind fun r => match r.1 with
  | .inl _ => some (.nx, ρ, r.2)
  | .inr i => some (.ex i, ρ, r.2)
theorem qs_expX {e : Expr} {f : MEX} {pos : Pos} (he : PE X e (tX g W f)) (hs : swapsWith e none pos.line X.env = pure false := by rfl) : PS X (.Expr e pos) (tS g W (sExpX f)) := PS.imp (ps_expr he hs) fun D σ H h => by
  obtain ⟨S, loc, ρ, fl, ρ', S', A, R, e, q⟩ := h
  unfold sExpX at e
  obtain ⟨⟨r, S1⟩, e1, e2⟩ := Option.bind_eq_some_iff.mp e
  refine ⟨S, loc, ρ, r, S1, A, R, e1, ?_⟩
  cases r with
  | inl d =>
    simp only [Option.some.injEq, Prod.mk.injEq] at e2
    obtain ⟨rfl, rfl, rfl⟩ := e2
    exact fun v loc1 H1 A1 x1 r1 => q σ loc1 H1 A1 x1 (R.ext A x1)
  | inr i =>
    simp only [Option.some.injEq, Prod.mk.injEq] at e2
    obtain ⟨rfl, rfl, rfl⟩ := e2
    exact fun loc1 H1 cls dx A1 x1 R1 ed => q σ loc1 H1 cls dx A1 x1 R1 ed
end
end G3
set_option maxHeartbeats 4000000
/-! G3: a lambda (no parameter, or one with a number as its default) that is handed to a def, which calls it. -/
namespace G3
open PySem PySem.Spec PyProof.Rows L2

abbrev lamFn (q : Str) (params : Arguments) (body : Expr) (scope : Scope) (cl : List (Str × Addr)) (pm cdv ct dV : Value) : FuncData :=
  { name := "<lambda>", qualname := q, params := params, body := .expr body, scope := scope, globals := mainGlobals, closure := cl, closureTuple := ct, code := cdv, builtins := builtinsNs, defaults := dV, kwdefaults := .none, annotations := none, pyModule := pm, doc := .none }
abbrev lamOb (q : Str) (params : Arguments) (body : Expr) (scope : Scope) (cl : List (Str × Addr)) (pm cdv ct dV : Value) : Obj := { cls := .type "function", data := .func (lamFn q params body scope cl pm cdv ct dV) }
section
variable {M : Model} {A : Around} {E : Value → Shared → Prop} {s : Shared} {q : Str} {params : Arguments} {body : Expr} {scope : Scope} {env : Env} {c P : Addr} {ps : Array Value} {pos : Pos} {line : Nat} {mg : Str → Option Value} {clos : List (Str × Addr)} {dV : Value} {Q : Value → Shared → Prop}
/-- the function's making, its closure not empty: its code is in the table, or new -/
theorem lam_tail (hcl : closureFor scope env = pure clos) (hne : clos ≠ []) (hge : env.globals = mainGlobals) (hg : s.heap.Ns mainGlobals mg) (hcode : env.code = .ref c) (C : PySem.W.CodeHd s.heap c P) (hP : s.heap.get? P = some { cls := .none, data := .fields ps }) (ht : TriplesOk ps.toList)
    (hgP : mainGlobals ≠ P) (hb : s.heap.BuiltinsAt mg P)
    (hit : ∀ (cv ctv : Value) (h' : Heap), codeAmong pos ps.toList = some cv → (∀ b o, s.heap.get? b = some o → h'.get? b = some o) → s.heap.objs.size ≤ h'.objs.size → Q (.ref h'.objs.size) { s with heap := h'.push (lamOb q params body scope clos ((mg "__name__").getD .none) cv ctv dV) })
    (miss : ∀ (c' : Addr) (ctv : Value) (h' : Heap) (tk : Nat), codeAmong pos ps.toList = none → Heap.ExtBut P s.heap h' → s.heap.objs.size ≤ c' → c' < h'.objs.size → h'.CodeRec (.ref c') q → h'.get? P = some { cls := .none, data := .fields (ps ++ #[rawInt pos.line, rawInt pos.col, .ref c']) } →
      Q (.ref h'.objs.size) { s with heap := h'.push (lamOb q params body scope clos ((mg "__name__").getD .none) (.ref c') ctv dV), toks := tk }) :
    wpAny M A (makeTail "<lambda>" q params (.expr body) scope env dV .none none pos line) Q E s := by
  obtain ⟨bm, ob, b1, b2, _, b3, b4, b5, b6, b7⟩ := hb
  obtain ⟨x, r, rfl⟩ : ∃ x r, clos = x :: r := by cases clos with | nil => exact absurd rfl hne | cons x r => exact ⟨x, r, rfl⟩
  unfold makeTail
  rw [hcl, hge]
  refine wpAny_bind (wpAny_pure ?_)
  simp only [List.isEmpty_cons, Bool.false_eq_true, if_false]
  refine wpAny_bind (wpAny_newTextTuple ?_)
  have kp : ∀ (oT : Obj) b o, s.heap.get? b = some o → (s.heap.push oT).get? b = some o := fun oT b o e => Heap.get?_push_of_some _ e
  cases hc : codeAmong pos ps.toList with
  | some cv =>
    refine wpAny_bind (wpAny_functionCode_hit hcode ((C.keeps (kp _)).code (kp _ _ _ hP) ht) hc (wpAny_bind (wpAny_builtinsFor (hg.push _) b1 b2 (kp _ _ _ b4) b5 b6 b7 (wpAny_bind (wpAny_nsGet (hg.push _) (wpAny_bind (wpAny_pure (wpAny_newObj_type (hit cv _ _ hc (kp _) ?_) (by size_fits)))))))))
    rw [Heap.size_push]; omega
  | none =>
    refine wpAny_bind (wpAny_functionCodeX hcode ((C.keeps (kp _)).code (kp _ _ _ hP) ht) ((C.keeps (kp _)).tab (kp _ _ _ hP)) hc fun c' h' tk hx ge lt _ rec tb _ => ?_)
    have hx' : Heap.ExtBut P s.heap h' := fun b o hb e => hx b o hb (kp _ _ _ e)
    have g' := (hg.push _).extBut hx hgP
    refine wpAny_bind (wpAny_builtinsFor g' b1 b2 (hx' _ _ b3 b4) b5 b6 b7 (wpAny_bind (wpAny_nsGet g' (wpAny_bind (wpAny_pure (wpAny_newObj_type (miss c' _ h' tk hc hx' (Nat.le_trans ?_ ge) lt rec tb.2) (by size_fits)))))))
    rw [Heap.size_push]; omega
end
/-- the default's value -/
def DefAt (H : Hp) : Option Int → Value → Prop
  | none, dV => dV = .none
  | some i, dV => ∃ T, dV = .ref T ∧ H T = some (.tup [.int i])
def dfl : Option (Int × Tok × Pos) → Env → List (Sem Value)
  | none, _ => []
  | some _, _ => []
section
variable {X : Cx} {g : G} {S : S3} {loc : Loc} {H : Hp} {pins : List (Addr × Obj)} {σ : L2.St} {s : Shared}
/-- the table's object changed: all else of ours stays -/
theorem tab_step {n : Nat} {q : Str} {H1 : Hp} {ps1 : Array Value} (A : Abs g S loc H) (hn : S.ob n = some (.tab q)) (k : ∀ b o, b ≠ loc.ad n → H b = some o → H1 b = some o) (hP : H1 (loc.ad n) = some (.tbl ps1)) (ht : TriplesOk ps1.toList)
    (hw : ∀ (pos : Pos) (cv : Value), codeAmong pos ps1.toList = some cv → ∃ c, cv = .ref c ∧ H1 c = some (LamX.CodeO c q) ∧ ¬ Live S loc c) : Abs g S loc H1 ∧ Ext S loc H S loc H1 := by
  have hl : Live S loc (loc.ad n) := .inl ⟨n, _, hn, rfl⟩
  have x : Ext S loc H S loc H1 := by
    refine ⟨Nat.le_refl _, fun _ _ => rfl, fun p o h np => ⟨k p o (fun e => np (e ▸ hl)) h, np⟩, fun p h => ⟨?_, h⟩, fun m kvs h => ⟨h, ?_⟩, fun _ _ _ => rfl⟩
    · obtain ⟨u, hu⟩ := (A.hs p h).1
      rw [k p u (fun e => A.hd n _ hn (e ▸ h)) hu, hu]
    · obtain ⟨u, hu⟩ := (A.ob m _ h).some
      rw [k _ u (fun e => ?_) hu, hu]
      have := A.inj m n _ _ h hn e
      subst this
      rw [hn] at h; cases h
  refine ⟨⟨A.inj, A.fresh, fun m o e => ?_, fun p h => ?_, A.hd⟩, x⟩
  · by_cases hm : m = n
    · subst hm
      rw [hn] at e; cases e
      obtain ⟨e0, _⟩ := A.ob m _ hn
      exact ⟨e0, ps1, hP, ht, hw⟩
    · obtain ⟨u, hu⟩ := (A.ob m _ e).some
      refine (A.ob m o e).ext A x ?_
      rw [k _ u (fun z => hm (A.inj m n _ _ e hn z)) hu, hu]
  · obtain ⟨⟨u, hu⟩, nt⟩ := A.hs p h
    have ne : p ≠ loc.ad n := fun e => A.hd n _ hn (e ▸ h)
    have e1 := k p u ne hu
    refine ⟨⟨u, e1⟩, fun xs r => nt xs ?_⟩
    rcases r with r | ⟨o, r⟩
    · rw [e1] at r; exact .inl (by rw [hu]; exact r)
    · rw [e1] at r; exact .inr ⟨o, by rw [hu]; exact r⟩
/-- the lambda, made -/
theorem lam_made {n : Nat} {c : Addr} {params : Arguments} {body : Expr} {scope : Scope} {pos p3 : Pos} {d : Option Int} {j} {Q : Value → Shared → Prop} (I : Inv X pins σ H s) (A : Abs g S loc H) (hn : S.ob n = some (.tab (X.env.qual ++ "<lambda>"))) (TB : LamX.TabB X.base X.mg c g.tp) (hcode : X.env.code = .ref c)
    (hdef : defaultsOf params X.env = (match d with | none => [] | some i => [eval (.Constant (.int i) j p3) X.env], [])) (hkw : params.kwonlyargs = []) (hfree : ∀ y ∈ scope.names, y.2 = .free → ∃ c, X.env.cells.lookup y.1 = some c) (hne : cloFrom X.env.cells scope.names [] ≠ [])
    (h : ∀ (f c' : Addr) (pm ctv dV : Value) (H1 : Hp) (s' : Shared), Inv X pins σ H1 s' → Abs g S loc H1 → Ext S loc H S loc H1 → s'.heap.get? f = some (lamOb (X.env.qual ++ "<lambda>") params body scope (cloFrom X.env.cells scope.names []) pm (.ref c') ctv dV) → H1 f = none → f ∉ frs X.stack →
      (∃ ps1, H1 g.tp = some (.tbl ps1) ∧ TriplesOk ps1.toList ∧ codeAmong pos ps1.toList = some (.ref c')) → DefAt H1 d dV → Q (.ref f) s') : wpAny (model X.prog X.w) X.A (eval (.Lambda params body scope pos) X.env) Q X.xe s := by
  have nofr : ∀ {s : Shared} {H : Hp} {pins : List (Addr × Obj)}, Inv X pins σ H s → ∀ f, s.heap.objs.size ≤ f → f ∉ frs X.stack := fun {s H pins} I f hf z => by
    rcases List.mem_cons.mp (I.stkSub _ z) with e | e
    · have h1 := I.lt
      rw [← e] at h1
      exact Nat.lt_irrefl _ (Nat.lt_of_lt_of_le h1 hf)
    · exact I.nofs hf e
  -- from the state in which the default's tuple stands
  have main : ∀ (dV : Value) (H0 : Hp) (s0 : Shared), Inv X pins σ H0 s0 → Abs g S loc H0 → Ext S loc H S loc H0 → DefAt H0 d dV → wpAny (model X.prog X.w) X.A (makeTail "<lambda>" (X.env.qual ++ "<lambda>") params (.expr body) scope X.env dV .none none pos pos.line) Q X.xe s0 := by
    intro dV H0 s0 I0 A0 x0 hd
    obtain ⟨eP, ps, hP, ht, hw⟩ := A0.ob n _ hn
    have hP' : s0.heap.get? (loc.ad n) = some { cls := .none, data := .fields ps } := I0.hok _ _ hP
    rw [eP] at hP'
    have defK : ∀ H1 : Hp, (∀ b o, b ≠ loc.ad n → H0 b = some o → H1 b = some o) → DefAt H1 d dV := fun H1 k => by
      cases d with
      | none => exact hd
      | some i =>
        obtain ⟨T, e, hT⟩ := hd
        exact ⟨T, e, k T _ (fun z => by rw [z, hP] at hT; cases hT) hT⟩
    refine lam_tail (closure_ok hfree) hne I0.ok.glob (I0.mod.glob.keeps I0.bk) hcode (TB.code.keeps I0.bk) hP' ht TB.gP (TB.bm.keeps I0.bk) (fun cv ctv h' hc k hsz => ?_) (fun c' ctv h' tk hc0 hx ge lt rec htb => ?_)
    · obtain ⟨c', rfl, hco, nl⟩ := hw pos cv hc
      have I1 : Inv X pins σ H0 { s0 with heap := h'.push (lamOb (X.env.qual ++ "<lambda>") params body scope (cloFrom X.env.cells scope.names []) ((X.mg "__name__").getD .none) (.ref c') ctv dV) } := I0.kept (t' := s0.toks) fun b o e => Heap.get?_push_of_some _ (k b o e)
      exact h _ c' _ ctv dV H0 _ I1 A0 x0 (Heap.get?_push_size _ rfl) (I0.hok.fresh hsz) (nofr I0 _ hsz) ⟨ps, by rw [← eP]; exact hP, ht, hc⟩ hd
    · obtain ⟨c2, oc, vs, t, e2, hoc, hdc, hv⟩ := rec
      cases e2
      have nC : H0 c' = none := I0.hok.fresh ge
      have I1 := LamX.inv_table (t' := tk) (q := X.env.qual ++ "<lambda>") (more := #[rawInt pos.line, rawInt pos.col, .ref c']) (h' := h'.push (lamOb (X.env.qual ++ "<lambda>") params body scope (cloFrom X.env.cells scope.names []) ((X.mg "__name__").getD .none) (.ref c') ctv dV)) I0 hP
        (fun b o hb e => Heap.get?_push_of_some _ (hx b o (by rw [← eP]; exact hb) e)) (Heap.get?_push_of_some _ (by rw [eP]; exact htb)) ge ⟨oc, vs, t, Heap.get?_push_of_some _ hoc, hdc, hv⟩
      have k : ∀ b o, b ≠ loc.ad n → H0 b = some o → upd (upd H0 (loc.ad n) (.tbl (ps ++ #[rawInt pos.line, rawInt pos.col, .ref c']))) c' (LamX.CodeO c' (X.env.qual ++ "<lambda>")) b = some o := fun b o hb e => by
        rw [upd_ne (ne_of_none e nC), upd_ne hb]; exact e
      have eL : (ps ++ #[rawInt pos.line, rawInt pos.col, .ref c']).toList = ps.toList ++ [rawInt pos.line, rawInt pos.col, .ref c'] := by simp
      have ePc : loc.ad n ≠ c' := ne_of_none hP nC
      obtain ⟨A1, x1⟩ := tab_step A0 hn k (by rw [upd_ne ePc, upd_same]) (by rw [eL]; exact PySem.TriplesOk_snoc _ _ _ _ ht) fun p' cv hcv => by
        rw [eL] at hcv
        rcases LamX.among_app _ ht hcv with z | z
        · obtain ⟨c0, e1, e2, e3⟩ := hw p' cv z
          exact ⟨c0, e1, k _ _ (fun e => by rw [e, hP] at e2; cases e2) e2, e3⟩
        · exact ⟨c', z, upd_same, A0.nolive nC⟩
      have hsz : s0.heap.objs.size ≤ h'.objs.size := Nat.le_trans ge (Nat.le_of_lt lt)
      refine h _ c' _ ctv dV _ _ I1 A1 (x0.trans x1) (Heap.get?_push_size _ rfl) ?_ (nofr I0 _ hsz) ⟨_, by rw [← eP, upd_ne ePc, upd_same], by rw [eL]; exact PySem.TriplesOk_snoc _ _ _ _ ht, by rw [eL]; exact codeAmong_snoc _ ht hc0⟩ (defK _ k)
      rw [upd_ne (Nat.ne_of_gt lt), upd_ne (fun e => ?_)]
      · exact I0.hok.fresh hsz
      · have := Heap.lt_size hP'
        rw [e, eP] at hsz
        exact absurd (Nat.lt_of_lt_of_le this hsz) (Nat.lt_irrefl _)
  rw [arm_eval_Lambda, hdef]
  cases d with
  | none =>
    show wpAny (model X.prog X.w) X.A (do let dv ← evalAll []; let kdv ← holding dv (evalAllOpt []); makeFunction "<lambda>" (X.env.qual ++ "<lambda>") params (.expr body) scope X.env dv kdv [] pos pos.line) Q X.xe s
    refine wpAny_bind (wpAny_pure (wpAny_bind (wpAny_holding (wpAny_pure ?_))))
    rw [makeFunction_eq]
    simp only [hkw, List.zip_nil_left, List.filterMap_nil, List.isEmpty_nil, if_true, pure_bind]
    exact main .none H s I A .refl rfl
  | some i =>
    show wpAny (model X.prog X.w) X.A (do let dv ← evalAll [eval (.Constant (.int i) j p3) X.env]; let kdv ← holding dv (evalAllOpt []); makeFunction "<lambda>" (X.env.qual ++ "<lambda>") params (.expr body) scope X.env dv kdv [] pos pos.line) Q X.xe s
    refine wpAny_bind ?_
    show wpAny (model X.prog X.w) X.A (do let v ← eval (.Constant (.int i) j p3) X.env; return v :: (← holding [v] (evalAll []))) _ _ s
    refine wpAny_bind (thn (pe_int.run pins s σ H (fun v H1 => v = .int i ∧ H1 = H) I ⟨rfl, rfl⟩) fun u s1 ⟨v, H1, I1, r1, ev, eH⟩ => ?_)
    subst ev
    subst eH
    obtain ⟨t, rfl⟩ := r1
    refine wpAny_bind (wpAny_holding (wpAny_pure (wpAny_pure (wpAny_bind (wpAny_holding (wpAny_pure ?_))))))
    rw [makeFunction_eq]
    simp only [hkw, List.zip_nil_left, List.filterMap_nil, List.isEmpty_nil, List.isEmpty_cons, Bool.false_eq_true, if_false, if_true, pure_bind]
    refine wpAny_bind (wpAny_newTextTuple ?_)
    have hf := I1.hok.fresh (Nat.le_refl s1.heap.objs.size)
    refine main (.ref s1.heap.objs.size) (upd H1 s1.heap.objs.size (.tup [.int i])) _ (I1.laid (t' := s1.toks) (fun b o e => Heap.get?_push_of_some _ e) (Nat.le_refl _) ⟨by rw [sizeLine_eq]; exact (by decide : 1 ≤ 16777216), [.int i t], .cons ⟨t, rfl⟩ .nil, _, Heap.get?_push_size _ rfl, rfl, 0, rfl⟩) (A.same hf) (ext_same A hf) ⟨_, rfl, upd_same⟩
end
/-! ### the lambda, called -/
/-- the lambda's names: its parameters ps, captured ones, globals -/
structure LamS2 (sc scope : Scope) (ps : List Str) : Prop where
  kind : scope.kind = .function
  co : scope.isCoroutine = false
  gen : scope.isGenerator = false
  cell : ∀ y ∈ scope.names, y.2 ≠ .cell
  own : ∀ y ∈ scope.names, y.2 = .local → y.1 ∈ ps
  par : ∀ n ∈ ps, scope.names.lookup n = some .local
  free : ∀ y ∈ scope.names, y.2 = .free → sc.names.lookup y.1 = some .cell ∨ sc.names.lookup y.1 = some .free
theorem LamS2.has {X : Cx} {scope : Scope} {ps : List Str} (L : LamS2 X.env.scope scope ps) (ok : X.Ok) : ∀ y ∈ scope.names, y.2 = .free → ∃ c, X.env.cells.lookup y.1 = some c := fun y hy e => by
  rcases L.free y hy e with k | k
  · exact ok.has _ (.inl k)
  · exact ok.has _ (.inr k)
theorem among_more {pos : Pos} {cv : Value} {m : List Value} (l : List Value) (h : TriplesOk l) (hc : codeAmong pos l = some cv) : codeAmong pos (l ++ m) = some cv := by
  fun_induction TriplesOk l with
  | case1 => simp [codeAmong] at hc
  | case2 a t b u x rest ih =>
    simp only [List.cons_append, codeAmong] at hc ⊢
    split at hc
    · rename_i q; rw [if_pos q]; exact hc
    · rename_i q; rw [if_neg q]; exact ih h hc
  | case3 l h1 h2 => exact h.elim
def capEn (n : Nat) : List Nat → List D → En
  | i :: is, d :: ds => (capEn n is ds).set i (some d)
  | _, _ => List.replicate n none
def capD (ρ : En) : List Nat → Option (List D)
  | [] => some []
  | i :: is => match ρ[i]? with
    | some (some d) => (capD ρ is).map (d :: ·)
    | _ => none
abbrev CapV (σ : L2.St) : List Nat → List V → Prop := Paired fun i v => σ[i]? = some (some v)
section
variable {X : Cx} {g : G} {S : S3} {loc : Loc} {H HZ : Hp} {pins : List (Addr × Obj)} {σ : L2.St} {s s1 : Shared}
theorem cap_vals {ρ : En} (R : REn g S loc H ρ σ) : ∀ {is : List Nat} {ds : List D}, capD ρ is = some ds → ∃ vs, CapV σ is vs ∧ Reps g S loc H ds vs
  | [], ds, h => by simp only [capD, Option.some.injEq] at h; subst h; exact ⟨[], .nil, .nil⟩
  | i :: is, ds, h => by
    simp only [capD] at h
    split at h
    · rename_i d hd
      obtain ⟨ds', e, rfl⟩ := Option.map_eq_some_iff.mp h
      obtain ⟨vs, h1, h2⟩ := cap_vals R e
      obtain ⟨v, h3, h4⟩ := R.get i d hd
      exact ⟨v :: vs, .cons h3 h1, .cons h4 h2⟩
    · cases h
theorem capEn_len (n : Nat) : ∀ (is : List Nat) (ds : List D), (capEn n is ds).length = n
  | [], _ => by simp [capEn]
  | _ :: _, [] => by simp [capEn]
  | i :: is, d :: ds => by rw [capEn, List.length_set]; exact capEn_len n is ds
theorem capEn_ren : ∀ {is : List Nat} {vs : List V} {ds : List D}, CapV σ is vs → Reps g S loc H ds vs → REn g S loc H (capEn σ.length is ds) σ
  | _, _, _, .nil, .nil => ⟨by simp [capEn], fun i d h => by
    rw [show capEn (List.length σ) [] [] = List.replicate σ.length none by simp [capEn], List.getElem?_replicate] at h
    split at h <;> cases h⟩
  | i :: is, _, d :: ds, .cons h t, .cons r rs => by
    have R := capEn_ren t rs
    refine ⟨by rw [capEn, List.length_set]; exact R.len, fun j e hj => ?_⟩
    rw [capEn, List.getElem?_set] at hj
    split at hj
    · rename_i e1
      subst e1
      split at hj
      · cases hj; exact ⟨_, h, r⟩
      · cases hj
    · exact R.get j e hj
/-- the state in which the lambda's body begins -/
theorem lam_in {A : Around} {outer : List Env} {E : XK} {scope : Scope} {ps : List Str} {f c' : Addr} {h₁ : Heap} {tk : Nat} {m : Str → Option Value} (I : Inv X pins σ H s) (L : LamS2 X.env.scope scope ps) (hap : ∀ n ∈ ps, n ∉ X.N) (e0 : Env0 X.prog X.w X.K X.mg X.base A outer s1 HZ) (hd : A.handled = none)
    (un : Un (frs X.stack) [] H HZ s.heap s1.heap) (hns : h₁.Ns s1.heap.objs.size m) (kp : ∀ b o, s1.heap.get? b = some o → h₁.get? b = some o) : Inv (LamX.lamCx X A outer s1 HZ E scope f c') [] σ HZ { s1 with heap := h₁, toks := tk } := by
  have hfree := L.has I.ok
  have cm : ∀ {y c}, (cloFrom X.env.cells scope.names []).lookup y = some c → X.env.cells.lookup y = some c := fun {y c} e => by
    rcases cloFrom_mem (PySem.mem_of_lookup e) with hm | ⟨h1, h2⟩
    · cases hm
    · obtain ⟨c1, hc⟩ := hfree _ h1 rfl
      have e2 : c = c1 := by rw [h2, show X.env.cells.lookup y = some c1 from hc] <;> rfl
      rw [e2]; exact hc
  have look : ∀ {y}, scope.names.lookup y = some .free → ∃ c, (cloFrom X.env.cells scope.names []).lookup y = some c := fun {y} hl => mem_lookup (cloFrom_has (cells := X.env.cells) (acc := []) (show (y, NameKind.free) ∈ scope.names from PySem.mem_of_lookup hl))
  have cellK : ∀ {c : Addr} {v : Option Value}, H c = none → s.heap.IsCell c v → h₁.IsCell c v := fun {c v} n ⟨o, ho, hd⟩ => by
    obtain ⟨sl, q⟩ := un.any ho n (by simp)
    exact ⟨_, kp _ _ q, hd⟩
  have noA : ∀ b : Addr, b ∉ (LamX.lamCx X A outer s1 HZ E scope f c').ex := fun b z => absurd (show b ∈ ([] : List Addr) from z) (by simp)
  refine ⟨⟨e0.mod, L.kind, rfl, rfl, Nat.le_refl _, fun y z c e1 e2 => I.ok.inj y z c (cm e1) (cm e2), fun y hy => ?_, fun y c z _ => (Bool.false_ne_true z).elim, fun _ => hd, Around.frames_deeper e0.frames, .inr ⟨rfl, rfl⟩, fun b z => absurd z (noA b), e0.bs, e0.bsz, fun b _ _ => noA b,
      fun b z => absurd z (noA b), e0.funs, e0.frf⟩,
    rfl, e0.bare, Un.kept kp, ⟨_, hns, fun i y v e1 e2 e3 => ?_⟩, fun y c e => ?_, e0.hok.fresh (Nat.le_refl _), fun y c e => ?_, fun q hq => absurd (show q ∈ ([] : List (Addr × Obj)) ++ [] from hq) (by simp), e0.hok.kept kp, I.len⟩
  · rcases (show scope.names.lookup y = some .cell ∨ scope.names.lookup y = some .free from hy) with hy | hy
    · exact absurd rfl (L.cell _ (PySem.mem_of_lookup hy))
    · exact look hy
  · rcases (show Vis scope y from e3) with k | k | k
    · exact absurd (List.mem_of_getElem? e1) (hap y (L.own _ (PySem.mem_of_lookup k) rfl))
    · exact absurd rfl (L.cell _ (PySem.mem_of_lookup k))
    · obtain ⟨m', hn, hl⟩ := I.loc
      have hvis : Vis X.env.scope y := (L.free _ (PySem.mem_of_lookup k) rfl).elim (fun k => .inr (.inl k)) (fun k => .inr (.inr k))
      obtain ⟨w', r, q⟩ := hl i y v e1 e2 hvis
      obtain ⟨c2, h2⟩ := look k
      refine ⟨w', r, .inr ⟨.inr k, c2, h2, ?_⟩⟩
      have c1 := cm h2
      rcases q with ⟨k', _⟩ | ⟨_, c3, e', z⟩
      · have k3 : X.env.scope.names.lookup y = some .local := k'
        rcases L.free _ (PySem.mem_of_lookup k) rfl with k2 | k2 <;> rw [show X.env.scope.names.lookup y = _ from k2] at k3 <;> cases k3
      · rw [c1] at e'; cases e'
        exact cellK (I.freeC y _ c1) z
  · obtain ⟨w', z⟩ := I.cell y c (cm e)
    exact ⟨w', cellK (I.freeC y c (cm e)) z⟩
  · obtain ⟨v, o, ho, hd⟩ := I.cell y c (cm e)
    exact un.free c o ho (I.freeC y c (cm e)) (by simp)
end
end G3
set_option maxHeartbeats 4000000
/-! G3: the def that calls the lambda handed to it. -/
namespace G3
open PySem PySem.Spec PyProof.Rows L2

/-- how the lambda's arguments bind where none is given -/
def LamBind (q : Str) (params : Arguments) (body : Expr) (scope : Scope) (ps : List Str) : Option Int → Prop
  | none => ps = [] ∧ ∀ (cl : List (Str × Addr)) (pm cdv ct : Value), bindArgs (lamFn q params body scope cl pm cdv ct .none) ⟨[], []⟩ = pure []
  | some _ => ∃ n, ps = [n] ∧ ∀ (cl : List (Str × Addr)) (pm cdv ct : Value) (T : Addr), ∃ k : Option (Array Value) → Sem (List (Str × Value)), bindArgs (lamFn q params body scope cl pm cdv ct (.ref T)) ⟨[], []⟩ = (seqItems? (.ref T) >>= k) ∧ ∀ v, k (some #[v]) = pure [(n, v)]
/-- a(), a in slot i: the lambda at f, with the values vs captured from the slots is -/
def eAct (i n : Nat) (q : Str) (f : Addr) (vs : List V) (m : Nat) (is : List Nat) (fb : MEX) : MEX := fun ρ S => match ρ[i]?, S.ob n with
  | some (some (.adr f' vs' ds)), some (.tab q') => if f' = f ∧ vs' = vs ∧ q' = q then fb (capEn m is ds) S else none
  | _, _ => none
section
variable {X : Cx} {g : G} {S : S3} {loc : Loc} {H : Hp} {pins : List (Addr × Obj)} {σ : L2.St} {s : Shared}
theorem binds_to {P : Program} {w : World} {HZ : Hp} {s1 : Shared} {q : Str} {params : Arguments} {body : Expr} {scope : Scope} {ps : List Str} {d : Option Int} {dV : Value} {cl : List (Str × Addr)} {pm cdv ct : Value} (hb : LamBind q params body scope ps d) (hd : DefAt HZ d dV) (hok : HOk P w HZ s1.heap)
    (hl : ∀ n ∈ ps, scope.names.lookup n = some .local) : ∃ binds, BindsTo s1 (lamFn q params body scope cl pm cdv ct dV) ⟨[], []⟩ binds ∧ ∀ y ∈ binds, scope.names.lookup y.1 = some .local := by
  cases d with
  | none =>
    obtain rfl : dV = .none := hd
    exact ⟨[], .of_eq (hb.2 cl pm cdv ct), fun y hy => by cases hy⟩
  | some i =>
    obtain ⟨T, rfl, hT⟩ := hd
    obtain ⟨n, rfl, hk⟩ := hb
    obtain ⟨k, k1, k2⟩ := hk cl pm cdv ct T
    obtain ⟨_, its, rv, o, ho, hc, m, hdt⟩ := (show ObjOk P w HZ s1.heap T (.tup [.int i]) from hok _ _ hT)
    obtain ⟨u, rfl, _⟩ := rv.one
    exact ⟨[(n, u)], .of_defaults rfl ho hdt k1 (k2 u), fun y hy => by rw [List.mem_singleton.mp hy]; exact hl n List.mem_cons_self⟩
theorem qe_act {CXg : CXT} {Eg : XK} {Ng : List Str} {qg : Str} {sg : Scope} {gg f c' : Addr} {cdg pm ctv dV : Value} {params : Arguments} {body : Expr} {scope : Scope} {ps : List Str} {d : Option Int} {k i n : Nat} {a : Str} {pn : List (Addr × Obj)} {xe : Value → Shared → Prop} {W : WX} {fb : MEX} {is : List Nat} {vs : List V} {p1 p2 lpos : Pos}
    (I : Inv X pins σ H s) (L : LamS2 X.env.scope scope ps) (hap : ∀ n ∈ ps, n ∉ X.N) (hf : s.heap.get? f = some (lamOb (X.env.qual ++ "<lambda>") params body scope (cloFrom X.env.cells scope.names []) pm (.ref c') ctv dV)) (hfn : H f = none) (hfr : f ∉ frs X.stack)
    (htab : ∃ ps1, H g.tp = some (.tbl ps1) ∧ TriplesOk ps1.toList ∧ codeAmong lpos ps1.toList = some (.ref c')) (hd : DefAt H d dV) (cv : CapV σ is vs) (hbind : LamBind (X.env.qual ++ "<lambda>") params body scope ps d)
    (tk : Takes ((cxOf CXg X.prog X.w X.K X.mg X.base Ng qg sg gg cdg X.A X.stack s H Eg).tr pn xe) W) (hr : Room (k + 1) (X.A.deeper (envOfC qg sg s.heap.objs.size gg cdg)))
    (hbody : ∀ (A : Around) (outer : List Env) (s : Shared) (H : Hp) (E : XK), Room k (A.deeper (LamX.lamEnv X scope s.heap.objs.size f c')) → PE (LamX.lamCx X A outer s H E scope f c') body (tX g (fun cls d _ H => E cls d H) fb))
    (hN : Ng[i]? = some a) (hv : Vis sg a) (hdb : (a == ("__debug__" : Str)) = false := by decide) (hcd : (a == ("__classdict__" : Str)) = false := by decide) :
    PE ((cxOf CXg X.prog X.w X.K X.mg X.base Ng qg sg gg cdg X.A X.stack s H Eg).tr pn xe) (.Call (.Name a p1) [] [] p2) (tX g W (eAct i n (X.env.qual ++ "<lambda>") f vs X.N.length is fb)) := by
  refine ⟨fun pinsZ sZ σZ HZ Q IZ h => ?_⟩
  obtain ⟨S, loc, ρ, r, S', A, R, e, post⟩ := h
  unfold eAct at e
  split at e
  · rename_i f' vs' ds q' hslot htb
    split at e
    · rename_i hc
      obtain ⟨rfl, rfl, rfl⟩ := hc
      obtain ⟨v0, hs0, r0⟩ := R.get i _ hslot
      cases r0 with
      | adr _ rs =>
      refine wpAny_Call_Name_kw (thn ((pe_var (pos := p1) (i := i) hN hv hdb hcd).run pinsZ sZ σZ HZ (fun v H1 => v = .ref f' ∧ H1 = HZ) IZ ⟨.ref f', hs0, rfl, rfl⟩) fun u s1 ⟨v, H1, I1, r1, q1⟩ => ?_)
      obtain ⟨rfl, rfl⟩ := q1
      cases (show u = Value.ref f' from r1)
      have un : Un (frs X.stack) [] H H1 s.heap s1.heap := I1.base
      have of1 := un.keep f' _ hf hfn hfr (by simp)
      obtain ⟨ps1, t1, t2, t3⟩ := htab
      obtain ⟨more, t4⟩ := un.tbls _ _ t1
      obtain ⟨e0, ps2, t5, t6, t7⟩ := A.ob n _ htb
      rw [e0, t4] at t5
      cases t5
      obtain ⟨c2, e2, hco, _⟩ := t7 lpos (.ref c') (by rw [Array.toList_append]; exact among_more _ t2 t3)
      cases e2
      obtain ⟨⟨oc, ws, t, hoc, hdc, hvc⟩, _, _⟩ := I1.hok c' _ hco
      have hd1 : DefAt H1 d dV := by
        cases d with
        | none => exact hd
        | some i => obtain ⟨T, e, hT⟩ := hd; exact ⟨T, e, un.tups _ _ hT⟩
      obtain ⟨binds, hbt, hbl⟩ := binds_to (cl := cloFrom X.env.cells scope.names []) (pm := pm) (cdv := .ref c') (ct := ctv) hbind hd1 I1.hok L.par
      refine PySem.W.callWith_F0 ⟨_, _, _, _, of1⟩ ?_
      have rc : codeAny (model X.prog X.w) (X.A.deeper (envOfC qg sg s.heap.objs.size gg cdg)) (.call (.ref f') ⟨[], []⟩) (CR (L2.CX X.prog X.w) (envOfC qg sg s.heap.objs.size gg cdg :: X.stack) X.prog X.w H1 s1 Q (fun cls d H' => W cls d σZ H')) s1 := by
        refine PySem.W.kla_callFunE hr.depth of1 rfl L.co L.gen rfl ⟨c', oc, ws, t, rfl, hoc, hdc, hvc⟩ (hbt _ _ _ _ ?_)
        refine wpAny_newFunctionEnv L.cell hbl (fun h₁ hns hsb => ⟨I1.nolimit.fresh _ hsb, ?_⟩) L.kind
        show codeAny _ _ (.expr body (LamX.lamEnv X scope s1.heap.objs.size f' c')) _ _
        have J := lam_in (f := f') (c' := c') (E := fun cls d H' => W cls d σZ H') (tk := s1.toks + binds.length) I L hap I1.env0 hr.hd un hns fun b o e => hsb.extBut b o (Nat.ne_of_lt (Heap.lt_size e)) (Heap.get?_push_of_some _ e)
        refine PySem.W.kla_codeExpr (wpAny_mono ((hbody _ _ s1 H1 _ (hr.deeper _)).run [] _ _ H1 Q J ⟨S, loc, capEn X.N.length is ds, r, S', A, ?_, e, ?_⟩) (fun v s' hq => ?_) fun e s' hq => hq)
        · rw [← I.len]; exact capEn_ren cv rs
        · cases r with
          | inl d => exact post
          | inr i => exact fun loc2 H2 cls dx A2 x2 _ ed => post loc2 H2 cls dx A2 x2 (R.ext A x2) ed
        · obtain ⟨w', H', J', rv, qq⟩ := hq
          exact ⟨w', H', J'.os, J'.bare, J'.base, J'.hok, rv, qq⟩
      refine wpAny_call (codeAny_mono rc fun r s' hq => ?_)
      cases r with
      | error er => exact tk _ _ (XE.of_call I1 (fun _ _ _ z => z) hq)
      | ok fl => cases fl with
        | ret u => exact I1.after hq
        | next => exact False.elim hq
        | brk => exact False.elim hq
        | cont => exact False.elim hq
    · cases e
  · cases e
/-- x(lambda: ..) -/
def tabIs (n : Nat) (q : Str) (S : S3) : Bool := match S.ob n with
  | some (.tab q') => decide (q' = q)
  | _ => false
def eWord (NL n : Nat) (q : Str) (is : List Nat) (wb : Addr → List V → MS) : ME := fun ρ S => if tabIs n q S then (capD ρ is).bind fun ds => fnM 1 NL (wb 0 []) [.adr 0 [] ds] S else none
theorem qe_word {x a : Str} {gg c : Addr} {k n : Nat} {pg : Arguments} {bg : List Stmt} {sg : Scope} {dV kV doc pm cdv ct oc : Value} {an od : Option Addr} {osl : Array (Option Value)} {Ng : List Str} {params : Arguments} {body : Expr} {scope : Scope} {ps : List Str} {d : Option Int} {fb : MEX} {is : List Nat} {wb : Addr → List V → MS} {p lpos pos p3 : Pos} {j}
    (hg : Gl X x) (hm : X.mg x = some (.ref gg)) (hk : PySem.W.keepIn X.K (.ref gg) = true) (lk : X.K.lookup gg = some ⟨oc, od, .func (PySem.W.fnOf x x pg bg sg dV kV doc pm an cdv ct), osl⟩) (hcg : PySem.W.codeIn X.K cdv x = true) (hb : L2.Binds X.K (PySem.W.fnOf x x pg bg sg dV kV doc pm an cdv ct) [a] [])
    (Sg : FnScope Ng [a] sg) (hNg : Ng[0]? = some a) (hva : Vis sg a) (TB : LamX.TabB X.base X.mg c g.tp) (hcode : X.env.code = .ref c) (hr : Room (k + 2) X.A) (L : LamS2 X.env.scope scope ps) (hap : ∀ n ∈ ps, n ∉ X.N)
    (hdef : defaultsOf params X.env = (match d with | none => [] | some i => [eval (.Constant (.int i) j p3) X.env], [])) (hkw : params.kwonlyargs = []) (hne : cloFrom X.env.cells scope.names [] ≠ []) (hbind : LamBind (X.env.qual ++ "<lambda>") params body scope ps d)
    (hbody : ∀ (A : Around) (outer : List Env) (s : Shared) (H : Hp) (E : XK) (f c' : Addr), Room k (A.deeper (LamX.lamEnv X scope s.heap.objs.size f c')) → PE (LamX.lamCx X A outer s H E scope f c') body (tX g (fun cls d _ H => E cls d H) fb))
    (hW : ∀ (f : Addr) (vs : List V) (s : Shared) (H : Hp), Room (k + 1) (X.A.deeper (envOfC x sg s.heap.objs.size gg cdv)) →
      (∀ (W : WX) (pn : List (Addr × Obj)) (xe : Value → Shared → Prop) (p1 p2 : Pos), Takes ((cxOf CX0 X.prog X.w X.K X.mg X.base Ng x sg gg cdv X.A X.stack s H E0).tr pn xe) W →
        PE ((cxOf CX0 X.prog X.w X.K X.mg X.base Ng x sg gg cdv X.A X.stack s H E0).tr pn xe) (.Call (.Name a p1) [] [] p2) (tX g W (eAct 0 n (X.env.qual ++ "<lambda>") f vs X.N.length is fb))) →
      PSs (cxOf CX0 X.prog X.w X.K X.mg X.base Ng x sg gg cdv X.A X.stack s H E0).nox bg (tS g (fun _ _ _ _ => False) (wb f vs)))
    (hind : ∀ (f : Addr) (vs : List V) (ds : List D) (S : S3), fnM 1 Ng.length (wb f vs) [.adr f vs ds] S = fnM 1 Ng.length (wb 0 []) [.adr 0 [] ds] S)
    (hdb : (x == ("__debug__" : Str)) = false := by decide) (hda : (a == ("__debug__" : Str)) = false := by decide) (hcd : (a == ("__classdict__" : Str)) = false := by decide) :
    PE X (.Call (.Name x p) [.Lambda params body scope lpos] [] pos) (tE g (eWord Ng.length n (X.env.qual ++ "<lambda>") is wb)) := by
  refine ⟨fun pins s σ H Q I h => ?_⟩
  obtain ⟨S, loc, ρ, z, S', A, R, e, post⟩ := h
  unfold eWord at e
  split at e
  case isFalse => cases e
  rename_i ht0
  have htb : S.ob n = some (.tab (X.env.qual ++ "<lambda>")) := by
    unfold tabIs at ht0
    split at ht0
    · rename_i q' hq; rw [of_decide_eq_true ht0] at hq; exact hq
    · cases ht0
  obtain ⟨ds, e1, e2⟩ := Option.bind_eq_some_iff.mp e
  obtain ⟨vs, cv, rs⟩ := cap_vals R e1
  refine wpAny_Call_Name_kw (ld_glob I hg hm ?_ hdb)
  refine PySem.W.callWith_K (h₀ := X.base) I.ok.mod.kin hk ?_ (by rfl) (by rfl)
  show wpAny _ _ (spliced ((false, eval (.Lambda params body scope lpos) X.env) :: backTo pos (starEach [] X.env))) _ _ s
  refine Calls.spliced_cons (lam_made I A htb TB hcode hdef hkw (L.has I.ok) hne fun f c' pm' ctv dV' H1 s' I1 A1 x1 hf hfn hfr htab hd => Calls.spliced_nil ⟨I1.kIn, ?_⟩)
  have rc : codeAny (model X.prog X.w) X.A (.call (.ref gg) ⟨[.ref f], []⟩) (CR CX0 X.stack X.prog X.w H1 s' Q E0) s' := by
    refine LamX.run_ofS (N := Ng) (ps := [a]) (us := [.ref f]) (vs := [.ref f]) lk hcg Sg hr I1.env0 (hb s' [.ref f] I1.kIn rfl) (.cons rfl .nil) rfl fun hr' => ?_
    have act := fun (W : WX) (pn : List (Addr × Obj)) (xe : Value → Shared → Prop) (p1 p2 : Pos) (tk : Takes ((cxOf CX0 X.prog X.w X.K X.mg X.base Ng x sg gg cdv X.A X.stack s' H1 E0).tr pn xe) W) =>
      qe_act (n := n) (i := 0) (p1 := p1) (p2 := p2) I1 L hap hf hfn hfr htab hd cv hbind tk hr' (fun A outer s H E hr2 => hbody A outer s H E f c' hr2) hNg hva hda hcd
    refine ⟨_, (hW f vs s' H1 hr' act).nox, ?_⟩
    rw [← hind f vs ds S] at e2
    unfold fnM at e2
    rw [if_pos (by rfl)] at e2
    obtain ⟨⟨fl, ρ', S1⟩, e3, e4⟩ := Option.bind_eq_some_iff.mp e2
    refine ⟨S, loc, _, fl, ρ', S1, A1, start_env (n := 1) rfl (.cons (.adr f (rs.ext A x1)) .nil), e3, ?_⟩
    cases fl with
    | nx =>
      simp only [Option.some.injEq, Prod.mk.injEq] at e4
      obtain ⟨rfl, rfl⟩ := e4
      exact fun σ' loc' H' A' x' _ => post _ loc' H' A' (x1.trans x') .non
    | rt d =>
      simp only [Option.some.injEq, Prod.mk.injEq] at e4
      obtain ⟨rfl, rfl⟩ := e4
      exact fun v loc' H' A' x' r' => post v loc' H' A' (x1.trans x') r'
    | bk => cases e4
    | ct => cases e4
    | ex i => cases e4
  refine wpAny_call (codeAny_mono rc fun r s2 hq => ?_)
  cases r with
  | error e => exact (show False from hq).elim
  | ok fl => cases fl with
    | ret u => exact I1.after hq
    | next => exact False.elim hq
    | brk => exact False.elim hq
    | cont => exact False.elim hq
end
end G3
set_option maxHeartbeats 4000000
/-! G3: except HiveError as e: what the exception is, its number. -/
namespace G3
open PySem PySem.Spec PySem.Calls PySem.W PyProof.Rows

section
variable {prog : Program} {w : World} {A : Around} {E : Value → Shared → Prop} {s : Shared} {K : Frag} {x D : Addr} {ox : Obj} {od : Option Obj}
/-- e.__class__, e of an own exception class, its dict as od says -/
theorem exc_class {Q : Option Value → Shared → Prop} (C : L2.ExcC K D) (hf : findObj K D od "__class__" = some (.bind (.builtin "getset_descriptor.__get__") (.builtin "object.__class__"))) (X : K.In s.heap) (I : InstAt s.heap x ox D od)
    (h : Q (some (.ref D)) { s with toks := s.toks + 1 }) : wpAny (model prog w) A (getAttr? (.ref x) "__class__") Q E s := by
  obtain ⟨hp, g, d, t, os⟩ := s
  have T0 := I.type (M := model prog w)
  have T1 := looks_findIn (M := model prog w) X C.hg
  have T2 := looks_findIn (M := model prog w) X C.hk
  have T3 := looks_find (M := model prog w) X I hf
  have ne : (Value.builtin "BaseException.__getattribute__" == Value.builtin "object.__getattribute__") = false := by decide +kernel
  unfold getAttr? getAttrBy? getAttrBy
  refine wpAny_bind (wpAny_mkText (wpAny_bind (wpAny_attempt (wpAny_holding (wpAny_bind (T0.at (wpAny_bind (T1.at ?_))))))))
  show wpAny _ _ (if (onTheHeap (Value.ref D) && Value.builtin "BaseException.__getattribute__" == Value.builtin "object.__getattribute__") = true then _ else _) _ _ _
  rw [ne, Bool.and_false, if_neg Bool.false_ne_true]
  unfold getAttrByItsOwn hookBefore
  refine wpAny_bind ?_
  rw [if_pos (show onTheHeap (.ref D) = true from rfl)]
  refine T2.at (wpAny_bind (wpAny_attempt (wpAny_holding ?_)))
  unfold callGetattribute
  rw [show (false && onTheHeap (.builtin "BaseException.__getattribute__")) = false from rfl, if_neg Bool.false_ne_true]
  unfold boundAndCalled
  rw [F.excAttr_ValueError.ga.bind (.ref x)]
  refine wpAny_bind (wpAny_pure ?_)
  show wpAny _ _ (call (.builtin "BaseException.__getattribute__") [.ref x, .str "__class__" t]) _ _ _
  refine wpAny_call (codeAny_call_builtin F.excAttr_ValueError.ga.plain F.entry_bexc_ga (@check_slot (model prog w) _ _ ⟨hp, g, d, t + 1, os⟩ "BaseException.__getattribute__" "BaseException" "__getattribute__" (.ref x) [.str "__class__" t] [] _
    (by decide +kernel) (by decide +kernel) (T0.andThen (looks_subIn X C.hs)) (F.args_bexc_ga (.ref x) (.str "__class__" t)) ?_))
  unfold Builtin.«object.__getattribute__»
  refine wpAny_bind (wpAny_of_eq (a := ((Value.ref x : Value), [Value.str "__class__" t])) (by first | rfl | (simp only [slotArgs]; rfl)) (wpAny_bind (wpAny_pure (wpAny_bind (T0.at (wpAny_bind (T3.at ?_)))))))
  show wpAny _ _ (holding [Value.builtin "object.__class__"] (call (.builtin "getset_descriptor.__get__") [.builtin "object.__class__", .ref x, .ref D]) >>= ret) _ _ _
  refine wpAny_bind (wpAny_holding (wpAny_call (class_get (s := ⟨hp, g, d, t + 1, os⟩) (ox := ox) (od := od) X I C.hm (wpAny_pure ?_))))
  show wpAny _ _ (handedOut (.ref D)) _ _ _
  rw [handedOut_of (v := .ref D) rfl]
  first
    | exact wpAny_pure (wpAny_pure h)
    | exact wpAny_pure h
    | exact wpAny_pure (wpAny_bind (wpAny_pure (wpAny_pure h)))
theorem exc_kit (C : L2.ExcC K D) (hf : findObj K D od "__class__" = some (.bind (.builtin "getset_descriptor.__get__") (.builtin "object.__class__"))) : KitX K (.ref x) (.ref D) (fun h => InstAt h x ox D od) where
  ty := fun _ _ _ I => I.type
  it := fun _ _ X _ => by
    obtain ⟨cd, hc, _⟩ := any_some C.hd
    unfold clsIn at hc
    split at hc
    · rename_i ho
      intro A' Q' E' s' k q
      unfold isType loadHead
      exact wpAny_bind (wpAny_loadPart (k _ _ (X _ _ ho)) (wpAny_pure q))
    · cases hc
  ne := fun h tp dd its n sl X htp => by
    obtain ⟨cd, hc, _⟩ := any_some C.hd
    refine Bool.eq_false_iff.mpr fun q => ?_
    cases (Value.ref.inj (beq_iff_eq.mp q) : D = tp)
    unfold clsIn at hc
    split at hc
    · rename_i ho
      cases (X _ _ ho).symm.trans htp
    · cases hc
  ca := fun X I k => exc_class C hf X I k
end
end G3

namespace G3
open PySem PySem.Spec PyProof.Rows L2
/-- isinstance(e, C), e.number: e the exception at a, its dict at dd -/
def eIsE (i : Nat) (a dd : Addr) (b : Bool) : ME := fun ρ S => match ρ[i]? with
  | some (some (.adr a' vs [.exn _])) => if a' = a ∧ vs = [.ref dd] then some (.bl b, S) else none
  | _ => none
def eNum (i : Nat) (a dd : Addr) : ME := fun ρ S => match ρ[i]? with
  | some (some (.adr a' vs [.exn k])) => if a' = a ∧ vs = [.ref dd] then some (.int k, S) else none
  | _ => none
def sTry (i n : Nat) (sb : MS) (ss : Addr → Addr → MS) : MS := fun ρ S => (sb ρ S).bind fun r => match r.1 with
  | .ex k => if r.2.1.length = n then (ss 0 0 (r.2.1.set i (some (.adr 0 [.ref 0] [.exn k]))) r.2.2).bind fun q => match q.1 with
    | .rt d => some (.rt d, q.2.1, q.2.2)
    | _ => none else none
  | _ => some r
section
variable {X : Cx} {g : G} {W : WX} {a dd : Addr} {oe : Obj} {pn : List (Addr × Obj)}
theorem call_isX (C : ExcC X.K g.bt) (hsome : (PySem.W.clsIn X.K g.bt).isSome = true) (hz : Zc (.ref g.bt) (some dd) oe) (hf : ∃ vs, oe.data = .fields vs) :
    CallR (X.suite a ((a, oe) :: pn)) (.builtin "isinstance") (fun xs H Q => (∃ fs, H dd = some (.xd fs)) ∧ rIsE X.K g.bt a xs H Q) := by
  intro pins s σ H xs us Q I r h
  obtain ⟨⟨fs, hx⟩, c, cv, b, rfl, hcv, e, q⟩ := h
  cases r with
  | cons rx rr => cases rr with
    | cons rt rr =>
      cases rr
      cases rx
      cases hcv _ rt
      obtain ⟨hget, _⟩ := I.pin (a, oe) (List.mem_append.mpr (.inl List.mem_cons_self))
      obtain ⟨vs, hv⟩ := hf
      obtain ⟨mA, ⟨od, es, ep, ho, _⟩, _⟩ := (show ObjOk X.prog X.w H s.heap dd (.xd fs) from I.hok dd _ hx)
      have J : PySem.W.InstAt s.heap a oe g.bt (some od) := ⟨hget, hz.1, by unfold PySem.W.notCls; rw [hv] <;> rfl, by rw [hz.2]; exact ho⟩
      exact PySem.W.kia_one (exc_kit C (PySem.W.findObj_data hsome C.ha C.hn C.ht)) I.kIn J e (fun z => nomatch z) fun tk => ⟨.bl b, H, I.kept (t' := tk) fun _ _ z => z, rfl, q⟩
theorem exn_slot {S : S3} {loc : Loc} {H : Hp} {ρ : En} {σ : L2.St} {i : Nat} {b : Bool} {z : D × S3} (R : REn g S loc H ρ σ) (e : eIsE i a dd b ρ S = some z) : σ[i]? = some (some (.ref a)) ∧ (∃ fs, H dd = some (.xd fs)) ∧ z = (.bl b, S) := by
  unfold eIsE at e
  split at e
  · rename_i a' vs k hs
    split at e
    · rename_i hc
      obtain ⟨rfl, rfl⟩ := hc
      obtain ⟨v, h1, r⟩ := R.get i _ hs
      cases r with
      | adr _ rs => cases rs with
        | cons r1 _ => cases r1 with
          | exn h _ _ => exact ⟨h1, ⟨_, h⟩, (Option.some.inj e).symm⟩
    · cases e
  · cases e
theorem qe_isE {ce : Expr} {cV : V} {cv : Value} {x n : Str} {i : Nat} {b : Bool} {p p2 pos : Pos} (C : ExcC X.K g.bt) (hsome : (PySem.W.clsIn X.K g.bt).isSome = true) (hz : Zc (.ref g.bt) (some dd) oe) (hf : ∃ vs, oe.data = .fields vs)
    (hg : Gl (X.suite a ((a, oe) :: pn)) x) (hm : X.mg x = none) (hv : bootBuiltins x = some (.builtin "isinstance")) (hN : X.N[i]? = some n) (hV : Vis X.env.scope n) (hc : PE (X.suite a ((a, oe) :: pn)) ce (tC cV)) (hcv : ∀ u, L2.RelV cV u → u = cv) (hk : PySem.W.kitOne X.K (.ref g.bt) cv = some b)
    (he1 : starEach (.Name n p2 :: [ce]) X.env = (false, eval (.Name n p2) X.env) :: starEach [ce] X.env := by rfl) (he2 : starEach (ce :: []) X.env = (false, eval ce X.env) :: starEach [] X.env := by rfl)
    (hn : x ≠ "__name__" := by decide) (hdb : (x == ("__debug__" : Str)) = false := by decide) (hd : (n == ("__debug__" : Str)) = false := by decide) (hcd : (n == ("__classdict__" : Str)) = false := by decide) (hpl : (backTo pos (starEach [ce] X.env)).any (·.1) = false := by rfl) :
    PE (X.suite a ((a, oe) :: pn)) (.Call (.Name x p) [.Name n p2, ce] [] pos) (tE g (eIsE i a dd b)) := by
  refine PE.imp (pe_callB (X := X.suite a ((a, oe) :: pn)) (call_isX C hsome hz hf) hg hm hv (pa_cons (pe_var (i := i) hN hV hd hcd) (pa_cons hc pa_nil he2) he1) hn hdb he1 hpl) fun σ H Q h => ?_
  obtain ⟨S, loc, ρ, z, S', A, R, e, q⟩ := h
  obtain ⟨h1, h2, h3⟩ := exn_slot R e
  cases h3
  exact ⟨.ref a, h1, h2, cV, cv, b, rfl, hcv, hk, q _ loc H A .refl (.bl b)⟩
theorem qe_num {e : Expr} {n : Str} {i : Nat} {p2 pos : Pos} (T : XfC X.K g.bt) (hno : PySem.W.findIn X.K (.ref g.bt) "number" = some none) (hz : Zc (.ref g.bt) (some dd) oe) (hf : ∃ vs, oe.data = .fields vs) (hN : X.N[i]? = some n) (hV : Vis X.env.scope n)
    (hd : (n == ("__debug__" : Str)) = false := by decide) (hcd : (n == ("__classdict__" : Str)) = false := by decide) (hb : attributeBase (.Name n p2) "number" X.env (eval (.Name n p2) X.env) = eval (.Name n p2) X.env := by rfl) :
    PE (X.suite a ((a, oe) :: pn)) (.Attribute (.Name n p2) "number" pos) (tE g (eNum i a dd)) := by
  refine PE.imp (pe_xf T hno hz hf (pe_var (i := i) hN hV hd hcd) hb) fun σ H Q h => ?_
  obtain ⟨S, loc, ρ, z, S', A, R, e, q⟩ := h
  unfold eNum at e
  split at e
  · rename_i a' vs k hs
    split at e
    · rename_i hc
      obtain ⟨rfl, rfl⟩ := hc
      obtain ⟨v, h1, r⟩ := R.get i _ hs
      cases e
      cases r with
      | adr _ rs => cases rs with
        | cons r1 _ => cases r1 with
          | exn h l _ => exact ⟨_, h1, rfl, rfl, dd, _, _, rfl, h, l, q _ loc H A .refl (.int k)⟩
    · cases e
  · cases e
theorem qs_try {x n : Str} {c : Value} {i : Nat} {body suite : List Stmt} {b₀ : Stmt} {np pos pos' : Pos} {sb : MS} {ss : Addr → Addr → MS} (hs : X.stack = X.env :: X.outer) (hf : X.env.frame = some X.env.locals) (hN : X.N.Nodup) (hi : X.N[i]? = some n) (hln : X.env.kindOf n = some .local)
    (hc : Names X x c) (tk : Takes X W) (hyes : PySem.W.exmOne X.K (.ref g.bt) c = some true)
    (hb : ∀ (W' : WX) (pn : List (Addr × Obj)) (xe : Value → Shared → Prop), Takes (X.tr pn xe) W' → PassesOwn (model X.prog X.w) X.A X.env xe → PSs (X.tr pn xe) body (tS g W' sb))
    (hsu : ∀ (a dd : Addr) (oe : Obj) (pn : List (Addr × Obj)), Zc (.ref g.bt) (some dd) oe → (∃ vs, oe.data = .fields vs) → PSs (X.suite a ((a, oe) :: pn)) (b₀ :: suite) (tS g (fun _ _ _ _ => False) (ss a dd)))
    (hind : ∀ (a dd : Addr) (k : Int) (ρ : En) (S : S3), ρ.length = X.N.length → (ss a dd (ρ.set i (some (.adr a [.ref dd] [.exn k]))) S).map (fun q => (q.1, q.2.2)) = (ss 0 0 (ρ.set i (some (.adr 0 [.ref 0] [.exn k]))) S).map fun q => (q.1, q.2.2)) :
    PS X (.Try body [.ExceptHandler (some (.Name x np)) (some n) (b₀ :: suite) pos'] [] [] pos) (tS g W (sTry i X.N.length sb ss)) := by
  refine PS.imp (ps_try_as (tb := fun W' => tS g W' sb) (ts := fun a cls d D σ H => cls = .ref g.bt ∧ ∃ dd, d = some dd ∧ tS g (fun _ _ _ _ => False) (ss a dd) D σ H) hs hf hN hi hln hc tk hb (fun a oe cls d pn hz hf => ⟨fun pins s σ H D I h => ?_⟩)) fun D σ H h => ?_
  · obtain ⟨rfl, dd, rfl, h⟩ := h
    exact (hsu a dd oe pn hz hf).run pins s σ H D I h
  · obtain ⟨S, loc, ρ, fl, ρ', S', A, R, e, q⟩ := h
    unfold sTry at e
    obtain ⟨⟨f1, ρ1, S1⟩, e1, e2⟩ := Option.bind_eq_some_iff.mp e
    refine ⟨S, loc, ρ, f1, ρ1, S1, A, R, e1, ?_⟩
    cases f1 with
    | nx => cases e2; exact q
    | bk => cases e2; exact q
    | ct => cases e2; exact q
    | rt d => cases e2; exact q
    | ex k =>
      simp only at e2
      split at e2
      · rename_i hlen
        obtain ⟨⟨f2, ρ2, S2⟩, e3, e4⟩ := Option.bind_eq_some_iff.mp e2
        simp only at e4
        split at e4
        · rename_i d
          cases e4
          intro σ' loc1 H1 cls dx A1 x1 R1 ed
          obtain ⟨rfl, dd, fs, rfl, hx, hl, nl⟩ := ed
          refine ⟨true, hyes, fun _ a ha => ⟨rfl, dd, rfl, ?_⟩, fun z => by cases z⟩
          have hq := hind a dd k ρ1 S1 hlen
          rw [e3] at hq
          obtain ⟨⟨f3, ρ3, S3'⟩, e5, e6⟩ := Option.map_eq_some_iff.mp hq
          simp only [Prod.mk.injEq] at e6
          obtain ⟨rfl, rfl⟩ := e6
          exact ⟨S1, loc1, _, _, ρ3, _, A1, R1.set (.adr a (.cons (.exn hx hl nl) .nil)) i, e5, fun v loc2 H2 A2 x2 r2 => q v loc2 H2 A2 (x1.trans x2) r2⟩
        · cases e4
      · cases e2
end

/-! ### count, index of lists of data -/
def kCountL : D → List D → M D := fun o ds S => match ds with
  | [d] => match pyOf S o, pyOf S d with
    | some (.list ps), some p => if PyData.plainAll ps && (p.plain && decide (PyData.depthAll ps ≤ 8)) then some (.int ((ps.countP fun y => PyData.eqv y p : Nat) : Int), S) else none
    | _, _ => none
  | _ => none
def kIndexL : D → List D → M D := fun o ds S => match ds with
  | [d] => match pyOf S o, pyOf S d with
    | some (.list ps), some p => if SeqAt.shaped (.list ps) && SeqAt.shaped p then (ps.findIdx? fun z => PyData.eqv z p).map fun j => (.int (j : Nat), S) else none
    | _, _ => none
  | _ => none
section
variable {X : Cx} {g : G}
theorem mt_CountL (hK : X.K = g.K) (hu : X.A.units + 64 < cLine) : MtR X "list.count" (rKm g kCountL) := by
  intro pins s σ H x xs v us Q I rx rxs h
  obtain ⟨S, loc, d, ds, z, S', A, r, rs, ek, q⟩ := h
  unfold kCountL at ek
  split at ek
  · rename_i d1
    split at ek
    · rename_i ps p h1 h2
      split at ek
      · rename_i hc
        simp only [Bool.and_eq_true, decide_eq_true_eq] at hc
        cases ek
        obtain ⟨y, rfl, r1⟩ := rs.one_inv
        obtain ⟨u, rfl, ru⟩ := rxs.one
        have dl : Dp X.K H x (.list ps) := by rw [hK]; exact pyOf_dp A r h1
        have dy : Dp X.K H y p := by rw [hK]; exact pyOf_dp A r1 h2
        obtain ⟨bs, rb⟩ := Dp.reads I p y u dy ru
        cases dl with
        | @lst p0 _ _ hs ha =>
          cases (show v = Value.ref p0 from rx)
          obtain ⟨its, rv, pl, hz⟩ := I.list hs
          obtain ⟨as, ra⟩ := Dp.readsAll I ps _ its ha rv
          refine SeqAt.count_list_data pl.isList (by simpa using ra) rb hc.1 hc.2.1 ?_ ⟨.int _, H, I.tok _, ⟨_, rfl⟩, q _ loc H A .refl (.int _)⟩
          have := Nat.min_le_left (PyData.depthAll ps) p.depth
          omega
      · cases ek
    · cases ek
  · cases ek
theorem mt_IndexL (hK : X.K = g.K) (hu : X.A.units + 128 < cLine) : MtR X "list.index" (rKm g kIndexL) := MtR.imp (mt_indexD (by omega)) fun x xs H Q h => by
  obtain ⟨S, loc, d, ds, z, S', A, r, rs, ek, q⟩ := h
  unfold kIndexL at ek
  split at ek
  · rename_i d1
    split at ek
    · rename_i ps p h1 h2
      split at ek
      · rename_i hc
        rw [Bool.and_eq_true] at hc
        obtain ⟨j, hj, ez⟩ := Option.map_eq_some_iff.mp ek
        cases ez
        obtain ⟨y, rfl, r1⟩ := rs.one_inv
        have dl : Dp X.K H x (.list ps) := by rw [hK]; exact pyOf_dp A r h1
        have dy : Dp X.K H y p := by rw [hK]; exact pyOf_dp A r1 h2
        obtain ⟨hlt, hyes, hno⟩ := List.findIdx?_eq_some_iff_getElem.mp hj
        have dl0 := dl
        cases dl with
        | @lst p0 _ _ hs ha =>
          refine ⟨p0, y, p, ps, j, ps[j], rfl, rfl, dl0, dy, hc.1, hc.2, List.getElem?_eq_getElem hlt, hyes, fun m z' hm hz => ?_, q _ loc H A .refl (.int _)⟩
          have hm' : m < ps.length := Nat.lt_trans hm hlt
          rw [List.getElem?_eq_getElem hm'] at hz
          cases hz
          simpa using hno m hm
      · cases ek
    · cases ek
  · cases ek
end
end G3
set_option maxHeartbeats 4000000
/-! G3: >= of tuples, isinstance of data, while. -/
namespace G3
open PySem PySem.Spec PySem.W PyProof.Rows L2

def kGeD : D → D → M D := fun d e S => match toPy (fun _ => none) d, toPy (fun _ => none) e with
  | some p, some q => if isT d && (alike p q && decide (p.depth ≤ 50)) then some (.bl (!dataLt p q), S) else none
  | _, _ => none
def tyD (S : S3) : D → Option String
  | .non => some "NoneType"
  | .bl _ => some "bool"
  | .int _ => some "int"
  | .str _ => some "str"
  | .tup _ => some "tuple"
  | .lst _ => some "list"
  | .scr _ => some "list"
  | .ref n => match S.ob n with
    | some (.lst _) => some "list"
    | some (.dic _) => some "dict"
    | _ => none
  | _ => none
def kIsi (T : String) : D → M D := fun d S => (tyD S d).bind fun t => (kitB t T).map fun b => (.bl b, S)
def kIsi2 (T U : String) : D → M D := fun d S => (tyD S d).bind fun t => (kitB t T).bind fun b => (kitB t U).map fun c => (.bl (b || c), S)
/-- while c: b, at most k times -/
def whileM (c : MB) (b : MS) : Nat → MS
  | 0 => fun _ _ => none
  | k + 1 => fun ρ S => (c ρ S).bind fun r => if r.1 then (b ρ r.2).bind fun q => match q.1 with
    | .nx => whileM c b k q.2.1 q.2.2
    | .ct => whileM c b k q.2.1 q.2.2
    | .bk => some (.nx, q.2.1, q.2.2)
    | .rt v => some (.rt v, q.2.1, q.2.2)
    | .ex v => some (.ex v, q.2.1, q.2.2) else some (.nx, ρ, r.2)
section
variable {X : Cx} {g : G} {W : WX}
theorem op_GeD (hK : X.K = g.K) (hu : X.A.units + 64 < cLine) : OpR X (compareOp .GtE) (rK2 g kGeD) := by
  intro pins s σ H x y v u Q I rx ry h
  obtain ⟨S, loc, d, e, z, S', A, r1, r2, ek, q⟩ := h
  unfold kGeD at ek
  split at ek
  · rename_i p p2 h1 h2
    split at ek
    · rename_i hc
      simp only [Bool.and_eq_true, decide_eq_true_eq] at hc
      cases ek
      have d1 : Dp X.K H x p := by rw [hK]; exact toPy_dp (rf := fun _ => none) (fun _ _ z => by cases z) r1 h1
      have d2 : Dp X.K H y p2 := by rw [hK]; exact toPy_dp (rf := fun _ => none) (fun _ _ z => by cases z) r2 h2
      obtain ⟨as, ra⟩ := Dp.reads I p x v d1 rx
      obtain ⟨bs, rb⟩ := Dp.reads I p2 y u d2 ry
      refine ge_data ra rb hc.2.1 (fun z => ?_) ?_ ⟨.bl _, H, I, rfl, q _ loc H A .refl (.bl _)⟩
      · subst z
        cases d with
        | tup l => simp only [toPy] at h1; obtain ⟨ps, _, h3⟩ := Option.map_eq_some_iff.mp h1; cases h3
        | _ => cases hc.1
      · have := Nat.min_le_left p.depth p2.depth
        omega
    · cases ek
  · cases ek
/-! ### isinstance -/
theorem tyD_ok {S : S3} {loc : Loc} {H : Hp} {d : D} {v : V} {t : String} (A : Abs g S loc H) (r : Rep g S loc H d v) (h : tyD S d = some t) : TyX g.K H v (.type t) := by
  unfold tyD at h
  split at h
  · cases h; cases r; exact .base .non
  · cases h; cases r; exact .base (.bl _)
  · cases h; cases r; exact .base (.int _)
  · cases h; cases r; exact .base (.str _)
  · cases h; cases r with | tup h1 _ => exact .base (.tup h1)
  · cases h; cases r with | lst h1 _ _ => exact .base (.lst h1)
  · cases h
    cases r with
    | scr h1 _ _ => rcases h1 with h1 | ⟨o, h1⟩
                    · exact .base (.lst h1)
                    · exact .base (.frz h1)
    | kscr h1 _ => obtain ⟨o, its, n, a1, a2, _⟩ := h1; exact .kList a1 a2
  · split at h
    · rename_i e
      cases h
      cases r with
      | ref _ => obtain ⟨xs, h1, _⟩ := A.ob _ _ e; exact .base (.lst h1)
    · rename_i e
      cases h
      cases r with
      | ref _ => obtain ⟨xs, h1, _⟩ := A.ob _ _ e; exact .base (.dT h1)
    · cases h
  · cases h
theorem qe_isi {x : Str} {e ce : Expr} {fe : ME} {p pos : Pos} {T : String} (hK : X.K = g.K) (hg : Gl X x) (hm : X.mg x = none) (hv : bootBuiltins x = some (.builtin "isinstance")) (he : PE X e (tE g fe)) (hc : PE X ce (tC (.ty T)))
    (he1 : starEach (e :: [ce]) X.env = (false, eval e X.env) :: starEach [ce] X.env := by rfl) (he2 : starEach (ce :: []) X.env = (false, eval ce X.env) :: starEach [] X.env := by rfl)
    (hn : x ≠ "__name__" := by decide) (hdb : (x == ("__debug__" : Str)) = false := by decide) (hpl : (backTo pos (starEach [ce] X.env)).any (·.1) = false := by rfl) :
    PE X (.Call (.Name x p) [e, ce] [] pos) (tE g (op1 (kIsi T) fe)) :=
  PE.imp (pe_callB call_isi hg hm hv (pa_cons he (pa_cons hc pa_nil he2) he1) hn hdb he1 hpl) fun σ H Q h => by
    obtain ⟨S, loc, ρ, d, S1, A, R, e1, q⟩ := red1 h
    refine ⟨S, loc, ρ, d, S1, A, R, e1, fun v loc1 H1 A1 x1 r1 => ?_⟩
    obtain ⟨S2, loc2, d2, z, S3', A2, r2, ek, q2⟩ := q v loc1 H1 A1 x1 r1
    unfold kIsi at ek
    obtain ⟨t, h1, h2⟩ := Option.bind_eq_some_iff.mp ek
    obtain ⟨b, h3, h4⟩ := Option.map_eq_some_iff.mp h2
    cases h4
    exact ⟨v, .ty T, .type t, .type T, b, rfl, .ty T, by rw [hK]; exact tyD_ok A2 r2 h1, kit_ty h3, q2 _ loc2 H1 A2 .refl (.bl b)⟩
theorem qe_isi2 {x : Str} {e c1 c2 : Expr} {fe : ME} {p pos tpos : Pos} {k : Nat} {T U : String} (hK : X.K = g.K) (hg : Gl X x) (hm : X.mg x = none) (hv : bootBuiltins x = some (.builtin "isinstance")) (he : PE X e (tE g fe)) (h1 : PE X c1 (tC (.ty T))) (h2 : PE X c2 (tC (.ty U)))
    (he1 : starEach (e :: [Expr.Tuple [c1, c2] k tpos]) X.env = (false, eval e X.env) :: starEach [Expr.Tuple [c1, c2] k tpos] X.env := by rfl) (he2 : starEach (Expr.Tuple [c1, c2] k tpos :: []) X.env = (false, eval (Expr.Tuple [c1, c2] k tpos) X.env) :: starEach [] X.env := by rfl)
    (he3 : starEach (c1 :: [c2]) X.env = (false, eval c1 X.env) :: starEach [c2] X.env := by rfl) (he4 : starEach (c2 :: []) X.env = (false, eval c2 X.env) :: starEach [] X.env := by rfl)
    (hn : x ≠ "__name__" := by decide) (hdb : (x == ("__debug__" : Str)) = false := by decide) (hpl : (backTo pos (starEach [Expr.Tuple [c1, c2] k tpos] X.env)).any (·.1) = false := by rfl) :
    PE X (.Call (.Name x p) [e, .Tuple [c1, c2] k tpos] [] pos) (tE g (op1 (kIsi2 T U) fe)) :=
  PE.imp (pe_callB call_isiT hg hm hv (pa_cons he (pa_cons (pe_tup (pa_cons h1 (pa_cons h2 pa_nil he4) he3)) pa_nil he2) he1) hn hdb he1 hpl) fun σ H Q h => by
    obtain ⟨S, loc, ρ, d, S1, A, R, e1, q⟩ := red1 h
    refine ⟨S, loc, ρ, d, S1, A, R, e1, fun v loc1 H1 A1 x1 r1 => ⟨by simp [sizeLine_eq], fun tp htp => ?_⟩⟩
    have xs := ext_same A1 (o := .tup [.ty T, .ty U]) htp
    have As := A1.same (o := .tup [.ty T, .ty U]) htp
    obtain ⟨S2, loc2, d2, z, S3', A2, r2, ek, q2⟩ := q v loc1 _ As (x1.trans xs) (r1.ext A1 xs)
    unfold kIsi2 at ek
    obtain ⟨t, h1, h2⟩ := Option.bind_eq_some_iff.mp ek
    obtain ⟨b, h3, h4⟩ := Option.bind_eq_some_iff.mp h2
    obtain ⟨c, h5, h6⟩ := Option.map_eq_some_iff.mp h4
    cases h6
    refine ⟨v, tp, [.ty T, .ty U], .type t, [.type T, .type U], b || c, rfl, upd_same, .cons (.ty T) (.cons (.ty U) .nil), by rw [hK]; exact tyD_ok A2 r2 h1, ?_, q2 _ loc2 _ A2 .refl (.bl _)⟩
    refine kitAny_cons (kit_ty h3) (fun hb => kitAny_cons (kit_ty h5) (fun hc => ?_) fun hc => ?_) fun hb => ?_
    · rw [kitAny_nil, hb, hc]; rfl
    · rw [hb, hc]; rfl
    · rw [hb]; rfl

/-! ### while -/
theorem qs_while {c : Expr} {body : List Stmt} {fc : MB} {fb : MS} {k : Nat} {pos : Pos} (hp : PassesOwn (model X.prog X.w) X.A X.env X.xe) (hc : PT X c (tB g fc)) (hb : PSs X body (tS g W fb)) : PS X (.While c body [] pos) (tS g W (whileM fc fb k)) :=
  PS.imp (ps_while hp hc hb) fun D σ H h => by
    obtain ⟨S0, loc0, ρ0, fl, ρ', S', A0, R0, e0, q⟩ := h
    refine ⟨fun m σ H2 => ∃ S2 loc2 ρ2, Abs g S2 loc2 H2 ∧ Ext S0 loc0 H S2 loc2 H2 ∧ REn g S2 loc2 H2 ρ2 σ ∧ whileM fc fb m ρ2 S2 = some (fl, ρ', S'), ⟨k, S0, loc0, ρ0, A0, .refl, R0, e0⟩, ?_⟩
    rintro m σ2 H2 ⟨S2, loc2, ρ2, A2, x2, R2, e2⟩
    cases m with
    | zero => cases e2
    | succ m =>
      unfold whileM at e2
      obtain ⟨⟨b, S3'⟩, e3, e4⟩ := Option.bind_eq_some_iff.mp e2
      refine ⟨S2, loc2, ρ2, b, S3', A2, R2, e3, fun loc3 H3 A3 x3 => ?_⟩
      cases b with
      | false =>
        rw [if_neg Bool.false_ne_true]
        simp only [Bool.false_eq_true, if_false] at e4
        cases e4
        exact q σ2 loc3 H3 A3 (x2.trans x3) (R2.ext A2 x3)
      | true =>
        rw [if_pos rfl]
        simp only [if_true] at e4
        obtain ⟨⟨f1, ρ4, S4⟩, e5, e6⟩ := Option.bind_eq_some_iff.mp e4
        refine ⟨fun σ' H' => ∃ S2 loc2 ρ2, Abs g S2 loc2 H' ∧ Ext S0 loc0 H S2 loc2 H' ∧ REn g S2 loc2 H' ρ2 σ' ∧ whileM fc fb m ρ2 S2 = some (fl, ρ', S'), fun σ' H' n => ⟨m, Nat.lt_succ_self m, n⟩, ?_⟩
        refine ⟨S3', loc3, ρ2, f1, ρ4, S4, A3, R2.ext A2 x3, e5, ?_⟩
        cases f1 with
        | nx => exact fun σ5 loc5 H5 A5 x5 R5 => ⟨S4, loc5, ρ4, A5, (x2.trans x3).trans x5, R5, e6⟩
        | ct => exact fun σ5 loc5 H5 A5 x5 R5 => ⟨S4, loc5, ρ4, A5, (x2.trans x3).trans x5, R5, e6⟩
        | bk => cases e6; exact fun σ5 loc5 H5 A5 x5 R5 => q σ5 loc5 H5 A5 ((x2.trans x3).trans x5) R5
        | rt v => cases e6; exact fun w loc5 H5 A5 x5 r5 => q w loc5 H5 A5 ((x2.trans x3).trans x5) r5
        | ex v => cases e6; exact fun σ5 loc5 H5 cls dx A5 x5 R5 ed => q σ5 loc5 H5 cls dx A5 ((x2.trans x3).trans x5) R5 ed
/-- a, b, c = x, y, z -/
def sPar3 (i j l : Nat) (as : MA) : MS := fun ρ S => (as ρ S).bind fun r => match r.1 with
  | [a, b, c] => some (.nx, ((ρ.set i (some a)).set j (some b)).set l (some c), r.2)
  | _ => none
theorem qs_par3 {i j l : Nat} {x y z : Str} {a b c : Expr} {as : MA} {px py pz pt pos : Pos} {kt k2 pt2} (hc : X.calm = true) (hN : X.N.Nodup) (hi : X.N[i]? = some x) (hj : X.N[j]? = some y) (hl : X.N[l]? = some z) (hij : i ≠ j) (hil : i ≠ l) (hjl : j ≠ l)
    (hx : X.env.scope.names.lookup x = some .local) (hy : X.env.scope.names.lookup y = some .local) (hz : X.env.scope.names.lookup z = some .local) (ha : PA X [a, b, c] (tA g as))
    (hw : swappedStores [.Tuple [.Name x px, .Name y py, .Name z pz] kt pt] (.Tuple [a, b, c] k2 pt2) X.env = pure (some [x, y, z]) := by rfl)
    (hs : swapsWithSole [.Tuple [.Name x px, .Name y py, .Name z pz] kt pt] (.Tuple [a, b, c] k2 pt2) pos.line X.env = pure false := by rfl) :
    PS X (.Assign [.Tuple [.Name x px, .Name y py, .Name z pz] kt pt] (.Tuple [a, b, c] k2 pt2) pos) (tS g W (sPar3 i j l as)) := PS.imp (ps_par3 hc hN hi hj hl hij hil hjl hx hy hz ha hw hs) fun D σ H h => by
  obtain ⟨S, loc, ρ, fl, ρ', S', A, R, e, q⟩ := h
  unfold sPar3 at e
  obtain ⟨⟨ds, S1⟩, e1, e⟩ := Option.bind_eq_some_iff.mp e
  simp only at e
  split at e
  · cases e
    refine ⟨S, loc, ρ, _, _, A, R, e1, fun vs loc1 H1 A1 x1 r1 => ?_⟩
    cases r1 with
    | cons ra r1 => cases r1 with
      | cons rb r1 => cases r1 with
        | cons rc r1 =>
          cases r1
          exact ⟨_, _, _, rfl, q _ loc1 H1 A1 x1 ((((R.ext A x1).set ra i).set rb j).set rc l)⟩
  · cases e
end
end G3
set_option maxHeartbeats 4000000
/-! G3: sorted(set(..)) of tuples of texts, whatever their hashes. -/
namespace G3
open PySem PySem.Spec PyProof.Rows L2

/-- the key that a tuple of texts is -/
abbrev tkey (k : List Str) : NestedKey := .tup (k.map .text)
/-- the tuple of the texts k stands at a -/
def TP (h : Heap) (k : List Str) (a : Addr) : Prop := ∃ o items n, h.get? a = some o ∧ o.cls = .type "tuple" ∧ o.data = .seq items n ∧ NestedAll h (k.map .text) items.toList
theorem tkey_inj : ∀ {k j : List Str}, tkey k = tkey j → k = j := by
  intro k j h
  have q : k.map NestedKey.text = j.map NestedKey.text := NestedKey.tup.inj h
  induction k generalizing j with
  | nil => cases j with | nil => rfl | cons y j => simp at q
  | cons x k ih => cases j with
    | nil => simp at q
    | cons y j =>
      simp only [List.map_cons, List.cons.injEq, NestedKey.text.injEq] at q
      rw [q.1, ih (by rw [tkey, tkey, q.2]) q.2]
theorem tkey_depth (k : List Str) : (tkey k).depth ≤ 8 := by
  have q : NestedKey.depthAll (k.map NestedKey.text) = 0 := by
    induction k with
    | nil => simp [NestedKey.depthAll]
    | cons x k ih => simp [NestedKey.depthAll, NestedKey.depth, ih]
  simp only [tkey, NestedKey.depth, q]; decide
theorem texts_in : ∀ {k : List Str} {vs : List Value} {h : Heap}, NestedAll h (k.map .text) vs → ((∀ v ∈ vs, ∃ x t, v = Value.str x t) ∧ (∀ h' : Heap, NestedAll h' (k.map .text) vs))
  | [], _, _, .nil => ⟨fun v hv => (by cases hv), fun h' => .nil⟩
  | x :: k, _, _, .cons a b => by
    obtain ⟨h1, h2⟩ := texts_in (k := k) b
    cases a with
    | text _ t =>
      refine ⟨fun v hv => ?_, fun h' => .cons (.text x t) (h2 h')⟩
      rcases List.mem_cons.mp hv with rfl | hv
      · exact ⟨x, t, rfl⟩
      · exact h1 v hv
theorem TP.keep {h h' : Heap} {k : List Str} {a : Addr} (x : TP h k a) (e : ∀ o, h.get? a = some o → h'.get? a = some o) : TP h' k a := by
  obtain ⟨o, items, n, h1, h2, h3, h4⟩ := x
  exact ⟨o, items, n, e o h1, h2, h3, (texts_in h4).2 h'⟩
theorem TP.is {P : Program} {w : World} {h : Heap} {k : List Str} {a : Addr} (x : TP h k a) : (nestedKind P w).is h (tkey k) a := by
  obtain ⟨o, items, n, h1, h2, h3, h4⟩ := x
  exact ⟨.tup h1 h2 h3 h4, tkey_depth k⟩
theorem TP.inj {h : Heap} {k j : List Str} {a : Addr} (x : TP h k a) (y : TP h j a) : k = j := by
  obtain ⟨o, items, n, h1, h2, h3, h4⟩ := x
  obtain ⟨o', items', n', g1, g2, g3, g4⟩ := y
  exact tkey_inj (NestedIs.inj _ _ _ (NestedIs.tup h1 h2 h3 h4) (NestedIs.tup g1 g2 g3 g4))
section
variable {P : Program} {w : World} {A : Around} {E : Value → Shared → Prop} {s : Shared}
theorem TP.typeIs {k : List Str} {b : Addr} (x : TP s.heap k b) : s.TypeIs (.ref b) "tuple" := by
  obtain ⟨o, items, n, h1, h2, _⟩ := x
  exact ⟨o, h1, h2⟩
/-- a loop over texts that a turn leaves by no road -/
theorem over_texts {β : Type} {items : Array Value} {init : β} {f : Value → β → Sem (ForInStep β)} {Q : β → Shared → Prop} (ht : ∀ v ∈ items.toList, ∃ x t, v = Value.str x t) (hf : ∀ x t, f (.str x t) init = pure (.yield init)) (h : Q init s) : wpAny (model P w) A (forIn items init f) Q E s := by
  rw [← Array.forIn_toList]
  generalize items.toList = l at ht
  induction l with
  | nil => rw [List.forIn_nil]; exact wpAny_pure h
  | cons v l ih =>
    obtain ⟨x, t, rfl⟩ := ht v List.mem_cons_self
    rw [List.forIn_cons, hf]
    exact wpAny_bind (wpAny_pure (ih fun u hu => ht u (List.mem_cons_of_mem _ hu)))
theorem cls_tp {k : List Str} {b : Addr} {Q : Bool → Shared → Prop} (x : TP s.heap k b) (h : Q false s) : wpAny (model P w) A (ofAClassStatement 8 (.ref b)) Q E s := by
  have hT := x.typeIs
  obtain ⟨o, items, n, ho, _, hd, hi⟩ := x
  unfold ofAClassStatement
  refine wpAny_bind (wpAny_typeOf hT ?_)
  dsimp only
  simp only [show (("tuple" : String) == "tuple") = true by decide, if_true]
  refine wpAny_bind (wpAny_pure ?_)
  simp only [Bool.not_true, Bool.false_eq_true, if_false]
  show wpAny _ _ (seqItems? (.ref b) >>= _) _ _ s
  refine wpAny_bind (wpAny_seqItems ho hd ?_)
  dsimp only
  refine wpAny_bind (over_texts (texts_in hi).1 (fun x t => ?_) ?_)
  · rfl
  · exact wpAny_pure h
theorem byv_tp {k : List Str} {b : Addr} {Q : Bool → Shared → Prop} (x : TP s.heap k b) (h : ∀ r, Q r s) : wpAny (model P w) A (hashByValue 8 (.ref b)) Q E s := by
  have hT := x.typeIs
  obtain ⟨o, items, n, ho, _, hd, hi⟩ := x
  have ht := (texts_in hi).1
  unfold hashByValue
  refine wpAny_bind (wpAny_specialOf hT F.slot_tuple_hash.lookup ?_)
  show wpAny _ _ (seqItems? (.ref b) >>= _) _ _ s
  refine wpAny_bind (wpAny_seqItems ho hd (wpAny_bind ?_))
  show wpAny _ _ (forIn items _ _) _ _ s
  rw [← Array.forIn_toList]
  generalize items.toList = l at ht
  cases l with
  | nil => rw [List.forIn_nil]; exact wpAny_pure (wpAny_pure (h true))
  | cons v l =>
    obtain ⟨y, t, rfl⟩ := ht v List.mem_cons_self
    rw [List.forIn_cons]
    show wpAny _ _ ((do let r ← pure false; if !r then _ else _) >>= _) _ _ s
    refine wpAny_bind (wpAny_bind (wpAny_pure ?_))
    simp only [Bool.not_false, if_true]
    exact wpAny_pure (wpAny_pure (wpAny_pure (h false)))
theorem quiet_tp {k : List Str} {b : Addr} {Q : Bool → Shared → Prop} (x : TP s.heap k b) (h : Q true s) : wpAny (model P w) A (eqIsQuiet 8 (.ref b)) Q E s := (nestedKind P w).quiet x.is h
theorem seen_tp {k : List Str} {b : Addr} {Q : Bool → Shared → Prop} (x : TP s.heap k b) {ys : List Value} (hy : ∀ y ∈ ys, ∃ j c, y = Value.ref c ∧ TP s.heap j c) (h : Q false s) : wpAny (model P w) A (searchCouldBeSeen (.ref b) ys) Q E s := by
  unfold searchCouldBeSeen
  refine wpAny_bind (wpAny_forIn_list _ (fun rest r s' => r.1 = none ∧ s' = s ∧ ∀ y ∈ rest, ∃ j c, y = Value.ref c ∧ TP s.heap j c) _ ?_ ?_ _ _ ⟨rfl, rfl, hy⟩)
  · rintro v rest r s' ⟨_, rfl, all⟩
    obtain ⟨j, c, rfl, hc⟩ := all v List.mem_cons_self
    have more := fun u hu => all u (List.mem_cons_of_mem _ hu)
    dsimp only
    by_cases hv : (b == c || (carriedByValue (.ref b) && carriedByValue (.ref c))) = true
    · exact wp_if_pos hv (wpAny_pure ⟨rfl, rfl, more⟩)
    · refine wp_if_neg hv (wpAny_bind (quiet_tp x ?_))
      simp only [Bool.not_true, Bool.false_eq_true, if_false]
      refine wpAny_bind (quiet_tp hc ?_)
      simp only [Bool.not_true, Bool.false_eq_true, if_false]
      refine wpAny_bind (cls_tp x ?_)
      simp only [Bool.false_eq_true, if_false]
      refine wpAny_bind (cls_tp hc ?_)
      simp only [Bool.false_eq_true, if_false]
      exact wpAny_pure ⟨rfl, rfl, more⟩
  · rintro ⟨r1, r2⟩ s' ⟨hr, rfl, _⟩
    cases (show r1 = none from hr)
    exact wpAny_pure h

/-! ### the set -/
abbrev hsh (w : World) (k : List Str) : Int := (tkey k).hash w
abbrev RL := List (Addr × List Str)
def rowsN (w : World) (L : RL) : List (Int × Value) := L.map fun p => (hsh w p.2, Value.ref p.1)
/-- where the search for h begins -/
abbrev beg (m : Nat) (h : Int) : SetTable.Probe := runAt m (SetTable.bits h % (m + 1)) (SetTable.bits h)
structure SetN (w : World) (h : Heap) (a : Addr) (L : RL) (es : Array (Int × Value)) (ep : Nat) (t : SetTable) : Prop where
  ob : ∃ o, h.get? a = some o ∧ o.ExactSet ∧ o.data = .set es ep t
  rows : es.toList = rowsN w L
  tab : TabOk t (L.map fun p => hsh w p.2)
  nd : (L.map (·.2)).Nodup
  tup : ∀ p ∈ L, TP h p.2 p.1
  led : w.params.followText "set-order" = true ∨ t.led = true
  room : L.length * 5 < t.mask * 3
  few : L.length < 64
theorem rowsN_size {es : Array (Int × Value)} {L : RL} (h : es.toList = rowsN w L) : es.size = L.length := by
  rw [← Array.length_toList, h, rowsN, List.length_map]
theorem rowsN_at {es : Array (Int × Value)} {L : RL} (h : es.toList = rowsN w L) (i : Nat) : es[i]? = (L[i]?).map fun p => (hsh w p.2, Value.ref p.1) := by
  rw [← Array.getElem?_toList, h, rowsN, List.getElem?_map]
variable {a : Addr} {L : RL} {es : Array (Int × Value)} {ep : Nat} {t : SetTable}
theorem tab_fits {hs : List Int} (T : TabOk t hs) (hl : es.size = hs.length) (hr : hs.length ≤ t.mask) : t.fits es.size = true := by
  have h1 := T.sz
  unfold SetTable.fits SetTable.fill
  rw [T.dm, Bool.and_eq_true, beq_iff_eq, decide_eq_true_eq]
  show t.place.size = es.size ∧ t.place.size + 0 ≤ t.mask
  omega
theorem SetN.fits (R : SetN w s.heap a L es ep t) : t.fits es.size = true :=
  tab_fits R.tab (by rw [rowsN_size R.rows, List.length_map]) (by have := R.room; rw [List.length_map]; omega)
theorem SetN.gw (R : SetN w s.heap a L es ep t) : ¬ t.gaveWay = true := by
  unfold SetTable.gaveWay
  rw [mask_odd R.tab.mok]
  decide
theorem nth_dummy (m : Nat) : ∀ (n : Nat) (p : SetTable.Probe), p.dummy = none → (nth m p n).dummy = none
  | 0, _, h => h
  | n + 1, p, h => nth_dummy m n (adv m p) (by unfold adv; split <;> exact h)
/-- the search, from the c-th step on; K: the first empty slot's step -/
theorem seek (R : SetN w s.heap a L es ep t) {x : Addr} {k : List Str} {h : Int} (eh : hsh w k = h) (hx : TP s.heap k x) (hu : A.units + 8 < cLine) {K : Nat} (hKf : K < 10 * SetTable.turns t.mask) (hK : way t.mask h K ∉ t.place.toList) (hKb : ∀ c, c < K → way t.mask h c ∈ t.place.toList)
    {Q : SetFound → Shared → Prop} (hin : k ∈ L.map (·.2) → Q (.there none) s) (hout : k ∉ L.map (·.2) → Q (.free (way t.mask h K) false) s) :
    ∀ (f c : Nat) (st : Option SetTable.Probe), st.getD (t.probeStart h) = nth t.mask (beg t.mask h) c → c ≤ K → K - c < f → (∀ (i : Nat) p, L[i]? = some p → p.2 = k → ∃ c', c ≤ c' ∧ c' < K ∧ t.place.toList[i]? = some (way t.mask h c')) →
      wpAny (model P w) A (setSearchFrom a (.ref x) h true f st) Q E s
  | 0, c, st, _, _, hf, _ => absurd hf (Nat.not_lt_zero _)
  | f + 1, c, st, hst, hc, hf, hre => by
    obtain ⟨o, ho, hex, hd⟩ := R.ob
    have sh : ∀ q, nth t.mask (nth t.mask (beg t.mask h) c) q = nth t.mask (beg t.mask h) (c + q) := fun q => (nth_add t.mask c (beg t.mask h) q).symm
    have wj : ∀ q, (nth t.mask (nth t.mask (beg t.mask h) c) q).j = way t.mask h (c + q) := fun q => congrArg SetTable.Probe.j (sh q)
    have hat : ∀ (i : Nat) p, L[i]? = some p → (es[i]?.map (·.1)).getD 0 = hsh w p.2 := fun i p hp => by rw [rowsN_at R.rows, hp]; rfl
    have pr0 : ∀ r, SetTable.probe.go t (fun i => (es[i]?.map (·.1)).getD 0) h (10 * SetTable.turns t.mask) (nth t.mask (beg t.mask h) c) = some r → t.probe (fun i => (es[i]?.map (·.1)).getD 0) h (st.getD (t.probeStart h)) = some r := fun r hr => by rw [hst]; exact hr
    rw [setSearchFrom_succ]
    refine wpAny_bind (wpAny_setState_of ho hd R.fits (wp_if_neg R.gw ?_))
    try refine wpAny_bind (wpAny_pure ?_)
    rcases go_spec t R.tab.ris R.tab.dm (fun i => (es[i]?.map (·.1)).getD 0) h (10 * SetTable.turns t.mask) (K - c) (nth t.mask (beg t.mask h) c) (nth_dummy _ c _ rfl) (by omega)
      (fun q hq => by rw [wj]; exact hKb (c + q) (by omega)) (by rw [wj, show c + (K - c) = K by omega]; exact hK) with ⟨q, i, hq, hi, hh, hno, hpr⟩ | ⟨hno, hpr⟩
    · rw [pr0 _ hpr]
      dsimp only
      rw [wj] at hi ⊢
      rw [sh]
      have hil : i < L.length := by
        have h1 := (List.getElem?_eq_some_iff.mp hi).1
        have h2 := R.tab.sz
        rw [List.length_map] at h2
        rw [Array.length_toList] at h1
        omega
      obtain ⟨p, hp⟩ : ∃ p, L[i]? = some p := ⟨_, List.getElem?_eq_getElem hil⟩
      have hmem := List.mem_of_getElem? hp
      have hpt := R.tup p hmem
      have he : es[i]? = some (hsh w p.2, Value.ref p.1) := by rw [rowsN_at R.rows, hp]; rfl
      have hsl : t.slot (way t.mask h (c + q)) = .live i := slot_live R.tab.ris hi
      have look : wpAny (model P w) A (searchRest a (.ref x) h true f es t (way t.mask h (c + q)) i (nth t.mask (beg t.mask h) (c + (q + 1)))) Q E s := by
        unfold searchRest
        rw [he]
        refine wpAny_bind (wpAny_holding ((nestedKind P w).eqBool (x := tkey p.2) (y := tkey k) hu hpt.is hx.is (wpAny_bind (wpAny_setState_of ho hd R.fits ?_))))
        dsimp only
        by_cases hkk : p.2 = k
        · rw [hkk, decide_eq_true rfl]
          exact wp_if_pos rfl (wpAny_pure (hin (List.mem_map.mpr ⟨p, hmem, hkk⟩)))
        · rw [decide_eq_false fun z => hkk (tkey_inj z)]
          refine wp_if_neg (by decide) ?_
          try refine wpAny_bind (wpAny_pure ?_)
          rw [sameMem]
          simp only [if_true, hsl, he]
          refine wpAny_bind (wpAny_isSame_ref_self (wpAny_bind (wpAny_pure ?_)))
          simp only [if_true]
          refine wp_if_neg (by decide) (seek R eh hx hu hKf hK hKb hin hout f (c + (q + 1)) _ rfl (by omega) (by omega) fun i0 p0 h0 hk0 => ?_)
          obtain ⟨c', a1, a2, a3⟩ := hre i0 p0 h0 hk0
          refine ⟨c', ?_, a2, a3⟩
          by_cases z : c' < c + q
          · exact absurd ((hat i0 p0 h0).trans (by rw [hk0]; exact eh)) (hno (c' - c) i0 (by omega) (by rw [wj, show c + (c' - c) = c' by omega]; exact a3))
          · by_cases y : c' = c + q
            · rw [y] at a3
              have s0 := slot_live R.tab.ris a3
              rw [hsl] at s0
              injection s0 with s0
              rw [← s0, hp] at h0
              exact absurd ((congrArg Prod.snd (Option.some.inj h0)).trans hk0) hkk
            · omega
      by_cases hl : t.led = true
      · refine wp_if_neg (by simp [hl]) ?_
        first | exact look | exact wpAny_bind (wpAny_pure look)
      · refine wp_if_pos (by simp [hl]) (wpAny_bind (seen_tp hx (fun y hy => ?_) (wp_if_neg (by decide) ?_)))
        · obtain ⟨e, he2, rfl⟩ := List.mem_map.mp hy
          have he3 : e ∈ es.toList := by
            have := (show e ∈ es ∧ e.1 = h by simpa using he2).1
            simpa using this
          rw [R.rows] at he3
          obtain ⟨p2, hp2, rfl⟩ := List.mem_map.mp he3
          exact ⟨p2.2, p2.1, rfl, R.tup p2 hp2⟩
        · first | exact look | exact wpAny_bind (wpAny_pure look)
    · have e2 := pr0 _ hpr
      rw [wj, show c + (K - c) = K by omega] at e2
      rw [e2]
      refine wpAny_pure (hout fun hm => ?_)
      obtain ⟨p0, h0, hk0⟩ := List.mem_map.mp hm
      obtain ⟨i0, hi0, e0⟩ := List.getElem_of_mem h0
      have h00 : L[i0]? = some p0 := by rw [List.getElem?_eq_getElem hi0, e0]
      obtain ⟨c', a1, a2, a3⟩ := hre i0 p0 h00 hk0
      exact absurd ((hat i0 p0 h00).trans (by rw [hk0]; exact eh)) (hno (c' - c) i0 (by omega) (by rw [wj, show c + (c' - c) = c' by omega]; exact a3))
theorem seek_all (R : SetN w s.heap a L es ep t) {x : Addr} {k : List Str} {h : Int} (eh : hsh w k = h) (hx : TP s.heap k x) (hu : A.units + 8 < cLine) {Q : SetFound → Shared → Prop} (hin : k ∈ L.map (·.2) → Q (.there none) s)
    (hout : ∀ K, k ∉ L.map (·.2) → way t.mask h K ∉ t.place.toList → (∀ c, c < K → way t.mask h c ∈ t.place.toList) → Q (.free (way t.mask h K) false) s) : wpAny (model P w) A (setSearch a (.ref x) h true) Q E s := by
  have hr := R.room
  obtain ⟨K, hKf, hK, hKb⟩ := R.tab.first (by rw [List.length_map]; omega) h
  have hbig : 10 * SetTable.turns t.mask ≤ 1420 := by
    unfold SetTable.turns
    rcases R.tab.mok with e | e | e <;> omega
  unfold setSearch
  refine seek R eh hx hu hKf hK hKb hin (fun hn => hout K hn hK hKb) 100000 0 none rfl (Nat.zero_le _) (by omega) fun i p hp hk => ?_
  have hi : (L.map fun p => hsh w p.2)[i]? = some h := by rw [List.getElem?_map, hp]; show some (hsh w p.2) = _; rw [hk, eh]
  have hil : i < t.place.toList.length := by
    have h1 := (List.getElem?_eq_some_iff.mp hp).1
    have h2 := R.tab.sz
    rw [List.length_map] at h2
    rw [Array.length_toList]
    omega
  obtain ⟨c, hc, e⟩ := R.tab.before hK hi (List.getElem?_eq_getElem hil)
  exact ⟨c, Nat.zero_le _, hc, by rw [List.getElem?_eq_getElem hil, e]⟩
theorem pick_all {α : Type} (L : List α) : (List.range L.length).filterMap (fun i => L[i]?) = L := by
  have key : ∀ n, n ≤ L.length → (List.range n).filterMap (fun i => L[i]?) = L.take n := by
    intro n
    induction n with
    | zero => intro _; rfl
    | succ n ih =>
      intro hn
      rw [List.range_succ, List.filterMap_append, ih (by omega), List.take_succ]
      simp [List.getElem?_eq_getElem (show n < L.length from hn)]
  rw [key _ (Nat.le_refl _), List.take_length]
theorem rowsN_pick {es : Array (Int × Value)} {L : RL} {order : Array Nat} (hr : es.toList = rowsN w L) (hp : order.toList.Perm (List.range L.length)) :
    ∃ L2, (order.filterMap (es[·]?)).toList = rowsN w L2 ∧ L2.Perm L ∧ (L2.map fun p => hsh w p.2) = order.toList.map fun i => (es.map (·.1)).getD i 0 := by
  refine ⟨order.toList.filterMap fun i => L[i]?, ?_, by have q := hp.filterMap (fun i => L[i]?); rw [pick_all] at q; exact q, ?_⟩
  · rw [Array.toList_filterMap, rowsN, List.map_filterMap]
    congr 1
    funext i
    exact rowsN_at hr i
  · have key : ∀ l : List Nat, (∀ i ∈ l, i < L.length) → ((l.filterMap fun i => L[i]?).map fun p => hsh w p.2) = l.map fun i => (es.map (·.1)).getD i 0 := by
      intro l
      induction l with
      | nil => intro _; rfl
      | cons i l ih =>
        intro hl
        have hi := hl i List.mem_cons_self
        have e : (es.map (·.1)).getD i 0 = hsh w (L[i]).2 := by
          have e5 : (es.map (·.1))[i]? = some (hsh w (L[i]).2) := by rw [Array.getElem?_map, rowsN_at hr, List.getElem?_eq_getElem hi]; rfl
          simp [Array.getD_eq_getD_getElem?, e5]
        rw [List.filterMap_cons_some (List.getElem?_eq_getElem hi), List.map_cons, List.map_cons, ih fun j hj => hl j (List.mem_cons_of_mem _ hj), e]
    exact key _ fun i hi => List.mem_range.mp (hp.mem_iff.mp hi)
theorem TP.same {h h' : Heap} {k : List Str} {b : Addr} {o : Obj} (x : TP h k b) (ho : h.get? a = some o) (hd : o.data = .set es ep t) (hs : Heap.SameBut a h h') : TP h' k b := x.keep fun u hu => (hs.2 b (fun e => by
  obtain ⟨o', items, n, h1, _, h3, _⟩ := x
  rw [e, ho] at h1
  cases h1
  rw [hd] at h3
  cases h3)).trans hu
/-- the table laid anew, larger -/
theorem relay_n {o : Obj} (ho : s.heap.get? a = some o) (hex : o.ExactSet) (hd : o.data = .set es ep t) (hrows : es.toList = rowsN w L) (T : TabOk t (L.map fun p => hsh w p.2)) (hfl : L.length ≤ t.mask) (nd : (L.map (·.2)).Nodup) (tup : ∀ p ∈ L, TP s.heap p.2 p.1)
    (ld : w.params.followText "set-order" = true ∨ t.led = true) (few : L.length < 64) {wanted M : Nat} (hw : SetTable.sizeAbove wanted - 1 = M) (hM : MaskOk M) (hw2 : SetTable.sizeAbove wanted ≤ 128) (hn : L.length * 5 < M * 3) {Q : Unit → Shared → Prop}
    (hQ : ∀ h' L' es' ep' t', Heap.SameBut a s.heap h' → SetN w h' a L' es' ep' t' → L'.Perm L → Q () { s with heap := h' }) : wpAny (model P w) A (setRelay a wanted) Q E s := by
  have hsl := rowsN_size hrows
  have hfits : t.fits es.size = true := tab_fits T (by rw [hsl, List.length_map]) (by rw [List.length_map]; exact hfl)
  obtain ⟨t', order, e, hp, T', em, el, _, _⟩ := relaid_ok t (hs := es.map (·.1)) (wanted := wanted) hw hM (by rw [Array.size_map, hsl]; omega)
  rw [Array.size_map, hsl] at hp
  obtain ⟨L2, r1, r2, r3⟩ := rowsN_pick hrows hp
  rw [← r3] at T'
  have hs2 : (order.filterMap (es[·]?)).size = es.size := by rw [rowsN_size r1, r2.length_eq, hsl]
  rw [setRelay_eq]
  refine wpAny_bind (wpAny_setState_of ho hd hfits (wp_if_neg (by rw [sizeLine_eq]; omega) ?_))
  try refine wpAny_bind (wpAny_pure ?_)
  rw [e]
  refine wpAny_bind (wp_if_neg (by rw [hs2]; simp) ?_)
  try refine wpAny_bind (wpAny_pure ?_)
  refine wpAny_pure (wpAny_storeSet_of ho hd ?_ (by rw [hs2, hsl, sizeLine_eq]; omega))
  have sb : Heap.SameBut a s.heap (s.heap.update a (Obj.putSet (order.filterMap (es[·]?)) t')) := Heap.SameBut.update ..
  exact hQ _ L2 _ (ep + 1) t' sb ⟨⟨_, store_at ho hd, ⟨hex.1, hex.2.1, hex.2.2⟩, rfl⟩, r1, T', (r2.map (·.2)).nodup_iff.mpr nd, fun p hpm => (tup p (r2.mem_iff.mp hpm)).same ho hd sb, by rw [el]; exact ld, by rw [r2.length_eq, em]; exact hn, by rw [r2.length_eq]; exact few⟩ r2
/-- adding -/
theorem add_n (R : SetN w s.heap a L es ep t) {x : Addr} {k : List Str} (hx : TP s.heap k x) (hu : A.units + 8 < cLine) (hfew : L.length + 1 < 64) {Q : Bool → Shared → Prop}
    (hQ : ∀ b h' L' es' ep' t', Heap.SameBut a s.heap h' → SetN w h' a L' es' ep' t' → (k ∈ L.map (·.2) → L' = L) → (k ∉ L.map (·.2) → L'.Perm ((x, k) :: L)) → Q b { s with heap := h' }) : wpAny (model P w) A (setAddHashed a (.ref x) (hsh w k)) Q E s := by
  obtain ⟨o, ho, hex, hd⟩ := R.ob
  have hsl := rowsN_size R.rows
  have hroom := R.room
  unfold setAddHashed
  refine wpAny_holding ?_
  rw [show (100000 : Nat) = 99999 + 1 from rfl, setAddHashedIn_succ]
  refine wpAny_bind (wpAny_setState_of ho hd R.fits (wp_if_neg (by simp [byScan, Value.scannable]) ?_))
  try refine wpAny_bind (wpAny_pure ?_)
  refine wpAny_bind (seek_all R rfl hx hu (fun hm => wpAny_pure (hQ false s.heap L es ep t (Heap.SameBut.refl a s.heap) R (fun _ => rfl) fun z => absurd hm z)) fun K hm hK hb => ?_)
  refine wpAny_bind (wpAny_setState_of ho hd R.fits ?_)
  dsimp only
  obtain ⟨q1, q2, q3, q4, q5, q6, q7, q8, q9⟩ := R.tab.put hK hb
  generalize hpt : t.put (way t.mask (hsh w k) K) = pt at q1 q3 q4 q5 q6 q7 q8 q9 ⊢
  obtain ⟨t1, p⟩ := pt
  dsimp only at q1 q3 q4 q5 q6 q7 q8 q9 ⊢
  subst q1
  -- the rest, whatever is told of the values' hashes
  have rest : ∀ t2 : SetTable, t2.place = t1.place → t2.dummies = t1.dummies → t2.mask = t1.mask → t2.led = t1.led → t2.fill = t1.fill → wpAny (model P w) A (do
      storeSet a (SetTable.insertAt es (SetTable.below t.place (way t.mask (hsh w k) K)) (hsh w k, Value.ref x)) t2
      if !false && t2.tooFull then setRelay a (SetTable.grown (es.size + 1))
      return true) Q E s := by
    intro t2 e1 e2 e3 e4 e5
    have hin : (SetTable.insertAt es (SetTable.below t.place (way t.mask (hsh w k) K)) (hsh w k, Value.ref x)).toList = rowsN w (L.take (SetTable.below t.place (way t.mask (hsh w k) K)) ++ (x, k) :: L.drop (SetTable.below t.place (way t.mask (hsh w k) K))) := by
      rw [SetTable.toList_insertAt, R.rows, rowsN, rowsN, List.map_append, List.map_cons, List.map_take, List.map_drop]
    generalize SetTable.below t.place (way t.mask (hsh w k) K) = p at q2 q3 hin ⊢
    have pm := put_perm L p (x, k)
    have hlen : (L.take p ++ (x, k) :: L.drop p).length = L.length + 1 := pm.length_eq
    have T2 : TabOk t2 ((L.take p ++ (x, k) :: L.drop p).map fun p => hsh w p.2) := by
      rw [List.map_append, List.map_cons, List.map_take, List.map_drop]
      exact ⟨by rw [e1]; exact q3.ris, by rw [e2]; exact q3.dm, by rw [e1]; exact q3.sz, by rw [e3]; exact q3.mok, by rw [e1, e3]; exact q3.bd, by rw [e1, e3]; exact q3.reach⟩
    have nd1 : ((L.take p ++ (x, k) :: L.drop p).map (·.2)).Nodup := (pm.map (·.2)).nodup_iff.mpr (by rw [List.map_cons]; exact List.nodup_cons.mpr ⟨hm, R.nd⟩)
    have hes := rowsN_size hin
    rw [hlen] at hes
    generalize SetTable.insertAt es p (hsh w k, Value.ref x) = es1 at hin hes ⊢
    generalize L.take p ++ (x, k) :: L.drop p = L1 at pm hlen T2 nd1 hin
    refine wpAny_bind (wpAny_storeSet_of ho hd ?_ (by rw [hes, sizeLine_eq]; omega))
    have sb : Heap.SameBut a s.heap (s.heap.update a (Obj.putSet es1 t2)) := Heap.SameBut.update ..
    have ho1 := store_at (es' := es1) (t' := t2) ho hd
    generalize s.heap.update a (Obj.putSet es1 t2) = h1 at sb ho1 ⊢
    have tup1 : ∀ p ∈ L1, TP h1 p.2 p.1 := fun p hp => by
      rcases List.mem_cons.mp (pm.mem_iff.mp hp) with e | hp
      · rw [e]; exact hx.same ho hd sb
      · exact (R.tup p hp).same ho hd sb
    have ld1 : w.params.followText "set-order" = true ∨ t2.led = true := by rw [e4, q5]; exact R.led
    have em : t2.mask = t.mask := e3.trans q4
    have hfill : t2.fill = L.length + 1 := by rw [e5, q9, List.length_map]
    by_cases hf : t2.tooFull = true
    · have hfull : (L.length + 1) * 5 ≥ t2.mask * 3 := by
        unfold SetTable.tooFull at hf
        rw [decide_eq_true_eq, hfill] at hf
        exact hf
      have cs : (t.mask = 7 ∧ L.length = 4) ∨ (t.mask = 31 ∧ L.length = 18) := by
        rw [em] at hfull
        rcases R.tab.mok with e | e | e <;> rw [e] at hfull hroom <;> first | (left; exact ⟨e, by omega⟩) | (right; exact ⟨e, by omega⟩) | (exfalso; omega)
      have go : ∀ M, SetTable.sizeAbove (SetTable.grown (L.length + 1)) - 1 = M → MaskOk M → SetTable.sizeAbove (SetTable.grown (L.length + 1)) ≤ 128 → (L.length + 1) * 5 < M * 3 →
          wpAny (model P w) A (setRelay a (SetTable.grown (L.length + 1))) (fun _ s' => wpAny (model P w) A (pure true) Q E s') E { s with heap := h1 } := fun M m1 m2 m3 m4 =>
        relay_n (s := { s with heap := h1 }) ho1 ⟨hex.1, hex.2.1, hex.2.2⟩ rfl hin T2 (by rw [em]; omega) nd1 tup1 ld1 (by omega) m1 m2 m3 (by rw [hlen]; exact m4)
          fun h2 L2 es2 ep2 t3 sb2 R2 pm2 => wpAny_pure (hQ true h2 L2 es2 ep2 t3 (sb.trans sb2) R2 (fun z => absurd z hm) fun _ => pm2.trans pm)
      rw [hsl]
      first
        | (refine wpAny_bind ?_; refine wp_if_pos (by simp [hf]) ?_)
        | (refine wp_if_pos (by simp [hf]) ?_; refine wpAny_bind ?_)
      rcases cs with ⟨_, e⟩ | ⟨_, e⟩
      · exact go 31 (by rw [e, size_20]) (.inr (.inl rfl)) (by rw [e, size_20]; decide) (by omega)
      · exact go 127 (by rw [e, size_76]) (.inr (.inr rfl)) (by rw [e, size_76]; decide) (by omega)
    · have hroom2 : (L.length + 1) * 5 < t2.mask * 3 := by
        unfold SetTable.tooFull at hf
        rw [decide_eq_true_eq, hfill] at hf
        omega
      have fin := hQ true h1 L1 es1 (ep + 1) t2 sb ⟨⟨_, ho1, ⟨hex.1, hex.2.1, hex.2.2⟩, rfl⟩, hin, T2, nd1, tup1, ld1, by rw [hlen]; exact hroom2, by omega⟩ (fun z => absurd z hm) fun _ => pm
      first
        | exact wp_if_neg (by simp [hf]) (wpAny_pure fin)
        | exact wpAny_bind (wp_if_neg (by simp [hf]) (wpAny_pure (wpAny_pure fin)))
  have both : ∀ b : Bool, wpAny (model P w) A (do
      storeSet a (SetTable.insertAt es (SetTable.below t.place (way t.mask (hsh w k) K)) (hsh w k, Value.ref x)) (if b then t1 else { t1 with plain := false })
      if !false && (if b then t1 else { t1 with plain := false }).tooFull then setRelay a (SetTable.grown (es.size + 1))
      return true) Q E s := fun b => by
    cases b with
    | true => exact rest t1 rfl rfl rfl rfl rfl
    | false => exact rest { t1 with plain := false } rfl rfl rfl rfl rfl
  by_cases hpl : t1.plain = true
  · first
      | (refine wpAny_bind ?_; refine wp_if_pos hpl ?_; exact byv_tp hx fun r => both r)
      | exact wp_if_pos hpl (wpAny_bind (byv_tp hx fun r => both r))
  · first
      | (refine wpAny_bind ?_; refine wp_if_neg hpl ?_; exact wpAny_pure (both true))
      | exact wp_if_neg hpl (wpAny_bind (wpAny_pure (both true)))
      | exact wp_if_neg hpl (both true)
/-- what the set has of the first i -/
structure Has (ks : RL) (i : Nat) (L : RL) : Prop where
  sub : ∀ p ∈ L, p ∈ ks.take i
  all : ∀ p ∈ ks.take i, p.2 ∈ L.map (·.2)
  len : L.length ≤ i
theorem Has.next {ks L L' : RL} {i : Nat} {x : Addr × List Str} (g : Has ks i L) (h : ks[i]? = some x) (c1 : x.2 ∈ L.map (·.2) → L' = L) (c2 : x.2 ∉ L.map (·.2) → L'.Perm (x :: L)) : Has ks (i + 1) L' := by
  have e : ks.take (i + 1) = ks.take i ++ [x] := take_next h
  by_cases c : x.2 ∈ L.map (·.2)
  · rw [c1 c]
    refine ⟨fun p hp => by rw [e]; exact List.mem_append_left _ (g.sub p hp), fun p hp => ?_, Nat.le_succ_of_le g.len⟩
    rw [e] at hp
    rcases List.mem_append.mp hp with z | z
    · exact g.all p z
    · rw [List.mem_singleton.mp z]; exact c
  · have pm := c2 c
    refine ⟨fun p hp => ?_, fun p hp => ?_, by rw [pm.length_eq]; exact Nat.succ_le_succ g.len⟩
    · rw [e]
      rcases List.mem_cons.mp (pm.mem_iff.mp hp) with z | z
      · rw [z]; exact List.mem_append_right _ (List.mem_singleton.mpr rfl)
      · exact List.mem_append_left _ (g.sub p z)
    · rw [(pm.map (·.2)).mem_iff, List.map_cons]
      rw [e] at hp
      rcases List.mem_append.mp hp with z | z
      · exact List.mem_cons_of_mem _ (g.all p z)
      · rw [List.mem_singleton.mp z]; exact List.mem_cons_self
theorem SetN.keep {h h' : Heap} (R : SetN w h a L es ep t) (ha : ∀ o, h.get? a = some o → h'.get? a = some o) (ht : ∀ p ∈ L, TP h' p.2 p.1) : SetN w h' a L es ep t := by
  obtain ⟨o, ho, r⟩ := R.ob
  exact ⟨⟨o, ha o ho, r⟩, R.rows, R.tab, R.nd, ht, R.led, R.room, R.few⟩
abbrev freshT (w : World) : SetTable := .fresh 0 0 (!w.params.followText "set-order")
abbrev freshS (w : World) : Obj := { cls := .type "set", dict := none, data := .set #[] 0 (freshT w) }
theorem setN_fresh {h : Heap} (ho : h.get? a = some (freshS w)) : SetN w h a [] #[] 0 (freshT w) :=
  ⟨⟨_, ho, ⟨rfl, rfl, rfl⟩, rfl⟩, rfl, ⟨List.Pairwise.nil, rfl, rfl, .inl rfl, fun x hx => (by cases hx), fun i h j hi => (by simp at hi)⟩, List.nodup_nil, fun p hp => (by cases hp), (by
    show _ ∨ (!w.params.followText "set-order") = true
    cases w.params.followText "set-order"
    · exact .inr rfl
    · exact .inl rfl), (by show 0 * 5 < 7 * 3; decide), (by show 0 < 64; decide)⟩
/-- set.update's loop over such tuples -/
theorem loop_n {I : Addr} {fp wr : List Addr} {G : Array GenState → Array GenState → Prop} {n : Nat} {Pv : Nat → Value → Prop} {St : Nat → Shared → Prop} {R : Result → Shared → Prop} (W : WalksS P w A.in1 I fp wr G n Pv St) (S : Addr) (hSf : S ∉ fp) (ks : RL) (hn : n = ks.length) (hfew : ks.length < 64)
    (hval : ∀ i v, Pv i v → ∃ p, ks[i]? = some p ∧ v = .ref p.1) (h0 : Heap) (hk : ∀ p ∈ ks, TP h0 p.2 p.1) (hS0 : h0.get? S = none) (hw0 : ∀ b ∈ wr, h0.get? b = none) (hu : A.in1.units + 8 < cLine) :
    ∀ (m i : Nat) (s : Shared), n - i = m → i ≤ n → St i s → (∀ b o, h0.get? b = some o → s.heap.get? b = some o) → (∃ L es ep t, SetN w s.heap S L es ep t ∧ Has ks i L) →
      (∀ s' L es ep t, Moved (S :: wr) G s s' → SetN w s'.heap S L es ep t → Has ks n L → (∀ b o, h0.get? b = some o → s'.heap.get? b = some o) → R (.ok (.ret .none)) s') → codeAny (model P w) A (.builtin "set.update.loop" ⟨[.ref S, .ref I], []⟩) R s := by
  have hSw : S ∉ wr := fun h => hSf (W.sub _ h)
  have hsub : ∀ b ∈ wr, b ∈ S :: wr := fun b hb => List.mem_cons_of_mem _ hb
  have kpM : ∀ {s s' : Shared}, Moved wr G s s' → (∀ b o, h0.get? b = some o → s.heap.get? b = some o) → ∀ b o, h0.get? b = some o → s'.heap.get? b = some o := fun hm k b o e => hm.heap b o (fun hb => by rw [hw0 b hb] at e; cases e) (k b o e)
  have stay : ∀ {s s' : Shared} {L : RL} {i : Nat} {es ep t}, Moved wr G s s' → (∀ b o, h0.get? b = some o → s'.heap.get? b = some o) → SetN w s.heap S L es ep t → Has ks i L → SetN w s'.heap S L es ep t := fun hm k R g =>
    R.keep (fun o e => hm.heap S o hSw e) fun p hp => (hk p (List.mem_of_mem_take (g.sub p hp))).keep fun o e => k _ o e
  intro m
  induction m with
  | zero =>
    intro i s hm0 hi hst k ⟨L, es, ep, t, hS, g⟩ hR
    obtain rfl : i = n := by omega
    refine codeAny_builtin F.entry_set_update_loop ?_
    rw [Around.under_plainId F.plain_set_update_loop _]
    show wpAny _ A.in1 (pyNext (.ref I) >>= _) _ _ s
    refine wpAny_bind (W.done s _ _ hst fun s' hm => ?_)
    have k' := kpM hm k
    exact wpAny_pure (hR s' L es ep t (hm.mono hsub) (stay hm k' hS g) g k')
  | succ m ih =>
    intro i s hm0 hi hst k ⟨L, es, ep, t, hS, g⟩ hR
    have hlt : i < n := by omega
    refine codeAny_builtin F.entry_set_update_loop ?_
    rw [Around.under_plainId F.plain_set_update_loop _]
    show wpAny _ A.in1 (pyNext (.ref I) >>= _) _ _ s
    refine wpAny_bind (W.item i s _ _ hlt hst fun v s' hP hst' hm => ?_)
    obtain ⟨p, hp, rfl⟩ := hval i v hP
    have k' := kpM hm k
    have hS' := stay hm k' hS g
    have hx : TP s'.heap p.2 p.1 := (hk p (List.mem_of_getElem? hp)).keep fun o e => k' _ o e
    show wpAny _ A.in1 (holding [Value.ref p.1] (setAdd S (.ref p.1)) >>= _) _ _ s'
    refine wpAny_bind (wpAny_holding ?_)
    unfold setAdd
    refine wpAny_holding (wpAny_bind ((nestedKind P w).pyHash (k := tkey p.2) hu hx.is ?_))
    refine add_n (s := { s' with toks := s'.toks + (nestedKind P w).draws (tkey p.2) }) hS' hx hu (by have := g.len; omega) fun b h' L' es' ep' t' hsb hS2 c1 c2 => ?_
    have k2 : ∀ b o, h0.get? b = some o → h'.get? b = some o := fun b o e => (hsb.2 b (fun z => by rw [z, hS0] at e; cases e)).trans (k' b o e)
    refine wpAny_pure ⟨plainId_quiet F.plain_set_update_loop _, ih (i + 1) _ (by omega) hlt (W.frame _ s' _ _ hst' (Nat.le_add_right _ _) fun b hb o e => ?_) k2 ⟨L', es', ep', t', hS2, g.next hp c1 c2⟩ fun s'' L2 es2 ep2 t2 hm2 hS3 g3 k3 => ?_⟩
    · rw [hsb.2 b (fun z => hSf (by rw [← z]; exact hb))]; exact e
    · refine hR s'' L2 es2 ep2 t2 (Moved.trans W.gtrans ((hm.mono hsub).then_heap (Nat.le_add_right _ _) fun b o hb e => ?_) hm2) hS3 g3 k3
      rw [hsb.2 b (fun z => hb (by rw [z]; exact List.mem_cons_self))]; exact e
end
end G3
set_option maxHeartbeats 6400000
/-! G3: set(..) called; sorted(set(..)). -/
namespace G3
open PySem PySem.Spec PyProof.Rows L2
section
variable {P : Program} {w : World} {A : Around} {E : Value → Shared → Prop} {s : Shared}
theorem call_set_n {l : Addr} {items : Array Value} (ks : RL) {Q : Value → Shared → Prop} (hh : A.handled = none) (hl : s.heap.IsList l items) (hit : items.toList = ks.map fun p => Value.ref p.1) (hk : ∀ p ∈ ks, TP s.heap p.2 p.1) (hfew : ks.length < 64) (hu : A.units + 16 < cLine)
    (h : ∀ (h' : Heap) (tk : Nat) L es ep t, SetN w h' s.heap.objs.size L es ep t → Has ks ks.length L → (∀ b o, s.heap.get? b = some o → h'.get? b = some o) → Q (.ref s.heap.objs.size) { s with heap := h', toks := tk }) : wpAny (model P w) A (call (.type "set") [.ref l]) Q E s := by
  have hisz : items.size = ks.length := by rw [← Array.length_toList, hit, List.length_map]
  obtain ⟨c, tl, hmro⟩ := F.called_set.mro
  have hmade := F.called_set.made
  have hsub := F.called_set.sub
  refine wpAny_call (codeAny_of_tree ?_)
  show wpAny _ _ (callAny (.type "set") _) _ _ _
  refine wpAny_pure ⟨Code.quiet_builtin _ (by decide +kernel), codeAny_builtin F.entry_type_call ?_⟩
  rw [Around.under_plain (weight_type_call_type "set" [.ref l] []) rfl]
  have h1 := F.called_set.notType
  have h2 := F.called_set.canCreate
  have hct := F.typeCall_set_1 (.ref l)
  repeat (any_goals (first | assumption | wp_step))
  refine codeAny_mono (code_set_led1 (.ref l) (E := E) (Q₁ := fun obj s₁ => obj = .ref s.heap.objs.size ∧ s₁ = { s with heap := s.heap.push (freshS w) }) ⟨rfl, rfl⟩) fun r s₁ hr => ?_
  cases r with
  | error e => exact hr
  | ok fl => cases fl with
    | ret obj =>
      obtain ⟨rfl, rfl⟩ := hr
      have hS : (s.heap.push (freshS w)).get? s.heap.objs.size = some (freshS w) := Heap.get?_push_size _ rfl
      have hT : Shared.TypeIs { s with heap := s.heap.push (freshS w) } (.ref s.heap.objs.size) "set" := ⟨_, hS, rfl⟩
      have hli := F.called_set.init.lookup
      have hbi := F.called_set.init.bind (.ref s.heap.objs.size)
      repeat (any_goals (first | assumption | wp_step))
      refine codeAny_mono (codeAny_call_builtin (R := wants (fun r s₂ => r = .none ∧ ∃ h' tk L es ep t, s₂ = { s with heap := h', toks := tk } ∧ SetN w h' s.heap.objs.size L es ep t ∧ Has ks ks.length L ∧ (∀ b o, s.heap.get? b = some o → h'.get? b = some o)) E)
        F.called_set.init.plain F.entry_set_init (check_set_init_1 hT ?_)) fun r₂ s₂ hr₂ => ?_
      · obtain ⟨⟨ocls, odict, odata, oslots⟩, hol, hcl, nl, hdl⟩ := hl
        simp only at hcl hdl
        subst hcl hdl
        have hol' := Heap.get?_push_of_some (freshS w) hol
        have hsls := F.sub_list_set
        have hslf := F.sub_list_frozenset
        have hne : (Value.type "list" == Value.type "dict") = false := by decide
        have hl1 : (s.heap.push (freshS w)).IsList l items := ⟨_, hol', rfl, nl, rfl⟩
        unfold Builtin.«set.__init__» noKeywords Builtin.Frozenset.updateFrom
        generalize hPI : pyIter = PI
        wp_walk
        subst hPI
        refine wpAny_pyIter_list hl1 (wpAny_bind (wpAny_runValue ?_))
        have hlS : l < s.heap.objs.size := Heap.lt_size hol
        have hh3 : A.in1.in1.in1.handled = none := by simp [hh]
        have hz : (s.heap.push (freshS w)).objs.size = s.heap.objs.size + 1 := Heap.size_push ..
        have none_of : ∀ b, s.heap.objs.size ≤ b → s.heap.get? b = none := fun b hb => Heap.get?_none_of_le hb
        refine loop_n ((Walks.list hh3 _ l (by rw [hz]; exact Nat.ne_of_lt (Nat.lt_succ_of_lt hlS)) items).toS) s.heap.objs.size (by rw [hz]; intro q; exact (List.mem_cons.mp q).elim (fun q => absurd q (Nat.ne_of_lt (Nat.lt_succ_self _))) (fun q => absurd (List.mem_singleton.mp q).symm (Nat.ne_of_lt hlS))) ks hisz hfew (fun i v hv => ?_) s.heap hk (none_of _ (Nat.le_refl _)) (fun b hb => none_of b (by rw [List.mem_singleton.mp hb, hz]; exact Nat.le_succ _))
          (by show A.in1.in1.in1.units + 8 < cLine; have : A.in1.in1.in1.units = A.units + 3 := rfl; omega) (items.size - 0) 0 _ (by omega) (Nat.zero_le _) ⟨⟨_, Heap.get?_push_size _ rfl, rfl, rfl⟩, (hl1.push _)⟩ (fun b o e => Heap.get?_push_of_some _ (Heap.get?_push_of_some _ e))
          ⟨[], #[], 0, _, setN_fresh (Heap.get?_push_of_some _ hS), ⟨fun p h => (by cases h), fun p h => (by simp at h), Nat.le_refl _⟩⟩ fun s' L es ep t hm hS' g' hkp => ?_
        · have q : items.toList[i]? = some v := by rw [Array.getElem?_toList]; exact hv
          rw [hit, List.getElem?_map] at q
          cases hq : ks[i]? with
          | none => rw [hq] at q; cases q
          | some p => rw [hq] at q; exact ⟨p, rfl, (Option.some.inj q).symm⟩
        · obtain ⟨h', g2, d', tk', os'⟩ := s'
          cases (show g2 = s.gens from hm.gens)
          cases (show d' = s.drawn from hm.drawn)
          cases (show os' = s.os from hm.os)
          rw [hisz] at g'
          show wpAny _ _ _ _ _ _
          exact wpAny_pure (wpAny_pure ⟨rfl, h', tk', L, es, ep, t, rfl, hS', g', hkp⟩)
      · cases r₂ with
        | error e => exact hr₂
        | ok fl₂ => cases fl₂ with
          | ret r =>
            obtain ⟨rfl, h', tk, L, es, ep, t, rfl, hS', g', hk'⟩ := hr₂
            repeat (any_goals (first | assumption | wp_step))
            exact h _ _ _ _ _ _ hS' g' hk'
          | _ => exact hr₂.elim
    | _ => exact hr.elim
end
end G3
set_option maxHeartbeats 1600000
/-! G3: tuples of texts as data: their order. -/
namespace G3
open PySem PySem.Spec PySem.W PyProof.Rows L2
/-- a path as data -/
def pth (k : List Str) : D := .tup (k.map D.str)
/-- a path's letters -/
def cl (k : List Str) : List (List Nat) := k.map fun x => x.cps.toList
def txt : D → Option Str
  | .str x => some x
  | _ => none
def txts : List D → Option (List Str)
  | [] => some []
  | d :: l => (txt d).bind fun x => (txts l).map fun r => x :: r
def pthOf : D → Option (List Str)
  | .tup l => txts l
  | _ => none
theorem txt_eq {d : D} {x : Str} (h : txt d = some x) : d = .str x := by
  cases d with
  | str y => rw [Option.some.inj h]
  | _ => cases h
theorem txts_eq : ∀ {l : List D} {k : List Str}, txts l = some k → l = k.map D.str
  | [], k, h => by cases h; rfl
  | d :: l, k, h => by
    obtain ⟨x, hx, e⟩ := Option.bind_eq_some_iff.mp h
    obtain ⟨r, hr, e2⟩ := Option.map_eq_some_iff.mp e
    subst e2
    rw [txt_eq hx, txts_eq hr] <;> rfl
theorem pthOf_eq {d : D} {k : List Str} (h : pthOf d = some k) : d = pth k := by
  cases d with
  | tup l => rw [txts_eq (show txts l = some k from h)]; rfl
  | _ => cases h
theorem txts_map : ∀ k : List Str, txts (k.map D.str) = some k
  | [] => rfl
  | x :: k => by
    show (txt (.str x)).bind _ = _
    rw [txts_map k] <;> rfl
theorem pthOf_pth (k : List Str) : pthOf (pth k) = some k := txts_map k
theorem str_ext {x y : Str} (h : x.cps.toList = y.cps.toList) : x = y := by
  cases x; cases y
  simp only [Str.mk.injEq]
  exact Array.toList_inj.mp h
theorem cl_inj {j k : List Str} (h : cl j = cl k) : j = k := by
  induction j generalizing k with
  | nil => cases k with | nil => rfl | cons y k => simp [cl] at h
  | cons x j ih => cases k with
    | nil => simp [cl] at h
    | cons y k =>
      simp only [cl, List.map_cons, List.cons.injEq] at h
      rw [str_ext h.1, ih h.2]
theorem pth_inj {j k : List Str} (h : pth j = pth k) : j = k := by
  have e := congrArg pthOf h
  rw [pthOf_pth, pthOf_pth] at e
  exact Option.some.inj e
theorem toPys_str : ∀ k : List Str, toPys (fun _ => none) (k.map D.str) = some (k.map PyData.str)
  | [] => rfl
  | x :: k => by
    show (toPy (fun _ => none) (.str x)).bind _ = _
    rw [toPys_str k] <;> rfl
theorem toPy_pth (k : List Str) : toPy (fun _ => none) (pth k) = some (.tuple (k.map .str)) := by
  show (toPys _ _).map PyData.tuple = _
  rw [toPys_str] <;> rfl
theorem encD_pth (k : List Str) : encD (pth k) = .tuple (k.map .str) := by
  unfold encD
  rw [toPy_pth] <;> rfl
theorem alike_str (xs ys : List Str) : alikeAll (xs.map .str) (ys.map .str) = true := by
  induction xs generalizing ys with
  | nil => cases ys <;> simp [alikeAll]
  | cons x xs ih => cases ys with
    | nil => simp [alikeAll]
    | cons y ys => simp [alikeAll, alike, ih]
theorem alike_pth (j k : List Str) : alike (encD (pth j)) (encD (pth k)) = true := by
  rw [encD_pth, encD_pth]
  simpa [alike] using alike_str j k
theorem dataLt_txts : ∀ xs ys : List Str, rowLt (xs.map .str) (ys.map .str) = decide (cl xs < cl ys)
  | [], [] => by
    have e : rowLt [] [] = false := lex_irrefl _
    simp [e, cl]
  | [], y :: ys => by
    have e : rowLt [] (PyData.str y :: ys.map .str) = true := by
      unfold rowLt
      rw [toks_all_cons]
      simp only [keyToksAll]
      rw [lex_diff (O := itemOrd) (by simp)]
      rfl
    simpa [cl] using e
  | x :: xs, [] => by
    have e : rowLt (PyData.str x :: xs.map .str) [] = false := by
      unfold rowLt
      rw [toks_all_cons]
      simp only [keyToksAll]
      rw [lex_diff (O := itemOrd) (by simp)]
      rfl
    simpa [cl] using e
  | x :: xs, y :: ys => by
    have e : rowLt (PyData.str x :: xs.map .str) (PyData.str y :: ys.map .str) = if x = y then rowLt (xs.map .str) (ys.map .str) else decide (x.cps.toList < y.cps.toList) := by
      unfold rowLt
      rw [dataLt_cons (by simp [alike]), dataLt_str]
      simp only [PyData.eqv, beq_iff_eq]
    show rowLt (PyData.str x :: xs.map .str) (PyData.str y :: ys.map .str) = _
    rw [e]
    by_cases h : x = y
    · rw [if_pos h, dataLt_txts xs ys, h, decide_eq_decide]
      simp [cl, List.cons_lt_cons_iff]
    · rw [if_neg h, decide_eq_decide]
      have h' : x.cps.toList ≠ y.cps.toList := fun z => h (str_ext z)
      simp [cl, List.cons_lt_cons_iff, h']
/-- the order of paths -/
def ple (j k : List Str) : Bool := !decide (cl k < cl j)
theorem dataLe_pth (j k : List Str) : dataLe false encD (pth j) (pth k) = ple j k := by
  show (!dataLt (encD (pth k)) (encD (pth j))) = _
  rw [encD_pth, encD_pth, dataLt_tuple]
  exact congrArg _ (dataLt_txts k j)
theorem ple_antisymm {j k : List Str} (h1 : ple j k = true) (h2 : ple k j = true) : j = k := by
  simp only [ple, Bool.not_eq_true', decide_eq_false_iff_not] at h1 h2
  exact cl_inj (List.le_antisymm h1 h2)
theorem ple_total (j k : List Str) : (ple j k || ple k j) = true := by
  simp only [ple, Bool.or_eq_true, Bool.not_eq_true', decide_eq_false_iff_not]
  rcases List.le_total (cl j) (cl k) with h | h
  · exact .inl h
  · exact .inr h
theorem ple_trans (i j k : List Str) (h1 : ple i j = true) (h2 : ple j k = true) : ple i k = true := by
  simp only [ple, Bool.not_eq_true', decide_eq_false_iff_not] at h1 h2 ⊢
  exact List.le_trans (α := List Nat) h1 h2
def sortP (l : List (List Str)) : List (List Str) := l.mergeSort ple
theorem sortL_pth (l : List (List Str)) : sortL (l.map pth) = (sortP l).map pth := by
  unfold sortL sortP
  exact (List.map_mergeSort (s := dataLe false encD) (fun a _ b _ => (dataLe_pth a b).symm)).symm
theorem sortP_sorted (l : List (List Str)) : (sortP l).Pairwise fun j k => ple j k = true := List.pairwise_mergeSort ple_trans ple_total l
theorem sortP_perm (l : List (List Str)) : (sortP l).Perm l := List.mergeSort_perm _ _
/-- a row of paths in order is the sort of any other order of it -/
theorem sortP_of {a l : List (List Str)} (p : a.Perm l) (h : a.Pairwise fun j k => ple j k = true) : a = sortP l :=
  List.Perm.eq_of_pairwise (fun _ _ _ _ h1 h2 => ple_antisymm h1 h2) h (sortP_sorted l) (p.trans (sortP_perm l).symm)
theorem sortP_perms {a l : List (List Str)} (p : a.Perm l) : sortP a = sortP l := sortP_of ((sortP_perm a).trans p) (sortP_sorted a)
theorem okSort_pth (l : List (List Str)) (hl : l.length ≤ 4096) : okSort (l.map pth) = true := by
  have hs : sizeLine = 16777216 := by decide +kernel
  have dep : ∀ k : List Str, PyData.depthAll (k.map .str) ≤ 1 := fun k => by
    induction k with
    | nil => simp [PyData.depthAll]
    | cons x k ih => simp only [List.map_cons, PyData.depthAll, PyData.depth]; omega
  unfold okSort
  simp only [Bool.and_eq_true, decide_eq_true_eq, List.all_eq_true, List.length_map]
  refine ⟨by omega, fun d hd => ?_, fun d hd e he => ?_⟩
  · obtain ⟨k, _, rfl⟩ := List.mem_map.mp hd
    refine ⟨⟨rfl, by rw [toPy_pth]; rfl⟩, ?_⟩
    rw [encD_pth]
    have := dep k
    simp only [PyData.depth]
    omega
  · obtain ⟨j, _, rfl⟩ := List.mem_map.mp hd
    obtain ⟨k, _, rfl⟩ := List.mem_map.mp he
    exact alike_pth j k
end G3
set_option maxHeartbeats 1600000
/-! G3: sorted(set(a list of tuples of texts)). -/
namespace G3
open PySem PySem.Spec PySem.W PyProof.Rows L2
def nub : List (List Str) → List (List Str)
  | [] => []
  | x :: l => if x ∈ nub l then nub l else x :: nub l
theorem mem_nub {x : List Str} : ∀ {l : List (List Str)}, x ∈ nub l ↔ x ∈ l
  | [] => Iff.rfl
  | y :: l => by
    have ih := mem_nub (x := x) (l := l)
    unfold nub
    split
    · rename_i h
      constructor
      · intro q; exact List.mem_cons_of_mem _ (ih.mp q)
      · intro q
        rcases List.mem_cons.mp q with rfl | q
        · exact h
        · exact ih.mpr q
    · rw [List.mem_cons, List.mem_cons, ih]
theorem nub_nodup : ∀ l : List (List Str), (nub l).Nodup
  | [] => List.nodup_nil
  | y :: l => by
    unfold nub
    split
    · exact nub_nodup l
    · exact List.nodup_cons.mpr ⟨by assumption, nub_nodup l⟩
theorem nub_len : ∀ l : List (List Str), (nub l).length ≤ l.length
  | [] => Nat.le_refl _
  | y :: l => by
    have ih := nub_len l
    unfold nub
    split
    · exact Nat.le_succ_of_le ih
    · exact Nat.succ_le_succ ih
def pthsOf : List D → Option (List (List Str))
  | [] => some []
  | d :: l => (pthOf d).bind fun x => (pthsOf l).map fun r => x :: r
theorem pthsOf_eq : ∀ {l : List D} {ks : List (List Str)}, pthsOf l = some ks → l = ks.map pth
  | [], ks, h => by cases h; rfl
  | d :: l, k, h => by
    obtain ⟨x, hx, e⟩ := Option.bind_eq_some_iff.mp h
    obtain ⟨r, hr, e2⟩ := Option.map_eq_some_iff.mp e
    subst e2
    rw [pthOf_eq hx, pthsOf_eq hr] <;> rfl
theorem pthsOf_map : ∀ ks : List (List Str), pthsOf (ks.map pth) = some ks
  | [] => rfl
  | k :: ks => by
    show (pthOf (pth k)).bind _ = _
    rw [pthOf_pth, pthsOf_map ks] <;> rfl
/-- sorted(set(d)) -/
def kSortSet (b : Bool) : D → M D := fun d S => match sortSrc S d with
  | some l => match pthsOf l with
    | some ks => if ks.length < 64 then newL b ((sortP (nub ks)).map pth) S else none
    | none => none
  | none => none
def isLst (S : S3) (d : D) : Bool := match d with
  | .ref n => match S.ob n with
    | some (.lst l) => true
    | _ => false
  | d => true
def eSortSet (b : Bool) (f : ME) : ME := fun ρ S => (f ρ S).bind fun p => if isLst p.2 p.1 then kSortSet b p.1 p.2 else none
theorem perm_of_map {α β : Type} (f : α → β) {m : List β} {n : List β} (p : m.Perm n) : ∀ {l : List α}, n = l.map f → ∃ l' : List α, l'.Perm l ∧ m = l'.map f := by
  induction p with
  | nil => intro l e; exact ⟨l, List.Perm.refl _, e⟩
  | cons x p ih =>
    intro l e
    cases l with
    | nil => cases e
    | cons y l =>
      rw [List.map_cons, List.cons.injEq] at e
      obtain ⟨l', h1, h2⟩ := ih e.2
      exact ⟨y :: l', h1.cons y, by rw [List.map_cons, h2, e.1]⟩
  | swap x y p =>
    intro l e
    match l, e with
    | a :: b :: l, e =>
      simp only [List.map_cons, List.cons.injEq] at e
      exact ⟨b :: a :: l, List.Perm.swap _ _ _, by simp only [List.map_cons]; rw [e.1, e.2.1, e.2.2]⟩
  | trans p q ih1 ih2 =>
    intro l e
    obtain ⟨l1, h1, h2⟩ := ih2 e
    obtain ⟨l2, h3, h4⟩ := ih1 h2
    exact ⟨l2, h3.trans h1, h4⟩
section
variable {X : Cx} {g : G} {S : S3} {loc : Loc} {H : Hp}
theorem nksOf_txt : ∀ k : List Str, nksOf (k.map D.str) = some (k.map .text)
  | [] => rfl
  | x :: k => by
    show (nkOf (.str x)).bind _ = _
    rw [nksOf_txt k] <;> rfl
theorem nkOf_pth (k : List Str) : nkOf (pth k) = some (tkey k) := by
  show (nksOf _).map NestedKey.tup = _
  rw [nksOf_txt] <;> rfl
theorem tp_of {P : Program} {w : World} {h : Heap} (hok : HOk P w H h) {k : List Str} {a : Addr} (r : Rep g S loc H (pth k) (.ref a)) : TP h k a := by
  have n : NestedIs h (tkey k) (.ref a) := rep_nested hok r (nkOf_pth k) rfl
  unfold tkey at n
  cases n with
  | tup h1 h2 h3 h4 => exact ⟨_, _, _, h1, h2, h3, h4⟩
/-- the rows of the addresses -/
theorem rows_of : ∀ {ks : List (List Str)} {xs : List V}, Reps g S loc H (ks.map pth) xs → ∃ R : RL, R.map (·.2) = ks ∧ xs = R.map (fun p => V.ref p.1) ∧ ∀ p ∈ R, Rep g S loc H (pth p.2) (.ref p.1)
  | [], _, .nil => ⟨[], rfl, rfl, fun p h => by cases h⟩
  | k :: ks, _, .cons a r => by
    obtain ⟨R, h1, h2, h3⟩ := rows_of r
    cases a with
    | tup hp hr =>
      rename_i p _
      refine ⟨(p, k) :: R, by rw [List.map_cons, h1], by rw [List.map_cons, h2], fun q hq => ?_⟩
      rcases List.mem_cons.mp hq with rfl | hq
      · exact .tup hp hr
      · exact h3 q hq
theorem Inv.same {pins : List (Addr × Obj)} {σ : L2.St} {s s' : Shared} (I : Inv X pins σ H s) (k : ∀ b u, s.heap.get? b = some u → s'.heap.get? b = some u) (hg : s'.gens = s.gens) (ho : s'.os = s.os) : Inv X pins σ H s' := by
  obtain ⟨a1, a2, a3, a4, a5, a6, a7, a8, a9, a10, a11⟩ := L2.Inv.kept (t' := s'.toks) I k
  exact ⟨a1, by rw [ho]; exact a2, by rw [hg]; exact a3, a4, a5, a6, a7, a8, a9, a10, a11⟩
theorem reps_rows : ∀ {R : RL}, (∀ p ∈ R, Rep g S loc H (pth p.2) (.ref p.1)) → Reps g S loc H ((R.map (·.2)).map pth) (R.map fun p => V.ref p.1)
  | [], _ => .nil
  | p :: R, h => .cons (h p List.mem_cons_self) (reps_rows fun q hq => h q (List.mem_cons_of_mem _ hq))
theorem vals_rows : ∀ {R : RL}, Vals (R.map fun p => V.ref p.1) (R.map fun p => Value.ref p.1)
  | [] => .nil
  | _ :: _ => .cons rfl vals_rows
theorem rows_vals : ∀ {R : RL} {its : List Value}, Vals (R.map fun p => V.ref p.1) its → its = R.map fun p => Value.ref p.1
  | [], _, .nil => rfl
  | a :: R, _, .cons a1 a2 => by rw [rows_vals a2, (show _ = Value.ref a.1 from a1)] <;> rfl
theorem perm_nub {L R : RL} (hn : (L.map (·.2)).Nodup) (h : Has R R.length L) : (L.map (·.2)).Perm (nub (R.map (·.2))) := by
  refine (List.perm_ext_iff_of_nodup hn (nub_nodup _)).mpr fun x => ?_
  rw [mem_nub]
  constructor
  · intro hx
    obtain ⟨p, hp, rfl⟩ := List.mem_map.mp hx
    have := h.sub p hp
    rw [List.take_length] at this
    exact List.mem_map.mpr ⟨p, this, rfl⟩
  · intro hx
    obtain ⟨p, hp, rfl⟩ := List.mem_map.mp hx
    exact h.all p (by rw [List.take_length]; exact hp)
theorem qe_sortset {e : Expr} {f : ME} {p1 p2 pos1 pos2 : Pos} (hK : X.K = g.K) (hc : X.calm = true) (hu : X.A.units + 64 < cLine) (b : Bool) (he : PE X e (tE g f)) (gs : Gl X "sorted") (ms : X.mg "sorted" = none) (gt : Gl X "set") (mt : X.mg "set" = none)
    (hs1 : starEach [.Call (.Name "set" p2) [e] [] pos2] X.env = (false, eval (.Call (.Name "set" p2) [e] [] pos2) X.env) :: starEach [] X.env := by rfl) (hs2 : starEach [e] X.env = (false, eval e X.env) :: starEach [] X.env := by rfl) :
    PE X (.Call (.Name "sorted" p1) [.Call (.Name "set" p2) [e] [] pos2] [] pos1) (tE g (eSortSet b f)) := by
  refine ⟨fun pins s σ H Q I h => ?_⟩
  obtain ⟨S, loc, ρ, z, S', A, R, ek, q⟩ := h
  unfold eSortSet at ek
  obtain ⟨⟨d, S1⟩, ef, ek⟩ := Option.bind_eq_some_iff.mp ek
  simp only at ek
  split at ek
  · rename_i hil
    unfold kSortSet at ek
    split at ek
    · rename_i l hl
      split at ek
      · rename_i ks hks
        split at ek
        · rename_i h64
          refine wpAny_Call_Name_kw (ld_blt I gs ms (by rfl) ?_)
          refine PyProof.Rows.callWith_builtin1 ?_ hs1 rfl
          rw [hs1]
          show wpAny _ _ (spliced ((false, eval (.Call (.Name "set" p2) [e] [] pos2) X.env) :: [])) _ _ s
          refine Calls.spliced_cons ?_
          refine wpAny_Call_Name_kw (ld_blt I gt mt (by rfl) ?_)
          refine PyProof.Rows.callWith_type1 ?_ hs2 rfl
          rw [hs2]
          show wpAny _ _ (spliced ((false, eval e X.env) :: [])) _ _ s
          refine Calls.spliced_cons (thn (he.run pins s σ H (fun x H1 => ∃ loc1, Abs g S1 loc1 H1 ∧ Ext S loc H S1 loc1 H1 ∧ Rep g S1 loc1 H1 d x) I ⟨S, loc, ρ, d, S1, A, R, ef, fun w loc' H' a b c => ⟨loc', a, b, c⟩⟩) fun u s1 ⟨x, H1, I1, r1, loc1, A1, x1, rd⟩ => Calls.spliced_nil ?_)
          have lst : ∀ (p : Addr) (ys : List V), x = .ref p → SqL g.K H1 p ys → Reps g S1 loc1 H1 l ys → wpAny (model X.prog X.w) X.A (call (.type "set") [u]) (fun v s₁ => wpAny (model X.prog X.w) X.A (spliced []) (fun vs s₂ => wpAny (model X.prog X.w) X.A (call (.builtin "sorted") (v :: vs)) (EP X pins σ Q) X.xe s₂) X.xe s₁) X.xe s1 := fun p ys ex hsq ry => by
            subst ex
            cases (show u = Value.ref p from r1)
            obtain ⟨its, rv, pl, hz⟩ := I1.list (by rw [hK]; exact hsq)
            rw [pthsOf_eq hks] at ry
            obtain ⟨RR, hR1, hR2, hR3⟩ := rows_of ry
            have hits : its = RR.map fun p => Value.ref p.1 := rows_vals (by rw [← hR2]; exact rv)
            have hRl : RR.length = ks.length := by rw [← hR1, List.length_map]
            have hh : X.A.handled = none := I1.ok.hd hc
            refine call_set_n RR hh pl.isList hits (fun p hp => tp_of I1.hok (hR3 p hp)) (by omega) (by omega) fun h' tk L es ep t hS hH kp => Calls.spliced_nil ?_
            obtain ⟨o, ho, hex, hd⟩ := hS.ob
            have hfw := hS.few
            have hsz := rowsN_size hS.rows
            refine sorted_any (collect_set (A := X.A.in1) (s := { s1 with heap := h', toks := tk }) hh ⟨o, ho, hex.1, hd⟩ (hS.fits (s := { s1 with heap := h', toks := tk })) (by unfold scanBound; omega) hS.tab.ris hS.led fun s2 out kp2 hz2 g2 o2 pm => ?_)
            have hes : es.toList.map (·.2) = L.map fun q => Value.ref q.1 := by
              rw [hS.rows]
              unfold rowsN
              rw [List.map_map] <;> rfl
            rw [hes] at pm
            obtain ⟨L', pL, eL⟩ := perm_of_map (fun q : Addr × List Str => Value.ref q.1) pm rfl
            have I2 : Inv X pins σ H1 s2 := Inv.same I1 (fun b u hb => kp2 b u (kp b u hb)) g2 o2
            have inR : ∀ p ∈ L', p ∈ RR := fun p hp => by
              have := hH.sub p (pL.mem_iff.mp hp)
              rwa [List.take_length] at this
            have r2 := reps_rows fun p hp => hR3 p (inR p hp)
            have hlen : (L'.map (·.2)).length ≤ 4096 := by rw [List.length_map, pL.length_eq]; omega
            obtain ⟨bs, b1, b2, b3, b4, b5, b6, b7, b8⟩ := sort_pre (okSort_pth _ hlen) r2
            have es2 : sortL ((L'.map (·.2)).map pth) = (sortP (nub ks)).map pth := by
              rw [sortL_pth, sortP_perms ((pL.map (·.2)).trans (perm_nub hS.nd hH)), hR1]
            rw [es2] at b8
            have vo : Vals (L'.map fun p => V.ref p.1) out := by rw [eL]; exact vals_rows
            exact sort_end I2 (b2 out vo) (fun b hb => by rw [hK]; exact b3 b hb) b4 b5 (fun d hd => by show X.A.units + 1 + 1 + d.depth < cLine; have := b6 d hd; omega) b7 (newL_ok A1 b8 ek fun w loc' H' a x c => q w loc' H' a (x1.trans x) c)
          unfold sortSrc at hl
          split at hl
          · split at hl
            · rename_i n _ l' hn
              simp only [Option.some.injEq] at hl
              subst hl
              cases rd with
              | ref hlt =>
              obtain ⟨ys, hy, ry⟩ := A1.ob _ _ hn
              exact lst _ ys rfl (SqL.of hy) ry
            · rename_i n _ kvs hn
              exfalso
              unfold isLst at hil
              simp only [hn] at hil
              cases hil
            · cases hl
          · obtain ⟨p, ys, e, hs, ry⟩ := listOf_sq A1 rd hl
            exact lst p ys e hs ry
        · cases ek
      · cases ek
    · cases ek
  · cases ek
end
end G3
set_option maxHeartbeats 1600000
/-! G3: a tuple by a number. -/
namespace G3
open PySem PySem.Spec PySem.W PyProof.Rows L2
def kMulT : D → D → M D := fun d e S => match d, e with
  | .tup (x :: l), .int k => if 2 ≤ k ∧ k ≤ 1000 ∧ (x :: l).length ≤ 1000 then some (.tup (List.replicate k.toNat (x :: l)).flatten, S) else none
  | _, _ => none
section
variable {X : Cx} {g : G}
theorem op_MulT (hK : X.K = g.K) : OpR X (binaryOp .Mult) (rK2 g kMulT) := OpR.imp op_repT fun x y H Q h => by
  obtain ⟨S, loc, d, e, z, S', A, r1, r2, ek, q⟩ := h
  unfold kMulT at ek
  split at ek
  · split at ek
    · rename_i hz
      simp only [Option.some.injEq, Prod.mk.injEq] at ek
      obtain ⟨rfl, rfl⟩ := ek
      cases r2
      obtain ⟨p, xs, rfl, hs, ra⟩ := r1.tupSq
      have hl := ra.length
      refine ⟨p, _, xs, rfl, rfl, by rw [hK]; exact hs, fun e => by rw [e] at hl; simp at hl, hz.1, hz.2.1, by rw [← hl]; exact hz.2.2, fun p hp => ?_⟩
      exact q _ loc _ (A.same hp) (ext_same A hp) (.tup upd_same ((ra.rep _).ext A (ext_same A hp)))
    · cases ek
  · cases ek
end
end G3
set_option maxHeartbeats 1600000
/-! G3: a text in a tuple of texts. -/
namespace G3
open PySem PySem.Spec PySem.W PyProof.Rows L2
def kInT : D → D → M D := fun d e S => match d, e with
  | .str x, .tup l => match txts l with
    | some xs => some (.bl (decide (x ∈ xs)), S)
    | none => none
  | _, _ => none
section
variable {X : Cx} {g : G} {S : S3} {loc : Loc} {H : Hp}
theorem reps_txts : ∀ {k : List Str} {xs : List V}, Reps g S loc H (k.map D.str) xs → xs = k.map V.str
  | [], _, .nil => rfl
  | x :: k, _, .cons a b => by
    cases a
    rw [reps_txts (k := k) b, List.map_cons]
theorem inV_strs (x : Str) (k : List Str) : inV (.str x) (k.map V.str) = decide (x ∈ k) := by
  induction k with
  | nil => rfl
  | cons y k ih =>
    have e : inV (.str x) ((y :: k).map V.str) = ((y == x) || inV (.str x) (k.map V.str)) := rfl
    rw [e, ih]
    by_cases h : y = x
    · subst h; simp
    · have h' : ¬ x = y := fun z => h z.symm
      simp [h, h']
theorem flat_strs (k : List Str) : (k.map V.str).all flatV = true := by
  induction k with
  | nil => rfl
  | cons y k ih => rw [List.map_cons, List.all_cons, ih] <;> rfl
theorem op_InT (hK : X.K = g.K) : OpR X (compareOp .In) (rK2 g kInT) := OpR.imp op_in_seq fun x y H Q h => by
  obtain ⟨S, loc, d, e, z, S', A, r1, r2, ek, q⟩ := h
  unfold kInT at ek
  split at ek
  · split at ek
    · rename_i xs hx
      simp only [Option.some.injEq, Prod.mk.injEq] at ek
      obtain ⟨rfl, rfl⟩ := ek
      cases r1
      obtain ⟨p, ys, rfl, hs, rs⟩ := r2.tupSq
      rw [txts_eq hx] at rs
      have hy := reps_txts rs
      subst hy
      refine ⟨p, _, rfl, .inr (by rw [hK]; exact hs), rfl, flat_strs xs, ?_⟩
      rw [inV_strs]
      exact q _ loc H A .refl (.bl _)
    · cases ek
  · cases ek
end
end G3
set_option maxHeartbeats 4000000
/-! G3: a lambda handed to a def, its qualified name given. -/
namespace G3
open PySem PySem.Spec PySem.W PyProof.Rows L2
section
variable {X : Cx} {g : G}
theorem qe_word2 {x a : Str} {q : Str} {gg c : Addr} {k n : Nat} {pg : Arguments} {bg : List Stmt} {sg : Scope} {dV kV doc pm cdv ct oc : Value} {an od : Option Addr} {osl : Array (Option Value)} {Ng : List Str} {params : Arguments} {body : Expr} {scope : Scope} {ps : List Str} {d : Option Int} {fb : MEX} {is : List Nat} {wb : Addr → List V → MS} {p lpos pos p3 : Pos} {j}
    (hq : X.env.qual ++ "<lambda>" = q)
    (hg : Gl X x) (hm : X.mg x = some (.ref gg)) (hk : PySem.W.keepIn X.K (.ref gg) = true) (lk : X.K.lookup gg = some ⟨oc, od, .func (PySem.W.fnOf x x pg bg sg dV kV doc pm an cdv ct), osl⟩) (hcg : PySem.W.codeIn X.K cdv x = true) (hb : L2.Binds X.K (PySem.W.fnOf x x pg bg sg dV kV doc pm an cdv ct) [a] [])
    (Sg : FnScope Ng [a] sg) (hNg : Ng[0]? = some a) (hva : Vis sg a) (TB : LamX.TabB X.base X.mg c g.tp) (hcode : X.env.code = .ref c) (hr : Room (k + 2) X.A) (L : LamS2 X.env.scope scope ps) (hap : ∀ n ∈ ps, n ∉ X.N)
    (hdef : defaultsOf params X.env = (match d with | none => [] | some i => [eval (.Constant (.int i) j p3) X.env], [])) (hkw : params.kwonlyargs = []) (hne : cloFrom X.env.cells scope.names [] ≠ []) (hbind : LamBind q params body scope ps d)
    (hbody : ∀ (A : Around) (outer : List Env) (s : Shared) (H : Hp) (E : XK) (f c' : Addr), Room k (A.deeper (LamX.lamEnv X scope s.heap.objs.size f c')) → PE (LamX.lamCx X A outer s H E scope f c') body (tX g (fun cls d _ H => E cls d H) fb))
    (hW : ∀ (f : Addr) (vs : List V) (s : Shared) (H : Hp), Room (k + 1) (X.A.deeper (envOfC x sg s.heap.objs.size gg cdv)) →
      (∀ (W : WX) (pn : List (Addr × Obj)) (xe : Value → Shared → Prop) (p1 p2 : Pos), Takes ((cxOf CX0 X.prog X.w X.K X.mg X.base Ng x sg gg cdv X.A X.stack s H E0).tr pn xe) W →
        PE ((cxOf CX0 X.prog X.w X.K X.mg X.base Ng x sg gg cdv X.A X.stack s H E0).tr pn xe) (.Call (.Name a p1) [] [] p2) (tX g W (eAct 0 n q f vs X.N.length is fb))) →
      PSs (cxOf CX0 X.prog X.w X.K X.mg X.base Ng x sg gg cdv X.A X.stack s H E0).nox bg (tS g (fun _ _ _ _ => False) (wb f vs)))
    (hind : ∀ (f : Addr) (vs : List V) (ds : List D) (S : S3), fnM 1 Ng.length (wb f vs) [.adr f vs ds] S = fnM 1 Ng.length (wb 0 []) [.adr 0 [] ds] S)
    (hdb : (x == ("__debug__" : Str)) = false := by decide) (hda : (a == ("__debug__" : Str)) = false := by decide) (hcd : (a == ("__classdict__" : Str)) = false := by decide) :
    PE X (.Call (.Name x p) [.Lambda params body scope lpos] [] pos) (tE g (eWord Ng.length n q is wb)) := by
  subst hq
  exact qe_word hg hm hk lk hcg hb Sg hNg hva TB hcode hr L hap hdef hkw hne hbind hbody hW hind hdb hda hcd
end
end G3
set_option maxHeartbeats 4000000
/-! k08: the defs of the program and of the law, each as a function over data. Printed by gen8.py (MODE=defs), but for its head. -/
namespace K8
open PySem PySem.Spec PySem.W PyProof.Rows L2 G3
def b_is_whole : MS := (sRet (eAnd (op1 (kIsi "int") (eVar 0)) (eAnd (eNot (op1 (kIsi "bool") (eVar 0))) (eChain (kLe) (kLe) (eVar 1) (eVar 0) (eVar 2)))))
def f_is_whole : List D → M D := fnM 3 3 b_is_whole
def b_is_name : MS := (sSeq (sIf (bOr (bNot (bVal (op1 (kIsi "str") (eVar 0)))) (bNot (bVal (eChain (kLe) (kLe) (eC (.int 1)) (opn (kLen) (aCons (eVar 0) aNil)) (eC (.int 3)))))) (sRet (eC (.bl false))) sSkip)
  (sRet (op2 (kEq) (eLc false (iTxt (eVar 0)) (gN 1) (bVal (op2 (kInS true) (eVar 1) (eC (.str "abcdefghijklmnopqrstuvwxyz")))) (eVar 1) [1]) (opn (kLst false) aNil))))
def f_is_name : List D → M D := fnM 1 2 b_is_name
def b_is_path : MS := (sRet (eAnd (op1 (kIsi "tuple") (eVar 0)) (eAnd (op2 (kLe) (opn (kLen) (aCons (eVar 0) aNil)) (eC (.int 4))) (op2 (kEq) (eLc false (iTupl (eVar 0)) (gN 1) (bNot (bVal (opn f_is_name (aCons (eVar 1) aNil)))) (eVar 1) [1]) (opn (kLst false) aNil)))))
def f_is_path : List D → M D := fnM 1 2 b_is_path
def b_is_within : MS := (sRet (op2 (kEq) (eSl (kSl false) (eVar 0) oNone (oSome (opn (kLen) (aCons (eVar 1) aNil)))) (eVar 1)))
def f_is_within : List D → M D := fnM 2 2 b_is_within
def b_is_key : MS := (sRet (eAnd (op1 (kIsi "tuple") (eVar 0)) (eAnd (op2 (kEq) (opn (kLen) (aCons (eVar 0) aNil)) (eC (.int 2))) (eAnd (opn f_is_path (aCons (op2 kIx (eVar 0) (eC (.int 0))) aNil)) (opn f_is_whole (aCons (op2 kIx (eVar 0) (eC (.int 1))) (aCons (eC (.int 0)) (aCons (eC (.int 999)) aNil))))))))
def f_is_key : List D → M D := fnM 1 1 b_is_key
def b_need_tree : MS := (sFor (iRng (aCons (opn (kLen) (aCons (eVar 0) aNil)) aNil)) (gN 1) (sSeq (sIf (bOr (bVal (op2 (kGe) (eVar 1) (eC (.int 60)))) (bNot (bVal (opn f_is_key (aCons (op2 kIx (eVar 0) (eVar 1)) aNil))))) (sRaise (eVar 1)) sSkip)
  (sIf (bAnd (bVal (op2 (kGt) (eVar 1) (eC (.int 0)))) (bVal (op2 (kGeD) (op2 kIx (op2 kIx (eVar 0) (op2 (kSub) (eVar 1) (eC (.int 1)))) (eC (.int 0))) (op2 kIx (op2 kIx (eVar 0) (eVar 1)) (eC (.int 0)))))) (sRaise (eVar 1)) sSkip)))
def f_need_tree : MX := fnX 1 2 b_need_tree
def b_branches : MS := (sSeq (sSet 2 eDNew)
  (sSeq (sFor (iTupl (eVar 0)) (gN 3) (sLock (eVar 3) (sFor (iKey (eVar 3)) (gN 4) (sIf (bAnd (bVal (op2 (kGt) (opn (kLen) (aCons (eVar 4) aNil)) (opn (kLen) (aCons (eVar 1) aNil)))) (bVal (opn f_is_within (aCons (eVar 4) (aCons (eVar 1) aNil))))) (sSub kSetD (eVar 2) (eSl (kSl false) (eVar 4) oNone (oSome (op2 (kAdd false) (opn (kLen) (aCons (eVar 1) aNil)) (eC (.int 1))))) (eC (.bl true))) sSkip))))
  (sRet (opn (kSorted false) (aCons (eVar 2) aNil)))))
def f_branches : List D → M D := fnM 2 5 b_branches
def b_own_change : MS := (sSeq (sIf (bVal (op2 (kEq) (eDGet1 (eVar 0) (eVar 2)) (eDGet1 (eVar 1) (eVar 2)))) (sRet (opn (kLst true) aNil)) sSkip)
  (sRet (eIf (bVal (op2 (kInD false) (eVar 2) (eVar 1))) (opn (kLst true) (aCons (opn kTup (aCons (eC (.str "set")) (aCons (eVar 2) (aCons (op2 kDGet (eVar 1) (eVar 2)) aNil)))) aNil)) (opn (kLst true) (aCons (opn kTup (aCons (eC (.str "drop")) (aCons (eVar 2) aNil))) aNil)))))
def f_own_change : List D → M D := fnM 3 3 b_own_change
def b_best (self : List D → M D) : MS := (sSeq (sSet 3 (opn f_own_change (aCons (eVar 0) (aCons (eVar 1) (aCons (eVar 2) aNil)))))
  (sSeq (sFor (iSeq (opn f_branches (aCons (opn kTup (aCons (eVar 0) (aCons (eVar 1) aNil))) (aCons (eVar 2) aNil)))) (gN 4) (sSet 3 (op2 (kAdd true) (eVar 3) (opn self (aCons (eVar 0) (aCons (eVar 1) (aCons (eVar 4) aNil)))))))
  (sSeq (sIf (bVal (op2 (kLt) (opn (kLen) (aCons (eVar 3) aNil)) (eC (.int 2)))) (sRet (eVar 3)) sSkip)
  (sSeq (sSet 5 (op2 (kAdd true) (opn (kLst false) (aCons (opn kTup (aCons (eC (.str "clear")) (aCons (eVar 2) aNil))) aNil)) (eLc false (iSeq (opn (kSorted false) (aCons (eVar 1) aNil))) (gN 4) (bVal (opn f_is_within (aCons (eVar 4) (aCons (eVar 2) aNil)))) (opn kTup (aCons (eC (.str "set")) (aCons (eVar 4) (aCons (op2 kDGet (eVar 1) (eVar 4)) aNil)))) [4])))
  (sRet (eIf (bVal (op2 (kLt) (opn (kLen) (aCons (eVar 5) aNil)) (opn (kLen) (aCons (eVar 3) aNil)))) (eVar 5) (eVar 3)))))))
def f_best : Nat → List D → M D
  | 0 => fnM 3 6 sNever
  | n + 1 => fnM 3 6 (b_best (f_best n))
def b_fewest : MS := (sSeq (sExpX (opX f_need_tree (aCons (eVar 0) aNil)))
  (sSeq (sExpX (opX f_need_tree (aCons (eVar 1) aNil)))
  (sRet (opn (f_best 7) (aCons (opn (kDictOf) (aCons (eVar 0) aNil)) (aCons (opn (kDictOf) (aCons (eVar 1) aNil)) (aCons (opn kTup aNil) aNil)))))))
def f_fewest : MX := fnX 2 2 b_fewest
def b__law_taken : MS := (sSeq (sIf (bVal (op2 (kGt) (op2 kIx (eVar 0) (eC (.int 3))) (eC (.int 0)))) (sSeq (sSet 3 (op2 (kMod) (op2 kIx (eVar 0) (eC (.int 3))) (eVar 1)))
  (sSeq (sSub kSetL (eVar 0) (eC (.int 3)) (op2 (kDiv) (op2 kIx (eVar 0) (eC (.int 3))) (eVar 1)))
  (sRet (eVar 3)))) sSkip)
  (sSeq (sSub kSetL (eVar 0) (eC (.int 1)) (op2 (kAdd false) (op2 kIx (eVar 0) (eC (.int 1))) (eC (.int 1))))
  (sSeq (sIf (bVal (op2 (kGt) (op2 kIx (eVar 0) (eC (.int 1))) (opn (kLen) (aCons (op2 kIx (eVar 0) (eC (.int 0))) aNil)))) (sSeq (sSub kSetL (eVar 0) (eC (.int 2)) (op2 (kMod) (op2 (kAdd false) (op2 (kMul false) (op2 kIx (eVar 0) (eC (.int 2))) (eC (.int 48271))) (eC (.int 11))) (eC (.int 2147483647))))
  (sRet (op2 (kMod) (op2 (kDiv) (op2 kIx (eVar 0) (eC (.int 2))) (eC (.int 7))) (eVar 1)))) sSkip)
  (sSeq (sSet 2 (op2 kIx (op2 kIx (eVar 0) (eC (.int 0))) (op2 (kSub) (op2 kIx (eVar 0) (eC (.int 1))) (eC (.int 1)))))
  (sSeq (sSub kSetL (eVar 0) (eC (.int 2)) (op2 (kMod) (op2 (kAdd false) (op2 (kAdd false) (op2 (kMul false) (op2 kIx (eVar 0) (eC (.int 2))) (eC (.int 48271))) (eVar 2)) (eC (.int 11))) (eC (.int 2147483647))))
  (sSeq (sIf (bVal (op2 (kGe) (eVar 2) (op2 (kPow) (eC (.int 10)) (eC (.int 18))))) (sSub kSetL (eVar 0) (eC (.int 3)) (op2 (kDiv) (eVar 2) (eVar 1))) sSkip)
  (sRet (op2 (kMod) (eVar 2) (eVar 1)))))))))
def f__law_taken : List D → M D := fnM 2 4 b__law_taken
def b__law_alike (self : List D → M D) : MS := (sSeq (sIf (bVal (op1 (kIsi "dict") (eVar 1))) sNever sSkip)
  (sSeq (sIf (bOr (bVal (op1 (kIsi "tuple") (eVar 1))) (bVal (op1 (kIsi "list") (eVar 1)))) (sSeq (sIf (bOr (bVal (op2 (kNe) (op1 (kIsi "tuple") (eVar 0)) (op1 (kIsi "tuple") (eVar 1)))) (bNot (bVal (op1 (kIsi2 "tuple" "list") (eVar 0))))) (sRet (eC (.bl false))) sSkip)
  (sSeq (sIf (bVal (op2 (kNe) (opn (kLen) (aCons (eVar 0) aNil)) (opn (kLen) (aCons (eVar 1) aNil)))) (sRet (eC (.bl false))) sSkip)
  (sRet (op2 (kEq) (eLc false (iRng (aCons (opn (kLen) (aCons (eVar 1) aNil)) aNil)) (gN 3) (bNot (bVal (opn self (aCons (op2 kIx (eVar 0) (eVar 3)) (aCons (op2 kIx (eVar 1) (eVar 3)) aNil))))) (eVar 3) [3]) (opn (kLst false) aNil))))) sSkip)
  (sSeq (sIf (bOr (bVal (op2 (kIs) (eVar 1) (eC .non))) (bVal (op2 (kIs) (eVar 0) (eC .non)))) (sRet (eAnd (op2 (kIs) (eVar 1) (eC .non)) (op2 (kIs) (eVar 0) (eC .non)))) sSkip)
  (sSeq (sIf (bOr (bVal (op1 (kIsi "bool") (eVar 1))) (bVal (op1 (kIsi "bool") (eVar 0)))) (sRet (eAnd (op1 (kIsi "bool") (eVar 1)) (eAnd (op1 (kIsi "bool") (eVar 0)) (op2 (kEq) (eVar 0) (eVar 1))))) sSkip)
  (sSeq (sIf (bVal (op1 (kIsi "str") (eVar 1))) (sRet (eAnd (op1 (kIsi "str") (eVar 0)) (op2 (kEq) (eVar 0) (eVar 1)))) sSkip)
  (sRet (eAnd (op1 (kIsi "int") (eVar 0)) (op2 (kEq) (eVar 0) (eVar 1)))))))))
def f__law_alike : Nat → List D → M D
  | 0 => fnM 2 4 sNever
  | n + 1 => fnM 2 4 (b__law_alike (f__law_alike n))
def b__law_done : MS := (sSeq (sAsg (gT [2, 3]) (eSl (kSl false) (eVar 1) oNone (oSome (eC (.int 2)))))
  (sSeq (sSet 4 (eLc false (iTupl (eVar 0)) (gN 5) (bVal (op2 (kNe) (op2 kIx (eVar 5) (eC (.int 0))) (eVar 3))) (eVar 5) [5]))
  (sSeq (sIf (bVal (op2 (kEq) (eVar 2) (eC (.str "clear")))) (sSet 4 (eLc false (iTupl (eVar 0)) (gN 5) (bVal (op2 (kNe) (eSl (kSl false) (op2 kIx (eVar 5) (eC (.int 0))) oNone (oSome (opn (kLen) (aCons (eVar 3) aNil)))) (eVar 3))) (eVar 5) [5])) sSkip)
  (sRet (eIf (bVal (op2 (kEq) (eVar 2) (eC (.str "set")))) (opn (kTuple) (aCons (opn (kSorted false) (aCons (op2 (kAdd false) (eVar 4) (opn (kLst false) (aCons (opn kTup (aCons (eVar 3) (aCons (op2 kIx (eVar 1) (eC (.int 2))) aNil))) aNil))) aNil)) aNil)) (opn (kTuple) (aCons (eVar 4) aNil)))))))
def f__law_done : List D → M D := fnM 2 6 b__law_done
def b__law_fewest : MS := (sSeq (sPar3 2 3 4 (aCons (eNst1 (eVar 0)) (aCons (eC (.int 0)) (aCons (opn (kLst false) (aCons (eVar 0) aNil)) aNil))))
  (sSeq (sSet 5 (eLc false (iTupl (eVar 1)) (gN 7) bYes (op2 (kAdd false) (opn kTup (aCons (eC (.str "set")) aNil)) (eVar 7)) [7]))
  (sSeq (sSet 6 (opn (kLst true) aNil))
  (sSeq (sFor (iTupl (eVar 0)) (gN 7) (sSet 6 (op2 (kAdd false) (eVar 6) (eLc false (iRng (aCons (op2 (kAdd false) (opn (kLen) (aCons (op2 kIx (eVar 7) (eC (.int 0))) aNil)) (eC (.int 1))) aNil)) (gN 13) bYes (eSl (kSl false) (op2 kIx (eVar 7) (eC (.int 0))) oNone (oSome (eVar 13))) [13]))))
  (sSeq (sFor (iSeq (eSortSet false (eVar 6))) (gN 8) (sSet 5 (op2 (kAdd false) (eVar 5) (opn (kLst false) (aCons (opn kTup (aCons (eC (.str "drop")) (aCons (eVar 8) aNil))) (aCons (opn kTup (aCons (eC (.str "clear")) (aCons (eVar 8) aNil))) aNil))))))
  (sSeq (whileM (bVal (op2 (kNotInN) (eVar 1) (eVar 2))) (sSeq (sSet 9 (opn (kLst true) aNil))
  (sSeq (sFor (iSeq (eVar 4)) (gN 10) (sFor (iSeq (eVar 5)) (gN 11) (sSeq (sSet 12 (opn f__law_done (aCons (eVar 10) (aCons (eVar 11) aNil))))
  (sIf (bVal (op2 (kNotInN) (eVar 12) (eVar 2))) (sSeq (sSub kSetN (eVar 2) (eVar 12) (eC (.bl true)))
  (sExp (eBm "list" kAppend (eVar 9) (aCons (eVar 12) aNil)))) sSkip))))
  (sPar 4 3 (aCons (eVar 9) (aCons (op2 (kAdd false) (eVar 3) (eC (.int 1))) aNil))))) 12)
  (sRet (eVar 3))))))))
def f__law_fewest : List D → M D := fnM 2 14 b__law_fewest
def b__law_tree : MS := (sSeq (sSet 2 eDNew)
  (sSeq (sFor (iRng (aCons (opn f__law_taken (aCons (eVar 0) (aCons (op2 (kAdd false) (eVar 1) (eC (.int 1))) aNil))) aNil)) (gN 3) (sSeq (sSet 4 (opn (kTuple) (aCons (eLc false (iRng (aCons (opn f__law_taken (aCons (eVar 0) (aCons (eC (.int 4)) aNil))) aNil)) (gN 5) bYes (op2 kIx (eC (.str "ab")) (opn f__law_taken (aCons (eVar 0) (aCons (eC (.int 2)) aNil)))) [5]) aNil)))
  (sSub kSetD (eVar 2) (eVar 4) (opn f__law_taken (aCons (eVar 0) (aCons (eC (.int 3)) aNil))))))
  (sRet (eLc false (iSeq (opn (kSorted false) (aCons (eVar 2) aNil))) (gN 4) bYes (opn kTup (aCons (eVar 4) (aCons (op2 kDGet (eVar 2) (eVar 4)) aNil))) [4]))))
def f__law_tree : List D → M D := fnM 2 6 b__law_tree
def b__law_bad : MS := (sSeq (sSet 2 (op2 kIx (opn (kLst false) (aCons (eC (.int 0)) (aCons (opn f__law_taken (aCons (eVar 0) (aCons (op2 (kPow) (eC (.int 10)) (eC (.int 6))) aNil))) aNil))) (opn f__law_taken (aCons (eVar 0) (aCons (eC (.int 2)) aNil)))))
  (sSeq (sSet 3 (opn f__law_taken (aCons (eVar 0) (aCons (op2 (kAdd false) (opn (kLen) (aCons (eVar 1) aNil)) (eC (.int 1))) aNil))))
  (sSeq (sSet 4 (opn (kLst false) (aCons (opn kTup (aCons (op2 kMulT (opn kTup (aCons (eC (.str "a")) aNil)) (eC (.int 5))) (aCons (eC (.int 1)) aNil))) (aCons (opn kTup (aCons (opn kTup (aCons (eC (.str "A")) aNil)) (aCons (eC (.int 1)) aNil))) (aCons (opn kTup (aCons (opn kTup (aCons (eC (.str "zzzz")) aNil)) (aCons (eC (.int 1)) aNil))) (aCons (opn kTup (aCons (opn kTup (aCons (eC (.str "zz")) (aCons (eC (.str "z")) aNil))) (aCons (op2 (kAdd false) (eC (.int 1000)) (eVar 2)) aNil))) (aCons (opn kTup (aCons (opn kTup (aCons (eC (.str "zz")) aNil)) (aCons (op2 (kSub) (op2 (kSub) (eC (.int 0)) (eC (.int 1))) (eVar 2)) aNil))) aNil)))))))
  (sSeq (sSet 4 (op2 (kAdd false) (eVar 4) (opn (kLst false) (aCons (opn kTup (aCons (opn kTup (aCons (eC (.str "zz")) aNil)) (aCons (eC (.bl true)) aNil))) (aCons (opn kTup (aCons (eC (.str "zz")) (aCons (eC (.int 1)) aNil))) (aCons (opn kTup (aCons (opn kTup (aCons (eC (.str "zz")) aNil)) aNil)) (aCons (opn kTup (aCons (opn kTup (aCons (eC (.str "zz")) aNil)) (aCons (eC (.int 1)) (aCons (eC (.int 1)) aNil)))) (aCons (opn kTup aNil) (aCons (eC (.int 5)) aNil)))))))))
  (sSeq (sIf (bAnd (bVal (op2 (kNe) (eVar 1) (opn (kLst false) aNil))) (bVal (op2 (kEq) (opn f__law_taken (aCons (eVar 0) (aCons (eC (.int 4)) aNil))) (eC (.int 3))))) (sSeq (sSet 5 (opn f__law_taken (aCons (eVar 0) (aCons (opn (kLen) (aCons (eVar 1) aNil)) aNil))))
  (sRet (opn kTup (aCons (op2 (kAdd false) (op2 (kAdd false) (eSl (kSl false) (eVar 1) oNone (oSome (op2 (kAdd false) (eVar 5) (eC (.int 1))))) (opn (kLst false) (aCons (opn kTup (aCons (op2 kIx (op2 kIx (eVar 1) (eVar 5)) (eC (.int 0))) (aCons (eC (.int 7)) aNil))) aNil))) (eSl (kSl false) (eVar 1) (oSome (op2 (kAdd false) (eVar 5) (eC (.int 1)))) oNone)) (aCons (op2 (kAdd false) (eVar 5) (eC (.int 1))) aNil))))) sSkip)
  (sSeq (sIf (bAnd (bVal (op2 (kNe) (eVar 1) (opn (kLst false) aNil))) (bVal (op2 (kEq) (opn f__law_taken (aCons (eVar 0) (aCons (eC (.int 6)) aNil))) (eC (.int 5))))) (sRet (opn kTup (aCons (op2 (kAdd false) (eVar 1) (opn (kLst false) (aCons (op2 kIx (eVar 1) (opn f__law_taken (aCons (eVar 0) (aCons (opn (kLen) (aCons (eVar 1) aNil)) aNil)))) aNil))) (aCons (opn (kLen) (aCons (eVar 1) aNil)) aNil)))) sSkip)
  (sRet (opn kTup (aCons (op2 (kAdd false) (op2 (kAdd false) (eSl (kSl false) (eVar 1) oNone (oSome (eVar 3))) (opn (kLst false) (aCons (op2 kIx (eVar 4) (opn f__law_taken (aCons (eVar 0) (aCons (eC (.int 11)) aNil)))) aNil))) (eSl (kSl false) (eVar 1) (oSome (eVar 3)) oNone)) (aCons (eVar 3) aNil))))))))))
def f__law_bad : List D → M D := fnM 2 6 b__law_bad
def s__law_word (a dd : Addr) : MS := (sSeq (sSet 2 (opn (kLst false) (aCons (eIsE 1 a dd false) (aCons (eIsE 1 a dd false) (aCons (eIsE 1 a dd false) (aCons (eIsE 1 a dd false) aNil))))))
  (sSeq (sSet 2 (op2 (kAdd true) (eVar 2) (opn (kLst false) (aCons (eIsE 1 a dd false) (aCons (eIsE 1 a dd true) (aCons (eIsE 1 a dd false) aNil))))))
  (sSeq (sExp (eBm "list" kAppend (eVar 2) (aCons (eIsE 1 a dd false) aNil)))
  (sSeq (sIf (bOr (bVal (op2 (kNe) (eBm "list" kCountL (eVar 2) (aCons (eC (.bl true)) aNil)) (eC (.int 1)))) (bNot (bVal (eIsE 1 a dd true)))) (sRet (opn kTup (aCons (eC (.str "other")) (aCons (eC (.int 0)) aNil)))) sSkip)
  (sSeq (sSet 3 (op2 kIx (opn (kLst false) (aCons (eC (.str "panes")) (aCons (eC (.str "pane")) (aCons (eC (.str "path")) (aCons (eC (.str "author")) (aCons (eC (.str "change")) (aCons (eC (.str "tree")) (aCons (eC (.str "watch")) (aCons (eC (.str "stop")) aNil))))))))) (eBm "list" kIndexL (eVar 2) (aCons (eC (.bl true)) aNil))))
  (sRet (opn kTup (aCons (eVar 3) (aCons (eIf (bVal (op2 (kInT) (eVar 3) (opn kTup (aCons (eC (.str "change")) (aCons (eC (.str "tree")) aNil))))) (eNum 1 a dd) (eC (.int 0))) aNil)))))))))
def b__law_word (act : MEX) : MS := sSeq (sTry 1 4 (sExpX act) s__law_word) (sRet (eC .non))
def lamq : Str := "law.<locals>.<lambda>"
def l0_law : MEX := (opX f_fewest (aCons (eVar 11) (aCons (eVar 13) aNil)))
def l1_law : MEX := (opX f_fewest (aCons (eVar 6) (aCons (eVar 13) aNil)))
def l2_law : MEX := (opX f_fewest (aCons (opn (kLst false) aNil) (aCons (eSl (kSl false) (eVar 3) oNone (oSome (eC (.int 61)))) aNil)))
def l3_law : MEX := (opX f_fewest (aCons (eSl (kSl false) (eVar 3) oNone (oSome (eC (.int 60)))) (aCons (opn (kLst false) aNil) aNil)))
def sl_0 : MS := (sSet 1 (opn (kLst true) (aCons (eVar 0) (aCons (eC (.int 0)) (aCons (eC (.int 0)) (aCons (eC (.int 0)) aNil))))))
def sl_1 : MS := (sAsg (gT [6, 7]) (opn kTup (aCons (opn f__law_tree (aCons (eVar 1) (aCons (eC (.int 4)) aNil))) (aCons (opn f__law_tree (aCons (eVar 1) (aCons (eC (.int 4)) aNil))) aNil))))
def sl_2 : MS := (sSet 8 (opn (kLst false) (aCons (opn (kList false) (aCons (eVar 6) aNil)) (aCons (opn (kList false) (aCons (eVar 7) aNil)) aNil))))
def sl_3 : MS := (sSet 9 (opn f__law_fewest (aCons (opn (kTuple) (aCons (eVar 6) aNil)) (aCons (opn (kTuple) (aCons (eVar 7) aNil)) aNil))))
def sl_4 : MS := (sSet 15 (opn (calmF f_fewest) (aCons (op2 kIx (eVar 8) (eC (.int 0))) (aCons (op2 kIx (eVar 8) (eC (.int 1))) aNil))))
def sl_5 : MS := (sIf (bOr (bNot (bVal (op1 (kIsi "list") (eVar 15)))) (bOr (bVal (op2 (kNe) (opn (kLen) (aCons (eVar 15) aNil)) (eVar 9))) (bVal (op2 (kNe) (eVar 8) (opn (kLst false) (aCons (eVar 6) (aCons (eVar 7) aNil))))))) (sRet (eC (.bl false))) sSkip)
def sl_6 : MS := (sSet 16 (opn (kTuple) (aCons (eVar 6) aNil)))
def sl_7 : MS := (sSet 16 (opn f__law_done (aCons (eVar 16) (aCons (eVar 17) aNil))))
def sl_8 : MS := (sIf (bNot (bVal (opn (f__law_alike 7) (aCons (opn (kList false) (aCons (eVar 16) aNil)) (aCons (eVar 7) aNil))))) (sRet (eC (.bl false))) sSkip)
def sl_9 : MS := (sExp (eBm "list" kAppend (eVar 15) (aCons (opn kTup aNil) aNil)))
def sl_10 : MS := (sAsg (gT [11, 12]) (opn f__law_bad (aCons (eVar 1) (aCons (eVar 6) aNil))))
def sl_11 : MS := (sAsg (gT [13, 14]) (opn f__law_bad (aCons (eVar 1) (aCons (eVar 7) aNil))))
def sl_12 : MS := (sIf (bVal (op2 (kNe) (eWord 4 0 lamq [11, 13] (fun f vs => b__law_word (eAct 0 0 lamq f vs 19 [11, 13] l0_law))) (opn kTup (aCons (eC (.str "tree")) (aCons (eVar 12) aNil))))) (sRet (eC (.bl false))) sSkip)
def sl_13 : MS := (sIf (bVal (op2 (kNe) (eWord 4 0 lamq [6, 13] (fun f vs => b__law_word (eAct 0 0 lamq f vs 19 [6, 13] l1_law))) (opn kTup (aCons (eC (.str "tree")) (aCons (eVar 14) aNil))))) (sRet (eC (.bl false))) sSkip)
def sl_14 : MS := (sSet 3 (opn (kLst false) aNil))
def sl_15 : MS := (sSet 3 (op2 (kAdd false) (eVar 3) (eLc false (iTxt (eC (.str "ijklmnop"))) (gN 18) bYes (opn kTup (aCons (opn kTup (aCons (eVar 4) (aCons (eVar 18) aNil))) (aCons (eC (.int 5)) aNil))) [18])))
def sl_16 : MS := (sSet 5 (opn (kLst false) (aCons (eWord 4 0 lamq [3] (fun f vs => b__law_word (eAct 0 0 lamq f vs 19 [3] l3_law))) (aCons (eWord 4 0 lamq [3] (fun f vs => b__law_word (eAct 0 0 lamq f vs 19 [3] l2_law))) aNil))))
def sl_17 : MS := (sRet (eAnd (op2 (kEq) (eVar 5) (opn (kLst false) (aCons (eC .non) (aCons (opn kTup (aCons (eC (.str "tree")) (aCons (eC (.int 60)) aNil))) aNil)))) (op2 (kEq) (opn (kLen) (aCons (opn (calmF f_fewest) (aCons (eSl (kSl false) (eVar 3) oNone (oSome (eC (.int 60)))) (aCons (opn (kLst false) aNil) aNil))) aNil)) (eC (.int 1)))))
def b_law : MS := (sSeq sl_0
  (sSeq (sFor (iRng (aCons (eC (.int 4)) aNil)) (gN 2) (sSeq sl_1
  (sSeq sl_2
  (sSeq sl_3
  (sSeq (sFor (iRng (aCons (eC (.int 2)) aNil)) (gN 10) (sSeq sl_4
  (sSeq sl_5
  (sSeq sl_6
  (sSeq (sFor (iSeq (eVar 15)) (gN 17) sl_7)
  (sSeq sl_8
  sl_9))))))
  (sSeq sl_10
  (sSeq sl_11
  (sSeq sl_12
  sl_13))))))))
  (sSeq sl_14
  (sSeq (sFor (iTxt (eC (.str "abcdefgh"))) (gN 4) sl_15)
  (sSeq sl_16
  sl_17)))))
def f_law : List D → M D := fnM 1 19 b_law
end K8
set_option maxHeartbeats 4000000
/-! k08: the defs of the program, each as a function over data. Printed by gen8.py, but for its head. -/
namespace K8
open PySem PySem.Spec PySem.W PyProof.Rows L2 G3
def top (i : Nat) : Stmt := PySem.Challenge.pw_hivekeys_k08_fewest_by_trying_all.main.body.getD i (.Pass ⟨0, 0, 0, 0⟩)
abbrev st_ini : Stmt := inClass (top 7) 0
abbrev st_is_whole : Stmt := top 15
abbrev st_is_name : Stmt := top 16
abbrev st_is_path : Stmt := top 17
abbrev st_is_within : Stmt := top 18
abbrev st_is_key : Stmt := top 21
abbrev st_need_tree : Stmt := top 22
abbrev st_branches : Stmt := top 23
abbrev st_own_change : Stmt := top 24
abbrev st_best : Stmt := top 25
abbrev st_fewest : Stmt := top 26
abbrev st__law_taken : Stmt := top 28
abbrev st__law_alike : Stmt := top 29
abbrev st__law_word : Stmt := top 30
abbrev st__law_done : Stmt := top 37
abbrev st__law_fewest : Stmt := top 38
abbrev st__law_tree : Stmt := top 39
abbrev st__law_bad : Stmt := top 40
abbrev st_law : Stmt := top 41
/-- what is asked of a def -/
structure Df (K : PySem.W.Frag) (mg : Str → Option Value) (x : Str) (st : Stmt) (ps : List Str) where
  a : Addr
  d : FuncData
  F : L2.Fun K x x st a d
  b : L2.Binds K d ps []
  m : mg x = some (.ref a)
structure Txt (g : G) (w : World) (mg : Str → Option Value) where
  hs : g.hs = fun k => k.hash w
  is_whole : Df g.K mg "is_whole" st_is_whole ["thing", "low", "high"]
  is_name : Df g.K mg "is_name" st_is_name ["thing"]
  is_path : Df g.K mg "is_path" st_is_path ["thing"]
  is_within : Df g.K mg "is_within" st_is_within ["path", "outer"]
  is_key : Df g.K mg "is_key" st_is_key ["key"]
  need_tree : Df g.K mg "need_tree" st_need_tree ["tree"]
  branches : Df g.K mg "branches" st_branches ["trees", "path"]
  own_change : Df g.K mg "own_change" st_own_change ["before", "after", "path"]
  best : Df g.K mg "best" st_best ["before", "after", "path"]
  fewest : Df g.K mg "fewest" st_fewest ["before", "after"]
  _law_taken : Df g.K mg "_law_taken" st__law_taken ["_law_row", "_law_many"]
  _law_alike : Df g.K mg "_law_alike" st__law_alike ["_law_found", "_law_due"]
  _law_word : Df g.K mg "_law_word" st__law_word ["_law_work"]
  _law_done : Df g.K mg "_law_done" st__law_done ["_law_tree_here", "_law_change_here"]
  _law_fewest : Df g.K mg "_law_fewest" st__law_fewest ["_law_before", "_law_after"]
  _law_tree : Df g.K mg "_law_tree" st__law_tree ["_law_row", "_law_most"]
  _law_bad : Df g.K mg "_law_bad" st__law_bad ["_law_row", "_law_tree_here"]
  ini_a : Addr
  ini_d : FuncData
  ini_F : L2.Fun g.K "__init__" "BadTree.__init__" st_ini ini_a ini_d
  ini_b : L2.Binds g.K ini_d ["self", "number"] []
  bt_T : OexC g.K g.bt
  bt_i : PySem.W.findIn g.K (.ref g.bt) "__init__" = some (some (.ref ini_a))
  bt_t : PySem.W.typeIn g.K (.ref ini_a) = some (.type "function")
  bt_m : mg "BadTree" = some (.ref g.bt)
  bt_n : PySem.W.findIn g.K (.ref g.bt) "number" = some none
  bt_C : ExcC g.K g.bt
  bt_X : XfC g.K g.bt
  bt_s : (PySem.W.clsIn g.K g.bt).isSome = true
  z_ValueError : mg "ValueError" = none
  k_ValueError : PySem.W.kitOne g.K (.ref g.bt) (.type "ValueError") = some true
  a_BadPanes : Addr
  m_BadPanes : mg "BadPanes" = some (.ref a_BadPanes)
  k_BadPanes : PySem.W.kitOne g.K (.ref g.bt) (.ref a_BadPanes) = some false
  a_BadPane : Addr
  m_BadPane : mg "BadPane" = some (.ref a_BadPane)
  k_BadPane : PySem.W.kitOne g.K (.ref g.bt) (.ref a_BadPane) = some false
  a_BadPath : Addr
  m_BadPath : mg "BadPath" = some (.ref a_BadPath)
  k_BadPath : PySem.W.kitOne g.K (.ref g.bt) (.ref a_BadPath) = some false
  a_BadAuthor : Addr
  m_BadAuthor : mg "BadAuthor" = some (.ref a_BadAuthor)
  k_BadAuthor : PySem.W.kitOne g.K (.ref g.bt) (.ref a_BadAuthor) = some false
  a_BadChange : Addr
  m_BadChange : mg "BadChange" = some (.ref a_BadChange)
  k_BadChange : PySem.W.kitOne g.K (.ref g.bt) (.ref a_BadChange) = some false
  a_BadTree : Addr
  m_BadTree : mg "BadTree" = some (.ref a_BadTree)
  k_BadTree : PySem.W.kitOne g.K (.ref g.bt) (.ref a_BadTree) = some true
  a_NoWatch : Addr
  m_NoWatch : mg "NoWatch" = some (.ref a_NoWatch)
  k_NoWatch : PySem.W.kitOne g.K (.ref g.bt) (.ref a_NoWatch) = some false
  a_BadStop : Addr
  m_BadStop : mg "BadStop" = some (.ref a_BadStop)
  k_BadStop : PySem.W.kitOne g.K (.ref g.bt) (.ref a_BadStop) = some false
  he_a : Addr
  he_x : PySem.W.exmOne g.K (.ref g.bt) (.ref he_a) = some true
  he_m : mg "HiveError" = some (.ref he_a)
  he_r : ClX.CRead g.K he_a (.type "type")
  he_v : PySem.W.findCls g.K (.ref he_a) (.type "type") "__init__" = some (.val (.builtin "ValueError.__init__"))
  z_len : mg "len" = none
  z_range : mg "range" = none
  z_isinstance : mg "isinstance" = none
  z_sorted : mg "sorted" = none
  z_set : mg "set" = none
  z_int : mg "int" = none
  z_str : mg "str" = none
  z_bool : mg "bool" = none
  z_tuple : mg "tuple" = none
  z_list : mg "list" = none
  z_dict : mg "dict" = none
  u_LETTERS : Value
  c_LETTERS : mg "LETTERS" = some u_LETTERS ∧ ∃ t, u_LETTERS = .str "abcdefghijklmnopqrstuvwxyz" t
  u_MOST_NAME : Value
  c_MOST_NAME : mg "MOST_NAME" = some u_MOST_NAME ∧ ∃ t, u_MOST_NAME = .int 3 t
  u_MOST_DEEP : Value
  c_MOST_DEEP : mg "MOST_DEEP" = some u_MOST_DEEP ∧ ∃ t, u_MOST_DEEP = .int 4 t
  u_MOST_WORTH : Value
  c_MOST_WORTH : mg "MOST_WORTH" = some u_MOST_WORTH ∧ ∃ t, u_MOST_WORTH = .int 999 t
  u_MOST_KEYS : Value
  c_MOST_KEYS : mg "MOST_KEYS" = some u_MOST_KEYS ∧ ∃ t, u_MOST_KEYS = .int 60 t
theorem u1 {k : Nat} {A : Around} (r : Room k A) : A.units + 1 < cLine := by have := r.un; omega
theorem u64 {k : Nat} {A : Around} (r : Room k A) : A.units + 64 < cLine := by have := r.un; omega
theorem u65 {k : Nat} {A : Around} (r : Room k A) : A.units + 65 < cLine := by have := r.un; omega
section
variable {P : Program} {w : World} {g : G} {mg : Str → Option Value} {base : Heap}
theorem qss_never {X : Cx} {W : WX} {sts : List Stmt} : PSs X sts (tS g W sNever) := ⟨fun pins s σ H D I h => by obtain ⟨_, _, _, _, _, _, _, _, e, _⟩ := h; cases e⟩
theorem sc_ini : FnScope ["self", "number"] ["self", "number"] (defScope st_ini) := ⟨rfl, rfl, rfl, by decide +kernel, rfl, by decide +kernel, by decide +kernel⟩
theorem ok_ini (T : Txt g w mg) : FnOk P w g.K mg base CX0 1 T.ini_a T.ini_d ["self", "number"] (spIni g.bt) :=
  ini_ok T.ini_F sc_ini fun cdv A outer s H E hr => pss_ini T.bt_T T.bt_n (pe_baseinit (by rfl) T.he_m T.he_r T.he_v (pa_cons (pv 0) (pa_cons (pv 1) pa_nil)) (by decide) (by rfl)) (pv 0) (pv 1)
theorem sc_is_whole : FnScope ["thing", "low", "high"] ["thing", "low", "high"] (defScope st_is_whole) := ⟨rfl, rfl, rfl, by decide +kernel, rfl, by decide +kernel, by decide +kernel⟩
theorem ok_is_whole (T : Txt g w mg) : FnOk P w g.K mg base CX0 1 T.is_whole.a T.is_whole.d ["thing", "low", "high"] (spM g f_is_whole) :=
  fn_ok T.is_whole.F sc_is_whole fun cdv A outer s H E hr => (qss_one (qs_ret (qe_and (qe_isi (by rfl) (by rfl) T.z_isinstance (by rfl) (qe_var 0) (pe_bltn (by rfl) T.z_int (by rfl) (by rfl))) (qe_and (qe_not (qe_isi (by rfl) (by rfl) T.z_isinstance (by rfl) (qe_var 0) (pe_bltn (by rfl) T.z_bool (by rfl) (by rfl)))) (qe_one (qe_chain (op_Le) (op_Le) (qe_var 1) (qe_var 0) (qe_var 2)))))))

theorem sc_is_name : FnScope ["thing", "sign"] ["thing"] (defScope st_is_name) := ⟨rfl, rfl, rfl, by decide +kernel, rfl, by decide +kernel, by decide +kernel⟩
theorem ok_is_name (T : Txt g w mg) : FnOk P w g.K mg base CX0 1 T.is_name.a T.is_name.d ["thing"] (spM g f_is_name) :=
  fn_ok T.is_name.F sc_is_name fun cdv A outer s H E hr => (qss_cons (qs_if (PW.pt (qw_or (qt_not (qt_val (qe_isi (by rfl) (by rfl) T.z_isinstance (by rfl) (qe_var 0) (pe_bltn (by rfl) T.z_str (by rfl) (by rfl))))) (qw_or1 (qt_not (qt_chain (op_Le) (op_Le) qe_int (qe_callB (call_Len (by rfl)) (by rfl) T.z_len (by rfl) (qa_cons (qe_var 0) qa_nil)) (qe_globI (by rfl) T.c_MOST_NAME.1 T.c_MOST_NAME.2)))))) (qss_one (qs_ret qe_bl)) qss_nil)
    (qss_one (qs_ret (qe_cmp (op_Eq (by rfl) (u64 hr)) (qe_lc (own := [("sign", 1)]) false (by rfl) sc_is_name.nd (qi_str (qe_var 0)) (blkOk_by (by show blkC ["thing", "sign"] (defScope st_is_name) _ _ = true; decide +kernel)) (fun _ _ _ _ _ => (qg_name sc_is_name.nd (by rfl) (by first | exact Or.inl rfl | exact Or.inr rfl))) (fun _ _ _ _ _ => (qts_one (qt_cmp (op_NotInS) (qe_var 1) (qe_globS (by rfl) T.c_LETTERS.1 T.c_LETTERS.2) (by rfl)))) (fun _ _ _ _ _ => (qe_var 1))) (qe_lst false qa_nil) (by rfl)))))

theorem sc_is_path : FnScope ["thing", "name"] ["thing"] (defScope st_is_path) := ⟨rfl, rfl, rfl, by decide +kernel, rfl, by decide +kernel, by decide +kernel⟩
theorem ok_is_path (T : Txt g w mg) : FnOk P w g.K mg base CX0 2 T.is_path.a T.is_path.d ["thing"] (spM g f_is_path) :=
  fn_ok T.is_path.F sc_is_path fun cdv A outer s H E hr => (qss_one (qs_ret (qe_and (qe_isi (by rfl) (by rfl) T.z_isinstance (by rfl) (qe_var 0) (pe_bltn (by rfl) T.z_tuple (by rfl) (by rfl))) (qe_and (qe_cmp (op_Le) (qe_callB (call_Len (by rfl)) (by rfl) T.z_len (by rfl) (qa_cons (qe_var 0) qa_nil)) (qe_globI (by rfl) T.c_MOST_DEEP.1 T.c_MOST_DEEP.2) (by rfl)) (qe_one (qe_cmp (op_Eq (by rfl) (u64 hr)) (qe_lc (own := [("name", 1)]) false (by rfl) sc_is_path.nd (qi_tup (by rfl) (qe_var 0)) (blkOk_by (by show blkC ["thing", "name"] (defScope st_is_path) _ _ = true; decide +kernel)) (fun _ _ _ _ _ => (qg_name sc_is_path.nd (by rfl) (by first | exact Or.inl rfl | exact Or.inr rfl))) (fun _ _ _ _ _ => (qts_one (qt_not (qt_val (qe_call (ok_is_name T) (hr.mono (by decide)) (by rfl) T.is_name.m T.is_name.F.kp T.is_name.b (qa_cons (qe_var 1) qa_nil)))))) (fun _ _ _ _ _ => (qe_var 1))) (qe_lst false qa_nil) (by rfl)))))))

theorem sc_is_within : FnScope ["path", "outer"] ["path", "outer"] (defScope st_is_within) := ⟨rfl, rfl, rfl, by decide +kernel, rfl, by decide +kernel, by decide +kernel⟩
theorem ok_is_within (T : Txt g w mg) : FnOk P w g.K mg base CX0 1 T.is_within.a T.is_within.d ["path", "outer"] (spM g f_is_within) :=
  fn_ok T.is_within.F sc_is_within fun cdv A outer s H E hr => (qss_one (qs_ret (qe_cmp (op_Eq (by rfl) (u64 hr)) (qe_sl (sl_Seq (by rfl) false) (qe_var 0) qo_none (qo_some (qe_callB (call_Len (by rfl)) (by rfl) T.z_len (by rfl) (qa_cons (qe_var 1) qa_nil)))) (qe_var 1) (by rfl))))

theorem sc_is_key : FnScope ["key"] ["key"] (defScope st_is_key) := ⟨rfl, rfl, rfl, by decide +kernel, rfl, by decide +kernel, by decide +kernel⟩
theorem ok_is_key (T : Txt g w mg) : FnOk P w g.K mg base CX0 3 T.is_key.a T.is_key.d ["key"] (spM g f_is_key) :=
  fn_ok T.is_key.F sc_is_key fun cdv A outer s H E hr => (qss_one (qs_ret (qe_and (qe_isi (by rfl) (by rfl) T.z_isinstance (by rfl) (qe_var 0) (pe_bltn (by rfl) T.z_tuple (by rfl) (by rfl))) (qe_and (qe_cmp (op_Eq (by rfl) (u64 hr)) (qe_callB (call_Len (by rfl)) (by rfl) T.z_len (by rfl) (qa_cons (qe_var 0) qa_nil)) qe_int (by rfl)) (qe_and (qe_call (ok_is_path T) (hr.mono (by decide)) (by rfl) T.is_path.m T.is_path.F.kp T.is_path.b (qa_cons (qe_ix (ix_Seq (by rfl)) (qe_var 0) qe_int) qa_nil)) (qe_one (qe_call (ok_is_whole T) (hr.mono (by decide)) (by rfl) T.is_whole.m T.is_whole.F.kp T.is_whole.b (qa_cons (qe_ix (ix_Seq (by rfl)) (qe_var 0) qe_int) (qa_cons qe_int (qa_cons (qe_globI (by rfl) T.c_MOST_WORTH.1 T.c_MOST_WORTH.2) qa_nil))))))))))

theorem sc_need_tree : FnScope ["tree", "number"] ["tree"] (defScope st_need_tree) := ⟨rfl, rfl, rfl, by decide +kernel, rfl, by decide +kernel, by decide +kernel⟩
theorem ok_need_tree (T : Txt g w mg) : FnOk P w g.K mg base (L2.CX P w) 4 T.need_tree.a T.need_tree.d ["tree"] (spX g f_need_tree) :=
  fnX_ok T.need_tree.F sc_need_tree fun cdv A outer s H E hr => (qss_one (qs_for (passes_of rfl) (by rfl) (qi_range1 (by rfl) T.z_range (qa_cons (qe_callB (call_Len (by rfl)) (by rfl) T.z_len (by rfl) (qa_cons (qe_var 0) qa_nil)) qa_nil)) (qg_name sc_need_tree.nd (by rfl) (by first | exact Or.inl rfl | exact Or.inr rfl)) (qss_cons (qs_if (PW.pt (qw_or (qt_cmp (op_Ge) (qe_var 1) (qe_globI (by rfl) T.c_MOST_KEYS.1 T.c_MOST_KEYS.2) (by rfl)) (qw_or1 (qt_not (qt_val (qe_call (ok_is_key T) (hr.mono (by decide)) (by rfl) T.is_key.m T.is_key.F.kp T.is_key.b (qa_cons (qe_ix (ix_Seq (by rfl)) (qe_var 0) (qe_var 1)) qa_nil))))))) (qss_one (qs_raise (by rfl) (takes_of rfl rfl rfl rfl) T.bt_T T.bt_i T.bt_t (ok_ini T) (hr.mono (by decide)) T.ini_b (by rfl) T.bt_m (qe_var 1))) qss_nil)
    (qss_one (qs_if (PW.pt (qw_and (qt_cmp (op_Gt) (qe_var 1) qe_int (by rfl)) (qw_and1 (qt_cmp (op_GeD (by rfl) (u64 hr)) (qe_ix (ix_Seq (by rfl)) (qe_ix (ix_Seq (by rfl)) (qe_var 0) (qe_op (op_Sub) (qe_var 1) qe_int)) qe_int) (qe_ix (ix_Seq (by rfl)) (qe_ix (ix_Seq (by rfl)) (qe_var 0) (qe_var 1)) qe_int) (by rfl))))) (qss_one (qs_raise (by rfl) (takes_of rfl rfl rfl rfl) T.bt_T T.bt_i T.bt_t (ok_ini T) (hr.mono (by decide)) T.ini_b (by rfl) T.bt_m (qe_var 1))) qss_nil)))))

theorem sc_branches : FnScope ["trees", "path", "found", "tree", "one"] ["trees", "path"] (defScope st_branches) := ⟨rfl, rfl, rfl, by decide +kernel, rfl, by decide +kernel, by decide +kernel⟩
theorem ok_branches (T : Txt g w mg) : FnOk P w g.K mg base CX0 2 T.branches.a T.branches.d ["trees", "path"] (spM g f_branches) :=
  fn_ok T.branches.F sc_branches fun cdv A outer s H E hr => (qss_cons (qs_set (i := 2) sc_branches.nd (by rfl) (by first | exact Or.inl rfl | exact Or.inr rfl) qe_dnew)
    (qss_cons (qs_for PassesOwn.never (by rfl) (qi_tup (by rfl) (qe_var 0)) (qg_name sc_branches.nd (by rfl) (by first | exact Or.inl rfl | exact Or.inr rfl)) (qss_one (qs_lock (qs_for PassesOwn.never (by rfl) (qi_key (qe_var 3)) (qg_name sc_branches.nd (by rfl) (by first | exact Or.inl rfl | exact Or.inr rfl)) (qss_one (qs_if (PW.pt (qw_and (qt_cmp (op_Gt) (qe_callB (call_Len (by rfl)) (by rfl) T.z_len (by rfl) (qa_cons (qe_var 4) qa_nil)) (qe_callB (call_Len (by rfl)) (by rfl) T.z_len (by rfl) (qa_cons (qe_var 1) qa_nil)) (by rfl)) (qw_and1 (qt_val (qe_call (ok_is_within T) (hr.mono (by decide)) (by rfl) T.is_within.m T.is_within.F.kp T.is_within.b (qa_cons (qe_var 4) (qa_cons (qe_var 1) qa_nil))))))) (qss_one (qs_sub qe_bl (qe_var 2) (qe_sl (sl_Seq (by rfl) false) (qe_var 4) qo_none (qo_some (qe_op (op_Add false) (qe_callB (call_Len (by rfl)) (by rfl) T.z_len (by rfl) (qa_cons (qe_var 1) qa_nil)) qe_int))) (set_D (u1 hr)))) qss_nil))))))
    (qss_one (qs_ret (qe_callB (call_Sorted (by rfl) (by rfl) (u64 hr) false) (by rfl) T.z_sorted (by rfl) (qa_cons (qe_var 2) qa_nil))))))

theorem sc_own_change : FnScope ["before", "after", "path"] ["before", "after", "path"] (defScope st_own_change) := ⟨rfl, rfl, rfl, by decide +kernel, rfl, by decide +kernel, by decide +kernel⟩
theorem ok_own_change (T : Txt g w mg) : FnOk P w g.K mg base CX0 1 T.own_change.a T.own_change.d ["before", "after", "path"] (spM g f_own_change) :=
  fn_ok T.own_change.F sc_own_change fun cdv A outer s H E hr => (qss_cons (qs_if (qt_cmp (op_Eq (by rfl) (u64 hr)) (qe_dget1 (u1 hr) (qe_var 0) (qe_var 2) ⟨by rfl, by rfl, by rfl, by rfl⟩) (qe_dget1 (u1 hr) (qe_var 1) (qe_var 2) ⟨by rfl, by rfl, by rfl, by rfl⟩) (by rfl)) (qss_one (qs_ret (qe_lst true qa_nil))) qss_nil)
    (qss_one (qs_ret (qe_if (qt_cmp (op_InD (u1 hr)) (qe_var 2) (qe_var 1) (by rfl)) (qe_lst true (qa_cons (qe_tup (qa_cons qe_str (qa_cons (qe_var 2) (qa_cons (qe_dget (u1 hr) (qe_var 1) (qe_var 2) (by intro _ _; rfl)) qa_nil)))) qa_nil)) (qe_lst true (qa_cons (qe_tup (qa_cons qe_str (qa_cons (qe_var 2) qa_nil))) qa_nil))))))

theorem sc_best : FnScope ["before", "after", "path", "found", "one", "anew"] ["before", "after", "path"] (defScope st_best) := ⟨rfl, rfl, rfl, by decide +kernel, rfl, by decide +kernel, by decide +kernel⟩
theorem ok_best (T : Txt g w mg) : ∀ n, FnOk P w g.K mg base CX0 (n + 3) T.best.a T.best.d ["before", "after", "path"] (spM g (f_best n))
  | 0 => fn_ok T.best.F sc_best fun cdv A outer s H E hr => qss_never
  | n + 1 => by
    have ih := ok_best T n
    have hl : n + 1 + 3 = (n + 3) + 1 := by omega
    rw [hl]
    exact fn_ok T.best.F sc_best fun cdv A outer s H E hr => (qss_cons (qs_set (i := 3) sc_best.nd (by rfl) (by first | exact Or.inl rfl | exact Or.inr rfl) (qe_call (ok_own_change T) (hr.mono (by omega)) (by rfl) T.own_change.m T.own_change.F.kp T.own_change.b (qa_cons (qe_var 0) (qa_cons (qe_var 1) (qa_cons (qe_var 2) qa_nil)))))
    (qss_cons (qs_for PassesOwn.never (by rfl) (qi_list (by rfl) (qe_call (ok_branches T) (hr.mono (by omega)) (by rfl) T.branches.m T.branches.F.kp T.branches.b (qa_cons (qe_tup (qa_cons (qe_var 0) (qa_cons (qe_var 1) qa_nil))) (qa_cons (qe_var 2) qa_nil)))) (qg_name sc_best.nd (by rfl) (by first | exact Or.inl rfl | exact Or.inr rfl)) (qss_one (qs_set (i := 3) sc_best.nd (by rfl) (by first | exact Or.inl rfl | exact Or.inr rfl) (qe_op (op_Add true) (qe_var 3) (qe_call ih (hr.mono (by omega)) (by rfl) T.best.m T.best.F.kp T.best.b (qa_cons (qe_var 0) (qa_cons (qe_var 1) (qa_cons (qe_var 4) qa_nil))))))))
    (qss_cons (qs_if (qt_cmp (op_Lt) (qe_callB (call_Len (by rfl)) (by rfl) T.z_len (by rfl) (qa_cons (qe_var 3) qa_nil)) qe_int (by rfl)) (qss_one (qs_ret (qe_var 3))) qss_nil)
    (qss_cons (qs_set (i := 5) sc_best.nd (by rfl) (by first | exact Or.inl rfl | exact Or.inr rfl) (qe_op (op_Add true) (qe_lst false (qa_cons (qe_tup (qa_cons qe_str (qa_cons (qe_var 2) qa_nil))) qa_nil)) (qe_lc (own := [("one", 4)]) false (by rfl) sc_best.nd (qi_list (by rfl) (qe_callB (call_Sorted (by rfl) (by rfl) (u64 hr) false) (by rfl) T.z_sorted (by rfl) (qa_cons (qe_var 1) qa_nil))) (blkOk_by (by show blkC ["before", "after", "path", "found", "one", "anew"] (defScope st_best) _ _ = true; decide +kernel)) (fun _ _ _ _ _ => (qg_name sc_best.nd (by rfl) (by first | exact Or.inl rfl | exact Or.inr rfl))) (fun _ _ _ _ _ => (qts_one (qt_val (qe_call (ok_is_within T) (hr.mono (by omega)) (by rfl) T.is_within.m T.is_within.F.kp T.is_within.b (qa_cons (qe_var 4) (qa_cons (qe_var 2) qa_nil)))))) (fun _ _ _ _ _ => (qe_tup (qa_cons qe_str (qa_cons (qe_var 4) (qa_cons (qe_dget (u1 hr) (qe_var 1) (qe_var 4) (by intro _ _; rfl)) qa_nil))))))))
    (qss_one (qs_ret (qe_if (qt_cmp (op_Lt) (qe_callB (call_Len (by rfl)) (by rfl) T.z_len (by rfl) (qa_cons (qe_var 5) qa_nil)) (qe_callB (call_Len (by rfl)) (by rfl) T.z_len (by rfl) (qa_cons (qe_var 3) qa_nil)) (by rfl)) (qe_var 5) (qe_var 3))))))))

theorem sc_fewest : FnScope ["before", "after"] ["before", "after"] (defScope st_fewest) := ⟨rfl, rfl, rfl, by decide +kernel, rfl, by decide +kernel, by decide +kernel⟩
theorem ok_fewest (T : Txt g w mg) : FnOk P w g.K mg base (L2.CX P w) 12 T.fewest.a T.fewest.d ["before", "after"] (spX g f_fewest) :=
  fnX_ok T.fewest.F sc_fewest fun cdv A outer s H E hr => (qss_cons (qs_expX (qe_callX (takes_of rfl rfl rfl rfl) (ok_need_tree T) (hr.mono (by decide)) (by rfl) T.need_tree.m T.need_tree.F.kp T.need_tree.b (qa_cons (qe_var 0) qa_nil)))
    (qss_cons (qs_expX (qe_callX (takes_of rfl rfl rfl rfl) (ok_need_tree T) (hr.mono (by decide)) (by rfl) T.need_tree.m T.need_tree.F.kp T.need_tree.b (qa_cons (qe_var 1) qa_nil)))
    (qss_one (qs_ret (qe_call (ok_best T 7) (hr.mono (by decide)) (by rfl) T.best.m T.best.F.kp T.best.b (qa_cons (qe_callTy (call_DictOf (by rfl) (by rfl) (u64 hr)) (by rfl) T.z_dict (by rfl) (qa_cons (qe_var 0) qa_nil)) (qa_cons (qe_callTy (call_DictOf (by rfl) (by rfl) (u64 hr)) (by rfl) T.z_dict (by rfl) (qa_cons (qe_var 1) qa_nil)) (qa_cons (qe_tup qa_nil) qa_nil))))))))
end
end K8
set_option maxHeartbeats 4000000
/-! k08: the law's own defs, each as a function over data. Printed by gen8.py, but for its head. -/
namespace K8
open PySem PySem.Spec PySem.W PyProof.Rows L2 G3
section
variable {P : Program} {w : World} {g : G} {mg : Str → Option Value} {base : Heap}
theorem sc__law_taken : FnScope ["_law_row", "_law_many", "_law_cell", "_law_found"] ["_law_row", "_law_many"] (defScope st__law_taken) := ⟨rfl, rfl, rfl, by decide +kernel, rfl, by decide +kernel, by decide +kernel⟩
theorem ok__law_taken (T : Txt g w mg) : FnOk P w g.K mg base CX0 1 T._law_taken.a T._law_taken.d ["_law_row", "_law_many"] (spM g f__law_taken) :=
  fn_ok T._law_taken.F sc__law_taken fun cdv A outer s H E hr => (qss_cons (qs_if (qt_cmp (op_Gt) (qe_ix (ix_Seq (by rfl)) (qe_var 0) qe_int) qe_int (by rfl)) (qss_cons (qs_set (i := 3) sc__law_taken.nd (by rfl) (by first | exact Or.inl rfl | exact Or.inr rfl) (qe_op (op_Mod) (qe_ix (ix_Seq (by rfl)) (qe_var 0) qe_int) (qe_var 1)))
    (qss_cons (qs_sub (qe_op (op_Div) (qe_ix (ix_Seq (by rfl)) (qe_var 0) qe_int) (qe_var 1)) (qe_var 0) qe_int (set_L))
    (qss_one (qs_ret (qe_var 3))))) qss_nil)
    (qss_cons (qs_sub (qe_op (op_Add false) (qe_ix (ix_Seq (by rfl)) (qe_var 0) qe_int) qe_int) (qe_var 0) qe_int (set_L))
    (qss_cons (qs_if (qt_cmp (op_Gt) (qe_ix (ix_Seq (by rfl)) (qe_var 0) qe_int) (qe_callB (call_Len (by rfl)) (by rfl) T.z_len (by rfl) (qa_cons (qe_ix (ix_Seq (by rfl)) (qe_var 0) qe_int) qa_nil)) (by rfl)) (qss_cons (qs_sub (qe_op (op_Mod) (qe_op (op_Add false) (qe_op (op_Mul false) (qe_ix (ix_Seq (by rfl)) (qe_var 0) qe_int) qe_int) qe_int) qe_int) (qe_var 0) qe_int (set_L))
    (qss_one (qs_ret (qe_op (op_Mod) (qe_op (op_Div) (qe_ix (ix_Seq (by rfl)) (qe_var 0) qe_int) qe_int) (qe_var 1))))) qss_nil)
    (qss_cons (qs_set (i := 2) sc__law_taken.nd (by rfl) (by first | exact Or.inl rfl | exact Or.inr rfl) (qe_ix (ix_Seq (by rfl)) (qe_ix (ix_Seq (by rfl)) (qe_var 0) qe_int) (qe_op (op_Sub) (qe_ix (ix_Seq (by rfl)) (qe_var 0) qe_int) qe_int)))
    (qss_cons (qs_sub (qe_op (op_Mod) (qe_op (op_Add false) (qe_op (op_Add false) (qe_op (op_Mul false) (qe_ix (ix_Seq (by rfl)) (qe_var 0) qe_int) qe_int) (qe_var 2)) qe_int) qe_int) (qe_var 0) qe_int (set_L))
    (qss_cons (qs_if (qt_cmp (op_Ge) (qe_var 2) (qe_op (op_Pow) qe_int qe_int) (by rfl)) (qss_one (qs_sub (qe_op (op_Div) (qe_var 2) (qe_var 1)) (qe_var 0) qe_int (set_L))) qss_nil)
    (qss_one (qs_ret (qe_op (op_Mod) (qe_var 2) (qe_var 1))))))))))

theorem sc__law_alike : FnScope ["_law_found", "_law_due", "_law_name_here", "_law_k"] ["_law_found", "_law_due"] (defScope st__law_alike) := ⟨rfl, rfl, rfl, by decide +kernel, rfl, by decide +kernel, by decide +kernel⟩
theorem ok__law_alike (T : Txt g w mg) : ∀ n, FnOk P w g.K mg base CX0 (n + 1) T._law_alike.a T._law_alike.d ["_law_found", "_law_due"] (spM g (f__law_alike n))
  | 0 => fn_ok T._law_alike.F sc__law_alike fun cdv A outer s H E hr => qss_never
  | n + 1 => by
    have ih := ok__law_alike T n
    have hl : n + 1 + 1 = (n + 1) + 1 := by omega
    rw [hl]
    exact fn_ok T._law_alike.F sc__law_alike fun cdv A outer s H E hr => (qss_cons (qs_if (qt_val (qe_isi (by rfl) (by rfl) T.z_isinstance (by rfl) (qe_var 1) (pe_bltn (by rfl) T.z_dict (by rfl) (by rfl)))) qss_never qss_nil)
    (qss_cons (qs_if (PW.pt (qw_or (qt_val (qe_isi (by rfl) (by rfl) T.z_isinstance (by rfl) (qe_var 1) (pe_bltn (by rfl) T.z_tuple (by rfl) (by rfl)))) (qw_or1 (qt_val (qe_isi (by rfl) (by rfl) T.z_isinstance (by rfl) (qe_var 1) (pe_bltn (by rfl) T.z_list (by rfl) (by rfl))))))) (qss_cons (qs_if (PW.pt (qw_or (qt_cmp (op_Ne (by rfl) (u64 hr)) (qe_isi (by rfl) (by rfl) T.z_isinstance (by rfl) (qe_var 0) (pe_bltn (by rfl) T.z_tuple (by rfl) (by rfl))) (qe_isi (by rfl) (by rfl) T.z_isinstance (by rfl) (qe_var 1) (pe_bltn (by rfl) T.z_tuple (by rfl) (by rfl))) (by rfl)) (qw_or1 (qt_not (qt_val (qe_isi2 (by rfl) (by rfl) T.z_isinstance (by rfl) (qe_var 0) (pe_bltn (by rfl) T.z_tuple (by rfl) (by rfl)) (pe_bltn (by rfl) T.z_list (by rfl) (by rfl)))))))) (qss_one (qs_ret qe_bl)) qss_nil)
    (qss_cons (qs_if (qt_cmp (op_Ne (by rfl) (u64 hr)) (qe_callB (call_Len (by rfl)) (by rfl) T.z_len (by rfl) (qa_cons (qe_var 0) qa_nil)) (qe_callB (call_Len (by rfl)) (by rfl) T.z_len (by rfl) (qa_cons (qe_var 1) qa_nil)) (by rfl)) (qss_one (qs_ret qe_bl)) qss_nil)
    (qss_one (qs_ret (qe_cmp (op_Eq (by rfl) (u64 hr)) (qe_lc (own := [("_law_k", 3)]) false (by rfl) sc__law_alike.nd (qi_range1 (by rfl) T.z_range (qa_cons (qe_callB (call_Len (by rfl)) (by rfl) T.z_len (by rfl) (qa_cons (qe_var 1) qa_nil)) qa_nil)) (blkOk_by (by show blkC ["_law_found", "_law_due", "_law_name_here", "_law_k"] (defScope st__law_alike) _ _ = true; decide +kernel)) (fun _ _ _ _ _ => (qg_name sc__law_alike.nd (by rfl) (by first | exact Or.inl rfl | exact Or.inr rfl))) (fun _ _ _ _ _ => (qts_one (qt_not (qt_val (qe_call ih (hr.mono (by omega)) (by rfl) T._law_alike.m T._law_alike.F.kp T._law_alike.b (qa_cons (qe_ix (ix_Seq (by rfl)) (qe_var 0) (qe_var 3)) (qa_cons (qe_ix (ix_Seq (by rfl)) (qe_var 1) (qe_var 3)) qa_nil))))))) (fun _ _ _ _ _ => (qe_var 3))) (qe_lst false qa_nil) (by rfl)))))) qss_nil)
    (qss_cons (qs_if (PW.pt (qw_or (qt_cmp (op_Is) (qe_var 1) qe_non (by rfl)) (qw_or1 (qt_cmp (op_Is) (qe_var 0) qe_non (by rfl))))) (qss_one (qs_ret (qe_and (qe_cmp (op_Is) (qe_var 1) qe_non (by rfl)) (qe_one (qe_cmp (op_Is) (qe_var 0) qe_non (by rfl)))))) qss_nil)
    (qss_cons (qs_if (PW.pt (qw_or (qt_val (qe_isi (by rfl) (by rfl) T.z_isinstance (by rfl) (qe_var 1) (pe_bltn (by rfl) T.z_bool (by rfl) (by rfl)))) (qw_or1 (qt_val (qe_isi (by rfl) (by rfl) T.z_isinstance (by rfl) (qe_var 0) (pe_bltn (by rfl) T.z_bool (by rfl) (by rfl))))))) (qss_one (qs_ret (qe_and (qe_isi (by rfl) (by rfl) T.z_isinstance (by rfl) (qe_var 1) (pe_bltn (by rfl) T.z_bool (by rfl) (by rfl))) (qe_and (qe_isi (by rfl) (by rfl) T.z_isinstance (by rfl) (qe_var 0) (pe_bltn (by rfl) T.z_bool (by rfl) (by rfl))) (qe_one (qe_cmp (op_Eq (by rfl) (u64 hr)) (qe_var 0) (qe_var 1) (by rfl))))))) qss_nil)
    (qss_cons (qs_if (qt_val (qe_isi (by rfl) (by rfl) T.z_isinstance (by rfl) (qe_var 1) (pe_bltn (by rfl) T.z_str (by rfl) (by rfl)))) (qss_one (qs_ret (qe_and (qe_isi (by rfl) (by rfl) T.z_isinstance (by rfl) (qe_var 0) (pe_bltn (by rfl) T.z_str (by rfl) (by rfl))) (qe_one (qe_cmp (op_Eq (by rfl) (u64 hr)) (qe_var 0) (qe_var 1) (by rfl)))))) qss_nil)
    (qss_one (qs_ret (qe_and (qe_isi (by rfl) (by rfl) T.z_isinstance (by rfl) (qe_var 0) (pe_bltn (by rfl) T.z_int (by rfl) (by rfl))) (qe_one (qe_cmp (op_Eq (by rfl) (u64 hr)) (qe_var 0) (qe_var 1) (by rfl)))))))))))

theorem sc__law_done : FnScope ["_law_tree_here", "_law_change_here", "_law_word_here", "_law_path_here", "_law_left", "_law_key"] ["_law_tree_here", "_law_change_here"] (defScope st__law_done) := ⟨rfl, rfl, rfl, by decide +kernel, rfl, by decide +kernel, by decide +kernel⟩
theorem ok__law_done (T : Txt g w mg) : FnOk P w g.K mg base CX0 1 T._law_done.a T._law_done.d ["_law_tree_here", "_law_change_here"] (spM g f__law_done) :=
  fn_ok T._law_done.F sc__law_done fun cdv A outer s H E hr => (qss_cons (qs_asg (qe_sl (sl_Seq (by rfl) false) (qe_var 1) qo_none (qo_some qe_int)) (qg_tup (is := [2, 3]) (by rfl) (by rfl) (pgs_cons (pg_name (i := 2) sc__law_done.nd (by rfl) (by first | exact Or.inl rfl | exact Or.inr rfl)) (pgs_cons (pg_name (i := 3) sc__law_done.nd (by rfl) (by first | exact Or.inl rfl | exact Or.inr rfl)) pgs_nil))))
    (qss_cons (qs_setLc (own := [("_law_key", 5)]) (i := 4) false (by rfl) sc__law_done.nd (by rfl) (by rfl) (by rfl) (qi_tup (by rfl) (qe_var 0)) (blkOk_by (by show blkC ["_law_tree_here", "_law_change_here", "_law_word_here", "_law_path_here", "_law_left", "_law_key"] (defScope st__law_done) _ _ = true; decide +kernel)) (fun _ _ _ _ _ => (qg_name sc__law_done.nd (by rfl) (by first | exact Or.inl rfl | exact Or.inr rfl))) (fun _ _ _ _ _ => (qts_one (qt_cmp (op_Ne (by rfl) (u64 hr)) (qe_ix (ix_Seq (by rfl)) (qe_var 5) qe_int) (qe_var 3) (by rfl)))) (fun _ _ _ _ _ => (qe_var 5)))
    (qss_cons (qs_if (qt_cmp (op_Eq (by rfl) (u64 hr)) (qe_var 2) qe_str (by rfl)) (qss_one (qs_setLc (own := [("_law_key", 5)]) (i := 4) false (by rfl) sc__law_done.nd (by rfl) (by rfl) (by rfl) (qi_tup (by rfl) (qe_var 0)) (blkOk_by (by show blkC ["_law_tree_here", "_law_change_here", "_law_word_here", "_law_path_here", "_law_left", "_law_key"] (defScope st__law_done) _ _ = true; decide +kernel)) (fun _ _ _ _ _ => (qg_name sc__law_done.nd (by rfl) (by first | exact Or.inl rfl | exact Or.inr rfl))) (fun _ _ _ _ _ => (qts_one (qt_cmp (op_Ne (by rfl) (u64 hr)) (qe_sl (sl_Seq (by rfl) false) (qe_ix (ix_Seq (by rfl)) (qe_var 5) qe_int) qo_none (qo_some (qe_callB (call_Len (by rfl)) (by rfl) T.z_len (by rfl) (qa_cons (qe_var 3) qa_nil)))) (qe_var 3) (by rfl)))) (fun _ _ _ _ _ => (qe_var 5)))) qss_nil)
    (qss_one (qs_ret (qe_if (qt_cmp (op_Eq (by rfl) (u64 hr)) (qe_var 2) qe_str (by rfl)) (qe_callTy (call_Tuple (by rfl)) (by rfl) T.z_tuple (by rfl) (qa_cons (qe_callB (call_Sorted (by rfl) (by rfl) (u64 hr) false) (by rfl) T.z_sorted (by rfl) (qa_cons (qe_op (op_Add false) (qe_var 4) (qe_lst false (qa_cons (qe_tup (qa_cons (qe_var 3) (qa_cons (qe_ix (ix_Seq (by rfl)) (qe_var 1) qe_int) qa_nil))) qa_nil))) qa_nil)) qa_nil)) (qe_callTy (call_Tuple (by rfl)) (by rfl) T.z_tuple (by rfl) (qa_cons (qe_var 4) qa_nil))))))))

theorem sc__law_fewest : FnScope ["_law_before", "_law_after", "_law_met", "_law_many", "_law_row", "_law_changes_here", "_law_paths", "_law_key", "_law_path_here", "_law_later", "_law_tree_here", "_law_change_here", "_law_one", "_law_k"] ["_law_before", "_law_after"] (defScope st__law_fewest) := ⟨rfl, rfl, rfl, by decide +kernel, rfl, by decide +kernel, by decide +kernel⟩
theorem ok__law_fewest (T : Txt g w mg) : FnOk P w g.K mg base CX0 2 T._law_fewest.a T._law_fewest.d ["_law_before", "_law_after"] (spM g f__law_fewest) :=
  fn_ok T._law_fewest.F sc__law_fewest fun cdv A outer s H E hr => (qss_cons (qs_par3 (i := 2) (j := 3) (l := 4) (by rfl) sc__law_fewest.nd (by rfl) (by rfl) (by rfl) (by decide) (by decide) (by decide) (by rfl) (by rfl) (by rfl) (qa_cons (qe_nst1 T.hs (u64 hr) (qe_var 0)) (qa_cons qe_int (qa_cons (qe_lst false (qa_cons (qe_var 0) qa_nil)) qa_nil))))
    (qss_cons (qs_setLc (own := [("_law_key", 7)]) (i := 5) false (by rfl) sc__law_fewest.nd (by rfl) (by rfl) (by rfl) (qi_tup (by rfl) (qe_var 1)) (blkOk_by (by show blkC ["_law_before", "_law_after", "_law_met", "_law_many", "_law_row", "_law_changes_here", "_law_paths", "_law_key", "_law_path_here", "_law_later", "_law_tree_here", "_law_change_here", "_law_one", "_law_k"] (defScope st__law_fewest) _ _ = true; decide +kernel)) (fun _ _ _ _ _ => (qg_name sc__law_fewest.nd (by rfl) (by first | exact Or.inl rfl | exact Or.inr rfl))) (fun _ _ _ _ _ => qts_nil) (fun _ _ _ _ _ => (qe_op (op_Add false) (qe_tup (qa_cons qe_str qa_nil)) (qe_var 7))))
    (qss_cons (qs_set (i := 6) sc__law_fewest.nd (by rfl) (by first | exact Or.inl rfl | exact Or.inr rfl) (qe_lst true qa_nil))
    (qss_cons (qs_for PassesOwn.never (by rfl) (qi_tup (by rfl) (qe_var 0)) (qg_name sc__law_fewest.nd (by rfl) (by first | exact Or.inl rfl | exact Or.inr rfl)) (qss_one (qs_set (i := 6) sc__law_fewest.nd (by rfl) (by first | exact Or.inl rfl | exact Or.inr rfl) (qe_op (op_Add false) (qe_var 6) (qe_lc (own := [("_law_k", 13)]) false (by rfl) sc__law_fewest.nd (qi_range1 (by rfl) T.z_range (qa_cons (qe_op (op_Add false) (qe_callB (call_Len (by rfl)) (by rfl) T.z_len (by rfl) (qa_cons (qe_ix (ix_Seq (by rfl)) (qe_var 7) qe_int) qa_nil)) qe_int) qa_nil)) (blkOk_by (by show blkC ["_law_before", "_law_after", "_law_met", "_law_many", "_law_row", "_law_changes_here", "_law_paths", "_law_key", "_law_path_here", "_law_later", "_law_tree_here", "_law_change_here", "_law_one", "_law_k"] (defScope st__law_fewest) _ _ = true; decide +kernel)) (fun _ _ _ _ _ => (qg_name sc__law_fewest.nd (by rfl) (by first | exact Or.inl rfl | exact Or.inr rfl))) (fun _ _ _ _ _ => qts_nil) (fun _ _ _ _ _ => (qe_sl (sl_Seq (by rfl) false) (qe_ix (ix_Seq (by rfl)) (qe_var 7) qe_int) qo_none (qo_some (qe_var 13)))))))))
    (qss_cons (qs_for PassesOwn.never (by rfl) (qi_list (by rfl) (qe_sortset (by rfl) (by rfl) (u64 hr) false (qe_var 6) (by rfl) T.z_sorted (by rfl) T.z_set)) (qg_name sc__law_fewest.nd (by rfl) (by first | exact Or.inl rfl | exact Or.inr rfl)) (qss_one (qs_set (i := 5) sc__law_fewest.nd (by rfl) (by first | exact Or.inl rfl | exact Or.inr rfl) (qe_op (op_Add false) (qe_var 5) (qe_lst false (qa_cons (qe_tup (qa_cons qe_str (qa_cons (qe_var 8) qa_nil))) (qa_cons (qe_tup (qa_cons qe_str (qa_cons (qe_var 8) qa_nil))) qa_nil)))))))
    (qss_cons (qs_while (k := 12) PassesOwn.never (qt_cmp (op_NotInN T.hs (u64 hr)) (qe_var 1) (qe_var 2) (by rfl)) (qss_cons (qs_set (i := 9) sc__law_fewest.nd (by rfl) (by first | exact Or.inl rfl | exact Or.inr rfl) (qe_lst true qa_nil))
    (qss_cons (qs_for PassesOwn.never (by rfl) (qi_list (by rfl) (qe_var 4)) (qg_name sc__law_fewest.nd (by rfl) (by first | exact Or.inl rfl | exact Or.inr rfl)) (qss_one (qs_for PassesOwn.never (by rfl) (qi_list (by rfl) (qe_var 5)) (qg_name sc__law_fewest.nd (by rfl) (by first | exact Or.inl rfl | exact Or.inr rfl)) (qss_cons (qs_set (i := 12) sc__law_fewest.nd (by rfl) (by first | exact Or.inl rfl | exact Or.inr rfl) (qe_call (ok__law_done T) (hr.mono (by decide)) (by rfl) T._law_done.m T._law_done.F.kp T._law_done.b (qa_cons (qe_var 10) (qa_cons (qe_var 11) qa_nil))))
    (qss_one (qs_if (qt_cmp (op_NotInN T.hs (u64 hr)) (qe_var 12) (qe_var 2) (by rfl)) (qss_cons (qs_sub qe_bl (qe_var 2) (qe_var 12) (set_N T.hs (u64 hr)))
    (qss_one (qs_exp (qe_bm (by rfl) PySem.F.plainAttrs_list PySem.F.slot_list_append PySem.F.type_list_append mt_Append (qe_var 9) (qa_cons (qe_var 12) qa_nil))))) qss_nil))))))
    (qss_one (qs_par (i := 4) (j := 3) (by rfl) sc__law_fewest.nd (by rfl) (by rfl) (by decide) (by rfl) (by rfl) (qa_cons (qe_var 9) (qa_cons (qe_op (op_Add false) (qe_var 3) qe_int) qa_nil)))))))
    (qss_one (qs_ret (qe_var 3)))))))))

theorem sc__law_tree : FnScope ["_law_row", "_law_most", "_law_some", "_law_k", "_law_path_here", "_law_n"] ["_law_row", "_law_most"] (defScope st__law_tree) := ⟨rfl, rfl, rfl, by decide +kernel, rfl, by decide +kernel, by decide +kernel⟩
theorem ok__law_tree (T : Txt g w mg) : FnOk P w g.K mg base CX0 2 T._law_tree.a T._law_tree.d ["_law_row", "_law_most"] (spM g f__law_tree) :=
  fn_ok T._law_tree.F sc__law_tree fun cdv A outer s H E hr => (qss_cons (qs_set (i := 2) sc__law_tree.nd (by rfl) (by first | exact Or.inl rfl | exact Or.inr rfl) qe_dnew)
    (qss_cons (qs_for PassesOwn.never (by rfl) (qi_range1 (by rfl) T.z_range (qa_cons (qe_call (ok__law_taken T) (hr.mono (by decide)) (by rfl) T._law_taken.m T._law_taken.F.kp T._law_taken.b (qa_cons (qe_var 0) (qa_cons (qe_op (op_Add false) (qe_var 1) qe_int) qa_nil))) qa_nil)) (qg_name sc__law_tree.nd (by rfl) (by first | exact Or.inl rfl | exact Or.inr rfl)) (qss_cons (qs_set (i := 4) sc__law_tree.nd (by rfl) (by first | exact Or.inl rfl | exact Or.inr rfl) (qe_callTy (call_Tuple (by rfl)) (by rfl) T.z_tuple (by rfl) (qa_cons (qe_lc (own := [("_law_n", 5)]) false (by rfl) sc__law_tree.nd (qi_range1 (by rfl) T.z_range (qa_cons (qe_call (ok__law_taken T) (hr.mono (by decide)) (by rfl) T._law_taken.m T._law_taken.F.kp T._law_taken.b (qa_cons (qe_var 0) (qa_cons qe_int qa_nil))) qa_nil)) (blkOk_by (by show blkC ["_law_row", "_law_most", "_law_some", "_law_k", "_law_path_here", "_law_n"] (defScope st__law_tree) _ _ = true; decide +kernel)) (fun _ _ _ _ _ => (qg_name sc__law_tree.nd (by rfl) (by first | exact Or.inl rfl | exact Or.inr rfl))) (fun _ _ _ _ _ => qts_nil) (fun _ _ _ _ _ => (qe_ix (ix_Seq (by rfl)) qe_str (qe_call (ok__law_taken T) (hr.mono (by decide)) (by rfl) T._law_taken.m T._law_taken.F.kp T._law_taken.b (qa_cons (qe_var 0) (qa_cons qe_int qa_nil)))))) qa_nil)))
    (qss_one (qs_sub (qe_call (ok__law_taken T) (hr.mono (by decide)) (by rfl) T._law_taken.m T._law_taken.F.kp T._law_taken.b (qa_cons (qe_var 0) (qa_cons qe_int qa_nil))) (qe_var 2) (qe_var 4) (set_D (u1 hr))))))
    (qss_one (qs_ret (qe_lc (own := [("_law_path_here", 4)]) false (by rfl) sc__law_tree.nd (qi_list (by rfl) (qe_callB (call_Sorted (by rfl) (by rfl) (u64 hr) false) (by rfl) T.z_sorted (by rfl) (qa_cons (qe_var 2) qa_nil))) (blkOk_by (by show blkC ["_law_row", "_law_most", "_law_some", "_law_k", "_law_path_here", "_law_n"] (defScope st__law_tree) _ _ = true; decide +kernel)) (fun _ _ _ _ _ => (qg_name sc__law_tree.nd (by rfl) (by first | exact Or.inl rfl | exact Or.inr rfl))) (fun _ _ _ _ _ => qts_nil) (fun _ _ _ _ _ => (qe_tup (qa_cons (qe_var 4) (qa_cons (qe_dget (u1 hr) (qe_var 2) (qe_var 4) (by intro _ _; rfl)) qa_nil)))))))))

theorem sc__law_bad : FnScope ["_law_row", "_law_tree_here", "_law_far", "_law_at", "_law_odd", "_law_k"] ["_law_row", "_law_tree_here"] (defScope st__law_bad) := ⟨rfl, rfl, rfl, by decide +kernel, rfl, by decide +kernel, by decide +kernel⟩
theorem ok__law_bad (T : Txt g w mg) : FnOk P w g.K mg base CX0 2 T._law_bad.a T._law_bad.d ["_law_row", "_law_tree_here"] (spM g f__law_bad) :=
  fn_ok T._law_bad.F sc__law_bad fun cdv A outer s H E hr => (qss_cons (qs_set (i := 2) sc__law_bad.nd (by rfl) (by first | exact Or.inl rfl | exact Or.inr rfl) (qe_ix (ix_Seq (by rfl)) (qe_lst false (qa_cons qe_int (qa_cons (qe_call (ok__law_taken T) (hr.mono (by decide)) (by rfl) T._law_taken.m T._law_taken.F.kp T._law_taken.b (qa_cons (qe_var 0) (qa_cons (qe_op (op_Pow) qe_int qe_int) qa_nil))) qa_nil))) (qe_call (ok__law_taken T) (hr.mono (by decide)) (by rfl) T._law_taken.m T._law_taken.F.kp T._law_taken.b (qa_cons (qe_var 0) (qa_cons qe_int qa_nil)))))
    (qss_cons (qs_set (i := 3) sc__law_bad.nd (by rfl) (by first | exact Or.inl rfl | exact Or.inr rfl) (qe_call (ok__law_taken T) (hr.mono (by decide)) (by rfl) T._law_taken.m T._law_taken.F.kp T._law_taken.b (qa_cons (qe_var 0) (qa_cons (qe_op (op_Add false) (qe_callB (call_Len (by rfl)) (by rfl) T.z_len (by rfl) (qa_cons (qe_var 1) qa_nil)) qe_int) qa_nil))))
    (qss_cons (qs_set (i := 4) sc__law_bad.nd (by rfl) (by first | exact Or.inl rfl | exact Or.inr rfl) (qe_lst false (qa_cons (qe_tup (qa_cons (qe_op (op_MulT (by rfl)) (qe_tup (qa_cons qe_str qa_nil)) qe_int) (qa_cons qe_int qa_nil))) (qa_cons (qe_tup (qa_cons (qe_tup (qa_cons qe_str qa_nil)) (qa_cons qe_int qa_nil))) (qa_cons (qe_tup (qa_cons (qe_tup (qa_cons qe_str qa_nil)) (qa_cons qe_int qa_nil))) (qa_cons (qe_tup (qa_cons (qe_tup (qa_cons qe_str (qa_cons qe_str qa_nil))) (qa_cons (qe_op (op_Add false) qe_int (qe_var 2)) qa_nil))) (qa_cons (qe_tup (qa_cons (qe_tup (qa_cons qe_str qa_nil)) (qa_cons (qe_op (op_Sub) (qe_op (op_Sub) qe_int qe_int) (qe_var 2)) qa_nil))) qa_nil)))))))
    (qss_cons (qs_set (i := 4) sc__law_bad.nd (by rfl) (by first | exact Or.inl rfl | exact Or.inr rfl) (qe_op (op_Add false) (qe_var 4) (qe_lst false (qa_cons (qe_tup (qa_cons (qe_tup (qa_cons qe_str qa_nil)) (qa_cons qe_bl qa_nil))) (qa_cons (qe_tup (qa_cons qe_str (qa_cons qe_int qa_nil))) (qa_cons (qe_tup (qa_cons (qe_tup (qa_cons qe_str qa_nil)) qa_nil)) (qa_cons (qe_tup (qa_cons (qe_tup (qa_cons qe_str qa_nil)) (qa_cons qe_int (qa_cons qe_int qa_nil)))) (qa_cons (qe_tup qa_nil) (qa_cons qe_int qa_nil)))))))))
    (qss_cons (qs_if (PW.pt (qw_and (qt_cmp (op_Ne (by rfl) (u64 hr)) (qe_var 1) (qe_lst false qa_nil) (by rfl)) (qw_and1 (qt_cmp (op_Eq (by rfl) (u64 hr)) (qe_call (ok__law_taken T) (hr.mono (by decide)) (by rfl) T._law_taken.m T._law_taken.F.kp T._law_taken.b (qa_cons (qe_var 0) (qa_cons qe_int qa_nil))) qe_int (by rfl))))) (qss_cons (qs_set (i := 5) sc__law_bad.nd (by rfl) (by first | exact Or.inl rfl | exact Or.inr rfl) (qe_call (ok__law_taken T) (hr.mono (by decide)) (by rfl) T._law_taken.m T._law_taken.F.kp T._law_taken.b (qa_cons (qe_var 0) (qa_cons (qe_callB (call_Len (by rfl)) (by rfl) T.z_len (by rfl) (qa_cons (qe_var 1) qa_nil)) qa_nil))))
    (qss_one (qs_ret (qe_tup (qa_cons (qe_op (op_Add false) (qe_op (op_Add false) (qe_sl (sl_Seq (by rfl) false) (qe_var 1) qo_none (qo_some (qe_op (op_Add false) (qe_var 5) qe_int))) (qe_lst false (qa_cons (qe_tup (qa_cons (qe_ix (ix_Seq (by rfl)) (qe_ix (ix_Seq (by rfl)) (qe_var 1) (qe_var 5)) qe_int) (qa_cons qe_int qa_nil))) qa_nil))) (qe_sl (sl_Seq (by rfl) false) (qe_var 1) (qo_some (qe_op (op_Add false) (qe_var 5) qe_int)) qo_none)) (qa_cons (qe_op (op_Add false) (qe_var 5) qe_int) qa_nil)))))) qss_nil)
    (qss_cons (qs_if (PW.pt (qw_and (qt_cmp (op_Ne (by rfl) (u64 hr)) (qe_var 1) (qe_lst false qa_nil) (by rfl)) (qw_and1 (qt_cmp (op_Eq (by rfl) (u64 hr)) (qe_call (ok__law_taken T) (hr.mono (by decide)) (by rfl) T._law_taken.m T._law_taken.F.kp T._law_taken.b (qa_cons (qe_var 0) (qa_cons qe_int qa_nil))) qe_int (by rfl))))) (qss_one (qs_ret (qe_tup (qa_cons (qe_op (op_Add false) (qe_var 1) (qe_lst false (qa_cons (qe_ix (ix_Seq (by rfl)) (qe_var 1) (qe_call (ok__law_taken T) (hr.mono (by decide)) (by rfl) T._law_taken.m T._law_taken.F.kp T._law_taken.b (qa_cons (qe_var 0) (qa_cons (qe_callB (call_Len (by rfl)) (by rfl) T.z_len (by rfl) (qa_cons (qe_var 1) qa_nil)) qa_nil)))) qa_nil))) (qa_cons (qe_callB (call_Len (by rfl)) (by rfl) T.z_len (by rfl) (qa_cons (qe_var 1) qa_nil)) qa_nil))))) qss_nil)
    (qss_one (qs_ret (qe_tup (qa_cons (qe_op (op_Add false) (qe_op (op_Add false) (qe_sl (sl_Seq (by rfl) false) (qe_var 1) qo_none (qo_some (qe_var 3))) (qe_lst false (qa_cons (qe_ix (ix_Seq (by rfl)) (qe_var 4) (qe_call (ok__law_taken T) (hr.mono (by decide)) (by rfl) T._law_taken.m T._law_taken.F.kp T._law_taken.b (qa_cons (qe_var 0) (qa_cons qe_int qa_nil)))) qa_nil))) (qe_sl (sl_Seq (by rfl) false) (qe_var 1) (qo_some (qe_var 3)) qo_none)) (qa_cons (qe_var 3) qa_nil)))))))))))
end
end K8
set_option maxHeartbeats 4000000
/-! k08: _law_word. Printed by gen8.py, but for its head. -/
namespace K8
open PySem PySem.Spec PySem.W PyProof.Rows L2 G3
theorem u128 {k : Nat} {A : Around} (r : Room k A) : A.units + 128 < cLine := by have := r.un; omega
section
variable {P : Program} {w : World} {g : G} {mg : Str → Option Value} {base : Heap}
theorem sc__law_word : FnScope ["_law_work", "e", "_law_kinds", "_law_word_here"] ["_law_work"] (defScope st__law_word) := ⟨rfl, rfl, rfl, by decide +kernel, rfl, by decide +kernel, by decide +kernel⟩
theorem word_suite (T : Txt g w mg) {k : Nat} {gg : Addr} {cdv : Value} {A : Around} {outer : List Env} {s : Shared} {H : Hp} (hr : Room k (A.deeper (envOfC "_law_word" (defScope st__law_word) s.heap.objs.size gg cdv))) (a dd : Addr) (oe : Obj) (pn : List (Addr × Obj)) (hz : Zc (.ref g.bt) (some dd) oe) (hf : ∃ vs, oe.data = .fields vs) :
    PSs (((cxOf CX0 P w g.K mg base ["_law_work", "e", "_law_kinds", "_law_word_here"] "_law_word" (defScope st__law_word) gg cdv A outer s H E0).nox).suite a ((a, oe) :: pn)) (match (defBody st__law_word).getD 0 (.Pass ⟨0, 0, 0, 0⟩) with | .Try _ [.ExceptHandler _ _ b _] _ _ _ => b | _ => []) (tS g (fun _ _ _ _ => False) (s__law_word a dd)) :=
  (qss_cons (qs_set (i := 2) sc__law_word.nd (by rfl) (by first | exact Or.inl rfl | exact Or.inr rfl) (qe_lst false (qa_cons (qe_isE (cV := .ref T.a_BadPanes) (cv := .ref T.a_BadPanes) T.bt_C T.bt_s hz hf (by rfl) T.z_isinstance (by rfl) (by rfl) (by first | exact Or.inl rfl | exact Or.inr rfl) (pe_glob (by rfl) T.m_BadPanes (by rfl)) (fun _ h => h) T.k_BadPanes) (qa_cons (qe_isE (cV := .ref T.a_BadPane) (cv := .ref T.a_BadPane) T.bt_C T.bt_s hz hf (by rfl) T.z_isinstance (by rfl) (by rfl) (by first | exact Or.inl rfl | exact Or.inr rfl) (pe_glob (by rfl) T.m_BadPane (by rfl)) (fun _ h => h) T.k_BadPane) (qa_cons (qe_isE (cV := .ref T.a_BadPath) (cv := .ref T.a_BadPath) T.bt_C T.bt_s hz hf (by rfl) T.z_isinstance (by rfl) (by rfl) (by first | exact Or.inl rfl | exact Or.inr rfl) (pe_glob (by rfl) T.m_BadPath (by rfl)) (fun _ h => h) T.k_BadPath) (qa_cons (qe_isE (cV := .ref T.a_BadAuthor) (cv := .ref T.a_BadAuthor) T.bt_C T.bt_s hz hf (by rfl) T.z_isinstance (by rfl) (by rfl) (by first | exact Or.inl rfl | exact Or.inr rfl) (pe_glob (by rfl) T.m_BadAuthor (by rfl)) (fun _ h => h) T.k_BadAuthor) qa_nil))))))
    (qss_cons (qs_set (i := 2) sc__law_word.nd (by rfl) (by first | exact Or.inl rfl | exact Or.inr rfl) (qe_op (op_Add true) (qe_var 2) (qe_lst false (qa_cons (qe_isE (cV := .ref T.a_BadChange) (cv := .ref T.a_BadChange) T.bt_C T.bt_s hz hf (by rfl) T.z_isinstance (by rfl) (by rfl) (by first | exact Or.inl rfl | exact Or.inr rfl) (pe_glob (by rfl) T.m_BadChange (by rfl)) (fun _ h => h) T.k_BadChange) (qa_cons (qe_isE (cV := .ref T.a_BadTree) (cv := .ref T.a_BadTree) T.bt_C T.bt_s hz hf (by rfl) T.z_isinstance (by rfl) (by rfl) (by first | exact Or.inl rfl | exact Or.inr rfl) (pe_glob (by rfl) T.m_BadTree (by rfl)) (fun _ h => h) T.k_BadTree) (qa_cons (qe_isE (cV := .ref T.a_NoWatch) (cv := .ref T.a_NoWatch) T.bt_C T.bt_s hz hf (by rfl) T.z_isinstance (by rfl) (by rfl) (by first | exact Or.inl rfl | exact Or.inr rfl) (pe_glob (by rfl) T.m_NoWatch (by rfl)) (fun _ h => h) T.k_NoWatch) qa_nil))))))
    (qss_cons (qs_exp (qe_bm (by rfl) PySem.F.plainAttrs_list PySem.F.slot_list_append PySem.F.type_list_append mt_Append (qe_var 2) (qa_cons (qe_isE (cV := .ref T.a_BadStop) (cv := .ref T.a_BadStop) T.bt_C T.bt_s hz hf (by rfl) T.z_isinstance (by rfl) (by rfl) (by first | exact Or.inl rfl | exact Or.inr rfl) (pe_glob (by rfl) T.m_BadStop (by rfl)) (fun _ h => h) T.k_BadStop) qa_nil)))
    (qss_cons (qs_if (PW.pt (qw_or (qt_cmp (op_Ne (by rfl) (by have := u64 hr; exact this)) (qe_bm (by rfl) PySem.F.plainAttrs_list PySem.F.slot_list_count PySem.F.type_list_count (mt_CountL (by rfl) (by first | (have := u64 hr; exact this) | (have := u128 hr; exact this))) (qe_var 2) (qa_cons qe_bl qa_nil)) qe_int (by rfl)) (qw_or1 (qt_not (qt_val (qe_isE (cV := .ty "ValueError") (cv := .type "ValueError") T.bt_C T.bt_s hz hf (by rfl) T.z_isinstance (by rfl) (by rfl) (by first | exact Or.inl rfl | exact Or.inr rfl) (pe_bltn (by rfl) T.z_ValueError (by rfl) (by rfl)) (fun _ h => h) T.k_ValueError)))))) (qss_one (qs_ret (qe_tup (qa_cons qe_str (qa_cons qe_int qa_nil))))) qss_nil)
    (qss_cons (qs_set (i := 3) sc__law_word.nd (by rfl) (by first | exact Or.inl rfl | exact Or.inr rfl) (qe_ix (ix_Seq (by rfl)) (qe_lst false (qa_cons qe_str (qa_cons qe_str (qa_cons qe_str (qa_cons qe_str (qa_cons qe_str (qa_cons qe_str (qa_cons qe_str (qa_cons qe_str qa_nil))))))))) (qe_bm (by rfl) PySem.F.plainAttrs_list PySem.F.slot_list_index PySem.F.type_list_index (mt_IndexL (by rfl) (by first | (have := u64 hr; exact this) | (have := u128 hr; exact this))) (qe_var 2) (qa_cons qe_bl qa_nil))))
    (qss_one (qs_ret (qe_tup (qa_cons (qe_var 3) (qa_cons (qe_if (qt_cmp (op_InT (by rfl)) (qe_var 3) (qe_tup (qa_cons qe_str (qa_cons qe_str qa_nil))) (by rfl)) (qe_num (e := .Name "e" ⟨0, 0, 0, 0⟩) T.bt_X T.bt_n hz hf (by rfl) (by first | exact Or.inl rfl | exact Or.inr rfl)) qe_int) qa_nil))))))))))
theorem word_ind (a dd : Addr) (k : Int) (ρ : En) (S : S3) (h : ρ.length = 4) : (s__law_word a dd (ρ.set 1 (some (.adr a [.ref dd] [.exn k]))) S).map (fun q => (q.1, q.2.2)) = (s__law_word 0 0 (ρ.set 1 (some (.adr 0 [.ref 0] [.exn k]))) S).map fun q => (q.1, q.2.2) := by
  match ρ, h with
  | [x0, x1, x2, x3], _ =>
    have hz : ∀ n : Nat, n ≤ 9 → n ≤ sizeLine := fun n h => by rw [sizeLine_eq]; omega
    simp [s__law_word, sSeq, sSet, sExp, sIf, sRet, sSkip, opn, op2, op1, eVar, eC, eIsE, eNum, eBm, aCons, aNil, bOr, bVal, bNot, eIf, eNot, kLst, newL, Option.bind_assoc, hz, apply_ite, Option.map_bind, Function.comp_def]
    repeat (refine congrArg (Option.bind _) (funext fun _ => ?_))
    split
    · simp [Option.bind_assoc, Option.map_bind, Function.comp_def]
    · simp [Option.bind_assoc, Option.map_bind, Function.comp_def]
theorem pss_word (T : Txt g w mg) {k : Nat} {gg : Addr} {cdv : Value} {A : Around} {outer : List Env} {s : Shared} {H : Hp} {act : MEX} (hr : Room k (A.deeper (envOfC "_law_word" (defScope st__law_word) s.heap.objs.size gg cdv)))
    (ha : ∀ (W : WX) (pn : List (Addr × Obj)) (xe : Value → Shared → Prop) (p1 p2 : Pos), Takes ((cxOf CX0 P w g.K mg base ["_law_work", "e", "_law_kinds", "_law_word_here"] "_law_word" (defScope st__law_word) gg cdv A outer s H E0).tr pn xe) W →
      PE ((cxOf CX0 P w g.K mg base ["_law_work", "e", "_law_kinds", "_law_word_here"] "_law_word" (defScope st__law_word) gg cdv A outer s H E0).tr pn xe) (.Call (.Name "_law_work" p1) [] [] p2) (tX g W act)) :
    PSs (cxOf CX0 P w g.K mg base ["_law_work", "e", "_law_kinds", "_law_word_here"] "_law_word" (defScope st__law_word) gg cdv A outer s H E0).nox (defBody st__law_word) (tS g (fun _ _ _ _ => False) (b__law_word act)) :=
  qss_cons (qs_try (i := 1) (ss := s__law_word) rfl rfl sc__law_word.nd (by rfl) (by rfl) ⟨by rfl, by decide, .inl T.he_m⟩ (fun u s' h => by obtain ⟨_, _, _, _, _, _, _, _, _, _, _, _, _, _, _, _, w⟩ := h; exact w.elim) T.he_x
    (fun W' pn xe tk _ => qss_one (qs_expX (ha W' pn xe _ _ tk))) (fun a dd oe pn hz hf => word_suite T hr a dd oe pn hz hf) (fun a dd k ρ S h => word_ind a dd k ρ S h)) (qss_one (qs_ret qe_non))
end
end K8
set_option maxHeartbeats 4000000
/-! k08: what _law_word gives does not hang on where its lambda stands. -/
namespace K8
open PySem PySem.Spec PySem.W PyProof.Rows L2 G3
theorem word_ind0 (x0 y0 x2 x3 : Option D) (k : Int) (S : S3) : (s__law_word 0 0 [x0, some (.adr 0 [.ref 0] [.exn k]), x2, x3] S).map (fun q => (q.1, q.2.2)) = (s__law_word 0 0 [y0, some (.adr 0 [.ref 0] [.exn k]), x2, x3] S).map fun q => (q.1, q.2.2) := by
  have hz : ∀ n : Nat, n ≤ 9 → n ≤ sizeLine := fun n h => by rw [sizeLine_eq]; omega
  simp [s__law_word, sSeq, sSet, sExp, sIf, sRet, sSkip, opn, op2, op1, eVar, eC, eIsE, eNum, eBm, aCons, aNil, bOr, bVal, bNot, eIf, eNot, kLst, newL, Option.bind_assoc, hz, apply_ite, Option.map_bind, Function.comp_def]
  repeat (refine congrArg (Option.bind _) (funext fun _ => ?_))
  split
  · simp [Option.bind_assoc, Option.map_bind, Function.comp_def]
  · simp [Option.bind_assoc, Option.map_bind, Function.comp_def]
/-- what _law_word gives, behind what its lambda gave -/
def wordEnd : (D ⊕ Int) × S3 → Option (D × S3) := fun r => match r.1 with
  | .inl _ => some (.non, r.2)
  | .inr k => (s__law_word 0 0 [none, some (.adr 0 [.ref 0] [.exn k]), none, none] r.2).bind fun q => match q.1 with
    | .rt d => some (d, q.2.2)
    | _ => none
theorem end_map {o o' : Option (Fl × En × S3)} (h : o.map (fun q => (q.1, q.2.2)) = o'.map fun q => (q.1, q.2.2)) : (o.bind fun q => match q.1 with | .rt d => some (d, q.2.2) | _ => none) = (o'.bind fun q => match q.1 with | .rt d => some (d, q.2.2) | _ => none) := by
  cases o with
  | none => cases o' with
    | none => rfl
    | some b => simp at h
  | some a => cases o' with
    | none => simp at h
    | some b =>
      obtain ⟨a1, a2, a3⟩ := a
      obtain ⟨b1, b2, b3⟩ := b
      simp only [Option.map_some, Option.some.injEq, Prod.mk.injEq] at h
      obtain ⟨rfl, rfl⟩ := h
      rfl
theorem word_run (n : Nat) (q : Str) (m : Nat) (is : List Nat) (fb : MEX) (f : Addr) (vs : List V) (ds : List D) (S : S3) :
    fnM 1 4 (b__law_word (eAct 0 n q f vs m is fb)) [.adr f vs ds] S = if tabIs n q S then (fb (capEn m is ds) S).bind wordEnd else none := by
  have ea : eAct 0 n q f vs m is fb [some (.adr f vs ds), none, none, none] S = if tabIs n q S then fb (capEn m is ds) S else none := by
    cases ho : S.ob n with
    | none => simp [eAct, tabIs, ho]
    | some o => cases o <;> simp [eAct, tabIs, ho]
  show (b__law_word (eAct 0 n q f vs m is fb) [some (.adr f vs ds), none, none, none] S).bind _ = _
  unfold b__law_word sSeq sTry sExpX
  simp only [ea]
  split
  · cases hv : fb (capEn m is ds) S with
    | none => rfl
    | some r =>
      obtain ⟨r1, S1⟩ := r
      cases r1 with
      | inl d => rfl
      | inr k =>
        have w := end_map (word_ind0 (some (.adr f vs ds)) none none none k S1)
        show _ = (s__law_word 0 0 [none, some (.adr 0 [.ref 0] [.exn k]), none, none] S1).bind _
        rw [← w]
        simp only [Option.bind_some, List.length_cons, List.length_nil, List.set_cons_zero, List.set_cons_succ]
        cases s__law_word 0 0 [some (D.adr f vs ds), some (D.adr 0 [V.ref 0] [D.exn k]), none, none] S1 with
        | none => rfl
        | some z =>
          obtain ⟨z1, z2, z3⟩ := z
          cases z1 <;> rfl
  · rfl
theorem word_hind (n : Nat) (q : Str) (m : Nat) (is : List Nat) (fb : MEX) (f : Addr) (vs : List V) (ds : List D) (S : S3) :
    fnM 1 4 (b__law_word (eAct 0 n q f vs m is fb)) [.adr f vs ds] S = fnM 1 4 (b__law_word (eAct 0 n q 0 [] m is fb)) [.adr 0 [] ds] S := by rw [word_run, word_run]
end K8
set_option maxHeartbeats 4000000
/-! k08: a def whose code's address is known (its lambdas' codes are looked up by it). -/
namespace K8
open PySem PySem.Spec PySem.W PyProof.Rows L2 G3
theorem fn_okC {P : Program} {w : World} {g : G} {K : PySem.W.Frag} {mg : Str → Option Value} {base : Heap} {x qual : Str} {st : Stmt} {f c : Addr} {N ps : List Str} {k : Nat} {b : MS} {oc kV doc pm ct : Value} {od an : Option Addr} {osl : Array (Option Value)}
    (lk : K.lookup f = some ⟨oc, od, .func (PySem.W.fnOf x qual (defArgs st) (defBody st) (defScope st) .none kV doc pm an (.ref c) ct), osl⟩) (hcd : PySem.W.codeIn K (.ref c) qual = true) (Sc : FnScope N ps (defScope st))
    (hb : ∀ (A : Around) (outer : List Env) (s : Shared) (H : Hp) (E : XK), Room k (A.deeper (envOfC qual (defScope st) s.heap.objs.size f (.ref c))) → PSs (cxOf CX0 P w K mg base N qual (defScope st) f (.ref c) A outer s H E).nox (defBody st) (tS g (fun _ _ _ _ => False) b)) :
    FnOk P w K mg base CX0 (k + 1) f (PySem.W.fnOf x qual (defArgs st) (defBody st) (defScope st) .none kV doc pm an (.ref c) ct) ps (spM g (fnM ps.length N.length b)) := by
  refine fn_of lk hcd Sc (fun vs H Q E h => ?_) (fun A outer s H vs Q E hr h => ?_)
  · obtain ⟨S, loc, ds, z, S', A, r, e, q⟩ := h
    unfold fnM at e
    split at e
    · rename_i hl
      rw [← r.length]; exact hl
    · cases e
  · refine ⟨_, (hb A outer s H E hr).nox, ?_⟩
    obtain ⟨S, loc, ds, z, S', Ab, r, e, q⟩ := h
    unfold fnM at e
    split at e
    · rename_i hl
      obtain ⟨⟨fl, ρ', S1⟩, e1, e2⟩ := Option.bind_eq_some_iff.mp e
      refine ⟨S, loc, _, fl, ρ', S1, Ab, start_env hl r, e1, ?_⟩
      cases fl with
      | nx =>
        simp only [Option.some.injEq, Prod.mk.injEq] at e2
        obtain ⟨rfl, rfl⟩ := e2
        exact fun σ' loc' H' A' x' _ => q _ loc' H' A' x' .non
      | rt d =>
        simp only [Option.some.injEq, Prod.mk.injEq] at e2
        obtain ⟨rfl, rfl⟩ := e2
        exact fun v loc' H' A' x' r' => q v loc' H' A' x' r'
      | bk => cases e2
      | ct => cases e2
      | ex i => cases e2
    · cases e
/-- a call of a def that may raise, where it does not -/
theorem qe_calm {X : Cx} {g : G} {e : Expr} {f : MX} {as : MA} (h : PE X e (tX g (fun _ _ _ _ => False) (opX f as))) : PE X e (tE g (opn (calmF f) as)) := PE.imp h fun σ H Q hh => by
  obtain ⟨S, loc, ρ, d, S', A, R, ek, q⟩ := hh
  refine ⟨S, loc, ρ, .inl d, S', A, R, ?_, q⟩
  unfold opn at ek
  obtain ⟨⟨ds, S1⟩, e1, e2⟩ := Option.bind_eq_some_iff.mp ek
  unfold opX
  rw [e1]
  unfold calmF at e2
  simp only [Option.bind_some]
  split at e2
  · rename_i d' S2 hf
    cases e2
    exact hf
  · cases e2
theorem takes_never {X : Cx} : Takes X (fun _ _ _ _ => False) := fun u s' h => by obtain ⟨_, _, _, _, _, _, _, _, _, _, _, _, _, _, _, _, w⟩ := h; exact w.elim
end K8
set_option maxHeartbeats 4000000
/-! k08: law. Printed by gen8.py, but for its head. -/
namespace K8
open PySem PySem.Spec PySem.W PyProof.Rows L2 G3
def forB : Stmt → List Stmt
  | .For _ _ b _ _ => b
  | _ => []
theorem law_q : ("law" : Str) ++ ".<locals>." ++ "<lambda>" = lamq := by decide +kernel
section
variable {P : Program} {w : World} {g : G} {mg : Str → Option Value} {base : Heap}
theorem sc_law : FnScope ["_law_script", "_law_row", "_law_turn", "_law_wide", "_law_one", "_law_words", "_law_before", "_law_after", "_law_handed", "_law_due", "_law_again", "_law_bad_here", "_law_at", "_law_other", "_law_k", "_law_found", "_law_here", "_law_change_here", "_law_two"] ["_law_script"] (defScope st_law) := ⟨rfl, rfl, rfl, by decide +kernel, rfl, by decide +kernel, by decide +kernel⟩
end
end K8
set_option maxHeartbeats 4000000
/-! k08: law. Printed by gen8.py, but for its head. -/
namespace K8
open PySem PySem.Spec PySem.W PyProof.Rows L2 G3
section
variable {P : Program} {w : World} {g : G} {mg : Str → Option Value} {base : Heap}
theorem law_s0 (T : Txt g w mg) {f c : Addr} {A : Around} {outer : List Env} {s : Shared} {H : Hp} {E : XK} (hr : Room 15 (A.deeper (envOfC "law" (defScope st_law) s.heap.objs.size f (.ref c)))) (TB : LamX.TabB base mg c g.tp) : PS ((cxOf CX0 P w g.K mg base ["_law_script", "_law_row", "_law_turn", "_law_wide", "_law_one", "_law_words", "_law_before", "_law_after", "_law_handed", "_law_due", "_law_again", "_law_bad_here", "_law_at", "_law_other", "_law_k", "_law_found", "_law_here", "_law_change_here", "_law_two"] "law" (defScope st_law) f (.ref c) A outer s H E).nox) ((defBody st_law).getD 0 (.Pass ⟨0, 0, 0, 0⟩)) (tS g (fun _ _ _ _ => False) sl_0) := (qs_set (i := 1) sc_law.nd (by rfl) (by first | exact Or.inl rfl | exact Or.inr rfl) (qe_lst true (qa_cons (qe_var 0) (qa_cons qe_int (qa_cons qe_int (qa_cons qe_int qa_nil))))))
theorem law_s1 (T : Txt g w mg) {f c : Addr} {A : Around} {outer : List Env} {s : Shared} {H : Hp} {E : XK} (hr : Room 15 (A.deeper (envOfC "law" (defScope st_law) s.heap.objs.size f (.ref c)))) (TB : LamX.TabB base mg c g.tp) : PS ((cxOf CX0 P w g.K mg base ["_law_script", "_law_row", "_law_turn", "_law_wide", "_law_one", "_law_words", "_law_before", "_law_after", "_law_handed", "_law_due", "_law_again", "_law_bad_here", "_law_at", "_law_other", "_law_k", "_law_found", "_law_here", "_law_change_here", "_law_two"] "law" (defScope st_law) f (.ref c) A outer s H E).nox) ((forB ((defBody st_law).getD 1 (.Pass ⟨0, 0, 0, 0⟩))).getD 0 (.Pass ⟨0, 0, 0, 0⟩)) (tS g (fun _ _ _ _ => False) sl_1) := (qs_asg (qe_tup (qa_cons (qe_call (ok__law_tree T) (hr.mono (by decide)) (by rfl) T._law_tree.m T._law_tree.F.kp T._law_tree.b (qa_cons (qe_var 1) (qa_cons qe_int qa_nil))) (qa_cons (qe_call (ok__law_tree T) (hr.mono (by decide)) (by rfl) T._law_tree.m T._law_tree.F.kp T._law_tree.b (qa_cons (qe_var 1) (qa_cons qe_int qa_nil))) qa_nil))) (qg_tup (is := [6, 7]) (by rfl) (by rfl) (pgs_cons (pg_name (i := 6) sc_law.nd (by rfl) (by first | exact Or.inl rfl | exact Or.inr rfl)) (pgs_cons (pg_name (i := 7) sc_law.nd (by rfl) (by first | exact Or.inl rfl | exact Or.inr rfl)) pgs_nil))))
theorem law_s2 (T : Txt g w mg) {f c : Addr} {A : Around} {outer : List Env} {s : Shared} {H : Hp} {E : XK} (hr : Room 15 (A.deeper (envOfC "law" (defScope st_law) s.heap.objs.size f (.ref c)))) (TB : LamX.TabB base mg c g.tp) : PS ((cxOf CX0 P w g.K mg base ["_law_script", "_law_row", "_law_turn", "_law_wide", "_law_one", "_law_words", "_law_before", "_law_after", "_law_handed", "_law_due", "_law_again", "_law_bad_here", "_law_at", "_law_other", "_law_k", "_law_found", "_law_here", "_law_change_here", "_law_two"] "law" (defScope st_law) f (.ref c) A outer s H E).nox) ((forB ((defBody st_law).getD 1 (.Pass ⟨0, 0, 0, 0⟩))).getD 1 (.Pass ⟨0, 0, 0, 0⟩)) (tS g (fun _ _ _ _ => False) sl_2) := (qs_set (i := 8) sc_law.nd (by rfl) (by first | exact Or.inl rfl | exact Or.inr rfl) (qe_lst false (qa_cons (qe_callTy (call_List (by rfl) false) (by rfl) T.z_list (by rfl) (qa_cons (qe_var 6) qa_nil)) (qa_cons (qe_callTy (call_List (by rfl) false) (by rfl) T.z_list (by rfl) (qa_cons (qe_var 7) qa_nil)) qa_nil))))
theorem law_s3 (T : Txt g w mg) {f c : Addr} {A : Around} {outer : List Env} {s : Shared} {H : Hp} {E : XK} (hr : Room 15 (A.deeper (envOfC "law" (defScope st_law) s.heap.objs.size f (.ref c)))) (TB : LamX.TabB base mg c g.tp) : PS ((cxOf CX0 P w g.K mg base ["_law_script", "_law_row", "_law_turn", "_law_wide", "_law_one", "_law_words", "_law_before", "_law_after", "_law_handed", "_law_due", "_law_again", "_law_bad_here", "_law_at", "_law_other", "_law_k", "_law_found", "_law_here", "_law_change_here", "_law_two"] "law" (defScope st_law) f (.ref c) A outer s H E).nox) ((forB ((defBody st_law).getD 1 (.Pass ⟨0, 0, 0, 0⟩))).getD 2 (.Pass ⟨0, 0, 0, 0⟩)) (tS g (fun _ _ _ _ => False) sl_3) := (qs_set (i := 9) sc_law.nd (by rfl) (by first | exact Or.inl rfl | exact Or.inr rfl) (qe_call (ok__law_fewest T) (hr.mono (by decide)) (by rfl) T._law_fewest.m T._law_fewest.F.kp T._law_fewest.b (qa_cons (qe_callTy (call_Tuple (by rfl)) (by rfl) T.z_tuple (by rfl) (qa_cons (qe_var 6) qa_nil)) (qa_cons (qe_callTy (call_Tuple (by rfl)) (by rfl) T.z_tuple (by rfl) (qa_cons (qe_var 7) qa_nil)) qa_nil))))
theorem law_s4 (T : Txt g w mg) {f c : Addr} {A : Around} {outer : List Env} {s : Shared} {H : Hp} {E : XK} (hr : Room 15 (A.deeper (envOfC "law" (defScope st_law) s.heap.objs.size f (.ref c)))) (TB : LamX.TabB base mg c g.tp) : PS ((cxOf CX0 P w g.K mg base ["_law_script", "_law_row", "_law_turn", "_law_wide", "_law_one", "_law_words", "_law_before", "_law_after", "_law_handed", "_law_due", "_law_again", "_law_bad_here", "_law_at", "_law_other", "_law_k", "_law_found", "_law_here", "_law_change_here", "_law_two"] "law" (defScope st_law) f (.ref c) A outer s H E).nox) ((forB ((forB ((defBody st_law).getD 1 (.Pass ⟨0, 0, 0, 0⟩))).getD 3 (.Pass ⟨0, 0, 0, 0⟩))).getD 0 (.Pass ⟨0, 0, 0, 0⟩)) (tS g (fun _ _ _ _ => False) sl_4) := (qs_set (i := 15) sc_law.nd (by rfl) (by first | exact Or.inl rfl | exact Or.inr rfl) (qe_calm (qe_callX takes_never (ok_fewest T) (hr.mono (by decide)) (by rfl) T.fewest.m T.fewest.F.kp T.fewest.b (qa_cons (qe_ix (ix_Seq (by rfl)) (qe_var 8) qe_int) (qa_cons (qe_ix (ix_Seq (by rfl)) (qe_var 8) qe_int) qa_nil)))))
theorem law_s5 (T : Txt g w mg) {f c : Addr} {A : Around} {outer : List Env} {s : Shared} {H : Hp} {E : XK} (hr : Room 15 (A.deeper (envOfC "law" (defScope st_law) s.heap.objs.size f (.ref c)))) (TB : LamX.TabB base mg c g.tp) : PS ((cxOf CX0 P w g.K mg base ["_law_script", "_law_row", "_law_turn", "_law_wide", "_law_one", "_law_words", "_law_before", "_law_after", "_law_handed", "_law_due", "_law_again", "_law_bad_here", "_law_at", "_law_other", "_law_k", "_law_found", "_law_here", "_law_change_here", "_law_two"] "law" (defScope st_law) f (.ref c) A outer s H E).nox) ((forB ((forB ((defBody st_law).getD 1 (.Pass ⟨0, 0, 0, 0⟩))).getD 3 (.Pass ⟨0, 0, 0, 0⟩))).getD 1 (.Pass ⟨0, 0, 0, 0⟩)) (tS g (fun _ _ _ _ => False) sl_5) := (qs_if (PW.pt (qw_or (qt_not (qt_val (qe_isi (by rfl) (by rfl) T.z_isinstance (by rfl) (qe_var 15) (pe_bltn (by rfl) T.z_list (by rfl) (by rfl))))) (qw_or (qt_cmp (op_Ne (by rfl) (u64 hr)) (qe_callB (call_Len (by rfl)) (by rfl) T.z_len (by rfl) (qa_cons (qe_var 15) qa_nil)) (qe_var 9) (by rfl)) (qw_or1 (qt_cmp (op_Ne (by rfl) (u64 hr)) (qe_var 8) (qe_lst false (qa_cons (qe_var 6) (qa_cons (qe_var 7) qa_nil))) (by rfl)))))) (qss_one (qs_ret qe_bl)) qss_nil)
theorem law_s6 (T : Txt g w mg) {f c : Addr} {A : Around} {outer : List Env} {s : Shared} {H : Hp} {E : XK} (hr : Room 15 (A.deeper (envOfC "law" (defScope st_law) s.heap.objs.size f (.ref c)))) (TB : LamX.TabB base mg c g.tp) : PS ((cxOf CX0 P w g.K mg base ["_law_script", "_law_row", "_law_turn", "_law_wide", "_law_one", "_law_words", "_law_before", "_law_after", "_law_handed", "_law_due", "_law_again", "_law_bad_here", "_law_at", "_law_other", "_law_k", "_law_found", "_law_here", "_law_change_here", "_law_two"] "law" (defScope st_law) f (.ref c) A outer s H E).nox) ((forB ((forB ((defBody st_law).getD 1 (.Pass ⟨0, 0, 0, 0⟩))).getD 3 (.Pass ⟨0, 0, 0, 0⟩))).getD 2 (.Pass ⟨0, 0, 0, 0⟩)) (tS g (fun _ _ _ _ => False) sl_6) := (qs_set (i := 16) sc_law.nd (by rfl) (by first | exact Or.inl rfl | exact Or.inr rfl) (qe_callTy (call_Tuple (by rfl)) (by rfl) T.z_tuple (by rfl) (qa_cons (qe_var 6) qa_nil)))
theorem law_s7 (T : Txt g w mg) {f c : Addr} {A : Around} {outer : List Env} {s : Shared} {H : Hp} {E : XK} (hr : Room 15 (A.deeper (envOfC "law" (defScope st_law) s.heap.objs.size f (.ref c)))) (TB : LamX.TabB base mg c g.tp) : PS ((cxOf CX0 P w g.K mg base ["_law_script", "_law_row", "_law_turn", "_law_wide", "_law_one", "_law_words", "_law_before", "_law_after", "_law_handed", "_law_due", "_law_again", "_law_bad_here", "_law_at", "_law_other", "_law_k", "_law_found", "_law_here", "_law_change_here", "_law_two"] "law" (defScope st_law) f (.ref c) A outer s H E).nox) ((forB ((forB ((forB ((defBody st_law).getD 1 (.Pass ⟨0, 0, 0, 0⟩))).getD 3 (.Pass ⟨0, 0, 0, 0⟩))).getD 3 (.Pass ⟨0, 0, 0, 0⟩))).getD 0 (.Pass ⟨0, 0, 0, 0⟩)) (tS g (fun _ _ _ _ => False) sl_7) := (qs_set (i := 16) sc_law.nd (by rfl) (by first | exact Or.inl rfl | exact Or.inr rfl) (qe_call (ok__law_done T) (hr.mono (by decide)) (by rfl) T._law_done.m T._law_done.F.kp T._law_done.b (qa_cons (qe_var 16) (qa_cons (qe_var 17) qa_nil))))
theorem law_s8 (T : Txt g w mg) {f c : Addr} {A : Around} {outer : List Env} {s : Shared} {H : Hp} {E : XK} (hr : Room 15 (A.deeper (envOfC "law" (defScope st_law) s.heap.objs.size f (.ref c)))) (TB : LamX.TabB base mg c g.tp) : PS ((cxOf CX0 P w g.K mg base ["_law_script", "_law_row", "_law_turn", "_law_wide", "_law_one", "_law_words", "_law_before", "_law_after", "_law_handed", "_law_due", "_law_again", "_law_bad_here", "_law_at", "_law_other", "_law_k", "_law_found", "_law_here", "_law_change_here", "_law_two"] "law" (defScope st_law) f (.ref c) A outer s H E).nox) ((forB ((forB ((defBody st_law).getD 1 (.Pass ⟨0, 0, 0, 0⟩))).getD 3 (.Pass ⟨0, 0, 0, 0⟩))).getD 4 (.Pass ⟨0, 0, 0, 0⟩)) (tS g (fun _ _ _ _ => False) sl_8) := (qs_if (qt_not (qt_val (qe_call (ok__law_alike T 7) (hr.mono (by decide)) (by rfl) T._law_alike.m T._law_alike.F.kp T._law_alike.b (qa_cons (qe_callTy (call_List (by rfl) false) (by rfl) T.z_list (by rfl) (qa_cons (qe_var 16) qa_nil)) (qa_cons (qe_var 7) qa_nil))))) (qss_one (qs_ret qe_bl)) qss_nil)
theorem law_s9 (T : Txt g w mg) {f c : Addr} {A : Around} {outer : List Env} {s : Shared} {H : Hp} {E : XK} (hr : Room 15 (A.deeper (envOfC "law" (defScope st_law) s.heap.objs.size f (.ref c)))) (TB : LamX.TabB base mg c g.tp) : PS ((cxOf CX0 P w g.K mg base ["_law_script", "_law_row", "_law_turn", "_law_wide", "_law_one", "_law_words", "_law_before", "_law_after", "_law_handed", "_law_due", "_law_again", "_law_bad_here", "_law_at", "_law_other", "_law_k", "_law_found", "_law_here", "_law_change_here", "_law_two"] "law" (defScope st_law) f (.ref c) A outer s H E).nox) ((forB ((forB ((defBody st_law).getD 1 (.Pass ⟨0, 0, 0, 0⟩))).getD 3 (.Pass ⟨0, 0, 0, 0⟩))).getD 5 (.Pass ⟨0, 0, 0, 0⟩)) (tS g (fun _ _ _ _ => False) sl_9) := (qs_exp (qe_bm (by rfl) PySem.F.plainAttrs_list PySem.F.slot_list_append PySem.F.type_list_append mt_Append (qe_var 15) (qa_cons (qe_tup qa_nil) qa_nil)))
theorem law_s10 (T : Txt g w mg) {f c : Addr} {A : Around} {outer : List Env} {s : Shared} {H : Hp} {E : XK} (hr : Room 15 (A.deeper (envOfC "law" (defScope st_law) s.heap.objs.size f (.ref c)))) (TB : LamX.TabB base mg c g.tp) : PS ((cxOf CX0 P w g.K mg base ["_law_script", "_law_row", "_law_turn", "_law_wide", "_law_one", "_law_words", "_law_before", "_law_after", "_law_handed", "_law_due", "_law_again", "_law_bad_here", "_law_at", "_law_other", "_law_k", "_law_found", "_law_here", "_law_change_here", "_law_two"] "law" (defScope st_law) f (.ref c) A outer s H E).nox) ((forB ((defBody st_law).getD 1 (.Pass ⟨0, 0, 0, 0⟩))).getD 4 (.Pass ⟨0, 0, 0, 0⟩)) (tS g (fun _ _ _ _ => False) sl_10) := (qs_asg (qe_call (ok__law_bad T) (hr.mono (by decide)) (by rfl) T._law_bad.m T._law_bad.F.kp T._law_bad.b (qa_cons (qe_var 1) (qa_cons (qe_var 6) qa_nil))) (qg_tup (is := [11, 12]) (by rfl) (by rfl) (pgs_cons (pg_name (i := 11) sc_law.nd (by rfl) (by first | exact Or.inl rfl | exact Or.inr rfl)) (pgs_cons (pg_name (i := 12) sc_law.nd (by rfl) (by first | exact Or.inl rfl | exact Or.inr rfl)) pgs_nil))))
theorem law_s11 (T : Txt g w mg) {f c : Addr} {A : Around} {outer : List Env} {s : Shared} {H : Hp} {E : XK} (hr : Room 15 (A.deeper (envOfC "law" (defScope st_law) s.heap.objs.size f (.ref c)))) (TB : LamX.TabB base mg c g.tp) : PS ((cxOf CX0 P w g.K mg base ["_law_script", "_law_row", "_law_turn", "_law_wide", "_law_one", "_law_words", "_law_before", "_law_after", "_law_handed", "_law_due", "_law_again", "_law_bad_here", "_law_at", "_law_other", "_law_k", "_law_found", "_law_here", "_law_change_here", "_law_two"] "law" (defScope st_law) f (.ref c) A outer s H E).nox) ((forB ((defBody st_law).getD 1 (.Pass ⟨0, 0, 0, 0⟩))).getD 5 (.Pass ⟨0, 0, 0, 0⟩)) (tS g (fun _ _ _ _ => False) sl_11) := (qs_asg (qe_call (ok__law_bad T) (hr.mono (by decide)) (by rfl) T._law_bad.m T._law_bad.F.kp T._law_bad.b (qa_cons (qe_var 1) (qa_cons (qe_var 7) qa_nil))) (qg_tup (is := [13, 14]) (by rfl) (by rfl) (pgs_cons (pg_name (i := 13) sc_law.nd (by rfl) (by first | exact Or.inl rfl | exact Or.inr rfl)) (pgs_cons (pg_name (i := 14) sc_law.nd (by rfl) (by first | exact Or.inl rfl | exact Or.inr rfl)) pgs_nil))))
theorem law_s14 (T : Txt g w mg) {f c : Addr} {A : Around} {outer : List Env} {s : Shared} {H : Hp} {E : XK} (hr : Room 15 (A.deeper (envOfC "law" (defScope st_law) s.heap.objs.size f (.ref c)))) (TB : LamX.TabB base mg c g.tp) : PS ((cxOf CX0 P w g.K mg base ["_law_script", "_law_row", "_law_turn", "_law_wide", "_law_one", "_law_words", "_law_before", "_law_after", "_law_handed", "_law_due", "_law_again", "_law_bad_here", "_law_at", "_law_other", "_law_k", "_law_found", "_law_here", "_law_change_here", "_law_two"] "law" (defScope st_law) f (.ref c) A outer s H E).nox) ((defBody st_law).getD 2 (.Pass ⟨0, 0, 0, 0⟩)) (tS g (fun _ _ _ _ => False) sl_14) := (qs_set (i := 3) sc_law.nd (by rfl) (by first | exact Or.inl rfl | exact Or.inr rfl) (qe_lst false qa_nil))
theorem law_s15 (T : Txt g w mg) {f c : Addr} {A : Around} {outer : List Env} {s : Shared} {H : Hp} {E : XK} (hr : Room 15 (A.deeper (envOfC "law" (defScope st_law) s.heap.objs.size f (.ref c)))) (TB : LamX.TabB base mg c g.tp) : PS ((cxOf CX0 P w g.K mg base ["_law_script", "_law_row", "_law_turn", "_law_wide", "_law_one", "_law_words", "_law_before", "_law_after", "_law_handed", "_law_due", "_law_again", "_law_bad_here", "_law_at", "_law_other", "_law_k", "_law_found", "_law_here", "_law_change_here", "_law_two"] "law" (defScope st_law) f (.ref c) A outer s H E).nox) ((forB ((defBody st_law).getD 3 (.Pass ⟨0, 0, 0, 0⟩))).getD 0 (.Pass ⟨0, 0, 0, 0⟩)) (tS g (fun _ _ _ _ => False) sl_15) := (qs_set (i := 3) sc_law.nd (by rfl) (by first | exact Or.inl rfl | exact Or.inr rfl) (qe_op (op_Add false) (qe_var 3) (qe_lc (own := [("_law_two", 18)]) false (by rfl) sc_law.nd (qi_str qe_str) (blkOk_by (by show blkC ["_law_script", "_law_row", "_law_turn", "_law_wide", "_law_one", "_law_words", "_law_before", "_law_after", "_law_handed", "_law_due", "_law_again", "_law_bad_here", "_law_at", "_law_other", "_law_k", "_law_found", "_law_here", "_law_change_here", "_law_two"] (defScope st_law) _ _ = true; decide +kernel)) (fun _ _ _ _ _ => (qg_name sc_law.nd (by rfl) (by first | exact Or.inl rfl | exact Or.inr rfl))) (fun _ _ _ _ _ => qts_nil) (fun _ _ _ _ _ => (qe_tup (qa_cons (qe_tup (qa_cons (qe_var 4) (qa_cons (qe_var 18) qa_nil))) (qa_cons qe_int qa_nil)))))))
theorem law_s17 (T : Txt g w mg) {f c : Addr} {A : Around} {outer : List Env} {s : Shared} {H : Hp} {E : XK} (hr : Room 15 (A.deeper (envOfC "law" (defScope st_law) s.heap.objs.size f (.ref c)))) (TB : LamX.TabB base mg c g.tp) : PS ((cxOf CX0 P w g.K mg base ["_law_script", "_law_row", "_law_turn", "_law_wide", "_law_one", "_law_words", "_law_before", "_law_after", "_law_handed", "_law_due", "_law_again", "_law_bad_here", "_law_at", "_law_other", "_law_k", "_law_found", "_law_here", "_law_change_here", "_law_two"] "law" (defScope st_law) f (.ref c) A outer s H E).nox) ((defBody st_law).getD 5 (.Pass ⟨0, 0, 0, 0⟩)) (tS g (fun _ _ _ _ => False) sl_17) := (qs_ret (qe_and (qe_cmp (op_Eq (by rfl) (u64 hr)) (qe_var 5) (qe_lst false (qa_cons qe_non (qa_cons (qe_tup (qa_cons qe_str (qa_cons qe_int qa_nil))) qa_nil))) (by rfl)) (qe_one (qe_cmp (op_Eq (by rfl) (u64 hr)) (qe_callB (call_Len (by rfl)) (by rfl) T.z_len (by rfl) (qa_cons (qe_calm (qe_callX takes_never (ok_fewest T) (hr.mono (by decide)) (by rfl) T.fewest.m T.fewest.F.kp T.fewest.b (qa_cons (qe_sl (sl_Seq (by rfl) false) (qe_var 3) qo_none (qo_some qe_int)) (qa_cons (qe_lst false qa_nil) qa_nil)))) qa_nil)) qe_int (by rfl)))))
end
end K8
set_option maxHeartbeats 4000000
/-! k08: law. Printed by gen8.py, but for its head. -/
namespace K8
open PySem PySem.Spec PySem.W PyProof.Rows L2 G3
section
variable {P : Program} {w : World} {g : G} {mg : Str → Option Value} {base : Heap}
theorem law_s12 (T : Txt g w mg) {f c : Addr} {A : Around} {outer : List Env} {s : Shared} {H : Hp} {E : XK} (hr : Room 15 (A.deeper (envOfC "law" (defScope st_law) s.heap.objs.size f (.ref c)))) (TB : LamX.TabB base mg c g.tp) : PS ((cxOf CX0 P w g.K mg base ["_law_script", "_law_row", "_law_turn", "_law_wide", "_law_one", "_law_words", "_law_before", "_law_after", "_law_handed", "_law_due", "_law_again", "_law_bad_here", "_law_at", "_law_other", "_law_k", "_law_found", "_law_here", "_law_change_here", "_law_two"] "law" (defScope st_law) f (.ref c) A outer s H E).nox) ((forB ((defBody st_law).getD 1 (.Pass ⟨0, 0, 0, 0⟩))).getD 6 (.Pass ⟨0, 0, 0, 0⟩)) (tS g (fun _ _ _ _ => False) sl_12) := by
  obtain ⟨ocw, odw, kVw, docw, pmw, anw, cdw, ctw, oslw, efd, lkw, hcw⟩ := T._law_word.F.ex
  have bw := T._law_word.b
  rw [efd] at bw lkw
  refine (qs_if (qt_cmp (op_Ne (by rfl) (u64 hr)) ?w0 (qe_tup (qa_cons qe_str (qa_cons (qe_var 12) qa_nil))) (by rfl)) (qss_one (qs_ret qe_bl)) qss_nil)
  case w0 =>
    have hap : ∀ n ∈ ([] : List Str), n ∉ ((cxOf CX0 P w g.K mg base ["_law_script", "_law_row", "_law_turn", "_law_wide", "_law_one", "_law_words", "_law_before", "_law_after", "_law_handed", "_law_due", "_law_again", "_law_bad_here", "_law_at", "_law_other", "_law_k", "_law_found", "_law_here", "_law_change_here", "_law_two"] "law" (defScope st_law) f (.ref c) A outer s H E).nox).N := fun n h => nomatch h
    refine qe_word2 (n := 0) (k := 13) (d := none) (ps := []) (is := [11, 13]) (Ng := ["_law_work", "e", "_law_kinds", "_law_word_here"]) (fb := l0_law) (wb := (fun f vs => b__law_word (eAct 0 0 lamq f vs 19 [11, 13] l0_law))) (j := 0) (p3 := ⟨0, 0, 0, 0⟩) (q := lamq) ?q1 ?q2 ?q3 ?q4 lkw hcw bw sc__law_word ?q5 ?q6 TB ?q7 ?q8 ?q9 hap ?r1 ?r2 ?r3 ?r4 ?r5 ?r6 ?r7 ?r8 ?r9 ?r10
    case q1 => exact law_q
    case q2 => rfl
    case q3 => exact T._law_word.m
    case q4 => exact T._law_word.F.kp
    case q5 => rfl
    case q6 => exact Or.inl rfl
    case q7 => rfl
    case q8 => exact hr.mono (by decide)
    case q9 => show LamS2 (defScope st_law) _ _; exact ⟨rfl, rfl, rfl, by decide +kernel, by decide +kernel, by decide +kernel, by decide +kernel⟩
    case r1 => rfl
    case r2 => rfl
    case r3 => intro h; cases h
    case r4 => exact ⟨rfl, fun _ _ _ _ => rfl⟩
    case r5 => exact fun A outer s H E f c' hr => qe_callX (takes_of rfl rfl rfl rfl) (ok_fewest T) (hr.mono (by decide)) (by rfl) T.fewest.m T.fewest.F.kp T.fewest.b (qa_cons (qe_var 11) (qa_cons (qe_var 13) qa_nil))
    case r6 => exact fun f vs s H hr act => pss_word T hr act
    case r7 => exact fun f vs ds S => word_hind 0 _ _ _ _ f vs ds S
    case r8 => decide
    case r9 => decide
    case r10 => decide
end
end K8
set_option maxHeartbeats 4000000
/-! k08: law. Printed by gen8.py, but for its head. -/
namespace K8
open PySem PySem.Spec PySem.W PyProof.Rows L2 G3
section
variable {P : Program} {w : World} {g : G} {mg : Str → Option Value} {base : Heap}
theorem law_s13 (T : Txt g w mg) {f c : Addr} {A : Around} {outer : List Env} {s : Shared} {H : Hp} {E : XK} (hr : Room 15 (A.deeper (envOfC "law" (defScope st_law) s.heap.objs.size f (.ref c)))) (TB : LamX.TabB base mg c g.tp) : PS ((cxOf CX0 P w g.K mg base ["_law_script", "_law_row", "_law_turn", "_law_wide", "_law_one", "_law_words", "_law_before", "_law_after", "_law_handed", "_law_due", "_law_again", "_law_bad_here", "_law_at", "_law_other", "_law_k", "_law_found", "_law_here", "_law_change_here", "_law_two"] "law" (defScope st_law) f (.ref c) A outer s H E).nox) ((forB ((defBody st_law).getD 1 (.Pass ⟨0, 0, 0, 0⟩))).getD 7 (.Pass ⟨0, 0, 0, 0⟩)) (tS g (fun _ _ _ _ => False) sl_13) := by
  obtain ⟨ocw, odw, kVw, docw, pmw, anw, cdw, ctw, oslw, efd, lkw, hcw⟩ := T._law_word.F.ex
  have bw := T._law_word.b
  rw [efd] at bw lkw
  refine (qs_if (qt_cmp (op_Ne (by rfl) (u64 hr)) ?w1 (qe_tup (qa_cons qe_str (qa_cons (qe_var 14) qa_nil))) (by rfl)) (qss_one (qs_ret qe_bl)) qss_nil)
  case w1 =>
    have hap : ∀ n ∈ (["_law_a"] : List Str), n ∉ ((cxOf CX0 P w g.K mg base ["_law_script", "_law_row", "_law_turn", "_law_wide", "_law_one", "_law_words", "_law_before", "_law_after", "_law_handed", "_law_due", "_law_again", "_law_bad_here", "_law_at", "_law_other", "_law_k", "_law_found", "_law_here", "_law_change_here", "_law_two"] "law" (defScope st_law) f (.ref c) A outer s H E).nox).N := by show ∀ n ∈ (["_law_a"] : List Str), n ∉ (["_law_script", "_law_row", "_law_turn", "_law_wide", "_law_one", "_law_words", "_law_before", "_law_after", "_law_handed", "_law_due", "_law_again", "_law_bad_here", "_law_at", "_law_other", "_law_k", "_law_found", "_law_here", "_law_change_here", "_law_two"] : List Str); decide +kernel
    refine qe_word2 (n := 0) (k := 13) (d := (some 0)) (ps := ["_law_a"]) (is := [6, 13]) (Ng := ["_law_work", "e", "_law_kinds", "_law_word_here"]) (fb := l1_law) (wb := (fun f vs => b__law_word (eAct 0 0 lamq f vs 19 [6, 13] l1_law))) (j := 0) (p3 := ⟨0, 0, 0, 0⟩) (q := lamq) ?q1 ?q2 ?q3 ?q4 lkw hcw bw sc__law_word ?q5 ?q6 TB ?q7 ?q8 ?q9 hap ?r1 ?r2 ?r3 ?r4 ?r5 ?r6 ?r7 ?r8 ?r9 ?r10
    case q1 => exact law_q
    case q2 => rfl
    case q3 => exact T._law_word.m
    case q4 => exact T._law_word.F.kp
    case q5 => rfl
    case q6 => exact Or.inl rfl
    case q7 => rfl
    case q8 => exact hr.mono (by decide)
    case q9 => show LamS2 (defScope st_law) _ _; exact ⟨rfl, rfl, rfl, by decide +kernel, by decide +kernel, by decide +kernel, by decide +kernel⟩
    case r1 => rfl
    case r2 => rfl
    case r3 => intro h; cases h
    case r4 => exact ⟨"_law_a", rfl, fun _ _ _ _ _ => ⟨_, rfl, fun _ => rfl⟩⟩
    case r5 => exact fun A outer s H E f c' hr => qe_callX (takes_of rfl rfl rfl rfl) (ok_fewest T) (hr.mono (by decide)) (by rfl) T.fewest.m T.fewest.F.kp T.fewest.b (qa_cons (qe_var 6) (qa_cons (qe_var 13) qa_nil))
    case r6 => exact fun f vs s H hr act => pss_word T hr act
    case r7 => exact fun f vs ds S => word_hind 0 _ _ _ _ f vs ds S
    case r8 => decide
    case r9 => decide
    case r10 => decide
end
end K8
set_option maxHeartbeats 4000000
/-! k08: law. Printed by gen8.py, but for its head. -/
namespace K8
open PySem PySem.Spec PySem.W PyProof.Rows L2 G3
section
variable {P : Program} {w : World} {g : G} {mg : Str → Option Value} {base : Heap}
theorem law_s16 (T : Txt g w mg) {f c : Addr} {A : Around} {outer : List Env} {s : Shared} {H : Hp} {E : XK} (hr : Room 15 (A.deeper (envOfC "law" (defScope st_law) s.heap.objs.size f (.ref c)))) (TB : LamX.TabB base mg c g.tp) : PS ((cxOf CX0 P w g.K mg base ["_law_script", "_law_row", "_law_turn", "_law_wide", "_law_one", "_law_words", "_law_before", "_law_after", "_law_handed", "_law_due", "_law_again", "_law_bad_here", "_law_at", "_law_other", "_law_k", "_law_found", "_law_here", "_law_change_here", "_law_two"] "law" (defScope st_law) f (.ref c) A outer s H E).nox) ((defBody st_law).getD 4 (.Pass ⟨0, 0, 0, 0⟩)) (tS g (fun _ _ _ _ => False) sl_16) := by
  obtain ⟨ocw, odw, kVw, docw, pmw, anw, cdw, ctw, oslw, efd, lkw, hcw⟩ := T._law_word.F.ex
  have bw := T._law_word.b
  rw [efd] at bw lkw
  refine (qs_set (i := 5) sc_law.nd (by rfl) (by first | exact Or.inl rfl | exact Or.inr rfl) (qe_lst false (qa_cons ?w3 (qa_cons ?w2 qa_nil))))
  case w3 =>
    have hap : ∀ n ∈ ([] : List Str), n ∉ ((cxOf CX0 P w g.K mg base ["_law_script", "_law_row", "_law_turn", "_law_wide", "_law_one", "_law_words", "_law_before", "_law_after", "_law_handed", "_law_due", "_law_again", "_law_bad_here", "_law_at", "_law_other", "_law_k", "_law_found", "_law_here", "_law_change_here", "_law_two"] "law" (defScope st_law) f (.ref c) A outer s H E).nox).N := fun n h => nomatch h
    refine qe_word2 (n := 0) (k := 13) (d := none) (ps := []) (is := [3]) (Ng := ["_law_work", "e", "_law_kinds", "_law_word_here"]) (fb := l3_law) (wb := (fun f vs => b__law_word (eAct 0 0 lamq f vs 19 [3] l3_law))) (j := 0) (p3 := ⟨0, 0, 0, 0⟩) (q := lamq) ?q1 ?q2 ?q3 ?q4 lkw hcw bw sc__law_word ?q5 ?q6 TB ?q7 ?q8 ?q9 hap ?r1 ?r2 ?r3 ?r4 ?r5 ?r6 ?r7 ?r8 ?r9 ?r10
    case q1 => exact law_q
    case q2 => rfl
    case q3 => exact T._law_word.m
    case q4 => exact T._law_word.F.kp
    case q5 => rfl
    case q6 => exact Or.inl rfl
    case q7 => rfl
    case q8 => exact hr.mono (by decide)
    case q9 => show LamS2 (defScope st_law) _ _; exact ⟨rfl, rfl, rfl, by decide +kernel, by decide +kernel, by decide +kernel, by decide +kernel⟩
    case r1 => rfl
    case r2 => rfl
    case r3 => intro h; cases h
    case r4 => exact ⟨rfl, fun _ _ _ _ => rfl⟩
    case r5 => exact fun A outer s H E f c' hr => qe_callX (takes_of rfl rfl rfl rfl) (ok_fewest T) (hr.mono (by decide)) (by rfl) T.fewest.m T.fewest.F.kp T.fewest.b (qa_cons (qe_sl (sl_Seq (by rfl) false) (qe_var 3) qo_none (qo_some qe_int)) (qa_cons (qe_lst false qa_nil) qa_nil))
    case r6 => exact fun f vs s H hr act => pss_word T hr act
    case r7 => exact fun f vs ds S => word_hind 0 _ _ _ _ f vs ds S
    case r8 => decide
    case r9 => decide
    case r10 => decide
  case w2 =>
    have hap : ∀ n ∈ (["_law_a"] : List Str), n ∉ ((cxOf CX0 P w g.K mg base ["_law_script", "_law_row", "_law_turn", "_law_wide", "_law_one", "_law_words", "_law_before", "_law_after", "_law_handed", "_law_due", "_law_again", "_law_bad_here", "_law_at", "_law_other", "_law_k", "_law_found", "_law_here", "_law_change_here", "_law_two"] "law" (defScope st_law) f (.ref c) A outer s H E).nox).N := by show ∀ n ∈ (["_law_a"] : List Str), n ∉ (["_law_script", "_law_row", "_law_turn", "_law_wide", "_law_one", "_law_words", "_law_before", "_law_after", "_law_handed", "_law_due", "_law_again", "_law_bad_here", "_law_at", "_law_other", "_law_k", "_law_found", "_law_here", "_law_change_here", "_law_two"] : List Str); decide +kernel
    refine qe_word2 (n := 0) (k := 13) (d := (some 0)) (ps := ["_law_a"]) (is := [3]) (Ng := ["_law_work", "e", "_law_kinds", "_law_word_here"]) (fb := l2_law) (wb := (fun f vs => b__law_word (eAct 0 0 lamq f vs 19 [3] l2_law))) (j := 0) (p3 := ⟨0, 0, 0, 0⟩) (q := lamq) ?q1 ?q2 ?q3 ?q4 lkw hcw bw sc__law_word ?q5 ?q6 TB ?q7 ?q8 ?q9 hap ?r1 ?r2 ?r3 ?r4 ?r5 ?r6 ?r7 ?r8 ?r9 ?r10
    case q1 => exact law_q
    case q2 => rfl
    case q3 => exact T._law_word.m
    case q4 => exact T._law_word.F.kp
    case q5 => rfl
    case q6 => exact Or.inl rfl
    case q7 => rfl
    case q8 => exact hr.mono (by decide)
    case q9 => show LamS2 (defScope st_law) _ _; exact ⟨rfl, rfl, rfl, by decide +kernel, by decide +kernel, by decide +kernel, by decide +kernel⟩
    case r1 => rfl
    case r2 => rfl
    case r3 => intro h; cases h
    case r4 => exact ⟨"_law_a", rfl, fun _ _ _ _ _ => ⟨_, rfl, fun _ => rfl⟩⟩
    case r5 => exact fun A outer s H E f c' hr => qe_callX (takes_of rfl rfl rfl rfl) (ok_fewest T) (hr.mono (by decide)) (by rfl) T.fewest.m T.fewest.F.kp T.fewest.b (qa_cons (qe_lst false qa_nil) (qa_cons (qe_sl (sl_Seq (by rfl) false) (qe_var 3) qo_none (qo_some qe_int)) qa_nil))
    case r6 => exact fun f vs s H hr act => pss_word T hr act
    case r7 => exact fun f vs ds S => word_hind 0 _ _ _ _ f vs ds S
    case r8 => decide
    case r9 => decide
    case r10 => decide
end
end K8
set_option maxHeartbeats 4000000
/-! k08: law. Printed by gen8.py, but for its head. -/
namespace K8
open PySem PySem.Spec PySem.W PyProof.Rows L2 G3
section
variable {P : Program} {w : World} {g : G} {mg : Str → Option Value} {base : Heap}
theorem ok_law (T : Txt g w mg) {f c : Addr} {oc kV doc pm ct : Value} {od an : Option Addr} {osl : Array (Option Value)} (lk : g.K.lookup f = some ⟨oc, od, .func (PySem.W.fnOf "law" "law" (defArgs st_law) (defBody st_law) (defScope st_law) .none kV doc pm an (.ref c) ct), osl⟩) (hcd : PySem.W.codeIn g.K (.ref c) "law" = true) (TB : LamX.TabB base mg c g.tp) :
    FnOk P w g.K mg base CX0 16 f (PySem.W.fnOf "law" "law" (defArgs st_law) (defBody st_law) (defScope st_law) .none kV doc pm an (.ref c) ct) ["_law_script"] (spM g f_law) :=
  fn_okC lk hcd sc_law fun A outer s H E hr => (qss_cons (law_s0 T hr TB)
    (qss_cons (qs_for PassesOwn.never (by rfl) (qi_range1 (by rfl) T.z_range (qa_cons qe_int qa_nil)) (qg_name sc_law.nd (by rfl) (by first | exact Or.inl rfl | exact Or.inr rfl)) (qss_cons (law_s1 T hr TB)
    (qss_cons (law_s2 T hr TB)
    (qss_cons (law_s3 T hr TB)
    (qss_cons (qs_for PassesOwn.never (by rfl) (qi_range1 (by rfl) T.z_range (qa_cons qe_int qa_nil)) (qg_name sc_law.nd (by rfl) (by first | exact Or.inl rfl | exact Or.inr rfl)) (qss_cons (law_s4 T hr TB)
    (qss_cons (law_s5 T hr TB)
    (qss_cons (law_s6 T hr TB)
    (qss_cons (qs_for PassesOwn.never (by rfl) (qi_list (by rfl) (qe_var 15)) (qg_name sc_law.nd (by rfl) (by first | exact Or.inl rfl | exact Or.inr rfl)) (qss_one (law_s7 T hr TB)))
    (qss_cons (law_s8 T hr TB)
    (qss_one (law_s9 T hr TB))))))))
    (qss_cons (law_s10 T hr TB)
    (qss_cons (law_s11 T hr TB)
    (qss_cons (law_s12 T hr TB)
    (qss_one (law_s13 T hr TB))))))))))
    (qss_cons (law_s14 T hr TB)
    (qss_cons (qs_for PassesOwn.never (by rfl) (qi_str qe_str) (qg_name sc_law.nd (by rfl) (by first | exact Or.inl rfl | exact Or.inr rfl)) (qss_one (law_s15 T hr TB)))
    (qss_cons (law_s16 T hr TB)
    (qss_one (law_s17 T hr TB)))))))

end
end K8
/-! k08, plain: trees as functions, changes, the least number of changes. -/
namespace Lst
variable {α : Type} [DecidableEq α]
abbrev Tr (α : Type) := List α → Option Int
inductive Ch (α : Type) where
  | set (p : List α) (w : Int) | drop (p : List α) | clear (p : List α)
  deriving DecidableEq
def Ch.path : Ch α → List α
  | .set p _ => p
  | .drop p => p
  | .clear p => p
def step (f : Tr α) : Ch α → Tr α
  | .set p w => fun x => if x = p then some w else f x
  | .drop p => fun x => if x = p then none else f x
  | .clear p => fun x => if p <+: x then none else f x
def run (f : Tr α) : List (Ch α) → Tr α
  | [] => f
  | c :: s => run (step f c) s
theorem run_append (f : Tr α) : ∀ s t : List (Ch α), run f (s ++ t) = run (run f s) t
  | [], t => rfl
  | c :: s, t => run_append (step f c) s t
theorem set_of {x : List α} {w : Int} : ∀ {s : List (Ch α)} {g : Tr α}, g x = none → run g s x = some w → ∃ w', Ch.set x w' ∈ s
  | [], g, h, e => by simp [run, h] at e
  | c :: s, g, h, e => by
    by_cases q : step g c x = none
    · obtain ⟨w', hw⟩ := set_of q e
      exact ⟨w', List.mem_cons_of_mem _ hw⟩
    · cases c with
      | set p v =>
        by_cases hp : x = p
        · subst hp; exact ⟨v, List.mem_cons_self⟩
        · simp [step, hp, h] at q
      | drop p => simp [step, h] at q
      | clear p => simp [step, h] at q
theorem own_of {p : List α} : ∀ {s : List (Ch α)} {g : Tr α}, run g s p ≠ g p → (∀ q, Ch.clear q ∈ s → ¬ q <+: p) → ∃ c, c ∈ s ∧ c.path = p
  | [], g, h, _ => absurd rfl h
  | c :: s, g, h, hc => by
    by_cases q : step g c p = g p
    · have h' : run (step g c) s p ≠ step g c p := by rw [q]; exact h
      obtain ⟨d, hd, e⟩ := own_of h' fun q hq => hc q (List.mem_cons_of_mem _ hq)
      exact ⟨d, List.mem_cons_of_mem _ hd, e⟩
    · refine ⟨c, List.mem_cons_self, ?_⟩
      cases c with
      | set x v =>
        by_cases hp : p = x
        · exact hp.symm
        · simp [step, hp] at q
      | drop x =>
        by_cases hp : p = x
        · exact hp.symm
        · simp [step, hp] at q
      | clear x =>
        have := hc x List.mem_cons_self
        simp [step, this] at q
/-- how many changes lie within a path -/
def cnt (p : List α) (s : List (Ch α)) : Nat := s.countP fun c => decide (p <+: c.path)
theorem nodup_le {β : Type} [DecidableEq β] : ∀ {l m : List β}, l.Nodup → (∀ x, x ∈ l → x ∈ m) → l.length ≤ m.length
  | [], m, _, _ => Nat.zero_le _
  | x :: l, m, h, hs => by
    have hx := hs x List.mem_cons_self
    have hn := List.nodup_cons.mp h
    have ih := nodup_le (m := m.erase x) hn.2 fun y hy => (List.mem_erase_of_ne (fun e => hn.1 (by rw [← e]; exact hy))).mpr (hs y (List.mem_cons_of_mem _ hy))
    have hl := List.length_erase_of_mem hx
    have : 0 < m.length := List.length_pos_of_mem hx
    simp only [List.length_cons]
    omega
/-- own, kids -/
theorem pre_len {p q : List α} (h : p <+: q) : p.length ≤ q.length := h.length_le
theorem kid_count {p x : List α} : ∀ {ks : List (List α)}, ks.Nodup → (∀ q, q ∈ ks → ∃ c, q = p ++ [c]) →
    (if x = p then 1 else 0) + (ks.map fun q => if q <+: x then 1 else 0).sum ≤ if p <+: x then 1 else 0
  | [], _, _ => by
    by_cases h : x = p
    · subst h; simp
    · simp [h]
  | q :: ks, hn, hk => by
    have hn' := List.nodup_cons.mp hn
    have ih := kid_count (x := x) hn'.2 fun q hq => hk q (List.mem_cons_of_mem _ hq)
    obtain ⟨c, hc⟩ := hk q List.mem_cons_self
    simp only [List.map_cons, List.sum_cons]
    by_cases hq : q <+: x
    · have hp : p <+: x := by
        subst hc
        exact (List.prefix_append p [c]).trans hq
      have hne : x ≠ p := by
        intro e
        have := pre_len hq
        rw [hc, e] at this
        simp only [List.length_append, List.length_singleton] at this
        omega
      have hz : (ks.map fun q => if q <+: x then 1 else 0).sum = 0 := by
        have hall : ∀ r, r ∈ ks → (if r <+: x then 1 else 0) = 0 := by
          intro r hr
          obtain ⟨d, hd⟩ := hk r (List.mem_cons_of_mem _ hr)
          by_cases hrx : r <+: x
          · exfalso
            have e : r = q := by
              have h1 := List.prefix_iff_eq_take.mp hrx
              have h2 := List.prefix_iff_eq_take.mp hq
              rw [h1, h2, hd, hc]; simp
            exact hn'.1 (by rw [← e]; exact hr)
          · simp [hrx]
        clear ih hn hk hn'
        induction ks with
        | nil => rfl
        | cons r ks ih =>
          simp only [List.map_cons, List.sum_cons]
          rw [hall r List.mem_cons_self, ih fun r hr => hall r (List.mem_cons_of_mem _ hr)]
      rw [hz]
      simp [hq, hp, hne]
    · simp only [hq, if_false, Nat.zero_add]
      exact ih
theorem cnt_cons (p : List α) (c : Ch α) (s : List (Ch α)) : cnt p (c :: s) = cnt p s + if p <+: c.path then 1 else 0 := by
  unfold cnt
  rw [List.countP_cons]
  simp
theorem cnt_split {p : List α} {ks : List (List α)} (hn : ks.Nodup) (hk : ∀ q, q ∈ ks → ∃ c, q = p ++ [c]) : ∀ s : List (Ch α),
    (s.countP fun c => decide (c.path = p)) + (ks.map fun q => cnt q s).sum ≤ cnt p s
  | [] => by
    have : ∀ l : List (List α), (l.map fun q => cnt q ([] : List (Ch α))).sum = 0 := by
      intro l
      induction l with
      | nil => rfl
      | cons a l ih => simp only [List.map_cons, List.sum_cons, ih]; rfl
    rw [this]; simp [cnt]
  | c :: s => by
    have ih := cnt_split hn hk s
    have one := kid_count (x := c.path) hn hk
    rw [cnt_cons, List.countP_cons]
    have hs : (ks.map fun q => cnt q (c :: s)).sum = (ks.map fun q => cnt q s).sum + (ks.map fun q => if q <+: c.path then 1 else 0).sum := by
      clear ih one hn hk
      induction ks with
      | nil => rfl
      | cons a l ih =>
        simp only [List.map_cons, List.sum_cons]
        rw [ih, cnt_cons]
        omega
    rw [hs]
    simp only [decide_eq_true_eq]
    omega
theorem sum_le {β : Type} {f g : β → Nat} : ∀ {l : List β}, (∀ x, x ∈ l → f x ≤ g x) → (l.map f).sum ≤ (l.map g).sum
  | [], _ => Nat.le_refl _
  | x :: l, h => by
    have := h x List.mem_cons_self
    have ih := sum_le (l := l) fun y hy => h y (List.mem_cons_of_mem _ hy)
    simp only [List.map_cons, List.sum_cons]
    omega
/-- what the search for the best knows: kids straight below a path, the other tree's keys within it -/
structure Kn (b a : Tr α) where
  kids : List α → List (List α)
  keys : List α → List (List α)
  kn : ∀ p, (kids p).Nodup
  kp : ∀ p q, q ∈ kids p → ∃ c, q = p ++ [c]
  kc : ∀ p x, p <+: x → x ≠ p → (b x ≠ none ∨ a x ≠ none) → ∃ q, q ∈ kids p ∧ q <+: x
  yn : ∀ p, (keys p).Nodup
  ym : ∀ p x, x ∈ keys p ↔ p <+: x ∧ a x ≠ none
variable {b a : Tr α}
def own (b a : Tr α) (p : List α) : List (Ch α) := if b p = a p then [] else match a p with
  | some w => [.set p w]
  | none => [.drop p]
def anew (a : Tr α) (ks : List (List α)) (p : List α) : List (Ch α) := .clear p :: ks.map fun x => .set x ((a x).getD 0)
def pick (f an : List (Ch α)) : List (Ch α) := if f.length < 2 then f else if an.length < f.length then an else f
def bestL (K : Kn b a) : Nat → List α → List (Ch α)
  | 0, _ => []
  | n + 1, p => pick (own b a p ++ (K.kids p).flatMap (bestL K n)) (anew a (K.keys p) p)
theorem pick_le (f an : List (Ch α)) : (pick f an).length ≤ f.length := by
  unfold pick
  split
  · exact Nat.le_refl _
  · split
    · omega
    · exact Nat.le_refl _
theorem pick_le2 (f an : List (Ch α)) (h : 1 ≤ an.length) : (pick f an).length ≤ an.length := by
  unfold pick
  split
  · omega
  · split
    · exact Nat.le_refl _
    · omega
theorem flat_len {β γ : Type} (f : β → List γ) : ∀ l : List β, (l.flatMap f).length = (l.map fun x => (f x).length).sum
  | [] => rfl
  | x :: l => by simp [List.flatMap_cons, flat_len f l]
/-- how far a row of changes that does not clear above a path must go -/
theorem lower_kids (K : Kn b a) {n : Nat} {p : List α} {s : List (Ch α)}
    (ih : ∀ q, q ∈ K.kids p → (bestL K n q).length ≤ cnt q s) (hr : run b s p = a p) (hc : ∀ q, Ch.clear q ∈ s → ¬ q <+: p) :
    (own b a p ++ (K.kids p).flatMap (bestL K n)).length ≤ cnt p s := by
  rw [List.length_append, flat_len]
  refine Nat.le_trans (Nat.add_le_add ?_ (sum_le ih)) (cnt_split (K.kn p) (K.kp p) s)
  unfold own
  split
  · exact Nat.zero_le _
  · rename_i hne
    obtain ⟨c, hcs, hp⟩ := own_of (s := s) (g := b) (p := p) (by rw [hr]; exact fun e => hne e.symm) hc
    have : 0 < s.countP fun c => decide (c.path = p) := List.countP_pos_iff.mpr ⟨c, hcs, by simp [hp]⟩
    split <;> (simp only [List.length_singleton]; omega)
theorem keys_cnt {p : List α} {ks : List (List α)} (hn : ks.Nodup) (hk : ∀ x, x ∈ ks → p <+: x) {s : List (Ch α)} (hs : ∀ x, x ∈ ks → ∃ c, c ∈ s ∧ c.path = x) : ks.length ≤ cnt p s := by
  have h := nodup_le (m := (s.filter fun c => decide (p <+: c.path)).map Ch.path) hn fun x hx => by
    obtain ⟨c, hcs, e⟩ := hs x hx
    exact List.mem_map.mpr ⟨c, List.mem_filter.mpr ⟨hcs, by rw [e]; simpa using hk x hx⟩, e⟩
  rw [List.length_map] at h
  unfold cnt
  rw [List.countP_eq_length_filter]
  exact h
theorem lower (K : Kn b a) : ∀ (n : Nat) (p : List α) (s : List (Ch α)), (∀ x, p <+: x → run b s x = a x) → (∀ q, Ch.clear q ∈ s → q <+: p → q = p) → (bestL K n p).length ≤ cnt p s
  | 0, p, s, _, _ => Nat.zero_le _
  | n + 1, p, s, hr, hc => by
    by_cases hp : Ch.clear p ∈ s
    · obtain ⟨s1, s2, rfl⟩ := List.append_of_mem hp
      have h1 : (bestL K (n + 1) p).length ≤ (anew a (K.keys p) p).length := pick_le2 _ _ (by simp [anew])
      refine Nat.le_trans h1 ?_
      have h2 : (K.keys p).length ≤ cnt p s2 := keys_cnt (K.yn p) (fun x hx => ((K.ym p x).mp hx).1) fun x hx => by
        obtain ⟨hpx, hx⟩ := (K.ym p x).mp hx
        obtain ⟨w, hw⟩ := Option.ne_none_iff_exists'.mp hx
        have e := hr x hpx
        rw [run_append] at e
        have e2 : run (step (run b s1) (.clear p)) s2 x = some w := by rw [← hw, ← e]; rfl
        obtain ⟨w', hm⟩ := set_of (by simp [step, hpx]) e2
        exact ⟨_, hm, rfl⟩
      have h3 : cnt p (s1 ++ Ch.clear p :: s2) = cnt p s1 + (cnt p s2 + 1) := by
        unfold cnt
        rw [List.countP_append, List.countP_cons]
        simp [Ch.path]
      rw [h3]
      simp [anew]
      omega
    · have hno : ∀ q, Ch.clear q ∈ s → ¬ q <+: p := fun q hq hqp => hp (by rw [← hc q hq hqp]; exact hq)
      refine Nat.le_trans (pick_le _ _) (lower_kids K (fun q hq => ?_) (hr p (List.prefix_refl p)) hno)
      obtain ⟨c, hqc⟩ := K.kp p q hq
      refine lower K n q s (fun x hx => hr x ((by rw [hqc]; exact List.prefix_append p [c] : p <+: q).trans hx)) fun r hr' hrq => ?_
      rw [hqc] at hrq ⊢
      rcases List.prefix_concat_iff.mp hrq with e | e
      · exact e
      · exact absurd e (hno r hr')
theorem lower_all (K : Kn b a) (n : Nat) (s : List (Ch α)) (hr : run b s = a) : (bestL K n []).length ≤ s.length := by
  refine Nat.le_trans (lower K n [] s (fun x _ => by rw [hr]) fun q _ hq => List.prefix_nil.mp hq) ?_
  exact List.countP_le_length
/-! what the best row does -/
theorem run_sets (v : List α → Int) {x : List α} : ∀ {ks : List (List α)} {g : Tr α}, run g (ks.map fun y => .set y (v y)) x = if x ∈ ks then some (v x) else g x
  | [], g => by simp [run]
  | y :: ks, g => by
    show run (step g (.set y (v y))) _ x = _
    rw [run_sets v (ks := ks)]
    by_cases h : x ∈ ks
    · simp [h]
    · by_cases e : x = y
      · subst e; simp [h, step]
      · simp [h, e, step]
def Good (b a : Tr α) (n : Nat) (p : List α) : Prop := ∀ x, p <+: x → (b x ≠ none ∨ a x ≠ none) → x.length < p.length + n
theorem best_run (K : Kn b a) : ∀ (n : Nat) (p : List α), Good b a n p → ∀ g : Tr α, (∀ x, p <+: x → g x = b x) → ∀ x, run g (bestL K n p) x = if p <+: x then a x else g x
  | 0, p, hg, g, hb, x => by
    show g x = _
    by_cases h : p <+: x
    · have hl := pre_len h
      have : ¬ (b x ≠ none ∨ a x ≠ none) := fun q => by have := hg x h q; omega
      simp only [not_or, Classical.not_not] at this
      rw [if_pos h, hb x h, this.1, this.2]
    · rw [if_neg h]
  | n + 1, p, hg, g, hb, x => by
    have kids : ∀ (ks : List (List α)) (g : Tr α), ks.Nodup → (∀ q, q ∈ ks → q ∈ K.kids p) → (∀ q, q ∈ ks → ∀ x, q <+: x → g x = b x) → ∀ x, run g (ks.flatMap (bestL K n)) x = if ∃ q, q ∈ ks ∧ q <+: x then a x else g x := by
      intro ks
      induction ks with
      | nil => intro g _ _ _ x; simp [run]
      | cons q ks ih =>
        intro g hn hk hb x
        have hn' := List.nodup_cons.mp hn
        rw [List.flatMap_cons, run_append]
        obtain ⟨c, hqc⟩ := K.kp p q (hk q List.mem_cons_self)
        have hpq : p <+: q := by rw [hqc]; exact List.prefix_append p [c]
        have gq : Good b a n q := fun x hx h => by
          have := hg x (hpq.trans hx) h
          rw [hqc, List.length_append, List.length_singleton]; omega
        have r1 := best_run K n q gq g (hb q List.mem_cons_self)
        rw [ih (run g (bestL K n q)) hn'.2 (fun r hr => hk r (List.mem_cons_of_mem _ hr))]
        · rw [r1 x]
          by_cases h1 : q <+: x
          · by_cases h2 : ∃ r, r ∈ ks ∧ r <+: x
            · rw [if_pos h2, if_pos ⟨q, List.mem_cons_self, h1⟩]
            · rw [if_neg h2, if_pos h1, if_pos ⟨q, List.mem_cons_self, h1⟩]
          · rw [if_neg h1]
            by_cases h2 : ∃ r, r ∈ ks ∧ r <+: x
            · obtain ⟨r, hr, hx⟩ := h2
              rw [if_pos ⟨r, hr, hx⟩, if_pos ⟨r, List.mem_cons_of_mem _ hr, hx⟩]
            · rw [if_neg h2, if_neg]
              rintro ⟨r, hr, hx⟩
              rcases List.mem_cons.mp hr with e | e
              · subst e; exact h1 hx
              · exact h2 ⟨r, e, hx⟩
        · intro r hr y hy
          rw [r1 y, if_neg]
          · exact hb r (List.mem_cons_of_mem _ hr) y hy
          · intro hqy
            obtain ⟨d, hd⟩ := K.kp p r (hk r (List.mem_cons_of_mem _ hr))
            have h1 := List.prefix_iff_eq_take.mp hy
            have h2 := List.prefix_iff_eq_take.mp hqy
            have : r = q := by rw [h1, h2, hd, hqc]; simp
            exact hn'.1 (by rw [← this]; exact hr)
    have found : ∀ x, run g (own b a p ++ (K.kids p).flatMap (bestL K n)) x = if p <+: x then a x else g x := by
      intro x
      have ro : ∀ y, run g (own b a p) y = if y = p then a p else g y := by
        intro y
        unfold own
        split
        · rename_i e
          by_cases hy : y = p
          · subst hy; rw [if_pos rfl, ← e]; exact hb _ (List.prefix_refl _)
          · rw [if_neg hy]; rfl
        · split
          · rename_i w hw; simp [run, step, hw]
          · rename_i hw; simp [run, step, hw]
      rw [run_append, kids (K.kids p) _ (K.kn p) fun _ h => h]
      · by_cases h : ∃ q, q ∈ K.kids p ∧ q <+: x
        · rw [if_pos h]
          obtain ⟨q, hq, hx⟩ := h
          obtain ⟨c, hc⟩ := K.kp p q hq
          have : p <+: x := (by rw [hc]; exact List.prefix_append p [c] : p <+: q).trans hx
          rw [if_pos this]
        · rw [if_neg h, ro x]
          by_cases hx : x = p
          · subst hx; rw [if_pos rfl, if_pos (List.prefix_refl _)]
          · rw [if_neg hx]
            by_cases hp : p <+: x
            · rw [if_pos hp, hb x hp]
              have : ¬ (b x ≠ none ∨ a x ≠ none) := fun q => h (K.kc p x hp hx q)
              simp only [not_or, Classical.not_not] at this
              rw [this.1, this.2]
            · rw [if_neg hp]
      · intro q hq y hy
        obtain ⟨c, hc⟩ := K.kp p q hq
        have hne : y ≠ p := fun e => by
          have := pre_len hy
          rw [hc, e, List.length_append, List.length_singleton] at this
          omega
        rw [ro y, if_neg hne]
        exact hb y ((by rw [hc]; exact List.prefix_append p [c] : p <+: q).trans hy)
    show run g (pick _ _) x = _
    unfold pick
    split
    · exact found x
    · split
      · unfold anew
        show run (step g (.clear p)) _ x = _
        rw [run_sets fun x => (a x).getD 0]
        by_cases hp : p <+: x
        · rw [if_pos hp]
          by_cases hx : x ∈ K.keys p
          · rw [if_pos hx]
            obtain ⟨w, hw⟩ := Option.ne_none_iff_exists'.mp ((K.ym p x).mp hx).2
            rw [hw]; rfl
          · rw [if_neg hx]
            have : a x = none := Classical.byContradiction fun q => hx ((K.ym p x).mpr ⟨hp, q⟩)
            rw [this]; simp [step, hp]
        · rw [if_neg hp, if_neg (fun hx => hp ((K.ym p x).mp hx).1)]
          simp [step, hp]
      · exact found x
theorem best_all (K : Kn b a) (n : Nat) (hg : ∀ x, (b x ≠ none ∨ a x ≠ none) → x.length < n) : run b (bestL K n []) = a := by
  funext x
  rw [best_run K n [] (fun x _ h => by simpa using hg x h) b (fun _ _ => rfl) x, if_pos (List.nil_prefix)]
/-- each change of the best row is one that the law tries -/
theorem best_mem (K : Kn b a) : ∀ (n : Nat) (p : List α) (c : Ch α), c ∈ bestL K n p → (∃ w, c = .set c.path w ∧ a c.path = some w) ∨ (c = .drop c.path ∧ b c.path ≠ none) ∨ (c = .clear c.path ∧ ∃ x, c.path <+: x ∧ b x ≠ none)
  | 0, p, c, h => by simp [bestL] at h
  | n + 1, p, c, h => by
    have found : c ∈ own b a p ++ (K.kids p).flatMap (bestL K n) → (∃ w, c = .set c.path w ∧ a c.path = some w) ∨ (c = .drop c.path ∧ b c.path ≠ none) ∨ (c = .clear c.path ∧ ∃ x, c.path <+: x ∧ b x ≠ none) := by
      intro h
      rcases List.mem_append.mp h with h | h
      · unfold own at h
        split at h
        · simp at h
        · rename_i hne
          split at h
          · rename_i w hw
            simp only [List.mem_singleton] at h
            subst h
            exact .inl ⟨w, rfl, hw⟩
          · rename_i hw
            simp only [List.mem_singleton] at h
            subst h
            exact .inr (.inl ⟨rfl, fun e => hne (by rw [hw]; exact e)⟩)
      · obtain ⟨q, hq, hm⟩ := List.mem_flatMap.mp h
        exact best_mem K n q c hm
    unfold bestL pick at h
    split at h
    · exact found h
    · split at h
      · rename_i _ hl
        rcases List.mem_cons.mp h with e | e
        · subst e
          refine .inr (.inr ⟨rfl, Classical.byContradiction fun hno => ?_⟩)
          have hz : ∀ x, p <+: x → b x = none := fun x hx => Classical.byContradiction fun q => hno ⟨x, hx, q⟩
          have hr : ∀ x, p <+: x → run b ((K.keys p).map fun y => Ch.set y ((a y).getD 0)) x = a x := by
            intro x hp
            rw [run_sets fun x => (a x).getD 0]
            by_cases hx : x ∈ K.keys p
            · rw [if_pos hx]
              obtain ⟨w, hw⟩ := Option.ne_none_iff_exists'.mp ((K.ym p x).mp hx).2
              rw [hw]; rfl
            · rw [if_neg hx]
              have : a x = none := Classical.byContradiction fun q => hx ((K.ym p x).mpr ⟨hp, q⟩)
              rw [this, hz x hp]
          have nc : ∀ q : List α, Ch.clear q ∉ (K.keys p).map fun y => Ch.set y ((a y).getD 0) := by
            intro q hq
            obtain ⟨y, _, e⟩ := List.mem_map.mp hq
            cases e
          have := lower_kids K (n := n) (p := p) (s := (K.keys p).map fun y => Ch.set y ((a y).getD 0)) (fun q hq => by
            obtain ⟨d, hd⟩ := K.kp p q hq
            exact lower K n q _ (fun x hx => hr x ((by rw [hd]; exact List.prefix_append p [d] : p <+: q).trans hx)) fun r hr => absurd hr (nc r)) (hr p (List.prefix_refl _)) fun r hr => absurd hr (nc r)
          have h2 : cnt p ((K.keys p).map fun y => Ch.set y ((a y).getD 0)) ≤ (K.keys p).length := by
            have := List.countP_le_length (p := fun c : Ch α => decide (p <+: c.path)) (l := (K.keys p).map fun y => Ch.set y ((a y).getD 0))
            rw [List.length_map] at this
            exact this
          simp only [anew, List.length_cons, List.length_map] at hl
          omega
        · obtain ⟨x, hx, e⟩ := List.mem_map.mp e
          subst e
          obtain ⟨w, hw⟩ := Option.ne_none_iff_exists'.mp ((K.ym p x).mp hx).2
          exact .inl ⟨w, by rw [hw]; rfl, hw⟩
      · exact found h
end Lst
/-! k08, plain: trees as rows of keys, rising; going from tree to tree, level by level. -/
namespace Lst
open PySem G3
abbrev Pt := List Str
abbrev LT := List (Pt × Int)
/-- keys in order -/
def pairLe (x y : Pt × Int) : Bool := if x.1 = y.1 then decide (x.2 ≤ y.2) else decide (cl x.1 < cl y.1)
theorem pairLe_total (x y : Pt × Int) : (pairLe x y || pairLe y x) = true := by
  unfold pairLe
  by_cases h : x.1 = y.1
  · rw [if_pos h, if_pos h.symm]
    simp only [Bool.or_eq_true, decide_eq_true_eq]
    omega
  · rw [if_neg h, if_neg fun e => h e.symm]
    simp only [Bool.or_eq_true, decide_eq_true_eq]
    rcases List.le_total (cl x.1) (cl y.1) with q | q
    · rcases Classical.em (cl x.1 < cl y.1) with r | r
      · exact .inl r
      · exact absurd (cl_inj (List.le_antisymm q r)) h
    · rcases Classical.em (cl y.1 < cl x.1) with r | r
      · exact .inr r
      · exact absurd (cl_inj (List.le_antisymm r q)) h
theorem pairLe_antisymm {x y : Pt × Int} (h1 : pairLe x y = true) (h2 : pairLe y x = true) : x = y := by
  unfold pairLe at h1 h2
  by_cases h : x.1 = y.1
  · rw [if_pos h] at h1
    rw [if_pos h.symm] at h2
    simp only [decide_eq_true_eq] at h1 h2
    exact Prod.ext h (by omega)
  · rw [if_neg h] at h1
    rw [if_neg fun e => h e.symm] at h2
    simp only [decide_eq_true_eq] at h1 h2
    exact absurd (List.lt_trans h1 h2) (List.lt_irrefl _)
theorem pairLe_trans (x y z : Pt × Int) (h1 : pairLe x y = true) (h2 : pairLe y z = true) : pairLe x z = true := by
  unfold pairLe at h1 h2 ⊢
  by_cases h : x.1 = y.1
  · rw [if_pos h] at h1
    by_cases h' : y.1 = z.1
    · rw [if_pos h'] at h2
      rw [if_pos (h.trans h')]
      simp only [decide_eq_true_eq] at h1 h2 ⊢
      omega
    · rw [if_neg h'] at h2
      rw [if_neg (by rw [h]; exact h'), h]; exact h2
  · rw [if_neg h] at h1
    by_cases h' : y.1 = z.1
    · rw [if_neg (by rw [← h']; exact h), ← h']; exact h1
    · rw [if_neg h'] at h2
      simp only [decide_eq_true_eq] at h1 h2
      have h3 := List.lt_trans h1 h2
      rw [if_neg, decide_eq_true_eq]
      · exact h3
      · intro e; rw [e] at h3; exact List.lt_irrefl _ h3
def sortT (T : LT) : LT := T.mergeSort pairLe
/-- rising paths -/
def Ris (T : LT) : Prop := T.Pairwise fun x y => cl x.1 < cl y.1
theorem Ris.le {T : LT} (h : Ris T) : T.Pairwise fun x y => pairLe x y = true := List.Pairwise.imp (fun {x y} q => by
  unfold pairLe
  rw [if_neg (fun e => by rw [e] at q; exact List.lt_irrefl _ q)]
  simpa using q) h
theorem Ris.ne {T : LT} (h : Ris T) : T.Pairwise fun x y => x.1 ≠ y.1 := List.Pairwise.imp (fun {x y} q e => by rw [e] at q; exact List.lt_irrefl _ q) h
theorem Ris.nodup {T : LT} (h : Ris T) : T.Nodup := List.Pairwise.imp (fun {x y} q e => q (by rw [e])) h.ne
theorem Ris.filter {T : LT} (h : Ris T) (p : Pt × Int → Bool) : Ris (T.filter p) := List.Pairwise.filter p h
theorem Ris.one {T : LT} (h : Ris T) {p : Pt} {v w : Int} (h1 : (p, v) ∈ T) (h2 : (p, w) ∈ T) : v = w := by
  induction T with
  | nil => simp at h1
  | cons x T ih =>
    have hc := List.pairwise_cons.mp h.ne
    rcases List.mem_cons.mp h1 with e1 | e1 <;> rcases List.mem_cons.mp h2 with e2 | e2
    · rw [← e2] at e1; exact (Prod.mk.inj e1).2
    · exact absurd (by rw [← e1]) (hc.1 _ e2)
    · exact absurd (by rw [← e2]) (hc.1 _ e1)
    · exact ih (List.pairwise_cons.mp h).2 e1 e2
theorem ris_sort {T : LT} (h : T.Pairwise fun x y => x.1 ≠ y.1) : Ris (sortT T) := by
  have h1 : (sortT T).Pairwise fun x y => pairLe x y = true := List.pairwise_mergeSort pairLe_trans pairLe_total T
  have h2 : (sortT T).Pairwise fun x y => x.1 ≠ y.1 := (List.Perm.pairwise_iff (fun {x y} q e => q e.symm) (List.mergeSort_perm T pairLe)).mpr h
  unfold Ris
  exact List.Pairwise.imp (fun {x y} q => by
    obtain ⟨q1, q2⟩ := q
    unfold pairLe at q1
    rw [if_neg q2] at q1
    simpa using q1) (h1.and h2)
theorem mem_sort {T : LT} {x : Pt × Int} : x ∈ sortT T ↔ x ∈ T := (List.mergeSort_perm T pairLe).mem_iff
theorem ris_eq {T U : LT} (h : Ris T) (k : Ris U) (e : ∀ x, x ∈ T ↔ x ∈ U) : T = U :=
  List.Perm.eq_of_pairwise (fun _ _ _ _ h1 h2 => pairLe_antisymm h1 h2) h.le k.le ((List.perm_ext_iff_of_nodup h.nodup k.nodup).mpr e)
/-- a row of keys and the function that it is -/
def Of (T : LT) (f : Tr Str) : Prop := ∀ x v, (x, v) ∈ T ↔ f x = some v
def lstep (T : LT) : Ch Str → LT
  | .set p w => sortT (T.filter (fun k => decide (k.1 ≠ p)) ++ [(p, w)])
  | .drop p => T.filter fun k => decide (k.1 ≠ p)
  | .clear p => T.filter fun k => decide (¬ p <+: k.1)
theorem lstep_ris {T : LT} (h : Ris T) (c : Ch Str) : Ris (lstep T c) := by
  cases c with
  | drop p => exact h.filter _
  | clear p => exact h.filter _
  | set p w =>
    refine ris_sort (List.pairwise_append.mpr ⟨(h.filter _).ne, List.pairwise_singleton _ _, fun x hx y hy => ?_⟩)
    rw [List.mem_singleton] at hy
    subst hy
    simpa using (List.mem_filter.mp hx).2
theorem lstep_of {T : LT} {f : Tr Str} (o : Of T f) (c : Ch Str) : Of (lstep T c) (step f c) := by
  intro x v
  cases c with
  | drop p =>
    simp only [lstep, step, List.mem_filter, decide_eq_true_eq, o x v]
    by_cases h : x = p <;> simp [h]
  | clear p =>
    simp only [lstep, step, List.mem_filter, decide_eq_true_eq, o x v]
    by_cases h : p <+: x <;> simp [h]
  | set p w =>
    simp only [lstep, step, mem_sort, List.mem_append, List.mem_filter, decide_eq_true_eq, o x v, List.mem_singleton, Prod.mk.injEq]
    by_cases h : x = p
    · simp [h, eq_comm]
    · simp [h]
def lrun (T : LT) : List (Ch Str) → LT
  | [] => T
  | c :: s => lrun (lstep T c) s
theorem lrun_append (T : LT) : ∀ s t : List (Ch Str), lrun T (s ++ t) = lrun (lrun T s) t
  | [], t => rfl
  | c :: s, t => lrun_append (lstep T c) s t
theorem lrun_ris : ∀ {s : List (Ch Str)} {T : LT}, Ris T → Ris (lrun T s)
  | [], _, h => h
  | c :: s, _, h => lrun_ris (s := s) (lstep_ris h c)
theorem lrun_of : ∀ {s : List (Ch Str)} {T : LT} {f : Tr Str}, Of T f → Of (lrun T s) (run f s)
  | [], _, _, h => h
  | c :: s, _, _, h => lrun_of (s := s) (lstep_of h c)
theorem of_eq {T U : LT} {f : Tr Str} (h : Ris T) (k : Ris U) (o : Of T f) (o' : Of U f) : T = U := ris_eq h k fun ⟨x, v⟩ => (o x v).trans (o' x v).symm
theorem of_fun {T : LT} {f g : Tr Str} (o : Of T f) (o' : Of T g) : f = g := by
  funext x
  have h : ∀ v, f x = some v ↔ g x = some v := fun v => (o x v).symm.trans (o' x v)
  cases q : f x with
  | none => cases r : g x with
    | none => rfl
    | some v => rw [(h v).mpr r] at q; cases q
  | some v => exact ((h v).mp q).symm
/-- the worth of a path -/
def tf (T : LT) : Tr Str := fun p => (T.find? fun k => decide (k.1 = p)).map (·.2)
theorem of_tf {T : LT} (h : Ris T) : Of T (tf T) := by
  intro x v
  unfold tf
  constructor
  · intro hm
    cases q : T.find? fun k => decide (k.1 = x) with
    | none =>
      have := List.find?_eq_none.mp q _ hm
      simp at this
    | some k =>
      have h1 := List.find?_some q
      have h2 := List.mem_of_find?_eq_some q
      simp only [decide_eq_true_eq] at h1
      obtain ⟨kp, kv⟩ := k
      simp only at h1
      subst h1
      rw [h.one hm h2]; rfl
  · intro hm
    obtain ⟨k, hk, e⟩ := Option.map_eq_some_iff.mp hm
    have h1 := List.find?_some hk
    have h2 := List.mem_of_find?_eq_some hk
    simp only [decide_eq_true_eq] at h1
    obtain ⟨kp, kv⟩ := k
    simp only at h1 e
    subst h1 e
    exact h2
/-! level by level -/
abbrev Lv := List LT × List LT
def meet (st : Lv) (one : LT) : Lv := if one ∈ st.1 then st else (st.1 ++ [one], st.2 ++ [one])
def level (C : List (Ch Str)) (st : Lv) : Lv := (st.2.flatMap fun t => C.map fun c => lstep t c).foldl meet (st.1, [])
theorem meet_all (l : List LT) : ∀ st : Lv, (∀ x, x ∈ (l.foldl meet st).1 ↔ x ∈ st.1 ∨ x ∈ l) ∧ (∀ x, x ∈ (l.foldl meet st).2 ↔ x ∈ st.2 ∨ (x ∈ l ∧ x ∉ st.1)) ∧ (st.1.Nodup → (l.foldl meet st).1.Nodup) := by
  induction l with
  | nil => intro st; simp
  | cons y l ih =>
    intro st
    obtain ⟨h1, h2, h3⟩ := ih (meet st y)
    refine ⟨fun x => ?_, fun x => ?_, fun hn => ?_⟩
    · rw [List.foldl_cons, h1 x]
      unfold meet
      split
      · rename_i hy
        rw [List.mem_cons]
        constructor
        · rintro (h | h)
          · exact .inl h
          · exact .inr (.inr h)
        · rintro (h | h | h)
          · exact .inl h
          · subst h; exact .inl hy
          · exact .inr h
      · simp only [List.mem_append, List.mem_cons, List.not_mem_nil, or_false, or_assoc]
    · rw [List.foldl_cons, h2 x]
      unfold meet
      split
      · rename_i hy
        rw [List.mem_cons]
        constructor
        · rintro (h | ⟨h, k⟩)
          · exact .inl h
          · exact .inr ⟨.inr h, k⟩
        · rintro (h | ⟨h | h, k⟩)
          · exact .inl h
          · subst h; exact absurd hy k
          · exact .inr ⟨h, k⟩
      · rename_i hy
        simp only [List.mem_append, List.mem_cons, List.not_mem_nil, or_false, not_or]
        constructor
        · rintro ((h | h) | ⟨h, k1, k2⟩)
          · exact .inl h
          · subst h; exact .inr ⟨.inl rfl, hy⟩
          · exact .inr ⟨.inr h, k1⟩
        · rintro (h | ⟨h | h, k⟩)
          · exact .inl (.inl h)
          · exact .inl (.inr h)
          · by_cases e : x = y
            · exact .inl (.inr e)
            · exact .inr ⟨h, k, e⟩
    · rw [List.foldl_cons]
      refine h3 ?_
      unfold meet
      split
      · exact hn
      · rename_i hy
        refine List.nodup_append.mpr ⟨hn, List.pairwise_singleton _ _, fun a ha b hb => ?_⟩
        rw [List.mem_singleton] at hb
        subst hb
        exact fun e => hy (by rw [← e]; exact ha)
/-- what holds behind k levels -/
structure Met (C : List (Ch Str)) (b : LT) (k : Nat) (st : Lv) : Prop where
  nd : st.1.Nodup
  sub : ∀ x, x ∈ st.2 → x ∈ st.1
  to : ∀ x, x ∈ st.1 → ∃ s : List (Ch Str), (∀ c, c ∈ s → c ∈ C) ∧ s.length ≤ k ∧ lrun b s = x
  of : ∀ s : List (Ch Str), (∀ c, c ∈ s → c ∈ C) → s.length ≤ k → lrun b s ∈ st.1
  on : ∀ x, x ∈ st.1 → x ∉ st.2 → ∀ c, c ∈ C → lstep x c ∈ st.1
theorem met_start (C : List (Ch Str)) (b : LT) : Met C b 0 ([b], [b]) where
  nd := List.pairwise_singleton _ _
  sub := fun x h => h
  to := fun x h => ⟨[], fun c hc => absurd hc List.not_mem_nil, Nat.le_refl _, by rw [List.mem_singleton] at h; rw [h]; rfl⟩
  of := fun s hs hl => by
    have : s = [] := List.eq_nil_of_length_eq_zero (Nat.le_zero.mp hl)
    subst this
    exact List.mem_singleton.mpr rfl
  on := fun x h n => absurd h n
theorem met_next {C : List (Ch Str)} {b : LT} {k : Nat} {st : Lv} (m : Met C b k st) : Met C b (k + 1) (level C st) := by
  obtain ⟨h1, h2, h3⟩ := meet_all (st.2.flatMap fun t => C.map fun c => lstep t c) (st.1, [])
  have mem : ∀ x, x ∈ (level C st).1 ↔ x ∈ st.1 ∨ ∃ t, t ∈ st.2 ∧ ∃ c, c ∈ C ∧ lstep t c = x := fun x => by
    show x ∈ (List.foldl meet (st.1, []) _).1 ↔ _
    rw [h1 x]
    simp only [List.mem_flatMap, List.mem_map]
  have mem2 : ∀ x, x ∈ (level C st).2 ↔ (∃ t, t ∈ st.2 ∧ ∃ c, c ∈ C ∧ lstep t c = x) ∧ x ∉ st.1 := fun x => by
    show x ∈ (List.foldl meet (st.1, []) _).2 ↔ _
    rw [h2 x]
    simp only [List.mem_flatMap, List.mem_map, List.not_mem_nil, false_or]
  refine ⟨h3 m.nd, fun x hx => (mem x).mpr (.inr ((mem2 x).mp hx).1), fun x hx => ?_, fun s hs hl => ?_, fun x hx hn c hc => ?_⟩
  · rcases (mem x).mp hx with h | ⟨t, ht, c, hc, e⟩
    · obtain ⟨s, a, l, r⟩ := m.to x h
      exact ⟨s, a, Nat.le_succ_of_le l, r⟩
    · obtain ⟨s, a, l, r⟩ := m.to t (m.sub t ht)
      refine ⟨s ++ [c], fun d hd => ?_, by rw [List.length_append, List.length_singleton]; omega, by rw [lrun_append, r]; exact e⟩
      rcases List.mem_append.mp hd with q | q
      · exact a d q
      · rw [List.mem_singleton] at q; rw [q]; exact hc
  · rcases Nat.lt_or_ge s.length (k + 1) with q | q
    · exact (mem _).mpr (.inl (m.of s hs (Nat.le_of_lt_succ q)))
    · obtain ⟨s', c, rfl⟩ : ∃ s' c, s = s' ++ [c] := by
        have hne : s ≠ [] := fun e => by rw [e] at q; simp at q
        exact ⟨s.dropLast, s.getLast hne, (List.dropLast_concat_getLast hne).symm⟩
      rw [List.length_append, List.length_singleton] at hl
      have hm := m.of s' (fun d hd => hs d (List.mem_append_left _ hd)) (by omega)
      have hc : c ∈ C := hs c (List.mem_append_right _ (List.mem_singleton.mpr rfl))
      rw [lrun_append]
      show lstep (lrun b s') c ∈ _
      by_cases hr : lrun b s' ∈ st.2
      · exact (mem _).mpr (.inr ⟨_, hr, c, hc, rfl⟩)
      · exact (mem _).mpr (.inl (m.on _ hm hr c hc))
  · rcases (mem x).mp hx with h | h
    · by_cases hr : x ∈ st.2
      · exact (mem _).mpr (.inr ⟨x, hr, c, hc, rfl⟩)
      · exact (mem _).mpr (.inl (m.on x h hr c hc))
    · by_cases hr : x ∈ st.1
      · by_cases hr2 : x ∈ st.2
        · exact (mem _).mpr (.inr ⟨x, hr2, c, hc, rfl⟩)
        · exact (mem _).mpr (.inl (m.on x hr hr2 c hc))
      · exact absurd ((mem2 x).mpr ⟨h, hr⟩) hn
/-! how many trees there are -/
def subs : LT → List LT
  | [] => [[]]
  | x :: l => subs l ++ (subs l).map (x :: ·)
theorem subs_len : ∀ l : LT, (subs l).length = 2 ^ l.length
  | [] => rfl
  | x :: l => by rw [subs, List.length_append, List.length_map, subs_len l, List.length_cons, Nat.pow_succ]; omega
theorem filter_subs (p : Pt × Int → Bool) : ∀ l : LT, l.filter p ∈ subs l
  | [] => List.mem_singleton.mpr rfl
  | x :: l => by
    rw [List.filter_cons]
    split
    · exact List.mem_append_right _ (List.mem_map.mpr ⟨_, filter_subs p l, rfl⟩)
    · exact List.mem_append_left _ (filter_subs p l)
theorem many_le {U : LT} (hU : U.Nodup) {m : List LT} (hm : m.Nodup) (h : ∀ t, t ∈ m → Ris t ∧ ∀ x, x ∈ t → x ∈ U) : m.length ≤ 2 ^ U.length := by
  have hs : (sortT U).Nodup := (List.mergeSort_perm U pairLe).nodup_iff.mpr hU
  have hl : (sortT U).length = U.length := (List.mergeSort_perm U pairLe).length_eq
  rw [← hl, ← subs_len]
  refine nodup_le hm fun t ht => ?_
  obtain ⟨r, i⟩ := h t ht
  have e : t = (sortT U).filter fun x => decide (x ∈ t) := by
    refine List.Perm.eq_of_pairwise (fun _ _ _ _ h1 h2 => pairLe_antisymm h1 h2) r.le (List.Pairwise.filter _ (List.pairwise_mergeSort pairLe_trans pairLe_total U)) ?_
    refine (List.perm_ext_iff_of_nodup r.nodup (List.Pairwise.filter _ hs)).mpr fun x => ?_
    rw [List.mem_filter, mem_sort, decide_eq_true_eq]
    exact ⟨fun q => ⟨i x q, q⟩, fun q => q.2⟩
  rw [e]
  exact filter_subs _ _
end Lst
set_option maxHeartbeats 1600000
/-! k08: data by its value: equality, lengths, slices, of trees' data. -/
namespace K8
open PySem PySem.Spec PySem.W PyProof.Rows L2 G3 Lst
mutual
/-- data without truths, references, whose texts may stand -/
def gd : D → Bool
  | .non => true
  | .int _ => true
  | .str x => PyData.canLay0 (.str x)
  | .tup l => gds l
  | .lst l => gds l
  | _ => false
def gds : List D → Bool
  | [] => true
  | d :: l => gd d && gds l
end
mutual
def dp : D → Nat
  | .tup l => dps l + 1
  | .lst l => dps l + 1
  | _ => 0
def dps : List D → Nat
  | [] => 0
  | d :: l => max (dp d) (dps l)
end
mutual
theorem gd_py (rf : Nat → Option PyData) : ∀ {d : D}, gd d = true → ∃ p, toPy rf d = some p ∧ PyData.canLay0 p = true ∧ p.depth = dp d
  | .non, _ => ⟨_, rfl, rfl, rfl⟩
  | .int i, _ => ⟨_, rfl, rfl, rfl⟩
  | .str x, h => ⟨_, rfl, h, rfl⟩
  | .tup l, h => by
    obtain ⟨ps, e, c, d⟩ := gds_py rf (l := l) h
    exact ⟨.tuple ps, by simp only [toPy, e, Option.map_some], by simpa [PyData.canLay0] using c, by simp [PyData.depth, dp, d]⟩
  | .lst l, h => by
    obtain ⟨ps, e, c, d⟩ := gds_py rf (l := l) h
    exact ⟨.list ps, by simp only [toPy, e, Option.map_some], by simpa [PyData.canLay0] using c, by simp [PyData.depth, dp, d]⟩
  | .bl _, h => by simp [gd] at h
  | .scr _, h => by simp [gd] at h
  | .ref _, h => by simp [gd] at h
  | .adr _ _ _, h => by simp [gd] at h
  | .exn _, h => by simp [gd] at h
theorem gds_py (rf : Nat → Option PyData) : ∀ {l : List D}, gds l = true → ∃ ps, toPys rf l = some ps ∧ PyData.canLayAll0 ps = true ∧ PyData.depthAll ps = dps l
  | [], _ => ⟨[], rfl, rfl, rfl⟩
  | d :: l, h => by
    simp only [gds, Bool.and_eq_true] at h
    obtain ⟨p, e1, c1, d1⟩ := gd_py rf h.1
    obtain ⟨ps, e2, c2, d2⟩ := gds_py rf h.2
    exact ⟨p :: ps, by simp only [toPys, e1, e2, Option.bind_some, Option.map_some], by simp [PyData.canLayAll0, c1, c2], by simp [PyData.depthAll, dps, d1, d2]⟩
end
mutual
theorem gd_eqv (rf : Nat → Option PyData) : ∀ {d e : D} {p q : PyData}, gd d = true → gd e = true → toPy rf d = some p → toPy rf e = some q → PyData.eqv p q = decide (d = e)
  | .non, e, p, q, _, he, h1, h2 => by
    cases h1
    cases e <;> simp [gd] at he <;> simp only [toPy, Option.some.injEq, Option.map_eq_some_iff] at h2 <;> first | (subst h2; simp [PyData.eqv]) | (obtain ⟨ps, _, rfl⟩ := h2; simp [PyData.eqv])
  | .int i, e, p, q, _, he, h1, h2 => by
    cases h1
    cases e <;> simp [gd] at he <;> simp only [toPy, Option.some.injEq, Option.map_eq_some_iff] at h2 <;> first | (subst h2; simp [PyData.eqv]; try rfl) | (obtain ⟨ps, _, rfl⟩ := h2; simp [PyData.eqv])
  | .str x, e, p, q, _, he, h1, h2 => by
    cases h1
    cases e <;> simp [gd] at he <;> simp only [toPy, Option.some.injEq, Option.map_eq_some_iff] at h2 <;> first | (subst h2; simp [PyData.eqv]; try rfl) | (obtain ⟨ps, _, rfl⟩ := h2; simp [PyData.eqv])
  | .tup l, e, p, q, hd, he, h1, h2 => by
    simp only [toPy, Option.map_eq_some_iff] at h1
    obtain ⟨ps, e1, rfl⟩ := h1
    cases e with
    | tup m =>
      simp only [toPy, Option.map_eq_some_iff] at h2
      obtain ⟨qs, e2, rfl⟩ := h2
      simp only [PyData.eqv, D.tup.injEq]
      exact gds_eqv rf (by simpa [gd] using hd) (by simpa [gd] using he) e1 e2
    | lst m =>
      simp only [toPy, Option.map_eq_some_iff] at h2
      obtain ⟨qs, e2, rfl⟩ := h2
      simp [PyData.eqv]
    | _ => simp [gd] at he <;> (cases h2; simp [PyData.eqv])
  | .lst l, e, p, q, hd, he, h1, h2 => by
    simp only [toPy, Option.map_eq_some_iff] at h1
    obtain ⟨ps, e1, rfl⟩ := h1
    cases e with
    | lst m =>
      simp only [toPy, Option.map_eq_some_iff] at h2
      obtain ⟨qs, e2, rfl⟩ := h2
      simp only [PyData.eqv, D.lst.injEq]
      exact gds_eqv rf (by simpa [gd] using hd) (by simpa [gd] using he) e1 e2
    | tup m =>
      simp only [toPy, Option.map_eq_some_iff] at h2
      obtain ⟨qs, e2, rfl⟩ := h2
      simp [PyData.eqv]
    | _ => simp [gd] at he <;> (cases h2; simp [PyData.eqv])
  | .bl _, _, _, _, h, _, _, _ => by simp [gd] at h
  | .scr _, _, _, _, h, _, _, _ => by simp [gd] at h
  | .ref _, _, _, _, h, _, _, _ => by simp [gd] at h
  | .adr _ _ _, _, _, _, h, _, _, _ => by simp [gd] at h
  | .exn _, _, _, _, h, _, _, _ => by simp [gd] at h
theorem gds_eqv (rf : Nat → Option PyData) : ∀ {l m : List D} {ps qs : List PyData}, gds l = true → gds m = true → toPys rf l = some ps → toPys rf m = some qs → PyData.eqvAll ps qs = decide (l = m)
  | [], m, ps, qs, _, hm, h1, h2 => by
    cases h1
    cases m with
    | nil => cases h2; rfl
    | cons e m =>
      simp only [toPys] at h2
      obtain ⟨q, e1, h2⟩ := Option.bind_eq_some_iff.mp h2
      obtain ⟨qs, e2, rfl⟩ := Option.map_eq_some_iff.mp h2
      simp [PyData.eqvAll]
  | d :: l, m, ps, qs, hl, hm, h1, h2 => by
    simp only [toPys] at h1
    obtain ⟨p, a1, h1⟩ := Option.bind_eq_some_iff.mp h1
    obtain ⟨ps, a2, rfl⟩ := Option.map_eq_some_iff.mp h1
    simp only [gds, Bool.and_eq_true] at hl
    cases m with
    | nil => cases h2; simp [PyData.eqvAll]
    | cons e m =>
      simp only [toPys] at h2
      obtain ⟨q, e1, h2⟩ := Option.bind_eq_some_iff.mp h2
      obtain ⟨qs, e2, rfl⟩ := Option.map_eq_some_iff.mp h2
      simp only [gds, Bool.and_eq_true] at hm
      simp only [PyData.eqvAll, gd_eqv rf hl.1 hm.1 a1 e1, gds_eqv rf hl.2 hm.2 a2 e2, List.cons.injEq, Bool.decide_and]
end
theorem kEq_gd {d e : D} (hd : gd d = true) (he : gd e = true) (h1 : dp d ≤ 64) (h2 : dp e ≤ 64) (S : S3) : kEq d e S = some (.bl (decide (d = e)), S) := by
  obtain ⟨p, a1, a2, a3⟩ := gd_py (rfs S 3) hd
  obtain ⟨q, b1, b2, b3⟩ := gd_py (rfs S 3) he
  have s1 : SeqAt.shaped p = true := by simp [SeqAt.shaped, a2, a3, h1]
  have s2 : SeqAt.shaped q = true := by simp [SeqAt.shaped, b2, b3, h2]
  have v := gd_eqv _ hd he a1 b1
  unfold kEq pyOf
  rw [a1, b1]
  simp only [s1, s2, Bool.and_self, if_true, v]
theorem kNe_gd {d e : D} (hd : gd d = true) (he : gd e = true) (h1 : dp d ≤ 64) (h2 : dp e ≤ 64) (S : S3) : kNe d e S = some (.bl (!decide (d = e)), S) := by
  obtain ⟨p, a1, a2, a3⟩ := gd_py (rfs S 3) hd
  obtain ⟨q, b1, b2, b3⟩ := gd_py (rfs S 3) he
  have s1 : SeqAt.shaped p = true := by simp [SeqAt.shaped, a2, a3, h1]
  have s2 : SeqAt.shaped q = true := by simp [SeqAt.shaped, b2, b3, h2]
  have v := gd_eqv _ hd he a1 b1
  unfold kNe pyOf
  rw [a1, b1]
  simp only [s1, s2, Bool.and_self, if_true, v]
/-! paths, keys, trees -/
def okS (x : Str) : Prop := PyData.canLay0 (.str x) = true
/-- a path whose names may stand -/
def okP (p : Pt) : Prop := ∀ x, x ∈ p → okS x
def okT (T : LT) : Prop := ∀ x, x ∈ T → okP x.1
def prD (x : Pt × Int) : D := .tup [pth x.1, .int x.2]
def trD (T : LT) : List D := T.map prD
def chD : Ch Str → D
  | .set p w => .tup [.str "set", pth p, .int w]
  | .drop p => .tup [.str "drop", pth p]
  | .clear p => .tup [.str "clear", pth p]
theorem gds_map {α : Type} {f : α → D} : ∀ {l : List α}, (∀ x, x ∈ l → gd (f x) = true) → gds (l.map f) = true
  | [], _ => rfl
  | x :: l, h => by
    simp only [List.map_cons, gds, Bool.and_eq_true]
    exact ⟨h x List.mem_cons_self, gds_map fun y hy => h y (List.mem_cons_of_mem _ hy)⟩
theorem dps_map {α : Type} {f : α → D} {n : Nat} : ∀ {l : List α}, (∀ x, x ∈ l → dp (f x) ≤ n) → dps (l.map f) ≤ n
  | [], _ => Nat.zero_le _
  | x :: l, h => by
    simp only [List.map_cons, dps]
    have := h x List.mem_cons_self
    have := dps_map (l := l) fun y hy => h y (List.mem_cons_of_mem _ hy)
    omega
theorem gd_pth {p : Pt} (h : okP p) : gd (pth p) = true := by
  show gds (p.map D.str) = true
  exact gds_map fun x hx => h x hx
theorem dp_pth (p : Pt) : dp (pth p) ≤ 1 := by
  show dps (p.map D.str) + 1 ≤ 1
  have : dps (p.map D.str) ≤ 0 := dps_map fun x _ => Nat.zero_le _
  omega
theorem gd_prD {x : Pt × Int} (h : okP x.1) : gd (prD x) = true := by simp [prD, gd, gds, gd_pth h]
theorem dp_prD (x : Pt × Int) : dp (prD x) ≤ 2 := by
  have := dp_pth x.1
  simp only [prD, dp, dps]
  omega
theorem gd_trD {T : LT} (h : okT T) : gds (trD T) = true := gds_map fun x hx => gd_prD (h x hx)
theorem dp_trD (T : LT) : dps (trD T) ≤ 2 := dps_map fun x _ => dp_prD x
theorem prD_inj {x y : Pt × Int} (h : prD x = prD y) : x = y := by
  simp only [prD, D.tup.injEq, List.cons.injEq, D.int.injEq, and_true] at h
  exact Prod.ext (pth_inj h.1) h.2
theorem trD_inj : ∀ {T U : LT}, trD T = trD U → T = U
  | [], [], _ => rfl
  | [], _ :: _, h => by simp [trD] at h
  | _ :: _, [], h => by simp [trD] at h
  | x :: T, y :: U, h => by
    simp only [trD, List.map_cons, List.cons.injEq] at h
    rw [prD_inj h.1, trD_inj h.2]
theorem kEq_pth {p q : Pt} (hp : okP p) (hq : okP q) (S : S3) : kEq (pth p) (pth q) S = some (.bl (decide (p = q)), S) := by
  rw [kEq_gd (gd_pth hp) (gd_pth hq) (Nat.le_trans (dp_pth p) (by decide)) (Nat.le_trans (dp_pth q) (by decide))]
  have : (pth p = pth q) ↔ p = q := ⟨pth_inj, fun e => by rw [e]⟩
  simp only [this]
theorem kNe_pth {p q : Pt} (hp : okP p) (hq : okP q) (S : S3) : kNe (pth p) (pth q) S = some (.bl (!decide (p = q)), S) := by
  rw [kNe_gd (gd_pth hp) (gd_pth hq) (Nat.le_trans (dp_pth p) (by decide)) (Nat.le_trans (dp_pth q) (by decide))]
  have : (pth p = pth q) ↔ p = q := ⟨pth_inj, fun e => by rw [e]⟩
  simp only [this]
theorem okP_take {p : Pt} (h : okP p) (n : Nat) : okP (p.take n) := fun x hx => h x (List.mem_of_mem_take hx)
/-! lengths, slices, places -/
theorem kLen_tup (l : List D) (S : S3) : kLen [.tup l] S = some (.int (l.length : Nat), S) := rfl
theorem kLen_lst (l : List D) (S : S3) : kLen [.lst l] S = some (.int (l.length : Nat), S) := rfl
theorem kLen_pth (p : Pt) (S : S3) : kLen [pth p] S = some (.int (p.length : Nat), S) := by
  show kLen [.tup _] S = _
  rw [kLen_tup, List.length_map]
theorem cutD_to (l : List D) (n : Nat) : cutD l none (some (n : Int)) = l.take n := by
  unfold G3.cutD
  rw [HT.sIx_none, HT.sIx_nat]
  simp [List.take_eq_take_min]
theorem cutD_from (l : List D) (n : Nat) : cutD l (some (n : Int)) none = l.drop n := by
  unfold G3.cutD
  rw [HT.sIx_none, HT.sIx_nat]
  rcases Nat.le_total n l.length with h | h
  · rw [Nat.min_eq_left h, List.take_of_length_le]
    rw [List.length_drop]; omega
  · rw [Nat.min_eq_right h, List.drop_eq_nil_of_le (Nat.le_refl _), List.drop_eq_nil_of_le h]
    simp
theorem kSl_pth (p : Pt) (n : Nat) (S : S3) : kSl false (pth p) none (some (n : Int)) S = some (pth (p.take n), S) := by
  show some (D.tup (cutD _ _ _), S) = _
  rw [cutD_to, ← List.map_take]
  rfl
theorem atI_nat {α : Type} (l : List α) (n : Nat) (h : n < l.length) : atI l (n : Int) = l[n]? := by
  unfold atI ixN
  rw [if_pos (by omega), if_pos (by omega)]
  rfl
theorem take_pre {p q : Pt} : (p.take q.length = q) ↔ q <+: p := by
  rw [List.prefix_iff_eq_take]
  exact eq_comm
end K8
set_option maxHeartbeats 1600000
/-! k08: what the program's defs give: is_within, own_change, branches. -/
namespace K8
open PySem PySem.Spec PySem.W PyProof.Rows L2 G3 Lst
/-! loops, comprehensions -/
theorem loop_go {α : Type} {f : α → D} {src : Src} {body : D → En → S3 → Option (Fl × En × S3)} {I : List α → En → S3 → Prop} (rest : List D) (all : List α)
    (st : ∀ dn x post ρ S, all = dn ++ x :: post → I dn ρ S → src.valid S = true ∧ ∃ ρ' S', body (f x) ρ S = some (.nx, ρ', S') ∧ I (dn ++ [x]) ρ' S') : ∀ (xs dn : List α) (ρ : En) (S : S3), all = dn ++ xs → I dn ρ S →
    ∃ ρ' S', loopM src body (xs.map f ++ rest) ρ S = loopM src body rest ρ' S' ∧ I all ρ' S'
  | [], dn, ρ, S, ha, h => ⟨ρ, S, rfl, by rw [ha, List.append_nil]; exact h⟩
  | x :: xs, dn, ρ, S, ha, h => by
    obtain ⟨hv, ρ1, S1, e1, h1⟩ := st dn x xs ρ S ha h
    obtain ⟨ρ2, S2, e2, h2⟩ := loop_go rest all st xs (dn ++ [x]) ρ1 S1 (by rw [ha, List.append_assoc]; rfl) h1
    refine ⟨ρ2, S2, ?_, h2⟩
    rw [← e2, List.map_cons, List.cons_append, loopM, if_pos hv, e1]
    rfl
theorem loop_all {α : Type} {f : α → D} {src : Src} {body : D → En → S3 → Option (Fl × En × S3)} (I : List α → En → S3 → Prop) (xs : List α) {ρ : En} {S : S3} (h : I [] ρ S)
    (st : ∀ dn x post ρ S, xs = dn ++ x :: post → I dn ρ S → src.valid S = true ∧ ∃ ρ' S', body (f x) ρ S = some (.nx, ρ', S') ∧ I (dn ++ [x]) ρ' S') (he : ∀ ρ S, I xs ρ S → src.valid S = true) :
    ∃ ρ' S', loopM src body (xs.map f) ρ S = some (.nx, ρ', S') ∧ I xs ρ' S' := by
  obtain ⟨ρ', S', e, h'⟩ := loop_go (f := f) (src := src) (body := body) (I := I) [] xs st xs [] ρ S rfl h
  rw [List.append_nil] at e
  exact ⟨ρ', S', by rw [e, loopM, if_pos (he ρ' S' h')], h'⟩
/-- a comprehension that changes nothing -/
theorem lc_all {α : Type} {f g : α → D} {t : α → Bool} {src : Src} {T : MT} {tst : MB} {el : ME} {ρ : En} {S : S3} (hv : src.valid S = true) : ∀ (xs : List α) (acc : List D), acc.length + xs.length ≤ sizeLine →
    (∀ x, x ∈ xs → ∃ ρ', T (f x) ρ = some ρ' ∧ tst ρ' S = some (t x, S) ∧ (t x = true → el ρ' S = some (g x, S))) →
    lcM src T tst el ρ (xs.map f) acc S = some (acc ++ (xs.filter t).map g, S)
  | [], acc, _, _ => by rw [List.map_nil, lcM, if_pos hv]; simp
  | x :: xs, acc, hl, h => by
    obtain ⟨ρ', e1, e2, e3⟩ := h x List.mem_cons_self
    rw [List.length_cons] at hl
    rw [List.map_cons, lcM, if_pos hv, e1]
    simp only [Option.bind_some, e2]
    cases ht : t x with
    | false =>
      rw [if_neg (by simp), lc_all hv xs acc (by omega) fun y hy => h y (List.mem_cons_of_mem _ hy)]
      rw [List.filter_cons, ht]; rfl
    | true =>
      rw [if_pos rfl, e3 ht]
      simp only [Option.bind_some]
      rw [if_pos (by omega), lc_all hv xs (acc ++ [g x]) (by rw [List.length_append, List.length_singleton]; omega) fun y hy => h y (List.mem_cons_of_mem _ hy)]
      rw [List.filter_cons, ht]; simp
/-- all that stood stands -/
structure Le (S S' : S3) : Prop where
  nx : S.next ≤ S'.next
  ob : ∀ n, n < S.next → S'.ob n = S.ob n
theorem Le.refl (S : S3) : Le S S := ⟨Nat.le_refl _, fun _ _ => rfl⟩
theorem Le.trans {S S1 S2 : S3} (a : Le S S1) (b : Le S1 S2) : Le S S2 := ⟨Nat.le_trans a.nx b.nx, fun n h => (b.ob n (Nat.lt_of_lt_of_le h a.nx)).trans (a.ob n h)⟩
theorem Le.new (S : S3) (o : MO) : Le S (S.new o) := ⟨Nat.le_succ _, fun n h => new_ne (Nat.ne_of_lt h)⟩
theorem sz : sizeLine = 16777216 := by decide +kernel
/-! dicts of paths -/
theorem keysD_str : ∀ p : Pt, keysD (p.map D.str) = some (p.map Sum.inr)
  | [] => rfl
  | x :: p => by rw [List.map_cons, keysD, keysD_str p] <;> rfl
section
variable {S : S3} {n : Nat} {kvs : List (D × D)} {p : Pt}
theorem kDGet_pth (h : S.ob n = some (.dic kvs)) : kDGet (.ref n) (pth p) S = (lookD kvs (pth p)).map (·, S) := by
  unfold kDGet pth
  simp only [h, keysD_str]
theorem kInD_pth (h : S.ob n = some (.dic kvs)) : kInD false (pth p) (.ref n) S = some (.bl (lookD kvs (pth p)).isSome, S) := by
  unfold kInD pth
  simp only [h, keysD_str]
  rfl
theorem kDGet1_pth (h : S.ob n = some (.dic kvs)) : kDGet1 (.ref n) (pth p) S = some ((lookD kvs (pth p)).getD .non, S) := by
  unfold kDGet1 pth
  simp only [h, keysD_str]
theorem isDic_of (h : S.ob n = some (.dic kvs)) : isDic (.ref n) S = true := by
  unfold isDic
  simp only [h]
theorem kSetD_pth (v : D) (h : S.ob n = some (.dic kvs)) (hl : kvs.length < sizeLine) : kSetD (.ref n) (pth p) v S = some (S.set n (.dic (putDD kvs (pth p) v))) := by
  unfold kSetD pth
  simp only [h, keysD_str, if_pos hl]
end
def dicD (T : LT) : List (D × D) := T.map fun x => (pth x.1, D.int x.2)
theorem look_dic (p : Pt) : ∀ T : LT, lookD (dicD T) (pth p) = (tf T p).map D.int
  | [] => rfl
  | x :: T => by
    have ih := look_dic p T
    show (if pth x.1 = pth p then some (D.int x.2) else lookD (dicD T) (pth p)) = _
    unfold tf
    rw [List.find?_cons]
    by_cases h : x.1 = p
    · rw [if_pos (by rw [h])]; simp [h]
    · rw [if_neg fun e => h (pth_inj e), ih]; simp [h, tf]
/-! is_within -/
theorem run_within {p q : Pt} (hp : okP p) (hq : okP q) (S : S3) : f_is_within [pth p, pth q] S = some (.bl (decide (q <+: p)), S) := by
  unfold f_is_within fnM b_is_within
  simp [sRet, op2, eSl, eVar, oNone, oSome, opn, aCons, aNil, kLen_pth, kSl_pth, kEq_pth (okP_take hp _) hq, take_pre]
/-! own_change -/
def wD : Option Int → D
  | some i => .int i
  | none => .non
theorem wD_get (o : Option Int) : (o.map D.int).getD .non = wD o := by cases o <;> rfl
theorem wD_inj {o o' : Option Int} : wD o = wD o' ↔ o = o' := by cases o <;> cases o' <;> simp [wD]
theorem kEq_wD (o o' : Option Int) (S : S3) : kEq (wD o) (wD o') S = some (.bl (decide (o = o')), S) := by
  rw [kEq_gd (by cases o <;> rfl) (by cases o' <;> rfl) (by cases o <;> simp [wD, dp]) (by cases o' <;> simp [wD, dp])]
  simp only [wD_inj]
theorem kEq_wDi (o : Option Int) (w : Int) (S : S3) : kEq (wD o) (.int w) S = some (.bl (decide (o = some w)), S) := kEq_wD o (some w) S
theorem kEq_wDn (o : Option Int) (S : S3) : kEq (wD o) .non S = some (.bl (decide (o = none)), S) := kEq_wD o none S
theorem run_own {b a : LT} {i j : Nat} {S : S3} (hi : S.ob i = some (.dic (dicD b))) (hj : S.ob j = some (.dic (dicD a))) (p : Pt) :
    f_own_change [.ref i, .ref j, pth p] S = some (.ref S.next, S.new (.lst ((own (tf b) (tf a) p).map chD))) := by
  unfold f_own_change fnM b_own_change own
  by_cases h : tf b p = tf a p
  · simp [sSeq, sIf, sRet, sSkip, bVal, op2, eDGet1, eVar, opn, aCons, aNil, isDic_of hi, isDic_of hj, kDGet1_pth hi, kDGet1_pth hj, look_dic, wD_get, kEq_wD, kEq_wDi, kEq_wDn, h, kLst, newL]
  · cases ha : tf a p with
    | none =>
      rw [ha] at h
      simp [sSeq, sIf, sRet, sSkip, bVal, op2, eDGet1, eVar, opn, aCons, aNil, isDic_of hi, isDic_of hj, kDGet1_pth hi, kDGet1_pth hj, look_dic, wD_get, kEq_wD, kEq_wDi, kEq_wDn, h, kLst, newL, eIf, kInD_pth hj, kDGet_pth hj, ha, eC, G3.kTup, sz, chD]
    | some w =>
      rw [ha] at h
      simp [sSeq, sIf, sRet, sSkip, bVal, op2, eDGet1, eVar, opn, aCons, aNil, isDic_of hi, isDic_of hj, kDGet1_pth hi, kDGet1_pth hj, look_dic, wD_get, kEq_wD, kEq_wDi, kEq_wDn, h, kLst, newL, eIf, kInD_pth hj, kDGet_pth hj, ha, eC, G3.kTup, sz, chD]
/-! branches -/
def addK (ks : List Pt) (k : Pt) : List Pt := if k ∈ ks then ks else ks ++ [k]
def setD (ks : List Pt) : List (D × D) := ks.map fun k => (pth k, D.bl true)
theorem look_set (p : Pt) : ∀ ks : List Pt, (lookD (setD ks) (pth p)).isSome = decide (p ∈ ks)
  | [] => rfl
  | k :: ks => by
    have ih := look_set p ks
    show (if pth k = pth p then some (D.bl true) else lookD (setD ks) (pth p)).isSome = _
    by_cases h : k = p
    · rw [if_pos (by rw [h])]; simp [h]
    · rw [if_neg fun e => h (pth_inj e), ih]
      have h' : ¬ p = k := fun e => h e.symm
      simp [h']
theorem put_set (ks : List Pt) (k : Pt) : putDD (setD ks) (pth k) (.bl true) = setD (addK ks k) := by
  unfold putDD addK
  rw [look_set]
  by_cases h : k ∈ ks
  · simp only [h, decide_true, if_true]
    unfold setD
    rw [List.map_map]
    refine List.map_congr_left fun x _ => ?_
    show (if pth x = pth k then (pth x, D.bl true) else (pth x, D.bl true)) = _
    split <;> rfl
  · simp [h, setD]
def within (p : Pt) (x : Pt × Int) : Bool := decide (p.length < x.1.length) && decide (p <+: x.1)
def kidsF (p : Pt) (ks : List Pt) (T : LT) : List Pt := T.foldl (fun ks x => if within p x then addK ks (x.1.take (p.length + 1)) else ks) ks
theorem addK_len (ks : List Pt) (k : Pt) : (addK ks k).length ≤ ks.length + 1 := by
  unfold addK; split
  · omega
  · rw [List.length_append, List.length_singleton]; omega
theorem kidsF_len (p : Pt) : ∀ (T : LT) (ks : List Pt), (kidsF p ks T).length ≤ ks.length + T.length
  | [], ks => Nat.le_refl _
  | x :: T, ks => by
    show (kidsF p (if within p x then addK ks (x.1.take (p.length + 1)) else ks) T).length ≤ _
    have := kidsF_len p T (if within p x then addK ks (x.1.take (p.length + 1)) else ks)
    have h2 := addK_len ks (x.1.take (p.length + 1))
    rw [List.length_cons]
    split at this <;> split <;> (first | contradiction | omega)
def inB (p : Pt) (n : Nat) : MS := (sIf (bAnd (bVal (op2 (kGt) (opn (kLen) (aCons (eVar 4) aNil)) (opn (kLen) (aCons (eVar 1) aNil)))) (bVal (opn f_is_within (aCons (eVar 4) (aCons (eVar 1) aNil))))) (sSub kSetD (eVar 2) (eSl (kSl false) (eVar 4) oNone (oSome (op2 (kAdd false) (opn (kLen) (aCons (eVar 1) aNil)) (eC (.int 1))))) (eC (.bl true))) sSkip)
theorem run_inB {p k : Pt} {t n : D} {f : Nat} {ks : List Pt} {S : S3} (hp : okP p) (hk : okP k) (hf : S.ob f = some (.dic (setD ks))) (hl : ks.length < 4000) (w : Int) :
    inB p 0 [some t, some (pth p), some (.ref f), some n, some (pth k)] S = some (.nx, [some t, some (pth p), some (.ref f), some n, some (pth k)], if within p (k, w) then S.set f (.dic (setD (addK ks (k.take (p.length + 1))))) else S) := by
  have hs : (setD ks).length < sizeLine := by rw [setD, List.length_map, sz]; omega
  have e1 : kSl false (pth k) none (some (p.length + 1 : Int)) S = some (pth (k.take (p.length + 1)), S) := kSl_pth k (p.length + 1) S
  unfold inB within
  by_cases h1 : p.length < k.length
  · by_cases h2 : p <+: k
    · simp [sIf, bAnd, bVal, op2, opn, aCons, aNil, eVar, kLen_pth, kGt, kCmpI, run_within hk hp, h1, h2, sSub, eC, eSl, oNone, oSome, kAdd, e1, kSetD_pth _ hf hs, put_set]
    · simp [sIf, bAnd, bVal, op2, opn, aCons, aNil, eVar, kLen_pth, kGt, kCmpI, run_within hk hp, h1, h2, sSkip]
  · simp [sIf, bAnd, bVal, op2, opn, aCons, aNil, eVar, kLen_pth, kGt, kCmpI, h1, sSkip]
theorem kidsF_snoc (p : Pt) (ks : List Pt) (T : LT) (x : Pt × Int) : kidsF p ks (T ++ [x]) = if within p x then addK (kidsF p ks T) (x.1.take (p.length + 1)) else kidsF p ks T := by
  unfold kidsF; rw [List.foldl_append]; rfl
/-- the walk over one dict -/
theorem run_walkB {p : Pt} {T : LT} {t : D} {f n : Nat} {ks : List Pt} {S : S3} {o : Option D} (hp : okP p) (hT : okT T) (hf : S.ob f = some (.dic (setD ks))) (hn : S.ob n = some (.dic (dicD T))) (ne : f ≠ n) (hl : ks.length + T.length < 4000) :
    ∃ o' S', (sLock (eVar 3) (sFor (iKey (eVar 3)) (gN 4) (inB p 0))) [some t, some (pth p), some (.ref f), some (.ref n), o] S = some (.nx, [some t, some (pth p), some (.ref f), some (.ref n), o'], S') ∧
      S'.next = S.next ∧ S'.ob f = some (.dic (setD (kidsF p ks T))) ∧ ∀ m, m ≠ f → S'.ob m = S.ob m := by
  have hitems : (dicD T).map (·.1) = T.map fun x => pth x.1 := by unfold dicD; rw [List.map_map]; rfl
  obtain ⟨ρ', S', e, o', rfl, h1, h2, h3, h5⟩ := loop_all (f := fun x : Pt × Int => pth x.1) (src := .key n ((dicD T).map (·.1))) (body := fun d ρ S => (gN 4 d ρ).bind fun ρ' => inB p 0 ρ' S)
    (fun dn ρ S1 => ∃ o', ρ = [some t, some (pth p), some (.ref f), some (.ref n), o'] ∧ S1.next = S.next ∧ S1.ob f = some (.dic (setD (kidsF p ks dn))) ∧ S1.ob n = some (.lok (dicD T)) ∧ (∀ m, m ≠ f → m ≠ n → S1.ob m = S.ob m)) T
    (ρ := [some t, some (pth p), some (.ref f), some (.ref n), o]) (S := S.set n (.lok (dicD T))) ⟨o, rfl, rfl, by rw [set_ne ne]; exact hf, set_self, fun m _ h => set_ne h⟩ (by
      rintro dn x post ρ S1 hx ⟨o', rfl, h1, h2, h3, h5⟩
      have hm : x ∈ T := by rw [hx]; exact List.mem_append_right _ List.mem_cons_self
      have hlen : dn.length < T.length := by rw [hx, List.length_append, List.length_cons]; omega
      have hk := kidsF_len p dn ks
      refine ⟨by unfold Src.valid; simp [h3], _, _, run_inB (k := x.1) hp (hT x hm) h2 (by omega) x.2, _, rfl, ?_, ?_, ?_, fun m hm1 hm2 => ?_⟩
      · split
        · exact h1
        · exact h1
      · rw [kidsF_snoc]
        split
        · rw [set_self]
        · exact h2
      · split
        · rw [set_ne fun z => ne z.symm]; exact h3
        · exact h3
      · split
        · rw [set_ne hm1]; exact h5 m hm1 hm2
        · exact h5 m hm1 hm2)
    (by
      rintro ρ S1 ⟨o', rfl, h1, h2, h3, h5⟩
      unfold Src.valid
      simp [h3])
  refine ⟨o', S'.set n (.dic (dicD T)), ?_, h1, by rw [set_ne ne]; exact h2, fun m hm => ?_⟩
  · unfold sLock
    have el : lockS n S = some (S.set n (.lok (dicD T))) := by unfold lockS; rw [hn]
    have eu : unlockS n S' = some (S'.set n (.dic (dicD T))) := by unfold unlockS; rw [h3]
    have ef : (sFor (iKey (eVar 3)) (gN 4) (inB p 0)) [some t, some (pth p), some (.ref f), some (.ref n), o] (S.set n (.lok (dicD T))) = some (.nx, [some t, some (pth p), some (.ref f), some (.ref n), o'], S') := by
      unfold sFor iKey
      simp only [eVar, List.getElem?_cons_succ, List.getElem?_cons_zero, Option.bind_some, set_self]
      show loopM _ _ ((dicD T).map (·.1)) _ _ = _
      rw [hitems] at e ⊢
      exact e
    simp only [eVar, List.getElem?_cons_succ, List.getElem?_cons_zero, Option.bind_some, el, ef, eu]
  · by_cases h : m = n
    · subst h; rw [set_self, hn]
    · rw [set_ne h]; exact h5 m hm h
end K8
set_option maxHeartbeats 1600000
/-! k08: what best gives. -/
namespace K8
open PySem PySem.Spec PySem.W PyProof.Rows L2 G3 Lst
def kidsL (b a : LT) (p : Pt) : List Pt := sortP (kidsF p (kidsF p [] b) a)
def keysL (a : LT) (p : Pt) : List Pt := (sortP (a.map (·.1))).filter fun x => decide (p <+: x)
theorem addK_nd {ks : List Pt} (h : ks.Nodup) (k : Pt) : (addK ks k).Nodup := by
  unfold addK
  split
  · exact h
  · rename_i hk
    refine List.nodup_append.mpr ⟨h, List.pairwise_singleton _ _, fun a ha b hb e => hk ?_⟩
    have hb' : b = k := by simpa using hb
    rw [← hb', ← e]; exact ha
theorem mem_addK {ks : List Pt} {k q : Pt} : q ∈ addK ks k ↔ q ∈ ks ∨ q = k := by
  unfold addK
  split
  · rename_i h
    constructor
    · exact .inl
    · rintro (h' | h')
      · exact h'
      · rw [h']; exact h
  · rw [List.mem_append]
    simp
theorem kidsF_nd (p : Pt) : ∀ (T : LT) {ks : List Pt}, ks.Nodup → (kidsF p ks T).Nodup
  | [], _, h => h
  | x :: T, ks, h => by
    show (kidsF p (if within p x then addK ks (x.1.take (p.length + 1)) else ks) T).Nodup
    refine kidsF_nd p T ?_
    split
    · exact addK_nd h _
    · exact h
theorem mem_kidsF (p q : Pt) : ∀ (T : LT) {ks : List Pt}, q ∈ kidsF p ks T ↔ q ∈ ks ∨ ∃ x, x ∈ T ∧ within p x = true ∧ x.1.take (p.length + 1) = q
  | [], ks => by simp [kidsF]
  | x :: T, ks => by
    show q ∈ kidsF p (if within p x then addK ks (x.1.take (p.length + 1)) else ks) T ↔ _
    rw [mem_kidsF p q T]
    cases h : within p x with
    | true =>
      rw [if_pos rfl, mem_addK]
      constructor
      · rintro ((h1 | h1) | ⟨y, hy, h2⟩)
        · exact .inl h1
        · exact .inr ⟨x, List.mem_cons_self, h, h1.symm⟩
        · exact .inr ⟨y, List.mem_cons_of_mem _ hy, h2⟩
      · rintro (h1 | ⟨y, hy, h2, h3⟩)
        · exact .inl (.inl h1)
        · rcases List.mem_cons.mp hy with e | e
          · subst e; exact .inl (.inr h3.symm)
          · exact .inr ⟨y, e, h2, h3⟩
    | false =>
      rw [if_neg (by simp)]
      constructor
      · rintro (h1 | ⟨y, hy, h2⟩)
        · exact .inl h1
        · exact .inr ⟨y, List.mem_cons_of_mem _ hy, h2⟩
      · rintro (h1 | ⟨y, hy, h2, h3⟩)
        · exact .inl h1
        · rcases List.mem_cons.mp hy with e | e
          · subst e; rw [h] at h2; cases h2
          · exact .inr ⟨y, e, h2, h3⟩
theorem mem_sortP {l : List Pt} {x : Pt} : x ∈ sortP l ↔ x ∈ l := (sortP_perm l).mem_iff
theorem mem_kidsL {b a : LT} {p q : Pt} : q ∈ kidsL b a p ↔ ∃ x, (x ∈ b ∨ x ∈ a) ∧ within p x = true ∧ x.1.take (p.length + 1) = q := by
  unfold kidsL
  rw [mem_sortP, mem_kidsF, mem_kidsF]
  simp only [List.not_mem_nil, false_or]
  constructor
  · rintro (⟨x, h1, h2⟩ | ⟨x, h1, h2⟩)
    · exact ⟨x, .inl h1, h2⟩
    · exact ⟨x, .inr h1, h2⟩
  · rintro ⟨x, h1 | h1, h2⟩
    · exact .inl ⟨x, h1, h2⟩
    · exact .inr ⟨x, h1, h2⟩
theorem tf_some {T : LT} (h : Ris T) {x : Pt} : tf T x ≠ none ↔ ∃ v, (x, v) ∈ T := by
  rw [Option.ne_none_iff_exists']
  exact ⟨fun ⟨v, e⟩ => ⟨v, (of_tf h x v).mpr e⟩, fun ⟨v, e⟩ => ⟨v, (of_tf h x v).mp e⟩⟩
theorem within_iff {p : Pt} {x : Pt × Int} : within p x = true ↔ p.length < x.1.length ∧ p <+: x.1 := by
  unfold within
  rw [Bool.and_eq_true, decide_eq_true_eq, decide_eq_true_eq]
theorem kid_of {p x : Pt} (h1 : p.length < x.length) (h2 : p <+: x) : ∃ c, x.take (p.length + 1) = p ++ [c] := by
  obtain ⟨t, rfl⟩ := h2
  cases t with
  | nil => simp at h1
  | cons c t => exact ⟨c, by rw [List.take_length_add_append]; rfl⟩
theorem map_fst_nodup {T : LT} (h : Ris T) : (T.map (·.1)).Nodup := by
  unfold List.Nodup
  rw [List.pairwise_map]
  exact h.ne
/-- what best knows -/
def knOf {b a : LT} (hb : Ris b) (ha : Ris a) : Kn (tf b) (tf a) where
  kids := kidsL b a
  keys := keysL a
  kn := fun p => (sortP_perm _).nodup_iff.mpr (kidsF_nd p a (kidsF_nd p b List.nodup_nil))
  kp := fun p q h => by
    obtain ⟨x, _, hw, e⟩ := mem_kidsL.mp h
    obtain ⟨h1, h2⟩ := within_iff.mp hw
    obtain ⟨c, hc⟩ := kid_of h1 h2
    exact ⟨c, by rw [← e]; exact hc⟩
  kc := fun p x hp hne h => by
    have hl : p.length < x.length := by
      rcases Nat.lt_or_ge p.length x.length with q | q
      · exact q
      · exact absurd (hp.eq_of_length_le q).symm hne
    have hm : ∃ v, (x, v) ∈ b ∨ (x, v) ∈ a := by
      rcases h with h | h
      · obtain ⟨v, hv⟩ := (tf_some hb).mp h; exact ⟨v, .inl hv⟩
      · obtain ⟨v, hv⟩ := (tf_some ha).mp h; exact ⟨v, .inr hv⟩
    obtain ⟨v, hv⟩ := hm
    exact ⟨x.take (p.length + 1), mem_kidsL.mpr ⟨(x, v), hv, within_iff.mpr ⟨hl, hp⟩, rfl⟩, List.take_prefix _ _⟩
  yn := fun p => List.Pairwise.filter _ ((sortP_perm _).nodup_iff.mpr (map_fst_nodup ha))
  ym := fun p x => by
    unfold keysL
    rw [List.mem_filter, mem_sortP, List.mem_map, decide_eq_true_eq, tf_some ha]
    constructor
    · rintro ⟨⟨⟨y, v⟩, h1, rfl⟩, h2⟩; exact ⟨h2, v, h1⟩
    · rintro ⟨h2, v, h1⟩; exact ⟨⟨(x, v), h1, rfl⟩, h2⟩
theorem run_branches {b a : LT} {i j : Nat} {S : S3} {p : Pt} (hp : okP p) (hb : okT b) (ha : okT a) (hi : S.ob i = some (.dic (dicD b))) (hj : S.ob j = some (.dic (dicD a))) (li : i < S.next) (lj : j < S.next) (hl : b.length + a.length < 1000) :
    ∃ S', f_branches [.tup [.ref i, .ref j], pth p] S = some (.lst ((kidsL b a p).map pth), S') ∧ Le S S' := by
  have ni : S.next ≠ i := fun e => by omega
  have nj : S.next ≠ j := fun e => by omega
  have k1 := kidsF_len p b []
  have k2 := kidsF_len p a (kidsF p [] b)
  simp only [List.length_nil, Nat.zero_add] at k1
  obtain ⟨o1, S2, e1, n1, f1, g1⟩ := run_walkB (p := p) (T := b) (t := .tup [.ref i, .ref j]) (f := S.next) (n := i) (ks := []) (S := S.new (.dic [])) (o := none) hp hb new_self (by rw [new_ne ni.symm]; exact hi) ni (by simp only [List.length_nil]; omega)
  obtain ⟨o2, S3, e2, n2, f2, g2⟩ := run_walkB (p := p) (T := a) (t := .tup [.ref i, .ref j]) (f := S.next) (n := j) (ks := kidsF p [] b) (S := S2) (o := o1) hp ha f1 (by rw [g1 j nj.symm, new_ne nj.symm]; exact hj) nj (by omega)
  have hs : okSort ((kidsF p (kidsF p [] b) a).map pth) = true := okSort_pth _ (by omega)
  refine ⟨S3, ?_, ⟨by rw [n2, n1]; exact Nat.le_succ _, fun m hm => by rw [g2 m (Nat.ne_of_lt hm), g1 m (Nat.ne_of_lt hm), new_ne (Nat.ne_of_lt hm)]⟩⟩
  have es : sortSrc S3 (.ref S.next) = some ((kidsF p (kidsF p [] b) a).map pth) := by
    unfold sortSrc
    simp only [f2]
    show some ((setD _).map (·.1)) = _
    unfold setD
    rw [List.map_map]
    rfl
  have ek : kSorted false [.ref S.next] S3 = some (.lst ((kidsL b a p).map pth), S3) := by
    unfold kSorted
    simp only [es, hs, if_true, newL]
    rw [sortL_pth]
    rfl
  unfold f_branches fnM
  rw [if_pos (by rfl)]
  show ((sSeq (sSet 2 eDNew) (sSeq (sFor (iTupl (eVar 0)) (gN 3) (sLock (eVar 3) (sFor (iKey (eVar 3)) (gN 4) (inB p 0)))) (sRet (opn (kSorted false) (aCons (eVar 2) aNil))))) [some (.tup [.ref i, .ref j]), some (pth p), none, none, none] S).bind _ = _
  generalize (sLock (eVar 3) (sFor (iKey (eVar 3)) (gN 4) (inB p 0))) = X at e1 e2 ⊢
  have e0 : (sFor (iTupl (eVar 0)) (gN 3) X) [some (.tup [.ref i, .ref j]), some (pth p), some (.ref S.next), none, none] (S.new (.dic [])) = some (.nx, [some (.tup [.ref i, .ref j]), some (pth p), some (.ref S.next), some (.ref j), o2], S3) := by
    unfold sFor iTupl
    simp only [eVar, List.getElem?_cons_zero, Option.bind_some, Src.items]
    simp only [loopM, Src.valid, seqOf, decide_true, if_true, gN, Option.bind_some, List.set_cons_succ, List.set_cons_zero, e1, e2]
  unfold sSeq
  simp only [sSet, eDNew, Option.bind_some, List.set_cons_succ, List.set_cons_zero, e0, sRet, opn, aCons, aNil, eVar, List.getElem?_cons_succ, List.getElem?_cons_zero, ek]
/-! best -/
theorem run_drops {g : Tr Str} {x : Pt} : ∀ {ks : List Pt} {g : Tr Str}, Lst.run g (ks.map fun y => .drop y) x = if x ∈ ks then none else g x
  | [], g => by simp [Lst.run]
  | y :: ks, g => by
    show Lst.run (Lst.step g (.drop y)) _ x = _
    rw [run_drops (g := g) (ks := ks)]
    by_cases h : x ∈ ks
    · simp [h]
    · by_cases e : x = y
      · subst e; simp [h, Lst.step]
      · simp [h, e, Lst.step]
/-- drop all, set all -/
def plainRow (b a : LT) : List (Ch Str) := (b.map (·.1)).map (fun y => .drop y) ++ (a.map (·.1)).map fun y => .set y ((tf a y).getD 0)
theorem plain_run {b a : LT} (hb : Ris b) (ha : Ris a) (x : Pt) : Lst.run (tf b) (plainRow b a) x = tf a x := by
  unfold plainRow
  rw [run_append, run_sets fun y => (tf a y).getD 0, run_drops (g := tf b)]
  have hm : ∀ {T : LT}, Ris T → (x ∈ T.map (·.1) ↔ tf T x ≠ none) := fun {T} h => by
    rw [tf_some h, List.mem_map]
    exact ⟨fun ⟨⟨y, v⟩, h1, e⟩ => ⟨v, by rw [← e]; exact h1⟩, fun ⟨v, h1⟩ => ⟨(x, v), h1, rfl⟩⟩
  by_cases h : x ∈ a.map (·.1)
  · rw [if_pos h]
    obtain ⟨w, hw⟩ := Option.ne_none_iff_exists'.mp ((hm ha).mp h)
    rw [hw]; rfl
  · rw [if_neg h]
    have h2 : tf a x = none := Classical.byContradiction fun q => h ((hm ha).mpr q)
    rw [h2]
    by_cases h3 : x ∈ b.map (·.1)
    · rw [if_pos h3]
    · rw [if_neg h3]
      exact Classical.byContradiction fun q => h3 ((hm hb).mpr q)
theorem plain_nc {b a : LT} (q : Pt) : Ch.clear q ∉ plainRow b a := by
  intro h
  rcases List.mem_append.mp h with h | h
  · obtain ⟨y, _, e⟩ := List.mem_map.mp h; cases e
  · obtain ⟨y, _, e⟩ := List.mem_map.mp h; cases e
theorem plain_len (b a : LT) : (plainRow b a).length = b.length + a.length := by simp [plainRow]
theorem found_len {b a : LT} (hb : Ris b) (ha : Ris a) (n : Nat) (p : Pt) : (own (tf b) (tf a) p ++ ((knOf hb ha).kids p).flatMap (bestL (knOf hb ha) n)).length ≤ b.length + a.length := by
  refine Nat.le_trans (lower_kids (knOf hb ha) (s := plainRow b a) (fun q _ => lower (knOf hb ha) n q _ (fun x _ => plain_run hb ha x) fun r hr => absurd hr (plain_nc r)) (plain_run hb ha p) fun r hr => absurd hr (plain_nc r)) ?_
  rw [← plain_len]
  exact List.countP_le_length
def LstAt (S : S3) (k : Nat) (cs : List (Ch Str)) : Prop := S.ob k = some (.lst (cs.map chD))
theorem kAdd_lst {S : S3} {k m : Nat} {l r : List D} (h1 : S.ob k = some (.lst l)) (h2 : S.ob m = some (.lst r)) (hl : l.length + r.length ≤ sizeLine) : kAdd true (.ref k) (.ref m) S = some (.ref S.next, S.new (.lst (l ++ r))) := by
  unfold kAdd
  simp only [lstOf, h1, h2, if_pos hl, newL, if_true]
theorem kAdd_new {S : S3} {l r : List D} (hl : l.length + r.length ≤ sizeLine) : kAdd true (.lst l) (.lst r) S = some (.ref S.next, S.new (.lst (l ++ r))) := by
  unfold kAdd
  simp only [lstOf, if_pos hl, newL, if_true]
theorem kLen_ref {S : S3} {k : Nat} {l : List D} (h : S.ob k = some (.lst l)) : kLen [.ref k] S = some (.int (l.length : Nat), S) := by
  show (match seqOf S (.ref k) with | some l => some (D.int l.length, S) | none => none) = _
  unfold seqOf G3.listOf
  simp only [h]
end K8
set_option maxHeartbeats 1600000
/-! k08: best, need_tree, fewest. -/
namespace K8
open PySem PySem.Spec PySem.W PyProof.Rows L2 G3 Lst
theorem op2_go {k : D → D → M D} {f g : ME} {ρ : En} {S S1 S2 : S3} {x y : D} (h1 : f ρ S = some (x, S1)) (h2 : g ρ S1 = some (y, S2)) : op2 k f g ρ S = k x y S2 := by
  unfold op2
  rw [h1]
  simp only [Option.bind_some, h2]
theorem seq_nx {f g : MS} {ρ ρ1 : En} {S S1 : S3} (h : f ρ S = some (.nx, ρ1, S1)) : sSeq f g ρ S = g ρ1 S1 := by
  unfold sSeq
  rw [h]
  rfl
theorem seq_rt {f g : MS} {ρ ρ1 : En} {S S1 : S3} {d : D} (h : f ρ S = some (.rt d, ρ1, S1)) : sSeq f g ρ S = some (.rt d, ρ1, S1) := by
  unfold sSeq
  rw [h]
  rfl
theorem seq_ex {f g : MS} {ρ ρ1 : En} {S S1 : S3} {d : Int} (h : f ρ S = some (.ex d, ρ1, S1)) : sSeq f g ρ S = some (.ex d, ρ1, S1) := by
  unfold sSeq
  rw [h]
  rfl
theorem valid_lst (l : List D) (S : S3) : (Src.seq (.lst l) l).valid S = true := by simp [Src.valid, seqOf, G3.listOf]
theorem valid_tup (l : List D) (S : S3) : (Src.seq (.tup l) l).valid S = true := by simp [Src.valid, seqOf]
theorem LstAt.le {S S' : S3} {k : Nat} {cs : List (Ch Str)} (h : LstAt S k cs) (x : Le S S') (hk : k < S.next) : LstAt S' k cs := (x.ob k hk).trans h
theorem okP_kid {b a : LT} (hb : okT b) (ha : okT a) {p q : Pt} (h : q ∈ kidsL b a p) : okP q := by
  obtain ⟨x, hx, _, e⟩ := mem_kidsL.mp h
  rw [← e]
  rcases hx with hx | hx
  · exact okP_take (hb x hx) _
  · exact okP_take (ha x hx) _
theorem run_anew {b a : LT} (hb : Ris b) (ha : Ris a) (ob : okT b) (oa : okT a) (hl : b.length + a.length < 1000) {i j k : Nat} {p : Pt} {o : Option D} {S : S3} (hj : S.ob j = some (.dic (dicD a))) (hp : okP p) :
    (op2 (kAdd true) (opn (kLst false) (aCons (opn G3.kTup (aCons (eC (.str "clear")) (aCons (eVar 2) aNil))) aNil)) (eLc false (iSeq (opn (kSorted false) (aCons (eVar 1) aNil))) (gN 4) (bVal (opn f_is_within (aCons (eVar 4) (aCons (eVar 2) aNil)))) (opn G3.kTup (aCons (eC (.str "set")) (aCons (eVar 4) (aCons (op2 kDGet (eVar 1) (eVar 4)) aNil)))) [4])) [some (.ref i), some (.ref j), some (pth p), some (.ref k), o, none] S
      = some (.ref S.next, S.new (.lst ((anew (tf a) (keysL a p) p).map chD))) := by
  have hs : okSort ((a.map (·.1)).map pth) = true := okSort_pth _ (by rw [List.length_map]; omega)
  have es : sortSrc S (.ref j) = some ((a.map (·.1)).map pth) := by
    unfold sortSrc
    simp only [hj]
    show some ((dicD a).map (·.1)) = _
    unfold dicD
    rw [List.map_map, List.map_map]
    rfl
  have ek : kSorted false [.ref j] S = some (.lst ((sortP (a.map (·.1))).map pth), S) := by
    unfold kSorted
    simp only [es, hs, if_true, newL]
    rw [sortL_pth]
    rfl
  have ll : (sortP (a.map (·.1))).length = a.length := by rw [(sortP_perm _).length_eq, List.length_map]
  have lc := lc_all (f := pth) (g := fun x => chD (.set x ((tf a x).getD 0))) (t := fun x => decide (p <+: x)) (src := .seq (.lst ((sortP (a.map (·.1))).map pth)) ((sortP (a.map (·.1))).map pth)) (T := gN 4)
    (tst := bVal (opn f_is_within (aCons (eVar 4) (aCons (eVar 2) aNil)))) (el := opn G3.kTup (aCons (eC (.str "set")) (aCons (eVar 4) (aCons (op2 kDGet (eVar 1) (eVar 4)) aNil))))
    (ρ := wipeD [some (.ref i), some (.ref j), some (pth p), some (.ref k), o, none] [4]) (S := S) (valid_lst _ _) (sortP (a.map (·.1))) [] (by rw [ll, sz, List.length_nil]; omega) (fun x hx => by
      have hm := mem_sortP.mp hx
      obtain ⟨⟨y, v⟩, hy, rfl⟩ := List.mem_map.mp hm
      have hv : tf a y = some v := (of_tf ha y v).mp hy
      refine ⟨[some (.ref i), some (.ref j), some (pth p), some (.ref k), some (pth y), none], rfl, ?_, fun _ => ?_⟩
      · simp [bVal, opn, aCons, aNil, eVar, run_within (oa _ hy) hp]
      · simp [opn, aCons, aNil, eVar, eC, op2, kDGet_pth hj, look_dic, hv, G3.kTup, sz, chD])
  have hlen : (keysL a p).length ≤ a.length := by
    rw [← ll]; exact List.length_filter_le _ _
  have e1 : (eLc false (iSeq (opn (kSorted false) (aCons (eVar 1) aNil))) (gN 4) (bVal (opn f_is_within (aCons (eVar 4) (aCons (eVar 2) aNil)))) (opn G3.kTup (aCons (eC (.str "set")) (aCons (eVar 4) (aCons (op2 kDGet (eVar 1) (eVar 4)) aNil)))) [4]) [some (.ref i), some (.ref j), some (pth p), some (.ref k), o, none] S
      = some (.lst ((keysL a p).map fun x => chD (.set x ((tf a x).getD 0))), S) := by
    unfold eLc iSeq
    simp only [opn, aCons, aNil, eVar, List.getElem?_cons_succ, List.getElem?_cons_zero, Option.bind_some, ek, G3.listOf, Src.items]
    simp only [opn, aCons, aNil, eVar, List.getElem?_cons_succ, List.getElem?_cons_zero, Option.bind_some] at lc
    rw [lc]
    simp only [Option.bind_some, newL, List.nil_append]
    rfl
  have e2 : (opn (kLst false) (aCons (opn G3.kTup (aCons (eC (.str "clear")) (aCons (eVar 2) aNil))) aNil)) [some (.ref i), some (.ref j), some (pth p), some (.ref k), o, none] S = some (.lst [chD (.clear p)], S) := by
    simp [opn, aCons, aNil, eVar, eC, G3.kTup, sz, kLst, newL, chD]
  rw [op2_go e2 e1, kAdd_new (by rw [List.length_map, List.length_singleton, sz]; omega)]
  unfold anew
  rw [List.map_cons, List.map_map]
  rfl
theorem best_step {b a : LT} (hb : Ris b) (ha : Ris a) (ob : okT b) (oa : okT a) (hl : b.length + a.length < 1000) {i j : Nat} {n : Nat} {p : Pt} {S : S3} (hi : S.ob i = some (.dic (dicD b))) (hj : S.ob j = some (.dic (dicD a))) (li : i < S.next) (lj : j < S.next) (hp : okP p)
    (kid : ∀ q, q ∈ kidsL b a p → ∀ S1 : S3, Le S S1 → ∃ m S2, f_best n [.ref i, .ref j, pth q] S1 = some (.ref m, S2) ∧ LstAt S2 m (bestL (knOf hb ha) n q) ∧ Le S1 S2 ∧ m < S2.next) :
    ∃ k S', f_best (n + 1) [.ref i, .ref j, pth p] S = some (.ref k, S') ∧ LstAt S' k (bestL (knOf hb ha) (n + 1) p) ∧ Le S S' ∧ S.next ≤ k ∧ k < S'.next := by
  obtain ⟨S1, eb, x1⟩ := run_branches (S := S.new (.lst ((own (tf b) (tf a) p).map chD))) hp ob oa (by rw [new_ne (Nat.ne_of_lt li)]; exact hi) (by rw [new_ne (Nat.ne_of_lt lj)]; exact hj) (Nat.lt_succ_of_lt li) (Nat.lt_succ_of_lt lj) hl
  have eo := run_own hi hj p
  have x01 : Le S S1 := (Le.new S _).trans x1
  have k1 : LstAt S1 S.next (own (tf b) (tf a) p) := (x1.ob _ (Nat.lt_succ_self _)).trans new_self
  have fl := found_len hb ha n p
  obtain ⟨ρ2, S2, e2, k, o, rfl, k2, x2, k3, k4⟩ := loop_all (f := pth) (src := .seq (.lst ((kidsL b a p).map pth)) ((kidsL b a p).map pth))
    (body := fun d ρ S => (gN 4 d ρ).bind fun ρ' => (sSet 3 (op2 (kAdd true) (eVar 3) (opn (f_best n) (aCons (eVar 0) (aCons (eVar 1) (aCons (eVar 4) aNil)))))) ρ' S)
    (fun dn ρ S' => ∃ k o, ρ = [some (.ref i), some (.ref j), some (pth p), some (.ref k), o, none] ∧ LstAt S' k (own (tf b) (tf a) p ++ dn.flatMap (bestL (knOf hb ha) n)) ∧ Le S S' ∧ S.next ≤ k ∧ k < S'.next) (kidsL b a p)
    (ρ := [some (.ref i), some (.ref j), some (pth p), some (.ref S.next), none, none]) (S := S1) ⟨S.next, none, rfl, by rw [List.flatMap_nil, List.append_nil]; exact k1, x01, Nat.le_refl _, Nat.lt_of_lt_of_le (Nat.lt_succ_self _) x1.nx⟩
    (by
      rintro dn q post ρ S3 hxs ⟨k, o, rfl, h1, h2, h3, h4⟩
      obtain ⟨m, S4, f1, f2, f3, f4⟩ := kid q (by rw [hxs]; exact List.mem_append_right _ List.mem_cons_self) S3 h2
      have hk : LstAt S4 k _ := h1.le f3 h4
      have hlen := fl
      rw [show (knOf hb ha).kids p = kidsL b a p from rfl, hxs, List.flatMap_append, List.flatMap_cons] at hlen
      simp only [List.length_append] at hlen
      have hs : ((own (tf b) (tf a) p ++ dn.flatMap (bestL (knOf hb ha) n)).map chD).length + ((bestL (knOf hb ha) n q).map chD).length ≤ sizeLine := by
        rw [List.length_map, List.length_map, List.length_append, sz]
        omega
      have ea := kAdd_lst hk f2 hs
      refine ⟨valid_lst _ _, [some (.ref i), some (.ref j), some (pth p), some (.ref S4.next), some (pth q), none], S4.new (.lst ((own (tf b) (tf a) p ++ (dn ++ [q]).flatMap (bestL (knOf hb ha) n)).map chD)), ?_, S4.next, _, rfl, new_self, h2.trans (f3.trans (Le.new _ _)), Nat.le_trans h2.nx f3.nx, Nat.lt_succ_self _⟩
      simp only [gN, List.set_cons_succ, List.set_cons_zero, Option.bind_some, sSet, op2, opn, aCons, aNil, eVar, List.getElem?_cons_succ, List.getElem?_cons_zero, f1, ea]
      simp only [List.flatMap_append, List.flatMap_cons, List.flatMap_nil, List.append_nil, List.map_append, List.append_assoc])
    (fun ρ S' _ => valid_lst _ _)
  have an := run_anew hb ha ob oa hl (i := i) (k := k) (o := o) (S := S2) (by rw [x2.ob j lj]; exact hj) hp
  have ef : (sFor (iSeq (opn f_branches (aCons (opn G3.kTup (aCons (eVar 0) (aCons (eVar 1) aNil))) (aCons (eVar 2) aNil)))) (gN 4) (sSet 3 (op2 (kAdd true) (eVar 3) (opn (f_best n) (aCons (eVar 0) (aCons (eVar 1) (aCons (eVar 4) aNil)))))))
      [some (.ref i), some (.ref j), some (pth p), some (.ref S.next), none, none] (S.new (.lst ((own (tf b) (tf a) p).map chD))) = some (.nx, [some (.ref i), some (.ref j), some (pth p), some (.ref k), o, none], S2) := by
    unfold sFor iSeq
    have et : G3.kTup [.ref i, .ref j] (S.new (.lst ((own (tf b) (tf a) p).map chD))) = some (.tup [.ref i, .ref j], S.new (.lst ((own (tf b) (tf a) p).map chD))) := by simp [G3.kTup, sz]
    simp only [opn, aCons, aNil, eVar, List.getElem?_cons_succ, List.getElem?_cons_zero, Option.bind_some, et, eb, G3.listOf, Src.items]
    exact e2
  have kk : kLen [.ref k] S2 = some (.int (((own (tf b) (tf a) p ++ (kidsL b a p).flatMap (bestL (knOf hb ha) n)).map chD).length : Nat), S2) := kLen_ref k2
  rw [List.length_map] at kk
  unfold f_best fnM
  rw [if_pos (by rfl)]
  show ∃ k S', (b_best (f_best n) [some (.ref i), some (.ref j), some (pth p), none, none, none] S).bind _ = _ ∧ _
  unfold b_best
  generalize hF : own (tf b) (tf a) p ++ (kidsL b a p).flatMap (bestL (knOf hb ha) n) = F at *
  have hB : bestL (knOf hb ha) (n + 1) p = pick F (anew (tf a) (keysL a p) p) := by rw [← hF]; rfl
  rw [hB]
  generalize hA : anew (tf a) (keysL a p) p = An at *
  have eo' : (sSet 3 (opn f_own_change (aCons (eVar 0) (aCons (eVar 1) (aCons (eVar 2) aNil))))) [some (.ref i), some (.ref j), some (pth p), none, none, none] S = some (.nx, [some (.ref i), some (.ref j), some (pth p), some (.ref S.next), none, none], S.new (.lst ((own (tf b) (tf a) p).map chD))) := by
    simp only [sSet, opn, aCons, aNil, eVar, List.getElem?_cons_succ, List.getElem?_cons_zero, Option.bind_some, eo, List.set_cons_succ, List.set_cons_zero]
  by_cases h2 : F.length < 2
  · refine ⟨k, S2, ?_, by unfold pick; rw [if_pos h2]; exact k2, x2, k3, k4⟩
    have h2' : ((F.length : Nat) : Int) < 2 := by omega
    have ei : (sIf (bVal (op2 (kLt) (opn (kLen) (aCons (eVar 3) aNil)) (eC (.int 2)))) (sRet (eVar 3)) sSkip) [some (.ref i), some (.ref j), some (pth p), some (.ref k), o, none] S2 = some (.rt (.ref k), [some (.ref i), some (.ref j), some (pth p), some (.ref k), o, none], S2) := by
      simp only [sIf, bVal, op2, opn, aCons, aNil, eVar, eC, List.getElem?_cons_succ, List.getElem?_cons_zero, Option.bind_some, kk, kLt, kCmpI, h2', decide_true, if_true, sRet]
    rw [seq_nx eo', seq_nx ef, seq_rt ei]
    rfl
  · have h2' : ¬ ((F.length : Nat) : Int) < 2 := by omega
    have ei : (sIf (bVal (op2 (kLt) (opn (kLen) (aCons (eVar 3) aNil)) (eC (.int 2)))) (sRet (eVar 3)) sSkip) [some (.ref i), some (.ref j), some (pth p), some (.ref k), o, none] S2 = some (.nx, [some (.ref i), some (.ref j), some (pth p), some (.ref k), o, none], S2) := by
      simp [sIf, bVal, op2, opn, aCons, aNil, eVar, eC, kk, kLt, kCmpI, h2', sSkip]
    have e5 : (sSet 5 (op2 (kAdd true) (opn (kLst false) (aCons (opn G3.kTup (aCons (eC (.str "clear")) (aCons (eVar 2) aNil))) aNil)) (eLc false (iSeq (opn (kSorted false) (aCons (eVar 1) aNil))) (gN 4) (bVal (opn f_is_within (aCons (eVar 4) (aCons (eVar 2) aNil)))) (opn G3.kTup (aCons (eC (.str "set")) (aCons (eVar 4) (aCons (op2 kDGet (eVar 1) (eVar 4)) aNil)))) [4]))) [some (.ref i), some (.ref j), some (pth p), some (.ref k), o, none] S2
        = some (.nx, [some (.ref i), some (.ref j), some (pth p), some (.ref k), o, some (.ref S2.next)], S2.new (.lst (An.map chD))) := by
      unfold sSet
      rw [an]
      rfl
    have n2 : LstAt (S2.new (.lst (An.map chD))) k F := k2.le (Le.new _ _) k4
    have n5 : LstAt (S2.new (.lst (An.map chD))) S2.next An := new_self
    have l3 := kLen_ref n2
    have l5 := kLen_ref n5
    rw [List.length_map] at l3 l5
    by_cases h3 : An.length < F.length
    · refine ⟨S2.next, S2.new (.lst (An.map chD)), ?_, by unfold pick; rw [if_neg h2, if_pos h3]; exact n5, x2.trans (Le.new _ _), Nat.le_trans k3 (Nat.le_of_lt k4), Nat.lt_succ_self _⟩
      have h3' : ((An.length : Nat) : Int) < ((F.length : Nat) : Int) := by omega
      rw [seq_nx eo', seq_nx ef, seq_nx ei, seq_nx e5]
      simp only [Option.bind_some, sRet, eIf, bVal, op2, opn, aCons, aNil, eVar, List.getElem?_cons_succ, List.getElem?_cons_zero, l3, l5, kLt, kCmpI, h3', decide_true, if_true]
    · refine ⟨k, S2.new (.lst (An.map chD)), ?_, by unfold pick; rw [if_neg h2, if_neg h3]; exact n2, x2.trans (Le.new _ _), k3, Nat.lt_succ_of_lt k4⟩
      have h3' : ¬ ((An.length : Nat) : Int) < ((F.length : Nat) : Int) := by omega
      rw [seq_nx eo', seq_nx ef, seq_nx ei, seq_nx e5]
      simp [sRet, eIf, bVal, op2, opn, aCons, aNil, eVar, l3, l5, kLt, kCmpI, h3']
theorem run_best {b a : LT} (hb : Ris b) (ha : Ris a) (ob : okT b) (oa : okT a) (hl : b.length + a.length < 1000) {i j : Nat} : ∀ (n : Nat) (p : Pt) (S : S3), S.ob i = some (.dic (dicD b)) → S.ob j = some (.dic (dicD a)) → i < S.next → j < S.next → okP p → Good (tf b) (tf a) (n + 1) p →
    ∃ k S', f_best (n + 1) [.ref i, .ref j, pth p] S = some (.ref k, S') ∧ LstAt S' k (bestL (knOf hb ha) (n + 1) p) ∧ Le S S' ∧ S.next ≤ k ∧ k < S'.next := by
  intro n
  induction n with
  | zero =>
    intro p S hi hj li lj hp hg
    refine best_step hb ha ob oa hl hi hj li lj hp fun q hq S1 x1 => ?_
    obtain ⟨x, hx, hw, e⟩ := mem_kidsL.mp hq
    obtain ⟨h1, h2⟩ := within_iff.mp hw
    have := hg x.1 h2 (by
      rcases hx with hx | hx
      · exact .inl ((tf_some hb).mpr ⟨x.2, hx⟩)
      · exact .inr ((tf_some ha).mpr ⟨x.2, hx⟩))
    omega
  | succ n ih =>
    intro p S hi hj li lj hp hg
    refine best_step hb ha ob oa hl hi hj li lj hp fun q hq S1 x1 => ?_
    obtain ⟨x, hx, hw, e⟩ := mem_kidsL.mp hq
    obtain ⟨h1, h2⟩ := within_iff.mp hw
    obtain ⟨c, hc⟩ := kid_of h1 h2
    rw [e] at hc
    obtain ⟨m, S2, e1, e2, e3, _, e5⟩ := ih q S1 (by rw [x1.ob i li]; exact hi) (by rw [x1.ob j lj]; exact hj) (Nat.lt_of_lt_of_le li x1.nx) (Nat.lt_of_lt_of_le lj x1.nx) (okP_kid ob oa hq) fun y hy hyy => by
      have := hg y ((by rw [hc]; exact List.prefix_append p [c] : p <+: q).trans hy) hyy
      rw [hc, List.length_append, List.length_singleton]
      omega
    exact ⟨m, S2, e1, e2, e3, e5⟩
end K8
set_option maxHeartbeats 1600000
/-! k08: need_tree, fewest. -/
namespace K8
open PySem PySem.Spec PySem.W PyProof.Rows L2 G3 Lst
/-- one letter a to z -/
def vS (x : Str) : Prop := ∃ c : Nat, 97 ≤ c ∧ c ≤ 122 ∧ x = ⟨#[c]⟩
def vP (p : Pt) : Prop := p.length ≤ 4 ∧ ∀ x, x ∈ p → vS x
def vK (x : Pt × Int) : Prop := vP x.1 ∧ 0 ≤ x.2 ∧ x.2 ≤ 999
structure Tree (T : LT) : Prop where
  ris : Ris T
  ok : ∀ x, x ∈ T → vK x
theorem letters_mem {c : Nat} (h1 : 97 ≤ c) (h2 : c ≤ 122) : c ∈ ("abcdefghijklmnopqrstuvwxyz" : Str).cps.toList := by
  have h : ∀ k, k < 26 → k + 97 ∈ ("abcdefghijklmnopqrstuvwxyz" : Str).cps.toList := by decide +kernel
  have := h (c - 97) (by omega)
  rwa [show c - 97 + 97 = c by omega] at this
theorem okS_v {x : Str} (h : vS x) : okS x := by
  obtain ⟨c, h1, h2, rfl⟩ := h
  have h : ∀ k, k < 26 → PyData.canLay0 (.str ⟨#[k + 97]⟩) = true := by decide +kernel
  have := h (c - 97) (by omega)
  rwa [show c - 97 + 97 = c by omega] at this
theorem okP_v {p : Pt} (h : vP p) : okP p := fun x hx => okS_v (h.2 x hx)
theorem Tree.okT {T : LT} (h : Tree T) : okT T := fun x hx => okP_v (h.ok x hx).1
theorem run_name {x : Str} (h : vS x) (S : S3) : f_is_name [.str x] S = some (.bl true, S) := by
  obtain ⟨c, h1, h2, rfl⟩ := h
  have hm := letters_mem h1 h2
  have hm2 : c ∈ ("abcdefghijklmnopqrstuvwxyz" : Str).cps := by simpa using hm
  have hl : (⟨#[c]⟩ : Str).length = 1 := rfl
  have hs : G3.signs (⟨#[c]⟩ : Str) = [.str ⟨#[c]⟩] := rfl
  have hk : kEq (.lst []) (.lst []) S = some (.bl true, S) := kEq_gd rfl rfl (by decide) (by decide) S
  have hc : (eLc false (iTxt (eVar 0)) (gN 1) (bVal (op2 (kInS true) (eVar 1) (eC (.str "abcdefghijklmnopqrstuvwxyz")))) (eVar 1) [1]) [some (.str ⟨#[c]⟩), none] S = some (.lst [], S) := by
    simp [eLc, iTxt, eVar, Src.items, hs, lcM, Src.valid, gN, bVal, op2, eC, kInS, hm2, newL, wipeD]
  unfold f_is_name fnM
  rw [if_pos (by rfl)]
  show (b_is_name [some (.str ⟨#[c]⟩), none] S).bind _ = _
  unfold b_is_name
  rw [seq_nx (ρ1 := [some (.str ⟨#[c]⟩), none]) (S1 := S) (by
    have hle1 : kLe (.int 1) (.int 1) S = some (.bl true, S) := rfl
    have hle3 : kLe (.int 1) (.int 3) S = some (.bl true, S) := rfl
    have hkl : kLen [.str ⟨#[c]⟩] S = some (.int 1, S) := by
      show (if (⟨#[c]⟩ : Str).length ≤ sizeLine then some (D.int ((⟨#[c]⟩ : Str).length : Nat), S) else none) = _
      rw [hl, sz]; rfl
    have hi : kIsi "str" (.str ⟨#[c]⟩) S = some (.bl true, S) := rfl
    simp [sIf, bOr, bNot, bVal, op1, eVar, eChain, opn, aCons, aNil, eC, hkl, hle1, hle3, hi, sSkip])]
  unfold sRet
  rw [op2_go hc (show (opn (kLst false) aNil) [some (.str ⟨#[c]⟩), none] S = some (.lst [], S) by simp [opn, aNil, kLst, newL, sz]), hk]
  rfl
theorem run_path {p : Pt} (h : vP p) (S : S3) : f_is_path [pth p] S = some (.bl true, S) := by
  have hi : kIsi "tuple" (pth p) S = some (.bl true, S) := rfl
  have hlc := lc_all (f := D.str) (g := D.str) (t := fun _ => false) (src := .seq (pth p) (p.map D.str)) (T := gN 1) (tst := bNot (bVal (opn f_is_name (aCons (eVar 1) aNil)))) (el := eVar 1) (ρ := [some (pth p), none]) (S := S) (valid_tup _ _) p [] (by
    have := h.1
    rw [sz, List.length_nil]; omega) (fun x hx => ⟨[some (pth p), some (.str x)], rfl, by simp [bNot, bVal, opn, aCons, aNil, eVar, run_name (h.2 x hx)], fun z => nomatch z⟩)
  have hc : (eLc false (iTupl (eVar 0)) (gN 1) (bNot (bVal (opn f_is_name (aCons (eVar 1) aNil)))) (eVar 1) [1]) [some (pth p), none] S = some (.lst [], S) := by
    have hf : p.filter (fun _ => false) = [] := List.filter_eq_nil_iff.mpr fun _ _ z => by cases z
    rw [hf] at hlc
    unfold eLc
    rw [show iTupl (eVar 0) [some (pth p), none] S = some (.seq (pth p) (p.map D.str), S) from rfl]
    simp only [Option.bind_some]
    rw [show wipeD [some (pth p), none] [1] = [some (pth p), none] from rfl, show (Src.seq (pth p) (p.map D.str)).items = p.map D.str from rfl, hlc]
    rfl
  have hl : ((p.length : Nat) : Int) ≤ 4 := by have := h.1; omega
  have hk : kEq (.lst []) (.lst []) S = some (.bl true, S) := kEq_gd rfl rfl (by decide) (by decide) S
  unfold f_is_path fnM
  rw [if_pos (by rfl)]
  show (b_is_path [some (pth p), none] S).bind _ = _
  unfold b_is_path sRet eAnd
  rw [show op1 (kIsi "tuple") (eVar 0) [some (pth p), none] S = some (.bl true, S) from hi]
  simp only [Option.bind_some]
  rw [op2_go (x := .int (p.length : Nat)) (S1 := S) (y := .int 4) (S2 := S) (by simp [opn, aCons, aNil, eVar, kLen_pth]) rfl]
  rw [show kLe (.int (p.length : Nat)) (.int 4) S = some (.bl true, S) by simp [kLe, kCmpI, hl]]
  simp only [Option.bind_some]
  rw [op2_go hc (show (opn (kLst false) aNil) [some (pth p), none] S = some (.lst [], S) by simp [opn, aNil, kLst, newL, sz]), hk]
  rfl
theorem run_key {x : Pt × Int} (h : vK x) (S : S3) : f_is_key [prD x] S = some (.bl true, S) := by
  obtain ⟨hp, h0, h9⟩ := h
  have hi : kIsi "tuple" (prD x) S = some (.bl true, S) := rfl
  have hl : kEq (.int 2) (.int 2) S = some (.bl true, S) := kEq_gd rfl rfl (by decide) (by decide) S
  have h1 : kIx (prD x) (.int 0) S = some (pth x.1, S) := rfl
  have h2 : kIx (prD x) (.int 1) S = some (.int x.2, S) := rfl
  have hkl : kLen [prD x] S = some (.int 2, S) := rfl
  have hw : f_is_whole [.int x.2, .int 0, .int 999] S = some (.bl true, S) := by
    have a1 : kIsi "int" (.int x.2) S = some (.bl true, S) := rfl
    have a2 : kIsi "bool" (.int x.2) S = some (.bl false, S) := rfl
    unfold f_is_whole fnM b_is_whole
    simp [sRet, eAnd, eNot, op1, eVar, a1, a2, eChain, kLe, kCmpI, h0, h9]
  unfold f_is_key fnM b_is_key
  simp [sRet, eAnd, op1, op2, opn, aCons, aNil, eVar, eC, hi, hkl, hl, h1, h2, run_path hp, hw]
theorem kGeD_pth (p q : Pt) (S : S3) : kGeD (pth p) (pth q) S = some (.bl (!decide (cl p < cl q)), S) := by
  have dep : ∀ k : List Str, PyData.depthAll (k.map .str) ≤ 1 := fun k => by
    induction k with
    | nil => simp [PyData.depthAll]
    | cons x k ih => simp only [List.map_cons, PyData.depthAll, PyData.depth]; omega
  have h1 := alike_pth p q
  rw [encD_pth, encD_pth] at h1
  have h2 : (PyData.tuple (p.map .str)).depth ≤ 50 := by
    have := dep p
    simp only [PyData.depth]; omega
  have h3 : dataLt (PyData.tuple (p.map .str)) (PyData.tuple (q.map .str)) = decide (cl p < cl q) := by
    rw [dataLt_tuple]; exact dataLt_txts p q
  unfold kGeD
  rw [toPy_pth, toPy_pth]
  simp only [h1, h2, h3, decide_true, Bool.and_self, show isT (pth p) = true from rfl, if_true]
end K8
set_option maxHeartbeats 1600000
/-! k08: need_tree, fewest. -/
namespace K8
open PySem PySem.Spec PySem.W PyProof.Rows L2 G3 Lst
theorem kIx_lst {l : List D} {i : Nat} {d : D} (h : l[i]? = some d) (S : S3) : kIx (.lst l) (.int (i : Int)) S = some (d, S) := by
  have hi : i < l.length := (List.getElem?_eq_some_iff.mp h).1
  show (match seqOf S (.lst l) with | some l => (atI l (i : Int)).map (·, S) | none => none) = _
  simp only [seqOf, G3.listOf]
  rw [atI_nat l i hi, h]
  rfl
def nb : MS := (sSeq (sIf (bOr (bVal (op2 (kGe) (eVar 1) (eC (.int 60)))) (bNot (bVal (opn f_is_key (aCons (op2 kIx (eVar 0) (eVar 1)) aNil))))) (sRaise (eVar 1)) sSkip)
  (sIf (bAnd (bVal (op2 (kGt) (eVar 1) (eC (.int 0)))) (bVal (op2 (kGeD) (op2 kIx (op2 kIx (eVar 0) (op2 (kSub) (eVar 1) (eC (.int 1)))) (eC (.int 0))) (op2 kIx (op2 kIx (eVar 0) (eVar 1)) (eC (.int 0)))))) (sRaise (eVar 1)) sSkip))
section
variable {l : List D} {i : Nat} {S : S3}
theorem nb_60 (h : 60 ≤ i) : nb [some (.lst l), some (.int (i : Int))] S = some (.ex (i : Int), [some (.lst l), some (.int (i : Int))], S) := by
  have h' : (60 : Int) ≤ (i : Int) := by omega
  unfold nb
  refine seq_ex ?_
  simp [sIf, bOr, bVal, op2, eVar, eC, kGe, kCmpI, h', sRaise]
theorem nb_key {d : D} (h : i < 60) (hd : l[i]? = some d) (hk : f_is_key [d] S = some (.bl false, S)) : nb [some (.lst l), some (.int (i : Int))] S = some (.ex (i : Int), [some (.lst l), some (.int (i : Int))], S) := by
  have h' : ¬ (60 : Int) ≤ (i : Int) := by omega
  unfold nb
  refine seq_ex ?_
  simp [sIf, bOr, bVal, bNot, op2, opn, aCons, aNil, eVar, eC, kGe, kCmpI, h', kIx_lst hd, hk, sRaise]
theorem nb_if1 {x : Pt × Int} (h : i < 60) (hd : l[i]? = some (prD x)) (hx : vK x) : (sIf (bOr (bVal (op2 (kGe) (eVar 1) (eC (.int 60)))) (bNot (bVal (opn f_is_key (aCons (op2 kIx (eVar 0) (eVar 1)) aNil))))) (sRaise (eVar 1)) sSkip) [some (.lst l), some (.int (i : Int))] S = some (.nx, [some (.lst l), some (.int (i : Int))], S) := by
  have h' : ¬ (60 : Int) ≤ (i : Int) := by omega
  simp [sIf, bOr, bVal, bNot, op2, opn, aCons, aNil, eVar, eC, kGe, kCmpI, h', kIx_lst hd, run_key hx, sSkip]
theorem nb_zero {x : Pt × Int} (h : i = 0) (hd : l[i]? = some (prD x)) (hx : vK x) : nb [some (.lst l), some (.int (i : Int))] S = some (.nx, [some (.lst l), some (.int (i : Int))], S) := by
  unfold nb
  rw [seq_nx (nb_if1 (by omega) hd hx)]
  subst h
  simp [sIf, bAnd, bVal, op2, eVar, eC, kGt, kCmpI, sSkip]
theorem nb_more {x y : Pt × Int} (h : i + 1 < 60) (hd : l[i + 1]? = some (prD x)) (hx : vK x) (hy : l[i]? = some (prD y)) : nb [some (.lst l), some (.int ((i + 1 : Nat) : Int))] S = if cl y.1 < cl x.1 then some (.nx, [some (.lst l), some (.int ((i + 1 : Nat) : Int))], S) else some (.ex ((i + 1 : Nat) : Int), [some (.lst l), some (.int ((i + 1 : Nat) : Int))], S) := by
  unfold nb
  rw [seq_nx (nb_if1 h hd hx)]
  have h0 : (0 : Int) < ((i + 1 : Nat) : Int) := by omega
  have e1 : (((i + 1 : Nat) : Int) - 1) = (i : Int) := by omega
  have p1 : kIx (prD y) (.int 0) S = some (pth y.1, S) := rfl
  have p2 : kIx (prD x) (.int 0) S = some (pth x.1, S) := rfl
  by_cases hc : cl y.1 < cl x.1
  · simp only [sIf, bAnd, bVal, op2, eVar, eC, kGt, kCmpI, kSub, kInt2, List.getElem?_cons_succ, List.getElem?_cons_zero, Option.bind_some, h0, decide_true, if_true, e1, kIx_lst hd, kIx_lst hy, p1, p2, kGeD_pth, hc, Bool.not_true, Bool.false_eq_true, if_false, sSkip]
  · simp only [sIf, bAnd, bVal, op2, eVar, eC, kGt, kCmpI, kSub, kInt2, List.getElem?_cons_succ, List.getElem?_cons_zero, Option.bind_some, h0, decide_true, if_true, e1, kIx_lst hd, kIx_lst hy, p1, p2, kGeD_pth, hc, decide_false, Bool.not_false, Bool.false_eq_true, if_false, sRaise]
end
abbrev rngF : Nat → D := fun i => D.int (0 + (i : Int) * 1)
theorem rngF_eq (i : Nat) : rngF i = D.int (i : Int) := by show D.int _ = D.int _; rw [Int.mul_one, Int.zero_add]
theorem range_at {m i : Nat} {dn post : List Nat} (h : List.range m = dn ++ i :: post) : i = dn.length ∧ i < m := by
  have h1 : (List.range m)[dn.length]? = some i := by rw [h]; simp
  have hl : dn.length < m := by
    have := congrArg List.length h
    rw [List.length_range, List.length_append, List.length_cons] at this
    omega
  rw [List.getElem?_range hl] at h1
  have := Option.some.inj h1
  exact ⟨this.symm, by omega⟩
/-- the keys that are right are passed -/
theorem need_go {T : LT} (h : Tree T) (hl : T.length ≤ 60) (src : Src) (hv : ∀ S, src.valid S = true) (more : List D) (rest : List D) (o : Option D) (S : S3) :
    ∃ o', loopM src (fun d ρ S => (gN 1 d ρ).bind fun ρ' => nb ρ' S) ((List.range T.length).map rngF ++ rest) [some (.lst (trD T ++ more)), o] S = loopM src (fun d ρ S => (gN 1 d ρ).bind fun ρ' => nb ρ' S) rest [some (.lst (trD T ++ more)), o'] S := by
  obtain ⟨ρ', S', e, ⟨o', rfl⟩, rfl⟩ := loop_go (f := rngF) (src := src) (body := fun d ρ S => (gN 1 d ρ).bind fun ρ' => nb ρ' S) (I := fun _ ρ S' => (∃ o, ρ = [some (.lst (trD T ++ more)), o]) ∧ S' = S) rest (List.range T.length) (by
    rintro dn i post ρ S1 ha ⟨⟨o, rfl⟩, rfl⟩
    obtain ⟨hi, hm⟩ := range_at ha
    refine ⟨hv _, [some (.lst (trD T ++ more)), some (.int (i : Int))], S1, ?_, ⟨_, rfl⟩, rfl⟩
    rw [rngF_eq]
    show nb [some (.lst (trD T ++ more)), some (.int (i : Int))] S1 = _
    have at_ : ∀ j (hj : j < T.length), (trD T ++ more)[j]? = some (prD T[j]) := fun j hj => by
      rw [List.getElem?_append_left (by rw [trD, List.length_map]; exact hj), trD, List.getElem?_map, List.getElem?_eq_getElem hj]
      rfl
    cases i with
    | zero => exact nb_zero rfl (at_ 0 hm) (h.ok _ (List.getElem_mem hm))
    | succ i =>
      rw [nb_more (by omega) (at_ (i + 1) hm) (h.ok _ (List.getElem_mem hm)) (at_ i (by omega)), if_pos]
      exact List.pairwise_iff_getElem.mp h.ris i (i + 1) (by omega) hm (by omega)) (List.range T.length) [] [some (.lst (trD T ++ more)), o] S rfl ⟨⟨o, rfl⟩, rfl⟩
  exact ⟨o', e⟩
theorem pow62 : (2 : Int) ^ 62 = 4611686018427387904 := by
  have h : (2 : Int) ^ 62 = ((2 ^ 62 : Nat) : Int) := by rw [Int.natCast_pow]; rfl
  rw [h]; rfl
theorem rOk_small {n : Nat} (h : n < 2000) : rOk (n : Int) = true := by
  unfold rOk
  rw [pow62, Bool.and_eq_true, decide_eq_true_eq, decide_eq_true_eq]
  omega
theorem iRng_one {a : MA} {ρ : En} {S S1 : S3} {j : Int} (ha : a ρ S = some ([.int j], S1)) (hr : rOk j = true) : iRng a ρ S = some (.rng 0 1 j.toNat, S1) := by
  unfold iRng
  rw [ha]
  simp only [Option.bind_some]
  rw [if_pos hr]
theorem need_iter {l : List D} (hl : l.length < 2000) (S : S3) : (iRng (aCons (opn (kLen) (aCons (eVar 0) aNil)) aNil)) [some (.lst l), none] S = some (.rng 0 1 l.length, S) :=
  (iRng_one (j := (l.length : Int)) (S1 := S) (by simp [opn, aCons, aNil, eVar, kLen_lst]) (rOk_small hl)).trans (by rw [Int.toNat_natCast])
theorem need_unf {l : List D} (hl : l.length < 2000) (S : S3) : f_need_tree [.lst l] S = (loopM (.rng 0 1 l.length) (fun d ρ S => (gN 1 d ρ).bind fun ρ' => nb ρ' S) ((List.range l.length).map rngF) [some (.lst l), none] S).bind fun r => match r.1 with
    | .rt d => some (.inl d, r.2.2)
    | .nx => some (.inl .non, r.2.2)
    | .ex i => some (.inr i, r.2.2)
    | _ => none := by
  unfold f_need_tree G3.fnX
  rw [if_pos (by rfl)]
  show (b_need_tree [some (.lst l), none] S).bind _ = _
  unfold b_need_tree sFor
  rw [need_iter hl]
  rfl
theorem need_ok {T : LT} (h : Tree T) (hl : T.length ≤ 60) (S : S3) : f_need_tree [.lst (trD T)] S = some (.inl .non, S) := by
  have hlen : (trD T).length = T.length := List.length_map _
  rw [need_unf (by omega)]
  obtain ⟨o', e⟩ := need_go h hl (.rng 0 1 (trD T).length) (fun _ => rfl) [] [] none S
  rw [List.append_nil, List.append_nil] at e
  rw [hlen] at e ⊢
  rw [e]
  rfl
theorem need_bad {T : LT} (h : Tree T) {d : D} {rest : List D} (hl : T.length ≤ 60) (hr : rest.length < 1000) (S : S3) (hb : T.length = 60 ∨ f_is_key [d] S = some (.bl false, S) ∨ ∃ x y, d = prD x ∧ vK x ∧ T.getLast? = some y ∧ ¬ cl y.1 < cl x.1) :
    f_need_tree [.lst (trD T ++ d :: rest)] S = some (.inr (T.length : Nat), S) := by
  have hlen : (trD T ++ d :: rest).length = T.length + (rest.length + 1) := by rw [List.length_append, List.length_cons, trD, List.length_map]
  rw [need_unf (by omega), hlen, List.range_add, List.map_append, List.range_succ_eq_map, List.map_cons, List.map_cons]
  obtain ⟨o', e⟩ := need_go h hl (.rng 0 1 (T.length + (rest.length + 1))) (fun _ => rfl) (d :: rest) (rngF (T.length + 0) :: List.map rngF (List.map (fun x => T.length + x) (List.map Nat.succ (List.range rest.length)))) none S
  rw [e]
  have hat : (trD T ++ d :: rest)[T.length]? = some d := by
    rw [List.getElem?_append_right (by rw [trD, List.length_map]; exact Nat.le_refl _), trD, List.length_map, Nat.sub_self]
    rfl
  have hbody : nb [some (.lst (trD T ++ d :: rest)), some (.int ((T.length : Nat) : Int))] S = some (.ex ((T.length : Nat) : Int), [some (.lst (trD T ++ d :: rest)), some (.int ((T.length : Nat) : Int))], S) := by
    by_cases h60 : T.length = 60
    · exact nb_60 (by omega)
    · rcases hb with hb | hb | ⟨x, y, rfl, hx, hy, hc⟩
      · exact absurd hb h60
      · exact nb_key (by omega) hat hb
      · have hpos : 0 < T.length := by
          rcases T with _ | ⟨z, T⟩
          · cases hy
          · exact Nat.succ_pos _
        obtain ⟨m, hm⟩ : ∃ m, T.length = m + 1 := ⟨T.length - 1, by omega⟩
        have hat2 : (trD T ++ prD x :: rest)[m]? = some (prD y) := by
          rw [List.getElem?_append_left (by rw [trD, List.length_map]; omega), trD, List.getElem?_map]
          rw [List.getLast?_eq_getElem?, hm, Nat.add_sub_cancel] at hy
          rw [hy]
          rfl
        rw [hm] at hat ⊢
        rw [nb_more (by omega) hat hx hat2, if_neg hc]
  rw [loopM, if_pos (show (Src.rng 0 1 (T.length + (rest.length + 1))).valid S = true from rfl), Nat.add_zero, rngF_eq]
  show ((nb [some (.lst (trD T ++ d :: rest)), some (.int ((T.length : Nat) : Int))] S).bind _).bind _ = _
  rw [hbody]
  rfl
/-! dict of a list of pairs -/
theorem pairsD_tr : ∀ T : LT, pairsD (trD T) = some (dicD T)
  | [] => rfl
  | x :: T => by
    show (match keysD (x.1.map D.str) with | some _ => (pairsD (trD T)).map ((D.tup (x.1.map D.str), D.int x.2) :: ·) | none => none) = _
    rw [keysD_str, pairsD_tr T]
    rfl
theorem put_tree : ∀ (T dn : LT), (dn ++ T).Pairwise (fun x y => x.1 ≠ y.1) → putAll (dicD dn) (dicD T) = dicD (dn ++ T)
  | [], dn, _ => by rw [List.append_nil]; rfl
  | x :: T, dn, h => by
    have hx : (lookD (dicD dn) (pth x.1)).isSome = false := by
      rw [look_dic]
      have : tf dn x.1 = none := by
        unfold tf
        rw [Option.map_eq_none_iff, List.find?_eq_none]
        intro y hy
        have := (List.pairwise_append.mp h).2.2 y hy x List.mem_cons_self
        simpa using this
      rw [this]; rfl
    show putAll (putDD (dicD dn) (pth x.1) (.int x.2)) (dicD T) = _
    have e : putDD (dicD dn) (pth x.1) (.int x.2) = dicD (dn ++ [x]) := by
      unfold putDD
      rw [hx]
      simp [dicD]
    rw [e, put_tree T (dn ++ [x]) (by rw [List.append_assoc]; exact h), List.append_assoc]
    rfl
theorem run_dict {T : LT} (h : Ris T) (hl : T.length ≤ 60) (S : S3) : kDictOf [.lst (trD T)] S = some (.ref S.next, S.new (.dic (dicD T))) := by
  have hs : (dicD T).length ≤ sizeLine := by rw [dicD, List.length_map, sz]; omega
  have e := put_tree T [] h.ne
  unfold kDictOf
  simp only [G3.listOf, pairsD_tr, hs, if_true]
  rw [show putAll [] (dicD T) = dicD T from e]
theorem tree_len {T : LT} (h : Tree T) {x : Pt} (hx : tf T x ≠ none) : x.length ≤ 4 := by
  obtain ⟨v, hv⟩ := (tf_some h.ris).mp hx
  exact (h.ok _ hv).1.1
theorem fnX_rt {n N : Nat} {b : MS} {ds : List D} {ρ ρ' : En} {S S' : S3} {z : D} (hl : ds.length = n) (hρ : ds.map some ++ List.replicate (N - n) none = ρ) (h : b ρ S = some (.rt z, ρ', S')) : G3.fnX n N b ds S = some (.inl z, S') := by
  unfold G3.fnX
  rw [if_pos hl, hρ, h]
  rfl
theorem fnX_ex {n N : Nat} {b : MS} {ds : List D} {ρ ρ' : En} {S S' : S3} {i : Int} (hl : ds.length = n) (hρ : ds.map some ++ List.replicate (N - n) none = ρ) (h : b ρ S = some (.ex i, ρ', S')) : G3.fnX n N b ds S = some (.inr i, S') := by
  unfold G3.fnX
  rw [if_pos hl, hρ, h]
  rfl
theorem fewest_unf {x y u v z : D} {S S1 S2 S3 : G3.S3} (n1 : f_need_tree [x] S = some (.inl .non, S)) (n2 : f_need_tree [y] S = some (.inl .non, S)) (d1 : kDictOf [x] S = some (u, S1)) (d2 : kDictOf [y] S1 = some (v, S2))
    (e : f_best 7 [u, v, .tup []] S2 = some (z, S3)) : f_fewest [x, y] S = some (.inl z, S3) := by
  have a1 : sExpX (opX f_need_tree (aCons (eVar 0) aNil)) [some x, some y] S = some (.nx, [some x, some y], S) := by
    unfold sExpX opX aCons aNil eVar
    simp only [List.getElem?_cons_zero, Option.bind_some, n1]
  have a2 : sExpX (opX f_need_tree (aCons (eVar 1) aNil)) [some x, some y] S = some (.nx, [some x, some y], S) := by
    unfold sExpX opX aCons aNil eVar
    simp only [List.getElem?_cons_zero, List.getElem?_cons_succ, Option.bind_some, n2]
  have et : G3.kTup [] S2 = some (.tup [], S2) := by simp [G3.kTup, sz]
  have a3 : (sRet (opn (f_best 7) (aCons (opn (kDictOf) (aCons (eVar 0) aNil)) (aCons (opn (kDictOf) (aCons (eVar 1) aNil)) (aCons (opn G3.kTup aNil) aNil))))) [some x, some y] S = some (.rt z, [some x, some y], S3) := by
    generalize f_best 7 = F at e ⊢
    simp only [sRet, opn, aCons, aNil, eVar, List.getElem?_cons_succ, List.getElem?_cons_zero, Option.bind_some, d1, d2, et, e]
  have a4 : b_fewest [some x, some y] S = some (.rt z, [some x, some y], S3) := by
    unfold b_fewest
    rw [seq_nx a1, seq_nx a2]
    exact a3
  exact fnX_rt rfl rfl a4
theorem run_fewest {b a : LT} (hb : Tree b) (ha : Tree a) (lb : b.length ≤ 60) (la : a.length ≤ 60) (S : S3) :
    ∃ k S', f_fewest [.lst (trD b), .lst (trD a)] S = some (.inl (.ref k), S') ∧ LstAt S' k (bestL (knOf hb.ris ha.ris) 7 []) ∧ Le S S' ∧ S.next ≤ k ∧ k < S'.next := by
  have x1 := Le.new S (.dic (dicD b))
  have x2 := Le.new (S.new (.dic (dicD b))) (.dic (dicD a))
  obtain ⟨k, S', e, h1, h2, h3, h4⟩ := run_best hb.ris ha.ris hb.okT ha.okT (by omega) (i := S.next) (j := S.next + 1) 6 [] ((S.new (.dic (dicD b))).new (.dic (dicD a))) (by rw [x2.ob _ (Nat.lt_succ_self _)]; exact new_self) new_self
    (by show S.next < S.next + 1 + 1; omega) (by show S.next + 1 < S.next + 1 + 1; omega) (fun _ h => absurd h List.not_mem_nil) (fun x _ hx => by
      show x.length < 0 + 7
      rcases hx with hx | hx
      · have := tree_len hb hx; omega
      · have := tree_len ha hx; omega)
  have x3 := x1.trans x2
  exact ⟨k, S', fewest_unf (need_ok hb lb S) (need_ok ha la S) (run_dict hb.ris lb S) (run_dict ha.ris la _) e, h1, x3.trans h2, Nat.le_trans x3.nx h3, h4⟩
theorem run_fewest1 {x y : D} {i : Int} {S : S3} (h : f_need_tree [x] S = some (.inr i, S)) : f_fewest [x, y] S = some (.inr i, S) := by
  have a1 : sExpX (opX f_need_tree (aCons (eVar 0) aNil)) [some x, some y] S = some (.ex i, [some x, some y], S) := by
    unfold sExpX opX aCons aNil eVar
    simp only [List.getElem?_cons_zero, Option.bind_some, h]
  have a4 : b_fewest [some x, some y] S = some (.ex i, [some x, some y], S) := by
    unfold b_fewest
    exact seq_ex a1
  exact fnX_ex rfl rfl a4
theorem run_fewest2 {x y : D} {i : Int} {S : S3} (h0 : f_need_tree [x] S = some (.inl .non, S)) (h : f_need_tree [y] S = some (.inr i, S)) : f_fewest [x, y] S = some (.inr i, S) := by
  have a1 : sExpX (opX f_need_tree (aCons (eVar 0) aNil)) [some x, some y] S = some (.nx, [some x, some y], S) := by
    unfold sExpX opX aCons aNil eVar
    simp only [List.getElem?_cons_zero, Option.bind_some, h0]
  have a2 : sExpX (opX f_need_tree (aCons (eVar 1) aNil)) [some x, some y] S = some (.ex i, [some x, some y], S) := by
    unfold sExpX opX aCons aNil eVar
    simp only [List.getElem?_cons_zero, List.getElem?_cons_succ, Option.bind_some, h]
  have a4 : b_fewest [some x, some y] S = some (.ex i, [some x, some y], S) := by
    unfold b_fewest
    rw [seq_nx a1]
    exact seq_ex a2
  exact fnX_ex rfl rfl a4
end K8
set_option maxHeartbeats 1600000
/-! k08: the sort of keys; what _law_done gives. -/
namespace K8
open PySem PySem.Spec PySem.W PyProof.Rows L2 G3 Lst
theorem eqv_strs : ∀ p q : Pt, PyData.eqvAll (p.map .str) (q.map .str) = decide (p = q)
  | [], [] => rfl
  | [], _ :: _ => by simp [PyData.eqvAll]
  | _ :: _, [] => by simp [PyData.eqvAll]
  | x :: p, y :: q => by
    simp only [List.map_cons, PyData.eqvAll, eqv_strs p q, PyData.eqv, List.cons.injEq, Bool.decide_and]
    rfl
theorem toPy_prD (x : Pt × Int) : toPy (fun _ => none) (prD x) = some (.tuple [.tuple (x.1.map .str), .int x.2]) := by
  unfold prD
  simp only [toPy, toPys, toPy_pth, Option.bind_some, Option.map_some]
theorem encD_prD (x : Pt × Int) : encD (prD x) = .tuple [.tuple (x.1.map .str), .int x.2] := by
  unfold G3.encD
  rw [toPy_prD] <;> rfl
theorem alike_prD (x y : Pt × Int) : alike (encD (prD x)) (encD (prD y)) = true := by
  rw [encD_prD, encD_prD]
  simp [alike, alikeAll, alike_str]
theorem dataLe_prD (x y : Pt × Int) : dataLe false encD (prD x) (prD y) = pairLe x y := by
  show (!dataLt (encD (prD y)) (encD (prD x))) = _
  rw [encD_prD, encD_prD, dataLt_pair (by simpa [alike] using alike_str y.1 x.1) rfl]
  unfold pairLe
  have e1 : PyData.eqv (.tuple (y.1.map .str)) (.tuple (x.1.map .str)) = decide (y.1 = x.1) := by
    simp only [PyData.eqv]; exact eqv_strs y.1 x.1
  have e2 : dataLt (.tuple (y.1.map .str)) (.tuple (x.1.map .str)) = decide (cl y.1 < cl x.1) := by
    rw [dataLt_tuple]; exact dataLt_txts y.1 x.1
  have e3 : PyData.eqv (.int y.2) (.int x.2) = decide (y.2 = x.2) := by simp only [PyData.eqv]; rfl
  rw [e1, e2, e3, dataLt_int]
  by_cases h : y.1 = x.1
  · have h' : x.1 = y.1 := h.symm
    by_cases h2 : y.2 = x.2
    · simp [h, h2]
    · by_cases h4 : y.2 < x.2
      · have : ¬ x.2 ≤ y.2 := by omega
        simp [h, h2, h4, this]
      · have : x.2 ≤ y.2 := by omega
        simp [h, h2, h4, this]
  · have h' : ¬ x.1 = y.1 := fun e => h e.symm
    by_cases h4 : cl y.1 < cl x.1
    · have : ¬ cl x.1 < cl y.1 := fun z => List.lt_irrefl _ (List.lt_trans z h4)
      simp only [h, h', h4, this, decide_false, decide_true, Bool.false_eq_true, if_false, Bool.not_true]
    · have : cl x.1 < cl y.1 := by
        rcases Classical.em (cl x.1 < cl y.1) with r | r
        · exact r
        · exact absurd (cl_inj (List.le_antisymm (as := cl x.1) (bs := cl y.1) h4 r)).symm h
      simp only [h, h', h4, this, decide_false, decide_true, Bool.false_eq_true, if_false, Bool.not_false]
theorem sortL_tr (T : LT) : sortL (trD T) = trD (sortT T) := by
  unfold sortL sortT trD
  exact (List.map_mergeSort (s := dataLe false encD) (fun a _ b _ => (dataLe_prD a b).symm)).symm
theorem okSort_tr (T : LT) (hl : T.length ≤ 4096) : okSort (trD T) = true := by
  have hs := sz
  have dep : ∀ k : List Str, PyData.depthAll (k.map .str) ≤ 1 := fun k => by
    induction k with
    | nil => simp [PyData.depthAll]
    | cons x k ih => simp only [List.map_cons, PyData.depthAll, PyData.depth]; omega
  unfold okSort trD
  simp only [Bool.and_eq_true, decide_eq_true_eq, List.all_eq_true, List.length_map]
  refine ⟨by omega, fun d hd => ?_, fun d hd e he => ?_⟩
  · obtain ⟨k, _, rfl⟩ := List.mem_map.mp hd
    refine ⟨⟨rfl, by rw [toPy_prD]; rfl⟩, ?_⟩
    rw [encD_prD]
    have := dep k.1
    simp only [PyData.depth, PyData.depthAll]
    omega
  · obtain ⟨j, _, rfl⟩ := List.mem_map.mp hd
    obtain ⟨k, _, rfl⟩ := List.mem_map.mp he
    exact alike_prD j k
/-! _law_done -/
theorem fnM_rt {n N : Nat} {b : MS} {ds : List D} {ρ ρ' : En} {S S' : S3} {z : D} (hl : ds.length = n) (hρ : ds.map some ++ List.replicate (N - n) none = ρ) (h : b ρ S = some (.rt z, ρ', S')) : fnM n N b ds S = some (z, S') := by
  unfold fnM
  rw [if_pos hl, hρ, h]
  rfl
theorem set_go {i : Nat} {e : ME} {ρ : En} {S S' : S3} {d : D} (h : e ρ S = some (d, S')) : sSet i e ρ S = some (.nx, ρ.set i (some d), S') := by
  unfold sSet
  rw [h]
  rfl
theorem ret_go {e : ME} {ρ : En} {S S' : S3} {d : D} (h : e ρ S = some (d, S')) : sRet e ρ S = some (.rt d, ρ, S') := by
  unfold sRet
  rw [h]
  rfl
theorem if_go {c : MB} {a b : MS} {ρ : En} {S S' : S3} {x : Bool} (h : c ρ S = some (x, S')) : sIf c a b ρ S = if x then a ρ S' else b ρ S' := by
  unfold sIf
  rw [h]
  rfl
theorem val_go {e : ME} {ρ : En} {S S' : S3} {x : Bool} (h : e ρ S = some (.bl x, S')) : bVal e ρ S = some (x, S') := by
  unfold bVal
  rw [h]
  rfl
theorem lc_go {b : Bool} {i : MI} {T : MT} {t : MB} {el : ME} {vs : List Nat} {ρ : En} {S S1 S2 : S3} {src : Src} {l : List D} (hi : i ρ S = some (src, S1)) (hl : lcM src T t el (wipeD ρ vs) src.items [] S1 = some (l, S2)) : eLc b i T t el vs ρ S = newL b l S2 := by
  unfold eLc
  rw [hi]
  simp only [Option.bind_some]
  rw [hl]
  rfl
theorem opn1 {k : List D → M D} {a : ME} {ρ : En} {S S1 : S3} {x : D} (h : a ρ S = some (x, S1)) : opn k (aCons a aNil) ρ S = k [x] S1 := by
  unfold opn aCons aNil
  rw [h]
  rfl
theorem opn2 {k : List D → M D} {a b : ME} {ρ : En} {S S1 S2 : S3} {x y : D} (h : a ρ S = some (x, S1)) (h2 : b ρ S1 = some (y, S2)) : opn k (aCons a (aCons b aNil)) ρ S = k [x, y] S2 := by
  unfold opn aCons aNil
  rw [h]
  simp only [Option.bind_some]
  rw [h2]
  rfl
theorem opn3 {k : List D → M D} {a b c : ME} {ρ : En} {S S1 S2 S3' : S3} {x y z : D} (h : a ρ S = some (x, S1)) (h2 : b ρ S1 = some (y, S2)) (h3 : c ρ S2 = some (z, S3')) : opn k (aCons a (aCons b (aCons c aNil))) ρ S = k [x, y, z] S3' := by
  unfold opn aCons aNil
  rw [h]
  simp only [Option.bind_some]
  rw [h2]
  simp only [Option.bind_some]
  rw [h3]
  rfl
def okC : Ch Str → Prop
  | .set p _ => okP p
  | .drop p => okP p
  | .clear p => okP p
theorem okC_path {c : Ch Str} (h : okC c) : okP c.path := by cases c <;> exact h
def wordOf : Ch Str → Str
  | .set _ _ => "set"
  | .drop _ => "drop"
  | .clear _ => "clear"
theorem cut2 (c : Ch Str) (S : S3) : kSl false (chD c) none (some 2) S = some (.tup [.str (wordOf c), pth c.path], S) := by
  cases c <;> exact (show some (D.tup (G3.cutD _ none (some ((2 : Nat) : Int))), S) = _ by rw [cutD_to]; rfl)
theorem gd_set : gd (.str "set") = true := by decide +kernel
theorem gd_drop : gd (.str "drop") = true := by decide +kernel
theorem gd_clear : gd (.str "clear") = true := by decide +kernel
theorem gd_wordOf (c : Ch Str) : gd (.str (wordOf c)) = true := by
  cases c
  · exact gd_set
  · exact gd_drop
  · exact gd_clear
theorem ne_sc : ¬ ("set" : Str) = "clear" := by decide +kernel
theorem ne_dc : ¬ ("drop" : Str) = "clear" := by decide +kernel
theorem ne_ds : ¬ ("drop" : Str) = "set" := by decide +kernel
theorem ne_cs : ¬ ("clear" : Str) = "set" := by decide +kernel
theorem w_cc (p : Pt) : decide (wordOf (Ch.clear p) = ("clear" : Str)) = true := decide_eq_true rfl
theorem w_cs (p : Pt) : ¬ decide (wordOf (Ch.clear p) = ("set" : Str)) = true := fun z => ne_cs (of_decide_eq_true z)
theorem w_dc (p : Pt) : ¬ decide (wordOf (Ch.drop p) = ("clear" : Str)) = true := fun z => ne_dc (of_decide_eq_true z)
theorem w_ds (p : Pt) : ¬ decide (wordOf (Ch.drop p) = ("set" : Str)) = true := fun z => ne_ds (of_decide_eq_true z)
theorem w_sc (p : Pt) (w : Int) : ¬ decide (wordOf (Ch.set p w) = ("clear" : Str)) = true := fun z => ne_sc (of_decide_eq_true z)
theorem w_ss (p : Pt) (w : Int) : decide (wordOf (Ch.set p w) = ("set" : Str)) = true := decide_eq_true rfl
theorem kEq_word (c : Ch Str) (x : Str) (hx : gd (.str x) = true) (S : S3) : kEq (.str (wordOf c)) (.str x) S = some (.bl (decide (wordOf c = x)), S) := by
  rw [kEq_gd (gd_wordOf c) hx (Nat.zero_le _) (Nat.zero_le _)]
  simp only [D.str.injEq]
section
variable {T : LT} {c : Ch Str} {S : S3}
theorem done_lc1 (oT : okT T) (oc : okC c) (hl : T.length ≤ 1000) {o1 o2 : Option D} : (eLc false (iTupl (eVar 0)) (gN 5) (bVal (op2 (kNe) (op2 kIx (eVar 5) (eC (.int 0))) (eVar 3))) (eVar 5) [5]) [some (.tup (trD T)), some (chD c), o1, some (pth c.path), o2, none] S = some (.lst (trD (T.filter fun k => decide (k.1 ≠ c.path))), S) := by
  refine (lc_go (src := .seq (.tup (trD T)) (trD T)) (S1 := S) (by simp [iTupl, eVar]) (lc_all (f := prD) (g := prD) (t := fun k => decide (k.1 ≠ c.path)) (valid_tup _ _) T [] (by rw [sz, List.length_nil]; omega) fun x hx => ⟨[some (.tup (trD T)), some (chD c), o1, some (pth c.path), o2, some (prD x)], rfl, ?_, fun _ => by simp [eVar]⟩)).trans rfl
  refine val_go ((op2_go (x := pth x.1) (S1 := S) (y := pth c.path) (S2 := S) ?_ (by simp [eVar])).trans ?_)
  · exact (op2_go (x := prD x) (S1 := S) (y := .int 0) (S2 := S) (by simp [eVar]) rfl).trans rfl
  · rw [kNe_pth (oT x hx) (okC_path oc)]
    simp
theorem done_lc2 (oT : okT T) (oc : okC c) (hl : T.length ≤ 1000) {o1 o2 o3 : Option D} : (eLc false (iTupl (eVar 0)) (gN 5) (bVal (op2 (kNe) (eSl (kSl false) (op2 kIx (eVar 5) (eC (.int 0))) oNone (oSome (opn (kLen) (aCons (eVar 3) aNil)))) (eVar 3))) (eVar 5) [5]) [some (.tup (trD T)), some (chD c), o1, some (pth c.path), o2, o3] S = some (.lst (trD (T.filter fun k => decide (¬ c.path <+: k.1))), S) := by
  refine (lc_go (src := .seq (.tup (trD T)) (trD T)) (S1 := S) (by simp [iTupl, eVar]) (lc_all (f := prD) (g := prD) (t := fun k => decide (¬ c.path <+: k.1)) (valid_tup _ _) T [] (by rw [sz, List.length_nil]; omega) fun x hx => ⟨[some (.tup (trD T)), some (chD c), o1, some (pth c.path), o2, some (prD x)], rfl, ?_, fun _ => by simp [eVar]⟩)).trans rfl
  refine val_go ((op2_go (x := pth (x.1.take c.path.length)) (S1 := S) (y := pth c.path) (S2 := S) ?_ (by simp [eVar])).trans ?_)
  · have e1 : op2 kIx (eVar 5) (eC (.int 0)) [some (.tup (trD T)), some (chD c), o1, some (pth c.path), o2, some (prD x)] S = some (pth x.1, S) := (op2_go (x := prD x) (S1 := S) (y := .int 0) (S2 := S) (by simp [eVar]) rfl).trans rfl
    unfold eSl
    rw [e1]
    simp [oNone, oSome, opn, aCons, aNil, eVar, kLen_pth, kSl_pth]
  · rw [kNe_pth (okP_take (oT x hx) _) (okC_path oc)]
    simp only [take_pre, decide_not]
theorem run_done (oT : okT T) (oc : okC c) (hl : T.length ≤ 1000) : f__law_done [.tup (trD T), chD c] S = some (.tup (trD (lstep T c)), S) := by
  have a1 : (sAsg (gT [2, 3]) (eSl (kSl false) (eVar 1) oNone (oSome (eC (.int 2))))) [some (.tup (trD T)), some (chD c), none, none, none, none] S = some (.nx, [some (.tup (trD T)), some (chD c), some (.str (wordOf c)), some (pth c.path), none, none], S) := by
    simp [sAsg, eSl, eVar, oNone, oSome, eC, cut2, gT, setAll]
  have a2 := set_go (i := 4) (done_lc1 (S := S) oT oc hl (o1 := some (.str (wordOf c))) (o2 := none))
  have kc : (bVal (op2 (kEq) (eVar 2) (eC (.str "clear")))) [some (.tup (trD T)), some (chD c), some (.str (wordOf c)), some (pth c.path), some (.lst (trD (T.filter fun k => decide (k.1 ≠ c.path)))), none] S = some (decide (wordOf c = "clear"), S) := by
    refine val_go ((op2_go (x := .str (wordOf c)) (S1 := S) (by simp [eVar]) rfl).trans (kEq_word c "clear" gd_clear S))
  have kl : (T.filter fun k => decide (k.1 ≠ c.path)).length ≤ T.length := List.length_filter_le _ _
  refine fnM_rt (ρ := [some (.tup (trD T)), some (chD c), none, none, none, none]) rfl rfl ?_ (ρ' := [some (.tup (trD T)), some (chD c), some (.str (wordOf c)), some (pth c.path), some (.lst (trD (T.filter fun k => if wordOf c = "clear" then decide (¬ c.path <+: k.1) else decide (k.1 ≠ c.path)))), none])
  unfold b__law_done
  rw [seq_nx a1, seq_nx a2]
  simp only [List.set_cons_succ, List.set_cons_zero]
  have kS : ∀ L : List D, (bVal (op2 (kEq) (eVar 2) (eC (.str "set")))) [some (.tup (trD T)), some (chD c), some (.str (wordOf c)), some (pth c.path), some (.lst L), none] S = some (decide (wordOf c = "set"), S) := fun L =>
    val_go ((op2_go (x := .str (wordOf c)) (S1 := S) (by simp [eVar]) rfl).trans (kEq_word c "set" gd_set S))
  cases c with
  | clear p =>
    have a3 := set_go (i := 4) (done_lc2 (S := S) oT oc hl (o1 := some (.str (wordOf (.clear p)))) (o2 := some (.lst (trD (T.filter fun k => decide (k.1 ≠ (Ch.clear p).path))))) (o3 := none))
    rw [seq_nx (S1 := S) (ρ1 := [some (.tup (trD T)), some (chD (.clear p)), some (.str (wordOf (.clear p))), some (pth (Ch.clear p).path), some (.lst (trD (T.filter fun k => decide (¬ (Ch.clear p).path <+: k.1)))), none]) ((if_go kc).trans (by rw [if_pos (w_cc p)]; exact a3))]
    refine (ret_go (d := .tup (trD (lstep T (.clear p)))) (S' := S) ?_).trans ?_
    · unfold eIf
      rw [kS]
      simp only [Option.bind_some]
      rw [if_neg (w_cs p)]
      simp only [opn, aCons, aNil, eVar, List.getElem?_cons_succ, List.getElem?_cons_zero, Option.bind_some, kTuple, seqOf, G3.listOf]
      rfl
    · have : (wordOf (.clear p) = "clear") := rfl
      simp only [this, if_true]
  | drop p =>
    rw [seq_nx (S1 := S) (ρ1 := [some (.tup (trD T)), some (chD (.drop p)), some (.str (wordOf (.drop p))), some (pth (Ch.drop p).path), some (.lst (trD (T.filter fun k => decide (k.1 ≠ (Ch.drop p).path)))), none]) ((if_go kc).trans (by rw [if_neg (w_dc p)]; rfl))]
    refine (ret_go (d := .tup (trD (lstep T (.drop p)))) (S' := S) ?_).trans ?_
    · unfold eIf
      rw [kS]
      simp only [Option.bind_some]
      rw [if_neg (w_ds p)]
      simp only [opn, aCons, aNil, eVar, List.getElem?_cons_succ, List.getElem?_cons_zero, Option.bind_some, kTuple, seqOf, G3.listOf]
      rfl
    · have : ¬ (wordOf (.drop p) = "clear") := ne_dc
      simp only [this, if_false]
  | set p w =>
    rw [seq_nx (S1 := S) (ρ1 := [some (.tup (trD T)), some (chD (.set p w)), some (.str (wordOf (.set p w))), some (pth (Ch.set p w).path), some (.lst (trD (T.filter fun k => decide (k.1 ≠ (Ch.set p w).path)))), none]) ((if_go kc).trans (by rw [if_neg (w_sc p w)]; rfl))]
    refine (ret_go (d := .tup (trD (lstep T (.set p w)))) (S' := S) ?_).trans ?_
    · unfold eIf
      rw [kS]
      simp only [Option.bind_some]
      rw [if_pos (w_ss p w)]
      have kl' : (T.filter fun k => decide (k.1 ≠ p)).length ≤ T.length := List.length_filter_le _ _
      have hs := okSort_tr (T.filter (fun k => decide (k.1 ≠ p)) ++ [(p, w)]) (by rw [List.length_append, List.length_singleton]; omega)
      have hx : kIx (chD (.set p w)) (.int 2) S = some (.int w, S) := rfl
      have ha : kAdd false (.lst (trD (T.filter fun k => decide (k.1 ≠ p)))) (.lst [prD (p, w)]) S = some (.lst (trD (T.filter (fun k => decide (k.1 ≠ p)) ++ [(p, w)])), S) := by
        unfold kAdd
        simp only [lstOf, newL]
        rw [if_pos (by rw [trD, List.length_map, List.length_singleton, sz]; omega)]
        simp [trD]
      have hk : kSorted false [.lst (trD (T.filter (fun k => decide (k.1 ≠ p)) ++ [(p, w)]))] S = some (.lst (trD (lstep T (.set p w))), S) := by
        unfold kSorted sortSrc
        simp only [G3.listOf, hs, if_true, newL]
        rw [sortL_tr]
        rfl
      have e2 : (opn (kLst false) (aCons (opn G3.kTup (aCons (eVar 3) (aCons (op2 kIx (eVar 1) (eC (.int 2))) aNil))) aNil)) [some (.tup (trD T)), some (chD (.set p w)), some (.str (wordOf (.set p w))), some (pth (Ch.set p w).path), some (.lst (trD (T.filter fun k => decide (k.1 ≠ (Ch.set p w).path)))), none] S = some (.lst [prD (p, w)], S) := by
        simp [opn, aCons, aNil, eVar, op2, eC, hx, G3.kTup, sz, kLst, newL, prD, Ch.path]
      have e3 := op2_go (k := kAdd false) (f := eVar 4) (x := .lst (trD (T.filter fun k => decide (k.1 ≠ p)))) (S1 := S) (show eVar 4 [some (.tup (trD T)), some (chD (.set p w)), some (.str (wordOf (.set p w))), some (pth (Ch.set p w).path), some (.lst (trD (T.filter fun k => decide (k.1 ≠ (Ch.set p w).path)))), none] S = _ from rfl) e2
      rw [ha] at e3
      exact (opn1 ((opn1 e3).trans hk)).trans rfl
    · have : ¬ (wordOf (.set p w) = "clear") := ne_sc
      simp only [this, if_false]
end
end K8
set_option maxHeartbeats 1600000
/-! k08: the search by levels comes to the least number, in plain lists. -/
namespace K8
open PySem PySem.Spec PySem.W PyProof.Rows L2 G3 Lst
/-- all beginnings of a tree's paths -/
def PL (b : LT) : List Pt := b.flatMap fun x => (List.range (x.1.length + 1)).map fun k => x.1.take k
def CL (b a : LT) : List (Ch Str) := a.map (fun x => .set x.1 x.2) ++ (sortP (nub (PL b))).flatMap fun p => [.drop p, .clear p]
theorem mem_PL {b : LT} {p : Pt} : p ∈ PL b ↔ ∃ x, x ∈ b ∧ p <+: x.1 := by
  unfold PL
  simp only [List.mem_flatMap, List.mem_map, List.mem_range]
  constructor
  · rintro ⟨x, hx, k, _, rfl⟩
    exact ⟨x, hx, List.take_prefix _ _⟩
  · rintro ⟨x, hx, hp⟩
    exact ⟨x, hx, p.length, Nat.lt_succ_of_le hp.length_le, (List.prefix_iff_eq_take.mp hp).symm⟩
theorem mem_CL {b a : LT} {c : Ch Str} : c ∈ CL b a ↔ (∃ x, x ∈ a ∧ c = .set x.1 x.2) ∨ ∃ p, p ∈ PL b ∧ (c = .drop p ∨ c = .clear p) := by
  unfold CL
  simp only [List.mem_append, List.mem_map, List.mem_flatMap, mem_sortP, mem_nub]
  constructor
  · rintro (⟨x, hx, rfl⟩ | ⟨p, hp, h⟩)
    · exact .inl ⟨x, hx, rfl⟩
    · refine .inr ⟨p, hp, ?_⟩
      simpa using h
  · rintro (⟨x, hx, rfl⟩ | ⟨p, hp, h⟩)
    · exact .inl ⟨x, hx, rfl⟩
    · exact .inr ⟨p, hp, by simpa using h⟩
theorem okC_CL {b a : LT} (ob : okT b) (oa : okT a) {c : Ch Str} (h : c ∈ CL b a) : okC c := by
  rcases mem_CL.mp h with ⟨x, hx, rfl⟩ | ⟨p, hp, e⟩
  · exact oa x hx
  · obtain ⟨x, hx, hpx⟩ := mem_PL.mp hp
    have : okP p := by rw [List.prefix_iff_eq_take.mp hpx]; exact okP_take (ob x hx) _
    rcases e with rfl | rfl <;> exact this
/-- trees of the keys of both -/
structure InU (b a t : LT) : Prop where
  ris : Ris t
  sub : ∀ x, x ∈ t → x ∈ b ∨ x ∈ a
theorem inU_step {b a t : LT} (h : InU b a t) {c : Ch Str} (hc : c ∈ CL b a) : InU b a (lstep t c) := by
  refine ⟨lstep_ris h.ris c, fun x hx => ?_⟩
  cases c with
  | drop p => exact h.sub x (List.mem_filter.mp hx).1
  | clear p => exact h.sub x (List.mem_filter.mp hx).1
  | set p w =>
    have hx' : x ∈ sortT (t.filter (fun k => decide (k.1 ≠ p)) ++ [(p, w)]) := hx
    rw [mem_sort, List.mem_append] at hx'
    rcases hx' with hx | hx
    · exact h.sub x (List.mem_filter.mp hx).1
    · have hx : x = (p, w) := by simpa using hx
      subst hx
      rcases mem_CL.mp hc with ⟨y, hy, e⟩ | ⟨q, _, e | e⟩
      · cases e; exact .inr hy
      · cases e
      · cases e
theorem inU_len {b a : LT} (hb : Ris b) (ha : Ris a) {m : List LT} (hm : m.Nodup) (h : ∀ t, t ∈ m → InU b a t) : m.length ≤ 2 ^ (b.length + a.length) := by
  have hU : (b ++ a.filter fun x => decide (x ∉ b)).Nodup := by
    refine List.nodup_append.mpr ⟨hb.nodup, List.Pairwise.filter _ ha.nodup, fun x hx y hy e => ?_⟩
    have := (List.mem_filter.mp hy).2
    rw [← e] at this
    simp only [decide_eq_true_eq] at this
    exact this hx
  have := many_le hU hm fun t ht => ⟨(h t ht).ris, fun x hx => by
    rcases Classical.em (x ∈ b) with q | q
    · exact List.mem_append_left _ q
    · rcases (h t ht).sub x hx with r | r
      · exact absurd r q
      · exact List.mem_append_right _ (List.mem_filter.mpr ⟨r, by simpa using q⟩)⟩
  refine Nat.le_trans this (Nat.pow_le_pow_right (by omega) ?_)
  rw [List.length_append]
  have := List.length_filter_le (fun x => decide (x ∉ b)) a
  omega
theorem inU_okT {b a t : LT} (ob : okT b) (oa : okT a) (h : InU b a t) : okT t := fun x hx => (h.sub x hx).elim (ob x) (oa x)
theorem nodup_sub_len {α : Type} [DecidableEq α] {l m : List α} (h : l.Nodup) (s : ∀ x, x ∈ l → x ∈ m) : l.length ≤ m.length := nodup_le h s
theorem inU_small {b a t : LT} (h : InU b a t) : t.length ≤ b.length + a.length := by
  rw [← List.length_append]
  exact nodup_le h.ris.nodup fun x hx => List.mem_append.mpr (h.sub x hx)
/-- the partial level -/
structure Part (b a : LT) (m0 : List LT) (st : Lv) : Prop where
  nd : st.1.Nodup
  inU : ∀ t, t ∈ st.1 → InU b a t
  ap : st.1 = m0 ++ st.2
theorem part_meet {b a : LT} {m0 : List LT} {st : Lv} (h : Part b a m0 st) {one : LT} (ho : InU b a one) : Part b a m0 (meet st one) := by
  unfold meet
  split
  · exact h
  · rename_i hy
    refine ⟨List.nodup_append.mpr ⟨h.nd, List.pairwise_singleton _ _, fun x hx y hy' e => hy ?_⟩, fun t ht => ?_, by show st.1 ++ [one] = m0 ++ (st.2 ++ [one]); rw [h.ap, List.append_assoc]⟩
    · have : y = one := by simpa using hy'
      rw [← this, ← e]; exact hx
    · rcases List.mem_append.mp ht with q | q
      · exact h.inU t q
      · have : t = one := by simpa using q
        rw [this]; exact ho
theorem part_all {b a : LT} {m0 : List LT} : ∀ {l : List LT} {st : Lv}, Part b a m0 st → (∀ t, t ∈ l → InU b a t) → Part b a m0 (l.foldl meet st)
  | [], _, h, _ => h
  | x :: l, _, h, hl => part_all (l := l) (part_meet h (hl x List.mem_cons_self)) fun t ht => hl t (List.mem_cons_of_mem _ ht)

section
variable {b a : LT} (hb : Tree b) (ha : Tree a)
abbrev best7 : List (Ch Str) := bestL (knOf hb.ris ha.ris) 7 []
theorem best7_run : run (tf b) (best7 hb ha) = tf a := best_all _ 7 fun x h => by
  rcases h with h | h
  · have := tree_len hb h; omega
  · have := tree_len ha h; omega
theorem best7_lrun : lrun b (best7 hb ha) = a := by
  have o := lrun_of (s := best7 hb ha) (of_tf hb.ris)
  rw [best7_run] at o
  exact of_eq (lrun_ris hb.ris) ha.ris o (of_tf ha.ris)
theorem best7_mem : ∀ c, c ∈ best7 hb ha → c ∈ CL b a := fun c hc => by
  rcases best_mem _ _ _ _ hc with ⟨w, e, h⟩ | ⟨e, h⟩ | ⟨e, x, hx, h⟩
  · exact mem_CL.mpr (.inl ⟨(c.path, w), (of_tf ha.ris _ _).mpr h, e⟩)
  · obtain ⟨v, hv⟩ := (tf_some hb.ris).mp h
    exact mem_CL.mpr (.inr ⟨c.path, mem_PL.mpr ⟨_, hv, List.prefix_refl _⟩, .inl e⟩)
  · obtain ⟨v, hv⟩ := (tf_some hb.ris).mp h
    exact mem_CL.mpr (.inr ⟨c.path, mem_PL.mpr ⟨_, hv, hx⟩, .inr e⟩)
theorem best7_least {s : List (Ch Str)} (h : lrun b s = a) : (best7 hb ha).length ≤ s.length := by
  refine lower_all _ 7 s ?_
  have o := lrun_of (s := s) (of_tf hb.ris)
  rw [h] at o
  exact (of_fun (of_tf ha.ris) o).symm
theorem best7_le : (best7 hb ha).length ≤ b.length + a.length := by
  have := lower_all (knOf hb.ris ha.ris) 7 (plainRow b a) (by funext x; exact plain_run hb.ris ha.ris x)
  rw [plain_len] at this
  exact this
theorem met_iff {k : Nat} {st : Lv} (m : Met (CL b a) b k st) : a ∈ st.1 ↔ (best7 hb ha).length ≤ k := by
  constructor
  · intro h
    obtain ⟨s, _, hl, hr⟩ := m.to a h
    exact Nat.le_trans (best7_least hb ha hr) hl
  · intro h
    have := m.of (best7 hb ha) (best7_mem hb ha) h
    rwa [best7_lrun] at this
end
end K8
set_option maxHeartbeats 1600000
/-! k08: what _law_fewest gives. -/
namespace K8
open PySem PySem.Spec PySem.W PyProof.Rows L2 G3 Lst
def tD (T : LT) : D := .tup (trD T)
theorem tD_inj {T U : LT} (h : tD T = tD U) : T = U := trD_inj (D.tup.inj h)
/-! a tree may be a key -/
theorem nks_str : ∀ p : Pt, nksOf (p.map D.str) = some (p.map NestedKey.text)
  | [] => rfl
  | x :: p => by
    rw [List.map_cons, nksOf, nks_str p]
    rfl
def nkP (x : Pt × Int) : NestedKey := .tup [.tup (x.1.map .text), .num x.2]
theorem nk_prD (x : Pt × Int) : nkOf (prD x) = some (nkP x) := by
  unfold prD nkP pth
  simp only [nkOf, nksOf, nks_str, Option.map_some, Option.bind_some]
theorem nks_tr : ∀ T : LT, nksOf (trD T) = some (T.map nkP)
  | [] => rfl
  | x :: T => by
    have ih := nks_tr T
    unfold trD at ih ⊢
    rw [List.map_cons, nksOf, nk_prD, ih]
    rfl
theorem dep_text : ∀ p : Pt, NestedKey.depthAll (p.map NestedKey.text) = 0
  | [] => rfl
  | x :: p => by rw [List.map_cons, NestedKey.depthAll, dep_text p]; rfl
theorem dep_nkP : ∀ T : LT, NestedKey.depthAll (T.map nkP) ≤ 2
  | [] => Nat.zero_le _
  | x :: T => by
    have ih := dep_nkP T
    rw [List.map_cons, NestedKey.depthAll]
    have : (nkP x).depth = 2 := by
      unfold nkP
      simp [NestedKey.depth, NestedKey.depthAll, dep_text]
    omega
theorem okKey_tr (T : LT) : okKey (tD T) = true := by
  unfold okKey tD
  simp only [nkOf, nks_tr, Option.map_some]
  have := dep_nkP T
  exact decide_eq_true (show NestedKey.depthAll (T.map nkP) + 1 ≤ 8 by omega)
theorem mem_tD {T : LT} {m : List LT} : tD T ∈ m.map tD ↔ T ∈ m := by
  rw [List.mem_map]
  exact ⟨fun ⟨U, h, e⟩ => by rw [← tD_inj e]; exact h, fun h => ⟨T, h, rfl⟩⟩
/-! the loops -/
structure LvAt (S0 : S3) (m l : Nat) (st : Lv) (S : S3) : Prop where
  nx : S.next = S0.next
  hm : S.ob m = some (.nst (st.1.map tD))
  hl : S.ob l = some (.lst (st.2.map tD))
  oth : ∀ n, n ≠ m → n ≠ l → S.ob n = S0.ob n
def inF : MS := (sSeq (sSet 12 (opn f__law_done (aCons (eVar 10) (aCons (eVar 11) aNil))))
  (sIf (bVal (op2 (kNotInN) (eVar 12) (eVar 2))) (sSeq (sSub kSetN (eVar 2) (eVar 12) (eC (.bl true)))
  (sExp (eBm "list" kAppend (eVar 9) (aCons (eVar 12) aNil)))) sSkip))
theorem run_inF {S0 S : S3} {m l : Nat} {st : Lv} (h : LvAt S0 m l st S) (ne : m ≠ l) {t : LT} {c : Ch Str} (ot : okT t) (oc : okC c) (lt : t.length ≤ 1000) (l1 : st.1.length < 10000) (l2 : st.2.length < 10000) {x0 x1 x3 x4 x5 x6 x7 x8 x12 x13 : Option D} :
    ∃ S', inF [x0, x1, some (.ref m), x3, x4, x5, x6, x7, x8, some (.ref l), some (tD t), some (chD c), x12, x13] S = some (.nx, [x0, x1, some (.ref m), x3, x4, x5, x6, x7, x8, some (.ref l), some (tD t), some (chD c), some (tD (lstep t c)), x13], S') ∧ LvAt S0 m l (meet st (lstep t c)) S' := by
  have hd : opn f__law_done (aCons (eVar 10) (aCons (eVar 11) aNil)) [x0, x1, some (.ref m), x3, x4, x5, x6, x7, x8, some (.ref l), some (tD t), some (chD c), x12, x13] S = some (tD (lstep t c), S) := (opn2 (k := f__law_done) (a := eVar 10) (b := eVar 11) (ρ := [x0, x1, some (.ref m), x3, x4, x5, x6, x7, x8, some (.ref l), some (tD t), some (chD c), x12, x13]) (S := S) (x := tD t) (S1 := S) (y := chD c) (S2 := S) rfl rfl).trans (run_done ot oc lt)
  have kn : kNotInN (tD (lstep t c)) (.ref m) S = some (.bl (!decide (lstep t c ∈ st.1)), S) := by
    unfold kNotInN
    simp only [h.hm, okKey_tr, if_true, mem_tD]
  unfold inF
  rw [seq_nx (set_go (i := 12) hd)]
  simp only [List.set_cons_succ, List.set_cons_zero]
  rw [if_go (x := !decide (lstep t c ∈ st.1)) (S' := S) (val_go ((op2_go (x := tD (lstep t c)) (S1 := S) (y := .ref m) (S2 := S) rfl rfl).trans kn))]
  by_cases hin : lstep t c ∈ st.1
  · refine ⟨S, ?_, by unfold meet; rw [if_pos hin]; exact h⟩
    simp only [hin, decide_true, Bool.not_true, Bool.false_eq_true, if_false, sSkip]
  · have hs : kSetN (.ref m) (tD (lstep t c)) (.bl true) S = some (S.set m (.nst ((st.1 ++ [lstep t c]).map tD))) := by
      unfold kSetN
      simp only [h.hm]
      rw [if_pos ⟨okKey_tr _, fun z => hin (mem_tD.mp z), by rw [List.length_map, sz]; omega⟩]
      simp
    have e1 : (sSub kSetN (eVar 2) (eVar 12) (eC (.bl true))) [x0, x1, some (.ref m), x3, x4, x5, x6, x7, x8, some (.ref l), some (tD t), some (chD c), some (tD (lstep t c)), x13] S = some (.nx, [x0, x1, some (.ref m), x3, x4, x5, x6, x7, x8, some (.ref l), some (tD t), some (chD c), some (tD (lstep t c)), x13], S.set m (.nst ((st.1 ++ [lstep t c]).map tD))) := by
      simp only [sSub, eVar, eC, List.getElem?_cons_succ, List.getElem?_cons_zero, Option.bind_some, hs]
    have hl' : (S.set m (.nst ((st.1 ++ [lstep t c]).map tD))).ob l = some (.lst (st.2.map tD)) := by rw [set_ne ne.symm]; exact h.hl
    have ha : kAppend (.ref l) [tD (lstep t c)] (S.set m (.nst ((st.1 ++ [lstep t c]).map tD))) = some (.non, (S.set m (.nst ((st.1 ++ [lstep t c]).map tD))).set l (.lst ((st.2 ++ [lstep t c]).map tD))) := by
      unfold kAppend
      simp only [hl']
      rw [if_pos (by rw [List.length_map, sz]; omega)]
      simp
    have hty : isTy "list" (.ref l) (S.set m (.nst ((st.1 ++ [lstep t c]).map tD))) = true := by
      unfold isTy
      simp only [hl']
      rfl
    refine ⟨(S.set m (.nst ((st.1 ++ [lstep t c]).map tD))).set l (.lst ((st.2 ++ [lstep t c]).map tD)), ?_, ?_⟩
    · simp only [hin, decide_false, Bool.not_false, if_true]
      rw [seq_nx e1]
      simp only [sExp, eBm, eVar, aCons, aNil, List.getElem?_cons_succ, List.getElem?_cons_zero, Option.bind_some, hty, if_true, ha]
    · unfold meet
      rw [if_neg hin]
      exact ⟨h.nx, by rw [set_ne ne]; exact set_self, set_self, fun n h1 h2 => by rw [set_ne h2, set_ne h1]; exact h.oth n h1 h2⟩
/-- the walk over the changes, over the row -/
def foldC (C : List (Ch Str)) (t : LT) (dn : List (Ch Str)) (st : Lv) : Lv := (dn.map fun c => lstep t c).foldl meet st
theorem foldC_snoc (C : List (Ch Str)) (t : LT) (dn : List (Ch Str)) (c : Ch Str) (st : Lv) : foldC C t (dn ++ [c]) st = meet (foldC C t dn st) (lstep t c) := by
  unfold foldC
  rw [List.map_append, List.foldl_append]
  rfl
def foldR (C : List (Ch Str)) (dn : List LT) (st : Lv) : Lv := (dn.flatMap fun t => C.map fun c => lstep t c).foldl meet st
theorem foldR_snoc (C : List (Ch Str)) (dn : List LT) (t : LT) (st : Lv) : foldR C (dn ++ [t]) st = foldC C t C (foldR C dn st) := by
  unfold foldR foldC
  rw [List.flatMap_append, List.foldl_append]
  simp
section
variable {b a : LT} (hb : Tree b) (ha : Tree a) (lb : b.length ≤ 4) (la : a.length ≤ 4)
include hb ha lb la
theorem part_small {m0 : List LT} {st : Lv} (h : Part b a m0 st) : st.1.length < 10000 ∧ st.2.length < 10000 := by
  have h1 := inU_len hb.ris ha.ris h.nd h.inU
  have h2 : 2 ^ (b.length + a.length) ≤ 2 ^ 8 := Nat.pow_le_pow_right (by omega) (by omega)
  have h3 := congrArg List.length h.ap
  rw [List.length_append] at h3
  have : (2 : Nat) ^ 8 = 256 := by decide
  omega
theorem run_walkC {S0 S : S3} {m l : Nat} {st : Lv} {m0 : List LT} (h : LvAt S0 m l st S) (hp : Part b a m0 st) (ne : m ≠ l) {t : LT} (ht : InU b a t) {x0 x1 x3 x4 x6 x7 x8 x11 x12 x13 : Option D} :
    ∃ x11' x12' S', (sFor (iSeq (eVar 5)) (gN 11) inF) [x0, x1, some (.ref m), x3, x4, some (.lst ((CL b a).map chD)), x6, x7, x8, some (.ref l), some (tD t), x11, x12, x13] S = some (.nx, [x0, x1, some (.ref m), x3, x4, some (.lst ((CL b a).map chD)), x6, x7, x8, some (.ref l), some (tD t), x11', x12', x13], S') ∧
      LvAt S0 m l (foldC (CL b a) t (CL b a) st) S' ∧ Part b a m0 (foldC (CL b a) t (CL b a) st) := by
  obtain ⟨ρ', S', e, x11', x12', rfl, h1, h2⟩ := loop_all (f := chD) (src := .seq (.lst ((CL b a).map chD)) ((CL b a).map chD)) (body := fun d ρ S => (gN 11 d ρ).bind fun ρ' => inF ρ' S)
    (fun dn ρ S => ∃ x11 x12, ρ = [x0, x1, some (.ref m), x3, x4, some (.lst ((CL b a).map chD)), x6, x7, x8, some (.ref l), some (tD t), x11, x12, x13] ∧ LvAt S0 m l (foldC (CL b a) t dn st) S ∧ Part b a m0 (foldC (CL b a) t dn st)) (CL b a)
    (ρ := [x0, x1, some (.ref m), x3, x4, some (.lst ((CL b a).map chD)), x6, x7, x8, some (.ref l), some (tD t), x11, x12, x13]) (S := S) ⟨x11, x12, rfl, h, hp⟩ (by
      rintro dn c post ρ S1 hc ⟨y11, y12, rfl, g1, g2⟩
      have hm : c ∈ CL b a := by rw [hc]; exact List.mem_append_right _ List.mem_cons_self
      obtain ⟨k1, k2⟩ := part_small hb ha lb la g2
      obtain ⟨S2, e2, g3⟩ := run_inF g1 ne (t := t) (c := c) (inU_okT hb.okT ha.okT ht) (okC_CL hb.okT ha.okT hm) (by have := inU_small ht; omega) k1 k2 (x0 := x0) (x1 := x1) (x3 := x3) (x4 := x4) (x5 := some (.lst ((CL b a).map chD))) (x6 := x6) (x7 := x7) (x8 := x8) (x12 := y12) (x13 := x13)
      refine ⟨valid_lst _ _, _, S2, e2, _, _, rfl, ?_, ?_⟩
      · rw [foldC_snoc]; exact g3
      · rw [foldC_snoc]; exact part_meet g2 (inU_step ht hm)) (fun ρ S _ => valid_lst _ _)
  refine ⟨x11', x12', S', ?_, h1, h2⟩
  unfold sFor iSeq
  simp only [eVar, List.getElem?_cons_succ, List.getElem?_cons_zero, Option.bind_some, G3.listOf, Src.items]
  exact e
theorem run_walkR {S0 S : S3} {m l : Nat} {row : List LT} {rowD : D} {m0 : List LT} (h : LvAt S0 m l (m0, []) S) (hp : Part b a m0 (m0, [])) (ne : m ≠ l) (hr : ∀ t, t ∈ row → InU b a t) (hv : ∀ st S, LvAt S0 m l st S → G3.listOf S rowD = some (row.map tD)) (hq : ∀ l, rowD ≠ .tup l) {x0 x1 x3 x6 x7 x8 x10 x11 x12 x13 : Option D} :
    ∃ x10' x11' x12' S', (sFor (iSeq (eVar 4)) (gN 10) (sFor (iSeq (eVar 5)) (gN 11) inF)) [x0, x1, some (.ref m), x3, some rowD, some (.lst ((CL b a).map chD)), x6, x7, x8, some (.ref l), x10, x11, x12, x13] S = some (.nx, [x0, x1, some (.ref m), x3, some rowD, some (.lst ((CL b a).map chD)), x6, x7, x8, some (.ref l), x10', x11', x12', x13], S') ∧
      LvAt S0 m l (foldR (CL b a) row (m0, [])) S' ∧ Part b a m0 (foldR (CL b a) row (m0, [])) := by
  have vd : ∀ st S, LvAt S0 m l st S → (Src.seq rowD (row.map tD)).valid S = true := fun st S g => by
    have e := hv st S g
    unfold Src.valid
    rw [decide_eq_true_eq]
    cases rowD with
    | tup l => exact absurd rfl (hq l)
    | _ => exact e
  obtain ⟨ρ', S', e, x10', x11', x12', rfl, h1, h2⟩ := loop_all (f := tD) (src := .seq rowD (row.map tD)) (body := fun d ρ S => (gN 10 d ρ).bind fun ρ' => (sFor (iSeq (eVar 5)) (gN 11) inF) ρ' S)
    (fun dn ρ S => ∃ x10 x11 x12, ρ = [x0, x1, some (.ref m), x3, some rowD, some (.lst ((CL b a).map chD)), x6, x7, x8, some (.ref l), x10, x11, x12, x13] ∧ LvAt S0 m l (foldR (CL b a) dn (m0, [])) S ∧ Part b a m0 (foldR (CL b a) dn (m0, []))) row
    (ρ := [x0, x1, some (.ref m), x3, some rowD, some (.lst ((CL b a).map chD)), x6, x7, x8, some (.ref l), x10, x11, x12, x13]) (S := S) ⟨x10, x11, x12, rfl, h, hp⟩ (by
      rintro dn t post ρ S1 hc ⟨y10, y11, y12, rfl, g1, g2⟩
      have hm : t ∈ row := by rw [hc]; exact List.mem_append_right _ List.mem_cons_self
      obtain ⟨z11, z12, S2, e2, g3, g4⟩ := run_walkC hb ha lb la g1 g2 ne (hr t hm) (x0 := x0) (x1 := x1) (x3 := x3) (x4 := some rowD) (x6 := x6) (x7 := x7) (x8 := x8) (x11 := y11) (x12 := y12) (x13 := x13)
      refine ⟨vd _ _ g1, _, S2, e2, _, _, _, rfl, ?_, ?_⟩
      · rw [foldR_snoc]; exact g3
      · rw [foldR_snoc]; exact g4) (fun ρ S ⟨_, _, _, _, g1, _⟩ => vd _ _ g1)
  refine ⟨x10', x11', x12', S', ?_, h1, h2⟩
  generalize (sFor (iSeq (eVar 5)) (gN 11) inF) = B at e ⊢
  unfold sFor iSeq
  simp only [eVar, List.getElem?_cons_succ, List.getElem?_cons_zero, Option.bind_some, hv _ _ h, Src.items]
  exact e
end
end K8
set_option maxHeartbeats 1600000
/-! k08: what _law_fewest gives, the whole. -/
namespace K8
open PySem PySem.Spec PySem.W PyProof.Rows L2 G3 Lst
def wB : MS := (sSeq (sSet 9 (opn (kLst true) aNil))
  (sSeq (sFor (iSeq (eVar 4)) (gN 10) (sFor (iSeq (eVar 5)) (gN 11) inF))
  (sPar 4 3 (aCons (eVar 9) (aCons (op2 (kAdd false) (eVar 3) (eC (.int 1))) aNil)))))
def rowOk (rowD : D) (row : List LT) (m : Nat) (S : S3) : Prop := rowD = .lst (row.map tD) ∨ ∃ r, rowD = .ref r ∧ S.ob r = some (.lst (row.map tD)) ∧ r < S.next ∧ r ≠ m
section
variable {b a : LT} (hb : Tree b) (ha : Tree a) (lb : b.length ≤ 4) (la : a.length ≤ 4)
include hb ha lb la
theorem run_wB {k : Nat} {met row : List LT} {m : Nat} {rowD : D} {S : S3} (hM : Met (CL b a) b k (met, row)) (hU : ∀ t, t ∈ met → InU b a t) (hm : S.ob m = some (.nst (met.map tD))) (lm : m < S.next) (hr : rowOk rowD row m S) {x0 x1 x6 x7 x8 x9 x10 x11 x12 x13 : Option D} :
    ∃ x9' x10' x11' x12' S', wB [x0, x1, some (.ref m), some (.int (k : Int)), some rowD, some (.lst ((CL b a).map chD)), x6, x7, x8, x9, x10, x11, x12, x13] S = some (.nx, [x0, x1, some (.ref m), some (.int ((k + 1 : Nat) : Int)), some (.ref S.next), some (.lst ((CL b a).map chD)), x6, x7, x8, x9', x10', x11', x12', x13], S') ∧
      Met (CL b a) b (k + 1) (level (CL b a) (met, row)) ∧ (∀ t, t ∈ (level (CL b a) (met, row)).1 → InU b a t) ∧ S'.ob m = some (.nst ((level (CL b a) (met, row)).1.map tD)) ∧ S'.next = S.next + 1 ∧ S'.ob S.next = some (.lst ((level (CL b a) (met, row)).2.map tD)) ∧ ∀ n, n ≠ m → n ≠ S.next → S'.ob n = S.ob n := by
  have ne : m ≠ S.next := Nat.ne_of_lt lm
  have h0 : LvAt (S.new (.lst [])) m S.next (met, []) (S.new (.lst [])) := ⟨rfl, by rw [new_ne ne]; exact hm, new_self, fun _ _ _ => rfl⟩
  have hp : Part b a met (met, []) := ⟨hM.nd, hU, by rw [List.append_nil]⟩
  have hv : ∀ st S', LvAt (S.new (.lst [])) m S.next st S' → G3.listOf S' rowD = some (row.map tD) := fun st S' g => by
    rcases hr with rfl | ⟨r, rfl, h1, h2, h3⟩
    · rfl
    · have e : S'.ob r = some (.lst (row.map tD)) := by rw [g.oth r h3 (Nat.ne_of_lt h2), new_ne (Nat.ne_of_lt h2)]; exact h1
      unfold G3.listOf
      simp only [e]
  have hq : ∀ l, rowD ≠ .tup l := fun l e => by
    rcases hr with rfl | ⟨r, rfl, _⟩ <;> cases e
  obtain ⟨x10', x11', x12', S', e, g1, g2⟩ := run_walkR hb ha lb la h0 hp ne (fun t ht => hU t (hM.sub t ht)) hv hq (x0 := x0) (x1 := x1) (x3 := some (.int (k : Int))) (x6 := x6) (x7 := x7) (x8 := x8) (x10 := x10) (x11 := x11) (x12 := x12) (x13 := x13)
  have hlev : foldR (CL b a) row (met, []) = level (CL b a) (met, row) := rfl
  rw [hlev] at g1 g2
  refine ⟨some (.ref S.next), x10', x11', x12', S', ?_, met_next hM, g2.inU, g1.hm, g1.nx, g1.hl, fun n h1 h2 => by rw [g1.oth n h1 h2, new_ne h2]⟩
  have e0 : (opn (kLst true) aNil) [x0, x1, some (.ref m), some (.int (k : Int)), some rowD, some (.lst ((CL b a).map chD)), x6, x7, x8, x9, x10, x11, x12, x13] S = some (.ref S.next, S.new (.lst [])) := by
    simp [opn, aNil, kLst, newL]
  unfold wB
  rw [seq_nx (set_go (i := 9) e0)]
  simp only [List.set_cons_succ, List.set_cons_zero]
  rw [seq_nx e]
  simp only [sPar, aCons, aNil, eVar, eC, op2, List.getElem?_cons_succ, List.getElem?_cons_zero, Option.bind_some]
  have ek : kAdd false (.int (k : Int)) (.int 1) S' = some (.int ((k + 1 : Nat) : Int), S') := rfl
  simp only [ek, Option.bind_some, List.set_cons_succ, List.set_cons_zero]
theorem run_while : ∀ (n k : Nat) (met row : List LT) (m : Nat) (rowD : D) (S : S3) (x6 x7 x8 x9 x10 x11 x12 x13 : Option D), Met (CL b a) b k (met, row) → (∀ t, t ∈ met → InU b a t) → S.ob m = some (.nst (met.map tD)) → m < S.next → rowOk rowD row m S → k ≤ (best7 hb ha).length → (best7 hb ha).length < k + n →
    ∃ ρ' S', whileM (bVal (op2 (kNotInN) (eVar 1) (eVar 2))) wB n [some (tD b), some (tD a), some (.ref m), some (.int (k : Int)), some rowD, some (.lst ((CL b a).map chD)), x6, x7, x8, x9, x10, x11, x12, x13] S = some (.nx, ρ', S') ∧ ρ'[3]? = some (some (.int ((best7 hb ha).length : Int))) ∧ S.next ≤ S'.next ∧ ∀ i, i < m → S'.ob i = S.ob i := by
  intro n
  induction n with
  | zero => intro k _ _ _ _ _ _ _ _ _ _ _ _ _ _ _ _ _ _ h1 h2; omega
  | succ n ih =>
    intro k met row m rowD S x6 x7 x8 x9 x10 x11 x12 x13 hM hU hm lm hr hk hn
    have kn : kNotInN (tD a) (.ref m) S = some (.bl (!decide (a ∈ met)), S) := by
      unfold kNotInN
      simp only [hm, okKey_tr, if_true, mem_tD]
    have hc : (bVal (op2 (kNotInN) (eVar 1) (eVar 2))) [some (tD b), some (tD a), some (.ref m), some (.int (k : Int)), some rowD, some (.lst ((CL b a).map chD)), x6, x7, x8, x9, x10, x11, x12, x13] S = some (!decide (a ∈ met), S) :=
      val_go ((op2_go (x := tD a) (S1 := S) (y := .ref m) (S2 := S) rfl rfl).trans kn)
    have hi := met_iff hb ha hM
    unfold whileM
    rw [hc]
    simp only [Option.bind_some]
    by_cases hin : a ∈ met
    · have : (best7 hb ha).length ≤ k := hi.mp hin
      refine ⟨_, S, by rw [if_neg (by simp [hin])], ?_, Nat.le_refl _, fun _ _ => rfl⟩
      rw [show k = (best7 hb ha).length by omega]
      rfl
    · have : ¬ (best7 hb ha).length ≤ k := fun q => hin (hi.mpr q)
      rw [if_pos (by simp [hin])]
      obtain ⟨y9, y10, y11, y12, S1, e, g1, g2, g3, g4, g5, g6⟩ := run_wB hb ha lb la hM hU hm lm hr (x0 := some (tD b)) (x1 := some (tD a)) (x6 := x6) (x7 := x7) (x8 := x8) (x9 := x9) (x10 := x10) (x11 := x11) (x12 := x12) (x13 := x13)
      rw [e]
      simp only [Option.bind_some]
      obtain ⟨ρ', S', e2, h1, h2, h3⟩ := ih (k + 1) _ _ m (.ref S.next) S1 x6 x7 x8 y9 y10 y11 y12 x13 g1 g2 g3 (by rw [g4]; omega) (.inr ⟨S.next, rfl, g5, by rw [g4]; omega, fun z => by omega⟩) (by omega) (by omega)
      exact ⟨ρ', S', e2, h1, by rw [g4] at h2; omega, fun i hi' => by rw [h3 i hi', g6 i (by omega) (by omega)]⟩
end
end K8
set_option maxHeartbeats 1600000
/-! k08: what _law_fewest gives, the end. -/
namespace K8
open PySem PySem.Spec PySem.W PyProof.Rows L2 G3 Lst
def pE : ME := (op2 (kAdd false) (eVar 6) (eLc false (iRng (aCons (op2 (kAdd false) (opn (kLen) (aCons (op2 kIx (eVar 7) (eC (.int 0))) aNil)) (eC (.int 1))) aNil)) (gN 13) bYes (eSl (kSl false) (op2 kIx (eVar 7) (eC (.int 0))) oNone (oSome (eVar 13))) [13]))
def qE : ME := (op2 (kAdd false) (eVar 5) (opn (kLst false) (aCons (opn G3.kTup (aCons (eC (.str "drop")) (aCons (eVar 8) aNil))) (aCons (opn G3.kTup (aCons (eC (.str "clear")) (aCons (eVar 8) aNil))) aNil))))
theorem bind_of {α β : Type} {x : Option α} {y : α} {f : α → Option β} (h : x = some y) : x.bind f = f y := by rw [h]; rfl
theorem ac1 {a : ME} {ρ : En} {S S1 : S3} {x : D} (h : a ρ S = some (x, S1)) : aCons a aNil ρ S = some ([x], S1) := by
  unfold aCons aNil
  rw [h]
  rfl
theorem for_go {i : MI} {T : MT} {b : MS} {ρ : En} {S S1 : S3} {src : Src} {r : Option (Fl × En × S3)} (hi : i ρ S = some (src, S1)) (hl : loopM src (fun d ρ S => (T d ρ).bind fun ρ' => b ρ' S) src.items ρ S1 = r) : sFor i T b ρ S = r := by
  unfold sFor
  rw [hi]
  exact hl
section
variable {b a : LT} (hb : Tree b) (ha : Tree a) (lb : b.length ≤ 4) (la : a.length ≤ 4)
include hb ha lb la
theorem lf_sets (S : S3) {x2 x3 x4 x5 x6 x7 x8 x9 x10 x11 x12 x13 : Option D} : (eLc false (iTupl (eVar 1)) (gN 7) bYes (op2 (kAdd false) (opn G3.kTup (aCons (eC (.str "set")) aNil)) (eVar 7)) [7]) [some (tD b), some (tD a), x2, x3, x4, x5, x6, x7, x8, x9, x10, x11, x12, x13] S = some (.lst ((a.map fun x => Ch.set x.1 x.2).map chD), S) := by
  refine (lc_go (src := .seq (tD a) (trD a)) (S1 := S) (by simp [iTupl, eVar, tD]) (lc_all (f := prD) (g := fun x => chD (.set x.1 x.2)) (t := fun _ => true) (valid_tup _ _) a [] (by rw [sz, List.length_nil]; omega) fun x hx => ⟨_, rfl, rfl, fun _ => ?_⟩)).trans ?_
  · refine (op2_go (x := .tup [.str "set"]) (S1 := S) (y := prD x) (S2 := S) (by simp [opn, aCons, aNil, eC, G3.kTup, sz]) rfl).trans ?_
    unfold kAdd prD
    simp only [List.length_cons, List.length_nil]
    rw [if_pos (by rw [sz]; omega)]
    rfl
  · rw [List.filter_eq_self.mpr fun _ _ => rfl, List.map_map]
    rfl
/-- the walk over before's keys: all beginnings -/
theorem lf_paths (S : S3) (r : Nat) (h : S.ob r = some (.lst [])) {x2 x3 x4 x5 x7 x8 x9 x10 x11 x12 x13 : Option D} :
    ∃ pd x7', (sFor (iTupl (eVar 0)) (gN 7) (sSet 6 pE)) [some (tD b), some (tD a), x2, x3, x4, x5, some (.ref r), x7, x8, x9, x10, x11, x12, x13] S = some (.nx, [some (tD b), some (tD a), x2, x3, x4, x5, some pd, x7', x8, x9, x10, x11, x12, x13], S) ∧
      (pd = .ref r ∧ PL b = [] ∨ pd = .lst ((PL b).map pth)) := by
  obtain ⟨ρ', S', e, pd, x7', rfl, rfl, hp⟩ := loop_all (f := prD) (src := .seq (.tup (trD b)) (trD b)) (body := fun d ρ S => (gN 7 d ρ).bind fun ρ' => (sSet 6 pE) ρ' S)
    (fun dn ρ S' => ∃ pd x7, ρ = [some (tD b), some (tD a), x2, x3, x4, x5, some pd, x7, x8, x9, x10, x11, x12, x13] ∧ S' = S ∧ (pd = .ref r ∧ PL dn = [] ∨ pd = .lst ((PL dn).map pth))) b
    (ρ := [some (tD b), some (tD a), x2, x3, x4, x5, some (.ref r), x7, x8, x9, x10, x11, x12, x13]) (S := S) ⟨.ref r, x7, rfl, rfl, .inl ⟨rfl, rfl⟩⟩ (by
      rintro dn x post ρ S1 hx ⟨pd, y7, rfl, rfl, hp⟩
      have hm : x ∈ b := by rw [hx]; exact List.mem_append_right _ List.mem_cons_self
      have hlen : x.1.length ≤ 4 := (hb.ok x hm).1.1
      have hdn : dn.length ≤ 4 := by have := congrArg List.length hx; rw [List.length_append, List.length_cons] at this; omega
      have hPL : (PL dn).length ≤ 5 * dn.length := by
        have hs : ∀ y, y ∈ dn → y ∈ b := fun y hy => by rw [hx]; exact List.mem_append_left _ hy
        clear hp hx hdn
        induction dn with
        | nil => exact Nat.le_refl _
        | cons y dn ih =>
          have h1 : (PL (y :: dn)).length = (y.1.length + 1) + (PL dn).length := by unfold PL; rw [List.flatMap_cons, List.length_append, List.length_map, List.length_range]
          have h2 := (hb.ok y (hs y List.mem_cons_self)).1.1
          have h3 := ih fun z hz => hs z (List.mem_cons_of_mem _ hz)
          rw [h1, List.length_cons]
          omega
      have hk : ∀ y, kIx (prD x) (.int 0) y = some (pth x.1, y) := fun _ => rfl
      have e1 : (eLc false (iRng (aCons (op2 (kAdd false) (opn (kLen) (aCons (op2 kIx (eVar 7) (eC (.int 0))) aNil)) (eC (.int 1))) aNil)) (gN 13) bYes (eSl (kSl false) (op2 kIx (eVar 7) (eC (.int 0))) oNone (oSome (eVar 13))) [13]) [some (tD b), some (tD a), x2, x3, x4, x5, some pd, some (prD x), x8, x9, x10, x11, x12, x13] S1 = some (.lst (((List.range (x.1.length + 1)).map fun k => x.1.take k).map pth), S1) := by
        have ei : (iRng (aCons (op2 (kAdd false) (opn (kLen) (aCons (op2 kIx (eVar 7) (eC (.int 0))) aNil)) (eC (.int 1))) aNil)) [some (tD b), some (tD a), x2, x3, x4, x5, some pd, some (prD x), x8, x9, x10, x11, x12, x13] S1 = some (.rng 0 1 (x.1.length + 1), S1) := by
          refine (iRng_one (j := ((x.1.length + 1 : Nat) : Int)) (S1 := S1) ?_ (rOk_small (by omega))).trans (by rw [Int.toNat_natCast])
          have ea : op2 (kAdd false) (opn (kLen) (aCons (op2 kIx (eVar 7) (eC (.int 0))) aNil)) (eC (.int 1)) [some (tD b), some (tD a), x2, x3, x4, x5, some pd, some (prD x), x8, x9, x10, x11, x12, x13] S1 = some (.int ((x.1.length + 1 : Nat) : Int), S1) :=
            (op2_go (x := .int (x.1.length : Nat)) (S1 := S1) (y := .int 1) (S2 := S1) ((opn1 ((op2_go (x := prD x) (S1 := S1) (y := .int 0) (S2 := S1) rfl rfl).trans (hk S1))).trans (kLen_pth x.1 S1)) rfl).trans rfl
          exact ac1 ea
        refine (lc_go ei (lc_all (f := rngF) (g := fun k => pth (x.1.take k)) (t := fun _ => true) (src := .rng 0 1 (x.1.length + 1)) (S := S1) rfl (List.range (x.1.length + 1)) [] (by rw [sz, List.length_nil, List.length_range]; omega) fun k hk' => ⟨[some (tD b), some (tD a), x2, x3, x4, x5, some pd, some (prD x), x8, x9, x10, x11, x12, some (.int (k : Int))], by rw [rngF_eq]; rfl, rfl, fun _ => ?_⟩)).trans ?_
        · have ek : op2 kIx (eVar 7) (eC (.int 0)) [some (tD b), some (tD a), x2, x3, x4, x5, some pd, some (prD x), x8, x9, x10, x11, x12, some (.int (k : Int))] S1 = some (pth x.1, S1) := (op2_go (x := prD x) (S1 := S1) (y := .int 0) (S2 := S1) rfl rfl).trans (hk S1)
          unfold eSl
          rw [ek]
          simp only [Option.bind_some, oNone, oSome, eVar, List.getElem?_cons_succ, List.getElem?_cons_zero]
          exact kSl_pth x.1 k S1
        · rw [List.filter_eq_self.mpr fun _ _ => rfl, List.map_map]
          rfl
      have hPs : PL (dn ++ [x]) = PL dn ++ (List.range (x.1.length + 1)).map fun k => x.1.take k := by unfold PL; rw [List.flatMap_append]; simp
      have el : lstOf S1 pd = some ((PL dn).map pth) := by
        rcases hp with ⟨rfl, hp⟩ | rfl
        · rw [hp]; unfold lstOf; simp only [h]; rfl
        · rfl
      have ea : kAdd false pd (.lst (((List.range (x.1.length + 1)).map fun k => x.1.take k).map pth)) S1 = some (.lst ((PL (dn ++ [x])).map pth), S1) := by
        rw [hPs, List.map_append]
        rcases hp with ⟨rfl, hp⟩ | rfl
        · unfold kAdd
          simp only [el]
          rw [show lstOf S1 (.lst (((List.range (x.1.length + 1)).map fun k => x.1.take k).map pth)) = some (((List.range (x.1.length + 1)).map fun k => x.1.take k).map pth) from rfl]
          simp only [newL]
          rw [if_pos (by simp only [List.length_map, List.length_range, sz]; omega)]
          rfl
        · unfold kAdd
          simp only [lstOf, newL]
          rw [if_pos (by simp only [List.length_map, List.length_range, sz]; omega)]
          rfl
      refine ⟨valid_tup _ _, [some (tD b), some (tD a), x2, x3, x4, x5, some (.lst ((PL (dn ++ [x])).map pth)), some (prD x), x8, x9, x10, x11, x12, x13], S1, ?_, _, _, rfl, rfl, .inr rfl⟩
      refine (bind_of (y := [some (tD b), some (tD a), x2, x3, x4, x5, some pd, some (prD x), x8, x9, x10, x11, x12, x13]) rfl).trans ?_
      exact set_go ((op2_go (x := pd) (S1 := S1) rfl e1).trans ea)) (fun ρ S _ => valid_tup _ _)
  refine ⟨pd, x7', ?_, hp⟩
  exact for_go (src := .seq (.tup (trD b)) (trD b)) (S1 := S') (by simp [iTupl, eVar, tD]) e
theorem PL_len : (PL b).length ≤ 20 := by
  have h : ∀ dn : LT, (∀ y, y ∈ dn → y ∈ b) → (PL dn).length ≤ 5 * dn.length := by
    intro dn hs
    induction dn with
    | nil => exact Nat.le_refl _
    | cons y dn ih =>
      have h1 : (PL (y :: dn)).length = (y.1.length + 1) + (PL dn).length := by unfold PL; rw [List.flatMap_cons, List.length_append, List.length_map, List.length_range]
      have h2 := (hb.ok y (hs y List.mem_cons_self)).1.1
      have h3 := ih fun z hz => hs z (List.mem_cons_of_mem _ hz)
      rw [h1, List.length_cons]
      omega
  have := h b fun _ h => h
  omega
theorem lf_drops (S : S3) (r : Nat) (h : S.ob r = some (.lst [])) {pd : D} (hp : pd = .ref r ∧ PL b = [] ∨ pd = .lst ((PL b).map pth)) {x2 x3 x4 x7 x8 x9 x10 x11 x12 x13 : Option D} :
    ∃ x8', (sFor (iSeq (eSortSet false (eVar 6))) (gN 8) (sSet 5 qE)) [some (tD b), some (tD a), x2, x3, x4, some (.lst ((a.map fun x => Ch.set x.1 x.2).map chD)), some pd, x7, x8, x9, x10, x11, x12, x13] S
      = some (.nx, [some (tD b), some (tD a), x2, x3, x4, some (.lst ((CL b a).map chD)), some pd, x7, x8', x9, x10, x11, x12, x13], S) := by
  have hl := PL_len hb ha lb la
  have es : sortSrc S pd = some ((PL b).map pth) := by
    rcases hp with ⟨rfl, hp⟩ | rfl
    · unfold sortSrc; simp only [h, hp]; rfl
    · rfl
  have ei : isLst S pd = true := by
    rcases hp with ⟨rfl, hp⟩ | rfl
    · unfold isLst; simp only [h]
    · rfl
  have ek : kSortSet false pd S = some (.lst ((sortP (nub (PL b))).map pth), S) := by
    unfold kSortSet
    simp only [es, pthsOf_map]
    rw [if_pos (by omega)]
    rfl
  have hsl : (sortP (nub (PL b))).length ≤ 20 := by
    rw [(sortP_perm _).length_eq]
    exact Nat.le_trans (nub_len _) hl
  obtain ⟨ρ', S', e, x8', rfl, rfl⟩ := loop_all (f := pth) (src := .seq (.lst ((sortP (nub (PL b))).map pth)) ((sortP (nub (PL b))).map pth)) (body := fun d ρ S => (gN 8 d ρ).bind fun ρ' => (sSet 5 qE) ρ' S)
    (fun dn ρ S' => ∃ x8, ρ = [some (tD b), some (tD a), x2, x3, x4, some (.lst (((a.map fun x => Ch.set x.1 x.2) ++ dn.flatMap fun p => [Ch.drop p, Ch.clear p]).map chD)), some pd, x7, x8, x9, x10, x11, x12, x13] ∧ S' = S) (sortP (nub (PL b)))
    (ρ := [some (tD b), some (tD a), x2, x3, x4, some (.lst ((a.map fun x => Ch.set x.1 x.2).map chD)), some pd, x7, x8, x9, x10, x11, x12, x13]) (S := S) ⟨x8, by rw [List.flatMap_nil, List.append_nil], rfl⟩ (by
      rintro dn p post ρ S1 hx ⟨y8, rfl, rfl⟩
      have hdn : dn.length ≤ 20 := by have := congrArg List.length hx; rw [List.length_append, List.length_cons] at this; omega
      have hfl : ∀ l : List Pt, (l.flatMap fun p => [Ch.drop p, Ch.clear p]).length = 2 * l.length := fun l => by
        induction l with
        | nil => rfl
        | cons q l ih => rw [List.flatMap_cons, List.length_append, ih, List.length_cons, List.length_cons, List.length_cons, List.length_nil]; omega
      have hf := hfl dn
      have e2 : (opn (kLst false) (aCons (opn G3.kTup (aCons (eC (.str "drop")) (aCons (eVar 8) aNil))) (aCons (opn G3.kTup (aCons (eC (.str "clear")) (aCons (eVar 8) aNil))) aNil))) [some (tD b), some (tD a), x2, x3, x4, some (.lst (((a.map fun x => Ch.set x.1 x.2) ++ dn.flatMap fun p => [Ch.drop p, Ch.clear p]).map chD)), some pd, x7, some (pth p), x9, x10, x11, x12, x13] S1 = some (.lst [chD (.drop p), chD (.clear p)], S1) := by
        have kt : ∀ x y : D, G3.kTup [x, y] S1 = some (.tup [x, y], S1) := fun x y => by simp [G3.kTup, sz]
        refine (opn2 ((opn2 (x := .str "drop") (S1 := S1) (y := pth p) (S2 := S1) rfl rfl).trans (kt _ _)) ((opn2 (x := .str "clear") (S1 := S1) (y := pth p) (S2 := S1) rfl rfl).trans (kt _ _))).trans ?_
        simp [kLst, sz, newL, chD]
      refine ⟨valid_lst _ _, [some (tD b), some (tD a), x2, x3, x4, some (.lst (((a.map fun x => Ch.set x.1 x.2) ++ (dn ++ [p]).flatMap fun p => [Ch.drop p, Ch.clear p]).map chD)), some pd, x7, some (pth p), x9, x10, x11, x12, x13], S1, ?_, _, rfl, rfl⟩
      refine (bind_of (y := [some (tD b), some (tD a), x2, x3, x4, some (.lst (((a.map fun x => Ch.set x.1 x.2) ++ dn.flatMap fun p => [Ch.drop p, Ch.clear p]).map chD)), some pd, x7, some (pth p), x9, x10, x11, x12, x13]) rfl).trans ?_
      refine set_go ((op2_go (x := .lst (((a.map fun x => Ch.set x.1 x.2) ++ dn.flatMap fun p => [Ch.drop p, Ch.clear p]).map chD)) (S1 := S1) rfl e2).trans ?_)
      unfold kAdd
      simp only [lstOf, newL]
      rw [if_pos (by simp only [List.length_map, List.length_append, hf, List.length_cons, List.length_nil, sz]; omega)]
      simp) (fun ρ S _ => valid_lst _ _)
  refine ⟨x8', for_go (src := .seq (.lst ((sortP (nub (PL b))).map pth)) ((sortP (nub (PL b))).map pth)) (S1 := S') ?_ e⟩
  unfold iSeq eSortSet
  simp only [eVar, List.getElem?_cons_succ, List.getElem?_cons_zero, Option.bind_some, ei, if_true, ek, G3.listOf]
theorem run_lfewest (S : S3) : ∃ S', f__law_fewest [tD b, tD a] S = some (.int ((best7 hb ha).length : Int), S') ∧ Le S S' := by
  have h1 : (sPar3 2 3 4 (aCons (eNst1 (eVar 0)) (aCons (eC (.int 0)) (aCons (opn (kLst false) (aCons (eVar 0) aNil)) aNil)))) [some (tD b), some (tD a), none, none, none, none, none, none, none, none, none, none, none, none] S = some (.nx, [some (tD b), some (tD a), some (.ref S.next), some (.int 0), some (.lst [tD b]), none, none, none, none, none, none, none, none, none], S.new (.nst [tD b])) := by
    simp [sPar3, aCons, aNil, eNst1, eVar, eC, okKey_tr, opn, kLst, newL, sz]
  have h2 := set_go (i := 5) (lf_sets hb ha lb la (S.new (.nst [tD b])) (x2 := some (.ref S.next)) (x3 := some (.int 0)) (x4 := some (.lst [tD b])) (x5 := none) (x6 := none) (x7 := none) (x8 := none) (x9 := none) (x10 := none) (x11 := none) (x12 := none) (x13 := none))
  have h3 : (sSet 6 (opn (kLst true) aNil)) [some (tD b), some (tD a), some (.ref S.next), some (.int 0), some (.lst [tD b]), some (.lst ((a.map fun x => Ch.set x.1 x.2).map chD)), none, none, none, none, none, none, none, none] (S.new (.nst [tD b])) = some (.nx, [some (tD b), some (tD a), some (.ref S.next), some (.int 0), some (.lst [tD b]), some (.lst ((a.map fun x => Ch.set x.1 x.2).map chD)), some (.ref (S.next + 1)), none, none, none, none, none, none, none], (S.new (.nst [tD b])).new (.lst [])) := by
    refine (set_go (d := .ref (S.next + 1)) (S' := (S.new (.nst [tD b])).new (.lst [])) ?_).trans rfl
    simp [opn, aNil, kLst, newL]
    rfl
  have x1 := Le.new S (.nst [tD b])
  have x2 := Le.new (S.new (.nst [tD b])) (.lst [])
  have hm : ((S.new (.nst [tD b])).new (.lst [])).ob S.next = some (.nst ([b].map tD)) := (x2.ob _ (Nat.lt_succ_self _)).trans new_self
  have hr : ((S.new (.nst [tD b])).new (.lst [])).ob (S.next + 1) = some (.lst []) := new_self
  obtain ⟨pd, y7, h4, hp⟩ := lf_paths hb ha lb la ((S.new (.nst [tD b])).new (.lst [])) (S.next + 1) hr (x2 := some (.ref S.next)) (x3 := some (.int 0)) (x4 := some (.lst [tD b])) (x5 := some (.lst ((a.map fun x => Ch.set x.1 x.2).map chD))) (x7 := none) (x8 := none) (x9 := none) (x10 := none) (x11 := none) (x12 := none) (x13 := none)
  obtain ⟨y8, h5⟩ := lf_drops hb ha lb la ((S.new (.nst [tD b])).new (.lst [])) (S.next + 1) hr hp (x2 := some (.ref S.next)) (x3 := some (.int 0)) (x4 := some (.lst [tD b])) (x7 := y7) (x8 := none) (x9 := none) (x10 := none) (x11 := none) (x12 := none) (x13 := none)
  have hl := best7_le hb ha
  obtain ⟨ρ', S', h6, g1, g2, g3⟩ := run_while hb ha lb la 12 0 [b] [b] S.next (.lst [tD b]) ((S.new (.nst [tD b])).new (.lst [])) (some pd) y7 y8 none none none none none (met_start _ _) (fun t ht => by
    have : t = b := by simpa using ht
    rw [this]; exact ⟨hb.ris, fun x hx => .inl hx⟩) hm (by show S.next < S.next + 1 + 1; omega) (.inl rfl) (Nat.zero_le _) (by omega)
  refine ⟨S', ?_, ⟨Nat.le_trans (Nat.le_trans x1.nx x2.nx) g2, fun n hn => by rw [g3 n hn]; exact (x1.trans x2).ob n hn⟩⟩
  have hret : sRet (eVar 3) ρ' S' = some (.rt (.int ((best7 hb ha).length : Int)), ρ', S') := ret_go (by unfold eVar; rw [g1])
  refine fnM_rt (ρ := [some (tD b), some (tD a), none, none, none, none, none, none, none, none, none, none, none, none]) (ρ' := ρ') rfl rfl ?_
  unfold b__law_fewest
  exact (seq_nx h1).trans ((seq_nx h2).trans ((seq_nx h3).trans ((seq_nx h4).trans ((seq_nx h5).trans ((seq_nx h6).trans hret)))))
end
end K8
set_option maxHeartbeats 1600000
/-! k08: what _law_taken gives. -/
namespace K8
open PySem PySem.Spec PySem.W PyProof.Rows L2 G3 Lst
def rowL (sc : List Int) (i : Nat) (x c : Int) : List D := [.scr (sc.map D.int), .int (i : Int), .int x, .int c]
def RowAt (r : Nat) (S : S3) : Prop := ∃ sc i x c, S.ob r = some (.lst (rowL sc i x c))
structure But (r : Nat) (S S' : S3) : Prop where
  nx : S'.next = S.next
  ob : ∀ n, n ≠ r → S'.ob n = S.ob n
theorem But.refl (r : Nat) (S : S3) : But r S S := ⟨rfl, fun _ _ => rfl⟩
theorem But.trans {r : Nat} {S S1 S2 : S3} (a : But r S S1) (b : But r S1 S2) : But r S S2 := ⟨b.nx.trans a.nx, fun n h => (b.ob n h).trans (a.ob n h)⟩
theorem But.set (r : Nat) (S : S3) (o : MO) : But r S (S.set r o) := ⟨rfl, fun n h => set_ne h⟩
section
variable {r : Nat} {S : S3} {sc : List Int} {i : Nat} {x c : Int}
theorem ix_row (h : S.ob r = some (.lst (rowL sc i x c))) (j : Nat) (hj : j < 4) : kIx (.ref r) (.int (j : Int)) S = ((rowL sc i x c)[j]?).map (·, S) := by
  show (match seqOf S (.ref r) with | some l => (atI l (j : Int)).map (·, S) | none => none) = _
  unfold seqOf G3.listOf
  simp only [h]
  rw [atI_nat _ _ (by show j < 4; exact hj)]
theorem ix0 (h : S.ob r = some (.lst (rowL sc i x c))) : kIx (.ref r) (.int 0) S = some (.scr (sc.map D.int), S) := ix_row h 0 (by decide)
theorem ix1 (h : S.ob r = some (.lst (rowL sc i x c))) : kIx (.ref r) (.int 1) S = some (.int (i : Int), S) := ix_row h 1 (by decide)
theorem ix2 (h : S.ob r = some (.lst (rowL sc i x c))) : kIx (.ref r) (.int 2) S = some (.int x, S) := ix_row h 2 (by decide)
theorem ix3 (h : S.ob r = some (.lst (rowL sc i x c))) : kIx (.ref r) (.int 3) S = some (.int c, S) := ix_row h 3 (by decide)
theorem set_row (h : S.ob r = some (.lst (rowL sc i x c))) (j : Nat) (hj : j < 4) (d : D) : kSetL (.ref r) (.int (j : Int)) d S = some (S.set r (.lst ((rowL sc i x c).set j d))) := by
  unfold kSetL
  simp only [h]
  unfold ixN
  rw [if_pos (by omega), if_pos (by show (j : Int) < 4; omega)]
  rfl
theorem st1 (h : S.ob r = some (.lst (rowL sc i x c))) (k : Nat) : kSetL (.ref r) (.int 1) (.int (k : Int)) S = some (S.set r (.lst (rowL sc k x c))) := set_row h 1 (by decide) _
theorem st2 (h : S.ob r = some (.lst (rowL sc i x c))) (y : Int) : kSetL (.ref r) (.int 2) (.int y) S = some (S.set r (.lst (rowL sc i y c))) := set_row h 2 (by decide) _
theorem st3 (h : S.ob r = some (.lst (rowL sc i x c))) (y : Int) : kSetL (.ref r) (.int 3) (.int y) S = some (S.set r (.lst (rowL sc i x y))) := set_row h 3 (by decide) _
theorem sub_go {k : D → D → D → S3 → Option S3} {o n e : ME} {ρ : En} {S S1 S2 S3' S4 : S3} {d p q : D} (h1 : e ρ S = some (d, S1)) (h2 : o ρ S1 = some (p, S2)) (h3 : n ρ S2 = some (q, S3')) (h4 : k p q d S3' = some S4) : sSub k o n e ρ S = some (.nx, ρ, S4) := by
  unfold sSub
  rw [h1]
  simp only [Option.bind_some]
  rw [h2]
  simp only [Option.bind_some]
  rw [h3]
  simp only [Option.bind_some]
  rw [h4]
  rfl
theorem kMod_ok (a : Int) {b : Int} (h : 0 < b) (S : S3) : kMod (.int a) (.int b) S = some (.int (a % b), S) := by
  unfold kMod kInt2
  simp only [h, decide_true, if_true]
theorem kDiv_ok (a : Int) {b : Int} (h : 0 < b) (h2 : b < 1073741824) (S : S3) : kDiv (.int a) (.int b) S = some (.int (a / b), S) := by
  unfold kDiv kInt2
  simp only [h, h2, and_self, decide_true, if_true]
theorem pow64 : (2 : Int) ^ 64 = 18446744073709551616 := by
  have h : (2 : Int) ^ 64 = ((2 ^ 64 : Nat) : Int) := by rw [Int.natCast_pow]; rfl
  rw [h]; rfl
theorem kMul_ok (a : Int) (S : S3) : kMul false (.int a) (.int 48271) S = some (.int (a * 48271), S) := by
  have : mulOk a 48271 = true := by
    unfold mulOk
    rw [pow64, decide_eq_true_eq]
    right
    constructor <;> decide
  unfold kMul
  simp only [this, if_true]
theorem kPow_ok (S : S3) : kPow (.int 10) (.int 18) S = some (.int (10 ^ 18), S) := by
  have h : decide ((0 : Int) ≤ 18 ∧ (18 : Int) ≤ 1000000 ∧ (10 : Int).natAbs < 2 ^ 64) = true := by decide +kernel
  show (if decide ((0 : Int) ≤ 18 ∧ (18 : Int) ≤ 1000000 ∧ (10 : Int).natAbs < 2 ^ 64) = true then some (D.int ((10 : Int) ^ (18 : Int).toNat), S) else none) = _
  rw [if_pos h]
  rfl
theorem run_taken {many : Int} (h : S.ob r = some (.lst (rowL sc i x c))) (h0 : 0 < many) (h9 : many < 1073741824) :
    ∃ v S', f__law_taken [.ref r, .int many] S = some (.int v, S') ∧ 0 ≤ v ∧ v < many ∧ (∃ i' x' c', S'.ob r = some (.lst (rowL sc i' x' c'))) ∧ But r S S' := by
  have md : ∀ a : Int, 0 ≤ a % many ∧ a % many < many := fun a => ⟨Int.emod_nonneg a (by omega), Int.emod_lt_of_pos a h0⟩
  by_cases hc : 0 < c
  · refine ⟨c % many, S.set r (.lst (rowL sc i x (c / many))), ?_, (md c).1, (md c).2, ⟨i, x, c / many, set_self⟩, But.set _ _ _⟩
    refine fnM_rt (ρ := [some (.ref r), some (.int many), none, none]) (ρ' := [some (.ref r), some (.int many), none, some (.int (c % many))]) rfl rfl ?_
    unfold b__law_taken
    refine seq_rt ?_
    rw [if_go (x := true) (S' := S) (val_go ((op2_go (x := .int c) (S1 := S) (y := .int 0) (S2 := S) ((op2_go (x := .ref r) (S1 := S) (y := .int 3) (S2 := S) rfl rfl).trans (ix3 h)) rfl).trans (by simp [kGt, kCmpI, hc]))), if_pos rfl]
    rw [seq_nx (set_go (i := 3) (d := .int (c % many)) (S' := S) ((op2_go (x := .int c) (S1 := S) (y := .int many) (S2 := S) ((op2_go (x := .ref r) (S1 := S) (y := .int 3) (S2 := S) rfl rfl).trans (ix3 h)) rfl).trans (kMod_ok c h0 S)))]
    simp only [List.set_cons_succ, List.set_cons_zero]
    rw [seq_nx (sub_go (d := .int (c / many)) (S1 := S) (p := .ref r) (S2 := S) (q := .int 3) (S3' := S) ((op2_go (x := .int c) (S1 := S) (y := .int many) (S2 := S) ((op2_go (x := .ref r) (S1 := S) (y := .int 3) (S2 := S) rfl rfl).trans (ix3 h)) rfl).trans (kDiv_ok c h0 h9 S)) rfl rfl (st3 h _))]
    exact ret_go rfl
  · have e1 : (sIf (bVal (op2 (kGt) (op2 kIx (eVar 0) (eC (.int 3))) (eC (.int 0)))) (sSeq (sSet 3 (op2 (kMod) (op2 kIx (eVar 0) (eC (.int 3))) (eVar 1))) (sSeq (sSub kSetL (eVar 0) (eC (.int 3)) (op2 (kDiv) (op2 kIx (eVar 0) (eC (.int 3))) (eVar 1))) (sRet (eVar 3)))) sSkip) [some (.ref r), some (.int many), none, none] S = some (.nx, [some (.ref r), some (.int many), none, none], S) := by
      rw [if_go (x := false) (S' := S) (val_go ((op2_go (x := .int c) (S1 := S) (y := .int 0) (S2 := S) ((op2_go (x := .ref r) (S1 := S) (y := .int 3) (S2 := S) rfl rfl).trans (ix3 h)) rfl).trans (by simp [kGt, kCmpI]; omega))), if_neg (by simp)]
      rfl
    have e2 : (sSub kSetL (eVar 0) (eC (.int 1)) (op2 (kAdd false) (op2 kIx (eVar 0) (eC (.int 1))) (eC (.int 1)))) [some (.ref r), some (.int many), none, none] S = some (.nx, [some (.ref r), some (.int many), none, none], S.set r (.lst (rowL sc (i + 1) x c))) :=
      sub_go (d := .int ((i + 1 : Nat) : Int)) (S1 := S) (p := .ref r) (S2 := S) (q := .int 1) (S3' := S) ((op2_go (x := .int (i : Int)) (S1 := S) (y := .int 1) (S2 := S) ((op2_go (x := .ref r) (S1 := S) (y := .int 1) (S2 := S) rfl rfl).trans (ix1 h)) rfl).trans rfl) rfl rfl (st1 h _)
    have g1 : (S.set r (.lst (rowL sc (i + 1) x c))).ob r = some (.lst (rowL sc (i + 1) x c)) := set_self
    have b1 := But.set r S (.lst (rowL sc (i + 1) x c))
    generalize S.set r (.lst (rowL sc (i + 1) x c)) = S1 at e2 g1 b1
    have i1 : op2 kIx (eVar 0) (eC (.int 1)) [some (.ref r), some (.int many), none, none] S1 = some (.int ((i + 1 : Nat) : Int), S1) := (op2_go (x := .ref r) (S1 := S1) (y := .int 1) (S2 := S1) rfl rfl).trans (ix1 g1)
    have i0 : op2 kIx (eVar 0) (eC (.int 0)) [some (.ref r), some (.int many), none, none] S1 = some (.scr (sc.map D.int), S1) := (op2_go (x := .ref r) (S1 := S1) (y := .int 0) (S2 := S1) rfl rfl).trans (ix0 g1)
    have kl : kLen [.scr (sc.map D.int)] S1 = some (.int (sc.length : Nat), S1) := by
      show some (D.int ((sc.map D.int).length : Nat), S1) = _
      rw [List.length_map]
    have ec : (bVal (op2 (kGt) (op2 kIx (eVar 0) (eC (.int 1))) (opn (kLen) (aCons (op2 kIx (eVar 0) (eC (.int 0))) aNil)))) [some (.ref r), some (.int many), none, none] S1 = some (decide ((sc.length : Int) < ((i + 1 : Nat) : Int)), S1) := val_go ((op2_go i1 ((opn1 i0).trans kl)).trans rfl)
    by_cases hi : sc.length < i + 1
    · have e3 : ∀ y : Int, (S1.set r (.lst (rowL sc (i + 1) y c))).ob r = some (.lst (rowL sc (i + 1) y c)) := fun y => set_self
      refine ⟨((x * 48271 + 11) % 2147483647) / 7 % many, S1.set r (.lst (rowL sc (i + 1) ((x * 48271 + 11) % 2147483647) c)), ?_, (md _).1, (md _).2, ⟨_, _, _, e3 _⟩, b1.trans (But.set _ _ _)⟩
      refine fnM_rt (ρ := [some (.ref r), some (.int many), none, none]) (ρ' := [some (.ref r), some (.int many), none, none]) rfl rfl ?_
      unfold b__law_taken
      rw [seq_nx e1, seq_nx e2]
      refine seq_rt ?_
      rw [if_go ec, if_pos (decide_eq_true (by omega))]
      have i2 : op2 kIx (eVar 0) (eC (.int 2)) [some (.ref r), some (.int many), none, none] S1 = some (.int x, S1) := (op2_go (x := .ref r) (S1 := S1) (y := .int 2) (S2 := S1) rfl rfl).trans (ix2 g1)
      rw [seq_nx (sub_go (d := .int ((x * 48271 + 11) % 2147483647)) (S1 := S1) (p := .ref r) (S2 := S1) (q := .int 2) (S3' := S1) ((op2_go (x := .int (x * 48271 + 11)) (S1 := S1) (y := .int 2147483647) (S2 := S1) ((op2_go (x := .int (x * 48271)) (S1 := S1) (y := .int 11) (S2 := S1) ((op2_go (y := .int 48271) (S2 := S1) i2 rfl).trans (kMul_ok x S1)) rfl).trans rfl) rfl).trans (kMod_ok _ (by decide) S1)) rfl rfl (st2 g1 _))]
      refine ret_go ?_
      have g2 := e3 ((x * 48271 + 11) % 2147483647)
      generalize S1.set r (.lst (rowL sc (i + 1) ((x * 48271 + 11) % 2147483647) c)) = S2 at g2
      refine (op2_go (x := .int (((x * 48271 + 11) % 2147483647) / 7)) (S1 := S2) (y := .int many) (S2 := S2) ((op2_go (x := .int ((x * 48271 + 11) % 2147483647)) (S1 := S2) (y := .int 7) (S2 := S2) ((op2_go (x := .ref r) (S1 := S2) (y := .int 2) (S2 := S2) rfl rfl).trans (ix2 g2)) rfl).trans (kDiv_ok _ (by decide) (by decide) S2)) rfl).trans (kMod_ok _ h0 S2)
    · have hlt : i < sc.length := by omega
      obtain ⟨cell, hcell⟩ : ∃ v, sc[i]? = some v := ⟨sc[i], List.getElem?_eq_getElem hlt⟩
      have e3 : (sIf (bVal (op2 (kGt) (op2 kIx (eVar 0) (eC (.int 1))) (opn (kLen) (aCons (op2 kIx (eVar 0) (eC (.int 0))) aNil)))) (sSeq (sSub kSetL (eVar 0) (eC (.int 2)) (op2 (kMod) (op2 (kAdd false) (op2 (kMul false) (op2 kIx (eVar 0) (eC (.int 2))) (eC (.int 48271))) (eC (.int 11))) (eC (.int 2147483647)))) (sRet (op2 (kMod) (op2 (kDiv) (op2 kIx (eVar 0) (eC (.int 2))) (eC (.int 7))) (eVar 1)))) sSkip) [some (.ref r), some (.int many), none, none] S1 = some (.nx, [some (.ref r), some (.int many), none, none], S1) := by
        rw [if_go ec, if_neg (by simp; omega)]
        rfl
      have e4 : (sSet 2 (op2 kIx (op2 kIx (eVar 0) (eC (.int 0))) (op2 (kSub) (op2 kIx (eVar 0) (eC (.int 1))) (eC (.int 1))))) [some (.ref r), some (.int many), none, none] S1 = some (.nx, [some (.ref r), some (.int many), some (.int cell), none], S1) := by
        have ks : kSub (.int ((i + 1 : Nat) : Int)) (.int 1) S1 = some (.int (i : Int), S1) := by
          unfold kSub kInt2
          simp only [if_true]
          rw [show (((i + 1 : Nat) : Int) - 1) = (i : Int) by omega]
        have kx : kIx (.scr (sc.map D.int)) (.int (i : Int)) S1 = some (.int cell, S1) := by
          show (match seqOf S1 (.scr (sc.map D.int)) with | some l => (atI l (i : Int)).map (·, S1) | none => none) = _
          simp only [seqOf, G3.listOf]
          rw [atI_nat _ _ (by rw [List.length_map]; exact hlt), List.getElem?_map, hcell]
          rfl
        exact set_go ((op2_go i0 ((op2_go (y := .int 1) (S2 := S1) i1 rfl).trans ks)).trans kx)
      have i2 : op2 kIx (eVar 0) (eC (.int 2)) [some (.ref r), some (.int many), some (.int cell), none] S1 = some (.int x, S1) := (op2_go (x := .ref r) (S1 := S1) (y := .int 2) (S2 := S1) rfl rfl).trans (ix2 g1)
      have e5 : (sSub kSetL (eVar 0) (eC (.int 2)) (op2 (kMod) (op2 (kAdd false) (op2 (kAdd false) (op2 (kMul false) (op2 kIx (eVar 0) (eC (.int 2))) (eC (.int 48271))) (eVar 2)) (eC (.int 11))) (eC (.int 2147483647)))) [some (.ref r), some (.int many), some (.int cell), none] S1 = some (.nx, [some (.ref r), some (.int many), some (.int cell), none], S1.set r (.lst (rowL sc (i + 1) ((x * 48271 + cell + 11) % 2147483647) c))) :=
        sub_go (d := .int ((x * 48271 + cell + 11) % 2147483647)) (S1 := S1) (p := .ref r) (S2 := S1) (q := .int 2) (S3' := S1) ((op2_go (x := .int (x * 48271 + cell + 11)) (S1 := S1) (y := .int 2147483647) (S2 := S1) ((op2_go (x := .int (x * 48271 + cell)) (S1 := S1) (y := .int 11) (S2 := S1) ((op2_go (x := .int (x * 48271)) (S1 := S1) (y := .int cell) (S2 := S1) ((op2_go (y := .int 48271) (S2 := S1) i2 rfl).trans (kMul_ok x S1)) rfl).trans rfl) rfl).trans rfl) rfl).trans (kMod_ok _ (by decide) S1)) rfl rfl (st2 g1 _)
      have g2 : (S1.set r (.lst (rowL sc (i + 1) ((x * 48271 + cell + 11) % 2147483647) c))).ob r = some (.lst (rowL sc (i + 1) ((x * 48271 + cell + 11) % 2147483647) c)) := set_self
      have b2 := b1.trans (But.set r S1 (.lst (rowL sc (i + 1) ((x * 48271 + cell + 11) % 2147483647) c)))
      generalize S1.set r (.lst (rowL sc (i + 1) ((x * 48271 + cell + 11) % 2147483647) c)) = S2 at e5 g2 b2
      have ep : op2 (kPow) (eC (.int 10)) (eC (.int 18)) [some (.ref r), some (.int many), some (.int cell), none] S2 = some (.int (10 ^ 18), S2) := (op2_go (x := .int 10) (S1 := S2) (y := .int 18) (S2 := S2) rfl rfl).trans (kPow_ok S2)
      have ec2 : (bVal (op2 (kGe) (eVar 2) (op2 (kPow) (eC (.int 10)) (eC (.int 18))))) [some (.ref r), some (.int many), some (.int cell), none] S2 = some (decide ((10 : Int) ^ 18 ≤ cell), S2) := val_go ((op2_go (x := .int cell) (S1 := S2) rfl ep).trans rfl)
      have e7 : ∀ S3' : S3, (sRet (op2 (kMod) (eVar 2) (eVar 1))) [some (.ref r), some (.int many), some (.int cell), none] S3' = some (.rt (.int (cell % many)), [some (.ref r), some (.int many), some (.int cell), none], S3') := fun S3' => ret_go ((op2_go (x := .int cell) (S1 := S3') (y := .int many) (S2 := S3') rfl rfl).trans (kMod_ok _ h0 S3'))
      generalize (10 : Int) ^ 18 = big at ec2
      by_cases hbig : big ≤ cell
      · refine ⟨cell % many, S2.set r (.lst (rowL sc (i + 1) ((x * 48271 + cell + 11) % 2147483647) (cell / many))), ?_, (md _).1, (md _).2, ⟨_, _, _, set_self⟩, b2.trans (But.set _ _ _)⟩
        refine fnM_rt (ρ := [some (.ref r), some (.int many), none, none]) (ρ' := [some (.ref r), some (.int many), some (.int cell), none]) rfl rfl ?_
        unfold b__law_taken
        rw [seq_nx e1, seq_nx e2, seq_nx e3, seq_nx e4, seq_nx e5]
        refine (seq_nx ((if_go ec2).trans ?_)).trans (e7 _)
        rw [if_pos (decide_eq_true hbig)]
        exact sub_go (d := .int (cell / many)) (S1 := S2) (p := .ref r) (S2 := S2) (q := .int 3) (S3' := S2) ((op2_go (x := .int cell) (S1 := S2) (y := .int many) (S2 := S2) rfl rfl).trans (kDiv_ok _ h0 h9 S2)) rfl rfl (st3 g2 _)
      · refine ⟨cell % many, S2, ?_, (md _).1, (md _).2, ⟨_, _, _, g2⟩, b2⟩
        refine fnM_rt (ρ := [some (.ref r), some (.int many), none, none]) (ρ' := [some (.ref r), some (.int many), some (.int cell), none]) rfl rfl ?_
        unfold b__law_taken
        rw [seq_nx e1, seq_nx e2, seq_nx e3, seq_nx e4, seq_nx e5]
        refine (seq_nx ((if_go ec2).trans ?_)).trans (e7 _)
        rw [if_neg (by simp; omega)]
        rfl
end
theorem taken {r : Nat} {S : S3} {many : Int} (h : RowAt r S) (h0 : 0 < many) (h9 : many < 1073741824) : ∃ v S', f__law_taken [.ref r, .int many] S = some (.int v, S') ∧ 0 ≤ v ∧ v < many ∧ RowAt r S' ∧ But r S S' := by
  obtain ⟨sc, i, x, c, h⟩ := h
  obtain ⟨v, S', e, h1, h2, ⟨i', x', c', h3⟩, h4⟩ := run_taken h h0 h9
  exact ⟨v, S', e, h1, h2, ⟨sc, i', x', c', h3⟩, h4⟩
end K8
set_option maxHeartbeats 1600000
/-! k08: what _law_tree gives. -/
namespace K8
open PySem PySem.Spec PySem.W PyProof.Rows L2 G3 Lst
/-- all that stood stands, but the row -/
structure Fr (r : Nat) (S S' : S3) : Prop where
  nx : S.next ≤ S'.next
  ob : ∀ n, n < S.next → n ≠ r → S'.ob n = S.ob n
theorem Fr.refl (r : Nat) (S : S3) : Fr r S S := ⟨Nat.le_refl _, fun _ _ _ => rfl⟩
theorem Fr.trans {r : Nat} {S S1 S2 : S3} (a : Fr r S S1) (b : Fr r S1 S2) : Fr r S S2 := ⟨Nat.le_trans a.nx b.nx, fun n h h' => (b.ob n (Nat.lt_of_lt_of_le h a.nx) h').trans (a.ob n h h')⟩
theorem But.fr {r : Nat} {S S' : S3} (h : But r S S') : Fr r S S' := ⟨Nat.le_of_eq h.nx.symm, fun n _ h' => h.ob n h'⟩
theorem Le.fr {S S' : S3} (r : Nat) (h : Le S S') : Fr r S S' := ⟨h.nx, fun n h1 _ => h.ob n h1⟩
theorem RowAt.le {r : Nat} {S S' : S3} (h : RowAt r S) (l : Le S S') (hr : r < S.next) : RowAt r S' := by
  obtain ⟨sc, i, x, c, h⟩ := h
  exact ⟨sc, i, x, c, (l.ob r hr).trans h⟩
theorem tk_go {ρ : En} {S : S3} {r : Nat} {E : ME} {many : Int} (hρ : ρ[0]? = some (some (.ref r))) (hE : E ρ S = some (.int many, S)) (h : RowAt r S) (h0 : 0 < many) (h9 : many < 1073741824) :
    ∃ v S', opn f__law_taken (aCons (eVar 0) (aCons E aNil)) ρ S = some (.int v, S') ∧ 0 ≤ v ∧ v < many ∧ RowAt r S' ∧ But r S S' := by
  obtain ⟨v, S', e, h1, h2, h3, h4⟩ := taken h h0 h9
  have e0 : eVar 0 ρ S = some (.ref r, S) := by unfold eVar; rw [hρ]
  exact ⟨v, S', (opn2 e0 hE).trans e, h1, h2, h3, h4⟩
theorem lc_st {α : Type} {f : α → D} {I : S3 → Prop} {good : D → Prop} {src : Src} {T : MT} {tst : MB} {el : ME} {ρ : En} (hv : ∀ S, src.valid S = true) : ∀ (xs : List α) (acc : List D) (S : S3), I S → acc.length + xs.length ≤ sizeLine →
    (∀ x, x ∈ xs → ∀ S, I S → ∃ ρ' d S', T (f x) ρ = some ρ' ∧ tst ρ' S = some (true, S) ∧ el ρ' S = some (d, S') ∧ good d ∧ I S') →
    ∃ ds S', lcM src T tst el ρ (xs.map f) acc S = some (acc ++ ds, S') ∧ I S' ∧ ds.length = xs.length ∧ ∀ d, d ∈ ds → good d
  | [], acc, S, hI, _, _ => ⟨[], S, by rw [List.map_nil, lcM, if_pos (hv S), List.append_nil], hI, rfl, fun _ h => absurd h List.not_mem_nil⟩
  | x :: xs, acc, S, hI, hl, h => by
    obtain ⟨ρ', d, S1, e1, e2, e3, g, hI1⟩ := h x List.mem_cons_self S hI
    rw [List.length_cons] at hl
    obtain ⟨ds, S2, e4, hI2, hl2, g2⟩ := lc_st hv xs (acc ++ [d]) S1 hI1 (by rw [List.length_append, List.length_singleton]; omega) fun y hy => h y (List.mem_cons_of_mem _ hy)
    refine ⟨d :: ds, S2, ?_, hI2, by rw [List.length_cons, List.length_cons, hl2], fun z hz => ?_⟩
    · rw [List.map_cons, lcM, if_pos (hv S), e1]
      simp only [Option.bind_some, e2, if_true, e3]
      rw [if_pos (by omega), e4]
      simp
    · rcases List.mem_cons.mp hz with q | q
      · rw [q]; exact g
      · exact g2 z q
def letD (d : D) : Prop := ∃ x, vS x ∧ d = .str x
theorem letters_path : ∀ ds : List D, (∀ d, d ∈ ds → letD d) → ∃ p : Pt, ds = p.map D.str ∧ ∀ x, x ∈ p → vS x
  | [], _ => ⟨[], rfl, fun _ h => absurd h List.not_mem_nil⟩
  | d :: ds, h => by
    obtain ⟨x, hx, rfl⟩ := h d List.mem_cons_self
    obtain ⟨p, rfl, hp⟩ := letters_path ds fun e he => h e (List.mem_cons_of_mem _ he)
    refine ⟨x :: p, rfl, fun y hy => ?_⟩
    rcases List.mem_cons.mp hy with q | q
    · rw [q]; exact hx
    · exact hp y q
theorem ix_ab {v : Int} (h0 : 0 ≤ v) (h2 : v < 2) (S : S3) : ∃ d, kIx (.str "ab") (.int v) S = some (d, S) ∧ letD d := by
  have hab : ("ab" : Str) = ⟨#[97, 98]⟩ := by decide +kernel
  have hl : ("ab" : Str).length ≤ sizeLine := by rw [hab, sz]; decide
  have e : kIx (.str "ab") (.int v) S = (if ("ab" : Str).length ≤ sizeLine then (atI ("ab" : Str).cps.toList v).map (fun c => (D.str ⟨#[c]⟩, S)) else none) := rfl
  rw [e, if_pos hl, hab]
  rcases (show v = 0 ∨ v = 1 by omega) with rfl | rfl
  · exact ⟨.str ⟨#[97]⟩, rfl, _, ⟨97, by omega, by omega, rfl⟩, rfl⟩
  · exact ⟨.str ⟨#[98]⟩, rfl, _, ⟨98, by omega, by omega, rfl⟩, rfl⟩
/-- a dict of paths and worths, in any order -/
def putU (U : LT) (p : Pt) (w : Int) : LT := if p ∈ U.map (·.1) then U.map fun x => if x.1 = p then (p, w) else x else U ++ [(p, w)]
theorem tf_cons (x : Pt × Int) (U : LT) (p : Pt) : tf (x :: U) p = if x.1 = p then some x.2 else tf U p := by
  unfold tf
  rw [List.find?_cons]
  by_cases h : x.1 = p
  · simp [h]
  · simp [h]
theorem tf_isSome (U : LT) (p : Pt) : (tf U p).isSome = decide (p ∈ U.map (·.1)) := by
  induction U with
  | nil => rfl
  | cons x U ih =>
    rw [tf_cons]
    by_cases h : x.1 = p
    · simp [h]
    · have h' : ¬ p = x.1 := fun e => h e.symm
      rw [if_neg h, ih]
      simp [h']
theorem putU_dic (U : LT) (p : Pt) (w : Int) : putDD (dicD U) (pth p) (.int w) = dicD (putU U p w) := by
  unfold putDD putU
  rw [look_dic, Option.isSome_map, tf_isSome]
  by_cases h : p ∈ U.map (·.1)
  · simp only [h, decide_true, if_true]
    unfold dicD
    rw [List.map_map, List.map_map]
    refine List.map_congr_left fun x _ => ?_
    simp only [Function.comp_def]
    by_cases e : x.1 = p
    · rw [if_pos (by rw [e]), if_pos e, e]
    · rw [if_neg fun z => e (pth_inj z), if_neg e]
  · simp only [h, decide_false, Bool.false_eq_true, if_false]
    unfold dicD
    rw [List.map_append]
    rfl
structure UOk (U : LT) (n : Nat) : Prop where
  nd : (U.map (·.1)).Nodup
  ok : ∀ x, x ∈ U → vK x
  len : U.length ≤ n
theorem UOk.put {U : LT} {n : Nat} (h : UOk U n) {p : Pt} {w : Int} (hk : vK (p, w)) : UOk (putU U p w) (n + 1) := by
  unfold putU
  split
  · rename_i hp
    have e : (U.map fun x => if x.1 = p then (p, w) else x).map (·.1) = U.map (·.1) := by
      rw [List.map_map]
      refine List.map_congr_left fun x _ => ?_
      simp only [Function.comp_def]
      split
      · rename_i e; exact e.symm
      · rfl
    refine ⟨by rw [e]; exact h.nd, fun x hx => ?_, by rw [List.length_map]; exact Nat.le_succ_of_le h.len⟩
    obtain ⟨y, hy, rfl⟩ := List.mem_map.mp hx
    split
    · exact hk
    · exact h.ok y hy
  · rename_i hp
    refine ⟨?_, fun x hx => ?_, by rw [List.length_append, List.length_singleton]; exact Nat.succ_le_succ h.len⟩
    · rw [List.map_append]
      refine List.nodup_append.mpr ⟨h.nd, List.pairwise_singleton _ _, fun x hx y hy e => hp ?_⟩
      have : y = p := by simpa using hy
      rw [← this, ← e]; exact hx
    · rcases List.mem_append.mp hx with q | q
      · exact h.ok x q
      · have : x = (p, w) := by simpa using q
        rw [this]; exact hk
def treeOf (U : LT) : LT := (sortP (U.map (·.1))).map fun p => (p, (tf U p).getD 0)
theorem treeOf_ok {U : LT} {n : Nat} (h : UOk U n) : Tree (treeOf U) ∧ (treeOf U).length ≤ n := by
  refine ⟨⟨?_, fun x hx => ?_⟩, by unfold treeOf; rw [List.length_map, (sortP_perm _).length_eq, List.length_map]; exact h.len⟩
  · unfold Lst.Ris treeOf
    rw [List.pairwise_map]
    have h1 := sortP_sorted (U.map (·.1))
    have h2 : (sortP (U.map (·.1))).Nodup := (sortP_perm _).nodup_iff.mpr h.nd
    refine List.Pairwise.imp (fun {x y} q => ?_) (h1.and h2)
    obtain ⟨q1, q2⟩ := q
    simp only [ple, Bool.not_eq_true', decide_eq_false_iff_not] at q1
    rcases Classical.em (cl x < cl y) with r | r
    · exact r
    · exact absurd (cl_inj (List.le_antisymm (as := cl x) (bs := cl y) q1 r)) q2
  · obtain ⟨p, hp, rfl⟩ := List.mem_map.mp hx
    have hp' := mem_sortP.mp hp
    have : (tf U p).isSome = true := by rw [tf_isSome]; exact decide_eq_true hp'
    obtain ⟨w, hw⟩ := Option.isSome_iff_exists.mp this
    rw [hw]
    obtain ⟨k, hk, e⟩ := Option.map_eq_some_iff.mp hw
    have h1 := List.find?_some hk
    have h2 := List.mem_of_find?_eq_some hk
    simp only [decide_eq_true_eq] at h1
    obtain ⟨kp, kv⟩ := k
    simp only at h1 e
    subst h1 e
    exact h.ok _ h2
section
variable {r : Nat}
def tpE : ME := (opn (kTuple) (aCons (eLc false (iRng (aCons (opn f__law_taken (aCons (eVar 0) (aCons (eC (.int 4)) aNil))) aNil)) (gN 5) bYes (op2 kIx (eC (.str "ab")) (opn f__law_taken (aCons (eVar 0) (aCons (eC (.int 2)) aNil)))) [5]) aNil))
theorem run_tpath {S : S3} (h : RowAt r S) {x1 x2 x3 x4 x5 : Option D} : ∃ p S', tpE [some (.ref r), x1, x2, x3, x4, x5] S = some (pth p, S') ∧ vP p ∧ p.length ≤ 3 ∧ RowAt r S' ∧ But r S S' := by
  obtain ⟨n, S1, e1, n0, n4, r1, b1⟩ := tk_go (ρ := [some (.ref r), x1, x2, x3, x4, x5]) (E := eC (.int 4)) rfl rfl h (by decide) (by decide)
  obtain ⟨m, rfl⟩ : ∃ m : Nat, n = (m : Int) := ⟨n.toNat, (Int.toNat_of_nonneg n0).symm⟩
  have ei : (iRng (aCons (opn f__law_taken (aCons (eVar 0) (aCons (eC (.int 4)) aNil))) aNil)) [some (.ref r), x1, x2, x3, x4, x5] S = some (.rng 0 1 m, S1) := (iRng_one (ac1 e1) (rOk_small (by omega))).trans (by rw [Int.toNat_natCast])
  obtain ⟨ds, S2, e2, ⟨r2, b2⟩, hl, hg⟩ := lc_st (f := rngF) (I := fun S' => RowAt r S' ∧ But r S S') (good := letD) (src := .rng 0 1 m) (T := gN 5) (tst := bYes) (el := op2 kIx (eC (.str "ab")) (opn f__law_taken (aCons (eVar 0) (aCons (eC (.int 2)) aNil)))) (ρ := wipeD [some (.ref r), x1, x2, x3, x4, x5] [5]) (fun _ => rfl) (List.range m) [] S1 ⟨r1, b1⟩ (by rw [sz, List.length_nil, List.length_range]; omega) (by
    intro k _ S3' ⟨r3, b3⟩
    obtain ⟨v, S4, e3, v0, v2, r4, b4⟩ := tk_go (ρ := [some (.ref r), x1, x2, x3, x4, some (rngF k)]) (E := eC (.int 2)) rfl rfl r3 (by decide) (by decide)
    obtain ⟨d, e4, hd⟩ := ix_ab v0 v2 S4
    exact ⟨[some (.ref r), x1, x2, x3, x4, some (rngF k)], d, S4, rfl, rfl, (op2_go (x := .str "ab") (S1 := S3') rfl e3).trans e4, hd, r4, b3.trans b4⟩)
  obtain ⟨p, rfl, hp⟩ := letters_path ds hg
  rw [List.length_map, List.length_range] at hl
  refine ⟨p, S2, ?_, ⟨by omega, hp⟩, by omega, r2, b2⟩
  exact (opn1 (lc_go ei e2)).trans rfl
theorem run_tree {S : S3} (h : RowAt r S) (hr : r < S.next) : ∃ T S', f__law_tree [.ref r, .int 4] S = some (.lst (trD T), S') ∧ Tree T ∧ T.length ≤ 4 ∧ RowAt r S' ∧ Fr r S S' := by
  have x1 := Le.new S (.dic [])
  have r1 : RowAt r (S.new (.dic [])) := h.le x1 hr
  have hd : (S.new (.dic [])).ob S.next = some (.dic (dicD [])) := new_self
  have ne : S.next ≠ r := fun e => by omega
  have e5 : op2 (kAdd false) (eVar 1) (eC (.int 1)) [some (.ref r), some (.int 4), some (.ref S.next), none, none, none] (S.new (.dic [])) = some (.int 5, S.new (.dic [])) := (op2_go (x := .int 4) (S1 := S.new (.dic [])) (y := .int 1) (S2 := S.new (.dic [])) rfl rfl).trans rfl
  obtain ⟨n, S1, e1, n0, n5, r2, b1⟩ := tk_go (ρ := [some (.ref r), some (.int 4), some (.ref S.next), none, none, none]) rfl e5 r1 (by decide) (by decide)
  obtain ⟨m, rfl⟩ : ∃ m : Nat, n = (m : Int) := ⟨n.toNat, (Int.toNat_of_nonneg n0).symm⟩
  have ei : (iRng (aCons (opn f__law_taken (aCons (eVar 0) (aCons (op2 (kAdd false) (eVar 1) (eC (.int 1))) aNil))) aNil)) [some (.ref r), some (.int 4), some (.ref S.next), none, none, none] (S.new (.dic [])) = some (.rng 0 1 m, S1) := (iRng_one (ac1 e1) (rOk_small (by omega))).trans (by rw [Int.toNat_natCast])
  obtain ⟨ρ', S2, e2, o3, o4, o5, U, rfl, r3, nx2, hd2, oth2, hU⟩ := loop_all (f := rngF) (src := .rng 0 1 m) (body := fun d ρ S => (gN 3 d ρ).bind fun ρ' => (sSeq (sSet 4 tpE) (sSub kSetD (eVar 2) (eVar 4) (opn f__law_taken (aCons (eVar 0) (aCons (eC (.int 3)) aNil))))) ρ' S)
    (fun dn ρ S' => ∃ o3 o4 o5 U, ρ = [some (.ref r), some (.int 4), some (.ref S.next), o3, o4, o5] ∧ RowAt r S' ∧ S'.next = S.next + 1 ∧ S'.ob S.next = some (.dic (dicD U)) ∧ (∀ n, n ≠ r → n ≠ S.next → S'.ob n = S.ob n) ∧ UOk U dn.length) (List.range m)
    (ρ := [some (.ref r), some (.int 4), some (.ref S.next), none, none, none]) (S := S1) ⟨none, none, none, [], rfl, r2, b1.nx, by rw [b1.ob _ ne]; exact hd, fun n h1 h2 => by rw [b1.ob n h1, new_ne h2], ⟨List.nodup_nil, fun _ h => absurd h List.not_mem_nil, Nat.le_refl _⟩⟩ (by
      rintro dn k post ρ S3' hk ⟨o3, o4, o5, U, rfl, g1, g2, g3, g4, g5⟩
      have hdn : dn.length < m := by
        have := congrArg List.length hk
        rw [List.length_range, List.length_append, List.length_cons] at this
        omega
      obtain ⟨p, S4, f1, f2, f3, f4, f5⟩ := run_tpath g1 (x1 := some (.int 4)) (x2 := some (.ref S.next)) (x3 := some (rngF k)) (x4 := o4) (x5 := o5)
      obtain ⟨v, S5, q1, v0, v3, q4, q5⟩ := tk_go (ρ := [some (.ref r), some (.int 4), some (.ref S.next), some (rngF k), some (pth p), o5]) (E := eC (.int 3)) rfl rfl f4 (by decide) (by decide)
      have hd5 : S5.ob S.next = some (.dic (dicD U)) := by rw [q5.ob _ ne, f5.ob _ ne]; exact g3
      have hs : kSetD (.ref S.next) (pth p) (.int v) S5 = some (S5.set S.next (.dic (dicD (putU U p v)))) := by
        rw [kSetD_pth _ hd5 (by have := g5.len; rw [dicD, List.length_map, sz]; omega), putU_dic]
      refine ⟨rfl, [some (.ref r), some (.int 4), some (.ref S.next), some (rngF k), some (pth p), o5], S5.set S.next (.dic (dicD (putU U p v))), ?_, _, _, _, putU U p v, rfl, ?_, ?_, set_self, fun n h1 h2 => ?_, ?_⟩
      · refine (bind_of (y := [some (.ref r), some (.int 4), some (.ref S.next), some (rngF k), o4, o5]) rfl).trans ?_
        refine (seq_nx (set_go (i := 4) f1)).trans ?_
        exact sub_go (d := .int v) (S1 := S5) (p := .ref S.next) (S2 := S5) (q := pth p) (S3' := S5) q1 rfl rfl hs
      · obtain ⟨sc, i, x, c, hh⟩ := q4
        exact ⟨sc, i, x, c, by rw [set_ne ne.symm]; exact hh⟩
      · exact q5.nx.trans (f5.nx.trans g2)
      · rw [set_ne h2, q5.ob n h1, f5.ob n h1, g4 n h1 h2]
      · rw [List.length_append, List.length_singleton]
        exact g5.put ⟨f2, v0, by show v ≤ 999; omega⟩) (fun _ _ _ => rfl)
  rw [List.length_range] at hU
  obtain ⟨t1, t2⟩ := treeOf_ok hU
  refine ⟨treeOf U, S2, ?_, t1, by omega, r3, ⟨by rw [nx2]; omega, fun n h1 h2 => oth2 n h2 (by omega)⟩⟩
  have hs : okSort ((U.map (·.1)).map pth) = true := okSort_pth _ (by have := hU.len; rw [List.length_map]; omega)
  have es : sortSrc S2 (.ref S.next) = some ((U.map (·.1)).map pth) := by
    unfold sortSrc
    simp only [hd2]
    show some ((dicD U).map (·.1)) = _
    unfold dicD
    rw [List.map_map, List.map_map]
    rfl
  have ek : kSorted false [.ref S.next] S2 = some (.lst ((sortP (U.map (·.1))).map pth), S2) := by
    unfold kSorted
    simp only [es, hs, if_true, newL]
    rw [sortL_pth]
    rfl
  have es2 : (iSeq (opn (kSorted false) (aCons (eVar 2) aNil))) [some (.ref r), some (.int 4), some (.ref S.next), o3, o4, o5] S2 = some (.seq (.lst ((sortP (U.map (·.1))).map pth)) ((sortP (U.map (·.1))).map pth), S2) := by
    unfold iSeq
    rw [(opn1 (k := kSorted false) (a := eVar 2) (x := .ref S.next) (S1 := S2) rfl).trans ek]
    rfl
  have e9 : (eLc false (iSeq (opn (kSorted false) (aCons (eVar 2) aNil))) (gN 4) bYes (opn G3.kTup (aCons (eVar 4) (aCons (op2 kDGet (eVar 2) (eVar 4)) aNil))) [4]) [some (.ref r), some (.int 4), some (.ref S.next), o3, o4, o5] S2 = some (.lst (trD (treeOf U)), S2) := by
    refine (lc_go es2 (lc_all (f := pth) (g := fun p => prD (p, (tf U p).getD 0)) (t := fun _ => true) (valid_lst _ _) (sortP (U.map (·.1))) [] (by have := hU.len; rw [sz, List.length_nil, (sortP_perm _).length_eq, List.length_map]; omega) fun p hp => ⟨[some (.ref r), some (.int 4), some (.ref S.next), o3, some (pth p), o5], rfl, rfl, fun _ => ?_⟩)).trans ?_
    · have : (tf U p).isSome = true := by rw [tf_isSome]; exact decide_eq_true (mem_sortP.mp hp)
      obtain ⟨w, hw⟩ := Option.isSome_iff_exists.mp this
      refine (opn2 (x := pth p) (S1 := S2) (y := .int w) (S2 := S2) rfl ((op2_go (x := .ref S.next) (S1 := S2) (y := pth p) (S2 := S2) rfl rfl).trans ((kDGet_pth hd2).trans (by rw [look_dic, hw]; rfl)))).trans ?_
      rw [hw]
      simp [G3.kTup, sz, prD]
    · rw [List.filter_eq_self.mpr fun _ _ => rfl]
      unfold treeOf trD
      rw [List.map_map]
      rfl
  refine fnM_rt (ρ := [some (.ref r), some (.int 4), none, none, none, none]) (ρ' := [some (.ref r), some (.int 4), some (.ref S.next), o3, o4, o5]) rfl rfl ?_
  have e0 : sSet 2 eDNew [some (.ref r), some (.int 4), none, none, none, none] S = some (.nx, [some (.ref r), some (.int 4), some (.ref S.next), none, none, none], S.new (.dic [])) := set_go (i := 2) (d := .ref S.next) (S' := S.new (.dic [])) rfl
  have ef : sFor (iRng (aCons (opn f__law_taken (aCons (eVar 0) (aCons (op2 (kAdd false) (eVar 1) (eC (.int 1))) aNil))) aNil)) (gN 3) (sSeq (sSet 4 tpE) (sSub kSetD (eVar 2) (eVar 4) (opn f__law_taken (aCons (eVar 0) (aCons (eC (.int 3)) aNil))))) [some (.ref r), some (.int 4), some (.ref S.next), none, none, none] (S.new (.dic [])) = some (.nx, [some (.ref r), some (.int 4), some (.ref S.next), o3, o4, o5], S2) := for_go ei e2
  exact (seq_nx e0).trans ((seq_nx ef).trans (ret_go e9))
end
end K8
set_option maxHeartbeats 1600000
/-! k08: what _law_bad gives. -/
namespace K8
open PySem PySem.Spec PySem.W PyProof.Rows L2 G3 Lst
theorem odd0 (S : S3) : f_is_key [.tup [.tup [.str "a", .str "a", .str "a", .str "a", .str "a"], .int 1]] S = some (.bl false, S) := by kernel_rfl
theorem odd1 (S : S3) : f_is_key [.tup [.tup [.str "A"], .int 1]] S = some (.bl false, S) := by kernel_rfl
theorem odd2 (S : S3) : f_is_key [.tup [.tup [.str "zzzz"], .int 1]] S = some (.bl false, S) := by kernel_rfl
theorem path_zz_z (S : S3) : f_is_path [.tup [.str "zz", .str "z"]] S = some (.bl true, S) := by kernel_rfl
theorem path_zz (S : S3) : f_is_path [.tup [.str "zz"]] S = some (.bl true, S) := by kernel_rfl
theorem odd5 (S : S3) : f_is_key [.tup [.tup [.str "zz"], .bl true]] S = some (.bl false, S) := by kernel_rfl
theorem odd6 (S : S3) : f_is_key [.tup [.str "zz", .int 1]] S = some (.bl false, S) := by kernel_rfl
theorem odd7 (S : S3) : f_is_key [.tup [.tup [.str "zz"]]] S = some (.bl false, S) := by kernel_rfl
theorem odd8 (S : S3) : f_is_key [.tup [.tup [.str "zz"], .int 1, .int 1]] S = some (.bl false, S) := by kernel_rfl
theorem odd9 (S : S3) : f_is_key [.tup []] S = some (.bl false, S) := by kernel_rfl
theorem odd10 (S : S3) : f_is_key [.int 5] S = some (.bl false, S) := by kernel_rfl
theorem odd_w {l : List D} {w : Int} (S : S3) (hp : f_is_path [.tup l] S = some (.bl true, S)) (hw : w < 0 ∨ 999 < w) : f_is_key [.tup [.tup l, .int w]] S = some (.bl false, S) := by
  have hi : kIsi "tuple" (.tup [.tup l, .int w]) S = some (.bl true, S) := rfl
  have hl : kEq (.int 2) (.int 2) S = some (.bl true, S) := kEq_gd rfl rfl (by decide) (by decide) S
  have h1 : kIx (.tup [.tup l, .int w]) (.int 0) S = some (.tup l, S) := rfl
  have h2 : kIx (.tup [.tup l, .int w]) (.int 1) S = some (.int w, S) := rfl
  have hkl : kLen [.tup [.tup l, .int w]] S = some (.int 2, S) := rfl
  have hw : f_is_whole [.int w, .int 0, .int 999] S = some (.bl false, S) := by
    have a1 : kIsi "int" (.int w) S = some (.bl true, S) := rfl
    have a2 : kIsi "bool" (.int w) S = some (.bl false, S) := rfl
    unfold f_is_whole fnM b_is_whole
    by_cases h0 : 0 ≤ w
    · have h9 : ¬ w ≤ 999 := by omega
      simp [sRet, eAnd, eNot, op1, eVar, a1, a2, eChain, kLe, kCmpI, h0, h9]
    · simp [sRet, eAnd, eNot, op1, eVar, a1, a2, eChain, kLe, kCmpI, h0]
  unfold f_is_key fnM b_is_key
  simp [sRet, eAnd, op1, op2, opn, aCons, aNil, eVar, eC, hi, hkl, hl, h1, h2, hp, hw]
def oddL (far : Int) : List D := [.tup [.tup [.str "a", .str "a", .str "a", .str "a", .str "a"], .int 1], .tup [.tup [.str "A"], .int 1], .tup [.tup [.str "zzzz"], .int 1], .tup [.tup [.str "zz", .str "z"], .int (1000 + far)], .tup [.tup [.str "zz"], .int (0 - 1 - far)],
  .tup [.tup [.str "zz"], .bl true], .tup [.str "zz", .int 1], .tup [.tup [.str "zz"]], .tup [.tup [.str "zz"], .int 1, .int 1], .tup [], .int 5]
theorem odd_all {far : Int} (h : 0 ≤ far) (S : S3) : ∀ d, d ∈ oddL far → f_is_key [d] S = some (.bl false, S) := by
  intro d hd
  simp only [oddL, List.mem_cons, List.not_mem_nil, or_false] at hd
  rcases hd with rfl | rfl | rfl | rfl | rfl | rfl | rfl | rfl | rfl | rfl | rfl
  · exact odd0 S
  · exact odd1 S
  · exact odd2 S
  · exact odd_w S (path_zz_z S) (by omega)
  · exact odd_w S (path_zz S) (by omega)
  · exact odd5 S
  · exact odd6 S
  · exact odd7 S
  · exact odd8 S
  · exact odd9 S
  · exact odd10 S
def BadD (T : LT) (d : D) : Prop := (∀ S, f_is_key [d] S = some (.bl false, S)) ∨ ∃ x y, d = prD x ∧ vK x ∧ T.getLast? = some y ∧ ¬ cl y.1 < cl x.1
theorem need_badD {T : LT} (h : Tree T) {d : D} {rest : List D} (hl : T.length ≤ 60) (hr : rest.length < 1000) (hb : BadD T d) (S : S3) : f_need_tree [.lst (trD T ++ d :: rest)] S = some (.inr (T.length : Nat), S) :=
  need_bad h hl hr S (.inr (hb.imp (fun q => q S) fun q => q))
theorem Tree.take {T : LT} (h : Tree T) (n : Nat) : Tree (T.take n) := ⟨List.Pairwise.sublist (List.take_sublist n T) h.ris, fun x hx => h.ok x (List.mem_of_mem_take hx)⟩
theorem kAdd_ll {l m : List D} (h : l.length + m.length ≤ sizeLine) (S : S3) : kAdd false (.lst l) (.lst m) S = some (.lst (l ++ m), S) := by
  unfold kAdd
  simp only [lstOf, newL]
  rw [if_pos h]
  rfl
theorem sl_to (l : List D) (n : Nat) (S : S3) : kSl false (.lst l) none (some (n : Int)) S = some (.lst (l.take n), S) := by
  show newL false (G3.cutD l none (some (n : Int))) S = _
  rw [cutD_to]
  rfl
theorem sl_from (l : List D) (n : Nat) (S : S3) : kSl false (.lst l) (some (n : Int)) none S = some (.lst (l.drop n), S) := by
  show newL false (G3.cutD l (some (n : Int)) none) S = _
  rw [cutD_from]
  rfl
theorem eSl_to {e h : ME} {ρ : En} {S S1 S2 : S3} {l : List D} {n : Nat} (h1 : e ρ S = some (.lst l, S1)) (h2 : h ρ S1 = some (.int (n : Int), S2)) : eSl (kSl false) e oNone (oSome h) ρ S = some (.lst (l.take n), S2) := by
  unfold eSl oNone oSome
  rw [h1]
  simp only [Option.bind_some]
  rw [h2]
  exact sl_to l n S2
theorem eSl_from {e h : ME} {ρ : En} {S S1 S2 : S3} {l : List D} {n : Nat} (h1 : e ρ S = some (.lst l, S1)) (h2 : h ρ S1 = some (.int (n : Int), S2)) : eSl (kSl false) e (oSome h) oNone ρ S = some (.lst (l.drop n), S2) := by
  unfold eSl oNone oSome
  rw [h1]
  simp only [Option.bind_some]
  rw [h2]
  exact sl_from l n S2
theorem and_false {a b : MB} {ρ : En} {S S1 : S3} (h : a ρ S = some (false, S1)) : bAnd a b ρ S = some (false, S1) := by
  unfold bAnd
  rw [h]
  rfl
theorem and_true {a b : MB} {ρ : En} {S S1 : S3} (h : a ρ S = some (true, S1)) : bAnd a b ρ S = b ρ S1 := by
  unfold bAnd
  rw [h]
  rfl
theorem kTup_ok {l : List D} (h : l.length ≤ sizeLine) (S : S3) : G3.kTup l S = some (.tup l, S) := by
  unfold G3.kTup
  rw [if_pos h]
theorem kLst_ok {l : List D} (h : l.length ≤ sizeLine) (S : S3) : kLst false l S = some (.lst l, S) := by
  unfold kLst
  rw [if_pos h]
  rfl
theorem ne_nil (T : LT) (hT : okT T) (S : S3) : kNe (.lst (trD T)) (.lst []) S = some (.bl (!decide (T = [])), S) := by
  have d2 := dp_trD T
  rw [kNe_gd (by simpa [gd] using gd_trD hT) rfl (by simp only [dp]; omega) (by decide)]
  have : (D.lst (trD T) = D.lst []) ↔ T = [] := by
    rw [D.lst.injEq]
    exact ⟨fun e => trD_inj (U := []) e, fun e => by rw [e]; rfl⟩
  simp only [this]
theorem kEq_int (i j : Int) (S : S3) : kEq (.int i) (.int j) S = some (.bl (decide (i = j)), S) := by
  rw [kEq_gd rfl rfl (by simp [dp]) (by simp [dp])]
  simp
section
variable {r : Nat}
/-- what is asked of a bad tree's telling -/
def BadOut (r : Nat) (S : S3) (d : D) (S' : S3) : Prop := ∃ T1 e rest, d = .tup [.lst (trD T1 ++ e :: rest), .int (T1.length : Int)] ∧ Tree T1 ∧ T1.length ≤ 60 ∧ rest.length < 1000 ∧ BadD T1 e ∧ RowAt r S' ∧ But r S S'
def twiceS : MS := (sSeq (sSet 5 (opn f__law_taken (aCons (eVar 0) (aCons (opn (kLen) (aCons (eVar 1) aNil)) aNil)))) (sRet (opn G3.kTup (aCons (op2 (kAdd false) (op2 (kAdd false) (eSl (kSl false) (eVar 1) oNone (oSome (op2 (kAdd false) (eVar 5) (eC (.int 1))))) (opn (kLst false) (aCons (opn G3.kTup (aCons (op2 kIx (op2 kIx (eVar 1) (eVar 5)) (eC (.int 0))) (aCons (eC (.int 7)) aNil))) aNil))) (eSl (kSl false) (eVar 1) (oSome (op2 (kAdd false) (eVar 5) (eC (.int 1)))) oNone)) (aCons (op2 (kAdd false) (eVar 5) (eC (.int 1))) aNil)))))
def againS : MS := (sRet (opn G3.kTup (aCons (op2 (kAdd false) (eVar 1) (opn (kLst false) (aCons (op2 kIx (eVar 1) (opn f__law_taken (aCons (eVar 0) (aCons (opn (kLen) (aCons (eVar 1) aNil)) aNil)))) aNil))) (aCons (opn (kLen) (aCons (eVar 1) aNil)) aNil))))
def lastS : MS := (sRet (opn G3.kTup (aCons (op2 (kAdd false) (op2 (kAdd false) (eSl (kSl false) (eVar 1) oNone (oSome (eVar 3))) (opn (kLst false) (aCons (op2 kIx (eVar 4) (opn f__law_taken (aCons (eVar 0) (aCons (eC (.int 11)) aNil)))) aNil))) (eSl (kSl false) (eVar 1) (oSome (eVar 3)) oNone)) (aCons (eVar 3) aNil))))
def oE1 : ME := (op2 kIx (opn (kLst false) (aCons (eC (.int 0)) (aCons (opn f__law_taken (aCons (eVar 0) (aCons (op2 (kPow) (eC (.int 10)) (eC (.int 6))) aNil))) aNil))) (opn f__law_taken (aCons (eVar 0) (aCons (eC (.int 2)) aNil))))
def oE2 : ME := (opn f__law_taken (aCons (eVar 0) (aCons (op2 (kAdd false) (opn (kLen) (aCons (eVar 1) aNil)) (eC (.int 1))) aNil)))
def oE3 : ME := (opn (kLst false) (aCons (opn G3.kTup (aCons (op2 kMulT (opn G3.kTup (aCons (eC (.str "a")) aNil)) (eC (.int 5))) (aCons (eC (.int 1)) aNil))) (aCons (opn G3.kTup (aCons (opn G3.kTup (aCons (eC (.str "A")) aNil)) (aCons (eC (.int 1)) aNil))) (aCons (opn G3.kTup (aCons (opn G3.kTup (aCons (eC (.str "zzzz")) aNil)) (aCons (eC (.int 1)) aNil))) (aCons (opn G3.kTup (aCons (opn G3.kTup (aCons (eC (.str "zz")) (aCons (eC (.str "z")) aNil))) (aCons (op2 (kAdd false) (eC (.int 1000)) (eVar 2)) aNil))) (aCons (opn G3.kTup (aCons (opn G3.kTup (aCons (eC (.str "zz")) aNil)) (aCons (op2 (kSub) (op2 (kSub) (eC (.int 0)) (eC (.int 1))) (eVar 2)) aNil))) aNil))))))
def oE4 : ME := (op2 (kAdd false) (eVar 4) (opn (kLst false) (aCons (opn G3.kTup (aCons (opn G3.kTup (aCons (eC (.str "zz")) aNil)) (aCons (eC (.bl true)) aNil))) (aCons (opn G3.kTup (aCons (eC (.str "zz")) (aCons (eC (.int 1)) aNil))) (aCons (opn G3.kTup (aCons (opn G3.kTup (aCons (eC (.str "zz")) aNil)) aNil)) (aCons (opn G3.kTup (aCons (opn G3.kTup (aCons (eC (.str "zz")) aNil)) (aCons (eC (.int 1)) (aCons (eC (.int 1)) aNil)))) (aCons (opn G3.kTup aNil) (aCons (eC (.int 5)) aNil))))))))
theorem run_o34 {x0 x1 x3 x4 x5 : Option D} {far : Int} (S : S3) : ∃ L, oE3 [x0, x1, some (.int far), x3, x4, x5] S = some (L, S) ∧ oE4 [x0, x1, some (.int far), x3, some L, x5] S = some (.lst (oddL far), S) := by
  have hs : (5 : Nat) ≤ sizeLine := by rw [sz]; decide
  have km : kMulT (.tup [.str "a"]) (.int 5) S = some (.tup [.str "a", .str "a", .str "a", .str "a", .str "a"], S) := rfl
  refine ⟨.lst ((oddL far).take 5), ?_, ?_⟩
  · unfold oE3
    simp only [opn, aCons, aNil, op2, eC, eVar, Option.bind_some, List.getElem?_cons_succ, List.getElem?_cons_zero, kTup_ok (show ([D.str "a"] : List D).length ≤ sizeLine from Nat.le_trans (by decide) hs), km]
    simp [G3.kTup, kLst, sz, newL, kAdd, kSub, kInt2, oddL]
  · unfold oE4
    refine (op2_go (x := .lst ((oddL far).take 5)) (S1 := S) (y := .lst ((oddL far).drop 5)) (S2 := S) rfl ?_).trans ((kAdd_ll (by rw [sz]; exact (by decide : (11 : Nat) ≤ 16777216)) S).trans rfl)
    simp [opn, aCons, aNil, eC, G3.kTup, kLst, sz, newL, oddL]
theorem kPow6 (S : S3) : kPow (.int 10) (.int 6) S = some (.int 1000000, S) := by
  have h : decide ((0 : Int) ≤ 6 ∧ (6 : Int) ≤ 1000000 ∧ (10 : Int).natAbs < 2 ^ 64) = true := by decide +kernel
  show (if decide ((0 : Int) ≤ 6 ∧ (6 : Int) ≤ 1000000 ∧ (10 : Int).natAbs < 2 ^ 64) = true then some (D.int ((10 : Int) ^ (6 : Int).toNat), S) else none) = _
  rw [if_pos h]
  rfl
theorem run_o1 {S : S3} (h : RowAt r S) {x1 x2 x3 x4 x5 : Option D} : ∃ far S', oE1 [some (.ref r), x1, x2, x3, x4, x5] S = some (.int far, S') ∧ 0 ≤ far ∧ RowAt r S' ∧ But r S S' := by
  obtain ⟨v, S1, e1, v0, v9, r1, b1⟩ := tk_go (ρ := [some (.ref r), x1, x2, x3, x4, x5]) (E := op2 (kPow) (eC (.int 10)) (eC (.int 6))) rfl ((op2_go (x := .int 10) (S1 := S) (y := .int 6) (S2 := S) rfl rfl).trans (kPow6 S)) h (by decide) (by decide)
  obtain ⟨u, S2, e2, u0, u2, r2, b2⟩ := tk_go (ρ := [some (.ref r), x1, x2, x3, x4, x5]) (E := eC (.int 2)) rfl rfl r1 (by decide) (by decide)
  have e3 := (opn2 (k := kLst false) (a := eC (.int 0)) (x := .int 0) (S1 := S) rfl e1).trans (kLst_ok (l := [.int 0, .int v]) (by rw [sz]; exact (by decide : (2 : Nat) ≤ 16777216)) S1)
  rcases (show u = 0 ∨ u = 1 by omega) with rfl | rfl
  · exact ⟨0, S2, (op2_go e3 e2).trans rfl, Int.le_refl _, r2, b1.trans b2⟩
  · exact ⟨v, S2, (op2_go e3 e2).trans rfl, v0, r2, b1.trans b2⟩
theorem run_bad {S : S3} {T : LT} (h : RowAt r S) (hT : Tree T) (hl : T.length ≤ 4) : ∃ d S', f__law_bad [.ref r, .lst (trD T)] S = some (d, S') ∧ BadOut r S d S' := by
  obtain ⟨far, S1, e1, f0, r1, b1⟩ := run_o1 h (x1 := some (.lst (trD T))) (x2 := none) (x3 := none) (x4 := none) (x5 := none)
  have kl : ∀ S, kLen [.lst (trD T)] S = some (.int (T.length : Nat), S) := fun S => by rw [kLen_lst, trD, List.length_map]
  have ea : ∀ (S : S3) (x2 x3 x4 x5 : Option D), opn kLen (aCons (eVar 1) aNil) [some (.ref r), some (.lst (trD T)), x2, x3, x4, x5] S = some (.int (T.length : Nat), S) := fun S x2 x3 x4 x5 => (opn1 (x := .lst (trD T)) (S1 := S) rfl).trans (kl S)
  obtain ⟨av, S2, e2, a0, a9, r2, b2⟩ := tk_go (ρ := [some (.ref r), some (.lst (trD T)), some (.int far), none, none, none]) (E := op2 (kAdd false) (opn (kLen) (aCons (eVar 1) aNil)) (eC (.int 1))) (many := (T.length : Int) + 1) rfl ((op2_go (y := .int 1) (S2 := S1) (ea S1 _ _ _ _) rfl).trans rfl) r1 (by omega) (by omega)
  obtain ⟨at_, rfl⟩ : ∃ m : Nat, av = (m : Int) := ⟨av.toNat, (Int.toNat_of_nonneg a0).symm⟩
  obtain ⟨L, e3, e4⟩ := run_o34 (x0 := some (.ref r)) (x1 := some (.lst (trD T))) (x3 := some (.int (at_ : Int))) (x4 := none) (x5 := none) (far := far) S2
  have n1 : ∀ (S : S3) (x5 : Option D), bVal (op2 kNe (eVar 1) (opn (kLst false) aNil)) [some (.ref r), some (.lst (trD T)), some (.int far), some (.int (at_ : Int)), some (.lst (oddL far)), x5] S = some (!decide (T = []), S) := fun S x5 =>
    val_go ((op2_go (x := .lst (trD T)) (S1 := S) (y := .lst []) (S2 := S) rfl (by simp [opn, aNil, kLst, newL])).trans (ne_nil T hT.okT S))
  have hlt : (trD T).length = T.length := by rw [trD, List.length_map]
  have hs : ∀ n : Nat, n ≤ 100 → n ≤ sizeLine := fun n h => by rw [sz]; omega
  -- the last row
  have last : ∀ (S : S3) (x5 : Option D), RowAt r S → ∃ d S', lastS [some (.ref r), some (.lst (trD T)), some (.int far), some (.int (at_ : Int)), some (.lst (oddL far)), x5] S = some (.rt d, [some (.ref r), some (.lst (trD T)), some (.int far), some (.int (at_ : Int)), some (.lst (oddL far)), x5], S') ∧ BadOut r S d S' := by
    intro S x5 hrow
    obtain ⟨u, S3', e5, u0, u9, r3, b3⟩ := tk_go (ρ := [some (.ref r), some (.lst (trD T)), some (.int far), some (.int (at_ : Int)), some (.lst (oddL far)), x5]) (E := eC (.int 11)) rfl rfl hrow (by decide) (by decide)
    obtain ⟨k, rfl⟩ : ∃ m : Nat, u = (m : Int) := ⟨u.toNat, (Int.toNat_of_nonneg u0).symm⟩
    have hk : k < (oddL far).length := by show k < 11; omega
    have hx : kIx (.lst (oddL far)) (.int (k : Int)) S3' = some ((oddL far)[k], S3') := kIx_lst (List.getElem?_eq_getElem hk) S3'
    have hd : (oddL far)[k] ∈ oddL far := List.getElem_mem hk
    generalize (oddL far)[k] = d at hx hd
    have l1 : ((trD T).take at_).length ≤ 4 := by rw [List.length_take]; omega
    have l2 : ((trD T).drop at_).length ≤ 4 := by rw [List.length_drop]; omega
    have t1 : (trD T).take at_ = trD (T.take at_) := by unfold trD; rw [List.map_take]
    have hlen : (T.take at_).length = at_ := by rw [List.length_take]; omega
    refine ⟨.tup [.lst (trD (T.take at_) ++ d :: (trD T).drop at_), .int (at_ : Int)], S3', ?_, T.take at_, d, (trD T).drop at_, by rw [hlen], hT.take at_, by rw [hlen]; omega, by omega, .inl fun S => odd_all f0 S d hd, r3, b3⟩
    refine ret_go ((opn2 (x := .lst (trD (T.take at_) ++ d :: (trD T).drop at_)) (S1 := S3') (y := .int (at_ : Int)) (S2 := S3') ?_ rfl).trans (kTup_ok (hs _ (by simp)) S3'))
    refine (op2_go (x := .lst (trD (T.take at_) ++ [d])) (S1 := S3') (y := .lst ((trD T).drop at_)) (S2 := S3') ?_ (eSl_from (S1 := S3') rfl rfl)).trans ?_
    · refine (op2_go (x := .lst ((trD T).take at_)) (S1 := S) (y := .lst [d]) (S2 := S3') (eSl_to (S1 := S) rfl rfl) ?_).trans ?_
      · exact (opn1 ((op2_go (x := .lst (oddL far)) (S1 := S) rfl e5).trans hx)).trans (kLst_ok (hs _ (by simp)) S3')
      · rw [kAdd_ll (hs _ (by simp only [List.length_singleton]; omega)), t1]
    · rw [kAdd_ll (hs _ (by rw [List.length_append, List.length_singleton, ← t1]; omega)), List.append_assoc]
      rfl
  -- a key told again
  have again : ∀ (S : S3) (x5 : Option D), RowAt r S → T ≠ [] → ∃ d S', againS [some (.ref r), some (.lst (trD T)), some (.int far), some (.int (at_ : Int)), some (.lst (oddL far)), x5] S = some (.rt d, [some (.ref r), some (.lst (trD T)), some (.int far), some (.int (at_ : Int)), some (.lst (oddL far)), x5], S') ∧ BadOut r S d S' := by
    intro S x5 hrow hne
    have hpos : 0 < T.length := List.length_pos_iff.mpr hne
    obtain ⟨u, S3', e5, u0, u9, r3, b3⟩ := tk_go (ρ := [some (.ref r), some (.lst (trD T)), some (.int far), some (.int (at_ : Int)), some (.lst (oddL far)), x5]) (E := opn (kLen) (aCons (eVar 1) aNil)) rfl (ea S _ _ _ _) hrow (by omega) (by omega)
    obtain ⟨k, rfl⟩ : ∃ m : Nat, u = (m : Int) := ⟨u.toNat, (Int.toNat_of_nonneg u0).symm⟩
    have hk : k < T.length := by omega
    have hat : (trD T)[k]? = some (prD T[k]) := by rw [trD, List.getElem?_map, List.getElem?_eq_getElem hk]; rfl
    refine ⟨.tup [.lst (trD T ++ [prD T[k]]), .int (T.length : Int)], S3', ?_, T, prD T[k], [], rfl, hT, by omega, by simp, .inr ⟨T[k], T[T.length - 1], rfl, hT.ok _ (List.getElem_mem hk), by rw [List.getLast?_eq_getElem?, List.getElem?_eq_getElem (by omega)], ?_⟩, r3, b3⟩
    · refine ret_go ((opn2 (x := .lst (trD T ++ [prD T[k]])) (S1 := S3') (y := .int (T.length : Int)) (S2 := S3') ?_ (ea S3' _ _ _ _)).trans (kTup_ok (hs _ (by simp)) S3'))
      refine (op2_go (x := .lst (trD T)) (S1 := S) (y := .lst [prD T[k]]) (S2 := S3') rfl ?_).trans (kAdd_ll (hs _ (by simp only [List.length_singleton]; omega)) S3')
      exact (opn1 ((op2_go (x := .lst (trD T)) (S1 := S) rfl e5).trans (kIx_lst hat S3'))).trans (kLst_ok (hs _ (by simp)) S3')
    · rcases Nat.lt_or_ge k (T.length - 1) with q | q
      · have := List.pairwise_iff_getElem.mp hT.ris k (T.length - 1) hk (by omega) q
        exact fun z => List.lt_irrefl _ (List.lt_trans z this)
      · have : k = T.length - 1 := by omega
        subst this
        exact List.lt_irrefl _
  -- a path told twice
  have twice : ∀ (S : S3), RowAt r S → T ≠ [] → ∃ d ρ' S', twiceS [some (.ref r), some (.lst (trD T)), some (.int far), some (.int (at_ : Int)), some (.lst (oddL far)), none] S = some (.rt d, ρ', S') ∧ BadOut r S d S' := by
    intro S hrow hne
    have hpos : 0 < T.length := List.length_pos_iff.mpr hne
    obtain ⟨u, S3', e5, u0, u9, r3, b3⟩ := tk_go (ρ := [some (.ref r), some (.lst (trD T)), some (.int far), some (.int (at_ : Int)), some (.lst (oddL far)), none]) (E := opn (kLen) (aCons (eVar 1) aNil)) rfl (ea S _ _ _ _) hrow (by omega) (by omega)
    obtain ⟨k, rfl⟩ : ∃ m : Nat, u = (m : Int) := ⟨u.toNat, (Int.toNat_of_nonneg u0).symm⟩
    have hk : k < T.length := by omega
    have hat : (trD T)[k]? = some (prD T[k]) := by rw [trD, List.getElem?_map, List.getElem?_eq_getElem hk]; rfl
    have ek : op2 (kAdd false) (eVar 5) (eC (.int 1)) [some (.ref r), some (.lst (trD T)), some (.int far), some (.int (at_ : Int)), some (.lst (oddL far)), some (.int (k : Int))] S3' = some (.int ((k + 1 : Nat) : Int), S3') := (op2_go (x := .int (k : Int)) (S1 := S3') (y := .int 1) (S2 := S3') rfl rfl).trans rfl
    have l1 : ((trD T).take (k + 1)).length ≤ 4 := by rw [List.length_take]; omega
    have l2 : ((trD T).drop (k + 1)).length ≤ 4 := by rw [List.length_drop]; omega
    have t1 : (trD T).take (k + 1) = trD (T.take (k + 1)) := by unfold trD; rw [List.map_take]
    have hlen : (T.take (k + 1)).length = k + 1 := by rw [List.length_take]; omega
    refine ⟨.tup [.lst (trD (T.take (k + 1)) ++ prD (T[k].1, 7) :: (trD T).drop (k + 1)), .int ((k + 1 : Nat) : Int)], _, S3', (seq_nx (set_go (i := 5) e5)).trans (ret_go ?_), T.take (k + 1), prD (T[k].1, 7), (trD T).drop (k + 1), by rw [hlen], hT.take _, by rw [hlen]; omega, by omega, .inr ⟨(T[k].1, 7), T[k], rfl, ⟨(hT.ok _ (List.getElem_mem hk)).1, by show (0 : Int) ≤ 7; decide, by show (7 : Int) ≤ 999; decide⟩, ?_, List.lt_irrefl _⟩, r3, b3⟩
    · simp only [List.set_cons_succ, List.set_cons_zero]
      refine (opn2 (x := .lst (trD (T.take (k + 1)) ++ prD (T[k].1, 7) :: (trD T).drop (k + 1))) (S1 := S3') (y := .int ((k + 1 : Nat) : Int)) (S2 := S3') ?_ ek).trans (kTup_ok (hs _ (by simp)) S3')
      refine (op2_go (x := .lst (trD (T.take (k + 1)) ++ [prD (T[k].1, 7)])) (S1 := S3') (y := .lst ((trD T).drop (k + 1))) (S2 := S3') ?_ (eSl_from (S1 := S3') rfl ek)).trans ?_
      · refine (op2_go (x := .lst ((trD T).take (k + 1))) (S1 := S3') (y := .lst [prD (T[k].1, 7)]) (S2 := S3') (eSl_to (S1 := S3') rfl ek) ?_).trans ?_
        · have e6 : op2 kIx (op2 kIx (eVar 1) (eVar 5)) (eC (.int 0)) [some (.ref r), some (.lst (trD T)), some (.int far), some (.int (at_ : Int)), some (.lst (oddL far)), some (.int (k : Int))] S3' = some (pth T[k].1, S3') :=
            (op2_go (x := prD T[k]) (S1 := S3') (y := .int 0) (S2 := S3') ((op2_go (x := .lst (trD T)) (S1 := S3') (y := .int (k : Int)) (S2 := S3') rfl rfl).trans (kIx_lst hat S3')) rfl).trans rfl
          exact (opn1 ((opn2 (x := pth T[k].1) (S1 := S3') (y := .int 7) (S2 := S3') e6 rfl).trans (kTup_ok (hs _ (by simp)) S3'))).trans (kLst_ok (hs _ (by simp)) S3')
        · rw [kAdd_ll (hs _ (by simp only [List.length_singleton]; omega)), t1]
      · rw [kAdd_ll (hs _ (by rw [List.length_append, List.length_singleton, ← t1]; omega)), List.append_assoc]
        rfl
    · rw [List.getLast?_eq_getElem?, hlen, Nat.add_sub_cancel, List.getElem?_take_of_lt (by omega), List.getElem?_eq_getElem hk]
  -- the def
  have start : ∀ (d : D) (ρ' : En) (S' : S3), ((sSeq (sIf (bAnd (bVal (op2 (kNe) (eVar 1) (opn (kLst false) aNil))) (bVal (op2 (kEq) (opn f__law_taken (aCons (eVar 0) (aCons (eC (.int 4)) aNil))) (eC (.int 3))))) twiceS sSkip)
  (sSeq (sIf (bAnd (bVal (op2 (kNe) (eVar 1) (opn (kLst false) aNil))) (bVal (op2 (kEq) (opn f__law_taken (aCons (eVar 0) (aCons (eC (.int 6)) aNil))) (eC (.int 5))))) againS sSkip)
  lastS)) [some (.ref r), some (.lst (trD T)), some (.int far), some (.int (at_ : Int)), some (.lst (oddL far)), none] S2 = some (.rt d, ρ', S')) → f__law_bad [.ref r, .lst (trD T)] S = some (d, S') := by
    intro d ρ' S' e
    refine fnM_rt (ρ := [some (.ref r), some (.lst (trD T)), none, none, none, none]) (ρ' := ρ') rfl rfl ?_
    exact (seq_nx (set_go (i := 2) e1)).trans ((seq_nx (set_go (i := 3) e2)).trans ((seq_nx (set_go (i := 4) e3)).trans ((seq_nx (set_go (i := 4) e4)).trans e)))
  have bb : ∀ {d : D} {S3' S4 : S3}, But r S2 S3' → BadOut r S3' d S4 → BadOut r S d S4 := fun {d S3' S4} b ⟨T1, e, rest, h1, h2, h3, h4, h5, h6, h7⟩ => ⟨T1, e, rest, h1, h2, h3, h4, h5, h6, (b1.trans b2).trans (b.trans h7)⟩
  by_cases hne : T = []
  · have c1 : ∀ (S : S3) (x5 : Option D) (q : MB), (bAnd (bVal (op2 (kNe) (eVar 1) (opn (kLst false) aNil))) q) [some (.ref r), some (.lst (trD T)), some (.int far), some (.int (at_ : Int)), some (.lst (oddL far)), x5] S = some (false, S) := fun S x5 q => and_false ((n1 S x5).trans (by simp [hne]))
    obtain ⟨d, S', e, hb⟩ := last S2 none r2
    exact ⟨d, S', start d _ S' ((seq_nx ((if_go (c1 S2 none _)).trans rfl)).trans ((seq_nx ((if_go (c1 S2 none _)).trans rfl)).trans e)), bb (But.refl _ _) hb⟩
  · have c1 : ∀ (S : S3) (x5 : Option D) (q : MB), (bAnd (bVal (op2 (kNe) (eVar 1) (opn (kLst false) aNil))) q) [some (.ref r), some (.lst (trD T)), some (.int far), some (.int (at_ : Int)), some (.lst (oddL far)), x5] S = q [some (.ref r), some (.lst (trD T)), some (.int far), some (.int (at_ : Int)), some (.lst (oddL far)), x5] S := fun S x5 q => and_true ((n1 S x5).trans (by simp [hne]))
    obtain ⟨u, S3', e5, u0, u9, r3, b3⟩ := tk_go (ρ := [some (.ref r), some (.lst (trD T)), some (.int far), some (.int (at_ : Int)), some (.lst (oddL far)), none]) (E := eC (.int 4)) rfl rfl r2 (by decide) (by decide)
    have t1 := (c1 S2 none _).trans (val_go ((op2_go (k := kEq) (g := eC (.int 3)) (y := .int 3) (S2 := S3') e5 rfl).trans (kEq_int u 3 S3')))
    by_cases hu : u = 3
    · obtain ⟨d, ρ', S', e, hb⟩ := twice S3' r3 hne
      refine ⟨d, S', start d ρ' S' (seq_rt ((if_go t1).trans ?_)), bb b3 hb⟩
      rw [if_pos (decide_eq_true hu)]
      exact e
    · obtain ⟨v, S4, e6, v0, v9, r4, b4⟩ := tk_go (ρ := [some (.ref r), some (.lst (trD T)), some (.int far), some (.int (at_ : Int)), some (.lst (oddL far)), none]) (E := eC (.int 6)) rfl rfl r3 (by decide) (by decide)
      have t2 := (c1 S3' none _).trans (val_go ((op2_go (k := kEq) (g := eC (.int 5)) (y := .int 5) (S2 := S4) e6 rfl).trans (kEq_int v 5 S4)))
      have s1 := (if_go (a := twiceS) (b := sSkip) t1).trans (if_neg fun z => hu (of_decide_eq_true z))
      by_cases hv : v = 5
      · obtain ⟨d, S', e, hb⟩ := again S4 none r4 hne
        refine ⟨d, S', start d [some (.ref r), some (.lst (trD T)), some (.int far), some (.int (at_ : Int)), some (.lst (oddL far)), none] S' ((seq_nx (s1.trans rfl)).trans (seq_rt ((if_go t2).trans ?_))), bb (b3.trans b4) hb⟩
        rw [if_pos (decide_eq_true hv)]
        exact e
      · obtain ⟨d, S', e, hb⟩ := last S4 none r4
        have s2 := (if_go (a := againS) (b := sSkip) t2).trans (if_neg fun z => hv (of_decide_eq_true z))
        exact ⟨d, S', start d _ S' ((seq_nx (s1.trans rfl)).trans ((seq_nx (s2.trans rfl)).trans e)), bb (b3.trans b4) hb⟩
end
end K8
set_option maxHeartbeats 1600000
/-! k08: what _law_alike gives of a tree and the same. -/
namespace K8
open PySem PySem.Spec PySem.W PyProof.Rows L2 G3 Lst
theorem or_false {a b : MB} {ρ : En} {S S1 : S3} (h : a ρ S = some (false, S1)) : bOr a b ρ S = b ρ S1 := by
  unfold bOr
  rw [h]
  rfl
theorem or_true {a b : MB} {ρ : En} {S S1 : S3} (h : a ρ S = some (true, S1)) : bOr a b ρ S = some (true, S1) := by
  unfold bOr
  rw [h]
  rfl
theorem not_go {a : MB} {ρ : En} {S S1 : S3} {x : Bool} (h : a ρ S = some (x, S1)) : bNot a ρ S = some (!x, S1) := by
  unfold bNot
  rw [h]
  rfl
theorem op1_go {k : D → M D} {a : ME} {ρ : En} {S S1 : S3} {x : D} (h : a ρ S = some (x, S1)) : op1 k a ρ S = k x S1 := by
  unfold op1
  rw [h]
  rfl
theorem and_val {a b : ME} {ρ : En} {S S1 : S3} (h : a ρ S = some (.bl true, S1)) : eAnd a b ρ S = b ρ S1 := by
  unfold eAnd
  rw [h]
  rfl
theorem kNe_int (i j : Int) (S : S3) : kNe (.int i) (.int j) S = some (.bl (!decide (i = j)), S) := by
  rw [kNe_gd rfl rfl (by simp [dp]) (by simp [dp])]
  simp
section
variable {n : Nat}
/-- a text, a number -/
theorem alike_flat {d : D} (hd : (∃ x, d = .str x ∧ okS x) ∨ ∃ i, d = .int i) (S : S3) : f__law_alike (n + 1) [d, d] S = some (.bl true, S) := by
  refine fnM_rt (ρ := [some d, some d, none, none]) (ρ' := [some d, some d, none, none]) rfl rfl ?_
  rcases hd with ⟨x, rfl, hx⟩ | ⟨i, rfl⟩
  · have k : ∀ T : String, kIsi T (.str x) S = (kitB "str" T).map fun b => (.bl b, S) := fun _ => rfl
    have i0 : ∀ T : String, op1 (kIsi T) (eVar 1) [some (.str x), some (.str x), none, none] S = (kitB "str" T).map fun b => (.bl b, S) := fun T => (op1_go (x := .str x) (S1 := S) rfl).trans (k T)
    have i1 : ∀ T : String, op1 (kIsi T) (eVar 0) [some (.str x), some (.str x), none, none] S = (kitB "str" T).map fun b => (.bl b, S) := fun T => (op1_go (x := .str x) (S1 := S) rfl).trans (k T)
    unfold b__law_alike
    refine (seq_nx ((if_go (val_go ((i0 "dict").trans rfl))).trans rfl)).trans ?_
    refine (seq_nx ((if_go ((or_false (val_go ((i0 "tuple").trans rfl))).trans (val_go ((i0 "list").trans rfl)))).trans rfl)).trans ?_
    refine (seq_nx ((if_go ((or_false (val_go ((op2_go (x := .str x) (S1 := S) (y := .non) (S2 := S) rfl rfl).trans rfl))).trans (val_go ((op2_go (x := .str x) (S1 := S) (y := .non) (S2 := S) rfl rfl).trans rfl)))).trans rfl)).trans ?_
    refine (seq_nx ((if_go ((or_false (val_go ((i0 "bool").trans rfl))).trans (val_go ((i1 "bool").trans rfl)))).trans rfl)).trans ?_
    refine seq_rt ((if_go (val_go ((i0 "str").trans rfl))).trans ?_)
    rw [if_pos rfl]
    refine ret_go ((and_val ((i1 "str").trans rfl)).trans ?_)
    refine (op2_go (x := .str x) (S1 := S) (y := .str x) (S2 := S) rfl rfl).trans ?_
    rw [kEq_gd (d := .str x) (e := .str x) hx hx (Nat.zero_le _) (Nat.zero_le _)]
    simp
  · have k : ∀ T : String, kIsi T (.int i) S = (kitB "int" T).map fun b => (.bl b, S) := fun _ => rfl
    have i0 : ∀ T : String, op1 (kIsi T) (eVar 1) [some (.int i), some (.int i), none, none] S = (kitB "int" T).map fun b => (.bl b, S) := fun T => (op1_go (x := .int i) (S1 := S) rfl).trans (k T)
    have i1 : ∀ T : String, op1 (kIsi T) (eVar 0) [some (.int i), some (.int i), none, none] S = (kitB "int" T).map fun b => (.bl b, S) := fun T => (op1_go (x := .int i) (S1 := S) rfl).trans (k T)
    unfold b__law_alike
    refine (seq_nx ((if_go (val_go ((i0 "dict").trans rfl))).trans rfl)).trans ?_
    refine (seq_nx ((if_go ((or_false (val_go ((i0 "tuple").trans rfl))).trans (val_go ((i0 "list").trans rfl)))).trans rfl)).trans ?_
    refine (seq_nx ((if_go ((or_false (val_go ((op2_go (x := .int i) (S1 := S) (y := .non) (S2 := S) rfl rfl).trans rfl))).trans (val_go ((op2_go (x := .int i) (S1 := S) (y := .non) (S2 := S) rfl rfl).trans rfl)))).trans rfl)).trans ?_
    refine (seq_nx ((if_go ((or_false (val_go ((i0 "bool").trans rfl))).trans (val_go ((i1 "bool").trans rfl)))).trans rfl)).trans ?_
    refine (seq_nx ((if_go (val_go ((i0 "str").trans rfl))).trans rfl)).trans ?_
    refine ret_go ((and_val ((i1 "int").trans rfl)).trans ?_)
    exact (op2_go (x := .int i) (S1 := S) (y := .int i) (S2 := S) rfl rfl).trans ((kEq_int i i S).trans (by simp))
/-- a tuple, a list -/
theorem alike_node {d : D} {l : List D} (hd : d = .tup l ∨ d = .lst l) (hl : l.length < 2000) (hi : ∀ x, x ∈ l → ∀ S, f__law_alike n [x, x] S = some (.bl true, S)) (S : S3) : f__law_alike (n + 1) [d, d] S = some (.bl true, S) := by
  have hlen : ∀ S, kLen [d] S = some (.int (l.length : Nat), S) := fun S => by rcases hd with rfl | rfl <;> rfl
  have hix : ∀ (k : Nat) (h : k < l.length) (S : S3), kIx d (.int (k : Int)) S = some (l[k], S) := fun k h S => by
    rcases hd with rfl | rfl
    · show (match seqOf S (.tup l) with | some l => (atI l (k : Int)).map (·, S) | none => none) = _
      simp only [seqOf]
      rw [atI_nat l k h, List.getElem?_eq_getElem h]
      rfl
    · exact kIx_lst (List.getElem?_eq_getElem h) S
  have kd : kIsi "dict" d S = some (.bl false, S) := by rcases hd with rfl | rfl <;> rfl
  obtain ⟨bt, kt⟩ : ∃ b, kIsi "tuple" d S = some (.bl b, S) := by rcases hd with rfl | rfl <;> exact ⟨_, rfl⟩
  have kb : (bOr (bVal (op1 (kIsi "tuple") (eVar 1))) (bVal (op1 (kIsi "list") (eVar 1)))) [some d, some d, none, none] S = some (true, S) := by
    rcases hd with rfl | rfl
    · exact or_true (val_go ((op1_go (x := .tup l) (S1 := S) rfl).trans rfl))
    · exact (or_false (val_go ((op1_go (x := .lst l) (S1 := S) rfl).trans rfl))).trans (val_go ((op1_go (x := .lst l) (S1 := S) rfl).trans rfl))
  have k2 : kIsi2 "tuple" "list" d S = some (.bl true, S) := by rcases hd with rfl | rfl <;> rfl
  have kn : kNe (.bl bt) (.bl bt) S = some (.bl false, S) := by cases bt <;> rfl
  refine fnM_rt (ρ := [some d, some d, none, none]) (ρ' := [some d, some d, none, none]) rfl rfl ?_
  unfold b__law_alike
  refine (seq_nx ((if_go (val_go ((op1_go (x := d) (S1 := S) rfl).trans kd))).trans rfl)).trans ?_
  refine seq_rt ((if_go kb).trans ?_)
  rw [if_pos rfl]
  have c1 : (bOr (bVal (op2 (kNe) (op1 (kIsi "tuple") (eVar 0)) (op1 (kIsi "tuple") (eVar 1)))) (bNot (bVal (op1 (kIsi2 "tuple" "list") (eVar 0))))) [some d, some d, none, none] S = some (false, S) :=
    (or_false (val_go ((op2_go (x := .bl bt) (S1 := S) (y := .bl bt) (S2 := S) ((op1_go (x := d) (S1 := S) rfl).trans kt) ((op1_go (x := d) (S1 := S) rfl).trans kt)).trans kn))).trans (not_go (val_go ((op1_go (x := d) (S1 := S) rfl).trans k2)))
  refine (seq_nx ((if_go c1).trans rfl)).trans ?_
  have c2 : (bVal (op2 (kNe) (opn (kLen) (aCons (eVar 0) aNil)) (opn (kLen) (aCons (eVar 1) aNil)))) [some d, some d, none, none] S = some (false, S) :=
    val_go ((op2_go ((opn1 (x := d) (S1 := S) rfl).trans (hlen S)) ((opn1 (x := d) (S1 := S) rfl).trans (hlen S))).trans ((kNe_int _ _ S).trans (by simp)))
  refine (seq_nx ((if_go c2).trans rfl)).trans ?_
  have ei : (iRng (aCons (opn (kLen) (aCons (eVar 1) aNil)) aNil)) [some d, some d, none, none] S = some (.rng 0 1 l.length, S) := (iRng_one (ac1 ((opn1 (x := d) (S1 := S) rfl).trans (hlen S))) (rOk_small hl)).trans (by rw [Int.toNat_natCast])
  have el := lc_all (f := rngF) (g := rngF) (t := fun _ => false) (src := .rng 0 1 l.length) (T := gN 3) (tst := (bNot (bVal (opn (f__law_alike n) (aCons (op2 kIx (eVar 0) (eVar 3)) (aCons (op2 kIx (eVar 1) (eVar 3)) aNil)))))) (el := eVar 3) (ρ := wipeD [some d, some d, none, none] [3]) (S := S) rfl (List.range l.length) [] (by rw [sz, List.length_nil, List.length_range]; omega) (fun k hk => by
    have hk' := List.mem_range.mp hk
    refine ⟨[some d, some d, none, some (.int (k : Int))], by rw [rngF_eq]; rfl, ?_, fun z => nomatch z⟩
    have x1 : op2 kIx (eVar 0) (eVar 3) [some d, some d, none, some (.int (k : Int))] S = some (l[k], S) := (op2_go (x := d) (S1 := S) (y := .int (k : Int)) (S2 := S) rfl rfl).trans (hix k hk' S)
    have x2 : op2 kIx (eVar 1) (eVar 3) [some d, some d, none, some (.int (k : Int))] S = some (l[k], S) := (op2_go (x := d) (S1 := S) (y := .int (k : Int)) (S2 := S) rfl rfl).trans (hix k hk' S)
    exact not_go (val_go ((opn2 x1 x2).trans (hi _ (List.getElem_mem hk') S))))
  have hf : (List.range l.length).filter (fun _ => false) = [] := List.filter_eq_nil_iff.mpr fun _ _ z => by cases z
  rw [hf] at el
  refine ret_go ((op2_go (x := .lst []) (S1 := S) (y := .lst []) (S2 := S) ((lc_go ei el).trans rfl) (by simp [opn, aNil, kLst, newL])).trans ?_)
  rw [kEq_gd rfl rfl (by decide) (by decide)]
  simp
end
theorem alike_tree {T : LT} (hT : Tree T) (hl : T.length ≤ 60) (S : S3) : f__law_alike 7 [.lst (trD T), .lst (trD T)] S = some (.bl true, S) := by
  refine alike_node (n := 6) (l := trD T) (.inr rfl) (by rw [trD, List.length_map]; omega) (fun x hx S => ?_) S
  obtain ⟨k, hk, rfl⟩ := List.mem_map.mp hx
  have hv := hT.ok k hk
  refine alike_node (n := 5) (l := [pth k.1, .int k.2]) (.inl rfl) (by show 2 < 2000; decide) (fun y hy S => ?_) S
  have hy : y = pth k.1 ∨ y = .int k.2 := by simpa using hy
  rcases hy with rfl | rfl
  · refine alike_node (n := 4) (l := k.1.map D.str) (.inl rfl) (by rw [List.length_map]; have := hv.1.1; omega) (fun z hz S => ?_) S
    obtain ⟨x, hx, rfl⟩ := List.mem_map.mp hz
    exact alike_flat (n := 3) (.inl ⟨x, rfl, okS_v (hv.1.2 x hx)⟩) S
  · exact alike_flat (n := 4) (.inr ⟨_, rfl⟩) S
end K8
set_option maxHeartbeats 1600000
/-! k08: what law gives: slots by their facts; words; a turn. -/
namespace K8
open PySem PySem.Spec PySem.W PyProof.Rows L2 G3 Lst
def At (ρ : En) (i : Nat) (d : D) : Prop := ρ[i]? = some (some d)
section
variable {ρ : En} {i j : Nat} {d e : D} {S : S3}
theorem At.var (h : At ρ i d) (S : S3) : eVar i ρ S = some (d, S) := by
  unfold eVar
  rw [show ρ[i]? = some (some d) from h]
theorem At.set {o : Option D} (h : At ρ i d) (ne : j ≠ i) : At (ρ.set j o) i d := by
  unfold At
  rw [List.getElem?_set_ne ne]
  exact h
theorem At.self (hl : i < ρ.length) : At (ρ.set i (some d)) i d := by
  unfold At
  rw [List.getElem?_set_self hl]
end
theorem asg_go {T : MT} {e : ME} {ρ ρ' : En} {S S1 : S3} {d : D} (h : e ρ S = some (d, S1)) (hT : T d ρ = some ρ') : sAsg T e ρ S = some (.nx, ρ', S1) := by
  unfold sAsg
  rw [h]
  simp only [Option.bind_some]
  rw [hT]
  rfl
structure Sta (r : Nat) (S : S3) : Prop where
  row : RowAt r S
  tab : S.ob 0 = some (.tab lamq)
  lt : r < S.next
  pos : 0 < r
theorem Sta.fr {r : Nat} {S S' : S3} (h : Sta r S) (f : Fr r S S') (hr : RowAt r S') : Sta r S' :=
  ⟨hr, by rw [f.ob 0 (Nat.lt_of_lt_of_le (Nat.lt_of_lt_of_le h.pos (Nat.le_of_lt h.lt)) (Nat.le_refl _)) (Nat.ne_of_lt h.pos)]; exact h.tab, Nat.lt_of_lt_of_le h.lt f.nx, h.pos⟩
theorem Sta.le {r : Nat} {S S' : S3} (h : Sta r S) (f : Le S S') : Sta r S' := h.fr (f.fr r) (h.row.le f h.lt)
/-! words -/
theorem opX2 {f : MX} {a b : ME} {ρ : En} {S S1 S2 : S3} {x y : D} (h : a ρ S = some (x, S1)) (h2 : b ρ S1 = some (y, S2)) : opX f (aCons a (aCons b aNil)) ρ S = f [x, y] S2 := by
  unfold opX aCons aNil
  rw [h]
  simp only [Option.bind_some]
  rw [h2]
  rfl
theorem word_tree (k : Int) (S : S3) : ∃ S', wordEnd (.inr k, S) = some (.tup [.str "tree", .int k], S') ∧ Le S S' := by
  have hz : ∀ n : Nat, n ≤ 9 → n ≤ sizeLine := fun n h => by rw [sz]; omega
  have ie : ∀ (b : Bool) (x2 x3 : Option D) (S : S3), eIsE 1 0 0 b [none, some (.adr 0 [.ref 0] [.exn k]), x2, x3] S = some (.bl b, S) := fun _ _ _ _ => rfl
  let L8 : List D := [.bl false, .bl false, .bl false, .bl false, .bl false, .bl true, .bl false, .bl false]
  have h1 : (sSet 2 (opn (kLst false) (aCons (eIsE 1 0 0 false) (aCons (eIsE 1 0 0 false) (aCons (eIsE 1 0 0 false) (aCons (eIsE 1 0 0 false) aNil)))))) [none, some (.adr 0 [.ref 0] [.exn k]), none, none] S = some (.nx, [none, some (.adr 0 [.ref 0] [.exn k]), some (.lst [.bl false, .bl false, .bl false, .bl false]), none], S) := by
    simp [sSet, opn, aCons, aNil, ie, kLst, newL, sz]
  have h2 : (sSet 2 (op2 (kAdd true) (eVar 2) (opn (kLst false) (aCons (eIsE 1 0 0 false) (aCons (eIsE 1 0 0 true) (aCons (eIsE 1 0 0 false) aNil)))))) [none, some (.adr 0 [.ref 0] [.exn k]), some (.lst [.bl false, .bl false, .bl false, .bl false]), none] S = some (.nx, [none, some (.adr 0 [.ref 0] [.exn k]), some (.ref S.next), none], S.new (.lst (L8.take 7))) := by
    refine (set_go (i := 2) (d := .ref S.next) (S' := S.new (.lst (L8.take 7))) ((op2_go (x := .lst [.bl false, .bl false, .bl false, .bl false]) (S1 := S) (y := .lst [.bl false, .bl true, .bl false]) (S2 := S) rfl ?_).trans ?_)).trans rfl
    · simp [opn, aCons, aNil, ie, kLst, newL, sz]
    · exact (kAdd_new (by rw [sz]; exact (by decide : (7 : Nat) ≤ 16777216))).trans rfl
  have g1 : (S.new (.lst (L8.take 7))).ob S.next = some (.lst (L8.take 7)) := new_self
  have h3 : (sExp (eBm "list" kAppend (eVar 2) (aCons (eIsE 1 0 0 false) aNil))) [none, some (.adr 0 [.ref 0] [.exn k]), some (.ref S.next), none] (S.new (.lst (L8.take 7))) = some (.nx, [none, some (.adr 0 [.ref 0] [.exn k]), some (.ref S.next), none], (S.new (.lst (L8.take 7))).set S.next (.lst L8)) := by
    have hty : isTy "list" (.ref S.next) (S.new (.lst (L8.take 7))) = true := by unfold isTy; simp only [g1]; rfl
    have ha : kAppend (.ref S.next) [.bl false] (S.new (.lst (L8.take 7))) = some (.non, (S.new (.lst (L8.take 7))).set S.next (.lst L8)) := by
      unfold kAppend
      simp only [g1]
      rw [if_pos (by rw [sz]; exact (by decide : (7 : Nat) < 16777216))]
      rfl
    have ev : eVar 2 [none, some (.adr 0 [.ref 0] [.exn k]), some (.ref S.next), none] (S.new (.lst (L8.take 7))) = some (.ref S.next, S.new (.lst (L8.take 7))) := rfl
    unfold sExp eBm
    rw [ev]
    simp only [Option.bind_some, hty, if_true, aCons, aNil, ie, ha]
  have g2 : ((S.new (.lst (L8.take 7))).set S.next (.lst L8)).ob S.next = some (.lst L8) := set_self
  have le : Le S ((S.new (.lst (L8.take 7))).set S.next (.lst L8)) := ⟨Nat.le_succ _, fun n h => by rw [set_ne (Nat.ne_of_lt h), new_ne (Nat.ne_of_lt h)]⟩
  generalize (S.new (.lst (L8.take 7))).set S.next (.lst L8) = S2 at h3 g2 le
  have py : pyOf S2 (.ref S.next) = some (.list [.bool false, .bool false, .bool false, .bool false, .bool false, .bool true, .bool false, .bool false]) := by
    show rfs S2 3 S.next = _
    unfold rfs
    simp only [g2]
    rfl
  have kc : kCountL (.ref S.next) [.bl true] S2 = some (.int 1, S2) := by
    unfold kCountL
    simp only [py]
    rfl
  have ki : kIndexL (.ref S.next) [.bl true] S2 = some (.int 5, S2) := by
    unfold kIndexL
    simp only [py]
    rfl
  have hty : isTy "list" (.ref S.next) S2 = true := by unfold isTy; simp only [g2]; rfl
  have ev : ∀ x3 : Option D, eVar 2 [none, some (.adr 0 [.ref 0] [.exn k]), some (.ref S.next), x3] S2 = some (.ref S.next, S2) := fun _ => rfl
  have bc : eBm "list" kCountL (eVar 2) (aCons (eC (.bl true)) aNil) [none, some (.adr 0 [.ref 0] [.exn k]), some (.ref S.next), none] S2 = some (.int 1, S2) := by
    unfold eBm
    rw [ev]
    simp only [Option.bind_some, hty, if_true, aCons, aNil, eC, kc]
  have bi : eBm "list" kIndexL (eVar 2) (aCons (eC (.bl true)) aNil) [none, some (.adr 0 [.ref 0] [.exn k]), some (.ref S.next), none] S2 = some (.int 5, S2) := by
    unfold eBm
    rw [ev]
    simp only [Option.bind_some, hty, if_true, aCons, aNil, eC, ki]
  refine ⟨S2, ?_, le⟩
  show (s__law_word 0 0 [none, some (.adr 0 [.ref 0] [.exn k]), none, none] S).bind _ = _
  have all : s__law_word 0 0 [none, some (.adr 0 [.ref 0] [.exn k]), none, none] S = some (.rt (.tup [.str "tree", .int k]), [none, some (.adr 0 [.ref 0] [.exn k]), some (.ref S.next), some (.str "tree")], S2) := by
    unfold s__law_word
    refine (seq_nx h1).trans ((seq_nx h2).trans ((seq_nx h3).trans ?_))
    refine (seq_nx ((if_go (x := false) (S' := S2) ((or_false (val_go ((op2_go (x := .int 1) (S1 := S2) (y := .int 1) (S2 := S2) bc rfl).trans ((kNe_int 1 1 S2).trans rfl)))).trans (not_go (val_go (ie true _ _ S2))))).trans rfl)).trans ?_
    refine (seq_nx (set_go (i := 3) (d := .str "tree") (S' := S2) ((op2_go (x := .lst [.str "panes", .str "pane", .str "path", .str "author", .str "change", .str "tree", .str "watch", .str "stop"]) (S1 := S2) (y := .int 5) (S2 := S2) (by simp [opn, aCons, aNil, eC, kLst, newL, sz]) bi).trans rfl))).trans ?_
    refine ret_go ((opn2 (x := .str "tree") (S1 := S2) (y := .int k) (S2 := S2) rfl ?_).trans (kTup_ok (l := [.str "tree", .int k]) (hz 2 (by decide)) S2))
    have kt : op2 kInT (eVar 3) (opn G3.kTup (aCons (eC (.str "change")) (aCons (eC (.str "tree")) aNil))) [none, some (.adr 0 [.ref 0] [.exn k]), some (.ref S.next), some (.str "tree")] S2 = some (.bl true, S2) := by
      refine (op2_go (x := .str "tree") (S1 := S2) (y := .tup [.str "change", .str "tree"]) (S2 := S2) rfl (by simp [opn, aCons, aNil, eC, G3.kTup, sz])).trans ?_
      unfold kInT
      simp [txts, txt]
    show eIf (bVal (op2 kInT (eVar 3) (opn G3.kTup (aCons (eC (.str "change")) (aCons (eC (.str "tree")) aNil))))) (eNum 1 0 0) (eC (.int 0)) [none, some (.adr 0 [.ref 0] [.exn k]), some (.ref S.next), some (.str "tree")] S2 = _
    unfold eIf
    rw [val_go kt]
    rfl
  rw [all]
  rfl
theorem word_go {is : List Nat} {ds : List D} {fb : MEX} {ρ : En} {S S1 S2 : S3} {r : D ⊕ Int} {z : D} (ht : S.ob 0 = some (.tab lamq)) (hc : capD ρ is = some ds) (hf : fb (capEn 19 is ds) S = some (r, S1)) (hw : wordEnd (r, S1) = some (z, S2)) :
    eWord 4 0 lamq is (fun f vs => b__law_word (eAct 0 0 lamq f vs 19 is fb)) ρ S = some (z, S2) := by
  have tb : tabIs 0 lamq S = true := by unfold tabIs; rw [ht]; simp
  have wr := word_run 0 lamq 19 is fb 0 [] ds S
  rw [tb, hf] at wr
  simp only [if_true, Option.bind_some] at wr
  unfold eWord
  rw [tb, hc]
  simp only [if_true, Option.bind_some]
  rw [wr, hw]
end K8
set_option maxHeartbeats 1600000
/-! k08: law: a turn. -/
namespace K8
open PySem PySem.Spec PySem.W PyProof.Rows L2 G3 Lst
structure Slots (r : Nat) (T1 T2 : LT) (M : Int) (ρ : En) : Prop where
  len : ρ.length = 19
  a1 : At ρ 1 (.ref r)
  a6 : At ρ 6 (.lst (trD T1))
  a7 : At ρ 7 (.lst (trD T2))
  a8 : At ρ 8 (.lst [.lst (trD T1), .lst (trD T2)])
  a9 : At ρ 9 (.int M)
theorem Slots.set {r : Nat} {T1 T2 : LT} {M : Int} {ρ : En} (h : Slots r T1 T2 M ρ) (j : Nat) (o : Option D) (h1 : j ≠ 1) (h6 : j ≠ 6) (h7 : j ≠ 7) (h8 : j ≠ 8) (h9 : j ≠ 9) : Slots r T1 T2 M (ρ.set j o) :=
  ⟨by rw [List.length_set]; exact h.len, h.a1.set h1, h.a6.set h6, h.a7.set h7, h.a8.set h8, h.a9.set h9⟩
def aB : MS := (sSeq sl_4 (sSeq sl_5 (sSeq sl_6 (sSeq (sFor (iSeq (eVar 15)) (gN 17) sl_7) (sSeq sl_8 sl_9)))))
theorem kIx0 (x y : D) (S : S3) : kIx (.lst [x, y]) (.int 0) S = some (x, S) := rfl
theorem kIx1 (x y : D) (S : S3) : kIx (.lst [x, y]) (.int 1) S = some (y, S) := rfl
theorem kNe_same (i : Int) (S : S3) : kNe (.int i) (.int i) S = some (.bl false, S) := (kNe_int i i S).trans (by simp)
theorem calm_go {f : MX} {ds : List D} {S S' : S3} {d : D} (h : f ds S = some (.inl d, S')) : calmF f ds S = some (d, S') := by
  unfold calmF
  rw [h]
section
variable {r : Nat} {T1 T2 : LT} (h1 : Tree T1) (h2 : Tree T2) (l1 : T1.length ≤ 4) (l2 : T2.length ≤ 4)
include h1 h2 l1 l2
theorem handed_ne (S : S3) : kNe (.lst [.lst (trD T1), .lst (trD T2)]) (.lst [.lst (trD T1), .lst (trD T2)]) S = some (.bl false, S) := by
  have g : gd (.lst [.lst (trD T1), .lst (trD T2)]) = true := by
    have := gd_trD h1.okT
    have := gd_trD h2.okT
    simp [gd, gds, *]
  have d : dp (.lst [.lst (trD T1), .lst (trD T2)]) ≤ 64 := by
    have := dp_trD T1
    have := dp_trD T2
    simp only [dp, dps]
    omega
  rw [kNe_gd g g d d]
  simp
theorem again_go {ρ : En} {S : S3} (hs : Slots r T1 T2 ((best7 h1 h2).length : Int) ρ) (st : Sta r S) : ∃ ρ' S', aB ρ S = some (.nx, ρ', S') ∧ Slots r T1 T2 ((best7 h1 h2).length : Int) ρ' ∧ Sta r S' := by
  obtain ⟨k, S1, e1, c1, x1, k1, k2⟩ := run_fewest h1 h2 (by omega) (by omega) S
  -- found
  have f4 : sl_4 ρ S = some (.nx, ρ.set 15 (some (.ref k)), S1) := by
    refine set_go ((opn2 (x := .lst (trD T1)) (S1 := S) (y := .lst (trD T2)) (S2 := S) ?_ ?_).trans (calm_go e1))
    · exact (op2_go (hs.a8.var S) (y := .int 0) (S2 := S) rfl).trans (kIx0 _ _ S)
    · exact (op2_go (hs.a8.var S) (y := .int 1) (S2 := S) rfl).trans (kIx1 _ _ S)
  have s4 : Slots r T1 T2 ((best7 h1 h2).length : Int) (ρ.set 15 (some (.ref k))) := hs.set 15 _ (by decide) (by decide) (by decide) (by decide) (by decide)
  have a15 : At (ρ.set 15 (some (.ref k))) 15 (.ref k) := At.self (by rw [hs.len]; decide)
  have kL := kLen_ref c1
  rw [List.length_map] at kL
  have hi : kIsi "list" (.ref k) S1 = some (.bl true, S1) := by
    unfold kIsi tyD
    simp only [show S1.ob k = some (.lst ((bestL (knOf h1.ris h2.ris) 7 []).map chD)) from c1]
    rfl
  generalize ρ.set 15 (some (.ref k)) = ρ1 at f4 s4 a15
  have f5 : sl_5 ρ1 S1 = some (.nx, ρ1, S1) := by
    refine (if_go (x := false) (S' := S1) ?_).trans rfl
    refine (or_false (not_go (val_go ((op1_go (a15.var S1)).trans hi)))).trans ?_
    refine (or_false (val_go ((op2_go ((opn1 (a15.var S1)).trans kL) (s4.a9.var S1)).trans (kNe_same _ S1)))).trans ?_
    refine val_go ((op2_go (s4.a8.var S1) ((opn2 (s4.a6.var S1) (s4.a7.var S1)).trans (kLst_ok (l := [.lst (trD T1), .lst (trD T2)]) (by rw [sz]; exact (by decide : (2 : Nat) ≤ 16777216)) S1))).trans (handed_ne h1 h2 l1 l2 S1))
  have f6 : sl_6 ρ1 S1 = some (.nx, ρ1.set 16 (some (tD T1)), S1) := set_go ((opn1 (s4.a6.var S1)).trans rfl)
  have s6 : Slots r T1 T2 ((best7 h1 h2).length : Int) (ρ1.set 16 (some (tD T1))) := s4.set 16 _ (by decide) (by decide) (by decide) (by decide) (by decide)
  have b15 : At (ρ1.set 16 (some (tD T1))) 15 (.ref k) := a15.set (by decide)
  have b16 : At (ρ1.set 16 (some (tD T1))) 16 (tD T1) := At.self (by rw [s4.len]; decide)
  generalize ρ1.set 16 (some (tD T1)) = ρ2 at f6 s6 b15 b16
  have vd : (Src.seq (.ref k) ((best7 h1 h2).map chD)).valid S1 = true := by
    unfold Src.valid seqOf G3.listOf
    simp only [show S1.ob k = some (.lst ((bestL (knOf h1.ris h2.ris) 7 []).map chD)) from c1]
    simp
  obtain ⟨ρ3, S', e7, rfl, s7, d15, d16, _⟩ := loop_all (f := chD) (src := .seq (.ref k) ((best7 h1 h2).map chD)) (body := fun d ρ S => (gN 17 d ρ).bind fun ρ' => sl_7 ρ' S)
    (fun dn ρ S' => S' = S1 ∧ Slots r T1 T2 ((best7 h1 h2).length : Int) ρ ∧ At ρ 15 (.ref k) ∧ At ρ 16 (tD (lrun T1 dn)) ∧ InU T1 T2 (lrun T1 dn)) (best7 h1 h2) (ρ := ρ2) (S := S1) ⟨rfl, s6, b15, b16, ⟨h1.ris, fun x hx => .inl hx⟩⟩ (by
      rintro dn c post ρ S' hc ⟨rfl, g1, g2, g3, g4⟩
      have hm : c ∈ CL T1 T2 := best7_mem h1 h2 c (by rw [hc]; exact List.mem_append_right _ List.mem_cons_self)
      have q17 : Slots r T1 T2 ((best7 h1 h2).length : Int) (ρ.set 17 (some (chD c))) := g1.set 17 _ (by decide) (by decide) (by decide) (by decide) (by decide)
      have a17 : At (ρ.set 17 (some (chD c))) 17 (chD c) := At.self (by rw [g1.len]; decide)
      have a16 : At (ρ.set 17 (some (chD c))) 16 (tD (lrun T1 dn)) := g3.set (by decide)
      have a15' : At (ρ.set 17 (some (chD c))) 15 (.ref k) := g2.set (by decide)
      refine ⟨vd, (ρ.set 17 (some (chD c))).set 16 (some (tD (lstep (lrun T1 dn) c))), S', (bind_of (y := ρ.set 17 (some (chD c))) rfl).trans ?_, rfl, q17.set 16 _ (by decide) (by decide) (by decide) (by decide) (by decide), a15'.set (by decide), ?_, ?_⟩
      · exact set_go ((opn2 (a16.var S') (a17.var S')).trans (run_done (inU_okT h1.okT h2.okT g4) (okC_CL h1.okT h2.okT hm) (by have := inU_small g4; omega)))
      · rw [lrun_append]
        exact At.self (by rw [List.length_set, g1.len]; decide)
      · rw [lrun_append]
        exact inU_step g4 hm) (fun ρ S' ⟨e, _⟩ => by rw [e]; exact vd)
  rw [best7_lrun] at d16
  have f7 : sFor (iSeq (eVar 15)) (gN 17) sl_7 ρ2 S' = some (.nx, ρ3, S') := by
    refine for_go (src := .seq (.ref k) ((best7 h1 h2).map chD)) (S1 := S') ?_ e7
    unfold iSeq
    rw [b15.var]
    simp only [Option.bind_some, G3.listOf, show S'.ob k = some (.lst ((bestL (knOf h1.ris h2.ris) 7 []).map chD)) from c1]
  have f8 : sl_8 ρ3 S' = some (.nx, ρ3, S') := by
    refine (if_go (x := false) (S' := S') ?_).trans rfl
    exact not_go (val_go ((opn2 (x := .lst (trD T2)) (S1 := S') ((opn1 (d16.var S')).trans rfl) (s7.a7.var S')).trans (alike_tree h2 (by omega) S')))
  have f9 : sl_9 ρ3 S' = some (.nx, ρ3, S'.set k (.lst ((best7 h1 h2).map chD ++ [.tup []]))) := by
    have hty : isTy "list" (.ref k) S' = true := by
      unfold isTy
      simp only [show S'.ob k = some (.lst ((bestL (knOf h1.ris h2.ris) 7 []).map chD)) from c1]
      rfl
    have ha : kAppend (.ref k) [.tup []] S' = some (.non, S'.set k (.lst ((best7 h1 h2).map chD ++ [.tup []]))) := by
      unfold kAppend
      simp only [show S'.ob k = some (.lst ((bestL (knOf h1.ris h2.ris) 7 []).map chD)) from c1]
      have hb : (bestL (knOf h1.ris h2.ris) 7 []).length ≤ T1.length + T2.length := best7_le h1 h2
      rw [if_pos (by rw [List.length_map, sz]; omega)]
    have et : opn G3.kTup aNil ρ3 S' = some (.tup [], S') := by simp [opn, aNil, G3.kTup]
    unfold sl_9 sExp eBm
    rw [d15.var]
    simp only [Option.bind_some, hty, if_true]
    rw [ac1 et]
    simp only [Option.bind_some, ha]
  refine ⟨ρ3, _, (seq_nx f4).trans ((seq_nx f5).trans ((seq_nx f6).trans ((seq_nx f7).trans ((seq_nx f8).trans f9)))), s7, ?_⟩
  refine st.le ⟨x1.nx, fun n hn => ?_⟩
  rw [set_ne (by omega)]
  exact x1.ob n hn
end
/-- a turn -/
def tB8 : MS := (sSeq sl_1 (sSeq sl_2 (sSeq sl_3 (sSeq (sFor (iRng (aCons (eC (.int 2)) aNil)) (gN 10) aB) (sSeq sl_10 (sSeq sl_11 (sSeq sl_12 sl_13)))))))
theorem badE {T : LT} {d : D} {rest : List D} : (D.lst (trD T ++ d :: rest)) = .lst (trD T ++ d :: rest) := rfl
theorem tree_ne {k : Int} (S : S3) : kNe (.tup [.str "tree", .int k]) (.tup [.str "tree", .int k]) S = some (.bl false, S) := by
  have g : gd (.tup [.str "tree", .int k]) = true := by
    have : gd (.str "tree") = true := by decide +kernel
    simp [gd, gds] at this ⊢
    exact this
  have d : dp (.tup [.str "tree", .int k]) ≤ 64 := by simp [dp, dps]
  rw [kNe_gd g g d d]
  simp
theorem turn_go {r : Nat} {ρ : En} {S : S3} (hl : ρ.length = 19) (ha : At ρ 1 (.ref r)) (st : Sta r S) : ∃ ρ' S', tB8 ρ S = some (.nx, ρ', S') ∧ ρ'.length = 19 ∧ At ρ' 1 (.ref r) ∧ Sta r S' := by
  obtain ⟨T1, S1, e1, h1, l1, r1, x1⟩ := run_tree st.row st.lt
  have st1 := st.fr x1 r1
  obtain ⟨T2, S2, e2, h2, l2, r2, x2⟩ := run_tree st1.row st1.lt
  have st2 := st1.fr x2 r2
  have hz : ∀ n : Nat, n ≤ 9 → n ≤ sizeLine := fun n h => by rw [sz]; omega
  have f1 : sl_1 ρ S = some (.nx, (ρ.set 6 (some (.lst (trD T1)))).set 7 (some (.lst (trD T2))), S2) :=
    asg_go ((opn2 ((opn2 (ha.var S) (y := .int 4) (S2 := S) rfl).trans e1) ((opn2 (ha.var S1) (y := .int 4) (S2 := S1) rfl).trans e2)).trans (kTup_ok (l := [.lst (trD T1), .lst (trD T2)]) (hz 2 (by decide)) S2)) rfl
  have b1 : At ((ρ.set 6 (some (.lst (trD T1)))).set 7 (some (.lst (trD T2)))) 1 (.ref r) := (ha.set (by decide)).set (by decide)
  have b6 : At ((ρ.set 6 (some (.lst (trD T1)))).set 7 (some (.lst (trD T2)))) 6 (.lst (trD T1)) := (At.self (by rw [hl]; decide)).set (by decide)
  have b7 : At ((ρ.set 6 (some (.lst (trD T1)))).set 7 (some (.lst (trD T2)))) 7 (.lst (trD T2)) := At.self (by rw [List.length_set, hl]; decide)
  have bl : ((ρ.set 6 (some (.lst (trD T1)))).set 7 (some (.lst (trD T2)))).length = 19 := by rw [List.length_set, List.length_set, hl]
  generalize (ρ.set 6 (some (.lst (trD T1)))).set 7 (some (.lst (trD T2))) = ρ1 at f1 b1 b6 b7 bl
  have kl : ∀ (l : List D) (S : S3), kList false [.lst l] S = some (.lst l, S) := fun _ _ => rfl
  have f2 : sl_2 ρ1 S2 = some (.nx, ρ1.set 8 (some (.lst [.lst (trD T1), .lst (trD T2)])), S2) :=
    set_go ((opn2 ((opn1 (b6.var S2)).trans (kl _ _)) ((opn1 (b7.var S2)).trans (kl _ _))).trans (kLst_ok (l := [.lst (trD T1), .lst (trD T2)]) (hz 2 (by decide)) S2))
  have c1 := b1.set (j := 8) (o := some (.lst [.lst (trD T1), .lst (trD T2)])) (by decide)
  have c6 := b6.set (j := 8) (o := some (.lst [.lst (trD T1), .lst (trD T2)])) (by decide)
  have c7 := b7.set (j := 8) (o := some (.lst [.lst (trD T1), .lst (trD T2)])) (by decide)
  have c8 : At (ρ1.set 8 (some (.lst [.lst (trD T1), .lst (trD T2)]))) 8 (.lst [.lst (trD T1), .lst (trD T2)]) := At.self (by rw [bl]; decide)
  have cl : (ρ1.set 8 (some (.lst [.lst (trD T1), .lst (trD T2)]))).length = 19 := by rw [List.length_set, bl]
  generalize ρ1.set 8 (some (.lst [.lst (trD T1), .lst (trD T2)])) = ρ2 at f2 c1 c6 c7 c8 cl
  obtain ⟨S3', e3, x3⟩ := run_lfewest h1 h2 l1 l2 S2
  have st3 := st2.le x3
  have f3 : sl_3 ρ2 S2 = some (.nx, ρ2.set 9 (some (.int ((best7 h1 h2).length : Int))), S3') :=
    set_go ((opn2 (x := tD T1) (S1 := S2) (y := tD T2) (S2 := S2) ((opn1 (c6.var S2)).trans rfl) ((opn1 (c7.var S2)).trans rfl)).trans e3)
  have s3 : Slots r T1 T2 ((best7 h1 h2).length : Int) (ρ2.set 9 (some (.int ((best7 h1 h2).length : Int)))) :=
    ⟨by rw [List.length_set, cl], c1.set (by decide), c6.set (by decide), c7.set (by decide), c8.set (by decide), At.self (by rw [cl]; decide)⟩
  generalize ρ2.set 9 (some (.int ((best7 h1 h2).length : Int))) = ρ3 at f3 s3
  obtain ⟨ρ4, S4, e4, s4, st4⟩ := loop_all (f := rngF) (src := .rng 0 1 2) (body := fun d ρ S => (gN 10 d ρ).bind fun ρ' => aB ρ' S)
    (fun dn ρ S' => Slots r T1 T2 ((best7 h1 h2).length : Int) ρ ∧ Sta r S') (List.range 2) (ρ := ρ3) (S := S3') ⟨s3, st3⟩ (by
      rintro dn i post ρ S' hi ⟨g1, g2⟩
      obtain ⟨ρ', S'', e, q1, q2⟩ := again_go h1 h2 l1 l2 (g1.set 10 (some (rngF i)) (by decide) (by decide) (by decide) (by decide) (by decide)) g2
      exact ⟨rfl, ρ', S'', (bind_of (y := ρ.set 10 (some (rngF i))) rfl).trans e, q1, q2⟩) (fun _ _ _ => rfl)
  have f4 : sFor (iRng (aCons (eC (.int 2)) aNil)) (gN 10) aB ρ3 S3' = some (.nx, ρ4, S4) := for_go (src := .rng 0 1 2) (S1 := S3') ((iRng_one (j := 2) (S1 := S3') rfl (rOk_small (n := 2) (by decide))).trans rfl) e4
  obtain ⟨d5, S5, e5, A1, a1, rest1, rfl, t1, m1, n1, q1, r5, y5⟩ := run_bad st4.row h1 l1
  have st5 := st4.fr y5.fr r5
  obtain ⟨d6, S6, e6, A2, a2, rest2, rfl, t2, m2, n2, q2, r6, y6⟩ := run_bad st5.row h2 l2
  have st6 := st5.fr y6.fr r6
  have f10 : sl_10 ρ4 S4 = some (.nx, (ρ4.set 11 (some (.lst (trD A1 ++ a1 :: rest1)))).set 12 (some (.int (A1.length : Int))), S5) := asg_go ((opn2 (s4.a1.var S4) (s4.a6.var S4)).trans e5) rfl
  have s10 : Slots r T1 T2 ((best7 h1 h2).length : Int) ((ρ4.set 11 (some (.lst (trD A1 ++ a1 :: rest1)))).set 12 (some (.int (A1.length : Int)))) := (s4.set 11 _ (by decide) (by decide) (by decide) (by decide) (by decide)).set 12 _ (by decide) (by decide) (by decide) (by decide) (by decide)
  have g11 : At ((ρ4.set 11 (some (.lst (trD A1 ++ a1 :: rest1)))).set 12 (some (.int (A1.length : Int)))) 11 (.lst (trD A1 ++ a1 :: rest1)) := (At.self (by rw [s4.len]; decide)).set (by decide)
  have g12 : At ((ρ4.set 11 (some (.lst (trD A1 ++ a1 :: rest1)))).set 12 (some (.int (A1.length : Int)))) 12 (.int (A1.length : Int)) := At.self (by rw [List.length_set, s4.len]; decide)
  generalize (ρ4.set 11 (some (.lst (trD A1 ++ a1 :: rest1)))).set 12 (some (.int (A1.length : Int))) = ρ5 at f10 s10 g11 g12
  have f11 : sl_11 ρ5 S5 = some (.nx, (ρ5.set 13 (some (.lst (trD A2 ++ a2 :: rest2)))).set 14 (some (.int (A2.length : Int))), S6) := asg_go ((opn2 (s10.a1.var S5) (s10.a7.var S5)).trans e6) rfl
  have s11 : Slots r T1 T2 ((best7 h1 h2).length : Int) ((ρ5.set 13 (some (.lst (trD A2 ++ a2 :: rest2)))).set 14 (some (.int (A2.length : Int)))) := (s10.set 13 _ (by decide) (by decide) (by decide) (by decide) (by decide)).set 14 _ (by decide) (by decide) (by decide) (by decide) (by decide)
  have k11 : At ((ρ5.set 13 (some (.lst (trD A2 ++ a2 :: rest2)))).set 14 (some (.int (A2.length : Int)))) 11 (.lst (trD A1 ++ a1 :: rest1)) := (g11.set (by decide)).set (by decide)
  have k12 : At ((ρ5.set 13 (some (.lst (trD A2 ++ a2 :: rest2)))).set 14 (some (.int (A2.length : Int)))) 12 (.int (A1.length : Int)) := (g12.set (by decide)).set (by decide)
  have k13 : At ((ρ5.set 13 (some (.lst (trD A2 ++ a2 :: rest2)))).set 14 (some (.int (A2.length : Int)))) 13 (.lst (trD A2 ++ a2 :: rest2)) := (At.self (by rw [s10.len]; decide)).set (by decide)
  have k14 : At ((ρ5.set 13 (some (.lst (trD A2 ++ a2 :: rest2)))).set 14 (some (.int (A2.length : Int)))) 14 (.int (A2.length : Int)) := At.self (by rw [List.length_set, s10.len]; decide)
  generalize (ρ5.set 13 (some (.lst (trD A2 ++ a2 :: rest2)))).set 14 (some (.int (A2.length : Int))) = ρ6 at f11 s11 k11 k12 k13 k14
  obtain ⟨S7, w7, x7⟩ := word_tree (A1.length : Int) S6
  have st7 := st6.le x7
  obtain ⟨S8, w8, x8⟩ := word_tree (A2.length : Int) S7
  have st8 := st7.le x8
  have cp1 : capD ρ6 [11, 13] = some [.lst (trD A1 ++ a1 :: rest1), .lst (trD A2 ++ a2 :: rest2)] := by
    unfold capD
    rw [show ρ6[11]? = _ from k11]
    simp only
    unfold capD
    rw [show ρ6[13]? = _ from k13]
    rfl
  have cp2 : capD ρ6 [6, 13] = some [.lst (trD T1), .lst (trD A2 ++ a2 :: rest2)] := by
    unfold capD
    rw [show ρ6[6]? = _ from s11.a6]
    simp only
    unfold capD
    rw [show ρ6[13]? = _ from k13]
    rfl
  have v1 := word_go (is := [11, 13]) (fb := l0_law) st6.tab cp1 ((opX2 (x := .lst (trD A1 ++ a1 :: rest1)) (S1 := S6) (y := .lst (trD A2 ++ a2 :: rest2)) (S2 := S6) rfl rfl).trans (run_fewest1 (need_badD t1 m1 n1 q1 S6))) w7
  have v2 := word_go (is := [6, 13]) (fb := l1_law) st7.tab cp2 ((opX2 (x := .lst (trD T1)) (S1 := S7) (y := .lst (trD A2 ++ a2 :: rest2)) (S2 := S7) rfl rfl).trans (run_fewest2 (need_ok h1 (by omega) S7) (need_badD t2 m2 n2 q2 S7))) w8
  have f12 : sl_12 ρ6 S6 = some (.nx, ρ6, S7) := by
    refine (if_go (x := false) (S' := S7) (val_go ((op2_go v1 ((opn2 (x := .str "tree") (S1 := S7) rfl (k12.var S7)).trans (kTup_ok (l := [.str "tree", .int (A1.length : Int)]) (hz 2 (by decide)) S7))).trans (tree_ne S7)))).trans rfl
  have f13 : sl_13 ρ6 S7 = some (.nx, ρ6, S8) := by
    refine (if_go (x := false) (S' := S8) (val_go ((op2_go v2 ((opn2 (x := .str "tree") (S1 := S8) rfl (k14.var S8)).trans (kTup_ok (l := [.str "tree", .int (A2.length : Int)]) (hz 2 (by decide)) S8))).trans (tree_ne S8)))).trans rfl
  exact ⟨ρ6, S8, (seq_nx f1).trans ((seq_nx f2).trans ((seq_nx f3).trans ((seq_nx f4).trans ((seq_nx f10).trans ((seq_nx f11).trans ((seq_nx f12).trans f13)))))), s11.len, s11.a1, st8⟩
end K8
set_option maxHeartbeats 1600000
/-! k08: law gives True. -/
namespace K8
open PySem PySem.Spec PySem.W PyProof.Rows L2 G3 Lst
def oneS (i : Nat) : Str := ⟨#[97 + i]⟩
def twoS (j : Nat) : Str := ⟨#[105 + j]⟩
def rowW (i : Nat) : LT := (List.range 8).map fun j => ([oneS i, twoS j], 5)
def WT : LT := (List.range 8).flatMap rowW
theorem signs_a : G3.signs "abcdefgh" = (List.range 8).map fun i => D.str (oneS i) := by kernel_rfl
theorem signs_i : G3.signs "ijklmnop" = (List.range 8).map fun j => D.str (twoS j) := by kernel_rfl
theorem WT_ris : Lst.Ris WT := by
  unfold Lst.Ris
  decide +kernel
theorem WT_ok : ∀ x, x ∈ WT → vK x := by
  intro x hx
  obtain ⟨i, hi, hx⟩ := List.mem_flatMap.mp hx
  obtain ⟨j, hj, rfl⟩ := List.mem_map.mp hx
  have hi' := List.mem_range.mp hi
  have hj' := List.mem_range.mp hj
  refine ⟨⟨by show 2 ≤ 4; decide, fun y hy => ?_⟩, by show (0 : Int) ≤ 5; decide, by show (5 : Int) ≤ 999; decide⟩
  have hy : y = oneS i ∨ y = twoS j := by simpa using hy
  rcases hy with rfl | rfl
  · exact ⟨97 + i, by omega, by omega, rfl⟩
  · exact ⟨105 + j, by omega, by omega, rfl⟩
theorem WT_len : WT.length = 64 := by decide +kernel
theorem WT_tree : Tree WT := ⟨WT_ris, WT_ok⟩
def T60 : LT := WT.take 60
theorem T60_tree : Tree T60 := WT_tree.take 60
theorem T60_len : T60.length = 60 := by unfold T60; rw [List.length_take, WT_len]; rfl
theorem nil_tree : Tree [] := ⟨List.Pairwise.nil, fun _ h => absurd h List.not_mem_nil⟩
theorem take60 : (trD WT).take 60 = trD T60 := by unfold trD T60; rw [List.map_take]
theorem take61 : ∃ d, (trD WT).take 61 = trD T60 ++ d :: [] := by
  have h : 60 < (trD WT).length := by rw [trD, List.length_map, WT_len]; decide
  refine ⟨(trD WT)[60], ?_⟩
  rw [← take60, List.take_succ, List.getElem?_eq_getElem h]
  rfl
theorem best_one : (best7 T60_tree nil_tree).length = 1 := by
  have h1 : (best7 T60_tree nil_tree).length ≤ 1 := best7_least T60_tree nil_tree (s := [.clear []]) (by
    show T60.filter (fun k => decide (¬ [] <+: k.1)) = []
    rw [List.filter_eq_nil_iff]
    intro x _
    simp)
  rcases Nat.eq_zero_or_pos (best7 T60_tree nil_tree).length with h | h
  · have e : best7 T60_tree nil_tree = [] := List.eq_nil_of_length_eq_zero h
    have q := best7_lrun T60_tree nil_tree
    rw [e] at q
    have : T60.length = 0 := by rw [show T60 = [] from q]; rfl
    rw [T60_len] at this
    cases this
  · omega
/-- the wide tree's rows -/
theorem wide_go {r : Nat} {ρ : En} {S : S3} (hl : ρ.length = 19) (ha : At ρ 1 (.ref r)) (h3 : At ρ 3 (.lst [])) : ∃ ρ', sFor (iTxt (eC (.str "abcdefgh"))) (gN 4) sl_15 ρ S = some (.nx, ρ', S) ∧ ρ'.length = 19 ∧ At ρ' 3 (.lst (trD WT)) := by
  obtain ⟨ρ', S', e, hl', rfl, ha'⟩ := loop_all (f := fun i => D.str (oneS i)) (src := .txt "abcdefgh") (body := fun d ρ S => (gN 4 d ρ).bind fun ρ' => sl_15 ρ' S)
    (fun dn ρ S' => ρ.length = 19 ∧ S' = S ∧ At ρ 3 (.lst (trD (dn.flatMap rowW)))) (List.range 8) (ρ := ρ) (S := S) ⟨hl, rfl, h3⟩ (by
      rintro dn i post ρ S' hi ⟨g1, rfl, g3⟩
      have hdn : dn.length < 8 := by
        have := congrArg List.length hi
        rw [List.length_range, List.length_append, List.length_cons] at this
        omega
      have hlen : ∀ l : List Nat, (trD (l.flatMap rowW)).length = 8 * l.length := fun l => by
        rw [trD, List.length_map]
        induction l with
        | nil => rfl
        | cons q l ih => rw [List.flatMap_cons, List.length_append, ih, List.length_cons, rowW, List.length_map, List.length_range]; omega
      have q3 : At (ρ.set 4 (some (.str (oneS i)))) 3 (.lst (trD (dn.flatMap rowW))) := g3.set (by decide)
      have q4 : At (ρ.set 4 (some (.str (oneS i)))) 4 (.str (oneS i)) := At.self (by rw [g1]; decide)
      have ql : (ρ.set 4 (some (.str (oneS i)))).length = 19 := by rw [List.length_set, g1]
      generalize hρ : ρ.set 4 (some (.str (oneS i))) = ρ1 at q3 q4 ql
      have hz : ∀ n : Nat, n ≤ 100 → n ≤ sizeLine := fun n h => by rw [sz]; omega
      have el : (eLc false (iTxt (eC (.str "ijklmnop"))) (gN 18) bYes (opn G3.kTup (aCons (opn G3.kTup (aCons (eVar 4) (aCons (eVar 18) aNil))) (aCons (eC (.int 5)) aNil))) [18]) ρ1 S' = some (.lst (trD (rowW i)), S') := by
        have lc := lc_all (f := fun j => D.str (twoS j)) (g := fun j => prD ([oneS i, twoS j], 5)) (t := fun _ => true) (src := .txt "ijklmnop") (T := gN 18) (tst := bYes) (el := opn G3.kTup (aCons (opn G3.kTup (aCons (eVar 4) (aCons (eVar 18) aNil))) (aCons (eC (.int 5)) aNil))) (ρ := wipeD ρ1 [18]) (S := S') rfl (List.range 8) [] (hz 8 (by decide)) (fun j _ => by
          have w4 : At ((wipeD ρ1 [18]).set 18 (some (.str (twoS j)))) 4 (.str (oneS i)) := (q4.set (by decide) : At (ρ1.set 18 none) 4 _).set (by decide)
          have w18 : At ((wipeD ρ1 [18]).set 18 (some (.str (twoS j)))) 18 (.str (twoS j)) := At.self (by show 18 < (ρ1.set 18 none).length; rw [List.length_set, ql]; decide)
          refine ⟨_, rfl, rfl, fun _ => ?_⟩
          exact (opn2 (y := .int 5) (S2 := S') ((opn2 (w4.var S') (w18.var S')).trans (kTup_ok (l := [.str (oneS i), .str (twoS j)]) (hz 2 (by decide)) S')) rfl).trans (kTup_ok (l := [pth [oneS i, twoS j], .int 5]) (hz 2 (by decide)) S'))
        rw [← signs_i, List.filter_eq_self.mpr fun _ _ => rfl] at lc
        refine (lc_go (src := .txt "ijklmnop") (S1 := S') rfl lc).trans ?_
        unfold rowW trD
        rw [List.map_map]
        rfl
      have es : trD ((dn ++ [i]).flatMap rowW) = trD (dn.flatMap rowW) ++ trD (rowW i) := by
        rw [List.flatMap_append]
        unfold trD
        simp
      refine ⟨rfl, ρ1.set 3 (some (.lst (trD ((dn ++ [i]).flatMap rowW)))), S', (bind_of (y := ρ1) (by rw [← hρ]; rfl)).trans ?_, by rw [List.length_set, ql], rfl, At.self (by rw [ql]; decide)⟩
      refine set_go ((op2_go (q3.var S') el).trans ?_)
      rw [es]
      exact kAdd_ll (hz _ (by rw [hlen, trD, List.length_map, rowW, List.length_map, List.length_range]; omega)) S') (fun _ _ _ => rfl)
  rw [← signs_a] at e
  exact ⟨ρ', for_go (src := .txt "abcdefgh") (S1 := S') rfl e, hl', ha'⟩
theorem words_eq (S : S3) : kEq (.lst [.non, .tup [.str "tree", .int 60]]) (.lst [.non, .tup [.str "tree", .int 60]]) S = some (.bl true, S) := by
  have g : gd (.lst [.non, .tup [.str "tree", .int 60]]) = true := by decide +kernel
  rw [kEq_gd g g (by decide) (by decide)]
  simp
theorem run_law (ns : List Int) (S : S3) (h0 : S.ob 0 = some (.tab lamq)) (hn : 0 < S.next) : ∃ S', f_law [.scr (ns.map D.int)] S = some (.bl true, S') := by
  have hz : ∀ n : Nat, n ≤ 100 → n ≤ sizeLine := fun n h => by rw [sz]; omega
  let ρ0 : En := [some (.scr (ns.map D.int)), none, none, none, none, none, none, none, none, none, none, none, none, none, none, none, none, none, none]
  have f0 : sl_0 ρ0 S = some (.nx, ρ0.set 1 (some (.ref S.next)), S.new (.lst (rowL ns 0 0 0))) := by
    refine set_go ?_
    have e : aCons (eVar 0) (aCons (eC (.int 0)) (aCons (eC (.int 0)) (aCons (eC (.int 0)) aNil))) ρ0 S = some (rowL ns 0 0 0, S) := rfl
    unfold opn
    rw [e]
    simp only [Option.bind_some]
    unfold kLst
    rw [if_pos (show (rowL ns 0 0 0).length ≤ sizeLine from hz 4 (by decide))]
    rfl
  have st0 : Sta S.next (S.new (.lst (rowL ns 0 0 0))) := ⟨⟨ns, 0, 0, 0, new_self⟩, by rw [new_ne (by omega)]; exact h0, Nat.lt_succ_self _, hn⟩
  obtain ⟨ρ1, S1, e1, l1, a1, st1⟩ := loop_all (f := rngF) (src := .rng 0 1 4) (body := fun d ρ S => (gN 2 d ρ).bind fun ρ' => tB8 ρ' S)
    (fun dn ρ S' => ρ.length = 19 ∧ At ρ 1 (.ref S.next) ∧ Sta S.next S') (List.range 4) (ρ := ρ0.set 1 (some (.ref S.next))) (S := S.new (.lst (rowL ns 0 0 0))) ⟨rfl, rfl, st0⟩ (by
      rintro dn i post ρ S' hi ⟨g1, g2, g3⟩
      obtain ⟨ρ', S'', e, q1, q2, q3⟩ := turn_go (ρ := ρ.set 2 (some (rngF i))) (by rw [List.length_set, g1]) (g2.set (by decide)) g3
      exact ⟨rfl, ρ', S'', (bind_of (y := ρ.set 2 (some (rngF i))) rfl).trans e, q1, q2, q3⟩) (fun _ _ _ => rfl)
  have f1 : sFor (iRng (aCons (eC (.int 4)) aNil)) (gN 2) tB8 (ρ0.set 1 (some (.ref S.next))) (S.new (.lst (rowL ns 0 0 0))) = some (.nx, ρ1, S1) := for_go (src := .rng 0 1 4) (S1 := S.new (.lst (rowL ns 0 0 0))) ((iRng_one (j := 4) (S1 := S.new (.lst (rowL ns 0 0 0))) rfl (rOk_small (n := 4) (by decide))).trans rfl) e1
  have f14 : sl_14 ρ1 S1 = some (.nx, ρ1.set 3 (some (.lst [])), S1) := set_go (by simp [opn, aNil, kLst, newL])
  obtain ⟨ρ2, f15, l2, a3⟩ := wide_go (r := S.next) (ρ := ρ1.set 3 (some (.lst []))) (S := S1) (by rw [List.length_set, l1]) (a1.set (by decide)) (At.self (by rw [l1]; decide))
  obtain ⟨k, S2, e2, c2, x2, k1, k2⟩ := run_fewest T60_tree nil_tree (by rw [T60_len]; decide) (Nat.zero_le _) S1
  have st2 := st1.le x2
  obtain ⟨S3', w3, x3⟩ := word_tree 60 S2
  have st3 := st2.le x3
  obtain ⟨d61, h61⟩ := take61
  have cp : capD ρ2 [3] = some [.lst (trD WT)] := by
    unfold capD
    rw [show ρ2[3]? = _ from a3]
    rfl
  have hne : ∀ (ρ : En) (S : S3), opn (kLst false) aNil ρ S = some (.lst [], S) := fun ρ S => by simp [opn, aNil, kLst, newL]
  have v1 := word_go (is := [3]) (fb := l3_law) st1.tab cp ((opX2 (eSl_to (n := 60) (l := trD WT) (S1 := S1) (S2 := S1) rfl rfl) (hne _ S1)).trans (by rw [take60]; exact e2)) (show wordEnd (.inl (.ref k), S2) = some (.non, S2) from rfl)
  have nb : f_need_tree [.lst ((trD WT).take 61)] S2 = some (.inr 60, S2) := by
    rw [h61]
    have := need_bad T60_tree (d := d61) (rest := []) (by rw [T60_len]; decide) (by decide) S2 (.inl T60_len)
    rw [T60_len] at this
    exact this
  have v2 := word_go (is := [3]) (fb := l2_law) st2.tab cp ((opX2 (hne _ S2) (eSl_to (n := 61) (l := trD WT) (S1 := S2) (S2 := S2) rfl rfl)).trans (run_fewest2 (need_ok nil_tree (Nat.zero_le _) S2) nb)) w3
  have f16 : sl_16 ρ2 S1 = some (.nx, ρ2.set 5 (some (.lst [.non, .tup [.str "tree", .int 60]])), S3') := set_go ((opn2 v1 v2).trans (kLst_ok (l := [.non, .tup [.str "tree", .int 60]]) (hz 2 (by decide)) S3'))
  have b3 : At (ρ2.set 5 (some (.lst [.non, .tup [.str "tree", .int 60]]))) 3 (.lst (trD WT)) := a3.set (by decide)
  have b5 : At (ρ2.set 5 (some (.lst [.non, .tup [.str "tree", .int 60]]))) 5 (.lst [.non, .tup [.str "tree", .int 60]]) := At.self (by rw [l2]; decide)
  generalize ρ2.set 5 (some (.lst [.non, .tup [.str "tree", .int 60]])) = ρ3 at f16 b3 b5
  obtain ⟨k', S4, e4, c4, x4, _, _⟩ := run_fewest T60_tree nil_tree (by rw [T60_len]; decide) (Nat.zero_le _) S3'
  have kL := kLen_ref c4
  rw [List.length_map, show (bestL (knOf T60_tree.ris nil_tree.ris) 7 []).length = 1 from best_one] at kL
  have hw : (opn (kLst false) (aCons (eC .non) (aCons (opn G3.kTup (aCons (eC (.str "tree")) (aCons (eC (.int 60)) aNil))) aNil))) ρ3 S3' = some (.lst [.non, .tup [.str "tree", .int 60]], S3') :=
    (opn2 (x := .non) (S1 := S3') rfl ((opn2 (x := .str "tree") (S1 := S3') (y := .int 60) (S2 := S3') rfl rfl).trans (kTup_ok (l := [.str "tree", .int 60]) (hz 2 (by decide)) S3'))).trans (kLst_ok (l := [.non, .tup [.str "tree", .int 60]]) (hz 2 (by decide)) S3')
  have f17 : sl_17 ρ3 S3' = some (.rt (.bl true), ρ3, S4) := by
    refine ret_go ((and_val ((op2_go (b5.var S3') hw).trans (words_eq S3'))).trans ?_)
    refine (op2_go (x := .int 1) (S1 := S4) (y := .int 1) (S2 := S4) ((opn1 ((opn2 (eSl_to (n := 60) (b3.var S3') rfl) (hne ρ3 S3')).trans (calm_go (by rw [take60]; exact e4)))).trans kL) rfl).trans ((kEq_int 1 1 S4).trans (by simp))
  refine ⟨S4, fnM_rt (ρ := ρ0) (ρ' := ρ3) rfl rfl ?_⟩
  exact (seq_nx f0).trans ((seq_nx f1).trans ((seq_nx f14).trans ((seq_nx f15).trans ((seq_nx f16).trans f17))))
end K8
set_option maxHeartbeats 4000000
/-! k08: from what the top has written to the law's promise. Printed by genend.py. -/
namespace K8
open PySem PySem.Spec PySem.W PyProof.Rows L2 G3
/-- where the state begins: the law's own table of code objects -/
def S8 : S3 := ⟨1, fun n => if n = 0 then some (.tab lamq) else none⟩
theorem start_ok {g : G} {H : Hp} {a : Addr} {ns : List Int} (ht : H g.tp = some (.tbl #[])) (hS : SqL g.K H a (ns.map V.int)) :
    spM g f_law [.ref a] H (fun v _ => v = .bl true) fun _ _ _ => False := by
  have h8 : S8.ob 0 = some (.tab lamq) := rfl
  obtain ⟨S', e⟩ := run_law ns S8 h8 (Nat.lt_succ_self 0)
  let loc : G3.Loc := ⟨fun _ => g.tp, fun _ => False⟩
  have ob : ∀ n o, S8.ob n = some o → n = 0 ∧ o = .tab lamq := fun n o h => by
    have h' : (if n = 0 then some (MO.tab lamq) else none) = some o := h
    split at h'
    · rename_i hn; exact ⟨hn, (Option.some.inj h').symm⟩
    · cases h'
  have A : Abs g S8 loc H := by
    refine ⟨fun m n x y h1 h2 _ => (ob m x h1).1.trans (ob n y h2).1.symm, fun n h => ?_, fun n o h => ?_, fun p h => h.elim, fun _ _ _ h => h⟩
    · show (if n = 0 then some (MO.tab lamq) else none) = none
      rw [if_neg]
      have : 1 ≤ n := h
      omega
    · obtain ⟨rfl, rfl⟩ := ob n o h
      exact ⟨rfl, #[], ht, trivial, fun pos cv hc => by cases hc⟩
  have nsR : ∀ l : List Int, Reps g S8 loc H (l.map D.int) (l.map V.int) := fun l => by
    induction l with
    | nil => exact .nil
    | cons i l ih => exact .cons (.int i) ih
  have nl : ∀ xs : List V, Rd H a (.lst xs) → ¬ Live S8 loc a := fun xs r z => by
    rcases z with ⟨n, o, h, q⟩ | z
    · have q' : g.tp = a := q
      subst q'
      rcases r with r | ⟨u, r⟩ <;> (rw [ht] at r; cases r)
    · exact z
  have R : Rep g S8 loc H (.scr (ns.map D.int)) (.ref a) := by
    rcases hS with r | ⟨o, its, n, h1, h2, h3, h4, h5, h6⟩
    · exact .scr r (nl _ r) (nsR ns)
    · exact .kscr ⟨o, its, n, h1, h2, fun _ => h3, h4, h5, h6⟩ (nsR ns)
  refine ⟨S8, loc, [.scr (ns.map D.int)], .bl true, S', A, .cons R .nil, e, fun v loc' H' A' x r => ?_⟩
  cases r
  rfl
theorem all_mk {l : PySem.W.OpenLaw} {w : World} {K : PySem.W.Frag} {h : Heap} {mg : Str → Option Value} {fa : Addr} (X : K.In h) (G : h.Ns mainGlobals mg) (hfa : mg "law" = some (.ref fa)) (own : LamX.OwnTab K fa h)
    {fl c tP : Addr} {oc kV doc pm ct : Value} {od an : Option Addr} {osl : Array (Option Value)} {ec : Value} {dc : Option Addr} {vs : Array Value} {slc : Array (Option Value)} {f_is_whole : Addr} {f_is_name : Addr} {f_is_path : Addr} {f_is_within : Addr} {f_is_key : Addr} {f_need_tree : Addr} {f_branches : Addr} {f_own_change : Addr} {f_best : Addr} {f_fewest : Addr} {f__law_taken : Addr} {f__law_alike : Addr} {f__law_word : Addr} {f__law_done : Addr} {f__law_fewest : Addr} {f__law_tree : Addr} {f__law_bad : Addr} {bt fi he : Addr} {nm q : Str} {N : Addr} {bs bm : List Value} {sn : List Str} {sub : List Value} {ab : Bool} {col : Option Bool} {dd : Option Addr} {m0 m1 m2 m3 m5 : Option Value} {C_BadPanes : Addr} {C_BadPane : Addr} {C_BadPath : Addr} {C_BadAuthor : Addr} {C_BadChange : Addr} {C_NoWatch : Addr} {C_BadStop : Addr} {u_LETTERS : Value} {u_MOST_NAME : Value} {u_MOST_DEEP : Value} {u_MOST_WORTH : Value} {u_MOST_KEYS : Value}
    (a_law : PySem.W.nsIn K mainGlobals "law" = some (some (.ref fl)))
    (l_law : K.lookup fl = some ⟨oc, od, .func (PySem.W.fnOf "law" "law" (defArgs st_law) (defBody st_law) (defScope st_law) .none kV doc pm an (.ref c) ct), osl⟩)
    (c_law : PySem.W.codeIn K (.ref c) "law" = true)
    (x_c : K.lookup c = some ⟨ec, dc, .fields vs, slc⟩)
    (x_p : vs[11]? = some (.ref tP))
    (x_h : PySem.W.codeHdIn K c tP = true)
    (x_n : K.lookup tP = none)
    (a_is_whole : PySem.W.nsIn K mainGlobals "is_whole" = some (some (.ref f_is_whole)))
    (d_is_whole : ∃ fd, L2.Fun K "is_whole" "is_whole" st_is_whole f_is_whole fd)
    (a_is_name : PySem.W.nsIn K mainGlobals "is_name" = some (some (.ref f_is_name)))
    (d_is_name : ∃ fd, L2.Fun K "is_name" "is_name" st_is_name f_is_name fd)
    (a_is_path : PySem.W.nsIn K mainGlobals "is_path" = some (some (.ref f_is_path)))
    (d_is_path : ∃ fd, L2.Fun K "is_path" "is_path" st_is_path f_is_path fd)
    (a_is_within : PySem.W.nsIn K mainGlobals "is_within" = some (some (.ref f_is_within)))
    (d_is_within : ∃ fd, L2.Fun K "is_within" "is_within" st_is_within f_is_within fd)
    (a_is_key : PySem.W.nsIn K mainGlobals "is_key" = some (some (.ref f_is_key)))
    (d_is_key : ∃ fd, L2.Fun K "is_key" "is_key" st_is_key f_is_key fd)
    (a_need_tree : PySem.W.nsIn K mainGlobals "need_tree" = some (some (.ref f_need_tree)))
    (d_need_tree : ∃ fd, L2.Fun K "need_tree" "need_tree" st_need_tree f_need_tree fd)
    (a_branches : PySem.W.nsIn K mainGlobals "branches" = some (some (.ref f_branches)))
    (d_branches : ∃ fd, L2.Fun K "branches" "branches" st_branches f_branches fd)
    (a_own_change : PySem.W.nsIn K mainGlobals "own_change" = some (some (.ref f_own_change)))
    (d_own_change : ∃ fd, L2.Fun K "own_change" "own_change" st_own_change f_own_change fd)
    (a_best : PySem.W.nsIn K mainGlobals "best" = some (some (.ref f_best)))
    (d_best : ∃ fd, L2.Fun K "best" "best" st_best f_best fd)
    (a_fewest : PySem.W.nsIn K mainGlobals "fewest" = some (some (.ref f_fewest)))
    (d_fewest : ∃ fd, L2.Fun K "fewest" "fewest" st_fewest f_fewest fd)
    (a__law_taken : PySem.W.nsIn K mainGlobals "_law_taken" = some (some (.ref f__law_taken)))
    (d__law_taken : ∃ fd, L2.Fun K "_law_taken" "_law_taken" st__law_taken f__law_taken fd)
    (a__law_alike : PySem.W.nsIn K mainGlobals "_law_alike" = some (some (.ref f__law_alike)))
    (d__law_alike : ∃ fd, L2.Fun K "_law_alike" "_law_alike" st__law_alike f__law_alike fd)
    (a__law_word : PySem.W.nsIn K mainGlobals "_law_word" = some (some (.ref f__law_word)))
    (d__law_word : ∃ fd, L2.Fun K "_law_word" "_law_word" st__law_word f__law_word fd)
    (a__law_done : PySem.W.nsIn K mainGlobals "_law_done" = some (some (.ref f__law_done)))
    (d__law_done : ∃ fd, L2.Fun K "_law_done" "_law_done" st__law_done f__law_done fd)
    (a__law_fewest : PySem.W.nsIn K mainGlobals "_law_fewest" = some (some (.ref f__law_fewest)))
    (d__law_fewest : ∃ fd, L2.Fun K "_law_fewest" "_law_fewest" st__law_fewest f__law_fewest fd)
    (a__law_tree : PySem.W.nsIn K mainGlobals "_law_tree" = some (some (.ref f__law_tree)))
    (d__law_tree : ∃ fd, L2.Fun K "_law_tree" "_law_tree" st__law_tree f__law_tree fd)
    (a__law_bad : PySem.W.nsIn K mainGlobals "_law_bad" = some (some (.ref f__law_bad)))
    (d__law_bad : ∃ fd, L2.Fun K "_law_bad" "_law_bad" st__law_bad f__law_bad fd)
    (a_bt : PySem.W.nsIn K mainGlobals "BadTree" = some (some (.ref bt)))
    (x_bt : K.lookup bt = some (excClassObj nm q bt N bs bm true sn sub ab col dd m0 m1 m2 m3 m5 "ValueError.__new__"))
    (x_ve : PySem.HandSPX.refsVE bm = true)
    (sa : PySem.W.findIn K (.ref bt) "__setattr__" = some (some (.builtin "object.__setattr__")))
    (exC : PySem.W.subIn K (.ref bt) (.type "BaseException") = some true)
    (tyC : PySem.W.typeIn K (.ref bt) = some (.type "type"))
    (kC : PySem.W.keepIn K (.ref bt) = true)
    (ga : PySem.W.findIn K (.ref bt) "__getattribute__" = some (some (.builtin "BaseException.__getattribute__")))
    (gg : PySem.W.findIn K (.ref bt) "__getattr__" = some none)
    (hdC : PySem.W.hasDictIn K bt = true)
    (haC : PySem.W.findIn K (.ref bt) "__class__" = some (some (.builtin "object.__class__")))
    (hnC : PySem.W.specialIn K (.builtin "object.__class__") "__get__" = some (some (.builtin "getset_descriptor.__get__")))
    (htC : PySem.W.takesIn K (.builtin "object.__class__") = some true)
    (hmC : PySem.W.mroIn K bt (.type "object") = some true)
    (isC : PySem.W.isClsIn K bt = true)
    (nbC : PySem.W.findIn K (.ref bt) "number" = some none)
    (i_fi : PySem.W.findIn K (.ref bt) "__init__" = some (some (.ref fi)))
    (t_fi : PySem.W.typeIn K (.ref fi) = some (.type "function"))
    (d_fi : ∃ fd, L2.Fun K "__init__" "BadTree.__init__" st_ini fi fd)
    (a_he : PySem.W.nsIn K mainGlobals "HiveError" = some (some (.ref he)))
    (x_he : PySem.W.exmOne K (.ref bt) (.ref he) = some true)
    (r_he : PySem.W.readsIn K he (.type "type") = true)
    (g_he : PySem.W.specialIn K (.ref he) "__getattribute__" = some (some (.builtin "type.__getattribute__")))
    (v_he : PySem.W.findCls K (.ref he) (.type "type") "__init__" = some (.val (.builtin "ValueError.__init__")))
    (k_ve : PySem.W.kitOne K (.ref bt) (.type "ValueError") = some true)
    (z_ve : PySem.W.nsIn K mainGlobals "ValueError" = some none)
    (k_bt : PySem.W.kitOne K (.ref bt) (.ref bt) = some true)
    (a_BadPanes : PySem.W.nsIn K mainGlobals "BadPanes" = some (some (.ref C_BadPanes)))
    (k_BadPanes : PySem.W.kitOne K (.ref bt) (.ref C_BadPanes) = some false)
    (a_BadPane : PySem.W.nsIn K mainGlobals "BadPane" = some (some (.ref C_BadPane)))
    (k_BadPane : PySem.W.kitOne K (.ref bt) (.ref C_BadPane) = some false)
    (a_BadPath : PySem.W.nsIn K mainGlobals "BadPath" = some (some (.ref C_BadPath)))
    (k_BadPath : PySem.W.kitOne K (.ref bt) (.ref C_BadPath) = some false)
    (a_BadAuthor : PySem.W.nsIn K mainGlobals "BadAuthor" = some (some (.ref C_BadAuthor)))
    (k_BadAuthor : PySem.W.kitOne K (.ref bt) (.ref C_BadAuthor) = some false)
    (a_BadChange : PySem.W.nsIn K mainGlobals "BadChange" = some (some (.ref C_BadChange)))
    (k_BadChange : PySem.W.kitOne K (.ref bt) (.ref C_BadChange) = some false)
    (a_NoWatch : PySem.W.nsIn K mainGlobals "NoWatch" = some (some (.ref C_NoWatch)))
    (k_NoWatch : PySem.W.kitOne K (.ref bt) (.ref C_NoWatch) = some false)
    (a_BadStop : PySem.W.nsIn K mainGlobals "BadStop" = some (some (.ref C_BadStop)))
    (k_BadStop : PySem.W.kitOne K (.ref bt) (.ref C_BadStop) = some false)
    (z_len : PySem.W.nsIn K mainGlobals "len" = some none)
    (z_range : PySem.W.nsIn K mainGlobals "range" = some none)
    (z_isinstance : PySem.W.nsIn K mainGlobals "isinstance" = some none)
    (z_sorted : PySem.W.nsIn K mainGlobals "sorted" = some none)
    (z_set : PySem.W.nsIn K mainGlobals "set" = some none)
    (z_int : PySem.W.nsIn K mainGlobals "int" = some none)
    (z_str : PySem.W.nsIn K mainGlobals "str" = some none)
    (z_bool : PySem.W.nsIn K mainGlobals "bool" = some none)
    (z_tuple : PySem.W.nsIn K mainGlobals "tuple" = some none)
    (z_list : PySem.W.nsIn K mainGlobals "list" = some none)
    (z_dict : PySem.W.nsIn K mainGlobals "dict" = some none)
    (n_LETTERS : PySem.W.nsIn K mainGlobals "LETTERS" = some (some u_LETTERS))
    (e_LETTERS : ∃ t, u_LETTERS = .str "abcdefghijklmnopqrstuvwxyz" t)
    (n_MOST_NAME : PySem.W.nsIn K mainGlobals "MOST_NAME" = some (some u_MOST_NAME))
    (e_MOST_NAME : ∃ t, u_MOST_NAME = .int 3 t)
    (n_MOST_DEEP : PySem.W.nsIn K mainGlobals "MOST_DEEP" = some (some u_MOST_DEEP))
    (e_MOST_DEEP : ∃ t, u_MOST_DEEP = .int 4 t)
    (n_MOST_WORTH : PySem.W.nsIn K mainGlobals "MOST_WORTH" = some (some u_MOST_WORTH))
    (e_MOST_WORTH : ∃ t, u_MOST_WORTH = .int 999 t)
    (n_MOST_KEYS : PySem.W.nsIn K mainGlobals "MOST_KEYS" = some (some u_MOST_KEYS))
    (e_MOST_KEYS : ∃ t, u_MOST_KEYS = .int 60 t) :
    LamX.LawAtS l w K CX0 16 63 "_law_script" mg fa h := by
  have e := hfa.symm.trans (PySem.W.mg_of X G a_law)
  cases e
  obtain ⟨fd_is_whole, F_is_whole⟩ := d_is_whole
  have b_is_whole := F_is_whole.binds (ps := ["thing", "low", "high"]) fun _ _ _ _ _ _ us hl => match us, hl with | [_, _, _], _ => rfl
  obtain ⟨fd_is_name, F_is_name⟩ := d_is_name
  have b_is_name := F_is_name.binds (ps := ["thing"]) fun _ _ _ _ _ _ us hl => match us, hl with | [_], _ => rfl
  obtain ⟨fd_is_path, F_is_path⟩ := d_is_path
  have b_is_path := F_is_path.binds (ps := ["thing"]) fun _ _ _ _ _ _ us hl => match us, hl with | [_], _ => rfl
  obtain ⟨fd_is_within, F_is_within⟩ := d_is_within
  have b_is_within := F_is_within.binds (ps := ["path", "outer"]) fun _ _ _ _ _ _ us hl => match us, hl with | [_, _], _ => rfl
  obtain ⟨fd_is_key, F_is_key⟩ := d_is_key
  have b_is_key := F_is_key.binds (ps := ["key"]) fun _ _ _ _ _ _ us hl => match us, hl with | [_], _ => rfl
  obtain ⟨fd_need_tree, F_need_tree⟩ := d_need_tree
  have b_need_tree := F_need_tree.binds (ps := ["tree"]) fun _ _ _ _ _ _ us hl => match us, hl with | [_], _ => rfl
  obtain ⟨fd_branches, F_branches⟩ := d_branches
  have b_branches := F_branches.binds (ps := ["trees", "path"]) fun _ _ _ _ _ _ us hl => match us, hl with | [_, _], _ => rfl
  obtain ⟨fd_own_change, F_own_change⟩ := d_own_change
  have b_own_change := F_own_change.binds (ps := ["before", "after", "path"]) fun _ _ _ _ _ _ us hl => match us, hl with | [_, _, _], _ => rfl
  obtain ⟨fd_best, F_best⟩ := d_best
  have b_best := F_best.binds (ps := ["before", "after", "path"]) fun _ _ _ _ _ _ us hl => match us, hl with | [_, _, _], _ => rfl
  obtain ⟨fd_fewest, F_fewest⟩ := d_fewest
  have b_fewest := F_fewest.binds (ps := ["before", "after"]) fun _ _ _ _ _ _ us hl => match us, hl with | [_, _], _ => rfl
  obtain ⟨fd__law_taken, F__law_taken⟩ := d__law_taken
  have b__law_taken := F__law_taken.binds (ps := ["_law_row", "_law_many"]) fun _ _ _ _ _ _ us hl => match us, hl with | [_, _], _ => rfl
  obtain ⟨fd__law_alike, F__law_alike⟩ := d__law_alike
  have b__law_alike := F__law_alike.binds (ps := ["_law_found", "_law_due"]) fun _ _ _ _ _ _ us hl => match us, hl with | [_, _], _ => rfl
  obtain ⟨fd__law_word, F__law_word⟩ := d__law_word
  have b__law_word := F__law_word.binds (ps := ["_law_work"]) fun _ _ _ _ _ _ us hl => match us, hl with | [_], _ => rfl
  obtain ⟨fd__law_done, F__law_done⟩ := d__law_done
  have b__law_done := F__law_done.binds (ps := ["_law_tree_here", "_law_change_here"]) fun _ _ _ _ _ _ us hl => match us, hl with | [_, _], _ => rfl
  obtain ⟨fd__law_fewest, F__law_fewest⟩ := d__law_fewest
  have b__law_fewest := F__law_fewest.binds (ps := ["_law_before", "_law_after"]) fun _ _ _ _ _ _ us hl => match us, hl with | [_, _], _ => rfl
  obtain ⟨fd__law_tree, F__law_tree⟩ := d__law_tree
  have b__law_tree := F__law_tree.binds (ps := ["_law_row", "_law_most"]) fun _ _ _ _ _ _ us hl => match us, hl with | [_, _], _ => rfl
  obtain ⟨fd__law_bad, F__law_bad⟩ := d__law_bad
  have b__law_bad := F__law_bad.binds (ps := ["_law_row", "_law_tree_here"]) fun _ _ _ _ _ _ us hl => match us, hl with | [_, _], _ => rfl
  obtain ⟨fd_fi, F_fi⟩ := d_fi
  have b_fi := F_fi.binds (ps := ["self", "number"]) fun _ _ _ _ _ _ us hl => match us, hl with | [_, _], _ => rfl
  let g : G3.G := ⟨K, fun _ => 0, fun k => k.hash w, bt, tP⟩
  have T : Nonempty (Txt g w mg) := ⟨{ is_whole := ⟨f_is_whole, fd_is_whole, F_is_whole, b_is_whole, PySem.W.mg_of X G a_is_whole⟩, is_name := ⟨f_is_name, fd_is_name, F_is_name, b_is_name, PySem.W.mg_of X G a_is_name⟩, is_path := ⟨f_is_path, fd_is_path, F_is_path, b_is_path, PySem.W.mg_of X G a_is_path⟩, is_within := ⟨f_is_within, fd_is_within, F_is_within, b_is_within, PySem.W.mg_of X G a_is_within⟩, is_key := ⟨f_is_key, fd_is_key, F_is_key, b_is_key, PySem.W.mg_of X G a_is_key⟩, need_tree := ⟨f_need_tree, fd_need_tree, F_need_tree, b_need_tree, PySem.W.mg_of X G a_need_tree⟩, branches := ⟨f_branches, fd_branches, F_branches, b_branches, PySem.W.mg_of X G a_branches⟩, own_change := ⟨f_own_change, fd_own_change, F_own_change, b_own_change, PySem.W.mg_of X G a_own_change⟩, best := ⟨f_best, fd_best, F_best, b_best, PySem.W.mg_of X G a_best⟩, fewest := ⟨f_fewest, fd_fewest, F_fewest, b_fewest, PySem.W.mg_of X G a_fewest⟩, _law_taken := ⟨f__law_taken, fd__law_taken, F__law_taken, b__law_taken, PySem.W.mg_of X G a__law_taken⟩, _law_alike := ⟨f__law_alike, fd__law_alike, F__law_alike, b__law_alike, PySem.W.mg_of X G a__law_alike⟩, _law_word := ⟨f__law_word, fd__law_word, F__law_word, b__law_word, PySem.W.mg_of X G a__law_word⟩, _law_done := ⟨f__law_done, fd__law_done, F__law_done, b__law_done, PySem.W.mg_of X G a__law_done⟩, _law_fewest := ⟨f__law_fewest, fd__law_fewest, F__law_fewest, b__law_fewest, PySem.W.mg_of X G a__law_fewest⟩, _law_tree := ⟨f__law_tree, fd__law_tree, F__law_tree, b__law_tree, PySem.W.mg_of X G a__law_tree⟩, _law_bad := ⟨f__law_bad, fd__law_bad, F__law_bad, b__law_bad, PySem.W.mg_of X G a__law_bad⟩, a_BadPanes := C_BadPanes, m_BadPanes := PySem.W.mg_of X G a_BadPanes, k_BadPanes := k_BadPanes, a_BadPane := C_BadPane, m_BadPane := PySem.W.mg_of X G a_BadPane, k_BadPane := k_BadPane, a_BadPath := C_BadPath, m_BadPath := PySem.W.mg_of X G a_BadPath, k_BadPath := k_BadPath, a_BadAuthor := C_BadAuthor, m_BadAuthor := PySem.W.mg_of X G a_BadAuthor, k_BadAuthor := k_BadAuthor, a_BadChange := C_BadChange, m_BadChange := PySem.W.mg_of X G a_BadChange, k_BadChange := k_BadChange, a_NoWatch := C_NoWatch, m_NoWatch := PySem.W.mg_of X G a_NoWatch, k_NoWatch := k_NoWatch, a_BadStop := C_BadStop, m_BadStop := PySem.W.mg_of X G a_BadStop, k_BadStop := k_BadStop, z_len := PySem.W.mg_none_of X G z_len, z_range := PySem.W.mg_none_of X G z_range, z_isinstance := PySem.W.mg_none_of X G z_isinstance, z_sorted := PySem.W.mg_none_of X G z_sorted, z_set := PySem.W.mg_none_of X G z_set, z_int := PySem.W.mg_none_of X G z_int, z_str := PySem.W.mg_none_of X G z_str, z_bool := PySem.W.mg_none_of X G z_bool, z_tuple := PySem.W.mg_none_of X G z_tuple, z_list := PySem.W.mg_none_of X G z_list, z_dict := PySem.W.mg_none_of X G z_dict, u_LETTERS := u_LETTERS, c_LETTERS := ⟨PySem.W.mg_of X G n_LETTERS, e_LETTERS⟩, u_MOST_NAME := u_MOST_NAME, c_MOST_NAME := ⟨PySem.W.mg_of X G n_MOST_NAME, e_MOST_NAME⟩, u_MOST_DEEP := u_MOST_DEEP, c_MOST_DEEP := ⟨PySem.W.mg_of X G n_MOST_DEEP, e_MOST_DEEP⟩, u_MOST_WORTH := u_MOST_WORTH, c_MOST_WORTH := ⟨PySem.W.mg_of X G n_MOST_WORTH, e_MOST_WORTH⟩, u_MOST_KEYS := u_MOST_KEYS, c_MOST_KEYS := ⟨PySem.W.mg_of X G n_MOST_KEYS, e_MOST_KEYS⟩, hs := rfl, ini_a := fi, ini_d := fd_fi, ini_F := F_fi, ini_b := b_fi, bt_T := ⟨⟨nm, q, N, bs, bm, sn, sub, ab, col, dd, m0, m1, m2, m3, m5, x_bt, x_ve⟩, sa, exC, tyC, kC⟩, bt_i := i_fi, bt_t := t_fi, bt_m := PySem.W.mg_of X G a_bt, bt_n := nbC, bt_C := ⟨ga, gg, exC, hdC, haC, hnC, htC, hmC⟩, bt_X := ⟨ga, gg, exC, hdC⟩, bt_s := isC, z_ValueError := PySem.W.mg_none_of X G z_ve, k_ValueError := k_ve, a_BadTree := bt, m_BadTree := PySem.W.mg_of X G a_bt, k_BadTree := k_bt, he_a := he, he_x := x_he, he_m := PySem.W.mg_of X G a_he, he_r := ⟨r_he, g_he⟩, he_v := v_he }⟩
  obtain ⟨T⟩ := T
  refine ⟨PySem.W.fnOf "law" "law" (defArgs st_law) (defBody st_law) (defScope st_law) .none kV doc pm an (.ref c) ct, [(c, tP)], spM g f_law, fun p hp => ?_, fun p hp => ?_, fun p hp => ?_, fun s u => .of_eq rfl, fun H a ns _ _ hH hS => ?_, fun base hK hN hT => ?_⟩
  · have hp : p = (c, tP) := by simpa using hp
    rw [hp]
    exact own c tP _ _ ec dc vs slc l_law rfl rfl x_c x_p
  · have hp : p = (c, tP) := by simpa using hp
    rw [hp]
    exact x_n
  · have hp : p = (c, tP) := by simpa using hp
    rw [hp]
    exact PySem.W.codeHd_of_K X x_h
  · exact start_ok (g := g) (hH (c, tP) (by simp)) hS
  · exact ok_law T l_law c_law (hT (c, tP) (by simp))
end K8
open PySem PySem.W PyProof.Rows
set_option maxHeartbeats 0 in
theorem PySem.Challenge.cw_hivekeys_k08_fewest_by_trying_all_holds : PySem.Challenge.rw_hivekeys_k08_fewest_by_trying_all.Holds := by
  w_on; o_law; k_head; (case hw => w_witness2)
  k_fill
  refine LamX.walk_ofOwn (l := PySem.Challenge.rw_hivekeys_k08_fewest_by_trying_all) (n := 63) (k := 16) (x := "_law_script") (CX := fun _ => L2.CX0) rfl (by decide) rfl ⟨rfl, by decide, by decide⟩ (by kernel_rfl) (fun w h Y => PySem.W.km_in_of Y) ?F (fun _ _ _ _ _ h => h)
  case F =>
    intro w mg fa h Y KX G hmg own
    refine' K8.all_mk KX G hmg own ?a_law ?l_law ?c_law ?x_c ?x_p ?x_h ?x_n ?a_is_whole ?d_is_whole ?a_is_name ?d_is_name ?a_is_path ?d_is_path ?a_is_within ?d_is_within ?a_is_key ?d_is_key ?a_need_tree ?d_need_tree ?a_branches ?d_branches ?a_own_change ?d_own_change ?a_best ?d_best ?a_fewest ?d_fewest ?a__law_taken ?d__law_taken ?a__law_alike ?d__law_alike ?a__law_word ?d__law_word ?a__law_done ?d__law_done ?a__law_fewest ?d__law_fewest ?a__law_tree ?d__law_tree ?a__law_bad ?d__law_bad ?a_bt ?x_bt ?x_ve ?sa ?exC ?tyC ?kC ?ga ?gg ?hdC ?haC ?hnC ?htC ?hmC ?isC ?nbC ?i_fi ?t_fi ?d_fi ?a_he ?x_he ?r_he ?g_he ?v_he ?k_ve ?z_ve ?k_bt ?a_BadPanes ?k_BadPanes ?a_BadPane ?k_BadPane ?a_BadPath ?k_BadPath ?a_BadAuthor ?k_BadAuthor ?a_BadChange ?k_BadChange ?a_NoWatch ?k_NoWatch ?a_BadStop ?k_BadStop ?z_len ?z_range ?z_isinstance ?z_sorted ?z_set ?z_int ?z_str ?z_bool ?z_tuple ?z_list ?z_dict ?n_LETTERS ?e_LETTERS ?n_MOST_NAME ?e_MOST_NAME ?n_MOST_DEEP ?e_MOST_DEEP ?n_MOST_WORTH ?e_MOST_WORTH ?n_MOST_KEYS ?e_MOST_KEYS
    (case a_law => k_is)
    (case l_law => k_is)
    (case c_law => k_is)
    (case x_c => k_is)
    (case x_p => rfl)
    (case x_h => kernel_rfl)
    (case x_n => kernel_rfl)
    (case a_is_whole => k_is)
    (case d_is_whole => exact ⟨_, L2.fun_mk (by k_is) (by k_is) (by k_is)⟩)
    (case a_is_name => k_is)
    (case d_is_name => exact ⟨_, L2.fun_mk (by k_is) (by k_is) (by k_is)⟩)
    (case a_is_path => k_is)
    (case d_is_path => exact ⟨_, L2.fun_mk (by k_is) (by k_is) (by k_is)⟩)
    (case a_is_within => k_is)
    (case d_is_within => exact ⟨_, L2.fun_mk (by k_is) (by k_is) (by k_is)⟩)
    (case a_is_key => k_is)
    (case d_is_key => exact ⟨_, L2.fun_mk (by k_is) (by k_is) (by k_is)⟩)
    (case a_need_tree => k_is)
    (case d_need_tree => exact ⟨_, L2.fun_mk (by k_is) (by k_is) (by k_is)⟩)
    (case a_branches => k_is)
    (case d_branches => exact ⟨_, L2.fun_mk (by k_is) (by k_is) (by k_is)⟩)
    (case a_own_change => k_is)
    (case d_own_change => exact ⟨_, L2.fun_mk (by k_is) (by k_is) (by k_is)⟩)
    (case a_best => k_is)
    (case d_best => exact ⟨_, L2.fun_mk (by k_is) (by k_is) (by k_is)⟩)
    (case a_fewest => k_is)
    (case d_fewest => exact ⟨_, L2.fun_mk (by k_is) (by k_is) (by k_is)⟩)
    (case a__law_taken => k_is)
    (case d__law_taken => exact ⟨_, L2.fun_mk (by k_is) (by k_is) (by k_is)⟩)
    (case a__law_alike => k_is)
    (case d__law_alike => exact ⟨_, L2.fun_mk (by k_is) (by k_is) (by k_is)⟩)
    (case a__law_word => k_is)
    (case d__law_word => exact ⟨_, L2.fun_mk (by k_is) (by k_is) (by k_is)⟩)
    (case a__law_done => k_is)
    (case d__law_done => exact ⟨_, L2.fun_mk (by k_is) (by k_is) (by k_is)⟩)
    (case a__law_fewest => k_is)
    (case d__law_fewest => exact ⟨_, L2.fun_mk (by k_is) (by k_is) (by k_is)⟩)
    (case a__law_tree => k_is)
    (case d__law_tree => exact ⟨_, L2.fun_mk (by k_is) (by k_is) (by k_is)⟩)
    (case a__law_bad => k_is)
    (case d__law_bad => exact ⟨_, L2.fun_mk (by k_is) (by k_is) (by k_is)⟩)
    (case a_bt => k_is)
    (case x_bt => k_is)
    (case x_ve => decide +kernel)
    (case sa => k_is)
    (case exC => k_is)
    (case tyC => k_is)
    (case kC => k_is)
    (case ga => k_is)
    (case gg => k_is)
    (case hdC => k_is)
    (case haC => k_is)
    (case hnC => k_is)
    (case htC => k_is)
    (case hmC => k_is)
    (case isC => k_is)
    (case nbC => k_is)
    (case i_fi => k_is)
    (case t_fi => k_is)
    (case d_fi => exact ⟨_, L2.fun_mk (by k_is) (by k_is) (by k_is)⟩)
    (case a_he => k_is)
    (case x_he => kernel_rfl)
    (case r_he => k_is)
    (case g_he => k_is)
    (case v_he => k_is)
    (case k_ve => kernel_rfl)
    (case z_ve => k_is)
    (case k_bt => kernel_rfl)
    (case a_BadPanes => k_is)
    (case k_BadPanes => kernel_rfl)
    (case a_BadPane => k_is)
    (case k_BadPane => kernel_rfl)
    (case a_BadPath => k_is)
    (case k_BadPath => kernel_rfl)
    (case a_BadAuthor => k_is)
    (case k_BadAuthor => kernel_rfl)
    (case a_BadChange => k_is)
    (case k_BadChange => kernel_rfl)
    (case a_NoWatch => k_is)
    (case k_NoWatch => kernel_rfl)
    (case a_BadStop => k_is)
    (case k_BadStop => kernel_rfl)
    (case z_len => k_is)
    (case z_range => k_is)
    (case z_isinstance => k_is)
    (case z_sorted => k_is)
    (case z_set => k_is)
    (case z_int => k_is)
    (case z_str => k_is)
    (case z_bool => k_is)
    (case z_tuple => k_is)
    (case z_list => k_is)
    (case z_dict => k_is)
    (case n_LETTERS => k_is)
    (case e_LETTERS => exact ⟨_, rfl⟩)
    (case n_MOST_NAME => k_is)
    (case e_MOST_NAME => exact ⟨_, rfl⟩)
    (case n_MOST_DEEP => k_is)
    (case e_MOST_DEEP => exact ⟨_, rfl⟩)
    (case n_MOST_WORTH => k_is)
    (case e_MOST_WORTH => exact ⟨_, rfl⟩)
    (case n_MOST_KEYS => k_is)
    (case e_MOST_KEYS => exact ⟨_, rfl⟩)
