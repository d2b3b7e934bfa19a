import PyProof.Rows.All
import Wide.All
import OpenK.AllK
import Wide.FinOn
import KE.KDictKeyed
import KE.KDictWalk
import HandS.ForMost
import HandS.TupAny
import HandS.TupMul
import KE.SortData
import HandS.Exc
import HandS.ExcOwn
import HandS.CallSlots
import HandS.Text
import HandS.StrMore
import PyProof.Rows.StrJoinRep
import HandS.Deep
import KE.KTab
import PyProof.DictFindH
import PyProof.DictRoadsH
import KE.KEqDict
import HandS.Strs
import KE.KDictSum
import KE.KDictCopyH
import HandS.Conv
import PyProof.TupleOfSeq
import HandS.ExcInit
import KE.KExcSuper
import KE.KSuper
import PyProof.FString4
import HandS.ExcSuper
import HandS.ExcValue
import HandS.ExcIs
import HandS.ExcField
import HandS.Comp
import HandS.DictComp
import HandS.IsInst
import HandS.Iter
import HandS.Zip
import HandS.Property
import HandS.Records
import HandS.Flow
import HandS.Star
import KE.KDictOf
import KE.KDictPairs
import KE.KRevSl
import HandS.ListItems
import KE.KDictItemsList
import HandS.OwnEq
import PyProof.DictTable
import HandS.Set
import HandS.SetFor
import HandS.Style
import HandS.TryMany
import PyProof.RulesMatch
import HandS.Defaults
import HandS.Head0
import HandS.Head1
import HandS.Head2
import HandS.HeadEnd
import HandS.HeadHook1
import HandS.HeadHook2
import HandS.HeadHook3
import HandS.HeadHook4
import HandS.HeadNt
import PySem.Challenge.RW_dutieslent_k01_books_refused
set_option Elab.async false
set_option linter.all false
set_option maxRecDepth 100000
set_option pp.maxSteps 600
section
set_option maxHeartbeats 4000000
/-! Rx: values as trees, a store of changing things by address, what a reading is over them. -/
namespace Rx
open PySem L2

/-- a value: what never changes is a tree; a changing thing is known by its address -/
inductive PV where
  | non
  | bl (b : Bool)
  | int (i : Int)
  | str (s : String)
  | tup (xs : List PV)
  | ref (a : Addr)
  | kd (kvs : List (String × PV))
  | xl (xs : List PV)
  deriving Inhabited

/-- a changing thing -/
inductive MO where
  | lst (xs : List PV)
  | dct (kvs : List (PV × PV))
  | kdc (kvs : List (PV × PV))
  | ins (c : String) (fs : List (String × PV))
  | own
  | lck

abbrev MM := Addr → Option MO
def mput (M : MM) (a : Addr) (o : MO) : MM := fun b => if b = a then some o else M b
@[simp] theorem mput_same {M : MM} {a : Addr} {o : MO} : mput M a o a = some o := by unfold mput; rw [if_pos rfl]
theorem mput_ne {M : MM} {a b : Addr} {o : MO} (h : b ≠ a) : mput M a o b = M b := by unfold mput; rw [if_neg h]
theorem mput_mput {M : MM} {a : Addr} {o u : MO} : mput (mput M a o) a u = mput M a u := by
  funext b; unfold mput; split <;> rfl
/-- a thing that was there stays behind a new one -/
theorem mput_old {M : MM} {a b : Addr} {o u : MO} (h : M a = none) (h' : M b = some u) : mput M a o b = some u := by
  rw [mput_ne]
  · exact h'
  · rintro rfl; rw [h] at h'; cases h'

abbrev Sg := List (Option PV)
abbrev KV1 := PV → MM → Prop

/-- a tuple that stands: tracked or written -/
def TupAt (K : PySem.W.Frag) (H : Hp) (a : Addr) (xs : List V) : Prop :=
  (∃ o, H a = some (.frz o (.tup xs)) ∧ o.cls = .type "tuple" ∧ o.dict = none) ∨
    ∃ (o : Obj) (its : Array Value) (n : Nat), K.lookup a = some o ∧ o.cls = .type "tuple" ∧ o.dict = none ∧ o.data = .seq its n ∧ its.size ≤ sizeLine ∧ Vals xs its.toList
theorem TupAt.sq {K : PySem.W.Frag} {H : Hp} {a : Addr} {xs : List V} (h : TupAt K H a xs) : SqT K H a xs := by
  rcases h with ⟨o, h, _⟩ | ⟨o, its, n, h1, h2, _, h3, h4, h5⟩
  · exact .inl (.inr ⟨o, h⟩)
  · exact .inr ⟨o, its, n, h1, h2, h3, h4, h5⟩
/-- a tuple's object -/
def tupO (us : List Value) (n : Nat) : Obj := { cls := .type "tuple", data := .seq us.toArray n }
/-- a list from outside, that nobody changes -/
def XlAt (K : PySem.W.Frag) (H : Hp) (a : Addr) (xs : List V) : Prop :=
  (∃ o, H a = some (.frz o (.lst xs))) ∨
    ∃ (o : Obj) (its : Array Value) (n : Nat), K.lookup a = some o ∧ o.cls = .type "list" ∧ o.dict = none ∧ o.data = .seq its n ∧ its.size ≤ sizeLine ∧ Vals xs its.toList
theorem XlAt.sq {K : PySem.W.Frag} {H : Hp} {a : Addr} {xs : List V} (h : XlAt K H a xs) : SqL K H a xs := by
  rcases h with ⟨o, h⟩ | h
  · exact .inl (.inr ⟨o, h⟩)
  · exact .inr h

mutual
/-- the value v stands for the tree -/
inductive Rep (K : PySem.W.Frag) (H : Hp) : PV → V → Prop
  | non : Rep K H .non .non
  | bl (b : Bool) : Rep K H (.bl b) (.bl b)
  | int (i : Int) : Rep K H (.int i) (.int i)
  | str (s : String) : Rep K H (.str s) (.str (Str.ofString s))
  | tup {a : Addr} {vs : List V} {ps : List PV} : TupAt K H a vs → Reps K H ps vs → Rep K H (.tup ps) (.ref a)
  | ref (a : Addr) : Rep K H (.ref a) (.ref a)
  | xl {a : Addr} {vs : List V} {ps : List PV} : XlAt K H a vs → Reps K H ps vs → Rep K H (.xl ps) (.ref a)
  | kd {a : Addr} {o : Obj} {es : Array DictEntry} {ep : Nat} {kvs : List (String × PV)} : K.lookup a = some o → o.ExactDict → o.data = .dict es ep → kvs.length ≤ 1000 ∧ (a == sysModules) = false → KdRep K H kvs es.toList → Rep K H (.kd kvs) (.ref a)
inductive Reps (K : PySem.W.Frag) (H : Hp) : List PV → List V → Prop
  | nil : Reps K H [] []
  | cons {p : PV} {ps : List PV} {v : V} {vs : List V} : Rep K H p v → Reps K H ps vs → Reps K H (p :: ps) (v :: vs)
/-- the entries of a written dict by texts -/
inductive KdRep (K : PySem.W.Frag) (H : Hp) : List (String × PV) → List DictEntry → Prop
  | nil : KdRep K H [] []
  | cons {k : String} {t : Tok} {q : PV} {u : V} {e : DictEntry} {ps : List (String × PV)} {es : List DictEntry} : e.key = Value.str (Str.ofString k) t → Rep K H q u → RelV u e.val → KdRep K H ps es → KdRep K H ((k, q) :: ps) (e :: es)
end

/-- what every step keeps: tuples, locked things -/
structure Keep (H H' : Hp) : Prop where
  tup : ∀ b xs, H b = some (.tup xs) → H' b = some (.tup xs)
  frz : ∀ b o u, H b = some (.frz o u) → H' b = some (.frz o u)
theorem Keep.refl (H : Hp) : Keep H H := ⟨fun _ _ h => h, fun _ _ _ h => h⟩
theorem Keep.trans {H H1 H2 : Hp} (a : Keep H H1) (b : Keep H1 H2) : Keep H H2 := ⟨fun c xs h => b.tup c xs (a.tup c xs h), fun c o u h => b.frz c o u (a.frz c o u h)⟩
/-- a new thing -/
theorem Keep.new {H : Hp} {p : Addr} {o : HO} (h : H p = none) : Keep H (upd H p o) := ⟨fun b xs e => by rw [upd_ne (ne_of_none e h)]; exact e, fun b o u e => by rw [upd_ne (ne_of_none e h)]; exact e⟩
def isTF : HO → Bool
  | .tup _ => true
  | .frz _ _ => true
  | _ => false
/-- a changing thing changed -/
theorem Keep.set {H : Hp} {p : Addr} {o u : HO} (h : H p = some u) (hu : isTF u = false) : Keep H (upd H p o) := by
  refine ⟨fun b xs e => ?_, fun b o' u' e => ?_⟩
  · rw [upd_ne]
    · exact e
    · rintro rfl; rw [h] at e; cases e; cases hu
  · rw [upd_ne]
    · exact e
    · rintro rfl; rw [h] at e; cases e; cases hu

section
variable {K : PySem.W.Frag} {H H' : Hp}
/-- a weaker keeping: tuples, locked tuples and lists -/
structure KeepW (H H' : Hp) : Prop where
  ft : ∀ b o xs, H b = some (.frz o (.tup xs)) → H' b = some (.frz o (.tup xs))
  fl : ∀ b o xs, H b = some (.frz o (.lst xs)) → H' b = some (.frz o (.lst xs))
theorem Keep.w (k : Keep H H') : KeepW H H' := ⟨fun b o xs => k.frz b o _, fun b o xs => k.frz b o _⟩
theorem TupAt.keepW {a : Addr} {xs : List V} (k : KeepW H H') (h : TupAt K H a xs) : TupAt K H' a xs := h.elim (fun ⟨o, h, h2⟩ => .inl ⟨o, k.ft _ _ _ h, h2⟩) .inr
theorem XlAt.keepW {a : Addr} {xs : List V} (k : KeepW H H') (h : XlAt K H a xs) : XlAt K H' a xs := h.elim (fun ⟨o, h⟩ => .inl ⟨o, k.fl _ _ _ h⟩) .inr
theorem TupAt.keep {a : Addr} {xs : List V} (k : Keep H H') (h : TupAt K H a xs) : TupAt K H' a xs := h.keepW k.w
theorem XlAt.keep {a : Addr} {xs : List V} (k : Keep H H') (h : XlAt K H a xs) : XlAt K H' a xs := h.keepW k.w
mutual
theorem Rep.keepW (k : KeepW H H') : ∀ {p : PV} {v : V}, Rep K H p v → Rep K H' p v
  | _, _, .non => .non
  | _, _, .bl b => .bl b
  | _, _, .int i => .int i
  | _, _, .str s => .str s
  | _, _, .tup h r => .tup (h.keepW k) (Reps.keepW k r)
  | _, _, .ref a => .ref a
  | _, _, .xl h r => .xl (h.keepW k) (Reps.keepW k r)
  | _, _, .kd h1 h2 h3 h4 r => .kd h1 h2 h3 h4 (KdRep.keepW k r)
theorem Reps.keepW (k : KeepW H H') : ∀ {p : List PV} {v : List V}, Reps K H p v → Reps K H' p v
  | _, _, .nil => .nil
  | _, _, .cons a b => .cons (Rep.keepW k a) (Reps.keepW k b)
theorem KdRep.keepW (k : KeepW H H') : ∀ {p : List (String × PV)} {v : List DictEntry}, KdRep K H p v → KdRep K H' p v
  | _, _, .nil => .nil
  | _, _, .cons a b c d => .cons a (Rep.keepW k b) c (KdRep.keepW k d)
end
theorem Rep.keep (k : Keep H H') {p : PV} {v : V} (r : Rep K H p v) : Rep K H' p v := r.keepW k.w
theorem Reps.keep (k : Keep H H') {p : List PV} {v : List V} (r : Reps K H p v) : Reps K H' p v := r.keepW k.w
theorem KdRep.keep (k : Keep H H') {p : List (String × PV)} {v : List DictEntry} (r : KdRep K H p v) : KdRep K H' p v := r.keepW k.w
theorem Reps.length : ∀ {p : List PV} {v : List V}, Reps K H p v → p.length = v.length
  | _, _, .nil => rfl
  | _, _, .cons _ b => by simp only [List.length_cons, b.length]
theorem Reps.get : ∀ {p : List PV} {v : List V} {i : Nat} {x : PV}, Reps K H p v → p[i]? = some x → ∃ w, v[i]? = some w ∧ Rep K H x w
  | _, _, _, _, .nil, e => by simp at e
  | _, _, 0, _, .cons a _, e => by simp at e; subst e; exact ⟨_, rfl, a⟩
  | _, _, i + 1, x, .cons _ b, e => by
    obtain ⟨w, h1, h2⟩ := Reps.get (i := i) (x := x) b (by simpa using e)
    exact ⟨w, by simpa using h1, h2⟩
theorem Reps.get' : ∀ {p : List PV} {v : List V} {i : Nat} {w : V}, Reps K H p v → v[i]? = some w → ∃ x, p[i]? = some x ∧ Rep K H x w
  | _, _, _, _, .nil, e => by simp at e
  | _, _, 0, _, .cons a _, e => by simp at e; subst e; exact ⟨_, rfl, a⟩
  | _, _, i + 1, w, .cons _ b, e => by
    obtain ⟨x, h1, h2⟩ := Reps.get' (i := i) (w := w) b (by simpa using e)
    exact ⟨x, by simpa using h1, h2⟩
theorem Reps.append : ∀ {p q : List PV} {v w : List V}, Reps K H p v → Reps K H q w → Reps K H (p ++ q) (v ++ w)
  | _, _, _, _, .nil, r => r
  | _, _, _, _, .cons a b, r => .cons a (b.append r)
theorem Reps.one {p : PV} {v : V} (r : Rep K H p v) : Reps K H [p] [v] := .cons r .nil
theorem Reps.set {x : PV} {w : V} (r : Rep K H x w) : ∀ {p : List PV} {v : List V} (i : Nat), Reps K H p v → Reps K H (p.set i x) (v.set i w)
  | _, _, _, .nil => .nil
  | _, _, 0, .cons _ b => .cons r b
  | _, _, i + 1, .cons a b => .cons a (Reps.set r i b)
theorem Reps.take : ∀ {p : List PV} {v : List V} (n : Nat), Reps K H p v → Reps K H (p.take n) (v.take n)
  | _, _, 0, _ => .nil
  | _, _, _ + 1, .nil => .nil
  | _, _, n + 1, .cons a b => .cons a (Reps.take n b)
theorem Reps.drop : ∀ {p : List PV} {v : List V} (n : Nat), Reps K H p v → Reps K H (p.drop n) (v.drop n)
  | _, _, 0, r => r
  | _, _, _ + 1, .nil => .nil
  | _, _, n + 1, .cons _ b => Reps.drop n b
theorem Reps.reverse : ∀ {p : List PV} {v : List V}, Reps K H p v → Reps K H p.reverse v.reverse
  | _, _, .nil => .nil
  | _, _, .cons a b => by
    rw [List.reverse_cons, List.reverse_cons]
    exact b.reverse.append (.one a)
theorem Reps.dropLast {p : List PV} {v : List V} (r : Reps K H p v) : Reps K H p.dropLast v.dropLast := by
  rw [List.dropLast_eq_take, List.dropLast_eq_take, r.length]
  exact r.take _
theorem Reps.replicate {p : List PV} {v : List V} (r : Reps K H p v) : ∀ n : Nat, Reps K H (List.replicate n p).flatten (List.replicate n v).flatten
  | 0 => .nil
  | n + 1 => by
    rw [List.replicate_succ, List.replicate_succ, List.flatten_cons, List.flatten_cons]
    exact r.append (r.replicate n)
theorem Rep.none_iff {p : PV} {v : V} (r : Rep K H p v) : (v = .non ↔ p = .non) := by
  cases r <;> simp
end

/-- the raw look of a dict: its entries' keys and values as they stand, their hashes -/
def DctO (a : Addr) (es : Array DictEntry) : HO := .ext fun h => ∃ o ep, h.get? a = some o ∧ o.ExactDict ∧ o.data = .dict es ep

mutual
/-- a tree as a key -/
def keyOf : PV → Option NestedKey
  | .non => some .none
  | .int i => some (.num i)
  | .bl b => some (.num (if b = true then 1 else 0))
  | .str s => some (.text (Str.ofString s))
  | .tup ps => match keysOf ps with
    | some ks => some (.tup ks)
    | none => none
  | _ => none
def keysOf : List PV → Option (List NestedKey)
  | [] => some []
  | p :: ps => match keyOf p, keysOf ps with
    | some k, some ks => some (k :: ks)
    | _, _ => none
end
def kk (p : PV) : NestedKey := (keyOf p).getD .none

/-- the fields that an instance of a class of the program has -/
def fieldOf (c f : String) : Bool :=
  match c with
  | "Book" => ["turns", "names", "open_days", "cap", "parts", "told_words"].contains f
  | "Record" => ["source", "at", "row", "acts", "told", "nights", "able_now"].contains f
  | "Reach" => ["source", "able", "rows", "aim", "aimed", "first_rows"].contains f
  | "Board" => ["source", "row", "now_record"].contains f
  | "Desk" => ["present", "past", "later", "told_now"].contains f
  | "Trial" => ["present", "past", "later", "told_now", "home", "is_kept"].contains f
  | "Line" => ["parts", "number", "spot"].contains f
  | "Reader" => ["rows", "at"].contains f
  | _ => false
structure ClsOk (K : PySem.W.Frag) (C : Addr) (c : String) : Prop where
  cl : Cls K C
  no : ∀ f, fieldOf c f = true → NoAttr K C (Str.ofString f)

/-- the fields of an instance -/
inductive FRep (K : PySem.W.Frag) (H : Hp) : List (String × PV) → List (Str × V) → Prop
  | nil : FRep K H [] []
  | cons {f : String} {p : PV} {v : V} {fs : List (String × PV)} {gs : List (Str × V)} : Rep K H p v → FRep K H fs gs → FRep K H ((f, p) :: fs) ((Str.ofString f, v) :: gs)
theorem FRep.keepW {K : PySem.W.Frag} {H H' : Hp} (k : KeepW H H') : ∀ {fs : List (String × PV)} {gs : List (Str × V)}, FRep K H fs gs → FRep K H' fs gs
  | _, _, .nil => .nil
  | _, _, .cons a b => .cons (a.keepW k) (b.keepW k)
theorem FRep.keep {K : PySem.W.Frag} {H H' : Hp} (k : Keep H H') {fs : List (String × PV)} {gs : List (Str × V)} (r : FRep K H fs gs) : FRep K H' fs gs := r.keepW k.w

/-- a plain key, as HandS has it -/
def kpv : PV → Option Key
  | .str s => some (.inr (Str.ofString s))
  | .int i => some (.inl i)
  | _ => none
/-- a dict that is being made -/
inductive DRel (K : PySem.W.Frag) (H : Hp) : List (PV × PV) → List (Key × V) → Prop
  | nil : DRel K H [] []
  | cons {p q : PV} {k : Key} {v : V} {ps : List (PV × PV)} {kvs : List (Key × V)} : kpv p = some k → Rep K H q v → DRel K H ps kvs → DRel K H ((p, q) :: ps) ((k, v) :: kvs)
theorem DRel.keepW {K : PySem.W.Frag} {H H' : Hp} (k : KeepW H H') : ∀ {ps : List (PV × PV)} {kvs : List (Key × V)}, DRel K H ps kvs → DRel K H' ps kvs
  | _, _, .nil => .nil
  | _, _, .cons a b c => .cons a (b.keepW k) (c.keepW k)
theorem DRel.keep {K : PySem.W.Frag} {H H' : Hp} (k : Keep H H') {ps : List (PV × PV)} {kvs : List (Key × V)} (r : DRel K H ps kvs) : DRel K H' ps kvs := r.keepW k.w

section
variable (w : World) (ca : String → Addr) (K : PySem.W.Frag)
/-- the entries of a dict stand for its pairs -/
inductive ERep (H : Hp) : List (PV × PV) → List DictEntry → Prop
  | nil : ERep H [] []
  | cons {p q : PV} {k : NestedKey} {e : DictEntry} {v u : V} {ps : List (PV × PV)} {es : List DictEntry} : keyOf p = some k → k.depth ≤ 8 → e.hash = k.hash w → Rep K H p v → RelV v e.key → Rep K H q u → RelV u e.val →
      ERep H ps es → ERep H ((p, q) :: ps) (e :: es)
def MoOk (H : Hp) (a : Addr) : MO → Prop
  | .lst ps => ∃ vs, H a = some (.lst vs) ∧ Reps K H ps vs
  | .dct kvs => ∃ es : Array DictEntry, H a = some (DctO a es) ∧ ERep w K H kvs es.toList ∧ (kvs.map fun q => kk q.1).Nodup ∧ kvs.length ≤ sizeLine ∧ (a == sysModules) = false
  | .kdc ps => ∃ kvs, H a = some (.dK kvs) ∧ DRel K H ps kvs ∧ (kvs.map (·.1)).Nodup
  | .ins c fs => ∃ dx gs, H a = some (.ins (ca c) dx gs) ∧ FRep K H fs gs ∧ fs.length ≤ 900 ∧ ClsOk K (ca c) c
  | .own => ∃ x, H a = some (.own x)
  | .lck => ∃ o u, H a = some (.frz o u)
def HRep (M : MM) (H : Hp) : Prop := ∀ a o, M a = some o → MoOk w ca K H a o
/-- fewer things are told -/
def Sub (M' M : MM) : Prop := ∀ a o, M' a = some o → M a = some o
end
theorem Sub.refl (M : MM) : Sub M M := fun _ _ h => h
theorem Sub.trans {A B C : MM} (a : Sub A B) (b : Sub B C) : Sub A C := fun x o h => b x o (a x o h)
theorem Sub.new {M : MM} {a : Addr} {o : MO} (h : M a = none) : Sub M (mput M a o) := fun b u e => mput_old h e
theorem HRep.sub {w : World} {ca : String → Addr} {K : PySem.W.Frag} {M M' : MM} {H : Hp} (h : HRep w ca K M H) (s : Sub M' M) : HRep w ca K M' H := fun a o e => h a o (s a o e)

section
variable {w : World} {ca : String → Addr} {K : PySem.W.Frag} {H H' : Hp} {M : MM} {a : Addr}
theorem ERep.keepW (k : KeepW H H') : ∀ {ps : List (PV × PV)} {es : List DictEntry}, ERep w K H ps es → ERep w K H' ps es
  | _, _, .nil => .nil
  | _, _, .cons h1 h2 h3 r1 r2 r3 r4 t => .cons h1 h2 h3 (r1.keepW k) r2 (r3.keepW k) r4 (t.keepW k)
theorem ERep.keep (k : Keep H H') {ps : List (PV × PV)} {es : List DictEntry} (r : ERep w K H ps es) : ERep w K H' ps es := r.keepW k.w
/-- one thing's description, where the thing itself stays -/
theorem MoOk.keepW {o : MO} (k : KeepW H H') (e : H' a = H a) (h : MoOk w ca K H a o) : MoOk w ca K H' a o := by
  cases o with
  | lst ps => obtain ⟨vs, h1, h2⟩ := h; exact ⟨vs, e.trans h1, h2.keepW k⟩
  | dct kvs => obtain ⟨es, h1, h2, h3⟩ := h; exact ⟨es, e.trans h1, h2.keepW k, h3⟩
  | kdc ps => obtain ⟨kvs, h1, h2, h3⟩ := h; exact ⟨kvs, e.trans h1, h2.keepW k, h3⟩
  | ins c fs => obtain ⟨dx, gs, h1, h2, h3⟩ := h; exact ⟨dx, gs, e.trans h1, h2.keepW k, h3⟩
  | own => obtain ⟨x, h1⟩ := h; exact ⟨x, e.trans h1⟩
  | lck => obtain ⟨o, u, h1⟩ := h; exact ⟨o, u, e.trans h1⟩
theorem MoOk.keep {o : MO} (k : Keep H H') (e : H' a = H a) (h : MoOk w ca K H a o) : MoOk w ca K H' a o := h.keepW k.w e
theorem MoOk.some {o : MO} (h : MoOk w ca K H a o) : ∃ u, H a = .some u ∧ True := by
  cases o with
  | lst ps => obtain ⟨vs, h1, h2⟩ := h; exact ⟨_, h1, True.intro⟩
  | dct kvs => obtain ⟨es, h1, h2⟩ := h; exact ⟨_, h1, True.intro⟩
  | kdc ps => obtain ⟨kvs, h1, h2⟩ := h; exact ⟨_, h1, True.intro⟩
  | ins c fs => obtain ⟨dx, gs, h1, h2⟩ := h; exact ⟨_, h1, True.intro⟩
  | own => obtain ⟨x, h1⟩ := h; exact ⟨_, h1, True.intro⟩
  | lck => obtain ⟨o, u, h1⟩ := h; exact ⟨_, h1, True.intro⟩
theorem HRep.fresh (h : HRep w ca K M H) {p : Addr} (e : H p = none) : M p = none := by
  cases q : M p with
  | none => rfl
  | some o =>
    obtain ⟨u, h1, _⟩ := (h p o q).some
    rw [e] at h1; cases h1
/-- a new thing that is not told -/
theorem HRep.new0 (h : HRep w ca K M H) {p : Addr} {o : HO} (e : H p = none) : HRep w ca K M (upd H p o) := fun a u q => by
  obtain ⟨x, h1, _⟩ := (h a u q).some
  exact (h a u q).keep (.new e) (upd_ne (ne_of_none h1 e))
/-- a new thing that is told -/
theorem HRep.new (h : HRep w ca K M H) {p : Addr} {o : HO} {u : MO} (e : H p = none) (n : MoOk w ca K (upd H p o) p u) : HRep w ca K (mput M p u) (upd H p o) := fun a v q => by
  by_cases z : a = p
  · subst z; rw [mput_same] at q; cases q; exact n
  · rw [mput_ne z] at q; exact h.new0 e a v q
/-- a thing changed -/
theorem HRep.set (h : HRep w ca K M H) {p : Addr} {o o' : HO} {u : MO} (e : H p = some o') (t : isTF o' = false) (n : MoOk w ca K (upd H p o) p u) : HRep w ca K (mput M p u) (upd H p o) := fun a v q => by
  by_cases z : a = p
  · subst z; rw [mput_same] at q; cases q; exact n
  · rw [mput_ne z] at q; exact (h a v q).keep (.set e t) (upd_ne z)
theorem HRep.lst (h : HRep w ca K M H) {ps : List PV} (e : M a = some (.lst ps)) : ∃ vs, H a = some (.lst vs) ∧ Reps K H ps vs := h a _ e
end

/-- the slots stand for the trees -/
structure SRep (K : PySem.W.Frag) (H : Hp) (σ : L2.St) (g : Sg) : Prop where
  len : σ.length = g.length
  at_ : ∀ (i : Nat) p, g[i]? = some (some p) → ∃ v, σ[i]? = some (some v) ∧ Rep K H p v
theorem SRep.keepW {K : PySem.W.Frag} {H H' : Hp} {σ : L2.St} {g : Sg} (k : KeepW H H') (r : SRep K H σ g) : SRep K H' σ g := ⟨r.len, fun i p e => let ⟨v, h1, h2⟩ := r.at_ i p e; ⟨v, h1, h2.keepW k⟩⟩
theorem SRep.keep {K : PySem.W.Frag} {H H' : Hp} {σ : L2.St} {g : Sg} (k : Keep H H') (r : SRep K H σ g) : SRep K H' σ g := ⟨r.len, fun i p e => let ⟨v, h1, h2⟩ := r.at_ i p e; ⟨v, h1, h2.keep k⟩⟩
theorem SRep.set {K : PySem.W.Frag} {H : Hp} {σ : L2.St} {g : Sg} {p : PV} {v : V} (r : SRep K H σ g) (i : Nat) (q : Rep K H p v) : SRep K H (σ.set i (some v)) (g.set i (some p)) := by
  refine ⟨by simp [r.len], fun j x e => ?_⟩
  by_cases h : i = j
  · subst h
    by_cases hl : i < g.length
    · rw [List.getElem?_set_self hl] at e
      cases e
      exact ⟨v, List.getElem?_set_self (by rw [r.len]; exact hl), q⟩
    · rw [List.getElem?_eq_none (by simpa using hl)] at e; cases e
  · rw [List.getElem?_set_ne h] at e
    obtain ⟨w, h1, h2⟩ := r.at_ j x e
    exact ⟨w, by rw [List.getElem?_set_ne h]; exact h1, h2⟩
/-- slots forgotten -/
def SSub (g' g : Sg) : Prop := g'.length = g.length ∧ ∀ (i : Nat) p, g'[i]? = some (some p) → g[i]? = some (some p)
theorem SSub.refl (g : Sg) : SSub g g := ⟨rfl, fun _ _ h => h⟩
theorem SRep.sub {K : PySem.W.Frag} {H : Hp} {σ : L2.St} {g g' : Sg} (r : SRep K H σ g) (s : SSub g' g) : SRep K H σ g' := ⟨r.len.trans s.1.symm, fun i p e => r.at_ i p (s.2 i p e)⟩
def wipeG (g : Sg) : List Nat → Sg
  | [] => g
  | v :: vs => (wipeG g vs).set v none
theorem wipeG_length (g : Sg) : ∀ vs : List Nat, (wipeG g vs).length = g.length
  | [] => rfl
  | v :: vs => by unfold wipeG; rw [List.length_set, wipeG_length g vs]
theorem SRep.wipe {K : PySem.W.Frag} {H : Hp} {σ : L2.St} {g : Sg} (r : SRep K H σ g) : ∀ vs : List Nat, SRep K H (L2.wipe σ vs) (wipeG g vs)
  | [] => r
  | v :: vs => by
    have q := r.wipe vs
    refine ⟨by rw [wipe_length, wipeG_length, r.len], fun i p e => ?_⟩
    unfold wipeG at e
    unfold L2.wipe
    by_cases h : v = i
    · subst h
      by_cases hl : v < (wipeG g vs).length
      · rw [List.getElem?_set_self hl] at e; cases e
      · rw [List.getElem?_eq_none (by simpa using hl)] at e; cases e
    · rw [List.getElem?_set_ne h] at e ⊢
      exact q.at_ i p e

/-- what is told of the whole -/
structure Gw where
  w : World
  ca : String → Addr
  K : PySem.W.Frag
/-- the slots and the store stand for the trees -/
structure Rel (G : Gw) (σ : L2.St) (H : Hp) (g : Sg) (M : MM) : Prop where
  s : SRep G.K H σ g
  h : HRep G.w G.ca G.K M H
theorem Rel.go {G : Gw} {σ : L2.St} {H H' : Hp} {g : Sg} {M M' : MM} (r : Rel G σ H g M) (k : Keep H H') (h : HRep G.w G.ca G.K M' H') : Rel G σ H' g M' := ⟨r.s.keep k, h⟩

/-- readings over trees -/
abbrev RE := Sg → MM → KV1 → Prop
abbrev RT := Sg → MM → (Bool → MM → Prop) → Prop
abbrev RA := Sg → MM → (List PV → MM → Prop) → Prop
def liftE (G : Gw) (r : RE) : TE := fun σ H Q => ∃ g M Qa, Rel G σ H g M ∧ r g M Qa ∧ ∀ p M' v H', HRep G.w G.ca G.K M' H' → Rep G.K H' p v → Keep H H' → Qa p M' → Q v H'
def liftT (G : Gw) (r : RT) : TT := fun σ H Q => ∃ g M Qa, Rel G σ H g M ∧ r g M Qa ∧ ∀ b M' H', HRep G.w G.ca G.K M' H' → Keep H H' → Qa b M' → Q b H'
def liftA (G : Gw) (r : RA) : TA := fun σ H Q => ∃ g M Qa, Rel G σ H g M ∧ r g M Qa ∧ ∀ ps M' vs H', HRep G.w G.ca G.K M' H' → Reps G.K H' ps vs → Keep H H' → Qa ps M' → Q vs H'

section
variable {X : Cx} {e : Expr}
theorem PE.imp {t t' : TE} (h : PE X e t) (i : ∀ σ H Q, t' σ H Q → t σ H Q) : PE X e t' := ⟨fun pins s σ H Q I q => h.run pins s σ H Q I (i σ H Q q)⟩
theorem PT.imp {t t' : TT} (h : PT X e t) (i : ∀ σ H Q, t' σ H Q → t σ H Q) : PT X e t' := ⟨fun pins s σ H Q I q => h.run pins s σ H Q I (i σ H Q q)⟩
theorem PW.imp {t t' : TT} (h : PW X e t) (i : ∀ σ H Q, t' σ H Q → t σ H Q) : PW X e t' := ⟨fun wh pins s σ H Q I q => h.run wh pins s σ H Q I (i σ H Q q)⟩
theorem PA.imp {es : List Expr} {t t' : TA} (h : PA X es t) (i : ∀ σ H Q, t' σ H Q → t σ H Q) : PA X es t' := ⟨fun po pins s σ H Q I q => h.run po pins s σ H Q I (i σ H Q q)⟩
theorem PS.imp {st : Stmt} {t t' : TS} (h : PS X st t) (i : ∀ D σ H, t' D σ H → t D σ H) : PS X st t' := ⟨fun pins s σ H D I q => h.run pins s σ H D I (i D σ H q)⟩
theorem PSs.imp {st : List Stmt} {t t' : TS} (h : PSs X st t) (i : ∀ D σ H, t' D σ H → t D σ H) : PSs X st t' := ⟨fun pins s σ H D I q => h.run pins s σ H D I (i D σ H q)⟩
end
end Rx
end

section
set_option maxHeartbeats 4000000
/-! Rx: the syntax without places, and what a reading of it asks. -/
namespace Rx
open PySem L2

mutual
inductive E where
  | var (i : Nat)
  | glo (x : String)
  | int (i : Int)
  | str (s : String)
  | bl (b : Bool)
  | non
  | bin (op : Operator) (a b : E)
  | neg (a : E)
  | cmp (op : CmpOp) (a b : E)
  | chain (o1 o2 : CmpOp) (a b c : E)
  | notE (a : E)
  | andE (a b : E)
  | orE (a b : E)
  | one (a : E)
  | ite (c a b : E)
  | tup (es : Es)
  | lst (es : Es)
  | dct (ps : Ps)
  | dctK (ps : Ps)
  | fld (o : E) (f : String)
  | prop (o : E) (f : String)
  | sub (a i : E)
  | slc (a : E) (lo hi : Oe)
  | call (f : String) (as : Es)
  | mk (c : String) (as : Es)
  | bi (f : String) (as : Es)
  | isi (x : E) (t : String)
  | isc (x : E) (c : String)
  | eqO (a b : E)
  | neO (a b : E)
  | rev (a : E)
  | lit (d : E)
  | lset (a : E)
  | sset (a : E)
  | dst (d k v : E)
  | meth (o : E) (m : String) (as : Es)
  | bm (t : String) (o : E) (m : String) (as : Es)
  | lc (elt : E) (x : Tg) (it : It) (c : Oe) (own : List (String × Nat))
  | lc2 (elt : E) (x : Tg) (it : It) (x1 : Tg) (it1 : It) (c1 : Oe) (own : List (String × Nat)) (vs1 : List Nat)
  | dc (k v : E) (x : Tg) (it : It) (c : Oe) (own : List (String × Nat))
  | srt (e : E) (f : String)
  | tv (a : E)
  | never
inductive Es where
  | nil
  | cons (e : E) (es : Es)
  | star (e : E) (es : Es)
inductive Ps where
  | nil
  | cons (k v : E) (ps : Ps)
  | star (d : E) (ps : Ps)
inductive Oe where
  | none
  | some (e : E)
inductive It where
  | val (e : E)
  | rng1 (a : E)
  | rng2 (a b : E)
  | enum (e : E)
  | zip (a b : E)
  | items (e : E)
inductive Tg where
  | name (i : Nat)
  | tup (ts : Tgs)
  | sub (o i : E)
inductive Tgs where
  | nil
  | cons (t : Tg) (ts : Tgs)
end
/-- what stands in an except suite: an item, a value -/
inductive XL where
  | str (s : String)
  | fld (f : String)
inductive XS where
  | non
  | str (s : String)
  | lst (xs : List XL)
  | ite (c : String) (a b : XS)
/-- the clauses: the class, the slot of the name, the slot that is set, the value -/
inductive Hs where
  | nil
  | cons (c : String) (n : Option Nat) (i : Nat) (e : XS) (hs : Hs)
mutual
inductive S where
  | setl (i : Nat) (elt : E) (x : Tg) (it : It) (c : Oe) (own : List (String × Nat))
  | setd (i : Nat) (k v : E) (x : Tg) (it : It) (c : Oe) (own : List (String × Nat))
  | setl2 (i : Nat) (elt : E) (x : Tg) (it : It) (x1 : Tg) (it1 : It) (c1 : Oe) (own : List (String × Nat)) (vs1 : List Nat)
  | asg (t : Tg) (e : E)
  | fld (o : E) (f : String) (e : E)
  | par2 (i j : Nat) (a b : E)
  | par3 (i j k : Nat) (a b c : E)
  | aug (i : Nat) (op : Operator) (e : E)
  | augF (o : E) (f : String) (op : Operator) (e : E)
  | expr (e : E)
  | ret (e : E)
  | retN
  | ifS (c : E) (t f : Ss)
  | whileS (c : E) (b : Ss)
  | forS (x : Tg) (it : It) (b : Ss)
  | pass
  | cont
  | brk
  | never
  | raise (c : String) (as : Es)
  | tryS (b : Ss) (hs : Hs)
  | matchS (e : E) (cs : Cs)
inductive Ss where
  | nil
  | cons (s : S) (ss : Ss)
inductive Cs where
  | nil
  | cons (x : String) (b : Ss) (cs : Cs)
end

/-- an error: its class, its fields -/
structure XV where
  c : String
  fs : List (String × PV)
abbrev XK1 := XV → MM → Prop
/-- .. with the slots -/
abbrev XW := XV → Sg → MM → Prop
/-- no error -/
def noX : XW := fun _ _ _ => False
/-- what a def is worth: the arguments, the store, the wanted end, the wanted error -/
abbrev Con := List PV → MM → KV1 → XK1 → Prop
/-- what is known around a def -/
structure Gm where
  fn : String → Option (Nat × Con)
  mkc : String → Option (Nat × Con)
  mt : String → String → Option (Nat × Con)
  pr : String → String → Option (Nat × Con)
  co : String → Option PV
  cl : List String := []
  xc : List String := []
  xn : List String := []

/-! ### data -/
mutual
/-- a tree, its lists read off the store -/
inductive Deep (M : MM) : PV → PyData → Prop
  | non : Deep M .non .none
  | bl (b : Bool) : Deep M (.bl b) (.bool b)
  | int (i : Int) : Deep M (.int i) (.int i)
  | str (s : String) : Deep M (.str s) (.str (Str.ofString s))
  | tup {ps : List PV} {ds : List PyData} : DeepAll M ps ds → Deep M (.tup ps) (.tuple ds)
  | lst {a : Addr} {ps : List PV} {ds : List PyData} : M a = some (.lst ps) → DeepAll M ps ds → Deep M (.ref a) (.list ds)
  | xl {ps : List PV} {ds : List PyData} : DeepAll M ps ds → Deep M (.xl ps) (.list ds)
inductive DeepAll (M : MM) : List PV → List PyData → Prop
  | nil : DeepAll M [] []
  | cons {p : PV} {ps : List PV} {d : PyData} {ds : List PyData} : Deep M p d → DeepAll M ps ds → DeepAll M (p :: ps) (d :: ds)
end
/-- == of flat things -/
def sEq : PV → PV → Option Bool
  | .str a, .str b => some (decide (a = b))
  | .int a, .int b => some (decide (a = b))
  | .bl a, .bl b => some (decide (a = b))
  | .non, .non => some true
  | .non, .str _ => some false
  | .str _, .non => some false
  | .non, .int _ => some false
  | .int _, .non => some false
  | .non, .bl _ => some false
  | .bl _, .non => some false
  | .int _, .str _ => some false
  | .str _, .int _ => some false
  | .bl _, .str _ => some false
  | .str _, .bl _ => some false
  | _, _ => none
/-- in, of flat things -/
def sMem (x : PV) : List PV → Option Bool
  | [] => match x with
    | .non => some false
    | .bl _ => some false
    | .int _ => some false
    | .str _ => some false
    | _ => none
  | p :: ps => match sEq p x, sMem x ps with
    | some b, some c => some (b || c)
    | _, _ => none
/-- == of dicts with text keys and flat values -/
def sGet (k : String) : List (PV × PV) → Option PV
  | [] => none
  | (.str x, v) :: r => if x = k then some v else sGet k r
  | _ :: r => sGet k r
def dEqR (kb : List (PV × PV)) : List (PV × PV) → Option Bool
  | [] => some true
  | (.str k, v) :: r => match sGet k kb with
    | some y => match sEq v y, dEqR kb r with
      | some e, some b => some (e && b)
      | _, _ => none
    | none => some false
  | _ :: _ => none
def allS (ka : List (PV × PV)) : Bool := ka.all fun q => match q.1 with
  | .str _ => true
  | _ => false
def dEq (ka kb : List (PV × PV)) : Option Bool := if allS ka && allS kb then match dEqR kb ka with
  | some r => some (ka.length == kb.length && r)
  | none => none else none
def eqA (p q : PV) (M : MM) (Q : Bool → Prop) : Prop :=
  match sEq p q with
  | some b => Q b
  | none => (∃ d e, Deep M p d ∧ Deep M q e ∧ SeqAt.shaped d = true ∧ SeqAt.shaped e = true ∧ Q (PyData.eqv d e)) ∨ ∃ a b ka kb r, p = .ref a ∧ q = .ref b ∧ M a = some (.dct ka) ∧ M b = some (.dct kb) ∧ dEq ka kb = some r ∧ Q r
/-- two trees are one key -/
def keyEq (p q : PV) : Bool := match keyOf p, keyOf q with
  | some a, some b => decide (a = b)
  | _, _ => false
/-- what stands at a key -/
def dGet (kvs : List (PV × PV)) (k : PV) : Option PV := match kvs with
  | [] => none
  | (p, v) :: r => if keyEq p k = true then some v else dGet r k
/-- a value put at a key -/
def dPut (kvs : List (PV × PV)) (k v : PV) : List (PV × PV) := match kvs with
  | [] => [(k, v)]
  | (p, u) :: r => if keyEq p k = true then (p, v) :: r else (p, u) :: dPut r k v
def keyOk (p : PV) : Bool := match keyOf p with
  | some k => decide (k.depth ≤ 8)
  | none => false

/-! ### operations -/
def strLen (s : String) : Nat := s.length
def binA (op : Operator) (p q : PV) (M : MM) (Q : KV1) : Prop :=
  match op, p, q with
  | .Add, .int i, .int j => Q (.int (i + j)) M
  | .Add, .str s, .str t => s.length + t.length ≤ 1000000 ∧ Q (.str (s ++ t)) M
  | .Add, .tup xs, .tup ys => xs.length + ys.length ≤ sizeLine ∧ Q (.tup (xs ++ ys)) M
  | .Add, .ref a, .ref b => match M a, M b with
    | some (.lst xs), some (.lst ys) => xs.length + ys.length ≤ sizeLine ∧ ∀ p, M p = none → Q (.ref p) (mput M p (.lst (xs ++ ys)))
    | _, _ => False
  | .Sub, .int i, .int j => Q (.int (i - j)) M
  | .Mult, .int i, .int j => CMul i j ∧ Q (.int (i * j)) M
  | .Mult, .tup xs, .int k => xs ≠ [] ∧ 2 ≤ k ∧ k ≤ 1000 ∧ xs.length ≤ 1000 ∧ Q (.tup (List.replicate k.toNat xs).flatten) M
  | .Mult, .str s, .int k => match s.toList with
    | [c] => 0 ≤ k ∧ k ≤ 1000 ∧ Q (.str (String.ofList (List.replicate k.toNat c))) M
    | _ => False
  | .Mult, .ref a, .int k => match M a with
    | some (.lst xs) => (0 ≤ k ∧ k ≤ 1000 ∧ xs.length ≤ 1000) ∧ ∀ p, M p = none → Q (.ref p) (mput M p (.lst (List.replicate k.toNat xs).flatten))
    | _ => False
  | .FloorDiv, .int i, .int j => CDiv i j ∧ Q (.int (i / j)) M
  | .Mod, .int i, .int j => 0 < j ∧ Q (.int (i % j)) M
  | .Pow, .int i, .int j => CPow i j ∧ Q (.int (i ^ j.toNat)) M
  | _, _, _ => False
/-- is x in q -/
def inA (x q : PV) (M : MM) (Q : Bool → Prop) : Prop :=
  match q with
  | .tup ps => match sMem x ps with
    | some b => Q b
    | none => False
  | .ref a => match M a with
    | some (.lst ps) => match sMem x ps with
      | some b => Q b
      | none => ∃ d ds, Deep M x d ∧ DeepAll M ps ds ∧ SeqAt.shaped d = true ∧ SeqAt.shaped (.list ds) = true ∧ Q (ds.any fun e => PyData.eqv e d)
    | some (.dct kvs) => keyOk x = true ∧ Q (dGet kvs x).isSome
    | _ => False
  | .kd kvs => False
  | .str z => match x with
    | .str s => match s.toList with
      | [c] => Q (z.toList.contains c)
      | _ => False
    | _ => False
  | _ => False
def sLt (a b : String) : Bool := decide ((Str.ofString a).cps.toList < (Str.ofString b).cps.toList)
def cmpA (op : CmpOp) (p q : PV) (M : MM) (Q : Bool → Prop) : Prop :=
  match op with
  | .Eq => eqA p q M Q
  | .NotEq => eqA p q M fun b => Q (!b)
  | .Lt => match p, q with
    | .int i, .int j => Q (decide (i < j))
    | .str a, .str b => Q (sLt a b)
    | _, _ => False
  | .LtE => match p, q with
    | .int i, .int j => Q (decide (i ≤ j))
    | .str a, .str b => Q (!sLt b a)
    | _, _ => False
  | .Gt => match p, q with
    | .int i, .int j => Q (decide (j < i))
    | _, _ => False
  | .GtE => match p, q with
    | .int i, .int j => Q (decide (j ≤ i))
    | _, _ => False
  | .Is => match q with
    | .non => match p with
      | .non => Q true
      | _ => Q false
    | _ => False
  | .IsNot => match q with
    | .non => match p with
      | .non => Q false
      | _ => Q true
    | _ => False
  | .In => inA p q M Q
  | .NotIn => inA p q M fun b => Q (!b)
/-- a value's truth -/
def truA (p : PV) (M : MM) (Q : Bool → Prop) : Prop :=
  match p with
  | .non => Q false
  | .bl b => Q b
  | .int i => Q (i != 0)
  | .str s => s.length ≤ 1000000 ∧ Q (s.length != 0)
  | .tup xs => Q (!xs.isEmpty)
  | .ref a => match M a with
    | some (.lst xs) => Q (!xs.isEmpty)
    | _ => False
  | _ => False
def subA (p q : PV) (M : MM) (Q : KV1) : Prop :=
  match p, q with
  | .tup xs, .int i => match atI xs i with
    | some x => Q x M
    | none => False
  | .xl xs, .int i => match atI xs i with
    | some x => Q x M
    | none => False
  | .ref a, k => match M a with
    | some (.lst xs) => match k with
      | .int i => match atI xs i with
        | some x => Q x M
        | none => False
      | _ => False
    | some (.dct kvs) => match dGet kvs k with
      | some x => keyOk k = true ∧ Q x M
      | none => False
    | _ => False
  | .kd kvs, .str k => match kvs.lookup k with
    | some x => Q x M
    | none => False
  | _, _ => False
def cutP (xs : List PV) (lo hi : Option Int) : List PV := (xs.drop (HT.sIx xs.length 0 lo)).take (HT.sIx xs.length xs.length hi - HT.sIx xs.length 0 lo)
def slcA (p : PV) (lo hi : Option Int) (M : MM) (Q : KV1) : Prop :=
  match p with
  | .tup xs => Q (.tup (cutP xs lo hi)) M
  | .ref a => match M a with
    | some (.lst xs) => ∀ p, M p = none → Q (.ref p) (mput M p (.lst (cutP xs lo hi)))
    | _ => False
  | _ => False
/-- the strings of a list of texts -/
def strsOf : List PV → Option (List String)
  | [] => some []
  | .str s :: r => match strsOf r with
    | some ss => some (s :: ss)
    | none => none
  | _ :: _ => none
def blsOf : List PV → Option (List Bool)
  | [] => some []
  | .bl s :: r => match blsOf r with
    | some ss => some (s :: ss)
    | none => none
  | _ :: _ => none
/-- sorted texts, by insertion -/
def sIns (x : String) : List String → List String
  | [] => [x]
  | y :: r => if sLt y x = true then y :: sIns x r else x :: y :: r
def sSort : List String → List String
  | [] => []
  | x :: r => sIns x (sSort r)
def sortedT (ys : List String) : Bool := PyProof.Rows.sortedS (ys.map Str.ofString)
/-- the items of a list or a tuple -/
def seqA (p : PV) (M : MM) : Option (List PV) :=
  match p with
  | .tup xs => some xs
  | .xl xs => some xs
  | .ref a => match M a with
    | some (.lst xs) => some xs
    | _ => none
  | _ => none
def newL (xs : List PV) (M : MM) (Q : KV1) : Prop := ∀ p, M p = none → Q (.ref p) (mput M p (.lst xs))
/-- a plain key -/
def simK : PV → Bool
  | .str _ => true
  | .int _ => true
  | _ => false
def simKs (kvs : List (PV × PV)) : Bool := kvs.all fun q => simK q.1
def newD (kvs : List (PV × PV)) (M : MM) (Q : KV1) : Prop := ∀ a, M a = none → Q (.ref a) (mput M a (.dct kvs))
/-- the pairs of a list of such -/
def pairsOf : List PV → Option (List (PV × PV))
  | [] => some []
  | .tup [k, v] :: r => match pairsOf r with
    | some kvs => some ((k, v) :: kvs)
    | none => none
  | _ :: _ => none
/-- pairs of texts, as data -/
def pairD (q : PV × PV) : PyData := match q with
  | (.str a, .str b) => .tuple [.str (Str.ofString a), .str (Str.ofString b)]
  | _ => .none
def pairsB : List (PV × PV) → Bool
  | [] => true
  | (.str _, .str _) :: r => pairsB r
  | _ :: _ => false
def biA (f : String) (as : List PV) (M : MM) (Q : KV1) : Prop :=
  match f, as with
  | "len", [p] => match p with
    | .str s => s.length ≤ 1000000 ∧ Q (.int s.length) M
    | .tup xs => Q (.int xs.length) M
    | .xl xs => Q (.int xs.length) M
    | .kd kvs => Q (.int kvs.length) M
    | .ref a => match M a with
      | some (.lst xs) => Q (.int xs.length) M
      | some (.dct kvs) => Q (.int kvs.length) M
      | _ => False
    | _ => False
  | "list", [p] => match p with
    | .tup xs => newL xs M Q
    | .xl xs => newL xs M Q
    | .kd kvs => newL (kvs.map fun q => .str q.1) M Q
    | .ref a => match M a with
      | some (.lst xs) => newL xs M Q
      | some (.dct kvs) => newL (kvs.map (·.1)) M Q
      | _ => False
    | _ => False
  | "tuple", [p] => match p with
    | .tup xs => Q (.tup xs) M
    | .ref a => match M a with
      | some (.lst xs) => Q (.tup xs) M
      | _ => False
    | _ => False
  | "int", [p] => match p with
    | .int i => Q (.int i) M
    | .bl b => Q (.int (if b = true then 1 else 0)) M
    | .str s => s.length ≤ 640 ∧ ∃ n, PySem.intText? (Str.ofString s) = some n ∧ Q (.int n) M
    | _ => False
  | "str", [p] => match p with
    | .int i => i.natAbs < 1000 ∧ Q (.str (toString i)) M
    | _ => False
  | "min", [p, q] => match p, q with
    | .int i, .int j => Q (.int (if j < i then j else i)) M
    | _, _ => False
  | "max", [p, q] => match p, q with
    | .int i, .int j => Q (.int (if j > i then j else i)) M
    | _, _ => False
  | "all", [p] => match p with
    | .ref a => match M a with
      | some (.lst ps) => match blsOf ps with
        | some bs => Q (.bl (bs.all id)) M
        | none => False
      | _ => False
    | _ => False
  | "any", [p] => match p with
    | .ref a => match M a with
      | some (.lst ps) => match blsOf ps with
        | some bs => Q (.bl (bs.any id)) M
        | none => False
      | _ => False
    | _ => False
  | "sorted", [p] => match seqA p M with
    | some ps => match strsOf ps with
      | some ss => ss.length < 64 ∧ ∀ ys : List String, ys.Perm ss → sortedT ys = true → newL (ys.map .str) M Q
      | none => (∃ a, p = .ref a) ∧ match pairsOf ps with
        | some kvs => pairsB kvs = true ∧ kvs.length < 64 ∧ ∀ l, l = kvs.mergeSort (PySem.W.dataLe false pairD) → newL (l.map fun q => .tup [q.1, q.2]) M Q
        | none => False
    | none => match p with
      | .ref a => match M a with
        | some (.dct kvs) => match strsOf (kvs.map (·.1)) with
          | some ss => ss.length < 64 ∧ ∀ ys : List String, ys.Perm ss → sortedT ys = true → newL (ys.map .str) M Q
          | none => False
        | _ => False
      | _ => False
  | "dict", [p] => match p with
    | .ref a => match M a with
      | some (.dct kvs) => simKs kvs = true ∧ kvs.length ≤ 1000 ∧ newD kvs M Q
      | some (.lst xs) => match pairsOf xs with
        | some kvs => simKs kvs = true ∧ kvs.length ≤ 1000 ∧ newD (kvs.foldl (fun d q => dPut d q.1 q.2) []) M Q
        | none => False
      | _ => False
    | _ => False
  | _, _ => False
/-- o[i] = v -/
def setA (o i v : PV) (M : MM) (k : MM → Prop) : Prop :=
  match o with
  | .ref a => match M a with
    | some (.lst xs) => match i with
      | .int n => match ixN xs.length n with
        | some j => k (mput M a (.lst (xs.set j v)))
        | none => False
      | _ => False
    | some (.dct kvs) => keyOk i = true ∧ kvs.length < sizeLine ∧ k (mput M a (.dct (dPut kvs i v)))
    | _ => False
  | _ => False
def augA (op : Operator) (p q : PV) (M : MM) (Q : KV1) : Prop :=
  match op, p, q with
  | .Add, .int i, .int j => Q (.int (i + j)) M
  | .Sub, .int i, .int j => Q (.int (i - j)) M
  | _, _, _ => False
/-- a value of a built-in type -/
def tyA (t : String) (o : PV) (M : MM) : Prop :=
  match o with
  | .ref a => match M a with
    | some (.lst _) => t = "list"
    | some (.dct _) => t = "dict"
    | _ => False
  | .tup _ => t = "tuple"
  | .str _ => t = "str"
  | _ => False
/-- texts: cut, glued, bare -/
def splC (c : Char) : List Char → List Char → List (List Char)
  | acc, [] => [acc]
  | acc, d :: r => if d = c then acc :: splC c [] r else splC c (acc ++ [d]) r
def splitS (c : Char) (s : String) : List String := (splC c [] s.toList).map String.ofList
def joinS (sep : String) : List String → String
  | [] => ""
  | [x] => x
  | x :: y :: r => x ++ (sep ++ joinS sep (y :: r))
def stripC (c : Char) (l : List Char) : List Char := ((l.dropWhile (· == c)).reverse.dropWhile (· == c)).reverse
def stripS (c : Char) (s : String) : String := String.ofList (stripC c s.toList)
/-- a built-in type's method -/
def bmA (t : String) (m : String) (o : PV) (as : List PV) (M : MM) (Q : KV1) : Prop :=
  match t, m, o, as with
  | "list", "append", .ref a, [p] => match M a with
    | some (.lst xs) => xs.length < sizeLine ∧ Q .non (mput M a (.lst (xs ++ [p])))
    | _ => False
  | "list", "extend", .ref a, [.ref b] => match M a, M b with
    | some (.lst xs), some (.lst ys) => xs.length + ys.length ≤ sizeLine ∧ Q .non (mput M a (.lst (xs ++ ys)))
    | _, _ => False
  | "list", "reverse", .ref a, [] => match M a with
    | some (.lst xs) => Q .non (mput M a (.lst xs.reverse))
    | _ => False
  | "list", "clear", .ref a, [] => match M a with
    | some (.lst xs) => Q .non (mput M a (.lst []))
    | _ => False
  | "dict", "clear", .ref a, [] => match M a with
    | some (.dct xs) => xs.length ≤ 1000 ∧ Q .non (mput M a (.dct []))
    | _ => False
  | "list", "pop", .ref a, [] => match M a with
    | some (.lst xs) => match xs[xs.length - 1]? with
      | some x => Q x (mput M a (.lst xs.dropLast))
      | none => False
    | _ => False
  | "tuple", "index", .tup xs, [.str s] => match strsOf xs with
    | some ss => match ss.idxOf? s with
      | some j => Q (.int j) M
      | none => False
    | none => False
  | "str", "split", .str s, [.str sep] => match sep.toList with
    | [c] => c.toNat < 256 ∧ s.length ≤ 1000000 ∧ newL ((splitS c s).map .str) M Q
    | _ => False
  | "str", "strip", .str s, [.str sep] => match sep.toList with
    | [c] => s.length ≤ 1000000 ∧ Q (.str (stripS c s)) M
    | _ => False
  | "str", "join", .str s, [p] => match seqA p M with
    | some ps => match strsOf ps with
      | some ss => s.length ≤ 1000 ∧ (joinS s ss).length ≤ 100000 ∧ ss.length ≤ 1000 ∧ Q (.str (joinS s ss)) M
      | none => False
    | none => False
  | "dict", "get", .ref a, [k, d] => match M a with
    | some (.dct kvs) => keyOk k = true ∧ Q ((dGet kvs k).getD d) M
    | _ => False
  | "dict", "setdefault", .ref a, [k, d] => match M a with
    | some (.dct kvs) => keyOk k = true ∧ kvs.length < sizeLine ∧ match dGet kvs k with
      | some v => Q v M
      | none => Q d (mput M a (.dct (kvs ++ [(k, d)])))
    | _ => False
  | _, _, _, _ => False
/-- set(t) of a tuple of texts: what is asked of it -/
def setR (K : List String → MM → Prop) : PV → MM → Prop := fun p M => match p with
  | .tup xs => match strsOf xs with
    | some ss => ss.length ≤ 50 ∧ K ss M
    | none => False
  | _ => False
def mdel (M : MM) (a : Addr) : MM := mput M a .lck
/-- what a loop walks: the items, what must stand at each turn, what comes back behind the loop, the store within it -/
abbrev RI := List PV → (MM → Prop) → (MM → MM) → MM → Prop
def itA (p : PV) (M : MM) (R : RI) : Prop :=
  match p with
  | .tup xs => R xs (fun _ => True) id M
  | .xl xs => R xs (fun _ => True) id M
  | .str s => R (s.toList.map fun c => .str (String.singleton c)) (fun _ => True) id M
  | .kd kvs => R (kvs.map fun q => .str q.1) (fun _ => True) id M
  | .ref a => match M a with
    | some (.lst xs) => R xs (fun M' => M' a = some (.lst xs)) id M
    | some (.dct kvs) => R (kvs.map (·.1)) (fun _ => True) (fun M' => mput M' a (.dct kvs)) (mdel M a)
    | _ => False
  | _ => False

/-- a field set -/
def putP (f : String) (v : PV) : List (String × PV) → List (String × PV)
  | [] => [(f, v)]
  | (g, x) :: r => if g = f then (g, v) :: r else (g, x) :: putP f v r
/-- the ends of a block -/
structure DD where
  nx : Sg → MM → Prop
  rt : KV1
  bk : Sg → MM → Prop := fun _ _ => False
  ct : Sg → MM → Prop := fun _ _ => False
/-- fewer things, fewer slots -/
def weakS (k : Sg → MM → Prop) (g : Sg) (M : MM) : Prop := ∃ g' M', SSub g' g ∧ Sub M' M ∧ k g' M'
def weakV (k : KV1) (p : PV) (M : MM) : Prop := ∃ M', Sub M' M ∧ k p M'

def forF (st : MM → Prop) (un : MM → MM) (bind : PV → Sg → MM → (Sg → MM → Prop) → Prop) (body : DD → Sg → MM → Prop) (D : DD) : List PV → Sg → MM → Prop
  | [], g, M => st M ∧ D.nx g (un M)
  | x :: r, g, M => st M ∧ bind x g M fun g2 M2 => body { nx := weakS (forF st un bind body D r), ct := weakS (forF st un bind body D r), bk := fun g M => D.nx g (un M), rt := fun v M => D.rt v (un M) } g2 M2
/-- a dict comprehension's turns: D the dict that is being made -/
def dcF (st : MM → Prop) (bind : PV → Sg → MM → (Sg → MM → Prop) → Prop) (g : Sg) (test : RT) (ek ev : RE) (D : Addr) (k : List (PV × PV) → MM → Prop) : List PV → List (PV × PV) → MM → Prop
  | [], acc, M => st M ∧ k acc M
  | x :: r, acc, M => st M ∧ bind x g M fun g2 M2 => test g2 M2 fun b M3 => if b = true then
      ek g2 M3 fun y M4 => ev g2 M4 fun z M5 => simK y = true ∧ acc.length < 1000 ∧ M5 D = some (.kdc acc) ∧ dcF st bind g test ek ev D k r (dPut acc y z) (mput M5 D (.kdc (dPut acc y z)))
    else M3 D = some (.kdc acc) ∧ dcF st bind g test ek ev D k r acc M3
/-- is it of a built-in type -/
def isiA (t : String) (p : PV) (M : MM) (Q : Bool → Prop) : Prop :=
  match p with
  | .non => Q false
  | .bl _ => Q (t = "bool" || t = "int")
  | .int _ => Q (t = "int")
  | .str _ => Q (t = "str")
  | .tup _ => Q (t = "tuple")
  | .kd _ => Q (t = "dict")
  | .xl _ => Q (t = "list")
  | .ref a => match M a with
    | some (.lst _) => Q (t = "list")
    | some (.dct _) => Q (t = "dict")
    | _ => False
/-- a list comprehension's turns: D the new list -/
def lcF (st : MM → Prop) (bind : PV → Sg → MM → (Sg → MM → Prop) → Prop) (g : Sg) (test : RT) (elt : RE) (D : Addr) (k : MM → Prop) : List PV → List PV → MM → Prop
  | [], _, M => st M ∧ k M
  | x :: r, acc, M => st M ∧ bind x g M fun g2 M2 => test g2 M2 fun b M3 => if b = true then
      elt g2 M3 fun y M4 => M4 D = some (.lst acc) ∧ acc.length < sizeLine ∧ lcF st bind g test elt D k r (acc ++ [y]) (mput M4 D (.lst (acc ++ [y])))
    else M3 D = some (.lst acc) ∧ lcF st bind g test elt D k r acc M3

/-- the turns of two clauses: the second walks nothing that is locked -/
def lc2F (st : MM → Prop) (bind : PV → Sg → MM → (Sg → MM → Prop) → Prop) (g : Sg) (test : RT) (runI1 : Sg → MM → RI → Prop) (vs1 : List Nat) (bind1 : PV → Sg → MM → (Sg → MM → Prop) → Prop) (test1 : RT) (elt : RE) (D : Addr) (k : MM → Prop) : List PV → MM → Prop
  | [], M => st M ∧ k M
  | x :: r, M => st M ∧ bind x g M fun g2 M2 => test g2 M2 fun b M3 => if b = true then
      runI1 g2 M3 fun ys st1 un1 M4 => (∀ M, un1 M = M) ∧ ∃ acc, M4 D = some (.lst acc) ∧ lcF st1 bind1 (wipeG g2 vs1) test1 elt D (fun M5 => lc2F st bind g test runI1 vs1 bind1 test1 elt D k r M5) ys acc M4
    else lc2F st bind g test runI1 vs1 bind1 test1 elt D k r M3

mutual
def tgSl : Tg → List Nat
  | .name i => [i]
  | .tup ts => tgsSl ts
  | .sub _ _ => []
def tgsSl : Tgs → List Nat
  | .nil => []
  | .cons t ts => tgSl t ++ tgsSl ts
end
def tgsLen : Tgs → Nat
  | .nil => 0
  | .cons _ ts => tgsLen ts + 1
/-- is it an instance of an own class -/
def iscA (Γ : Gm) (c : String) (p : PV) (M : MM) (Q : Bool → Prop) : Prop :=
  match p with
  | .non => Q false
  | .bl _ => Q false
  | .int _ => Q false
  | .str _ => Q false
  | .tup _ => Q false
  | .ref a => match M a with
    | some (.lst _) => Q false
    | some (.dct _) => Q false
    | some (.ins d _) => Γ.cl.contains d = true ∧ Q (decide (d = c))
    | _ => False
  | _ => False
/-- == by the left one's own __eq__ -/
def eqOA (Γ : Gm) (p q : PV) (M : MM) (Q : KV1) : Prop :=
  match p with
  | .ref a => match M a with
    | some (.ins c _) => Γ.cl.contains c = true ∧ (match q with
      | .ref b => match M b with
        | some (.ins d _) => d = c
        | some (.dct _) => True
        | some (.lst _) => True
        | _ => False
      | _ => False) ∧ match Γ.mt c "__eq__" with
      | some (n, k) => n = 2 ∧ k [p, q] M (fun v M1 => match v with
        | .bl b => Q (.bl b) M1
        | _ => False) fun _ _ => False
      | none => False
    | _ => False
  | _ => False
def qN (Q : KV1) : KV1 := fun v M => match v with
  | .bl r => Q (.bl (!r)) M
  | _ => False
def qT (Q : Bool → MM → Prop) : KV1 := fun p M => match p with
  | .bl b => Q b M
  | _ => False
section
variable (Γ : Gm)
mutual
def runE : E → XW → RE
  | .var i, xk, g, M, Q => match g[i]? with
    | some (some p) => Q p M
    | _ => False
  | .glo x, xk, _, M, Q => match Γ.co x with
    | some p => Q p M
    | none => False
  | .int i, xk, _, M, Q => Q (.int i) M
  | .str s, xk, _, M, Q => Q (.str s) M
  | .bl b, xk, _, M, Q => Q (.bl b) M
  | .non, xk, _, M, Q => Q .non M
  | .bin op a b, xk, g, M, Q => runE a xk g M fun p M1 => runE b xk g M1 fun q M2 => binA op p q M2 Q
  | .neg a, xk, g, M, Q => runE a xk g M fun p M1 => match p with
    | .int i => Q (.int (-i)) M1
    | _ => False
  | .cmp op a b, xk, g, M, Q => runE a xk g M fun p M1 => runE b xk g M1 fun q M2 => cmpA op p q M2 fun r => Q (.bl r) M2
  | .chain o1 o2 a b c, xk, g, M, Q => runE a xk g M fun p M1 => runE b xk g M1 fun q M2 => cmpA o1 p q M2 fun r =>
      if r = true then runE c xk g M2 fun s M3 => cmpA o2 q s M3 fun r => Q (.bl r) M3 else Q (.bl false) M2
  | .notE a, xk, g, M, Q => runE a xk g M fun p M1 => truA p M1 fun b => Q (.bl (!b)) M1
  | .andE a b, xk, g, M, Q => runE a xk g M fun p M1 => match p with
    | .bl c => if c = true then runE b xk g M1 Q else Q (.bl false) M1
    | _ => False
  | .orE a b, xk, g, M, Q => runE a xk g M fun p M1 => match p with
    | .bl c => if c = true then Q (.bl true) M1 else runE b xk g M1 Q
    | _ => False
  | .one a, xk, g, M, Q => runE a xk g M Q
  | .ite c a b, xk, g, M, Q => runT c xk g M fun r M1 => if r = true then runE a xk g M1 Q else runE b xk g M1 Q
  | .tup es, xk, g, M, Q => runEs es xk g M fun ps M1 => ps.length ≤ sizeLine ∧ Q (.tup ps) M1
  | .lst es, xk, g, M, Q => runEs es xk g M fun ps M1 => ps.length ≤ sizeLine ∧ newL ps M1 Q
  | .dct ps, xk, g, M, Q => ∀ a, M a = none → runPs ps xk g (mput M a (.kdc [])) fun kvs M1 => kvs.length ≤ 15 ∧ kvs.all (fun q => simK q.1) = true ∧ M1 a = some (.kdc []) ∧ Q (.ref a) (mput M1 a (.dct (kvs.foldl (fun d q => dPut d q.1 q.2) [])))
  | .dctK ps, xk, g, M, Q => ∀ a, M a = none → runPs ps xk g (mput M a (.dct [])) fun kvs M1 => kvs.length ≤ 15 ∧ kvs.all (fun q => keyOk q.1) = true ∧ M1 a = some (.dct []) ∧ Q (.ref a) (mput M1 a (.dct (kvs.foldl (fun d q => dPut d q.1 q.2) [])))
  | .fld o f, xk, g, M, Q => runE o xk g M fun p M1 => match p with
    | .ref a => match M1 a with
      | some (.ins c fs) => match fs.lookup f with
        | some v => fieldOf c f = true ∧ Q v M1
        | none => False
      | _ => False
    | _ => False
  | .prop o f, xk, g, M, Q => runE o xk g M fun p M1 => match p with
    | .ref a => match M1 a with
      | some (.ins c _) => match Γ.pr c f with
        | some (n, k) => n = 1 ∧ k [.ref a] M1 Q fun _ _ => False
        | none => False
      | _ => False
    | _ => False
  | .sub a i, xk, g, M, Q => runE a xk g M fun p M1 => runE i xk g M1 fun q M2 => subA p q M2 Q
  | .slc a lo hi, xk, g, M, Q => runE a xk g M fun p M1 => runO lo xk g M1 fun l M2 => runO hi xk g M2 fun h M3 => slcA p l h M3 Q
  | .call f as, xk, g, M, Q => match Γ.fn f with
    | some (n, k) => runEs as xk g M fun ps M1 => ps.length = n ∧ k ps M1 Q fun x M2 => xk x g M2
    | none => False
  | .mk c as, xk, g, M, Q => match Γ.mkc c with
    | some (n, k) => runEs as xk g M fun ps M1 => ps.length + 1 = n ∧ ∀ a, M1 a = none → k (.ref a :: ps) (mput M1 a (.ins c [])) (fun v M2 => v = .non ∧ Q (.ref a) M2) fun x M2 => xk x g M2
    | none => False
  | .bi f as, xk, g, M, Q => runEs as xk g M fun ps M1 => biA f ps M1 Q
  | .isi x t, xk, g, M, Q => runE x xk g M fun p M1 => isiA t p M1 fun b => Q (.bl b) M1
  | .isc x c, xk, g, M, Q => Γ.cl.contains c = true ∧ runE x xk g M fun p M1 => iscA Γ c p M1 fun b => Q (.bl b) M1
  | .eqO a b, xk, g, M, Q => runE a xk g M fun p M1 => runE b xk g M1 fun q M2 => eqOA Γ p q M2 Q
  | .neO a b, xk, g, M, Q => runE a xk g M fun p M1 => runE b xk g M1 fun q M2 => eqOA Γ p q M2 (qN Q)
  | .rev a, xk, g, M, Q => runE a xk g M fun p M1 => match p with
    | .ref a => match M1 a with
      | some (.lst xs) => newL xs.reverse M1 Q
      | _ => False
    | _ => False
  | .lit d, xk, g, M, Q => runE d xk g M fun p M1 => match p with
    | .ref a => match M1 a with
      | some (.dct kvs) => newL (kvs.map fun q => .tup [q.1, q.2]) M1 Q
      | _ => False
    | _ => False
  | .lset a, xk, g, M, Q => runE a xk g M fun p M1 => setR (fun ss M => ∀ l : List String, l.Nodup → (∀ x, x ∈ l ↔ x ∈ ss) → Q (.int l.length) M) p M1
  | .sset a, xk, g, M, Q => runE a xk g M fun p M1 => setR (fun ss M => ∀ l : List String, l.Nodup → (∀ x, x ∈ l ↔ x ∈ ss) → sortedT l = true → newL (l.map .str) M Q) p M1
  | .dst d k v, xk, g, M, Q => runE d xk g M fun p M1 => match p with
    | .ref a => match M1 a with
      | some (.dct kvs) => (simKs kvs = true ∧ kvs.length ≤ 1000) ∧ runE k xk g M1 fun q M2 => runE v xk g M2 fun r M3 => simK q = true ∧ newD (dPut kvs q r) M3 Q
      | _ => False
    | _ => False
  | .meth o m as, xk, g, M, Q => runE o xk g M fun p M1 => match p with
    | .ref a => match M1 a with
      | some (.ins c fs) => fs.lookup m = none ∧ match Γ.mt c m with
        | some (n, k) => runEs as xk g M1 fun ps M2 => ps.length + 1 = n ∧ k (.ref a :: ps) M2 Q fun x M3 => xk x g M3
        | none => False
      | _ => False
    | _ => False
  | .bm t o m as, xk, g, M, Q => runE o xk g M fun p M1 => tyA t p M1 ∧ runEs as xk g M1 fun ps M2 => bmA t m p ps M2 Q
  | .lc elt x it c own, xk, g, M, Q => runI it xk g M fun xs st un M1 => ∀ D, M1 D = none →
      lcF st (runTg x noX) (wipeG g (own.map (·.2))) (runC c noX) (runE elt noX) D (fun M2 => Q (.ref D) (un M2)) xs [] (mput M1 D (.lst []))
  | .lc2 elt x it x1 it1 c1 own vs1, xk, g, M, Q => runI it xk g M fun xs st un M1 => ∀ D, M1 D = none →
      lc2F st (runTg x noX) (wipeG g (own.map (·.2))) (fun _ M Q => Q true M) (runI it1 noX) vs1 (runTg x1 noX) (runC c1 noX) (runE elt noX) D (fun M2 => Q (.ref D) (un M2)) xs (mput M1 D (.lst []))
  | .dc k v x it c own, xk, g, M, Q => runI it xk g M fun xs st un M1 => ∀ D, M1 D = none →
      dcF st (runTg x noX) (wipeG g (own.map (·.2))) (runC c noX) (runE k noX) (runE v noX) D (fun kvs M2 => ∃ M3, un M2 = M3 ∧ M3 D = some (.kdc kvs) ∧ Q (.ref D) (mput M3 D (.dct kvs))) xs [] (mput M1 D (.kdc []))
  | .srt e f, xk, g, M, Q => False
  | .tv _, _, _, _, _ => False
  | .never, _, _, _, _ => False
def runT : E → XW → RT
  | .notE a, xk, g, M, Q => runT a xk g M fun b M1 => Q (!b) M1
  | .andE a b, xk, g, M, Q => runT a xk g M fun c M1 => if c = true then runT b xk g M1 Q else Q false M1
  | .orE a b, xk, g, M, Q => runT a xk g M fun c M1 => if c = true then Q true M1 else runT b xk g M1 Q
  | .one a, xk, g, M, Q => runT a xk g M Q
  | .cmp op a b, xk, g, M, Q => runE a xk g M fun p M1 => runE b xk g M1 fun q M2 => cmpA op p q M2 fun r => Q r M2
  | .chain o1 o2 a b c, xk, g, M, Q => runE a xk g M fun p M1 => runE b xk g M1 fun q M2 => cmpA o1 p q M2 fun r =>
      if r = true then runE c xk g M2 fun s M3 => cmpA o2 q s M3 fun r => Q r M3 else Q false M2
  | .tv a, xk, g, M, Q => runE a xk g M fun p M1 => truA p M1 fun b => Q b M1
  | .eqO a b, xk, g, M, Q => runE a xk g M fun p M1 => runE b xk g M1 fun q M2 => eqOA Γ p q M2 (qT Q)
  | .neO a b, xk, g, M, Q => runE a xk g M fun p M1 => runE b xk g M1 fun q M2 => eqOA Γ p q M2 (qN (qT Q))
  | _, _, _, _, _ => False
def runEs : Es → XW → RA
  | .nil, xk, _, M, Q => Q [] M
  | .cons e es, xk, g, M, Q => runE e xk g M fun p M1 => runEs es xk g M1 fun ps M2 => Q (p :: ps) M2
  | .star e es, xk, g, M, Q => runE e xk g M fun p M1 => match seqA p M1 with
    | some qs => runEs es xk g M1 fun ps M2 => Q (qs ++ ps) M2
    | none => False
def runPs : Ps → XW → Sg → MM → (List (PV × PV) → MM → Prop) → Prop
  | .nil, xk, _, M, Q => Q [] M
  | .cons k v ps, xk, g, M, Q => runE k xk g M fun p M1 => runE v xk g M1 fun q M2 => runPs ps xk g M2 fun r M3 => Q ((p, q) :: r) M3
  | .star d ps, xk, g, M, Q => False
def runO : Oe → XW → Sg → MM → (Option Int → MM → Prop) → Prop
  | .none, xk, _, M, Q => Q none M
  | .some e, xk, g, M, Q => runE e xk g M fun p M1 => match p with
    | .int i => Q (some i) M1
    | _ => False
def runC : Oe → XW → RT
  | .none, xk, _, M, Q => Q true M
  | .some e, xk, g, M, Q => runT e xk g M Q
def runI : It → XW → Sg → MM → RI → Prop
  | .val e, xk, g, M, R => runE e xk g M fun p M1 => itA p M1 R
  | .rng1 a, xk, g, M, R => runE a xk g M fun p M1 => match p with
    | .int n => n ≤ 1000000000 ∧ -1000000000 ≤ n ∧ R ((List.range n.toNat).map fun (i : Nat) => PV.int i) (fun _ => True) id M1
    | _ => False
  | .rng2 a b, xk, g, M, R => False
  | .enum e, xk, g, M, R => runE e xk g M fun p M1 => match p with
    | .ref a => match M1 a with
      | some (.lst xs) => R (xs.zipIdx.map fun (x, i) => .tup [.int i, x]) (fun M' => M' a = some (.lst xs)) id M1
      | _ => False
    | _ => False
  | .zip a b, xk, g, M, R => runE a xk g M fun p M1 => runE b xk g M1 fun q M2 => match p, q with
    | .tup xs, .tup ys => R ((xs.zip ys).map fun z => .tup [z.1, z.2]) (fun _ => True) id M2
    | _, _ => False
  | .items e, xk, g, M, R => runE e xk g M fun p M1 => match p with
    | .ref a => match M1 a with
      | some (.dct kvs) => R (kvs.map fun q => .tup [q.1, q.2]) (fun _ => True) (fun M' => mput M' a (.dct kvs)) (mdel M1 a)
      | _ => False
    | _ => False
def runTg : Tg → XW → PV → Sg → MM → (Sg → MM → Prop) → Prop
  | .name i, xk, p, g, M, k => k (g.set i (some p)) M
  | .tup ts, xk, p, g, M, k => match p with
    | .tup ps => ps.length = tgsLen ts ∧ runTgs ts xk ps g M k
    | _ => False
  | .sub o i, xk, p, g, M, k => runE o xk g M fun q M1 => runE i xk g M1 fun r M2 => setA q r p M2 fun M3 => k g M3
def runTgs : Tgs → XW → List PV → Sg → MM → (Sg → MM → Prop) → Prop
  | .nil, xk, ps, g, M, k => match ps with
    | [] => k g M
    | _ => False
  | .cons t ts, xk, ps, g, M, k => match ps with
    | p :: ps => runTg t xk p g M fun g1 M1 => runTgs ts xk ps g1 M1 k
    | _ => False
end
end

/-- an own error's parameters, what is shown of them (by repr), its fields -/
def excSpec : String → Option (List String × List (String × Bool) × List (String × String))
  | "BadPeople" => some ([], [], [])
  | "BadNumber" => some ([], [], [])
  | "BadRule" => some (["part"], [("part", true)], [("part", "part")])
  | "BadWords" => some ([], [], [])
  | "BadDeed" => some (["index"], [("index", false)], [("index", "index")])
  | "BadDays" => some ([], [], [])
  | "UnknownDeed" => some (["deed"], [("deed", true)], [("deed", "deed")])
  | "UnknownKind" => some (["index"], [("index", false)], [("index", "index")])
  | "UnknownPerson" => some (["name"], [("name", true)], [("name", "name")])
  | "NotComparable" => some ([], [], [])
  | "Possible" => some (["row"], [], [("row", "row")])
  | "BadLine" => some (["line", "word"], [("line", false)], [("line", "line"), ("word", "word")])
  | _ => none
def shP (r : Bool) : PV → Bool
  | .int i => decide (i.natAbs < 1000)
  | .str s => r && decide ((PySem.reprText (Str.ofString s)).length ≤ 1000)
  | .non => r
  | _ => false
def parP (pn : List String) (ps : List PV) (x : String) : Option PV := (pn.zip ps).lookup x
def accP (m : String → Option PV) : List (String × PV) → List (String × String) → List (String × PV)
  | gs, [] => gs
  | gs, (f, p) :: r => accP m ((f, (m p).getD .non) :: gs) r
def excF (c : String) (ps : List PV) : Option (List (String × PV)) := match excSpec c with
  | some (pn, rd, fl) => if ps.length = pn.length ∧ (rd.all fun q => match parP pn ps q.1 with
    | some p => shP q.2 p
    | none => false) = true then some (accP (parP pn ps) [] fl) else none
  | none => none
/-- is an error of the class x one of the class c -/
def excIs (x c : String) : Bool := decide (x = c) || decide (c = "DutyError") || decide (c = "ValueError")
def xfNames : List String := ["part", "index", "deed", "name", "row", "line", "word"]
def xlVal (x : XV) : XL → Option PV
  | .str s => some (.str s)
  | .fld f => if xfNames.contains f = true then x.fs.lookup f else none
def xlVals (x : XV) : List XL → Option (List PV)
  | [] => some []
  | l :: r => match xlVal x l, xlVals x r with
    | some p, some ps => some (p :: ps)
    | _, _ => none
def runX (Γ : Gm) : XS → XV → MM → KV1 → Prop
  | .non, _, M, Q => Q .non M
  | .str s, _, M, Q => Q (.str s) M
  | .lst ls, x, M, Q => match xlVals x ls with
    | some ps => newL ps M Q
    | none => False
  | .ite c a b, x, M, Q => Γ.xn.contains c = true ∧ if excIs x.c c = true then runX Γ a x M Q else runX Γ b x M Q
def hdW (Γ : Gm) : Hs → DD → XW → XW
  | .nil, _, xk => xk
  | .cons c n i e hs, D, xk => fun x g M => (Γ.xn.contains x.c = true ∧ Γ.xn.contains c = true) ∧ if excIs x.c c = true then runX Γ e x M (fun p M1 => match n with
    | some j => D.nx ((g.set i (some p)).set j none) M1
    | none => D.nx (g.set i (some p)) M1) else hdW Γ hs D xk x g M
section
variable (Γ : Gm)
mutual
def runS : XW → S → DD → Sg → MM → Prop
  | xk, .setl i elt x it c own, D, g, M => runE Γ (.lc elt x it c own) xk g M fun p M1 => D.nx (g.set i (some p)) M1
  | xk, .setd i k v x it c own, D, g, M => runE Γ (.dc k v x it c own) xk g M fun p M1 => D.nx (g.set i (some p)) M1
  | xk, .setl2 i elt x it x1 it1 c1 own vs1, D, g, M => runE Γ (.lc2 elt x it x1 it1 c1 own vs1) xk g M fun p M1 => D.nx (g.set i (some p)) M1
  | xk, .asg t e, D, g, M => runE Γ e xk g M fun p M1 => runTg Γ t xk p g M1 D.nx
  | xk, .fld o f e, D, g, M => runE Γ e xk g M fun v M1 => runE Γ o xk g M1 fun p M2 => match p with
    | .ref a => match M2 a with
      | some (.ins c fs) => fs.length < 900 ∧ fieldOf c f = true ∧ D.nx g (mput M2 a (.ins c (putP f v fs)))
      | _ => False
    | _ => False
  | xk, .par2 i j a b, D, g, M => runE Γ a xk g M fun p M1 => runE Γ b xk g M1 fun q M2 => D.nx ((g.set i (some p)).set j (some q)) M2
  | xk, .par3 i j k a b c, D, g, M => runE Γ a xk g M fun p M1 => runE Γ b xk g M1 fun q M2 => runE Γ c xk g M2 fun r M3 => D.nx (((g.set i (some p)).set j (some q)).set k (some r)) M3
  | xk, .aug i op e, D, g, M => match g[i]? with
    | some (some p) => runE Γ e xk g M fun q M1 => augA op p q M1 fun r M2 => D.nx (g.set i (some r)) M2
    | _ => False
  | xk, .augF o f op e, D, g, M => runE Γ o xk g M fun p M1 => match p with
    | .ref a => match M1 a with
      | some (.ins c fs) => match fs.lookup f with
        | some v => fieldOf c f = true ∧ runE Γ e xk g M1 fun q M2 => augA op v q M2 fun r M3 => match M3 a with
          | some (.ins c' fs') => c' = c ∧ fs'.length < 900 ∧ D.nx g (mput M3 a (.ins c (putP f r fs')))
          | _ => False
        | none => False
      | _ => False
    | _ => False
  | xk, .expr e, D, g, M => runE Γ e xk g M fun _ M1 => D.nx g M1
  | xk, .ret e, D, g, M => runE Γ e xk g M fun p M1 => D.rt p M1
  | xk, .retN, D, g, M => D.rt .non M
  | xk, .ifS c t f, D, g, M => runT Γ c xk g M fun b M1 => if b = true then runSs xk t D g M1 else runSs xk f D g M1
  | xk, .whileS c b, D, g, M => ∃ W : Nat → Sg → MM → Prop, (∃ m, W m g M) ∧ ∀ m g M, W m g M → runT Γ c xk g M fun r M1 =>
      if r = true then runSs xk b { D with nx := weakS fun g' M' => ∃ m', m' < m ∧ W m' g' M', ct := weakS fun g' M' => ∃ m', m' < m ∧ W m' g' M', bk := D.nx } g M1 else D.nx g M1
  | xk, .forS x it b, D, g, M => runI Γ it xk g M fun xs st un M1 => forF st un (runTg Γ x xk) (runSs xk b) D xs g M1
  | xk, .pass, D, g, M => D.nx g M
  | xk, .cont, D, g, M => D.ct g M
  | xk, .brk, D, g, M => D.bk g M
  | _, .never, _, _, _ => False
  | xk, .raise c as, D, g, M => Γ.xc.contains c = true ∧ runEs Γ as xk g M fun ps M1 => match excF c ps with
    | some fs => xk ⟨c, fs⟩ g M1
    | none => False
  | xk, .tryS b hs, D, g, M => runSs (hdW Γ hs D xk) b D g M
  | xk, .matchS e cs, D, g, M => runE Γ e xk g M fun p M1 => match p with
    | .str s => runCs xk cs s D g M1
    | _ => False
def runSs : XW → Ss → DD → Sg → MM → Prop
  | xk, .nil, D, g, M => D.nx g M
  | xk, .cons s ss, D, g, M => runS xk s { D with nx := fun g' M' => runSs xk ss D g' M' } g M
def runCs : XW → Cs → String → DD → Sg → MM → Prop
  | xk, .nil, _, D, g, M => D.nx g M
  | xk, .cons x b cs, s, D, g, M => if s = x then runSs xk b D g M else runCs xk cs s D g M
end
end
end Rx
end

section
set_option maxHeartbeats 4000000
/-! Rx: that a text of the program is a syntax without places. -/
namespace Rx
open PySem L2
abbrev so (s : String) : Str := Str.ofString s
def glb (sc : Scope) (x : Str) : Bool := decide (sc.names.lookup x = some .globalImplicit)
def visB (sc : Scope) (x : Str) : Bool := match sc.names.lookup x with
  | some .local => true
  | some .cell => true
  | some .free => true
  | _ => false
def locB (sc : Scope) (x : Str) : Bool := match sc.names.lookup x with
  | some .local => true
  | some .cell => true
  | _ => false
def biNames : List String := ["len", "list", "tuple", "int", "min", "max", "all", "any", "sorted", "str", "isinstance", "range", "enumerate", "zip", "dict", "bool", "set"]
def biCalls : List String := ["len", "list", "tuple", "int", "min", "max", "all", "any", "sorted", "str", "dict"]
def bmCalls : List (String × String) := [("list", "append"), ("list", "extend"), ("list", "reverse"), ("list", "clear"), ("list", "pop"), ("tuple", "index"), ("str", "split"), ("str", "strip"), ("str", "join"), ("dict", "clear"), ("dict", "setdefault")]
def isiT : List String := ["int", "bool", "str", "tuple", "dict", "list"]
def nmOk (x : Str) : Bool := !(x == so "__debug__") && !(x == so "__classdict__") && !(x == so "__name__")
/-- not super() -/
def plainO : Expr → Bool
  | .Call (.Name _ _) [] [] _ => false
  | _ => true
def notStar : Expr → Bool
  | .Starred _ _ => false
  | _ => true
def notSet : Expr → Bool
  | .Set _ _ _ => false
  | _ => true
def notSlice : Expr → Bool
  | .Slice _ _ _ _ => false
  | _ => true
def notComp : Expr → Bool
  | .ListComp _ _ _ _ => false
  | .SetComp _ _ _ _ => false
  | .DictComp _ _ _ _ _ => false
  | _ => true
def blkF (scope : Scope) (x : Str) : Bool := scope.names.lookup x == some .cell
def isPl : Expr → Bool
  | .UnaryOp .Not _ _ => false
  | .BoolOp _ _ _ => false
  | .IfExp _ _ _ _ => false
  | .Compare _ _ _ _ => false
  | _ => true
mutual
def okE (N : List Str) (sc : Scope) (F : Str → Bool) : E → Expr → Bool
  | .var i, .Name x _ => decide (N[i]? = some x) && visB sc x && nmOk x
  | .glo x, .Name y _ => decide (y = so x) && glb sc y && nmOk y
  | .int i, .Constant (.int j) _ _ => decide (i = j)
  | .str s, .Constant (.str x) _ _ => decide (so s = x)
  | .bl b, .Constant (.bool c) _ _ => decide (b = c)
  | .non, .Constant .none _ _ => true
  | .bin op a b, .BinOp x o y _ => decide (op = o) && (okE N sc F a x && okE N sc F b y)
  | .neg a, .UnaryOp .USub x _ => okE N sc F a x
  | .cmp op a b, .Compare x [o] [y] _ => (decide (op = o) && notSet y) && (okE N sc F a x && okE N sc F b y)
  | .chain o1 o2 a b c, .Compare x [p1, p2] [y, z] _ => ((decide (o1 = p1) && decide (o2 = p2)) && (notSet y && notSet z)) && (okE N sc F a x && (okE N sc F b y && okE N sc F c z))
  | .notE a, .UnaryOp .Not x _ => okE N sc F a x
  | .andE a b, .BoolOp .And (x :: y :: r) p => okE N sc F a x && okE N sc F b (.BoolOp .And (y :: r) p)
  | .orE a b, .BoolOp .Or (x :: y :: r) p => okE N sc F a x && okE N sc F b (.BoolOp .Or (y :: r) p)
  | .one a, .BoolOp _ [x] _ => okE N sc F a x
  | .ite c a b, .IfExp x y z _ => okE N sc F c x && (okE N sc F a y && okE N sc F b z)
  | .tup es, .Tuple xs _ _ => okEs N sc F es xs
  | .lst es, .List xs _ => okEs N sc F es xs
  | .dct ps, .Dict ks vs _ => decide (ks.length ≤ 15) && okPs N sc F ps ks vs
  | .dctK ps, .Dict ks vs _ => decide (ks.length ≤ 15 ∧ ks ≠ []) && okPs N sc F ps ks vs
  | .fld o f, .Attribute x y _ => (decide (y = so f) && plainO x) && okE N sc F o x
  | .prop o f, .Attribute x y _ => (decide (y = so f) && plainO x) && okE N sc F o x
  | .sub a i, .Subscript x y _ => notSlice y && (okE N sc F a x && okE N sc F i y)
  | .slc a lo hi, .Subscript x (.Slice l h none _) _ => okE N sc F a x && (okO N sc F lo l && okO N sc F hi h)
  | .call f as, .Call (.Name y _) xs [] _ => ((decide (y = so f) && glb sc y) && (nmOk y && xs.all notStar)) && okEs N sc F as xs
  | .mk f as, .Call (.Name y _) xs [] _ => ((decide (y = so f) && glb sc y) && (nmOk y && xs.all notStar)) && okEs N sc F as xs
  | .bi f as, .Call (.Name y _) xs [] _ => ((decide (y = so f) && glb sc y) && ((nmOk y && xs.all notStar) && (biCalls.contains f && !xs.isEmpty))) && okEs N sc F as xs
  | .isi x t, .Call (.Name y _) [e, .Name z _] [] _ => (((decide (y = so "isinstance") && glb sc y) && (decide (z = so t) && glb sc z)) && ((nmOk z && notStar e) && isiT.contains t)) && okE N sc F x e
  | .isc x t, .Call (.Name y _) [e, .Name z _] [] _ => (((decide (y = so "isinstance") && glb sc y) && (decide (z = so t) && glb sc z)) && (nmOk z && notStar e)) && okE N sc F x e
  | .eqO a b, .Compare x [o] [y] _ => (decide (o = .Eq) && notSet y) && (okE N sc F a x && okE N sc F b y)
  | .neO a b, .Compare x [o] [y] _ => (decide (o = .NotEq) && notSet y) && (okE N sc F a x && okE N sc F b y)
  | .rev a, .Subscript x (.Slice none none (some (.UnaryOp .USub (.Constant (.int j) _ _) _)) _) _ => decide (j = 1) && okE N sc F a x
  | .lit d, .Call (.Name y _) [.Call (.Attribute x z ap) [] [] p] [] _ => (((decide (y = so "list") && glb sc y) && (decide (z = so "items") && plainO x)) && decide (ap.endLine = p.line)) && okE N sc F d x
  | .lset a, .Call (.Name y _) [.Call (.Name z _) [x] [] _] [] _ => (((decide (y = so "len") && glb sc y) && (decide (z = so "set") && glb sc z)) && notStar x) && okE N sc F a x
  | .sset a, .Call (.Name y _) [.Call (.Name z _) [x] [] _] [] _ => (((decide (y = so "sorted") && glb sc y) && (decide (z = so "set") && glb sc z)) && notStar x) && okE N sc F a x
  | .dst d k v, .Dict [none, some x] [y, z] _ => okE N sc F d y && (okE N sc F k x && okE N sc F v z)
  | .meth o m as, .Call (.Attribute x y ap) xs [] p => ((decide (y = so m) && plainO x) && ((decide (ap.endLine = p.line) && decide (xs.length < 29)) && xs.all notStar)) && (okE N sc F o x && okEs N sc F as xs)
  | .bm t o m as, .Call (.Attribute x y ap) xs [] p => (((decide (y = so m) && bmCalls.contains (t, m)) && plainO x) && ((decide (ap.endLine = p.line) && decide (xs.length < 29)) && xs.all notStar)) && (okE N sc F o x && okEs N sc F as xs)
  | .lc elt x it c own, .ListComp e [⟨t, i, ifs, 0⟩] scope _ =>
      ((blkC N sc scope (own.map fun p => (so p.1, p.2)) && (tgSl x).all fun i => (own.map (·.2)).contains i) && (okI N sc F it x t i && okTg N (relS scope sc) (blkF scope) x t)) && (okC N (relS scope sc) (blkF scope) c ifs && okE N (relS scope sc) (blkF scope) elt e)
  | .lc2 elt x it x1 it1 c1 own vs1, .ListComp e [⟨t, i, [], 0⟩, ⟨t1, i1, ifs1, 0⟩] scope _ =>
      ((blkC N sc scope (own.map fun p => (so p.1, p.2)) && ((tgSl x).all (fun i => (own.map (·.2)).contains i) && ((tgSl x1).all (fun i => vs1.contains i) && vs1.all fun i => (own.map (·.2)).contains i))) && (okI N sc F it x t i && okTg N (relS scope sc) (blkF scope) x t)) &&
        ((okI N (relS scope sc) (blkF scope) it1 x1 t1 i1 && okTg N (relS scope sc) (blkF scope) x1 t1) && (okC N (relS scope sc) (blkF scope) c1 ifs1 && okE N (relS scope sc) (blkF scope) elt e))
  | .dc k v x it c own, .DictComp ke ve [⟨t, i, ifs, 0⟩] scope _ =>
      (((blkC N sc scope (own.map fun p => (so p.1, p.2)) && (tgSl x).all fun i => (own.map (·.2)).contains i) && (okI N sc F it x t i && okTg N (relS scope sc) (blkF scope) x t)) && okC N (relS scope sc) (blkF scope) c ifs) && (okE N (relS scope sc) (blkF scope) k ke && okE N (relS scope sc) (blkF scope) v ve)
  | .tv a, x => isPl x && okE N sc F a x
  | .never, _ => true
  | _, _ => false
def okEs (N : List Str) (sc : Scope) (F : Str → Bool) : Es → List Expr → Bool
  | .nil, [] => true
  | .cons e es, x :: xs => notStar x && (okE N sc F e x && okEs N sc F es xs)
  | .star e es, .Starred x _ :: xs => okE N sc F e x && okEs N sc F es xs
  | _, _ => false
def okPs (N : List Str) (sc : Scope) (F : Str → Bool) : Ps → List (Option Expr) → List Expr → Bool
  | .nil, [], [] => true
  | .cons k v ps, some x :: ks, y :: vs => okE N sc F k x && (okE N sc F v y && okPs N sc F ps ks vs)
  | _, _, _ => false
def okO (N : List Str) (sc : Scope) (F : Str → Bool) : Oe → Option Expr → Bool
  | .none, none => true
  | .some e, some x => okE N sc F e x
  | _, _ => false
def okC (N : List Str) (sc : Scope) (F : Str → Bool) : Oe → List Expr → Bool
  | .none, [] => true
  | .some e, [x] => okE N sc F e x
  | _, _ => false
def okI (N : List Str) (sc : Scope) (F : Str → Bool) : It → Tg → Expr → Expr → Bool
  | .val e, _, t, x => notSet x && okE N sc F e x
  | .rng1 a, _, t, .Call (.Name y _) [x] [] _ => (decide (y = so "range") && glb sc y) && (notStar x && okE N sc F a x)
  | .enum a, .tup _, .Tuple _ _ _, .Call (.Name y _) [x] [] _ => (decide (y = so "enumerate") && glb sc y) && (notStar x && okE N sc F a x)
  | .zip a b, .tup _, .Tuple _ _ _, .Call (.Name y _) [x, z] [] _ => ((decide (y = so "zip") && glb sc y) && (notStar x && notStar z)) && (okE N sc F a x && okE N sc F b z)
  | .items e, .tup _, .Tuple _ _ _, .Call (.Attribute x y ap) [] [] p => ((decide (y = so "items") && plainO x) && decide (ap.endLine = p.line)) && okE N sc F e x
  | _, _, _, _ => false
def okTg (N : List Str) (sc : Scope) (F : Str → Bool) : Tg → Expr → Bool
  | .name i, .Name x _ => decide (N[i]? = some x) && (decide (sc.names.lookup x = some .local) || (decide (sc.names.lookup x = some .cell) && F x))
  | .tup ts, .Tuple xs _ _ => (decide (tgsLen ts = xs.length) && xs.all notStar) && okTgs N sc F ts xs
  | .sub o i, .Subscript x y _ => notSlice y && (okE N sc F o x && okE N sc F i y)
  | _, _ => false
def okTgs (N : List Str) (sc : Scope) (F : Str → Bool) : Tgs → List Expr → Bool
  | .nil, [] => true
  | .cons t ts, x :: xs => notStar x && (okTg N sc F t x && okTgs N sc F ts xs)
  | _, _ => false
end
end Rx
end

section
set_option maxHeartbeats 4000000
/-! Rx: operations over trees are borne out. -/
namespace Rx
open PySem L2
theorem so_inj {a b : String} (h : Str.ofString a = Str.ofString b) : a = b := by
  rw [Str.ofString_eq_toList, Str.ofString_eq_toList] at h
  have h1 : (a.toList.map Char.toNat).toArray = (b.toList.map Char.toNat).toArray := by injection h
  have h2 : a.toList.map Char.toNat = b.toList.map Char.toNat := by simpa using congrArg Array.toList h1
  have inj : ∀ c d : Char, c.toNat = d.toNat → c = d := fun c d e => Char.ext (UInt32.toNat_inj.mp e)
  have h3 : ∀ (x y : List Char), x.map Char.toNat = y.map Char.toNat → x = y := by
    intro x
    induction x with
    | nil => intro y e; cases y <;> simp_all
    | cons c r ih =>
      intro y e
      cases y with
      | nil => simp at e
      | cons d t =>
        simp only [List.map_cons, List.cons.injEq] at e
        rw [inj c d e.1, ih t e.2]
  have h4 := h3 _ _ h2
  exact String.toList_inj.mp h4
theorem so_len (s : String) : (Str.ofString s).length = s.length := by
  rw [Str.ofString_eq_toList]
  unfold Str.length
  simp [String.length_toList]
theorem so_iff (a b : String) : (Str.ofString a = Str.ofString b) = (a = b) := propext ⟨so_inj, fun e => e ▸ rfl⟩
theorem so_beq (a b : String) : (Str.ofString a == Str.ofString b) = decide (a = b) := by
  rw [Bool.eq_iff_iff]; simp [so_iff]
theorem int_beq (a b : Int) : (a == b) = decide (a = b) := by
  rw [Bool.eq_iff_iff]; simp
theorem bl_beq (a b : Bool) : (a == b) = decide (a = b) := by
  rw [Bool.eq_iff_iff]; simp
theorem so_app (s t : String) : Str.ofString s ++ Str.ofString t = Str.ofString (s ++ t) := by
  rw [Str.ofString_eq_toList, Str.ofString_eq_toList, Str.ofString_eq_toList]
  show Str.append _ _ = _
  unfold Str.append
  simp
abbrev gOf (X : Cx) (ca : String → Addr) : Gw := ⟨X.w, ca, X.K⟩
/-- what an operation over values is to hand on -/
def Hands (G : Gw) (H : Hp) (Qa : KV1) (Q : VK) : Prop := ∀ p M' v H', HRep G.w G.ca G.K M' H' → Rep G.K H' p v → Keep H H' → Qa p M' → Q v H'
theorem Hands.mono {G : Gw} {H H1 : Hp} {Qa : KV1} {Q : VK} (h : Hands G H Qa Q) (k : Keep H H1) : Hands G H1 Qa Q := fun p M' v H' a b c d => h p M' v H' a b (k.trans c) d
def lift2 (G : Gw) (r : PV → PV → MM → KV1 → Prop) : R2 := fun v w H Q => ∃ p q M Qa, HRep G.w G.ca G.K M H ∧ Rep G.K H p v ∧ Rep G.K H q w ∧ r p q M Qa ∧ Hands G H Qa Q
def liftC (G : Gw) (r : List PV → MM → KV1 → Prop) : List V → Hp → VK → Prop := fun vs H Q => ∃ ps M Qa, HRep G.w G.ca G.K M H ∧ Reps G.K H ps vs ∧ r ps M Qa ∧ Hands G H Qa Q
def liftM (G : Gw) (r : PV → List PV → MM → KV1 → Prop) : V → List V → Hp → VK → Prop := fun v vs H Q => ∃ p ps M Qa, HRep G.w G.ca G.K M H ∧ Rep G.K H p v ∧ Reps G.K H ps vs ∧ r p ps M Qa ∧ Hands G H Qa Q
/-- a new tuple -/
theorem Hands.tup {G : Gw} {H : Hp} {Qa : KV1} {Q : VK} (h : Hands G H Qa Q) {M : MM} {ps : List PV} {vs : List V} {us : List Value} {n : Nat} {p : Addr} (hM : HRep G.w G.ca G.K M H) (r : Reps G.K H ps vs) (e : H p = none) (q : Qa (.tup ps) M) : Q (.ref p) (upd H p (.frz (tupO us n) (.tup vs))) :=
  h _ M _ _ (hM.new0 e) (.tup (.inl ⟨_, upd_same, rfl, rfl⟩) (r.keep (.new e))) (.new e) q
/-- a new list -/
theorem Hands.lst {G : Gw} {H : Hp} {Qa : KV1} {Q : VK} (h : Hands G H Qa Q) {M : MM} {ps : List PV} {vs : List V} {p : Addr} (hM : HRep G.w G.ca G.K M H) (r : Reps G.K H ps vs) (e : H p = none) (q : newL ps M Qa) : Q (.ref p) (upd H p (.lst vs)) :=
  h _ _ _ _ (hM.new (u := .lst ps) e ⟨vs, upd_same, r.keep (.new e)⟩) (.ref p) (.new e) (q p (hM.fresh e))
/-- a list changed -/
theorem Hands.set {G : Gw} {H : Hp} {Qa : KV1} {Q : VK} (h : Hands G H Qa Q) {M : MM} {qs : List PV} {vs ws : List V} {a : Addr} {p : PV} {v : V} (hM : HRep G.w G.ca G.K M H) (ha : H a = some (.lst vs)) (r : Reps G.K H qs ws) (rp : Rep G.K H p v) (q : Qa p (mput M a (.lst qs))) :
    Q v (upd H a (.lst ws)) :=
  h p _ v _ (hM.set (u := .lst qs) ha rfl ⟨ws, upd_same, r.keep (.set ha rfl)⟩) (rp.keep (.set ha rfl)) (.set ha rfl) q

section
variable {X : Cx} {ca : String → Addr}
mutual
theorem deep_dp {K : PySem.W.Frag} {w : World} {H : Hp} {M : MM} (hM : HRep w ca K M H) : ∀ {p : PV} {d : PyData} {v : V}, Deep M p d → Rep K H p v → Dp K H v d
  | _, _, _, .non, r => by cases r; exact .non
  | _, _, _, .bl b, r => by cases r; exact .bl b
  | _, _, _, .int i, r => by cases r; exact .int i
  | _, _, _, .str s, r => by cases r; exact .str _
  | _, _, _, .tup h, r => by
    cases r with
    | tup t rs => exact .tup t.sq (deep_dpA hM h rs)
  | _, _, _, .lst e h, r => by
    cases r with
    | ref a =>
      obtain ⟨vs, h1, h2⟩ := hM.lst e
      exact .lst (SqL.of h1) (deep_dpA hM h h2)
  | _, _, _, .xl h, r => by
    cases r with
    | xl t rs => exact .lst t.sq (deep_dpA hM h rs)
theorem deep_dpA {K : PySem.W.Frag} {w : World} {H : Hp} {M : MM} (hM : HRep w ca K M H) : ∀ {p : List PV} {d : List PyData} {v : List V}, DeepAll M p d → Reps K H p v → DpAll K H v d
  | _, _, _, .nil, r => by cases r; exact .nil
  | _, _, _, .cons h t, r => by
    cases r with
    | cons a b => exact .cons (deep_dp hM h a) (deep_dpA hM t b)
end
theorem sEq_v {K : PySem.W.Frag} {H : Hp} {p q : PV} {v w : V} {b : Bool} (r1 : Rep K H p v) (r2 : Rep K H q w) (h : sEq p q = some b) : scal v w = true ∧ decide (v = w) = b ∧ eqV v w = b ∧ flatV v = true ∧ flatV w = true := by
  unfold sEq at h
  split at h <;> first
    | cases h
    | skip
  all_goals (cases r1; cases r2)
  all_goals (refine ⟨rfl, ?_, ?_, rfl, rfl⟩ <;> simp_all [eqV, so_iff, so_beq, int_beq, bl_beq])
theorem sMem_v {K : PySem.W.Frag} {H : Hp} {x : PV} {v : V} (rx : Rep K H x v) : ∀ {ps : List PV} {vs : List V} {b : Bool}, Reps K H ps vs → sMem x ps = some b → flatV v = true ∧ vs.all flatV = true ∧ inV v vs = b
  | [], _, b, r, h => by
    cases r
    cases x <;> simp only [sMem] at h <;> first
      | (cases h; cases rx; exact ⟨rfl, rfl, rfl⟩)
      | cases h
  | p :: ps, _, b, r, h => by
    cases r with
    | @cons _ _ u us a t =>
      simp only [sMem] at h
      split at h
      · rename_i c d h1 h2
        obtain ⟨e1, e2, e3⟩ := sMem_v rx t h2
        obtain ⟨s1, s2, s3, s4, s5⟩ := sEq_v a rx h1
        refine ⟨e1, by simp [e2, s4], ?_⟩
        unfold inV at e3 ⊢
        rw [List.any_cons, e3, s3]
        exact Option.some.inj h
      · cases h
end
end Rx
end

section
set_option maxHeartbeats 4000000
/-! Rx: texts as Strings: cut, glued, bare, by a number. -/
namespace Rx
open PySem PySem.Builtin PySem.Builtin.Str L2 TL
theorem nat_inj {c d : Char} (e : c.toNat = d.toNat) : c = d := Char.ext (UInt32.toNat_inj.mp e)
theorem one_so {s : String} {c : Char} (h : s.toList = [c]) : so s = ⟨#[c.toNat]⟩ := by
  show Str.ofString s = _
  rw [Str.ofString_eq_toList, h]; rfl
theorem tl_so (s : String) : tl (so s) = s.toList.map Char.toNat := tl_ofString s
theorem so_ofList (l : List Char) : tl (so (String.ofList l)) = l.map Char.toNat := by
  rw [tl_so, String.toList_ofList]
theorem splC_spl (c : Char) : ∀ (l acc : List Char), spl [c.toNat] 0 (acc.map Char.toNat) (l.map Char.toNat) = (splC c acc l).map (fun z => z.map Char.toNat)
  | [], acc => rfl
  | d :: r, acc => by
    have ih1 := splC_spl c r []
    have ih2 := splC_spl c r (acc ++ [d])
    show (if pre [c.toNat] (d.toNat :: r.map Char.toNat) = true then acc.map Char.toNat :: spl [c.toNat] 0 [] (r.map Char.toNat) else spl [c.toNat] 0 (acc.map Char.toNat ++ [d.toNat]) (r.map Char.toNat)) = _
    have e : pre [c.toNat] (d.toNat :: r.map Char.toNat) = decide (d = c) := by
      unfold pre
      rw [Bool.eq_iff_iff]
      simp only [List.length_singleton, List.take_succ_cons, List.take_zero, beq_iff_eq, List.cons.injEq, and_true, decide_eq_true_eq]
      exact ⟨nat_inj, fun e => e ▸ rfl⟩
    rw [e]
    unfold splC
    by_cases h : d = c
    · rw [decide_eq_true h, if_pos rfl, if_pos h, List.map_cons]
      exact congrArg _ ih1
    · rw [decide_eq_false h, if_neg Bool.false_ne_true, if_neg h, ← ih2, List.map_append]
      rfl
theorem split_so {sep : String} {c : Char} (h : sep.toList = [c]) (hc : c.toNat < 256) (s : String) : Txt.split (so s) (so sep) = (splitS c s).map so := by
  refine map_tl_inj ?_
  have e : tl (so sep) = [c.toNat] := by rw [tl_so, h]; rfl
  rw [split_spl _ _ (by rw [e]; simp) (kind_ok (by rw [one_so h]; simpa using hc)), e, tl_so, List.map_map]
  have k := splC_spl c s.toList []
  rw [List.map_nil] at k
  rw [k]
  unfold splitS
  rw [List.map_map]
  refine List.map_congr_left fun l _ => ?_
  exact (so_ofList l).symm
theorem strip_core (p : Nat → Bool) (x : Str) : tl (Txt.stripBy p true true x) = (((tl x).dropWhile p).reverse.dropWhile p).reverse := by
  have core : ((tl x).drop (stripLo p true x)).take (stripHi p true x (stripLo p true x) - stripLo p true x) = (((tl x).dropWhile p).reverse.dropWhile p).reverse := by
    unfold stripHi stripLo
    simp only [if_true]
    have d : (tl x).drop ((tl x).takeWhile p).length = (tl x).dropWhile p := by
      have t := List.takeWhile_append_dropWhile (p := p) (l := tl x)
      conv => lhs; arg 2; rw [← t]
      rw [List.drop_left]
    rw [d, len_tl]
    generalize hD : (tl x).dropWhile p = D
    have hl : (tl x).length = ((tl x).takeWhile p).length + D.length := by
      conv => lhs; rw [← List.takeWhile_append_dropWhile (p := p) (l := tl x)]
      rw [List.length_append, hD]
    have e : (tl x).length - (D.reverse.takeWhile p).length - ((tl x).takeWhile p).length = D.length - (D.reverse.takeWhile p).length := by omega
    rw [e]
    have t := List.takeWhile_append_dropWhile (p := p) (l := D.reverse)
    have f : D = (D.reverse.dropWhile p).reverse ++ (D.reverse.takeWhile p).reverse := by
      rw [← List.reverse_append, t, List.reverse_reverse]
    have g : D.length - (D.reverse.takeWhile p).length = (D.reverse.dropWhile p).reverse.length := by
      have := congrArg List.length f
      rw [List.length_append, List.length_reverse, List.length_reverse] at this
      rw [List.length_reverse]; omega
    rw [g]
    conv => lhs; arg 2; rw [f]
    rw [List.take_left]
  unfold Txt.stripBy
  split
  · rename_i h
    unfold stripSame at h
    simp only [Bool.and_eq_true, beq_iff_eq] at h
    rw [← core, h.2, h.1, List.drop_zero, Nat.sub_zero, len_tl, List.take_length]
  · rw [← core]
    show tl (strSub x _ _) = _
    rw [tl_strSub]
theorem dropWhile_map' {f : Char → Nat} {p : Nat → Bool} : ∀ l : List Char, (l.map f).dropWhile p = (l.dropWhile (fun c => p (f c))).map f
  | [] => rfl
  | a :: l => by
    rw [List.map_cons, List.dropWhile_cons, List.dropWhile_cons]
    split
    · exact dropWhile_map' l
    · rfl
theorem strip_so {sep : String} {c : Char} (h : sep.toList = [c]) (s : String) : Txt.stripChars (so s) (so sep) = so (stripS c s) := by
  refine ext_tl ?_
  unfold stripS
  rw [so_ofList]
  unfold Txt.stripChars
  rw [strip_core, tl_so, one_so h]
  unfold stripC
  have e : ∀ d : Char, (#[c.toNat] : Array Nat).contains d.toNat = (d == c) := fun d => by
    rw [Bool.eq_iff_iff]
    simp only [Array.contains_eq_mem, List.mem_toArray, decide_eq_true_eq, beq_iff_eq]
    simp only [List.mem_singleton]
    exact ⟨nat_inj, fun e => e ▸ rfl⟩
  rw [dropWhile_map', ← List.map_reverse, dropWhile_map', ← List.map_reverse]
  simp only [e]
theorem join_so (sep : String) : ∀ ss : List String, Str.join (so sep) (ss.map so) = so (joinS sep ss)
  | [] => rfl
  | [_] => rfl
  | x :: y :: r => by
    have ih := join_so sep (y :: r)
    show so x ++ so sep ++ Str.join (so sep) ((y :: r).map so) = so (x ++ (sep ++ joinS sep (y :: r)))
    rw [ih]
    show _ = Str.ofString _
    rw [← so_app, ← so_app]
    show so x ++ so sep ++ so (joinS sep (y :: r)) = so x ++ (so sep ++ so (joinS sep (y :: r)))
    refine ext_tl ?_
    rw [tl_append, tl_append, tl_append, tl_append, List.append_assoc]
theorem join_sum (sep : String) : ∀ ss : List String, (ss.map String.length).sum ≤ (joinS sep ss).length
  | [] => Nat.zero_le _
  | [x] => by simp [joinS]
  | x :: y :: r => by
    have ih := join_sum sep (y :: r)
    rw [List.map_cons, List.sum_cons]
    unfold joinS
    rw [String.length_append, String.length_append]
    omega
theorem mul_so {s : String} {c : Char} (h : s.toList = [c]) (k : Int) : Txt.mul (so s) k = so (String.ofList (List.replicate k.toNat c)) := by
  refine ext_tl ?_
  rw [so_ofList, one_so h]
  show (Txt.mul ⟨#[c.toNat]⟩ k).cps.toList = _
  rw [PyProof.Rows.mul_one_list, List.map_replicate]
theorem mul_ok {s : String} {c : Char} (h : s.toList = [c]) {k : Int} (h0 : 0 ≤ k) (h1 : k ≤ 1000) : MulOk (so s) k := by
  have l : (so s).length = 1 := by rw [one_so h]; rfl
  refine ⟨?_, fun a _ => ?_, fun a _ => ?_⟩
  · have e1 : ¬ k < -(2 ^ 63 : Int) := by omega
    have e2 : ¬ k ≥ 2 ^ 63 := by omega
    rw [decide_eq_false e1, decide_eq_false e2]; rfl
  · rw [l]
    intro z
    have : (1 : Int) ≤ (2 ^ 63 - 1) / k := by
      rw [Int.le_ediv_iff_mul_le (by omega)]
      omega
    omega
  · rw [l, Nat.one_mul]
    unfold tooLong
    have : k.toNat ≤ 1000 := by omega
    simp only [decide_eq_false_iff_not]
    rw [sizeLine_eq]; omega
theorem op_mulS {X : Cx} : OpR X (binaryOp .Mult) (fun x y H Q => ∃ (s : String) (c : Char) (k : Int), x = .str (so s) ∧ y = .int k ∧ s.toList = [c] ∧ 0 ≤ k ∧ k ≤ 1000 ∧ Q (.str (so (String.ofList (List.replicate k.toNat c)))) H) := by
  intro pins s σ H x y v u Q I rx ry ⟨z, c, k, hx, hy, h, h0, h1, q⟩
  subst hx; subst hy
  obtain ⟨t, rfl⟩ := rx
  obtain ⟨t2, rfl⟩ := ry
  refine SB.mul (mul_ok h h0 h1) fun t' tk => ?_
  rw [mul_so h]
  exact ⟨.str _, H, I.tok tk, ⟨t', rfl⟩, q⟩
end Rx
end

section
set_option maxHeartbeats 4000000
/-! Rx: new tuples, told with their objects. -/
namespace Rx
open PySem PySem.Spec PyProof.Rows L2 PySem.W
section
variable {X : Cx} {pins : List (Addr × Obj)} {σ : L2.St} {H : Hp} {s : Shared}
/-- a new tuple laid -/
theorem tup_new (I : L2.Inv X pins σ H s) {xs : List V} {us : List Value} (r : Vals xs us) (hz : xs.length ≤ sizeLine) {t' : Nat} :
    L2.Inv X pins σ (upd H s.heap.objs.size (.frz (tupO us 0) (.tup xs))) { s with heap := s.heap.push { cls := .type "tuple", data := .seq us.toArray }, toks := t' } := by
  refine I.laid (fun b u e => Heap.get?_push_of_some _ e) (Nat.le_refl _) ?_
  exact ⟨Heap.get?_push_size _ rfl, hz, us, r, IsTup.new _ _⟩
theorem tup_fresh (I : L2.Inv X pins σ H s) : H s.heap.objs.size = none := I.hok.fresh (Nat.le_refl _)
/-- t + u -/
def rCatF (K : PySem.W.Frag) : R2 := fun x y H Q => ∃ a b xs ys, x = .ref a ∧ y = .ref b ∧ SqT K H a xs ∧ SqT K H b ys ∧ xs.length + ys.length ≤ sizeLine ∧
  (xs = [] → Q (.ref b) H) ∧ (xs ≠ [] → ys = [] → Q (.ref a) H) ∧ (∀ p us, H p = none → Q (.ref p) (upd H p (.frz (tupO us 0) (.tup (xs ++ ys)))))
theorem op_catF : OpR X (binaryOp .Add) (rCatF X.K) := by
  intro pins s σ H x y v u Q I rx ry h
  obtain ⟨a, b, xs, ys, rfl, rfl, ha, hb, hz, q0, q1, q2⟩ := h
  by_cases hx : xs = []
  · refine op_catA pins s σ H _ _ v u Q I rx ry ⟨a, b, xs, ys, rfl, rfl, ha, hb, hz, q0, fun z => absurd hx z, fun z => absurd hx z⟩
  · cases rx
    cases ry
    obtain ⟨its, r1, p1, _⟩ := I.tuple ha
    obtain ⟨its2, r2, p2, _⟩ := I.tuple hb
    refine HT.cat_tup p1 p2 (fun z => hx (r1.nil_iff.mp z)) (fun z => ⟨.ref a, H, I, rfl, q1 hx (r2.nil_iff.mp z)⟩) (fun z => ?_) (by rw [← r1.length, ← r2.length]; exact hz)
    exact ⟨.ref s.heap.objs.size, _, tup_new (t' := s.toks) I (r1.append r2) (by rw [List.length_append]; exact hz), rfl, q2 _ _ (tup_fresh I)⟩
def rSlF (K : PySem.W.Frag) : V → Option Int → Option Int → Hp → VK → Prop := fun x lo hi H Q => ∃ a xs, x = .ref a ∧ SqT K H a xs ∧
  (HT.sIx xs.length 0 lo = 0 ∧ HT.sIx xs.length xs.length hi = xs.length → Q (.ref a) H) ∧ (∀ p us, H p = none → Q (.ref p) (upd H p (.frz (tupO us 0) (.tup (cutV xs lo hi)))))
theorem sl_tupF : SlR X (rSlF X.K) := by
  intro pins s σ H x v vl vu lo hi sl Q I rx hs pl pu h
  obtain ⟨a, xs, rfl, hx, q1, q2⟩ := h
  cases rx
  obtain ⟨its, r, ht, hz⟩ := I.tuple hx
  have hlen : its.toArray.size = xs.length := by rw [List.size_toArray]; exact r.length.symm
  refine ⟨"tuple", _, PyProof.Rows.slot_tuple_getitem.lookup, ht.typeIs, ?_⟩
  by_cases hw : HT.sIx xs.length 0 lo = 0 ∧ HT.sIx xs.length xs.length hi = xs.length
  · exact getItem_tuple_whole ht hs pl pu (by rw [hlen]; exact hw) ⟨.ref a, H, I, rfl, q1 hw⟩
  · refine HT.getItem_tuple_cut ht hs pl pu (by rw [hlen]; exact hw) ?_ (by rw [hlen]; exact hz)
    rw [hlen]
    refine ⟨.ref s.heap.objs.size, _, tup_new (t' := s.toks) I ((r.drop (HT.sIx xs.length 0 lo)).take (HT.sIx xs.length xs.length hi - HT.sIx xs.length 0 lo)) (Nat.le_trans (cutV_length xs lo hi) hz), rfl, q2 _ _ (tup_fresh I)⟩
def rRepF (K : PySem.W.Frag) : R2 := fun x y H Q => ∃ l k xs, x = .ref l ∧ y = .int k ∧ SqT K H l xs ∧ xs ≠ [] ∧ 2 ≤ k ∧ k ≤ 1000 ∧ xs.length ≤ 1000 ∧ ∀ p us, H p = none → Q (.ref p) (upd H p (.frz (tupO us 0) (.tup (List.replicate k.toNat xs).flatten)))
theorem op_repF : OpR X (binaryOp .Mult) (rRepF X.K) := by
  intro pins s σ H x y v u Q I rx ry ⟨l, k, xs, ex, ey, hT, hne, h1, h2, hz, q⟩
  subst ex; subst ey; cases rx
  obtain ⟨t, et⟩ := ry; subst et
  obtain ⟨its, r, ⟨ob, ho, hc, n, hd⟩, _⟩ := I.tuple hT
  obtain ⟨cl, dd, da, sl⟩ := ob
  dsimp only at hc hd; subst hc; subst hd
  have L : xs.length = its.length := r.length
  have N : its ≠ [] := by
    rintro rfl
    exact hne (List.length_eq_zero_iff.mp L)
  have Emp : its.toArray.isEmpty = false := by simpa using N
  have big : its.length * k.toNat ≤ 1000 * 1000 := Nat.mul_le_mul (by omega) (by omega)
  have bigI : ((its.toArray.size : Nat) : Int) * k ≤ 1000000 := by
    have e : k = ((k.toNat : Nat) : Int) := by omega
    rw [List.size_toArray, e, ← Int.natCast_mul]
    omega
  have SL := sizeLine_eq
  have fl : (List.replicate k.toNat its).flatten.length ≤ sizeLine := by
    rw [PyProof.Rows.lm_len_rep_flat, Nat.mul_comm]; omega
  have k0 : (decide (k < -(2 ^ 63)) || decide (k ≥ 2 ^ 63)) = false := by
    rw [decide_eq_false (by omega), decide_eq_false (by omega)]; rfl
  have k1 : (its.toArray.isEmpty || k == 1) = false := by
    rw [Emp, Bool.false_or]; exact beq_eq_false_iff_ne.mpr (by omega)
  have k2 : (decide (k ≤ 0) || its.toArray.isEmpty) = false := by
    rw [Emp, Bool.or_false]; exact decide_eq_false (by omega)
  have k4 : Builtin.Tuple.tupleTooMany (((its.toArray.size : Nat) : Int) * k) = false := by
    unfold Builtin.Tuple.tupleTooMany
    exact decide_eq_false (by omega)
  have T0 : s.TypeIs (.ref l) "tuple" := ⟨_, ho, rfl⟩
  have inner := tuple_mulW l its.toArray n dd sl k t k0 k1 k2 (by omega) k4 (by rw [size_rep, List.size_toArray]; exact fl)
  refine wpAny_binaryOp_repeat_ref (T := "tuple") (U := "int") (by decide) T0 (fun s' => typeIs_int s' k t) noFill_tuple_mul F.fills_int_mul F.slot_int_rmul repeat_tuple F.slot_int_index.lookup
    (call_meets F.slot_int_rmul (typeIs_int s k t) F.entry_int_rmul (F.args_int_rmul_2 _ _) (int_rmul_tuple k t l its.toArray n dd sl) ⟨ho, rfl, T0, call_meets F.slot_tuple_mul T0 F.entry_tuple_mul (F.args_tuple_mul_2 _ _) inner ⟨ho, ?_⟩⟩)
  rw [size_rep]
  have rr : Vals (List.replicate k.toNat xs).flatten (List.replicate k.toNat its).flatten := r.rep _
  exact ⟨.ref s.heap.objs.size, _, tup_new (t' := s.toks) I rr (by rw [rr.length]; exact fl), rfl, q _ _ (tup_fresh I)⟩
theorem call_tupleF : CallR X (.type "tuple") (fun xs H Q => ∃ p ys, xs = [.ref p] ∧ ((SqL X.K H p ys ∧ ∀ l us, H l = none → Q (.ref l) (upd H l (.frz (tupO us 0) (.tup ys)))) ∨ (SqT X.K H p ys ∧ Q (.ref p) H))) := by
  intro pins s σ H xs us Q I r h
  obtain ⟨p, ys, rfl, h⟩ := h
  obtain ⟨u, rfl, rx⟩ := vals1 r
  cases rx
  rcases h with ⟨hq, q⟩ | ⟨hq, q⟩
  · obtain ⟨its, r', pl, hz⟩ := I.list hq
    have hlen := r'.length
    have hl := line63
    have hs : sizeLine = 16777216 := sizeLine_eq
    refine call_tuple_list pl.isList (fun h' kp => ?_) (by simp only [List.size_toArray] <;> omega)
    have I1 : L2.Inv X pins σ H { s with heap := h' } := I.kept (t' := s.toks) kp
    have I2 := tup_new (t' := s.toks) I1 r' hz
    exact ⟨.ref h'.objs.size, _, I2, rfl, q _ _ (tup_fresh I1)⟩
  · obtain ⟨its, r', pl, hz⟩ := I.tuple hq
    exact call_tuple_same pl ⟨.ref p, H, I, rfl, q⟩
end
end Rx
end

section
set_option maxHeartbeats 4000000
/-! Rx: operations over trees are borne out (2). -/
namespace Rx
open PySem L2
theorem sz_1000000 : (1000000 : Nat) ≤ sizeLine := by rw [sizeLine_eq]; decide
section
variable {X : Cx} {ca : String → Addr}
theorem Hands.int {G : Gw} {H : Hp} {Qa : KV1} {Q : VK} (h : Hands G H Qa Q) {M : MM} (hM : HRep G.w G.ca G.K M H) {i : Int} (q : Qa (.int i) M) : Q (.int i) H := h _ _ _ _ hM (.int i) (.refl H) q
theorem Hands.bl {G : Gw} {H : Hp} {Qa : KV1} {Q : VK} (h : Hands G H Qa Q) {M : MM} (hM : HRep G.w G.ca G.K M H) {i : Bool} (q : Qa (.bl i) M) : Q (.bl i) H := h _ _ _ _ hM (.bl i) (.refl H) q
theorem Hands.same {G : Gw} {H : Hp} {Qa : KV1} {Q : VK} (h : Hands G H Qa Q) {M : MM} (hM : HRep G.w G.ca G.K M H) {p : PV} {v : V} (r : Rep G.K H p v) (q : Qa p M) : Q v H := h _ _ _ _ hM r (.refl H) q

theorem bin_snd (op : Operator) : OpR X (binaryOp op) (lift2 (gOf X ca) (binA op)) := by
  intro pins s σ H x y v u Q I rx ry ⟨p, q, M, Qa, hM, rp, rq, hr, hk⟩
  unfold binA at hr
  split at hr
  · cases rp; cases rq
    exact op_add pins s σ H _ _ v u Q I rx ry ⟨_, _, rfl, rfl, hk.int hM hr⟩
  · cases rp; cases rq
    refine op_add_str pins s σ H _ _ v u Q I rx ry ⟨_, _, rfl, rfl, ?_, ?_⟩
    · rw [so_len, so_len]; exact Nat.le_trans hr.1 sz_1000000
    · rw [so_app]; exact hk.same hM (.str _) hr.2
  · cases rp with
    | tup t1 r1 =>
      cases rq with
      | tup t2 r2 =>
        refine op_catF pins s σ H _ _ v u Q I rx ry ⟨_, _, _, _, rfl, rfl, t1.sq, t2.sq, by rw [← r1.length, ← r2.length]; exact hr.1, fun e => ?_, fun _ e => ?_, fun p us hp => ?_⟩
        · refine hk.same hM (.tup t2 ?_) hr.2
          subst e; cases r1; exact r2
        · refine hk.same hM (.tup t1 ?_) hr.2
          subst e; cases r2; rw [List.append_nil]; exact r1
        · exact hk.tup hM (r1.append r2) hp hr.2
  · cases rp; cases rq
    split at hr
    · rename_i a b xs ys e1 e2
      obtain ⟨vs, h1, r1⟩ := hM.lst e1
      obtain ⟨ws, h2, r2⟩ := hM.lst e2
      exact op_cat pins s σ H _ _ v u Q I rx ry ⟨_, _, _, _, rfl, rfl, h1, h2, by rw [← r1.length, ← r2.length]; exact hr.1, fun p hp => hk.lst hM (r1.append r2) hp hr.2⟩
    · exact hr.elim
  · cases rp; cases rq
    exact op_sub pins s σ H _ _ v u Q I rx ry ⟨_, _, rfl, rfl, hk.int hM hr⟩
  · cases rp; cases rq
    exact op_mul pins s σ H _ _ v u Q I rx ry ⟨_, _, rfl, rfl, hr.1, hk.int hM hr.2⟩
  · cases rq
    cases rp with
    | tup t1 r1 =>
      obtain ⟨h0, h1, h2, h3, h4⟩ := hr
      refine op_repF pins s σ H _ _ v u Q I rx ry ⟨_, _, _, rfl, rfl, t1.sq, ?_, h1, h2, by rw [← r1.length]; exact h3, fun p us hp => hk.tup hM (r1.replicate _) hp h4⟩
      rintro rfl; cases r1; exact h0 rfl
  · cases rp; cases rq
    split at hr
    · rename_i c hc
      exact op_mulS pins s σ H _ _ v u Q I rx ry ⟨_, _, _, rfl, rfl, hc, hr.1, hr.2.1, hk.same hM (.str _) hr.2.2⟩
    · exact hr.elim
  · cases rp; cases rq
    split at hr
    · rename_i e1
      obtain ⟨vs, h1, r1⟩ := hM.lst e1
      obtain ⟨⟨h2, h3, h4⟩, h5⟩ := hr
      refine op_rep pins s σ H _ _ v u Q I rx ry ⟨_, _, _, rfl, rfl, h1, by omega, by omega, ?_, fun p hp => hk.lst hM (r1.replicate _) hp h5⟩
      rw [← r1.length]
      exact Nat.le_trans (Nat.mul_le_mul h4 (Int.toNat_le.mpr h3)) (Nat.le_trans (by decide : 1000 * 1000 ≤ 1000000) sz_1000000)
    · exact hr.elim
  · cases rp; cases rq
    exact op_fdiv pins s σ H _ _ v u Q I rx ry ⟨_, _, rfl, rfl, hr.1, hk.int hM hr.2⟩
  · cases rp; cases rq
    exact op_mod pins s σ H _ _ v u Q I rx ry ⟨_, _, rfl, rfl, hr.1, hk.int hM hr.2⟩
  · cases rp; cases rq
    exact op_pow pins s σ H _ _ v u Q I rx ry ⟨_, _, rfl, rfl, hr.1, hk.int hM hr.2⟩
  · exact hr.elim

/-- comparisons -/
def cmpE (op : CmpOp) (p q : PV) (M : MM) (Q : KV1) : Prop := cmpA op p q M fun r => Q (.bl r) M
end
end Rx
end

section
set_option maxHeartbeats 4000000
/-! Rx: dicts whose keys are texts, numbers, None and tuples of such, side by side. -/
namespace Rx
open PySem
/-- an entry's key is k -/
structure EK (w : World) (h : Heap) (k : NestedKey) (e : DictEntry) : Prop where
  hs : e.hash = k.hash w
  is : NestedIs h k e.key
  dp : k.depth ≤ 8
/-- the entries' keys -/
structure EKs (w : World) (h : Heap) (ks : List NestedKey) (es : Array DictEntry) : Prop where
  len : ks.length = es.size
  at_ : ∀ (j : Nat) k e, ks[j]? = some k → es[j]? = some e → EK w h k e
  nd : ks.Nodup
section
variable {prog : Program} {w : World} {A : Around} {E : Value → Shared → Prop} {s : Shared}
theorem EKs.get {h : Heap} {ks : List NestedKey} {es : Array DictEntry} (x : EKs w h ks es) {j : Nat} {e : DictEntry} (he : es[j]? = some e) : ∃ k, ks[j]? = some k ∧ EK w h k e := by
  have hj : j < es.size := (Array.getElem?_eq_some_iff.mp he).1
  rw [← x.len] at hj
  exact ⟨ks[j], List.getElem?_eq_getElem hj, x.at_ j _ e (List.getElem?_eq_getElem hj) he⟩
theorem EKs.uniq {h : Heap} {ks : List NestedKey} {es : Array DictEntry} (x : EKs w h ks es) {i j : Nat} {k : NestedKey} (hi : ks[i]? = some k) (hj : ks[j]? = some k) : i = j :=
  (List.getElem?_inj (List.getElem?_eq_some_iff.mp hi).1 x.nd).mp (hi.trans hj.symm)

theorem tell_quiet {k : NestedKey} {key : Value} {stored : List Value} {Q : Bool → Shared → Prop} (hk : NestedIs s.heap k key) (hkd : k.depth ≤ 8)
    (hst : ∀ v ∈ stored, ∃ k' : NestedKey, NestedIs s.heap k' v ∧ k'.depth ≤ 8) (h : Q false s) : wpAny (model prog w) A (tableMayTell key stored) Q E s := by
  unfold tableMayTell
  split
  · exact wpAny_pure h
  · refine wpAny_bind (quiet_key k key 8 s hk hkd A E _ ?_)
    simp only [Bool.not_true, Bool.false_eq_true, if_false]
    refine wpAny_bind ?_
    refine wpAny_forIn_list _ (fun rest r s' => s' = s ∧ r = (none, ()) ∧ ∀ v ∈ rest, ∃ k' : NestedKey, NestedIs s.heap k' v ∧ k'.depth ≤ 8) _ ?_ ?_ _ _ ⟨rfl, rfl, hst⟩
    · rintro x rest r s' ⟨rfl, rfl, hr⟩
      obtain ⟨k', hb, hd⟩ := hr x List.mem_cons_self
      refine wpAny_bind (quiet_key k' x 8 _ hb hd A E _ ?_)
      simp only [Bool.not_true, Bool.false_eq_true, if_false]
      exact wpAny_pure ⟨rfl, rfl, fun v hv => hr v (List.mem_cons_of_mem _ hv)⟩
    · rintro r s' ⟨rfl, rfl, _⟩
      exact wpAny_pure h

theorem walkPlain_any {d : Addr} {o : Obj} {es : Array DictEntry} {ep : Nat} {ks : List NestedKey} {k : NestedKey} {key : Value} {Q : Option Nat → Shared → Prop} (hu : A.units + 8 < cLine) (hk : NestedIs s.heap k key) (hkd : k.depth ≤ 8)
    (ho : s.heap.get? d = some o) (hd : o.data = .dict es ep) (X : EKs w s.heap ks es) (hnone : (∀ j : Nat, ks[j]? ≠ some k) → Q none s) (hsome : ∀ j : Nat, ks[j]? = some k → Q (some j) s) :
    wpAny (model prog w) A (dictWalkPlain d key (k.hash w) es (placesWithHash es.size (fun i => es[i]?.map (·.hash)) (k.hash w))) Q E s := by
  have eqb : ∀ {k' : NestedKey} {e : DictEntry} {Q' : Bool → Shared → Prop}, EK w s.heap k' e → Q' (decide (k' = k)) s → wpAny (model prog w) A (eqBool e.key key) Q' E s := fun {k' e Q'} x h =>
    eqAt_key _ _ _ _ _ _ x.is hk (by have := x.dp; omega) _ _ _ _ (by rw [← NestedKey.decide_eq]; exact h)
  have haskey : ∀ j : Nat, ks[j]? = some k → ((es[j]?.map (·.hash)) == some (k.hash w)) = true := by
    intro j hj
    have hl : j < es.size := by rw [← X.len]; exact (List.getElem?_eq_some_iff.mp hj).1
    have q := X.at_ j k _ hj (Array.getElem?_eq_getElem hl)
    rw [Array.getElem?_eq_getElem hl, Option.map_some, q.hs]
    simp
  refine wpAny_bind ?_
  refine wpAny_forIn_list _
    (fun rest b s' => s' = s ∧ b = (none, ()) ∧ ∃ i, rest = (List.range' i (es.size - i)).filter (fun i => (es[i]?.map (·.hash)) == some (k.hash w)) ∧ i ≤ es.size ∧
      ∀ j : Nat, j < i → ks[j]? ≠ some k) _ ?_ ?_ _ _
    ⟨rfl, rfl, 0, by rw [placesWithHash, List.range_eq_range', Nat.sub_zero], Nat.zero_le _, fun _ h => absurd h (Nat.not_lt_zero _)⟩
  · rintro x rest b s' ⟨rfl, rfl, i, hr, hi, hno⟩
    obtain ⟨hix, hxn, hpx, hskip, hrest⟩ := filter_range'_cons _ _ _ _ _ hr.symm
    have hlt : x < es.size := by omega
    have hrest' : rest = (List.range' (x + 1) (es.size - (x + 1))).filter (fun i => (es[i]?.map (·.hash)) == some (k.hash w)) := by rw [hrest]; congr 2; omega
    obtain ⟨k', hk1, hk2⟩ := X.get (Array.getElem?_eq_getElem hlt)
    have hnox : ∀ j : Nat, j < x → ks[j]? ≠ some k := by
      intro j hjx hj
      rcases Nat.lt_or_ge j i with h | h
      · exact hno j h hj
      · have := hskip j h hjx
        rw [haskey j hj] at this
        exact absurd this (by decide)
    have hstay : ¬ k' = k → ∀ j : Nat, j < x + 1 → ks[j]? ≠ some k := by
      intro hne j hjx hj
      rcases Nat.lt_or_ge j x with h | h
      · exact hnox j h hj
      · have hjx' : j = x := by omega
        subst hjx'
        rw [hk1] at hj
        exact hne (Option.some.inj hj)
    rw [Array.getElem?_eq_getElem hlt]
    dsimp only
    by_cases hh : (es[x].hash == k.hash w) = true
    · rw [if_pos hh]
      refine wpAny_bind (wpAny_dictEpoch ho hd (wpAny_bind (eqb hk2 (wpAny_bind (wpAny_dictEpoch ho hd ?_)))))
      show wpAny _ _ (if (ep != ep) = true then _ else _) _ E _
      rw [if_neg (by simp)]
      by_cases hkk : k' = k
      · rw [decide_eq_true hkk]
        subst hkk
        first | rw [if_pos rfl] | skip
        first
          | exact wpAny_bind (wpAny_rule (wpAny_pure (wpAny_pure (hsome x hk1))))
          | exact wpAny_bind (wpAny_rule (wpAny_bind (wpAny_pure (wpAny_pure (hsome x hk1)))))
      · rw [decide_eq_false hkk]
        simp only [Bool.false_eq_true, if_false]
        first
          | exact wpAny_bind (wpAny_rule (wpAny_pure ⟨rfl, rfl, x + 1, hrest', hlt, hstay hkk⟩))
          | exact wpAny_bind (wpAny_rule (wpAny_bind (wpAny_pure (wpAny_pure ⟨rfl, rfl, x + 1, hrest', hlt, hstay hkk⟩))))
    · rw [if_neg hh]
      refine wpAny_pure ⟨rfl, rfl, x + 1, hrest', hlt, hstay ?_⟩
      intro hkk
      rw [hk2.hs, hkk] at hh; simp at hh
  · rintro b s' ⟨rfl, rfl, i, hr, hi, hno⟩
    refine wpAny_pure (hnone fun j hj => ?_)
    rcases Nat.lt_or_ge j i with h | h
    · exact hno j h hj
    · have hl : j < es.size := by rw [← X.len]; exact (List.getElem?_eq_some_iff.mp hj).1
      have := List.filter_eq_nil_iff.mp hr.symm j (List.mem_range'_1.mpr ⟨h, by omega⟩)
      exact absurd (haskey j hj) this

theorem dictFind_any {d : Addr} {o : Obj} {es : Array DictEntry} {ep : Nat} {ks : List NestedKey} {k : NestedKey} {key : Value} {Q : Option Nat → Shared → Prop} (hu : A.units + 8 < cLine) (hk : NestedIs s.heap k key) (hkd : k.depth ≤ 8)
    (ho : s.heap.get? d = some o) (hd : o.data = .dict es ep) (X : EKs w s.heap ks es) (hnone : (∀ j : Nat, ks[j]? ≠ some k) → Q none s) (hsome : ∀ j : Nat, ks[j]? = some k → Q (some j) s) :
    wpAny (model prog w) A (dictFind d key (k.hash w)) Q E s := by
  have eqb : ∀ {k' : NestedKey} {e : DictEntry} {Q' : Bool → Shared → Prop}, EK w s.heap k' e → Q' (decide (k' = k)) s → wpAny (model prog w) A (eqBool e.key key) Q' E s := fun {k' e Q'} x h =>
    eqAt_key _ _ _ _ _ _ x.is hk (by have := x.dp; omega) _ _ _ _ (by rw [← NestedKey.decide_eq]; exact h)
  have haskey : ∀ j : Nat, ks[j]? = some k → ((es[j]?.map (·.hash)) == some (k.hash w)) = true := by
    intro j hj
    have hl : j < es.size := by rw [← X.len]; exact (List.getElem?_eq_some_iff.mp hj).1
    have q := X.at_ j k _ hj (Array.getElem?_eq_getElem hl)
    rw [Array.getElem?_eq_getElem hl, Option.map_some, q.hs]
    simp
  have hany : ∀ a, key = .ref a → ¬ (es.any fun e => e.key == Value.ref a && e.hash != k.hash w) = true := by
    rintro a rfl
    rw [← Array.any_toList, List.any_eq_true]
    rintro ⟨e, hin, hc⟩
    obtain ⟨j, hj⟩ := List.mem_iff_getElem?.mp hin
    rw [Array.getElem?_toList] at hj
    obtain ⟨k', _, q⟩ := X.get hj
    simp only [Bool.and_eq_true, beq_iff_eq, bne_iff_ne, ne_eq] at hc
    have q2 := q.is
    rw [hc.1] at q2
    exact hc.2 (by rw [q.hs, NestedIs.inj _ _ _ q2 hk])
  have hst : ∀ v ∈ (placesWithHash es.size (fun i => es[i]?.map (·.hash)) (k.hash w)).filterMap (fun i => es[i]?.map (·.key)), ∃ k' : NestedKey, NestedIs s.heap k' v ∧ k'.depth ≤ 8 := by
    intro v hv
    obtain ⟨i, _, hi⟩ := List.mem_filterMap.mp hv
    cases hei : es[i]? with
    | none => rw [hei] at hi; cases hi
    | some e =>
      rw [hei] at hi
      obtain rfl : e.key = v := by simpa using hi
      obtain ⟨k', _, q⟩ := X.get hei
      exact ⟨k', q.is, q.dp⟩
  by_cases hstr : ∃ x t, key = Value.str x t ∧ (es.all fun e => isExactStrKey e.key) = true
  · obtain ⟨x, t, rfl, hall⟩ := hstr
    obtain rfl : k = .text x := by cases hk; rfl
    refine PyProof.Rows.KTD.kt_dictFind_strs ho hd hall ?_
    cases hf : es.findIdx? (fun e => e.key.isStr x) with
    | none =>
      refine hnone fun j hj => ?_
      have hl : j < es.size := by rw [← X.len]; exact (List.getElem?_eq_some_iff.mp hj).1
      have q := X.at_ j _ _ hj (Array.getElem?_eq_getElem hl)
      have z := Array.findIdx?_eq_none_iff.mp hf _ (Array.getElem_mem hl)
      have q2 := q.is
      cases hke : es[j].key <;> rw [hke] at q2 <;> cases q2
      rw [hke] at z
      simp [Value.isStr] at z
    | some i =>
      obtain ⟨hlt, hi, _⟩ := Array.findIdx?_eq_some_iff_getElem.mp hf
      obtain ⟨t', hke⟩ := PyProof.Rows.KTD.kt_isStr hi
      obtain ⟨k', h1, h2⟩ := X.get (Array.getElem?_eq_getElem hlt)
      have q2 := h2.is
      rw [hke] at q2
      cases q2
      exact hsome i h1
  · unfold dictFind
    try with_reducible refine wpAny_holding ?_
    refine wpAny_bind (wpAny_dictEntries ho hd ?_)
    dsimp only
    have hns : ∀ x t, key = Value.str x t → ¬ (es.all fun e => isExactStrKey e.key) = true := fun x t e h => hstr ⟨x, t, e, h⟩
    by_cases hcv : ((key :: (placesWithHash es.size (fun i => es[i]?.map (·.hash)) (k.hash w)).filterMap (fun i => es[i]?.map (·.key))).all carriedByValue) = true
    · cases key <;> dsimp only <;> (try rw [if_neg (hns _ _ rfl)]) <;> first
        | (rw [if_pos hcv]; exact walkPlain_any hu hk hkd ho hd X hnone hsome)
        | (cases hk; done)
        | (exfalso; simp [carriedByValue] at hcv; done)
    by_cases hone : (((placesWithHash es.size (fun i => es[i]?.map (·.hash)) (k.hash w)).filterMap (fun i => es[i]?.map (·.key))) == [key]) = true <;>
    cases key <;> dsimp only <;> (try rw [if_neg (hns _ _ rfl)]) <;> (try rw [if_neg hcv]) <;> (try rw [if_neg (hany _ rfl)]) <;> (try (cases hk; done)) <;> (first | rw [if_pos hone] | rw [if_neg hone])
    all_goals
      (first | refine wpAny_bind (wpAny_pure ?_) | refine wpAny_bind (tell_quiet hk hkd hst ?_)) <;> (
      rw [if_neg (by rw [Bool.false_and]; exact Bool.false_ne_true)]
      refine wpAny_bind ?_
      refine wpAny_forIn_list _
        (fun rest b s' => s' = s ∧ ∃ i hit, b = (none, hit) ∧ rest = (List.range' i (es.size - i)).filter (fun i => (es[i]?.map (·.hash)) == some (k.hash w)) ∧ i ≤ es.size ∧
          ((hit = none ∧ ∀ j : Nat, j < i → ks[j]? ≠ some k) ∨ ∃ j : Nat, hit = some j ∧ j < i ∧ ks[j]? = some k)) _ ?_ ?_ _ _
        ⟨rfl, 0, none, rfl, by rw [placesWithHash, List.range_eq_range', Nat.sub_zero], Nat.zero_le _, .inl ⟨rfl, fun _ h => absurd h (Nat.not_lt_zero _)⟩⟩
      · rintro x rest b s' ⟨rfl, i, hit, rfl, hr, hi, hH⟩
        obtain ⟨hix, hxn, hpx, hskip, hrest⟩ := filter_range'_cons _ _ _ _ _ hr.symm
        have hlt : x < es.size := by omega
        have hrest' : rest = (List.range' (x + 1) (es.size - (x + 1))).filter (fun i => (es[i]?.map (·.hash)) == some (k.hash w)) := by rw [hrest]; congr 2; omega
        obtain ⟨k', hk1, hk2⟩ := X.get (Array.getElem?_eq_getElem hlt)
        have hHx : (hit = none ∧ ∀ j : Nat, j < x → ks[j]? ≠ some k) ∨ ∃ j : Nat, hit = some j ∧ j < x ∧ ks[j]? = some k := by
          rcases hH with ⟨h0, hno⟩ | ⟨j, h1, hji, hj⟩
          · refine .inl ⟨h0, fun j hjx hj => ?_⟩
            rcases Nat.lt_or_ge j i with h | h
            · exact hno j h hj
            · have := hskip j h hjx
              rw [haskey j hj] at this
              exact absurd this (by decide)
          · exact .inr ⟨j, h1, by omega, hj⟩
        have hstay : ¬ k' = k → ((hit = none ∧ ∀ j : Nat, j < x + 1 → ks[j]? ≠ some k) ∨ ∃ j : Nat, hit = some j ∧ j < x + 1 ∧ ks[j]? = some k) := by
          intro hne
          rcases hHx with ⟨h0, hno⟩ | ⟨j, h1, hjx, hj⟩
          · refine .inl ⟨h0, fun j hjx hj => ?_⟩
            rcases Nat.lt_or_ge j x with h | h
            · exact hno j h hj
            · have hjx' : j = x := by omega
              subst hjx'
              rw [hk1] at hj
              exact hne (Option.some.inj hj)
          · exact .inr ⟨j, h1, by omega, hj⟩
        rw [Array.getElem?_eq_getElem hlt]
        dsimp only
        by_cases hh : (es[x].hash == k.hash w) = true
        · rw [if_pos hh]
          refine wpAny_bind (wpAny_dictEpoch ho hd (wpAny_bind (eqb hk2 (wpAny_bind (wpAny_dictEpoch ho hd ?_)))))
          show wpAny _ _ (if (ep != ep) = true then _ else _) _ E _
          rw [if_neg (by rw [bne_self_eq_false]; exact Bool.false_ne_true)]
          by_cases hkk : k' = k
          · rw [decide_eq_true hkk]
            subst hkk
            rcases hHx with ⟨rfl, _⟩ | ⟨j, _, hjx, hj⟩
            · first | rw [if_pos rfl] | skip
              simp only [Option.isSome_none, Bool.false_eq_true, if_false]
              first | refine wpAny_bind (wpAny_pure ?_) | skip
              refine wpAny_bind (wpAny_rule ?_)
              by_cases hl2 : ((placesWithHash es.size (fun i => es[i]?.map (·.hash)) (k'.hash w)).filterMap (fun i => es[i]?.map (·.key))).length < 2
              · rw [if_pos hl2]; exact wpAny_pure (wpAny_pure (hsome x hk1))
              · rw [if_neg hl2]; exact wpAny_pure ⟨rfl, x + 1, some x, rfl, hrest', hlt, .inr ⟨x, rfl, Nat.lt_succ_self x, hk1⟩⟩
            · exact absurd (X.uniq hj hk1) (by omega)
          · rw [decide_eq_false hkk]
            simp only [Bool.false_eq_true, if_false]
            refine wpAny_bind (wpAny_rule ?_)
            rw [if_neg (by rw [Bool.false_and]; exact Bool.false_ne_true)]
            first
              | exact wpAny_pure ⟨rfl, x + 1, hit, rfl, hrest', hlt, hstay hkk⟩
              | exact wpAny_bind (wpAny_pure (wpAny_pure ⟨rfl, x + 1, hit, rfl, hrest', hlt, hstay hkk⟩))
        · rw [if_neg hh]
          refine wpAny_pure ⟨rfl, x + 1, hit, rfl, hrest', hlt, hstay ?_⟩
          intro hkk
          rw [hk2.hs, hkk] at hh; exact hh (beq_self_eq_true _)
      · rintro b s' ⟨rfl, i, hit, rfl, hr, hi, hH⟩
        rcases hH with ⟨rfl, hno⟩ | ⟨j, rfl, _, hj⟩
        · refine wpAny_pure (hnone fun j hj => ?_)
          rcases Nat.lt_or_ge j i with h | h
          · exact hno j h hj
          · have hl : j < es.size := by rw [← X.len]; exact (List.getElem?_eq_some_iff.mp hj).1
            have := List.filter_eq_nil_iff.mp hr.symm j (List.mem_range'_1.mpr ⟨h, by omega⟩)
            exact absurd (haskey j hj) this
        · exact wpAny_pure (hsome j hj))
end
end Rx
end

section
set_option maxHeartbeats 4000000
/-! Rx: dicts by keys of any kind: read, stored, asked. -/
namespace Rx
open PySem
section
variable {prog : Program} {w : World} {A : Around} {E : Value → Shared → Prop} {s : Shared} {d : Addr} {o : Obj} {es : Array DictEntry} {ep : Nat} {ks : List NestedKey} {k : NestedKey} {key : Value}
theorem dictGet_any {Q : Option Value → Shared → Prop} (hu : A.units + 8 < cLine) (hk : NestedIs s.heap k key) (hkd : k.depth ≤ 8) (ho : s.heap.get? d = some o) (hd : o.data = .dict es ep) (X : EKs w s.heap ks es)
    (hnone : (∀ j : Nat, ks[j]? ≠ some k) → ∀ t, Q none { s with toks := t }) (hsome : ∀ (j : Nat) e, ks[j]? = some k → es[j]? = some e → ∀ t, Q (some e.val) { s with toks := t }) : wpAny (model prog w) A (dictGet d key) Q E s := by
  unfold dictGet
  try with_reducible refine wpAny_holding ?_
  refine wpAny_bind (pyHash_key k key A s _ hk (by omega) (wpAny_bind (dictFind_any (s := { s with toks := s.toks + k.draws }) hu hk hkd ho hd X (fun hno => wpAny_pure (hnone hno _)) fun j hj => ?_)))
  have hl : j < es.size := by rw [← X.len]; exact (List.getElem?_eq_some_iff.mp hj).1
  refine wpAny_bind (wpAny_dictEntries (s := { s with toks := s.toks + k.draws }) ho hd ?_)
  rw [Array.getElem?_eq_getElem hl]
  exact wpAny_pure (hsome j _ hj (Array.getElem?_eq_getElem hl) _)
theorem dictSet_any {v : Value} {Q : Unit → Shared → Prop} (hu : A.units + 8 < cLine) (hk : NestedIs s.heap k key) (hkd : k.depth ≤ 8) (ho : s.heap.get? d = some o) (hx : o.ExactDict) (hd : o.data = .dict es ep) (X : EKs w s.heap ks es)
    (hsz : es.size ≤ sizeLine)
    (hnew : (∀ j : Nat, ks[j]? ≠ some k) → ∀ h' t o' ep', h'.get? d = some o' → o'.ExactDict → o'.data = .dict (es.push ⟨k.hash w, key, v⟩) ep' → Heap.SameBut d s.heap h' → Q () { s with heap := h', toks := t })
    (hold : ∀ j : Nat, ks[j]? = some k → ∀ h' t o' ep', h'.get? d = some o' → o'.ExactDict → o'.data = .dict (es.modify j fun e => { e with val := v }) ep' → Heap.SameBut d s.heap h' → Q () { s with heap := h', toks := t }) :
    wpAny (model prog w) A (dictSet d key v) Q E s := by
  unfold dictSet
  try with_reducible refine wpAny_holding ?_
  refine wpAny_bind (pyHash_key k key A s _ hk (by omega) ?_)
  unfold dictSetHashed
  try with_reducible refine wpAny_holding ?_
  refine wpAny_bind (dictFind_any (s := { s with toks := s.toks + k.draws }) hu hk hkd ho hd X (fun hno => ?_) fun j hj => ?_)
  · exact wpAny_bind (wpAny_rule (wpAny_updateDictKeys (hz := hsz) (s := { s with toks := s.toks + k.draws }) ho hd
      (hnew hno _ _ _ _ (Heap.get?_update_self _ ho (Obj.isFreed_of_dict (Obj.data_mapDictKeys hd _))) (hx.mapDictKeys _) (Obj.data_mapDictKeys hd _) (Heap.SameBut.update ..))))
  · exact wpAny_bind (wpAny_rule (wpAny_bind (wpAny_updateDict (s := { s with toks := s.toks + k.draws }) ho hd (wpAny_point
      (hold j hj _ _ _ _ (Heap.get?_update_self _ ho (Obj.isFreed_of_dict (Obj.data_mapDict hd _))) (hx.mapDict _) (Obj.data_mapDict hd _) (Heap.SameBut.update ..))))))
theorem dictSetDefault_any {v : Value} {Q : Value → Shared → Prop} (hu : A.units + 8 < cLine) (hk : NestedIs s.heap k key) (hkd : k.depth ≤ 8) (ho : s.heap.get? d = some o) (hx : o.ExactDict) (hd : o.data = .dict es ep) (X : EKs w s.heap ks es)
    (hsz : es.size ≤ sizeLine)
    (hnew : (∀ j : Nat, ks[j]? ≠ some k) → ∀ h' t o' ep', h'.get? d = some o' → o'.ExactDict → o'.data = .dict (es.push ⟨k.hash w, key, v⟩) ep' → Heap.SameBut d s.heap h' → Q v { s with heap := h', toks := t })
    (hold : ∀ (j : Nat) e, ks[j]? = some k → es[j]? = some e → ∀ t, Q e.val { s with toks := t }) :
    wpAny (model prog w) A (dictSetDefault d key v) Q E s := by
  unfold dictSetDefault
  try with_reducible refine wpAny_holding ?_
  refine wpAny_bind (pyHash_key k key A s _ hk (by omega) ?_)
  refine wpAny_bind (dictFind_any (s := { s with toks := s.toks + k.draws }) hu hk hkd ho hd X (fun hno => ?_) fun j hj => ?_)
  · exact wpAny_bind (wpAny_rule (wpAny_bind (wpAny_updateDictKeys (hz := hsz) (s := { s with toks := s.toks + k.draws }) ho hd
      (wpAny_pure (hnew hno _ _ _ _ (Heap.get?_update_self _ ho (Obj.isFreed_of_dict (Obj.data_mapDictKeys hd _))) (hx.mapDictKeys _) (Obj.data_mapDictKeys hd _) (Heap.SameBut.update ..))))))
  · have hl : j < es.size := by rw [← X.len]; exact (List.getElem?_eq_some_iff.mp hj).1
    refine wpAny_bind (wpAny_dictEntries (s := { s with toks := s.toks + k.draws }) ho hd ?_)
    rw [Array.getElem?_eq_getElem hl]
    exact wpAny_bind (wpAny_rule (wpAny_pure (hold j _ hj (Array.getElem?_eq_getElem hl) _)))
theorem ty_dict (ho : s.heap.get? d = some o) (hx : o.ExactDict) : s.TypeIs (.ref d) "dict" := ⟨o, ho, hx.1⟩
theorem contains_any {Q : Bool → Shared → Prop} (hu : A.units + 9 < cLine) (hk : NestedIs s.heap k key) (hkd : k.depth ≤ 8) (hS : (d == sysModules) = false) (ho : s.heap.get? d = some o) (hx : o.ExactDict) (hd : o.data = .dict es ep) (X : EKs w s.heap ks es)
    (h : ∀ t, Q (decide (k ∈ ks)) { s with toks := t }) : wpAny (model prog w) A (contains (.ref d) key) Q E s := by
  have hT := ty_dict ho hx
  unfold contains
  try with_reducible refine wpAny_holding ?_
  refine wpAny_bind (wpAny_specialOf hT slot_dict_contains.lookup ?_)
  show wpAny _ _ (if (some (Value.builtin "dict.__contains__") == some Value.none) = true then _ else _) _ E s
  rw [if_neg (by rw [beq_builtin_none]; exact Bool.false_ne_true)]
  refine wpAny_bind (wpAny_callSpecialUnlessNone?_slot (name := Str.ofString "__contains__") hT slot_dict_contains
    (wpAny_call_entry slot_dict_contains hT entry_dict_contains ?_ (args_dict_contains _ _)))
  show wpAny _ _ (dictGet d key >>= _) _ _ s
  refine wpAny_bind (dictGet_any (by rw [Around.in1_units]; omega) hk hkd ho hd X (fun hno t => ?_) fun j e hj he t => ?_)
  · have hm : decide (k ∈ ks) = false := decide_eq_false fun hm => by
      obtain ⟨j, hj⟩ := List.mem_iff_getElem?.mp hm
      exact hno j hj
    have h' := h t
    rw [hm] at h'
    show wpAny _ _ (Builtin.Dict.pendingKey? d key >>= _) _ _ _
    exact wpAny_bind (wpAny_pendingKey_other hS (wpAny_pure ⟨_, rfl, wpAny_truthy_bool h'⟩))
  · have hm : decide (k ∈ ks) = true := decide_eq_true (List.mem_of_getElem? hj)
    have h' := h t
    rw [hm] at h'
    show wpAny _ _ (ret (.bool true)) _ _ _
    exact wpAny_pure ⟨_, rfl, wpAny_truthy_bool h'⟩
theorem in_any {Q : Value → Shared → Prop} (hu : A.units + 9 < cLine) (hk : NestedIs s.heap k key) (hkd : k.depth ≤ 8) (hS : (d == sysModules) = false) (ho : s.heap.get? d = some o) (hx : o.ExactDict) (hd : o.data = .dict es ep) (X : EKs w s.heap ks es)
    (h : ∀ t, Q (.bool (decide (k ∈ ks))) { s with toks := t }) : wpAny (model prog w) A (compareOp .In key (.ref d)) Q E s := by
  show wpAny _ _ (do return .bool (← contains (.ref d) key)) Q E s
  exact wpAny_bind (contains_any hu hk hkd hS ho hx hd X fun t => wpAny_pure (h t))
theorem notIn_any {Q : Value → Shared → Prop} (hu : A.units + 9 < cLine) (hk : NestedIs s.heap k key) (hkd : k.depth ≤ 8) (hS : (d == sysModules) = false) (ho : s.heap.get? d = some o) (hx : o.ExactDict) (hd : o.data = .dict es ep) (X : EKs w s.heap ks es)
    (h : ∀ t, Q (.bool (!decide (k ∈ ks))) { s with toks := t }) : wpAny (model prog w) A (compareOp .NotIn key (.ref d)) Q E s := by
  show wpAny _ _ (do return .bool (!(← contains (.ref d) key))) Q E s
  exact wpAny_bind (contains_any hu hk hkd hS ho hx hd X fun t => wpAny_pure (h t))
theorem getItem_any {Q : Value → Shared → Prop} (hu : A.units + 9 < cLine) (hk : NestedIs s.heap k key) (hkd : k.depth ≤ 8) (ho : s.heap.get? d = some o) (hx : o.ExactDict) (hd : o.data = .dict es ep) (X : EKs w s.heap ks es)
    {j : Nat} {e : DictEntry} (hj : ks[j]? = some k) (he : es[j]? = some e) (h : ∀ t, Q e.val { s with toks := t }) : wpAny (model prog w) A (getItem (.ref d) key) Q E s := by
  have hT := ty_dict ho hx
  unfold getItem
  try with_reducible refine wpAny_holding ?_
  refine wpAny_bind (wpAny_sequenceKey hT (by decide) ?_)
  refine wpAny_bind (wpAny_callSpecial?_slot (name := Str.ofString "__getitem__") hT slot_dict_getitem
    (wpAny_call_entry slot_dict_getitem hT entry_dict_getitem ?_ (args_dict_getitem _ _)))
  show wpAny _ _ (dictGet d key >>= _) _ _ s
  refine wpAny_bind (dictGet_any (by rw [Around.in1_units]; omega) hk hkd ho hd X (fun hno t => absurd hj (hno j)) fun i e' hi he' t => ?_)
  have := X.uniq hi hj
  subst this
  rw [he] at he'
  cases he'
  exact wpAny_pure ⟨e.val, rfl, wpAny_pure (h t)⟩
theorem setItem_any {v : Value} {Q : Unit → Shared → Prop} (hu : A.units + 9 < cLine) (hk : NestedIs s.heap k key) (hkd : k.depth ≤ 8) (ho : s.heap.get? d = some o) (hx : o.ExactDict) (hd : o.data = .dict es ep) (X : EKs w s.heap ks es)
    (hsz : es.size ≤ sizeLine)
    (hnew : (∀ j : Nat, ks[j]? ≠ some k) → ∀ h' t o' ep', h'.get? d = some o' → o'.ExactDict → o'.data = .dict (es.push ⟨k.hash w, key, v⟩) ep' → Heap.SameBut d s.heap h' → Q () { s with heap := h', toks := t })
    (hold : ∀ j : Nat, ks[j]? = some k → ∀ h' t o' ep', h'.get? d = some o' → o'.ExactDict → o'.data = .dict (es.modify j fun e => { e with val := v }) ep' → Heap.SameBut d s.heap h' → Q () { s with heap := h', toks := t }) :
    wpAny (model prog w) A (setItem (.ref d) key v) Q E s := by
  have hT := ty_dict ho hx
  unfold setItem
  try with_reducible refine wpAny_holding ?_
  refine wpAny_bind (wpAny_sequenceKey hT (by decide) ?_)
  refine wpAny_bind (wpAny_callSpecial?_slot (name := Str.ofString "__setitem__") hT slot_dict_setitem
    (wpAny_call_entry slot_dict_setitem hT entry_dict_setitem ?_ (args_dict_setitem _ _ _)))
  show wpAny _ _ (Builtin.Dict.notOrdered "__setitem__" ⟨[.ref d, key, v], []⟩ >>= _) _ _ s
  refine wpAny_bind (wpAny_notOrdered_dict hT ?_)
  show wpAny _ _ (dictSet d key v >>= _) _ _ s
  exact wpAny_bind (dictSet_any (by rw [Around.in1_units]; omega) hk hkd ho hx hd X hsz (fun hno h' t o' ep' a b c e => wpAny_pure ⟨.none, rfl, wpAny_pure (hnew hno h' t o' ep' a b c e)⟩)
    fun j hj h' t o' ep' a b c e => wpAny_pure ⟨.none, rfl, wpAny_pure (hold j hj h' t o' ep' a b c e)⟩)
end
end Rx
end

section
set_option maxHeartbeats 4000000
/-! Rx: dicts over the layer; in, items, slices, truth. -/
namespace Rx
open PySem L2
/-! ### keys as trees -/
def allK (kvs : List (PV × PV)) : Prop := ∀ q ∈ kvs, ∃ k, keyOf q.1 = some k
theorem keyEq_kk {p q : PV} {a b : NestedKey} (h1 : keyOf p = some a) (h2 : keyOf q = some b) : keyEq p q = decide (a = b) := by unfold keyEq; rw [h1, h2]
theorem dGet_some {k : PV} {a : NestedKey} (hk : keyOf k = some a) : ∀ {kvs : List (PV × PV)} {v : PV}, allK kvs → dGet kvs k = some v → ∃ (j : Nat) (p : PV), kvs[j]? = some (p, v) ∧ (kvs.map fun q => kk q.1)[j]? = some a
  | [], v, _, h => by simp [dGet] at h
  | (p, u) :: r, v, al, h => by
    obtain ⟨b, hb⟩ := al (p, u) List.mem_cons_self
    unfold dGet at h
    rw [keyEq_kk hb hk] at h
    by_cases e : b = a
    · subst e
      rw [decide_eq_true rfl, if_pos rfl] at h
      cases h
      exact ⟨0, p, rfl, by simp [kk, hb]⟩
    · rw [decide_eq_false e, if_neg Bool.false_ne_true] at h
      obtain ⟨j, p', h1, h2⟩ := dGet_some hk (fun q hq => al q (List.mem_cons_of_mem _ hq)) h
      exact ⟨j + 1, p', by simpa using h1, by simpa using h2⟩
theorem dGet_none {k : PV} {a : NestedKey} (hk : keyOf k = some a) : ∀ {kvs : List (PV × PV)}, allK kvs → dGet kvs k = none → a ∉ (kvs.map fun q => kk q.1)
  | [], _, h => by simp
  | (p, u) :: r, al, h => by
    obtain ⟨b, hb⟩ := al (p, u) List.mem_cons_self
    unfold dGet at h
    rw [keyEq_kk hb hk] at h
    by_cases e : b = a
    · rw [decide_eq_true e, if_pos rfl] at h; cases h
    · rw [decide_eq_false e, if_neg Bool.false_ne_true] at h
      have q := dGet_none hk (fun q hq => al q (List.mem_cons_of_mem _ hq)) h
      rw [List.map_cons, List.mem_cons, not_or]
      exact ⟨fun z => e (by simpa [kk, hb] using z.symm), q⟩
theorem dPut_new {k v : PV} {a : NestedKey} (hk : keyOf k = some a) : ∀ {kvs : List (PV × PV)}, allK kvs → a ∉ (kvs.map fun q => kk q.1) → dPut kvs k v = kvs ++ [(k, v)]
  | [], _, _ => rfl
  | (p, u) :: r, al, h => by
    obtain ⟨b, hb⟩ := al (p, u) List.mem_cons_self
    rw [List.map_cons, List.mem_cons, not_or] at h
    unfold dPut
    have e : ¬ b = a := fun z => h.1 (by simp [kk, hb, z])
    rw [keyEq_kk hb hk, decide_eq_false e, if_neg Bool.false_ne_true, dPut_new hk (fun q hq => al q (List.mem_cons_of_mem _ hq)) h.2]
    rfl
theorem dPut_old {k v : PV} {a : NestedKey} (hk : keyOf k = some a) : ∀ {kvs : List (PV × PV)} {j : Nat}, allK kvs → (kvs.map fun q => kk q.1).Nodup → (kvs.map fun q => kk q.1)[j]? = some a → dPut kvs k v = kvs.modify j fun q => (q.1, v)
  | [], j, _, _, h => by simp at h
  | (p, u) :: r, j, al, nd, h => by
    obtain ⟨b, hb⟩ := al (p, u) List.mem_cons_self
    unfold dPut
    rw [keyEq_kk hb hk]
    rw [List.map_cons, List.nodup_cons] at nd
    cases j with
    | zero =>
      simp [kk, hb] at h
      rw [decide_eq_true h, if_pos rfl]
      rfl
    | succ j =>
      rw [List.map_cons, List.getElem?_cons_succ] at h
      have e : ¬ b = a := fun z => nd.1 (by
        have := List.mem_of_getElem? h
        simpa [kk, hb, z] using this)
      rw [decide_eq_false e, if_neg Bool.false_ne_true, dPut_old hk (fun q hq => al q (List.mem_cons_of_mem _ hq)) nd.2 h]
      rfl
theorem dGet_isSome {k : PV} {a : NestedKey} (hk : keyOf k = some a) {kvs : List (PV × PV)} (al : allK kvs) : (dGet kvs k).isSome = decide (a ∈ kvs.map fun q => kk q.1) := by
  cases e : dGet kvs k with
  | none => rw [decide_eq_false (dGet_none hk al e)]; rfl
  | some v =>
    obtain ⟨j, p, _, h2⟩ := dGet_some hk al e
    rw [decide_eq_true (List.mem_of_getElem? h2)]; rfl

section
variable {X : Cx} {ca : String → Addr} {pins : List (Addr × Obj)} {σ : L2.St} {H : Hp} {s : Shared} {M : MM}
mutual
theorem key_is (I : L2.Inv X pins σ H s) : ∀ (p : PV) {v : V} {u : Value} {k : NestedKey}, keyOf p = some k → Rep X.K H p v → RelV v u → NestedIs s.heap k u
  | .non, _, _, _, h, r, q => by cases h; cases r; cases q; exact .none
  | .int i, _, _, _, h, r, q => by cases h; cases r; obtain ⟨t, rfl⟩ := q; exact .int i t
  | .bl b, _, _, _, h, r, q => by cases h; cases r; cases q; exact .bool rfl
  | .str x, _, _, _, h, r, q => by cases h; cases r; obtain ⟨t, rfl⟩ := q; exact .text _ t
  | .tup ps, _, _, _, h, r, q => by
    unfold keyOf at h
    split at h
    · rename_i ks hks
      cases h
      cases r with
      | tup t rs =>
        cases q
        obtain ⟨its, rv, ⟨o, h1, h2, n, h3⟩, _⟩ := I.tuple t.sq
        exact .tup h1 h2 h3 (by simpa using keys_is I ps hks rs rv)
    · cases h
  | .ref _, _, _, _, h, _, _ => by simp [keyOf] at h
  | .kd _, _, _, _, h, _, _ => by simp [keyOf] at h
  | .xl _, _, _, _, h, _, _ => by simp [keyOf] at h
theorem keys_is (I : L2.Inv X pins σ H s) : ∀ (ps : List PV) {vs : List V} {us : List Value} {ks : List NestedKey}, keysOf ps = some ks → Reps X.K H ps vs → Vals vs us → NestedAll s.heap ks us
  | [], _, _, _, h, r, q => by cases h; cases r; cases q; exact .nil
  | p :: ps, _, _, _, h, r, q => by
    unfold keysOf at h
    split at h
    · rename_i k ks h1 h2
      cases h
      cases r with
      | cons a b =>
        cases q with
        | cons c d => exact .cons (key_is I p h1 a c) (keys_is I ps h2 b d)
    · cases h
end
theorem ERep.all {w : World} {K : PySem.W.Frag} {H : Hp} : ∀ {kvs : List (PV × PV)} {es : List DictEntry}, ERep w K H kvs es → allK kvs
  | _, _, .nil => fun q hq => absurd hq (by simp)
  | _, _, .cons h1 _ _ _ _ _ _ t => fun q hq => by
    rcases List.mem_cons.mp hq with e | e
    · subst e; exact ⟨_, h1⟩
    · exact t.all q e
theorem ERep.length {w : World} {K : PySem.W.Frag} {H : Hp} : ∀ {kvs : List (PV × PV)} {es : List DictEntry}, ERep w K H kvs es → kvs.length = es.length
  | _, _, .nil => rfl
  | _, _, .cons _ _ _ _ _ _ _ t => by simp [t.length]
theorem ERep.at_ {w : World} {K : PySem.W.Frag} {H : Hp} : ∀ {kvs : List (PV × PV)} {es : List DictEntry} {j : Nat} {p q : PV} {e : DictEntry}, ERep w K H kvs es → kvs[j]? = some (p, q) → es[j]? = some e →
    ∃ k v u, keyOf p = some k ∧ k.depth ≤ 8 ∧ e.hash = k.hash w ∧ Rep K H p v ∧ RelV v e.key ∧ Rep K H q u ∧ RelV u e.val
  | _, _, _, _, _, _, .nil, h, _ => by simp at h
  | _, _, 0, _, _, _, .cons h1 h2 h3 h4 h5 h6 h7 _, a, b => by
    simp at a b
    obtain ⟨rfl, rfl⟩ := a
    subst b
    exact ⟨_, _, _, h1, h2, h3, h4, h5, h6, h7⟩
  | _, _, j + 1, _, _, _, .cons _ _ _ _ _ _ _ t, a, b => t.at_ (j := j) (by simpa using a) (by simpa using b)
theorem ERep.push {w : World} {K : PySem.W.Frag} {H : Hp} {p q : PV} {k : NestedKey} {e : DictEntry} {v u : V} (h1 : keyOf p = some k) (h2 : k.depth ≤ 8) (h3 : e.hash = k.hash w) (h4 : Rep K H p v) (h5 : RelV v e.key) (h6 : Rep K H q u) (h7 : RelV u e.val) :
    ∀ {kvs : List (PV × PV)} {es : List DictEntry}, ERep w K H kvs es → ERep w K H (kvs ++ [(p, q)]) (es ++ [e])
  | _, _, .nil => .cons h1 h2 h3 h4 h5 h6 h7 .nil
  | _, _, .cons a b c d f g i t => .cons a b c d f g i (t.push h1 h2 h3 h4 h5 h6 h7)
theorem ERep.modify {w : World} {K : PySem.W.Frag} {H : Hp} {q : PV} {u : V} {uv : Value} (h6 : Rep K H q u) (h7 : RelV u uv) :
    ∀ {kvs : List (PV × PV)} {es : List DictEntry} (j : Nat), ERep w K H kvs es → ERep w K H (kvs.modify j fun z => (z.1, q)) (es.modify j fun e => { e with val := uv })
  | _, _, _, .nil => by simpa using .nil
  | _, _, 0, .cons a b c d f g i t => .cons a b c d f h6 h7 t
  | _, _, j + 1, .cons a b c d f g i t => .cons a b c d f g i (t.modify h6 h7 j)
theorem dct_obj (I : L2.Inv X pins σ H s) {a : Addr} {es : Array DictEntry} (h : H a = some (DctO a es)) : ∃ o ep, s.heap.get? a = some o ∧ o.ExactDict ∧ o.data = .dict es ep := (I.hok a _ h).1
theorem dct_keys (I : L2.Inv X pins σ H s) {kvs : List (PV × PV)} {es : Array DictEntry} (r : ERep X.w X.K H kvs es.toList) (nd : (kvs.map fun q => kk q.1).Nodup) : EKs X.w s.heap (kvs.map fun q => kk q.1) es := by
  refine ⟨by rw [List.length_map, r.length, Array.length_toList], fun j k e h1 h2 => ?_, nd⟩
  rw [List.getElem?_map] at h1
  cases hq : kvs[j]? with
  | none => rw [hq] at h1; cases h1
  | some q =>
    rw [hq] at h1
    obtain ⟨p, x⟩ := q
    obtain ⟨k', v, u, g1, g2, g3, g4, g5, _⟩ := r.at_ hq (by rw [Array.getElem?_toList]; exact h2)
    obtain rfl : k' = k := by simpa [kk, g1] using h1
    exact ⟨g3, key_is I p g1 g4 g5, g2⟩
theorem dctO_ok {P : Program} {w : World} {H : Hp} {h : Heap} {a : Addr} {es : Array DictEntry} {o : Obj} {ep : Nat} (h1 : h.get? a = some o) (h2 : o.ExactDict) (h3 : o.data = .dict es ep) : ObjOk P w H h a (DctO a es) :=
  ⟨⟨o, ep, h1, h2, h3⟩, ⟨o, h1⟩, fun h1 h2 ⟨o, ep, e, x, d⟩ k => ⟨o, ep, k o e, x, d⟩⟩
/-- a dict told -/
theorem HRep.dct {w : World} {K : PySem.W.Frag} (h : HRep w ca K M H) {a : Addr} {kvs : List (PV × PV)} (e : M a = some (.dct kvs)) :
    ∃ es : Array DictEntry, H a = some (DctO a es) ∧ ERep w K H kvs es.toList ∧ (kvs.map fun q => kk q.1).Nodup ∧ kvs.length ≤ sizeLine ∧ (a == sysModules) = false := h a _ e
theorem keyOk_iff {p : PV} (h : keyOk p = true) : ∃ k, keyOf p = some k ∧ k.depth ≤ 8 := by
  unfold keyOk at h
  split at h
  · exact ⟨_, by assumption, of_decide_eq_true h⟩
  · cases h
theorem Hands.val {G : Gw} {Qa : KV1} {Q : VK} (h : Hands G H Qa Q) (hM : HRep G.w G.ca G.K M H) {p : PV} {v : V} (r : Rep G.K H p v) (q : Qa p M) : Q v H := h _ _ _ _ hM r (.refl H) q

/-! ### in -/
theorem inSeq {neg : Bool} {x : PV} {ps : List PV} {v : V} {a : Addr} {vs : List V} {Q : Bool → Prop} (rx : Rep X.K H x v) (rs : Reps X.K H ps vs) {b : Bool} (hb : sMem x ps = some b) :
    flatV v = true ∧ vs.all flatV = true ∧ inV v vs = b := sMem_v rx rs hb
theorem so_mem (c : Char) (z : String) : decide (c.toNat ∈ (so z).cps.toList) = z.toList.contains c := by
  have e : (so z).cps.toList = z.toList.map Char.toNat := tl_so z
  rw [e, Bool.eq_iff_iff]
  simp only [decide_eq_true_eq, List.mem_map, List.contains_eq_mem]
  exact ⟨fun ⟨d, h1, h2⟩ => nat_inj h2 ▸ h1, fun h => ⟨c, h, rfl⟩⟩
theorem in_snd (hu : X.A.units + 65 < cLine) : OpR X (compareOp .In) (lift2 (gOf X ca) fun p q M Q => inA p q M fun r => Q (.bl r) M) := by
  intro pins s σ H x y v u Q I rx ry ⟨p, q, M, Qa, hM, rp, rq, hr, hk⟩
  dsimp only at hr
  unfold inA at hr
  split at hr
  · cases rq with
    | @tup a vs _ t rs =>
      split at hr
      · rename_i b hb
        obtain ⟨f1, f2, f3⟩ := sMem_v rp rs hb
        exact op_in_seq pins s σ H _ _ v u Q I rx ry ⟨a, vs, rfl, .inr t.sq, f1, f2, by rw [if_neg Bool.false_ne_true, f3]; exact hk.bl hM hr⟩
      · exact hr.elim
  · cases rq
    split at hr
    · rename_i ps e1
      obtain ⟨vs, h1, rs⟩ := hM.lst e1
      split at hr
      · rename_i b hb
        obtain ⟨f1, f2, f3⟩ := sMem_v rp rs hb
        exact op_in_seq pins s σ H _ _ v u Q I rx ry ⟨_, vs, rfl, .inl (SqL.of h1), f1, f2, by rw [if_neg Bool.false_ne_true, f3]; exact hk.bl hM hr⟩
      · obtain ⟨d, ds, h2, h3, h4, h5, h6⟩ := hr
        exact op_inD hu pins s σ H _ _ v u Q I rx ry ⟨d, ds, deep_dp hM h2 rp, .lst (SqL.of h1) (deep_dpA hM h3 rs), h4, h5, hk.bl hM h6⟩
    · rename_i kvs e1
      obtain ⟨es, h1, h2, h3, h4, h5⟩ := hM.dct e1
      obtain ⟨o, ep, g1, g2, g3⟩ := dct_obj I h1
      obtain ⟨k, hk1, hk2⟩ := keyOk_iff hr.1
      cases ry
      refine in_any (by omega) (key_is I p hk1 rp rx) hk2 h5 g1 g2 g3 (dct_keys I h2 h3) fun t => ?_
      refine ⟨.bl _, H, I.tok t, rfl, ?_⟩
      rw [← dGet_isSome hk1 h2.all]
      exact hk.bl hM hr.2
    · exact hr.elim
  · exact hr.elim
  · cases rq
    split at hr
    · cases rp
      split at hr
      · rename_i c hc
        exact op_in_sign pins s σ H _ _ v u Q I rx ry ⟨c.toNat, so _, by rw [← one_so hc], rfl, by rw [so_mem]; exact hk.bl hM hr⟩
      · exact hr.elim
    · exact hr.elim
  · exact hr.elim
end
end Rx
end

section
set_option maxHeartbeats 4000000
/-! Rx: == of dicts by text keys. -/
namespace Rx
open PySem PySem.Spec PyProof.Rows L2
/-- entries by text keys -/
inductive SRel (K : PySem.W.Frag) (H : Hp) : List (PV × PV) → List (Str × Value) → Prop
  | nil : SRel K H [] []
  | cons {x : String} {v : PV} {u : V} {val : Value} {ka : List (PV × PV)} {kv : List (Str × Value)} : Rep K H v u → RelV u val → SRel K H ka kv → SRel K H ((.str x, v) :: ka) ((so x, val) :: kv)
theorem SRel.length {K : PySem.W.Frag} {H : Hp} : ∀ {ka : List (PV × PV)} {kv : List (Str × Value)}, SRel K H ka kv → ka.length = kv.length
  | _, _, .nil => rfl
  | _, _, .cons _ _ t => by simp [t.length]
theorem srel_of {P : Program} {w : World} {K : PySem.W.Frag} {H : Hp} : ∀ {ka : List (PV × PV)} {es : List DictEntry}, ERep w K H ka es → allS ka = true → ∃ kv, SRel K H ka kv ∧ Pairs (strKind P w) es kv ∧ (∀ e ∈ es, ∃ k, (strKind P w).is k e.key = true ∧ e.hash = (strKind P w).hash k) ∧ kv.map (·.1) = ka.map (fun q => match q.1 with
    | .str x => so x
    | _ => so "")
  | _, _, .nil, _ => ⟨[], .nil, .nil, fun e he => absurd he (by simp), rfl⟩
  | _, _, .cons (p := p) (q := q) (k := k) (e := e) (v := v) (u := u) h1 h2 h3 r1 r2 r3 r4 t, ha => by
    unfold allS at ha
    rw [List.all_cons] at ha
    have a1 := (Bool.and_eq_true_iff.mp ha).1
    have a2 := (Bool.and_eq_true_iff.mp ha).2
    obtain ⟨kv, t1, t2, t3, t4⟩ := srel_of (P := P) (w := w) t a2
    cases p with
    | str x =>
      cases r1
      obtain ⟨tk, ek⟩ := (show ∃ t, e.key = Value.str (so x) t from r2)
      have i1 : (strKind P w).is (so x) e.key = true := by rw [ek]; simp [PySem.strKind, Value.isStrOf]
      have hk : k = .text (so x) := by
        simp only [keyOf, Option.some.injEq] at h1
        exact h1.symm
      refine ⟨(so x, e.val) :: kv, .cons r3 r4 t1, .cons i1 rfl t2, fun z hz => ?_, by rw [List.map_cons, List.map_cons, t4]⟩
      rcases List.mem_cons.mp hz with q | q
      · subst q
        refine ⟨so x, i1, ?_⟩
        rw [h3, hk]; rfl
      · exact t3 z q
    | _ => cases a1
theorem strs_nodup : ∀ {ka : List (PV × PV)}, allS ka = true → (ka.map fun q => kk q.1).Nodup → (ka.map (fun q => match q.1 with
    | .str x => so x
    | _ => so "")).Nodup
  | [], _, _ => List.nodup_nil
  | (p, q) :: r, ha, nd => by
    unfold allS at ha
    rw [List.all_cons] at ha
    have a1 := (Bool.and_eq_true_iff.mp ha).1
    have a2 := (Bool.and_eq_true_iff.mp ha).2
    rw [List.map_cons, List.nodup_cons] at nd ⊢
    refine ⟨fun hm => ?_, strs_nodup a2 nd.2⟩
    cases p with
    | str x =>
      obtain ⟨⟨p', q'⟩, h1, h2⟩ := List.mem_map.mp hm
      have a3 := List.all_eq_true.mp a2 _ h1
      cases p' with
      | str y =>
        have : x = y := so_inj (show so x = so y from h2.symm)
        subst this
        exact nd.1 (List.mem_map.mpr ⟨_, h1, rfl⟩)
      | _ => cases a3
    | _ => cases a1
theorem sget_none {K : PySem.W.Frag} {H : Hp} {k : String} : ∀ {kb : List (PV × PV)} {kv : List (Str × Value)}, SRel K H kb kv → sGet k kb = none → valueAt kv (so k) = none
  | _, _, .nil, _ => rfl
  | _, _, .cons (x := x) _ _ t, h => by
    unfold sGet at h
    split at h
    · cases h
    · rename_i hne
      have := sget_none t h
      unfold valueAt at this ⊢
      rw [List.find?_cons]
      have e : decide (so x = so k) = false := decide_eq_false fun z => hne (so_inj z)
      simp only [e]
      exact this
theorem sget_some {K : PySem.W.Frag} {H : Hp} {k : String} {y : PV} : ∀ {kb : List (PV × PV)} {kv : List (Str × Value)}, SRel K H kb kv → sGet k kb = some y → ∃ u val, valueAt kv (so k) = some val ∧ Rep K H y u ∧ RelV u val
  | _, _, .nil, h => by cases h
  | _, _, .cons (x := x) r1 r2 t, h => by
    unfold sGet at h
    split at h
    · rename_i he
      cases h
      subst he
      refine ⟨_, _, ?_, r1, r2⟩
      unfold valueAt
      rw [List.find?_cons]
      simp
    · rename_i hne
      obtain ⟨u, val, q1, q2, q3⟩ := sget_some t h
      refine ⟨u, val, ?_, q2, q3⟩
      unfold valueAt at q1 ⊢
      rw [List.find?_cons]
      have e : decide (so x = so k) = false := decide_eq_false fun z => hne (so_inj z)
      simp only [e]
      exact q1
theorem deqr_hits {K : PySem.W.Frag} {H : Hp} {A : Around} {s : Shared} {kb : List (PV × PV)} {vb : List (Str × Value)} (tb : SRel K H kb vb) : ∀ {ka : List (PV × PV)} {va : List (Str × Value)} {r : Bool}, SRel K H ka va → dEqR kb ka = some r → PySem.W.KeqHits A s vb va r
  | _, _, _, .nil, h => by cases h; exact .nil
  | _, _, r, .cons (x := x) (v := v) r1 r2 t, h => by
    unfold dEqR at h
    split at h
    · rename_i y hy
      obtain ⟨u, val, q1, q2, q3⟩ := sget_some tb hy
      split at h
      · rename_i e b he hb
        cases h
        obtain ⟨_, _, g3, g4, g5⟩ := sEq_v r1 q2 he
        have z := eqAt_V (A := A) (s := s) r2 q3 g4 g5
        rw [g3] at z
        exact .hit q1 z (deqr_hits tb t hb)
      · cases h
    · rename_i hy
      cases h
      exact .miss (sget_none tb hy)
section
variable {X : Cx} {ca : String → Addr}
theorem dct_of {pins : List (Addr × Obj)} {σ : L2.St} {H : Hp} {s : Shared} {M : MM} (I : L2.Inv X pins σ H s) (hM : HRep X.w ca X.K M H) {a : Addr} {ka : List (PV × PV)} (e : M a = some (.dct ka)) (ha : allS ka = true) :
    ∃ kv, SRel X.K H ka kv ∧ s.heap.DictOf (strKind X.prog X.w) a kv ∧ (a == sysModules) = false := by
  obtain ⟨es, h1, h2, h3, h4, h5⟩ := hM.dct e
  obtain ⟨o, ep, g1, g2, g3⟩ := dct_obj I h1
  obtain ⟨kv, t1, t2, t3, t4⟩ := srel_of (P := X.prog) h2 ha
  refine ⟨kv, t1, ⟨o, es, ep, g1, g2, g3, fun e he => t3 e (by simpa using he), t2, ?_⟩, h5⟩
  rw [t4]; exact strs_nodup ha h3
theorem deq_at (ne : Bool) (hu : X.A.units < cLine) {pins : List (Addr × Obj)} {σ : L2.St} {H : Hp} {s : Shared} {M : MM} {Q : VK} {a b : Addr} {ka kb : List (PV × PV)} {r : Bool} (I : L2.Inv X pins σ H s) (hM : HRep X.w ca X.K M H)
    (ea : M a = some (.dct ka)) (eb : M b = some (.dct kb)) (h : dEq ka kb = some r) (q : Q (.bl (if ne = true then !r else r)) H) :
    wpAny (model X.prog X.w) X.A (compareOp (if ne = true then .NotEq else .Eq) (.ref a) (.ref b)) (EP X pins σ Q) X.xe s := by
  unfold dEq at h
  split at h
  · rename_i hs
    have s1 := (Bool.and_eq_true_iff.mp hs).1
    have s2 := (Bool.and_eq_true_iff.mp hs).2
    obtain ⟨va, a1, a2, a3⟩ := dct_of I hM ea s1
    obtain ⟨vb, b1, b2, b3⟩ := dct_of I hM eb s2
    split at h
    · rename_i r' hr
      cases h
      have hh := deqr_hits (A := X.A.in1) (s := s) b1 a1 hr
      rw [a1.length, b1.length] at q
      cases ne with
      | false => exact PySem.W.keq_eq a3 b3 a2 b2 hu (fun _ => hh) ⟨.bl _, H, I, rfl, q⟩
      | true => exact PySem.W.keq_ne a3 b3 a2 b2 hu (fun _ => hh) ⟨.bl _, H, I, rfl, q⟩
    · cases h
  · cases h
theorem eq_snd (hu : X.A.units + 64 < cLine) : OpR X (compareOp .Eq) (lift2 (gOf X ca) fun p q M Q => eqA p q M fun r => Q (.bl r) M) := by
  intro pins s σ H x y v u Q I rx ry ⟨p, q, M, Qa, hM, rp, rq, hr, hk⟩
  dsimp only at hr
  unfold eqA at hr
  split at hr
  · rename_i b hb
    obtain ⟨h1, h2, _⟩ := sEq_v rp rq hb
    exact op_eq pins s σ H _ _ v u Q I rx ry ⟨h1, by rw [h2]; exact hk.bl hM hr⟩
  · rcases hr with ⟨d, e, h1, h2, h3, h4, h5⟩ | ⟨a, b, ka, kb, r, rfl, rfl, h3, h4, h5, h6⟩
    · exact op_eqD hu pins s σ H _ _ v u Q I rx ry ⟨d, e, deep_dp hM h1 rp, deep_dp hM h2 rq, h3, h4, hk.bl hM h5⟩
    · cases rp; cases rq; cases rx; cases ry
      exact deq_at false (by omega) I hM h3 h4 h5 (hk.bl hM h6)
theorem ne_snd (hu : X.A.units + 64 < cLine) : OpR X (compareOp .NotEq) (lift2 (gOf X ca) fun p q M Q => eqA p q M fun r => Q (.bl (!r)) M) := by
  intro pins s σ H x y v u Q I rx ry ⟨p, q, M, Qa, hM, rp, rq, hr, hk⟩
  dsimp only at hr
  unfold eqA at hr
  split at hr
  · rename_i b hb
    obtain ⟨h1, h2, _⟩ := sEq_v rp rq hb
    exact op_ne pins s σ H _ _ v u Q I rx ry ⟨h1, by rw [h2]; exact hk.bl hM hr⟩
  · rcases hr with ⟨d, e, h1, h2, h3, h4, h5⟩ | ⟨a, b, ka, kb, r, rfl, rfl, h3, h4, h5, h6⟩
    · exact op_neD hu pins s σ H _ _ v u Q I rx ry ⟨d, e, deep_dp hM h1 rp, deep_dp hM h2 rq, h3, h4, hk.bl hM h5⟩
    · cases rp; cases rq; cases rx; cases ry
      exact deq_at true (by omega) I hM h3 h4 h5 (hk.bl hM h6)
end
end Rx
end

section
set_option maxHeartbeats 4000000
/-! Rx: comparisons, items, slices, truth, stores, methods, builtins. -/
namespace Rx
open PySem PySem.Spec PyProof.Rows L2
section
variable {X : Cx} {ca : String → Addr}
theorem notIn_snd (hu : X.A.units + 65 < cLine) : OpR X (compareOp .NotIn) (lift2 (gOf X ca) fun p q M Q => inA p q M fun r => Q (.bl (!r)) M) := by
  intro pins s σ H x y v u Q I rx ry ⟨p, q, M, Qa, hM, rp, rq, hr, hk⟩
  dsimp only at hr
  unfold inA at hr
  split at hr
  · cases rq with
    | @tup a vs _ t rs =>
      split at hr
      · rename_i b hb
        obtain ⟨f1, f2, f3⟩ := sMem_v rp rs hb
        exact op_notIn_seq pins s σ H _ _ v u Q I rx ry ⟨a, vs, rfl, .inr t.sq, f1, f2, by rw [if_pos rfl, f3]; exact hk.bl hM hr⟩
      · exact hr.elim
  · cases rq
    split at hr
    · rename_i ps e1
      obtain ⟨vs, h1, rs⟩ := hM.lst e1
      split at hr
      · rename_i b hb
        obtain ⟨f1, f2, f3⟩ := sMem_v rp rs hb
        exact op_notIn_seq pins s σ H _ _ v u Q I rx ry ⟨_, vs, rfl, .inl (SqL.of h1), f1, f2, by rw [if_pos rfl, f3]; exact hk.bl hM hr⟩
      · obtain ⟨d, ds, h2, h3, h4, h5, h6⟩ := hr
        exact op_notInD hu pins s σ H _ _ v u Q I rx ry ⟨d, ds, deep_dp hM h2 rp, .lst (SqL.of h1) (deep_dpA hM h3 rs), h4, h5, hk.bl hM h6⟩
    · rename_i kvs e1
      obtain ⟨es, h1, h2, h3, h4, h5⟩ := hM.dct e1
      obtain ⟨o, ep, g1, g2, g3⟩ := dct_obj I h1
      obtain ⟨k, hk1, hk2⟩ := keyOk_iff hr.1
      cases ry
      refine notIn_any (by omega) (key_is I p hk1 rp rx) hk2 h5 g1 g2 g3 (dct_keys I h2 h3) fun t => ?_
      refine ⟨.bl _, H, I.tok t, rfl, ?_⟩
      rw [← dGet_isSome hk1 h2.all]
      exact hk.bl hM hr.2
    · exact hr.elim
  · exact hr.elim
  · cases rq
    split at hr
    · cases rp
      split at hr
      · rename_i c hc
        exact op_notIn_sign pins s σ H _ _ v u Q I rx ry ⟨c.toNat, so _, by rw [← one_so hc], rfl, by rw [so_mem]; exact hk.bl hM hr⟩
      · exact hr.elim
    · exact hr.elim
  · exact hr.elim
theorem sLt_v (a b : String) : decide ((Str.ofString a).cps.toList < (Str.ofString b).cps.toList) = sLt a b := rfl
theorem cmp_snd (op : CmpOp) (hu : X.A.units + 65 < cLine) : OpR X (compareOp op) (lift2 (gOf X ca) (cmpE op)) := by
  cases op with
  | Eq => exact eq_snd (by omega)
  | NotEq => exact ne_snd (by omega)
  | In => exact in_snd hu
  | NotIn => exact notIn_snd hu
  | Lt =>
    intro pins s σ H x y v u Q I rx ry ⟨p, q, M, Qa, hM, rp, rq, hr, hk⟩
    unfold cmpE cmpA at hr; dsimp only at hr
    split at hr
    · cases rp; cases rq; exact op_lt pins s σ H _ _ v u Q I rx ry ⟨_, _, rfl, rfl, hk.bl hM hr⟩
    · cases rp; cases rq; exact op_lt_str pins s σ H _ _ v u Q I rx ry ⟨_, _, rfl, rfl, hk.bl hM hr⟩
    · exact hr.elim
  | LtE =>
    intro pins s σ H x y v u Q I rx ry ⟨p, q, M, Qa, hM, rp, rq, hr, hk⟩
    unfold cmpE cmpA at hr; dsimp only at hr
    split at hr
    · cases rp; cases rq; exact op_le pins s σ H _ _ v u Q I rx ry ⟨_, _, rfl, rfl, hk.bl hM hr⟩
    · cases rp; cases rq; exact op_le_str pins s σ H _ _ v u Q I rx ry ⟨_, _, rfl, rfl, hk.bl hM hr⟩
    · exact hr.elim
  | Gt =>
    intro pins s σ H x y v u Q I rx ry ⟨p, q, M, Qa, hM, rp, rq, hr, hk⟩
    unfold cmpE cmpA at hr; dsimp only at hr
    split at hr
    · cases rp; cases rq; exact op_gt pins s σ H _ _ v u Q I rx ry ⟨_, _, rfl, rfl, hk.bl hM hr⟩
    · exact hr.elim
  | GtE =>
    intro pins s σ H x y v u Q I rx ry ⟨p, q, M, Qa, hM, rp, rq, hr, hk⟩
    unfold cmpE cmpA at hr; dsimp only at hr
    split at hr
    · cases rp; cases rq; exact op_ge pins s σ H _ _ v u Q I rx ry ⟨_, _, rfl, rfl, hk.bl hM hr⟩
    · exact hr.elim
  | Is =>
    intro pins s σ H x y v u Q I rx ry ⟨p, q, M, Qa, hM, rp, rq, hr, hk⟩
    unfold cmpE cmpA at hr; dsimp only at hr
    split at hr
    · cases rq
      refine op_isN pins s σ H _ _ v u Q I rx ry ⟨rfl, ?_⟩
      split at hr
      · cases rp; rw [decide_eq_true rfl]; exact hk.bl hM hr
      · rename_i hn
        rw [decide_eq_false (fun e => hn (rp.none_iff.mp e))]; exact hk.bl hM hr
    · exact hr.elim
  | IsNot =>
    intro pins s σ H x y v u Q I rx ry ⟨p, q, M, Qa, hM, rp, rq, hr, hk⟩
    unfold cmpE cmpA at hr; dsimp only at hr
    split at hr
    · cases rq
      refine op_notN pins s σ H _ _ v u Q I rx ry ⟨rfl, ?_⟩
      split at hr
      · cases rp; rw [decide_eq_true rfl]; exact hk.bl hM hr
      · rename_i hn
        rw [decide_eq_false (fun e => hn (rp.none_iff.mp e))]; exact hk.bl hM hr
    · exact hr.elim

/-! ### truth -/
def liftTr (G : Gw) (r : PV → MM → (Bool → Prop) → Prop) : V → Hp → (Bool → Hp → Prop) → Prop := fun v H Q => ∃ p M Qa, HRep G.w G.ca G.K M H ∧ Rep G.K H p v ∧ r p M Qa ∧ ∀ b, Qa b → Q b H
theorem Reps.isEmpty {K : PySem.W.Frag} {H : Hp} {ps : List PV} {vs : List V} (r : Reps K H ps vs) : vs.isEmpty = ps.isEmpty := by cases r <;> rfl
theorem so_len0 (s : String) : (((Str.ofString s).length : Int) != 0) = (s.length != 0) := by
  rw [so_len, Bool.eq_iff_iff]; simp
theorem tru_snd : TruR X (liftTr (gOf X ca) truA) := by
  intro pins s σ H x v Q I rx ⟨p, M, Qa, hM, rp, hr, hk⟩
  unfold truA at hr
  split at hr
  · cases rp; exact tru_ok pins s σ H _ v Q I rx ⟨false, rfl, hk _ hr⟩
  · cases rp; exact tru_ok pins s σ H _ v Q I rx ⟨_, rfl, hk _ hr⟩
  · cases rp; exact tru_ok pins s σ H _ v Q I rx ⟨_, rfl, hk _ hr⟩
  · cases rp
    refine tru_ok pins s σ H _ v Q I rx ⟨_, ⟨?_, rfl⟩, ?_⟩
    · rw [so_len]; exact Nat.le_trans hr.1 sz_1000000
    · rw [so_len0]; exact hk _ hr.2
  · cases rp with
    | tup t rs => exact tru_ok pins s σ H _ v Q I rx ⟨_, .inr (.inl ⟨_, t.sq, by rw [rs.isEmpty]⟩), hk _ hr⟩
  · cases rp
    split at hr
    · rename_i ps e1
      obtain ⟨vs, h1, rs⟩ := hM.lst e1
      exact tru_ok pins s σ H _ v Q I rx ⟨_, .inl ⟨_, SqL.of h1, by rw [rs.isEmpty]⟩, hk _ hr⟩
    · exact hr.elim
  · exact hr.elim

/-! ### items -/
theorem atI_rep {K : PySem.W.Frag} {H : Hp} {ps : List PV} {vs : List V} {i : Int} {x : PV} (r : Reps K H ps vs) (h : atI ps i = some x) : ∃ v, atI vs i = some v ∧ Rep K H x v := by
  unfold atI at h ⊢
  rw [← r.length]
  cases e : ixN ps.length i with
  | none => rw [e] at h; cases h
  | some j =>
    rw [e] at h
    exact r.get (show ps[j]? = some x from h)
theorem ix_dct {pins : List (Addr × Obj)} {σ : L2.St} {H : Hp} {s : Shared} {M : MM} {Qa : KV1} {Q : VK} {a : Addr} {kvs : List (PV × PV)} {q x : PV} {y : V} {u : Value} (hu : X.A.units + 65 < cLine) (I : L2.Inv X pins σ H s) (hM : HRep X.w ca X.K M H) (hk : Hands (gOf X ca) H Qa Q)
    (e1 : M a = some (.dct kvs)) (rq : Rep X.K H q y) (ry : RelV y u) (hko : keyOk q = true) (hx : dGet kvs q = some x) (hq : Qa x M) : wpAny (model X.prog X.w) X.A (getItem (.ref a) u) (EP X pins σ Q) X.xe s := by
  obtain ⟨es, h1, h2, h3, h4, h5⟩ := hM.dct e1
  obtain ⟨o, ep, g1, g2, g3⟩ := dct_obj I h1
  obtain ⟨k, hk1, hk2⟩ := keyOk_iff hko
  obtain ⟨j, p, j1, j2⟩ := dGet_some hk1 h2.all hx
  have hl : j < es.size := by
    have := (List.getElem?_eq_some_iff.mp j1).1
    rw [h2.length, Array.length_toList] at this
    exact this
  have he : es[j]? = some es[j] := Array.getElem?_eq_getElem hl
  obtain ⟨_, _, xv, _, _, _, _, _, c6, c7⟩ := h2.at_ j1 (by rw [Array.getElem?_toList]; exact he)
  exact getItem_any (by omega) (key_is I q hk1 rq ry) hk2 g1 g2 g3 (dct_keys I h2 h3) j2 he fun t => ⟨xv, H, I.tok t, c7, hk.val hM c6 hq⟩
theorem kd_strs {K : PySem.W.Frag} {H : Hp} : ∀ {kvs : List (String × PV)} {es : List DictEntry}, KdRep K H kvs es → es.all (fun e => isExactStrKey e.key) = true
  | _, _, .nil => rfl
  | _, _, .cons a _ _ d => by rw [List.all_cons, kd_strs d, a]; rfl
theorem kd_findL {K : PySem.W.Frag} {H : Hp} {s : String} {x : PV} : ∀ {kvs : List (String × PV)} {es : List DictEntry}, KdRep K H kvs es → kvs.lookup s = some x →
    ∃ (j : Nat) (e : DictEntry) (u : V), es.findIdx? (fun e => e.key.isStr (Str.ofString s)) = some j ∧ es[j]? = some e ∧ Rep K H x u ∧ RelV u e.val
  | _, _, .nil, h => by simp at h
  | _, _, .cons (k := k) (t := tk) (e := e) (u := u) a b c d, h => by
    rw [List.findIdx?_cons, a]
    by_cases z : s = k
    · subst z
      rw [List.lookup_cons, beq_self_eq_true] at h
      cases h
      exact ⟨0, e, u, by simp [Value.isStr], rfl, b, c⟩
    · have z' : (s == k) = false := beq_eq_false_iff_ne.mpr z
      rw [List.lookup_cons, z'] at h
      obtain ⟨j, e', u', h1, h2, h3, h4⟩ := kd_findL d h
      have n : (Value.str (Str.ofString k) tk).isStr (Str.ofString s) = false := by
        simp only [Value.isStr, beq_eq_false_iff_ne, ne_eq]
        exact fun q => z (so_inj q).symm
      rw [n, if_neg Bool.false_ne_true, h1]
      exact ⟨j + 1, e', u', rfl, by simpa using h2, h3, h4⟩
theorem kd_find {K : PySem.W.Frag} {H : Hp} {s : String} {x : PV} {kvs : List (String × PV)} {es : Array DictEntry} (r : KdRep K H kvs es.toList) (h : kvs.lookup s = some x) :
    ∃ (j : Nat) (e : DictEntry) (u : V), (es.all fun e => isExactStrKey e.key) = true ∧ es.findIdx? (fun e => e.key.isStr (Str.ofString s)) = some j ∧ es[j]? = some e ∧ Rep K H x u ∧ RelV u e.val := by
  obtain ⟨j, e, u, h1, h2, h3, h4⟩ := kd_findL r h
  refine ⟨j, e, u, by rw [← Array.all_toList]; exact kd_strs r, ?_, by rw [← Array.getElem?_toList]; exact h2, h3, h4⟩
  cases es; simpa using h1
theorem getItem_str_kd {prog : Program} {w : World} {A : Around} {E : Value → Shared → Prop} {s : Shared} {d : Addr} {o : Obj} {es : Array DictEntry} {ep : Nat} {x : Str} {t : Tok} {Q : Value → Shared → Prop} (ho : s.heap.get? d = some o) (hx : o.ExactDict) (hd : o.data = .dict es ep)
    {j : Nat} {e : DictEntry} (hall : (es.all fun e => isExactStrKey e.key) = true) (hf : es.findIdx? (fun e => e.key.isStr x) = some j) (he : es[j]? = some e) (h : ∀ t, Q e.val { s with toks := t }) : wpAny (model prog w) A (getItem (.ref d) (.str x t)) Q E s := by
  have hT := ty_dict ho hx
  unfold getItem
  try with_reducible refine wpAny_holding ?_
  refine wpAny_bind (wpAny_sequenceKey hT (by decide) ?_)
  refine wpAny_bind (wpAny_callSpecial?_slot (name := Str.ofString "__getitem__") hT slot_dict_getitem
    (wpAny_call_entry slot_dict_getitem hT entry_dict_getitem ?_ (args_dict_getitem _ _)))
  show wpAny _ _ (dictGet d (.str x t) >>= _) _ _ s
  refine wpAny_bind ?_
  unfold dictGet
  try with_reducible refine wpAny_holding ?_
  refine wpAny_bind (wpAny_pyHash_str (wpAny_bind (KTD.kt_dictFind_strs (s := { s with toks := s.toks + 1 }) ho hd hall ?_)))
  rw [hf]
  refine wpAny_bind (wpAny_dictEntries (s := { s with toks := s.toks + 1 }) ho hd ?_)
  rw [he]
  exact wpAny_pure (wpAny_pure ⟨e.val, rfl, wpAny_pure (h _)⟩)
theorem sub_snd (hu : X.A.units + 65 < cLine) : IxR X (lift2 (gOf X ca) subA) := by
  intro value slice pins s σ H x y v u Q I rx ry ⟨p, q, M, Qa, hM, rp, rq, hr, hk⟩ hs
  unfold subA at hr
  split at hr
  · cases rq
    cases rp with
    | tup t rs =>
      split at hr
      · rename_i z hz
        obtain ⟨w, h1, h2⟩ := atI_rep rs hz
        exact ix_tup value slice pins s σ H _ _ v u Q I rx ry ⟨_, _, _, w, rfl, rfl, t.sq, h1, hk.val hM h2 hr⟩ hs
      · exact hr.elim
  · cases rq
    cases rp with
    | xl t rs =>
      split at hr
      · rename_i z hz
        obtain ⟨w, h1, h2⟩ := atI_rep rs hz
        exact ix_list value slice pins s σ H _ _ v u Q I rx ry ⟨_, _, _, w, rfl, rfl, t.sq, h1, hk.val hM h2 hr⟩ hs
      · exact hr.elim
  · cases rp
    split at hr
    · rename_i ps e1
      split at hr
      · cases rq
        obtain ⟨vs, h1, rs⟩ := hM.lst e1
        split at hr
        · rename_i z hz
          obtain ⟨w, h3, h2⟩ := atI_rep rs hz
          exact ix_list value slice pins s σ H _ _ v u Q I rx ry ⟨_, _, _, w, rfl, rfl, SqL.of h1, h3, hk.val hM h2 hr⟩ hs
        · exact hr.elim
      · exact hr.elim
    · rename_i kvs e1
      split at hr
      · rename_i z hz
        obtain ⟨es, h1, h2, h3, h4, h5⟩ := hM.dct e1
        obtain ⟨o, ep, g1, g2, g3⟩ := dct_obj I h1
        have w := ix_dct hu I hM hk e1 rq ry hr.1 hz hr.2
        cases rx
        exact tail_any (T := "dict") ⟨o, g1, g2.1⟩ PySem.F.slot_dict_getitem.lookup w hs
      · exact hr.elim
    · exact hr.elim
  · cases rq
    cases rp with
    | @kd a o es ep _ g1 g2 g3 g4 kr =>
      split at hr
      · rename_i z hz
        obtain ⟨j, e, uv, h1, h2, h3, h4, h5⟩ := kd_find kr hz
        cases rx
        obtain ⟨t, rfl⟩ := ry
        refine tail_any (T := "dict") ⟨o, I.kIn _ o g1, g2.1⟩ PySem.F.slot_dict_getitem.lookup (getItem_str_kd (I.kIn _ o g1) g2 g3 h1 h2 h3 fun tk => ?_) hs
        exact ⟨uv, H, I.tok tk, h5, hk.val hM h4 hr⟩
      · exact hr.elim
  · exact hr.elim
/-! ### slices -/
def liftSl (G : Gw) (r : PV → Option Int → Option Int → MM → KV1 → Prop) : V → Option Int → Option Int → Hp → VK → Prop := fun v lo hi H Q => ∃ p M Qa, HRep G.w G.ca G.K M H ∧ Rep G.K H p v ∧ r p lo hi M Qa ∧ Hands G H Qa Q
theorem cut_rep {K : PySem.W.Frag} {H : Hp} {ps : List PV} {vs : List V} (r : Reps K H ps vs) (lo hi : Option Int) : Reps K H (cutP ps lo hi) (cutV vs lo hi) := by
  unfold cutP cutV
  rw [r.length]
  exact (r.drop _).take _
theorem slc_snd : SlR X (liftSl (gOf X ca) slcA) := by
  intro pins s σ H x v vl vu lo hi sl Q I rx hs pl pu ⟨p, M, Qa, hM, rp, hr, hk⟩
  unfold slcA at hr
  split at hr
  · cases rp with
    | @tup a vs ps t rs =>
      refine sl_tupF pins s σ H _ v vl vu lo hi sl Q I rx hs pl pu ⟨_, _, rfl, t.sq, fun hw => ?_, fun p us hp => hk.tup hM (cut_rep rs lo hi) hp hr⟩
      refine hk.val hM (.tup t ?_) hr
      have c := cut_rep rs lo hi
      have e : cutV vs lo hi = vs := by
        unfold cutV
        rw [hw.1, hw.2]; simp
      rwa [e] at c
  · cases rp
    split at hr
    · rename_i ps e1
      obtain ⟨vs, h1, rs⟩ := hM.lst e1
      exact sl_list pins s σ H _ v vl vu lo hi sl Q I rx hs pl pu ⟨_, _, rfl, SqL.of h1, fun p hp => hk.lst hM (cut_rep rs lo hi) hp hr⟩
    · exact hr.elim
  · exact hr.elim
end
end Rx
end

section
set_option maxHeartbeats 4000000
/-! Rx: stores, methods of built-in types. -/
namespace Rx
open PySem PySem.Spec PyProof.Rows L2
section
variable {X : Cx} {ca : String → Addr}
def HandsM (G : Gw) (H : Hp) (k : MM → Prop) (Q : Hp → Prop) : Prop := ∀ M' H', HRep G.w G.ca G.K M' H' → Keep H H' → k M' → Q H'
def lift3 (G : Gw) (r : PV → PV → PV → MM → (MM → Prop) → Prop) : TSet := fun o i v H Q => ∃ p q x M k, HRep G.w G.ca G.K M H ∧ Rep G.K H p o ∧ Rep G.K H q i ∧ Rep G.K H x v ∧ r p q x M k ∧ HandsM G H k Q
theorem mod_nil {α : Type} (f : α → α) : ∀ (l : List α) (j : Nat), (l.modify j f).length = l.length := fun l j => List.length_modify ..
/-- a dict's entries changed -/
theorem dct_write {pins : List (Addr × Obj)} {σ : L2.St} {H : Hp} {s : Shared} {a : Addr} {es es' : Array DictEntry} {h' : Heap} {t : Nat} {o' : Obj} {ep' : Nat} (I : L2.Inv X pins σ H s) (h1 : H a = some (DctO a es))
    (e1 : h'.get? a = some o') (e2 : o'.ExactDict) (e3 : o'.data = .dict es' ep') (sb : Heap.SameBut a s.heap h') : L2.Inv X pins σ (upd H a (DctO a es')) { s with heap := h', toks := t } :=
  I.write (x := a) (e := a) (by rw [h1]; exact True.intro) (.inl rfl) (fun b u hb z => (sb.2 b hb).trans z) ⟨_, e1⟩ (dctO_ok e1 e2 e3)
theorem dct_set {pins : List (Addr × Obj)} {σ : L2.St} {H : Hp} {s : Shared} {M : MM} {a : Addr} {kvs : List (PV × PV)} {q x : PV} {y z : V} {u v : Value} {Q : Unit → Shared → Prop} (hu : X.A.units + 65 < cLine) (I : L2.Inv X pins σ H s) (hM : HRep X.w ca X.K M H)
    (e1 : M a = some (.dct kvs)) (rq : Rep X.K H q y) (ry : RelV y u) (rx : Rep X.K H x z) (rz : RelV z v) (hko : keyOk q = true) (hsz : kvs.length < sizeLine)
    (h : ∀ H' h' t, L2.Inv X pins σ H' { s with heap := h', toks := t } → HRep X.w ca X.K (mput M a (.dct (dPut kvs q x))) H' → Keep H H' → Q () { s with heap := h', toks := t }) :
    wpAny (model X.prog X.w) X.A (setItem (.ref a) u v) Q X.xe s := by
  obtain ⟨es, h1, h2, h3, h4, h5⟩ := hM.dct e1
  obtain ⟨o, ep, g1, g2, g3⟩ := dct_obj I h1
  obtain ⟨k, hk1, hk2⟩ := keyOk_iff hko
  have kp : ∀ es', Keep H (upd H a (DctO a es')) := fun es' => .set h1 rfl
  have ez : es.size = kvs.length := by rw [h2.length, Array.length_toList]
  refine setItem_any (by omega) (key_is I q hk1 rq ry) hk2 g1 g2 g3 (dct_keys I h2 h3) (by omega) (fun hno h' t o' ep' c1 c2 c3 c4 => ?_) fun j hj h' t o' ep' c1 c2 c3 c4 => ?_
  · have hnot : k ∉ kvs.map (fun q => kk q.1) := fun hm => by
      obtain ⟨j, hj⟩ := List.mem_iff_getElem?.mp hm
      exact hno j hj
    refine h _ h' t (dct_write I h1 c1 c2 c3 c4) (hM.set (u := .dct (dPut kvs q x)) h1 rfl ?_) (kp _)
    rw [dPut_new hk1 h2.all hnot]
    refine ⟨_, upd_same, ?_, ?_, by rw [List.length_append, List.length_singleton]; omega, h5⟩
    · rw [Array.toList_push]
      exact (h2.keep (kp _)).push hk1 hk2 rfl (rq.keep (kp _)) ry (rx.keep (kp _)) rz
    · rw [List.map_append, List.nodup_append]
      refine ⟨h3, by simp, fun b hb c hc => ?_⟩
      simp only [List.map_cons, List.map_nil, List.mem_singleton, kk, hk1, Option.getD_some] at hc
      subst hc
      exact fun e => hnot (e ▸ hb)
  · refine h _ h' t (dct_write I h1 c1 c2 c3 c4) (hM.set (u := .dct (dPut kvs q x)) h1 rfl ?_) (kp _)
    rw [dPut_old hk1 h2.all h3 hj]
    refine ⟨_, upd_same, ?_, ?_, by rw [List.length_modify]; omega, h5⟩
    · have e : (es.modify j fun e => { e with val := v }).toList = es.toList.modify j fun e => { e with val := v } := by
        obtain ⟨l⟩ := es
        simp
      rw [e]
      exact (h2.keep (kp _)).modify (rx.keep (kp _)) rz j
    · have e : (kvs.modify j fun q => (q.1, x)).map (fun q => kk q.1) = kvs.map fun q => kk q.1 := by
        apply List.ext_getElem?
        intro i
        rw [List.getElem?_map, List.getElem?_map, List.getElem?_modify]
        cases kvs[i]? with
        | none => rfl
        | some z => by_cases hi : j = i <;> simp [hi]
      rw [e]; exact h3
theorem set_snd (hu : X.A.units + 65 < cLine) : PSet X (lift3 (gOf X ca) setA) := by
  intro pins s σ H o i v ov iv u Q I ro ri rv ⟨p, q, x, M, k, hM, rp, rq, rx, hr, hk⟩
  unfold setA at hr
  split at hr
  · cases rp
    split at hr
    · rename_i ps e1
      split at hr
      · cases rq
        obtain ⟨vs, h1, rs⟩ := hM.lst e1
        split at hr
        · rename_i j hj
          rw [rs.length] at hj
          refine set_list pins s σ H _ _ v ov iv u Q I ro ri rv ⟨_, vs, _, j, rfl, rfl, h1, hj, ?_⟩
          exact hk _ _ (hM.set (u := .lst (ps.set j x)) h1 rfl ⟨_, upd_same, (Reps.set rx j rs).keep (.set h1 rfl)⟩) (.set h1 rfl) hr
        · exact hr.elim
      · exact hr.elim
    · rename_i kvs e1
      cases ro
      exact dct_set hu I hM e1 rq ri rx rv hr.1 hr.2.1 fun H' h' t I' hM' kp => ⟨H', I', hk _ _ hM' kp hr.2.2⟩
    · exact hr.elim
  · exact hr.elim
def liftIn (G : Gw) (r : PV → PV → MM → KV1 → Prop) : V → V → Hp → VK → Prop := lift2 G r
theorem aug_snd (op : Operator) : InOp X op (lift2 (gOf X ca) (augA op)) := by
  intro pins s σ H x y u v Q I rx ry ⟨p, q, M, Qa, hM, rp, rq, hr, hk⟩
  unfold augA at hr
  split at hr
  · cases rp; cases rq
    exact in_add pins s σ H _ _ u v Q I rx ry ⟨_, _, rfl, rfl, hk.int hM hr⟩
  · cases rp; cases rq
    exact in_sub pins s σ H _ _ u v Q I rx ry ⟨_, _, rfl, rfl, hk.int hM hr⟩
  · exact hr.elim
theorem augP_snd (op : Operator) : PIp X op (lift2 (gOf X ca) (augA op)) := fun pins s σ H x y v u Q I rx ry h => aug_snd op pins s σ H x y v u Q I rx ry h

/-! ### methods of built-in types -/
/-- a value is of the type, its object without a dict of its own -/
theorem ty_snd {pins : List (Addr × Obj)} {σ : L2.St} {H : Hp} {s : Shared} {M : MM} {t : String} {p : PV} {v : V} {u : Value} (I : L2.Inv X pins σ H s) (hM : HRep X.w ca X.K M H) (r : Rep X.K H p v) (ru : RelV v u) (h : tyA t p M) :
    s.TypeIs u t ∧ ∀ a, u = .ref a → ∃ ob, s.heap.get? a = some ob ∧ ob.dict = none := by
  unfold tyA at h
  split at h
  · cases r; cases ru
    split at h
    · rename_i ps e1
      subst h
      obtain ⟨vs, h1, rs⟩ := hM.lst e1
      obtain ⟨its, _, pl, _⟩ := I.list (SqL.of h1)
      obtain ⟨o, n, e, c, d, _⟩ := id pl
      exact ⟨pl.isList.typeIs, fun a z => by cases z; exact ⟨o, e, d⟩⟩
    · rename_i kvs e1
      subst h
      obtain ⟨es, h1, h2, h3, h4, h5⟩ := hM.dct e1
      obtain ⟨o, ep, g1, g2, g3⟩ := dct_obj I h1
      exact ⟨⟨o, g1, g2.1⟩, fun a z => by cases z; exact ⟨o, g1, g2.2.1⟩⟩
    · exact h.elim
  · subst h
    cases r with
    | tup t rs =>
      cases ru
      rcases t with ⟨o, h1, h2, h3⟩ | ⟨o, its, n, h1, h2, h3, h4, h5, h6⟩
      · obtain ⟨e, _⟩ := I.hok _ _ h1
        exact ⟨⟨o, e, h2⟩, fun a z => by cases z; exact ⟨o, e, h3⟩⟩
      · exact ⟨⟨o, I.kIn _ _ h1, h2⟩, fun a z => by cases z; exact ⟨o, I.kIn _ _ h1, h3⟩⟩
  · subst h
    cases r
    obtain ⟨t, rfl⟩ := ru
    exact ⟨typeIs_str s _ t, fun _ e => nomatch e⟩
  · exact h.elim
theorem getLast_rep {K : PySem.W.Frag} {H : Hp} {ps : List PV} {vs : List V} {x : PV} (r : Reps K H ps vs) (h : ps[ps.length - 1]? = some x) : ∃ v, vs[vs.length - 1]? = some v ∧ Rep K H x v := by
  rw [← r.length]; exact r.get h
theorem append_snd : MtR X "list.append" (liftM (gOf X ca) (bmA "list" "append")) := by
  intro pins s σ H x xs v us Q I rx rs ⟨p, ps, M, Qa, hM, rp, rps, hr, hk⟩
  unfold bmA at hr
  split at hr <;> first
    | (exfalso; exact hr)
    | skip
  all_goals (try contradiction)
  cases rp
  cases rps with
  | cons r1 r2 =>
    cases r2
    split at hr
    · rename_i ps e1
      obtain ⟨vs, h1, rs'⟩ := hM.lst e1
      exact mt_append pins s σ H _ _ v us Q I rx rs ⟨_, vs, _, rfl, rfl, h1, by rw [← rs'.length]; exact hr.1, hk.set hM h1 (rs'.append (.one r1)) .non hr.2⟩
    · exact hr.elim
theorem extend_snd : MtR X "list.extend" (liftM (gOf X ca) (bmA "list" "extend")) := by
  intro pins s σ H x xs v us Q I rx rs ⟨p, ps, M, Qa, hM, rp, rps, hr, hk⟩
  unfold bmA at hr
  split at hr <;> first
    | (exfalso; exact hr)
    | skip
  all_goals (try contradiction)
  cases rp
  cases rps with
  | cons r1 r2 =>
    cases r2; cases r1
    split at hr
    · rename_i ps qs e1 e2
      obtain ⟨vs, h1, rs1⟩ := hM.lst e1
      obtain ⟨ws, h2, rs2⟩ := hM.lst e2
      exact mt_extend pins s σ H _ _ v us Q I rx rs ⟨_, _, vs, ws, rfl, rfl, h1, h2, by rw [← rs1.length, ← rs2.length]; exact hr.1, hk.set hM h1 (rs1.append rs2) .non hr.2⟩
    · exact hr.elim
theorem reverse_snd : MtR X "list.reverse" (liftM (gOf X ca) (bmA "list" "reverse")) := by
  intro pins s σ H x xs v us Q I rx rs ⟨p, ps, M, Qa, hM, rp, rps, hr, hk⟩
  unfold bmA at hr
  split at hr <;> first
    | (exfalso; exact hr)
    | skip
  all_goals (try contradiction)
  cases rp; cases rps
  split at hr
  · rename_i ps e1
    obtain ⟨vs, h1, rs1⟩ := hM.lst e1
    exact mt_reverse pins s σ H _ _ v us Q I rx rs ⟨_, vs, rfl, rfl, h1, hk.set hM h1 rs1.reverse .non hr⟩
  · exact hr.elim
theorem clear_snd : MtR X "list.clear" (liftM (gOf X ca) (bmA "list" "clear")) := by
  intro pins s σ H x xs v us Q I rx rs ⟨p, ps, M, Qa, hM, rp, rps, hr, hk⟩
  unfold bmA at hr
  split at hr <;> first
    | (exfalso; exact hr)
    | skip
  all_goals (try contradiction)
  cases rp; cases rps
  split at hr
  · rename_i ps e1
    obtain ⟨vs, h1, rs1⟩ := hM.lst e1
    exact mt_clear pins s σ H _ _ v us Q I rx rs ⟨_, vs, rfl, rfl, h1, hk.set hM h1 .nil .non hr⟩
  · exact hr.elim
theorem pop_snd : MtR X "list.pop" (liftM (gOf X ca) (bmA "list" "pop")) := by
  intro pins s σ H x xs v us Q I rx rs ⟨p, ps, M, Qa, hM, rp, rps, hr, hk⟩
  unfold bmA at hr
  split at hr <;> first
    | (exfalso; exact hr)
    | skip
  all_goals (try contradiction)
  cases rp; cases rps
  split at hr
  · rename_i ps e1
    obtain ⟨vs, h1, rs1⟩ := hM.lst e1
    split at hr
    · rename_i z hz
      obtain ⟨w, h2, h3⟩ := getLast_rep rs1 hz
      exact mt_pop pins s σ H _ _ v us Q I rx rs ⟨_, vs, w, rfl, rfl, h1, h2, hk.set hM h1 rs1.dropLast h3 hr⟩
    · exact hr.elim
  · exact hr.elim
theorem strs_rep {K : PySem.W.Frag} {H : Hp} : ∀ {ps : List PV} {ss : List String} {vs : List V}, strsOf ps = some ss → Reps K H ps vs → vs = ss.map fun s => V.str (Str.ofString s)
  | [], ss, vs, h, r => by cases r; cases h; rfl
  | p :: ps, ss, vs, h, r => by
    cases r with
    | cons a b =>
      cases p <;> simp only [strsOf] at h <;> first
        | cases h
        | skip
      split at h
      · rename_i ss' h'
        cases h
        cases a
        rw [List.map_cons, strs_rep h' b]
      · cases h
theorem index_snd : MtR X "tuple.index" (liftM (gOf X ca) (bmA "tuple" "index")) := by
  intro pins s σ H x xs v us Q I rx rs ⟨p, ps, M, Qa, hM, rp, rps, hr, hk⟩
  unfold bmA at hr
  split at hr <;> first
    | (exfalso; exact hr)
    | skip
  all_goals (try contradiction)
  cases rps with
  | cons r1 r2 =>
    cases r2; cases r1
    cases rp with
    | @tup a vs qs t rs1 =>
      split at hr
      · rename_i ss hss
        split at hr
        · rename_i j hj
          have e := strs_rep hss rs1
          have hj2 := List.idxOf?_eq_some_iff.mp hj
          obtain ⟨hl, hj3, hj4⟩ := hj2
          refine mt_tup_index pins s σ H _ _ v us Q I rx rs ⟨a, ss.map Str.ofString, _, j, rfl, rfl, ?_, ?_, ?_, hk.int hM hr⟩
          · rw [List.map_map]
            subst e
            exact t.sq
          · rw [List.getElem?_map, List.getElem?_eq_getElem hl, hj3]; rfl
          · intro m hm q
            rw [List.getElem?_map, List.getElem?_eq_getElem (by omega)] at q
            exact hj4 m hm (so_inj (Option.some.inj q))
        · exact hr.elim
      · exact hr.elim
end
end Rx
end

section
set_option maxHeartbeats 4000000
/-! Rx: builtins. -/
namespace Rx
open PySem PySem.Spec PyProof.Rows L2
section
variable {X : Cx} {ca : String → Addr}
theorem Reps.one_inv {K : PySem.W.Frag} {H : Hp} {p : PV} {vs : List V} (r : Reps K H [p] vs) : ∃ v, vs = [v] ∧ Rep K H p v := by
  cases r with
  | cons a b => cases b; exact ⟨_, rfl, a⟩
theorem Reps.two_inv {K : PySem.W.Frag} {H : Hp} {p q : PV} {vs : List V} (r : Reps K H [p, q] vs) : ∃ v w, vs = [v, w] ∧ Rep K H p v ∧ Rep K H q w := by
  cases r with
  | cons a b =>
    cases b with
    | cons c d => cases d; exact ⟨_, _, rfl, a, c⟩
theorem KdRep.length {K : PySem.W.Frag} {H : Hp} : ∀ {kvs : List (String × PV)} {es : List DictEntry}, KdRep K H kvs es → kvs.length = es.length
  | _, _, .nil => rfl
  | _, _, .cons _ _ _ d => by simp [d.length]
theorem KdRep.size {K : PySem.W.Frag} {H : Hp} {kvs : List (String × PV)} {es : Array DictEntry} (r : KdRep K H kvs es.toList) : es.size = kvs.length := by
  rw [← Array.length_toList]; exact r.length.symm
theorem ERep.size {w : World} {K : PySem.W.Frag} {H : Hp} {kvs : List (PV × PV)} {es : Array DictEntry} (r : ERep w K H kvs es.toList) : es.size = kvs.length := by
  rw [← Array.length_toList]; exact r.length.symm
theorem len_raw {prog : Program} {w : World} {A : Around} {E : Value → Shared → Prop} {s : Shared} {d : Addr} {o : Obj} {es : Array DictEntry} {ep : Nat} {Q : Value → Shared → Prop} (hS : (d == sysModules) = false) (ho : s.heap.get? d = some o) (hx : o.ExactDict) (hd : o.data = .dict es ep) (hz : es.size ≤ sizeLine)
    (h : ∀ t t', Q (.int es.size t) { s with toks := t' }) : wpAny (model prog w) A (call (.builtin "len") [.ref d]) Q E s := by
  rw [sizeLine_eq] at hz
  exact call_len_slot (n := es.size) ⟨o, ho, hx.1⟩ PySem.F.slot_dict_len (fun Q' q => PySem.call_len_raw hS ⟨o, ho, hx, hd⟩ q) (by omega) (by omega) (h _ _)
/-- the keys of a raw dict as a new list -/
theorem list_raw (hc : X.calm = true) {pins : List (Addr × Obj)} {σ : L2.St} {H : Hp} {s : Shared} {d : Addr} {o : Obj} {es : Array DictEntry} {ep : Nat} {vs : List V} {Q : VK} (I : L2.Inv X pins σ H s) (hS : (d == sysModules) = false) (ho : s.heap.get? d = some o) (hx : o.ExactDict)
    (hd : o.data = .dict es ep) (hz : es.size ≤ sizeLine) (rv : Vals vs (es.toList.map (·.key))) (h : ∀ l, H l = none → Q (.ref l) (upd H l (.lst vs))) : wpAny (model X.prog X.w) X.A (call (.type "list") [.ref d]) (EP X pins σ Q) X.xe s := by
  refine PySem.W.kdl_call (kdl_raw hS hx hd) (I.ok.hd hc) ho hz fun h' tk acc c hk hn hi => ?_
  have e : acc.toList = es.toList.map (·.key) := by
    obtain ⟨h1, h2⟩ := hi
    apply List.ext_getElem?
    intro j
    rw [List.getElem?_map, Array.getElem?_toList, Array.getElem?_toList]
    cases q : acc[j]? with
    | some v =>
      obtain ⟨en, g1, g2⟩ := h2 j v q
      rw [g1, g2]; rfl
    | none =>
      have : acc.size ≤ j := by simpa using q
      have : es[j]? = none := by simp; omega
      rw [this]; rfl
  have rv' : Vals vs acc.toList := by rw [e]; exact rv
  refine ⟨.ref s.heap.objs.size, _, I.laid (a := s.heap.objs.size) (o := .lst vs) (t' := tk) hk (Nat.le_refl _) ⟨?_, acc.toList, c, rv', ?_⟩, rfl, h _ (I.hok.fresh (Nat.le_refl _))⟩
  · rw [rv.length, List.length_map, Array.length_toList]; exact hz
  · simpa using hn
theorem erep_keys {w : World} {K : PySem.W.Frag} {H : Hp} : ∀ {kvs : List (PV × PV)} {es : List DictEntry}, ERep w K H kvs es → ∃ vs, Reps K H (kvs.map (·.1)) vs ∧ Vals vs (es.map (·.key))
  | _, _, .nil => ⟨[], .nil, .nil⟩
  | _, _, .cons h1 h2 h3 r1 r2 r3 r4 t => by
    obtain ⟨vs, g1, g2⟩ := erep_keys t
    exact ⟨_ :: vs, .cons r1 g1, .cons r2 g2⟩
theorem kd_keys {K : PySem.W.Frag} {H : Hp} : ∀ {kvs : List (String × PV)} {es : List DictEntry}, KdRep K H kvs es → ∃ vs, Reps K H (kvs.map fun q => .str q.1) vs ∧ Vals vs (es.map (·.key))
  | _, _, .nil => ⟨[], .nil, .nil⟩
  | _, _, .cons (t := tk) h1 r2 r3 t => by
    obtain ⟨vs, g1, g2⟩ := kd_keys t
    exact ⟨_ :: vs, .cons (.str _) g1, .cons ⟨tk, h1⟩ g2⟩
theorem len_snd : CallR X (.builtin "len") (liftC (gOf X ca) (biA "len")) := by
  intro pins s σ H xs us Q I r ⟨ps, M, Qa, hM, rps, hr, hk⟩
  unfold biA at hr
  split at hr <;> first
    | (exfalso; exact hr)
    | skip
  all_goals (try contradiction)
  obtain ⟨v, rfl, rp⟩ := rps.one_inv
  split at hr
  · cases rp
    refine call_len pins s σ H _ us Q I r ⟨_, _, rfl, ⟨?_, rfl⟩, ?_⟩
    · rw [so_len]; exact Nat.le_trans hr.1 sz_1000000
    · rw [so_len]; exact hk.int hM hr.2
  · cases rp with
    | tup t rs => exact call_len pins s σ H _ us Q I r ⟨_, _, rfl, .inr ⟨_, t.sq, rs.length⟩, hk.int hM hr⟩
  · cases rp with
    | xl t rs => exact call_len pins s σ H _ us Q I r ⟨_, _, rfl, .inl ⟨_, t.sq, rs.length⟩, hk.int hM hr⟩
  · cases rp with
    | @kd a o es ep _ g1 g2 g3 g4 kr =>
      obtain ⟨u, rfl, ru⟩ := r.one
      cases ru
      have e := kr.size.symm
      rw [e] at hr
      exact len_raw g4.2 (I.kIn _ _ g1) g2 g3 (by rw [← e, sizeLine_eq]; omega) fun t t' => ⟨.int es.size, H, I.tok t', ⟨t, rfl⟩, hk.int hM hr⟩
  · cases rp
    split at hr
    · rename_i ps e1
      obtain ⟨vs, h1, rs⟩ := hM.lst e1
      exact call_len pins s σ H _ us Q I r ⟨_, _, rfl, .inl ⟨_, SqL.of h1, rs.length⟩, hk.int hM hr⟩
    · rename_i kvs e1
      obtain ⟨es, h1, h2, h3, h4, h5⟩ := hM.dct e1
      obtain ⟨o, ep, g1, g2, g3⟩ := dct_obj I h1
      obtain ⟨u, rfl, ru⟩ := r.one
      cases ru
      have e := h2.size.symm
      rw [e] at hr
      exact len_raw h5 g1 g2 g3 (by rw [← e]; exact h4) fun t t' => ⟨.int es.size, H, I.tok t', ⟨t, rfl⟩, hk.int hM hr⟩
    · exact hr.elim
  · exact hr.elim
theorem list_snd (hc : X.calm = true) : CallR X (.type "list") (liftC (gOf X ca) (biA "list")) := by
  intro pins s σ H xs us Q I r ⟨ps, M, Qa, hM, rps, hr, hk⟩
  unfold biA at hr
  split at hr <;> first
    | (exfalso; exact hr)
    | skip
  all_goals (try contradiction)
  obtain ⟨v, rfl, rp⟩ := rps.one_inv
  split at hr
  · cases rp with
    | tup t rs => exact call_list_of pins s σ H _ us Q I r ⟨_, _, rfl, .inr t.sq, fun l hl => hk.lst hM rs hl hr⟩
  · cases rp with
    | xl t rs => exact call_list_of pins s σ H _ us Q I r ⟨_, _, rfl, .inl t.sq, fun l hl => hk.lst hM rs hl hr⟩
  · cases rp with
    | @kd a o es ep _ g1 g2 g3 g4 kr =>
      obtain ⟨u, rfl, ru⟩ := r.one
      cases ru
      obtain ⟨vs, rv, rk⟩ := kd_keys kr
      exact list_raw hc I g4.2 (I.kIn _ _ g1) g2 g3 (by rw [kr.size, sizeLine_eq]; omega) rk fun l hl => hk.lst hM rv hl hr
  · cases rp
    split at hr
    · rename_i ps e1
      obtain ⟨vs, h1, rs⟩ := hM.lst e1
      exact call_list_of pins s σ H _ us Q I r ⟨_, _, rfl, .inl (SqL.of h1), fun l hl => hk.lst hM rs hl hr⟩
    · rename_i kvs e1
      obtain ⟨es, h1, h2, h3, h4, h5⟩ := hM.dct e1
      obtain ⟨o, ep, g1, g2, g3⟩ := dct_obj I h1
      obtain ⟨u, rfl, ru⟩ := r.one
      cases ru
      obtain ⟨vs, rv, rk⟩ := erep_keys h2
      exact list_raw hc I h5 g1 g2 g3 (by rw [h2.size]; exact h4) rk fun l hl => hk.lst hM rv hl hr
    · exact hr.elim
  · exact hr.elim
theorem tuple_snd : CallR X (.type "tuple") (liftC (gOf X ca) (biA "tuple")) := by
  intro pins s σ H xs us Q I r ⟨ps, M, Qa, hM, rps, hr, hk⟩
  unfold biA at hr
  split at hr <;> first
    | (exfalso; exact hr)
    | skip
  all_goals (try contradiction)
  obtain ⟨v, rfl, rp⟩ := rps.one_inv
  split at hr
  · cases rp with
    | tup t rs => exact call_tupleF pins s σ H _ us Q I r ⟨_, _, rfl, .inr ⟨t.sq, hk.val hM (.tup t rs) hr⟩⟩
  · cases rp
    split at hr
    · rename_i ps e1
      obtain ⟨vs, h1, rs⟩ := hM.lst e1
      exact call_tupleF pins s σ H _ us Q I r ⟨_, _, rfl, .inl ⟨SqL.of h1, fun l us hl => hk.tup hM rs hl hr⟩⟩
    · exact hr.elim
  · exact hr.elim
theorem int_snd : CallR X (.type "int") (liftC (gOf X ca) (biA "int")) := by
  intro pins s σ H xs us Q I r ⟨ps, M, Qa, hM, rps, hr, hk⟩
  unfold biA at hr
  split at hr <;> first
    | (exfalso; exact hr)
    | skip
  all_goals (try contradiction)
  obtain ⟨v, rfl, rp⟩ := rps.one_inv
  split at hr
  · cases rp
    exact call_int1 pins s σ H _ us Q I r (.inl ⟨_, rfl, hk.int hM hr⟩)
  · cases rp
    exact call_int1 pins s σ H _ us Q I r (.inr ⟨_, rfl, hk.int hM hr⟩)
  · cases rp
    obtain ⟨hl, n, hn, hq⟩ := hr
    exact call_int_str pins s σ H _ us Q I r ⟨_, n, rfl, hn, by rw [so_len]; exact hl, hk.int hM hq⟩
  · exact hr.elim
theorem min_snd (hc : X.calm = true) : CallR X (.builtin "min") (liftC (gOf X ca) (biA "min")) := by
  intro pins s σ H xs us Q I r ⟨ps, M, Qa, hM, rps, hr, hk⟩
  unfold biA at hr
  split at hr <;> first
    | (exfalso; exact hr)
    | skip
  all_goals (try contradiction)
  obtain ⟨v, w, rfl, rp, rq⟩ := rps.two_inv
  split at hr
  · cases rp; cases rq
    exact call_min2 hc pins s σ H _ us Q I r ⟨_, _, rfl, hk.int hM hr⟩
  · exact hr.elim
theorem max_snd (hc : X.calm = true) : CallR X (.builtin "max") (liftC (gOf X ca) (biA "max")) := by
  intro pins s σ H xs us Q I r ⟨ps, M, Qa, hM, rps, hr, hk⟩
  unfold biA at hr
  split at hr <;> first
    | (exfalso; exact hr)
    | skip
  all_goals (try contradiction)
  obtain ⟨v, w, rfl, rp, rq⟩ := rps.two_inv
  split at hr
  · cases rp; cases rq
    exact call_max2 hc pins s σ H _ us Q I r ⟨_, _, rfl, hk.int hM hr⟩
  · exact hr.elim
theorem bls_rep {K : PySem.W.Frag} {H : Hp} : ∀ {ps : List PV} {bs : List Bool} {vs : List V}, blsOf ps = some bs → Reps K H ps vs → vs = bs.map V.bl
  | [], bs, vs, h, r => by cases r; cases h; rfl
  | p :: ps, bs, vs, h, r => by
    cases r with
    | cons a b =>
      cases p <;> simp only [blsOf] at h <;> first
        | cases h
        | skip
      split at h
      · rename_i bs' h'
        cases h
        cases a
        rw [List.map_cons, bls_rep h' b]
      · cases h
theorem seqA_lst {M : MM} {p : PV} {ps : List PV} {H : Hp} {v : V} (hM : HRep X.w ca X.K M H) (r : Rep X.K H p v) (h : seqA p M = some ps) : ∃ a vs, v = .ref a ∧ (SqL X.K H a vs ∨ SqT X.K H a vs) ∧ Reps X.K H ps vs := by
  unfold seqA at h
  split at h
  · cases h
    cases r with
    | tup t rs => exact ⟨_, _, rfl, .inr t.sq, rs⟩
  · cases h
    cases r with
    | xl t rs => exact ⟨_, _, rfl, .inl t.sq, rs⟩
  · cases r
    split at h
    · rename_i xs e1
      cases h
      obtain ⟨vs, h1, rs⟩ := hM.lst e1
      exact ⟨_, _, rfl, .inl (SqL.of h1), rs⟩
    · cases h
  · cases h
theorem all_snd (hc : X.calm = true) : CallR X (.builtin "all") (liftC (gOf X ca) (biA "all")) := by
  intro pins s σ H xs us Q I r ⟨ps, M, Qa, hM, rps, hr, hk⟩
  unfold biA at hr
  split at hr <;> first
    | (exfalso; exact hr)
    | skip
  all_goals (try contradiction)
  obtain ⟨v, rfl, rp⟩ := rps.one_inv
  split at hr
  · cases rp
    split at hr
    · rename_i ps e1
      split at hr
      · rename_i bs hb
        obtain ⟨vs, h1, rs⟩ := hM.lst e1
        have e := bls_rep hb rs
        subst e
        exact cr_all hc pins s σ H _ us Q I r ⟨_, bs, rfl, SqL.of h1, hk.bl hM hr⟩
      · exact hr.elim
    · exact hr.elim
  · exact hr.elim
theorem any_snd (hc : X.calm = true) : CallR X (.builtin "any") (liftC (gOf X ca) (biA "any")) := by
  intro pins s σ H xs us Q I r ⟨ps, M, Qa, hM, rps, hr, hk⟩
  unfold biA at hr
  split at hr <;> first
    | (exfalso; exact hr)
    | skip
  all_goals (try contradiction)
  obtain ⟨v, rfl, rp⟩ := rps.one_inv
  split at hr
  · cases rp
    split at hr
    · rename_i ps e1
      split at hr
      · rename_i bs hb
        obtain ⟨vs, h1, rs⟩ := hM.lst e1
        have e := bls_rep hb rs
        subst e
        exact cr_any hc pins s σ H _ us Q I r ⟨_, bs, rfl, SqL.of h1, hk.bl hM hr⟩
      · exact hr.elim
    · exact hr.elim
  · exact hr.elim
end
end Rx
end

section
set_option maxHeartbeats 4000000
/-! Rx: methods of texts, str(n), sorted texts. -/
namespace Rx
open PySem PySem.Spec PyProof.Rows L2 TL
theorem reps_strs {K : PySem.W.Frag} {H : Hp} : ∀ ss : List String, Reps K H (ss.map .str) ((ss.map so).map V.str)
  | [] => .nil
  | s :: ss => .cons (.str s) (reps_strs ss)
theorem log_small {n : Nat} (h : n < 1000) : n.log2 < 1920 := by
  by_cases z : n = 0
  · subst z; decide
  · rw [Nat.log2_lt z]
    exact Nat.lt_of_lt_of_le h (Nat.le_trans (by decide : 1000 ≤ 2 ^ 10) (Nat.pow_le_pow_right (by decide) (by decide)))
theorem unso : ∀ {ss : List String} {ys : List Str}, ys.Perm (ss.map so) → ∃ zs : List String, ys = zs.map so ∧ zs.Perm ss := fun {ss ys} h => by
  have key : ∀ {l m : List Str}, l.Perm m → ∀ ss : List String, m = ss.map so → ∃ zs : List String, l = zs.map so ∧ zs.Perm ss := by
    intro l m h
    induction h with
    | nil =>
      intro ss e
      cases ss with
      | nil => exact ⟨[], rfl, .nil⟩
      | cons => cases e
    | cons x _ ih =>
      intro ss e
      cases ss with
      | nil => cases e
      | cons s r =>
        rw [List.map_cons] at e
        injection e with e1 e2
        obtain ⟨zs, h1, h2⟩ := ih r e2
        exact ⟨s :: zs, by rw [List.map_cons, h1, e1], .cons s h2⟩
    | swap x y l =>
      intro ss e
      rcases ss with _ | ⟨a, _ | ⟨b, r⟩⟩
      · cases e
      · cases e
      · rw [List.map_cons, List.map_cons] at e
        injection e with e1 e2
        injection e2 with e2 e3
        exact ⟨b :: a :: r, by rw [List.map_cons, List.map_cons, e1, e2, e3], .swap a b r⟩
    | trans _ _ ih1 ih2 =>
      intro ss e
      obtain ⟨zs, h1, h2⟩ := ih2 ss e
      obtain ⟨ws, h3, h4⟩ := ih1 zs h1
      exact ⟨ws, h3, h4.trans h2⟩
  exact key h ss rfl
section
variable {X : Cx} {ca : String → Addr}
theorem Hands.strs {G : Gw} {H : Hp} {Qa : KV1} {Q : VK} (h : Hands G H Qa Q) {M : MM} (hM : HRep G.w G.ca G.K M H) {ss : List String} (q : newL (ss.map .str) M Qa) : rNewStrs (ss.map so) H Q := fun p hp => h.lst hM (reps_strs ss) hp q
theorem split_snd : MtR X "str.split" (liftM (gOf X ca) (bmA "str" "split")) := by
  intro pins s σ H x xs v us Q I rx rs ⟨p, ps, M, Qa, hM, rp, rps, hr, hk⟩
  unfold bmA at hr
  split at hr <;> first
    | (exfalso; exact hr)
    | skip
  all_goals (try contradiction)
  cases rp
  cases rps with
  | cons r1 r2 =>
    cases r2; cases r1
    split at hr
    · rename_i c hc
      refine mt_split pins s σ H _ _ v us Q I rx rs ⟨_, _, rfl, rfl, ?_, ?_, ?_⟩
      · rw [so_len, ← String.length_toList, hc]; rfl
      · rw [so_len]; have := hr.2.1; rw [sizeLine_eq]; omega
      · rw [split_so hc hr.1]; exact hk.strs hM hr.2.2
    · exact hr.elim
theorem strip_snd : MtR X "str.strip" (liftM (gOf X ca) (bmA "str" "strip")) := by
  intro pins s σ H x xs v us Q I rx rs ⟨p, ps, M, Qa, hM, rp, rps, hr, hk⟩
  unfold bmA at hr
  split at hr <;> first
    | (exfalso; exact hr)
    | skip
  all_goals (try contradiction)
  cases rp
  cases rps with
  | cons r1 r2 =>
    cases r2; cases r1
    split at hr
    · rename_i c hc
      refine mt_stripChars pins s σ H _ _ v us Q I rx rs ⟨_, _, rfl, rfl, ?_, ?_⟩
      · rw [so_len]; exact Nat.le_trans hr.1 sz_1000000
      · rw [strip_so hc]; exact hk.val hM (.str _) hr.2
    · exact hr.elim
theorem join_snd : MtR X "str.join" (liftM (gOf X ca) (bmA "str" "join")) := by
  intro pins s σ H x xs v us Q I rx rs ⟨p, ps, M, Qa, hM, rp, rps, hr, hk⟩
  unfold bmA at hr
  split at hr <;> first
    | (exfalso; exact hr)
    | skip
  all_goals (try contradiction)
  cases rp
  cases rps with
  | cons r1 r2 =>
    cases r2
    split at hr
    · rename_i qs hq
      split at hr
      · rename_i ss hss
        obtain ⟨a, vs, rfl, ha, rs1⟩ := seqA_lst hM r1 hq
        have e := strs_rep hss rs1
        have key : ∀ sep : String, sep.length ≤ 1000 → (joinS sep ss).length ≤ 100000 → ss.length ≤ 1000 → ((ss.map so).map (·.length)).sum + (ss.map so).length * (so sep).length ≤ 16777216 := fun sep h2 h3 h4 => by
          have h1 := join_sum sep ss
          have e1 : (ss.map so).map (·.length) = ss.map String.length := by
            rw [List.map_map]
            exact List.map_congr_left fun z _ => so_len z
          rw [e1, List.length_map, so_len]
          have h5 : ss.length * sep.length ≤ 1000 * 1000 := Nat.mul_le_mul h4 h2
          omega
        refine mt_join pins s σ H _ _ v us Q I rx rs ⟨_, a, ss.map so, rfl, rfl, ?_, ?_, ?_⟩
        · rw [List.map_map]
          subst e
          exact ha
        · exact key _ hr.1 hr.2.1 hr.2.2.1
        · rw [join_eq, join_so]; exact hk.val hM (.str _) hr.2.2.2
      · exact hr.elim
    · exact hr.elim
theorem str_snd : CallR X (.type "str") (liftC (gOf X ca) (biA "str")) := by
  intro pins s σ H xs us Q I r ⟨ps, M, Qa, hM, rps, hr, hk⟩
  unfold biA at hr
  split at hr <;> first
    | (exfalso; exact hr)
    | skip
  all_goals (try contradiction)
  obtain ⟨v, rfl, rp⟩ := rps.one_inv
  split at hr
  · cases rp
    exact call_str_int pins s σ H _ us Q I r ⟨_, rfl, log_small hr.1, hk.val hM (.str _) hr.2⟩
  · exact hr.elim
/-- sorted(xs) of texts in a tuple -/
theorem cr_sortedTS : CallR X (.builtin "sorted") (fun vs H Q => ∃ (a : Addr) (xs : List Str), vs = [V.ref a] ∧ SqT X.K H a (xs.map V.str) ∧ xs.length < 64 ∧
  ∀ (ys : List Str) (p : Addr), ys.Perm xs → sortedS ys = true → H p = none → Q (.ref p) (upd H p (.lst (ys.map V.str)))) := by
  intro pins s σ H xs us Q I r q
  obtain ⟨a, ks, ex, hd, h64, q⟩ := q
  subst ex
  obtain ⟨u, eu, rx⟩ := vals1 r
  subst eu
  cases rx
  obtain ⟨its, rv, ⟨o, ho, hc, n, hdt⟩, hz⟩ := I.tuple hd
  have hlen0 := rv.length
  rw [List.length_map] at hlen0
  refine Calls.call_function_entry PyProof.Rows.kind_sorted PyProof.Rows.plain_sorted PyProof.Rows.entry_sorted (PyProof.Rows.args_sorted1 _) ?_
  unfold Builtin.«sorted»
  refine wpAny_bind (m := checkCount "sorted" 1 1 _) (wpAny_pure ?_)
  refine wpAny_bind (wpAny_collect_seq a (T := "tuple") (.inr rfl) ho hc hdt (fun h' hk => ?_) (by rw [List.size_toArray]; rw [sizeLine_eq]; omega))
  rw [List.toList_toArray]
  have hS : StrsAre its ks := rv.strs
  have I1 : L2.Inv X pins σ H { s with heap := h' } := I.kept (t' := s.toks) hk
  refine wpAny_bind (wpAny_newList ?_ (by rw [sizeLine_eq]; omega))
  have hoL : (h'.push (seqObj "list" its.toArray 0)).get? h'.objs.size = some (seqObj "list" its.toArray 0) := Heap.get?_push_size _ rfl
  show wpAny _ _ _ _ _ { s with heap := h'.push (seqObj "list" its.toArray 0) }
  refine wpAny_bind (wpAny_holding (wpAny_call_entry PyProof.Rows.slot_list_sort ⟨_, hoL, rfl⟩ PyProof.Rows.entry_list_sort
    (list_sort_treeK strKind_oneLt (s := { s with heap := h'.push (seqObj "list" its.toArray 0) }) hoL hS.keysOf (fun v₁ v₂ rest e => keyKind_strs (by rw [← e]; exact hS)) (by omega) fun st' hp hs => ⟨_, rfl, ?_⟩)
    (PyProof.Rows.args_list_sort _)))
  obtain ⟨ys, g1, g2, g3⟩ := sorted_out_str hS hp hs
  obtain ⟨e', he'⟩ := PyProof.Rows.sortedHeap_at (vs := its) (out := (arrOf st').map (·.2)) hoL
  have hlen : (ys.map V.str).length ≤ sizeLine := by
    rw [List.length_map, g2.length_eq]
    exact Nat.le_trans (Nat.le_of_lt h64) (by decide)
  refine wpAny_pure ⟨_, rfl, .ref h'.objs.size, upd H h'.objs.size (.lst (ys.map V.str)), I1.laid (t' := s.toks) (fun b u e => ?_) (Nat.le_refl _)
    (show ObjOk X.prog X.w _ _ _ (.lst (ys.map V.str)) from ⟨hlen, ((arrOf st').map (·.2)).toList, e', vals_of_strs g1, by rw [Array.toArray_toList]; exact he'⟩), rfl, q ys _ g2 g3 (I1.hok.fresh (Nat.le_refl _))⟩
  have hb : b < h'.objs.size := Heap.lt_size e
  rw [PyProof.Rows.sortedHeap_old (Nat.ne_of_lt hb) (by rw [size_push']; exact Nat.lt_succ_of_lt hb)]
  exact Heap.get?_push_of_some _ e
/-- sorted(d) of a dict with texts as keys -/
theorem sorted_rawS (hc : X.calm = true) {pins : List (Addr × Obj)} {σ : L2.St} {H : Hp} {s : Shared} {d : Addr} {o : Obj} {es : Array DictEntry} {ep : Nat} {ks : List Str} {Q : VK} (I : L2.Inv X pins σ H s) (hS : (d == sysModules) = false) (ho : s.heap.get? d = some o) (hx : o.ExactDict)
    (hd : o.data = .dict es ep) (h64 : ks.length < 64) (rv : Vals (ks.map V.str) (es.toList.map (·.key))) (q : ∀ (ys : List Str) (p : Addr), ys.Perm ks → sortedS ys = true → H p = none → Q (.ref p) (upd H p (.lst (ys.map V.str)))) :
    wpAny (model X.prog X.w) X.A (call (.builtin "sorted") [.ref d]) (EP X pins σ Q) X.xe s := by
  have hlen0 : ks.length = es.size := by
    have := rv.length
    rw [List.length_map, List.length_map] at this
    rw [this, Array.length_toList]
  have hz : es.size ≤ sizeLine := by rw [← hlen0, sizeLine_eq]; omega
  refine Calls.call_function_entry PyProof.Rows.kind_sorted PyProof.Rows.plain_sorted PyProof.Rows.entry_sorted (PyProof.Rows.args_sorted1 _) ?_
  unfold Builtin.«sorted»
  refine wpAny_bind (m := checkCount "sorted" 1 1 _) (wpAny_pure ?_)
  refine wpAny_bind (PySem.W.kdu_collect (A := X.A.in1) (kdl_raw hS hx hd) (I.ok.hd hc) ho hz fun h' tk acc hk hi => ?_)
  have e : acc.toList = es.toList.map (·.key) := by
    obtain ⟨h1, h2⟩ := hi
    apply List.ext_getElem?
    intro j
    rw [List.getElem?_map, Array.getElem?_toList, Array.getElem?_toList]
    cases z : acc[j]? with
    | some v =>
      obtain ⟨en, g1, g2⟩ := h2 j v z
      rw [g1, g2]; rfl
    | none =>
      have : acc.size ≤ j := by simpa using z
      have : es[j]? = none := by simp; omega
      rw [this]; rfl
  rw [e]
  generalize es.toList.map (·.key) = its at rv
  have hl : its.length = ks.length := by have := rv.length; rw [List.length_map] at this; exact this.symm
  have hS2 : StrsAre its ks := rv.strs
  have I1 : L2.Inv X pins σ H { s with heap := h', toks := tk } := I.kept (t' := tk) hk
  refine wpAny_bind (wpAny_newList ?_ (by rw [sizeLine_eq]; omega))
  have hoL : (h'.push (seqObj "list" its.toArray 0)).get? h'.objs.size = some (seqObj "list" its.toArray 0) := Heap.get?_push_size _ rfl
  show wpAny _ _ _ _ _ { s with heap := h'.push (seqObj "list" its.toArray 0), toks := tk }
  refine wpAny_bind (wpAny_holding (wpAny_call_entry PyProof.Rows.slot_list_sort ⟨_, hoL, rfl⟩ PyProof.Rows.entry_list_sort
    (list_sort_treeK strKind_oneLt (s := { s with heap := h'.push (seqObj "list" its.toArray 0), toks := tk }) hoL hS2.keysOf (fun v₁ v₂ rest e => keyKind_strs (by rw [← e]; exact hS2)) (by omega) fun st' hp hs => ⟨_, rfl, ?_⟩)
    (PyProof.Rows.args_list_sort _)))
  obtain ⟨ys, g1, g2, g3⟩ := sorted_out_str hS2 hp hs
  obtain ⟨e', he'⟩ := PyProof.Rows.sortedHeap_at (vs := its) (out := (arrOf st').map (·.2)) hoL
  have hlen : (ys.map V.str).length ≤ sizeLine := by
    rw [List.length_map, g2.length_eq]
    exact Nat.le_trans (Nat.le_of_lt h64) (by decide)
  refine wpAny_pure ⟨_, rfl, .ref h'.objs.size, upd H h'.objs.size (.lst (ys.map V.str)), I1.laid (t' := tk) (fun b u e => ?_) (Nat.le_refl _)
    (show ObjOk X.prog X.w _ _ _ (.lst (ys.map V.str)) from ⟨hlen, ((arrOf st').map (·.2)).toList, e', vals_of_strs g1, by rw [Array.toArray_toList]; exact he'⟩), rfl, q ys _ g2 g3 (I1.hok.fresh (Nat.le_refl _))⟩
  have hb : b < h'.objs.size := Heap.lt_size e
  rw [PyProof.Rows.sortedHeap_old (Nat.ne_of_lt hb) (by rw [size_push']; exact Nat.lt_succ_of_lt hb)]
  exact Heap.get?_push_of_some _ e
theorem pairs_inv : ∀ {xs : List PV} {kvs : List (PV × PV)}, pairsOf xs = some kvs → xs = kvs.map fun q => .tup [q.1, q.2]
  | [], _, h => by cases h; rfl
  | x :: r, kvs, h => by
    unfold pairsOf at h
    split at h
    · rename_i e; cases e
    · rename_i k v r' e
      cases e
      split at h
      · rename_i l hl
        cases h
        rw [pairs_inv hl]; rfl
      · cases h
    · cases h
/-- the values stand for pairs of texts -/
theorem pairs_each {K : PySem.W.Frag} {H : Hp} {P : Program} {w : World} {h : Heap} (ok : HOk P w H h) (kin : K.In h) : ∀ {kvs : List (PV × PV)} {vs : List V} {us : List Value}, pairsB kvs = true → Reps K H (kvs.map fun q => .tup [q.1, q.2]) vs → Vals vs us →
    PySem.W.EachIs (fun u q => ∃ v, Rep K H (.tup [q.1, q.2]) v ∧ RelV v u) us kvs ∧ PySem.W.EachIs (fun u q => ∃ as, Reads h u (pairD q) as) us kvs
  | [], _, _, _, .nil, .nil => ⟨.nil, .nil⟩
  | (k, x) :: r, _, _, hb, .cons (v := v) ra rs, .cons (ru) rv => by
    cases k with
    | str a =>
      cases x with
      | str b =>
        obtain ⟨e1, e2⟩ := pairs_each ok kin (kvs := r) hb rs rv
        refine ⟨.cons ⟨_, ra, ru⟩ e1, .cons ?_ e2⟩
        cases ra with
        | tup ha rr =>
          rename_i t ts
          have eu := ru
          cases ru
          cases rr with
          | cons r1 rr =>
            cases rr with
            | cons r2 rr =>
              cases rr
              cases r1
              cases r2
              have key : ∀ {o : Obj} {its : List Value} {n : Nat}, h.get? t = some o → o.cls = .type "tuple" → o.data = .seq its.toArray n → Vals [V.str (so a), V.str (so b)] its → ∃ as, Reads h (.ref t) (pairD (.str a, .str b)) as := fun {o its n} g1 g2 g3 g4 => by
                obtain ⟨u1, u2, rfl, w1, w2⟩ := vals2 g4
                obtain ⟨t1, rfl⟩ := w1
                obtain ⟨t2, rfl⟩ := w2
                exact ⟨_, .tuple g1 g2 g3 (.cons (.str _ _) (.cons (.str _ _) .nil))⟩
              rcases ha with ⟨o, h1, h2, h3⟩ | ⟨o, its, n, h1, h2, h3, h4, h5, h6⟩
              · obtain ⟨g1, gz, its, g2, g3⟩ := (show ObjOk P w H h t (.frz o (.tup _)) from ok t _ h1)
                obtain ⟨o', g4, g5, n, g6⟩ := g3
                exact key g4 g5 g6 g2
              · exact key (its := its.toList) (kin _ _ h1) h2 (by rw [Array.toArray_toList]; exact h4) h6
      | _ => cases hb
    | _ => cases hb
theorem pairs_alike : ∀ {kvs : List (PV × PV)}, pairsB kvs = true → ∀ q ∈ kvs, ∃ a b, q = (.str a, .str b)
  | [], _, q, hq => by cases hq
  | (k, x) :: r, hb, q, hq => by
    cases k with
    | str a =>
      cases x with
      | str b =>
        rcases List.mem_cons.mp hq with rfl | hq
        · exact ⟨a, b, rfl⟩
        · exact pairs_alike (kvs := r) hb q hq
      | _ => cases hb
    | _ => cases hb
theorem each_reps {K : PySem.W.Frag} {H : Hp} : ∀ {kvs : List (PV × PV)} {us : List Value}, PySem.W.EachIs (fun u q => ∃ v, Rep K H (.tup [q.1, q.2]) v ∧ RelV v u) us kvs → ∃ vs, Vals vs us ∧ Reps K H (kvs.map fun q => .tup [q.1, q.2]) vs
  | [], _, .nil => ⟨[], .nil, .nil⟩
  | _ :: _, _, .cons ⟨v, h1, h2⟩ r => by
    obtain ⟨vs, e1, e2⟩ := each_reps r
    exact ⟨v :: vs, .cons h2 e1, .cons h1 e2⟩
theorem sorted_snd (hc : X.calm = true) (hu : X.A.units + 64 < cLine) : CallR X (.builtin "sorted") (liftC (gOf X ca) (biA "sorted")) := by
  intro pins s σ H xs us Q I r ⟨ps, M, Qa, hM, rps, hr, hk⟩
  unfold biA at hr
  split at hr <;> first
    | (exfalso; exact hr)
    | skip
  all_goals (try contradiction)
  obtain ⟨v, rfl, rp⟩ := rps.one_inv
  split at hr
  · rename_i qs hq
    split at hr
    · rename_i ss hss
      obtain ⟨a, vs, rfl, ha, rs1⟩ := seqA_lst hM rp hq
      have e := strs_rep hss rs1
      have e2 : vs = (ss.map so).map V.str := by rw [e, List.map_map]; rfl
      have fin : ∀ (ys : List Str) (p : Addr), ys.Perm (ss.map so) → sortedS ys = true → H p = none → Q (.ref p) (upd H p (.lst (ys.map V.str))) := fun ys p hp hs hn => by
        obtain ⟨zs, rfl, hz⟩ := unso hp
        exact hk.strs hM (hr.2 zs hz hs) p hn
      rcases ha with ha | ha
      · exact cr_sortedS pins s σ H _ us Q I r ⟨a, ss.map so, rfl, e2 ▸ ha, by rw [List.length_map]; exact hr.1, fin⟩
      · exact cr_sortedTS pins s σ H _ us Q I r ⟨a, ss.map so, rfl, e2 ▸ ha, by rw [List.length_map]; exact hr.1, fin⟩
    · obtain ⟨⟨a, rfl⟩, hr⟩ := hr
      split at hr
      · rename_i kvs hkv
        obtain ⟨hb, h64, hq2⟩ := hr
        have eM : M a = some (.lst qs) := by
          unfold seqA at hq
          dsimp only at hq
          split at hq
          · rename_i xs e; cases hq; exact e
          · cases hq
        cases rp
        cases r with
        | cons r0 rn =>
        cases rn
        cases r0
        obtain ⟨vs, hv, rs⟩ := hM.lst eM
        rw [pairs_inv hkv] at rs
        obtain ⟨its, rv, pl, hz⟩ := I.list (X := X) (a := a) (xs := vs) (.inl (.inl hv))
        obtain ⟨e1, e2⟩ := pairs_each I.hok I.kIn hb rs rv
        have pa := pairs_alike hb
        refine PySem.W.sorted_data (enc := pairD) pl.isList e1 e2 ?_ (.inl ?_) (Nat.le_trans (Nat.le_of_lt h64) (by rw [sizeLine_eq]; decide)) ?_ fun out ho eo => ?_
        · intro d hd d' hd'
          obtain ⟨q, hq, rfl⟩ := List.mem_map.mp hd
          obtain ⟨q', hq', rfl⟩ := List.mem_map.mp hd'
          obtain ⟨x, y, rfl⟩ := pa q hq
          obtain ⟨x', y', rfl⟩ := pa q' hq'
          rfl
        · intro d hd
          obtain ⟨q, hq, rfl⟩ := List.mem_map.mp hd
          obtain ⟨x, y, rfl⟩ := pa q hq
          exact ⟨_, _, rfl⟩
        · intro q hq
          obtain ⟨x, y, rfl⟩ := pa q hq
          show X.A.units + 2 + 1 < cLine
          omega
        · obtain ⟨ws, rw1, rw2⟩ := each_reps eo
          obtain ⟨c, hc⟩ := sortedAll_at s.heap its out.toArray
          have hlen : ws.length ≤ sizeLine := by
            rw [rw1.length, ho]; exact Nat.le_trans (Nat.le_of_lt h64) (by rw [sizeLine_eq]; decide)
          have J := I.laid (t' := s.toks) (a := s.heap.objs.size + 1) (o := .lst ws) (h' := sortedAll s.heap its out.toArray) (fun _ _ => sortedAll_old) (Nat.le_succ _) ⟨hlen, out, c, rw1, hc⟩
          have hn : H (s.heap.objs.size + 1) = none := I.hok.fresh (Nat.le_succ _)
          exact ⟨.ref _, _, J, rfl, hk (.ref _) (mput M (s.heap.objs.size + 1) (.lst ((kvs.mergeSort (PySem.W.dataLe false pairD)).map fun q => .tup [q.1, q.2]))) (.ref _) _ (hM.new (u := .lst _) hn ⟨ws, upd_same, rw2.keep (.new hn)⟩) (.ref _) (.new hn) (hq2 _ rfl _ (hM.fresh hn))⟩
      · exact hr.elim
  · split at hr
    · cases rp
      split at hr
      · rename_i kvs e1
        split at hr
        · rename_i ss hss
          obtain ⟨es, h1, h2, h3, h4, h5⟩ := hM.dct e1
          obtain ⟨o, ep, g1, g2, g3⟩ := dct_obj I h1
          obtain ⟨u, rfl, ru⟩ := r.one
          cases ru
          obtain ⟨vs, rv, rk⟩ := erep_keys h2
          have e := strs_rep hss rv
          have e2 : vs = (ss.map so).map V.str := by rw [e, List.map_map]; rfl
          subst e2
          refine sorted_rawS hc I h5 g1 g2 g3 (by rw [List.length_map]; exact hr.1) rk fun ys p hp hs hn => ?_
          obtain ⟨zs, rfl, hz⟩ := unso hp
          exact hk.strs hM (hr.2 zs hz hs) p hn
        · exact hr.elim
      · exact hr.elim
    · exact hr.elim
end
end Rx
end

section
set_option maxHeartbeats 4000000
/-! Rx: an own error's __init__, walked over the heap. -/
namespace Rx
open PySem PySem.W PySem.Calls PyProof.Rows L2

theorem star_ok {e : Expr} {es : List Expr} (h : notStar e = true) (env : Env) : starEach (e :: es) env = (false, eval e env) :: starEach es env := by
  cases e <;> first | rfl | cases h
/-- a method call as it is run -/
def plOf (o : Expr) (env : Env) : Sem Bool := do return (← importBound o env).getD true
/-! ### the texts -/
theorem log3 {i : Int} (h : i.natAbs < 1000) : i.natAbs.log2 < 1920 := by
  have : i.natAbs < 2 ^ 1920 := Nat.lt_of_lt_of_le h (by decide +kernel)
  rcases Nat.eq_zero_or_pos i.natAbs with e | e
  · rw [e]; decide
  · exact (Nat.log2_lt (by omega)).mpr this
theorem slen_append (a b : Str) : (a ++ b).length = a.length + b.length := by
  show (a.cps ++ b.cps).size = _
  rw [Array.size_append]; rfl
theorem len4 : ∀ n : Nat, n < 1000 → (Str.ofString (toString (-(n : Int)))).length ≤ 4 := by decide +kernel
theorem len4' : ∀ n : Nat, n < 1000 → (Str.ofString (toString ((n : Int)))).length ≤ 4 := by decide +kernel
theorem ilen {i : Int} (h : i.natAbs < 1000) : (Str.ofString (toString i)).length ≤ 1000 := by
  rcases Int.natAbs_eq i with e | e
  · rw [e]; exact Nat.le_trans (len4' _ h) (by decide)
  · rw [e]; exact Nat.le_trans (len4 _ h) (by decide)
/-- what may be shown (r: by repr) -/
def ShowV (r : Bool) : Value → Prop
  | .int i _ => i.natAbs < 1000
  | .str y _ => r = true ∧ (PySem.reprText y).length ≤ 1000
  | .none => r = true
  | _ => False
/-- the args' forms -/
inductive XA where
  | con (m : Str)
  | two (a x : Str) (r : Bool)
  | thr (a x : Str) (r : Bool) (b : Str)
def rOf (c : Int) : Option Bool := if c = 114 then some true else if c = -1 then some false else none
def argF : Expr → Option XA
  | .Constant (.str m) _ _ => some (.con m)
  | .JoinedStr [.Constant (.str a) _ _, .FormattedValue (.Name x _) c none _] _ => if a.length ≤ 100 then (rOf c).map (.two a x) else none
  | .JoinedStr [.Constant (.str a) _ _, .FormattedValue (.Name x _) c none _, .Constant (.str b) _ _] _ => if a.length ≤ 100 ∧ b.length ≤ 100 then (rOf c).map fun r => .thr a x r b else none
  | _ => none
def XA.reads : XA → List (Str × Bool)
  | .con _ => []
  | .two _ x r => [(x, r)]
  | .thr _ x r _ => [(x, r)]
theorem sizeLine_big : 100000 ≤ sizeLine := by rw [sizeLine_eq]; decide

section
variable {prog : Program} {w : World} {A : Around} {E : Value → Shared → Prop} {s : Shared} {env : Env} {L : Addr} {m : Str → Option Value}
theorem shown {x : Str} {c : Int} {r : Bool} {u : Value} {p pos : Pos} {Q : Value → Shared → Prop} (hc : rOf c = some r) (hk : env.scope.kind = .function) (hl : env.kindOf x = some .local) (hn : s.heap.Ns env.locals m) (hv : m x = some u)
    (hd : (x == ("__debug__" : Str)) = false) (hs : ShowV r u) (h : ∀ (y : Str) (tk tks : Tok), y.length ≤ 1000 → Q (.str y tk) { s with toks := tks }) :
    wpAny (model prog w) A (eval (.FormattedValue (.Name x p) c none pos) env) Q E s := by
  unfold rOf at hc
  split at hc
  · rename_i e
    subst e
    have hc := Option.some.inj hc
    subst hc
    refine wpAny_FormattedValue_repr (wpAny_Name (wpAny_loadName_local hk hl hn hv ?_) hd)
    cases u with
    | int i t => exact pyReprObj_int (log3 hs) (wpAny_formatField_str (h _ _ _ (ilen hs)) (h _ _ _ (ilen hs)) (int_text_fits (log3 hs)))
    | str y t => exact pyReprObj_str (wpAny_formatField_str (h _ _ _ hs.2) (h _ _ _ hs.2) (Nat.le_trans hs.2 (Nat.le_trans (by decide) sizeLine_big))) (Nat.le_trans hs.2 (Nat.le_trans (by decide) sizeLine_big))
    | none => exact pyReprObj_none (wpAny_formatField_str (h _ _ _ (by decide)) (h _ _ _ (by decide)) (by decide))
    | _ => exact hs.elim
  · split at hc
    · rename_i e
      subst e
      have hc := Option.some.inj hc
      subst hc
      refine wpAny_FormattedValue_plain (wpAny_Name (wpAny_loadName_local hk hl hn hv ?_) hd)
      cases u with
      | int i t => exact wpAny_formatField_int (log3 hs) (h _ _ _ (ilen hs))
      | str y t => exact absurd hs.1 (by decide)
      | none => exact absurd (show false = true from hs) (by decide)
      | _ => exact hs.elim
    · cases hc
theorem arg_run {e : Expr} {xa : XA} {Q : Value → Shared → Prop} (ha : argF e = some xa) (hk : env.scope.kind = .function) (hn : s.heap.Ns env.locals m)
    (hr : ∀ q ∈ xa.reads, env.kindOf q.1 = some .local ∧ (q.1 == ("__debug__" : Str)) = false ∧ ∃ u, m q.1 = some u ∧ ShowV q.2 u) (h : ∀ (y : Str) (tk tks : Tok), Q (.str y tk) { s with toks := tks }) :
    wpAny (model prog w) A (eval e env) Q E s := by
  unfold argF at ha
  split at ha
  · exact wpAny_Constant_str (h _ _ _)
  · rename_i a _ _ x p c p2 p3
    split at ha
    · rename_i hla
      cases hc : rOf c with
      | none => rw [hc] at ha; cases ha
      | some r =>
        rw [hc] at ha
        obtain rfl : XA.two a x r = xa := Option.some.inj ha
        obtain ⟨k1, k2, u, k3, k4⟩ := hr (x, r) (List.mem_cons_self ..)
        refine wpAny_JoinedStr (wpAny_Constant_str ⟨_, _, rfl, ?_, ?_⟩)
        · rw [slen_append]
          exact Nat.le_trans (Nat.add_le_add (Nat.le_refl 0) hla) (Nat.le_trans (by decide) sizeLine_big)
        · refine shown (m := m) hc hk k1 hn k3 k2 k4 fun y tk tks hy => ⟨y, tk, rfl, ?_, ?_, ?_⟩
          · rw [slen_append, slen_append]
            exact Nat.le_trans (Nat.add_le_add (Nat.add_le_add (Nat.le_refl 0) hla) hy) (Nat.le_trans (by decide) sizeLine_big)
          · rw [slen_append, slen_append]
            exact Nat.le_trans (Nat.add_le_add (Nat.add_le_add (Nat.le_refl 0) hla) hy) (Nat.le_trans (by decide) sizeLine_big)
          · exact h _ _ _
    · cases ha
  · rename_i a _ _ x p c p2 b _ _ p3
    split at ha
    · rename_i hla
      cases hc : rOf c with
      | none => rw [hc] at ha; cases ha
      | some r =>
        rw [hc] at ha
        obtain rfl : XA.thr a x r b = xa := Option.some.inj ha
        obtain ⟨k1, k2, u, k3, k4⟩ := hr (x, r) (List.mem_cons_self ..)
        refine wpAny_JoinedStr (wpAny_Constant_str ⟨_, _, rfl, ?_, ?_⟩)
        · rw [slen_append]
          exact Nat.le_trans (Nat.add_le_add (Nat.le_refl 0) hla.1) (Nat.le_trans (by decide) sizeLine_big)
        · refine shown (m := m) hc hk k1 hn k3 k2 k4 fun y tk tks hy => ⟨y, tk, rfl, ?_, wpAny_Constant_str ⟨_, _, rfl, ?_, ?_, ?_⟩⟩
          · rw [slen_append, slen_append]
            exact Nat.le_trans (Nat.add_le_add (Nat.add_le_add (Nat.le_refl 0) hla.1) hy) (Nat.le_trans (by decide) sizeLine_big)
          · rw [slen_append, slen_append, slen_append]
            exact Nat.le_trans (Nat.add_le_add (Nat.add_le_add (Nat.add_le_add (Nat.le_refl 0) hla.1) hy) hla.2) (Nat.le_trans (by decide) sizeLine_big)
          · rw [slen_append, slen_append, slen_append]
            exact Nat.le_trans (Nat.add_le_add (Nat.add_le_add (Nat.add_le_add (Nat.le_refl 0) hla.1) hy) hla.2) (Nat.le_trans (by decide) sizeLine_big)
          · exact h _ _ _
    · cases ha
  · cases ha
end
end Rx
end

section
set_option maxHeartbeats 4000000
/-! Rx: super().__init__(..) in an own error over ValueError. -/
namespace Rx
open PySem PySem.W PySem.Calls PyProof.Rows L2

/-! ### the body's form -/
def fldF : List Stmt → Option (List (Str × Str))
  | [] => some []
  | .Assign [.Attribute (.Name sn _) f _] (.Name x _) _ :: r => if sn = "self" ∧ (x == ("__debug__" : Str)) = false then (fldF r).map ((f, x) :: ·) else none
  | _ => none
def bodyF : List Stmt → Option (XA × List (Str × Str))
  | .Expr (.Call (.Attribute (.Call (.Name sn _) [] [] _) mn ap) [e] [] pos) _ :: rest => if sn = "super" ∧ mn = "__init__" ∧ ap.endLine = pos.line ∧ notStar e = true then (match argF e, fldF rest with
    | some a, some fs => some (a, fs)
    | _, _ => none) else none
  | _ => none

/-- what is known of an own error's class and its __init__ -/
structure XIn (prog : Program) (K : Frag) (C f cda cc : Addr) (qual : Str) (params : Arguments) (body : List Stmt) (scope : Scope) (ps : List Str) (xa : XA) (fs : List (Str × Str)) (fd : FuncData) : Prop where
  C0 : OexC K C
  iC : findIn K (.ref C) "__init__" = some (some (.ref f))
  tI : typeIn K (.ref f) = some (.type "function")
  fn : ∃ oc od dV kV doc pm an ct osl, fd = ksFn "__init__" qual params body scope dV kV doc pm an (.ref cda) ct cc ∧ K.lookup f = some ⟨oc, od, .func fd, osl⟩
  cd : codeIn K (.ref cda) qual = true
  file : ∃ ccl cdd vs ccs file tf, K.lookup cda = some ⟨ccl, cdd, .fields vs, ccs⟩ ∧ vs[2]? = some (.str file tf) ∧ ((prog.main.file : Str) == file) = true
  top : (prog.main.scope.names.lookup ("super" : Str)).isSome = false
  cell : ∃ cl cld csl, K.lookup cc = some ⟨cl, cld, .cell (some (.ref C)), csl⟩
  mro : mroIn K C (.ref C) = some true
  hm : ks_superIn K C C "__init__" = some (some (.builtin "ValueError.__init__"))
  hB : subIn K (.ref C) (.type "ValueError") = some true
  ho : nsIn K cStatics "thirdparty.any" = some none
  form : bodyF body = some (xa, fs)
  self : (params.posonlyargs ++ params.args).head?.map (·.arg) = some "self"
  names : (params.posonlyargs ++ params.args).map (·.arg) = ps
  two : fs.length ≤ 2
  ks : scope.names.lookup ("super" : Str) = some .globalImplicit
  kc : scope.names.lookup ("__class__" : Str) = some .free
  kl : ∀ x ∈ ps, scope.names.lookup x = some .local
  kind : scope.kind = .function
  cells : ∀ x ∈ scope.names, x.2 ≠ .cell
  co : scope.isCoroutine = false
  gen : scope.isGenerator = false
  rd : ∀ q ∈ xa.reads, q.1 ∈ ps ∧ (q.1 == ("__debug__" : Str)) = false
  rf : ∀ q ∈ fs, q.2 ∈ ps ∧ findIn K (.ref C) q.1 = some none
  nd : ps.Nodup
  few : ps.length ≤ 100000

section
variable {prog : Program} {w : World} {A : Around} {E : Value → Shared → Prop} {h : Heap} {g : Array GenState} {d : Drawn} {t : Nat} {os : OsState}
variable {nm q : Str} {C N : Addr} {bs bm : List Value} {hdct : Bool} {sn : List Str} {sub : List Value} {ab : Bool} {col : Option Bool} {dd : Option Addr} {k0 k1 k2 k3 k5 : Option Value}
theorem call_mw {u e t0 : Addr} {rest : List Value} {Q : Value → Shared → Prop}
    (hC : h.get? C = some (excClassObj nm q C N bs bm hdct sn sub ab col dd k0 k1 k2 k3 k5 "ValueError.__new__")) (he : h.get? e = some (HandSPX.excO C t0)) (hu : h.get? u = some (kxs_mw "ValueError.__init__" e)) (hrest : rest.length ≤ sizeLine)
    (hq : ∀ h' t1, (∀ b o, b ≠ e → h.get? b = some o → h'.get? b = some o) → h'.get? e = some (HandSPX.excO C t1) → Q .none ⟨h', g, d, t, os⟩) :
    wpAny (model prog w) A (call (.ref u) rest) Q E ⟨h, g, d, t, os⟩ := by
  refine wpAny_call (codeAny_of_tree ?_)
  show wpAny _ A.in1 (callAny (.ref u) ⟨rest, []⟩) _ _ _
  simp only [callAny]
  refine wpAny_bind (wpAny_load hu ?_)
  simp only [kxs_mw, show (Value.type "method-wrapper" == Value.type "method" || Value.type "method-wrapper" == Value.type "builtin_function_or_method" || Value.type "method-wrapper" == Value.type "method-wrapper") = true by decide, if_true]
  refine W.KFB.if_so (by decide) ?_
  refine wpAny_bind (ESX.check_bound F.excBase_ValueError hC he rfl ?_)
  refine wpAny_bind (wpAny_pure (wpAny_pure ?_))
  refine ⟨Code.quiet_builtin _ (by decide +kernel), codeAny_builtin F.excBase_ValueError.initEntry ?_⟩
  rw [Around.under_plainId F.excBase_ValueError.init.plain _]
  wp_walk
  refine hq _ h.objs.size (fun b o hb ho => ?_) ?_
  · rw [Heap.get?_update_other _ _ (Ne.symm hb)]
    exact Heap.get?_push_of_some _ ho
  · rw [Heap.get?_update_self _ (Heap.get?_push_of_some _ he) rfl]
    rfl
end

section
variable {prog : Program} {w : World} {A : Around} {E : Value → Shared → Prop} {s : Shared} {hp : Heap} {L x : Addr} {m : Str → Option Value} {K : Frag} {C f cda cc : Addr} {qual : Str} {params : Arguments} {body rest : List Stmt} {scope : Scope} {ps : List Str} {xa : XA} {fs : List (Str × Str)} {fd : FuncData} {mg mb : Str → Option Value} {t0 : Addr}
/-- super() -/
theorem x_node (T : XIn prog K C f cda cc qual params body scope ps xa fs fd) {b0 : List Stmt} {p0 p1 : Pos} {whole : Sem Value} {Q : Value → Shared → Prop} (F : Fr hp L s.heap m) (X₀ : K.In hp) (hx : s.heap.get? x = some (HandSPX.excO C t0)) (hv : m "self" = some (.ref x))
    (hg : hp.Ns mainGlobals mg) (hm : mg "super" = none) (hb : hp.Ns builtinsNs mb) (hbs : mb "super" = some (.type "super"))
    (h : ∀ so h', h'.get? so = some (ks_superObj C x C) → (∀ b o, s.heap.get? b = some o → h'.get? b = some o) → Q (.ref so) { s with heap := h' }) :
    _root_.PySem.wpAt (model prog w) A (.func b0 (ksEnv qual scope L f (.ref cda) cc)) (attributeBase (.Call (.Name "super" p0) [] [] p1) "__init__" (ksEnv qual scope L f (.ref cda) cc) whole) Q E s := by
  have X : K.In s.heap := X₀.keeps F.keep
  obtain ⟨hh, g, d, t, os⟩ := s
  obtain ⟨nm, q, N, bs, bm, sn, sub, ab, col, dd, k0, k1, k2, k3, k5, hC, hbm⟩ := T.C0.cls
  obtain ⟨oc, od, dV, kV, doc, pm, an, ct, osl, rfl, hf⟩ := T.fn
  obtain ⟨ccl, cdd, vs, ccs, file, tf, hcode, hvs, hfile⟩ := T.file
  obtain ⟨cl, cld, csl, hcell⟩ := T.cell
  obtain ⟨ar, hp, har⟩ : ∃ ar, (params.posonlyargs ++ params.args).head? = some ar ∧ ar.arg = "self" := by
    have := T.self
    cases z : (params.posonlyargs ++ params.args).head? with
    | none => rw [z] at this; cases this
    | some ar => rw [z] at this; exact ⟨ar, rfl, Option.some.inj this⟩
  have hka : scope.names.lookup ("self" : Str) = some .local := T.kl "self" (by
    rw [← T.names]
    refine List.mem_map.mpr ⟨ar, ?_, har⟩
    cases z : params.posonlyargs ++ params.args with
    | nil => rw [z] at hp; cases hp
    | cons a r => rw [z] at hp; cases hp; exact List.mem_cons_self ..)
  refine ks_wpAt_super_base (env := ksEnv qual scope L f (.ref cda) cc) T.ks T.kc rfl rfl (X _ _ hf) rfl hp rfl (X _ _ hcode) rfl hvs hfile T.top ?_
  refine ks_loadName_global T.kind T.ks (loadGlobal_builtin (env := ksEnv qual scope L f (.ref cda) cc) (hg.keeps F.keep) hm (hb.keeps F.keep) hbs ⟨rfl, ?_⟩)
  refine wpAny_loadName_free T.kind T.kc rfl ⟨_, X _ _ hcell, rfl⟩ ?_
  rw [har]
  refine wpAny_loadName_local T.kind hka F.ns hv ?_
  refine ks_wpAny_isType_cls (X _ _ hC) rfl ⟨rfl, ?_⟩
  refine ks_wpAny_call_super (X _ _ hC) rfl hx rfl (fun c e => nomatch e) (looks_mroIn X T.mro) (fun h' e k => ?_)
  exact h _ _ e k
end
end Rx
end

section
set_option maxHeartbeats 4000000
/-! Rx: an own error's __init__ as a whole. -/
namespace Rx
open PySem PySem.W PySem.Calls PyProof.Rows L2

theorem fr_mv {hp h h' : Heap} {L x : Addr} {m : Str → Option Value} (F : Fr hp L h m) (hL : L ≠ x) (hx : hp.get? x = none) (k : ∀ b o, b ≠ x → h.get? b = some o → h'.get? b = some o) : Fr hp L h' m := by
  obtain ⟨oL, es, ep, e, r⟩ := F.ns
  exact ⟨⟨oL, es, ep, k _ _ hL e, r⟩, fun b o z => k b o (fun y => by rw [y, hx] at z; cases z) (F.keep b o z), F.above⟩
/-- a state but for its heap and its tokens -/
def SameS (s s' : Shared) : Prop := s'.gens = s.gens ∧ s'.os = s.os ∧ s'.drawn = s.drawn
theorem SameS.refl (s : Shared) : SameS s s := ⟨rfl, rfl, rfl⟩
theorem SameS.trans {a b c : Shared} (x : SameS a b) (y : SameS b c) : SameS a c := ⟨y.1.trans x.1, y.2.1.trans x.2.1, y.2.2.trans x.2.2⟩
section
variable {prog : Program} {w : World} {A : Around} {E : Value → Shared → Prop} {s : Shared} {hp : Heap} {L x : Addr} {m : Str → Option Value} {K : Frag} {C f cda cc : Addr} {qual : Str} {params : Arguments} {body rest : List Stmt} {scope : Scope} {ps : List Str} {xa : XA} {fs : List (Str × Str)} {fd : FuncData} {mg mb : Str → Option Value} {t0 : Addr}
theorem x_super (T : XIn prog K C f cda cc qual params body scope ps xa fs fd) {b0 : List Stmt} {p0 p1 ap pos p4 : Pos} {e : Expr} {Q : Flow → Shared → Prop} (F : Fr hp L s.heap m) (X₀ : K.In hp) (hxp : hp.get? x = none) (hLx : L ≠ x)
    (hx : s.heap.get? x = some (HandSPX.excO C t0)) (hv : m "self" = some (.ref x)) (hg : hp.Ns mainGlobals mg) (hm : mg "super" = none) (hb : hp.Ns builtinsNs mb) (hbs : mb "super" = some (.type "super"))
    (he : argF e = some xa) (hns : notStar e = true) (hap : ap.endLine = pos.line) (hsh : ∀ q ∈ xa.reads, ∃ u, m q.1 = some u ∧ ShowV q.2 u)
    (h : ∀ s1 t1, Fr hp L s1.heap m → s1.heap.get? x = some (HandSPX.excO C t1) → SameS s s1 → wpAny (model prog w) A (execs rest (ksEnv qual scope L f (.ref cda) cc)) Q E s1) :
    _root_.PySem.wpAt (model prog w) A (.func b0 (ksEnv qual scope L f (.ref cda) cc)) (execs (.Expr (.Call (.Attribute (.Call (.Name "super" p0) [] [] p1) "__init__" ap) [e] [] pos) p4 :: rest) (ksEnv qual scope L f (.ref cda) cc)) Q E s := by
  obtain ⟨nm, q, N, bs, bm, sn, sub, ab, col, dd, k0, k1, k2, k3, k5, hC, hbm⟩ := T.C0.cls
  have hi : interactive (ksEnv qual scope L f (.ref cda) cc) = false := by
    unfold interactive
    simp [ksEnv, envX, T.kind]
  refine ks_wpAt_execs_cons (ks_wpAt_Expr_any (ks_wpAt_MethodCall (pl := plOf (.Call (.Name "super" p0) [] [] p1) (ksEnv qual scope L f (.ref cda) cc)) ?_ ?_) hi)
  · refine x_node T F X₀ hx hv hg hm hb hbs fun so h1 hso k => ?_
    have F1 : Fr hp L h1 m := fr_mv F hLx hxp fun b o _ z => k b o z
    have hx1 := k _ _ hx
    have X1 : K.In h1 := X₀.keeps F1.keep
    have I : InstAt h1 x (HandSPX.excO C t0) C none := ⟨hx1, rfl, rfl, trivial⟩
    have hI : Looks (model prog w) h1 (isInstance (.ref x) (.type "ValueError")) true := I.type.andThen (looks_subIn X1 T.hB)
    have hmro : ∃ cd, clsIn K C = some cd ∧ alongIn K "__init__" ((cd.mro.dropWhile (· != .ref C)).drop 1) = some (some (.builtin "ValueError.__init__")) := by
      have := T.hm
      unfold ks_superIn at this
      cases hc : clsIn K C with
      | none => rw [hc] at this; cases this
      | some cd => rw [hc] at this; exact ⟨cd, rfl, this⟩
    obtain ⟨cd, hcd, hal⟩ := hmro
    obtain ⟨hh, g, d, t, os⟩ := s
    refine kxs_getMethod kxs_ValueError hso (looks_opaque X1 T.ho) (l₀ := cd.mro) (fun A Q E s k q => wpAny_bind ((looks_clsIn X1 hcd) A _ E s k (wpAny_pure q))) rfl X1 hal hI (ks_ne X1 I hcd) rfl ?_
    have F2 : Fr hp L (h1.push (kxs_mw "ValueError.__init__" x)) m := fr_mv F1 hLx hxp fun b o _ z => Heap.get?_push_of_some _ z
    refine kxs_callWith (i := "ValueError.__init__") (x := x) ?_ ?_
    · rw [star_ok hns]; rfl
    · rw [star_ok hns]
      refine evalArgs_plain (Calls.spliced_cons (arg_run (m := m) (env := ksEnv qual scope L f (.ref cda) cc) he T.kind F2.ns (fun q hq => ?_) fun y tk tks => ?_))
      · obtain ⟨u, e1, e2⟩ := hsh q hq
        exact ⟨T.kl _ (T.rd q hq).1, (T.rd q hq).2, u, e1, e2⟩
      · refine Calls.spliced_nil ⟨Heap.get?_push_at rfl rfl, ?_⟩
        refine call_mw (t0 := t0) ((X₀.keeps F2.keep) _ _ hC) (Heap.get?_push_of_some _ hx1) (Heap.get?_push_at rfl rfl) (by show 1 ≤ sizeLine; rw [sizeLine_eq]; decide) fun h' t1 k2 e2 => ?_
        exact wpAt_of_wpAny (h _ t1 (fr_mv F2 hLx hxp k2) e2 ⟨rfl, rfl, rfl⟩)
  · rw [arm_eval_Call]
    have hform : methodCallForm (1 + 0) (backTo pos (starEach [e] (ksEnv qual scope L f (.ref cda) cc))) (backToKw pos (keywordEach [] (ksEnv qual scope L f (.ref cda) cc))) = true := by
      rw [star_ok hns]; rfl
    have hpos : methodCallPos true (.Call (.Name "super" p0) [] [] p1) (ksEnv qual scope L f (.ref cda) cc) ap pos = pure pos := by unfold methodCallPos; simp [hap]
    unfold methodCall calleeOf
    show (do let ov ← attributeBase _ _ _ _; standAt ap.atName; _) = _
    rw [show ([e] : List Expr).length + ([] : List Keyword).length = 1 + 0 from rfl, hform]
    simp only [hpos, if_true, pure_bind]
    rfl
end
end Rx
end

section
set_option maxHeartbeats 4000000
/-! Rx: an own error's fields; its __init__ called. -/
namespace Rx
open PySem PySem.W PySem.Calls PyProof.Rows L2

/-- an error's object, with its fields -/
def XFld (hp h : Heap) (x L C : Addr) (gs : List (Str × Value)) : Prop :=
  match gs with
  | [] => ∃ t1, h.get? x = some (HandSPX.excO C t1)
  | g :: gs => ∃ t1 dx mA, h.get? x = some ({ cls := .ref C, dict := some dx, data := .fields #[.ref t1, .none, .none, .none, .bool false, .none] } : Obj) ∧ h.Ns1 dx mA ∧ (∀ f, mA f = (g :: gs).lookup f) ∧ hp.get? dx = none ∧ dx ≠ x ∧ dx ≠ L
def accF (m : Str → Option Value) : List (Str × Value) → List (Str × Str) → List (Str × Value)
  | gs, [] => gs
  | gs, (f, p) :: r => accF m ((f, (m p).getD .none) :: gs) r
theorem accF_ne (m : Str → Option Value) : ∀ (fs : List (Str × Str)) (g : Str × Value) (gs : List (Str × Value)), accF m (g :: gs) fs ≠ []
  | [], _, _ => fun h => nomatch h
  | (f, p) :: r, g, gs => accF_ne m r _ _
theorem lookup_putV {f x : Str} {v : Value} {l : List (Str × Value)} : ((f, v) :: l).lookup x = if x = f then some v else l.lookup x := by
  by_cases h : x = f
  · subst h; simp [List.lookup]
  · have e : (x == f) = false := by simpa using h
    rw [if_neg h]; simp [List.lookup, e]
theorem within_look : ∀ (l : List (Str × Value)), Within (fun f => l.lookup f) (l.map (·.1))
  | [] => fun y hy => by simp at hy
  | (f, v) :: r => fun y hy => by
    have hy : ((f, v) :: r).lookup y ≠ none := hy
    rw [lookup_putV] at hy
    by_cases e : y = f
    · rw [e]; exact List.mem_cons_self ..
    · rw [if_neg e] at hy; exact List.mem_cons_of_mem _ (within_look r y hy)
section
variable {prog : Program} {w : World} {A : Around} {E : Value → Shared → Prop} {hp : Heap} {L x : Addr} {m : Str → Option Value} {K : Frag} {C f cda cc : Addr} {qual : Str} {params : Arguments} {body : List Stmt} {scope : Scope} {ps : List Str} {xa : XA} {fs : List (Str × Str)} {fd : FuncData}
theorem x_flds (T : XIn prog K C f cda cc qual params body scope ps xa fs fd) (X₀ : K.In hp) (hxp : hp.get? x = none) (hLx : L ≠ x) (hps : ("self" : Str) ∈ ps) (hv : m "self" = some (.ref x)) {Q : Flow → Shared → Prop} : ∀ (rest : List Stmt) (fr : List (Str × Str)) (gs : List (Str × Value)) (s : Shared), fldF rest = some fr →
    (∀ q ∈ fr, q.2 ∈ ps ∧ findIn K (.ref C) q.1 = some none ∧ ∃ u, m q.2 = some u) → gs.length + fr.length ≤ 10 → Fr hp L s.heap m → XFld hp s.heap x L C gs →
    (∀ s1, Fr hp L s1.heap m → XFld hp s1.heap x L C (accF m gs fr) → SameS s s1 → Q .next s1) → wpAny (model prog w) A (execs rest (ksEnv qual scope L f (.ref cda) cc)) Q E s
  | [], fr, gs, s, hf, hq, hl, F, XF, h => by
    cases hf
    exact wpAny_execs_nil (h s F XF (SameS.refl s))
  | st :: rest, fr, gs, s, hf, hq, hl, F, XF, h => by
    unfold fldF at hf
    split at hf
    · rename_i he; cases he
    · rename_i sn p1 fl p2 y p3 p4 r he
      cases he
      split at hf
      · rename_i hc
        obtain ⟨rfl, hdb⟩ := hc
        cases hr : fldF rest with
        | none => rw [hr] at hf; cases hf
        | some fr' =>
          rw [hr] at hf
          obtain rfl : (fl, y) :: fr' = fr := Option.some.inj hf
          obtain ⟨hy, hno, u, hu⟩ := hq (fl, y) (List.mem_cons_self ..)
          obtain ⟨nm, q, N, bs, bm, sn, sub, ab, col, dd, k0, k1, k2, k3, k5, hC, hbm⟩ := T.C0.cls
          have hcl : clsIn K C = some { name := nm, bases := bs, mro := .ref C :: bm, ns := N, qualname := q, hasDict := true, slotNames := sn, subclasses := sub, abstract := ab, collection := col, hasDel := false } := by unfold clsIn; rw [hC] <;> rfl
          refine wpAny_execs_cons (plainObj_wpAny_Assign_Attribute (wpAny_Name (wpAny_loadName_local T.kind (T.kl y hy) F.ns hu (wpAny_Name (wpAny_loadName_local T.kind (T.kl _ hps) F.ns hv ?_))) hdb))
          have XK : K.In s.heap := X₀.keeps F.keep
          have go : ∀ (s1 : Shared), Fr hp L s1.heap m → XFld hp s1.heap x L C ((fl, u) :: gs) → SameS s s1 → wpAny (model prog w) A (execs rest (ksEnv qual scope L f (.ref cda) cc)) Q E s1 := fun s1 F1 XF1 S1 =>
            x_flds T X₀ hxp hLx hps hv rest fr' ((fl, u) :: gs) s1 hr (fun z hz => hq z (List.mem_cons_of_mem _ hz)) (by simp only [List.length_cons] at hl ⊢; omega) F1 XF1 fun s2 F2 XF2 S2 => by
              refine h s2 F2 ?_ (S1.trans S2)
              show XFld hp s2.heap x L C (accF m ((fl, (m y).getD .none) :: gs) fr')
              rw [hu]; exact XF2
          obtain ⟨hh, g, d, t, os⟩ := s
          cases gs with
          | nil =>
            obtain ⟨t1, hx⟩ := XF
            refine set_plain XK (ox := HandSPX.excO C t1) (od := none) ⟨hx, rfl, rfl, trivial⟩ T.C0.sa ?_
            refine HandSPX.exc_osa XK hx hcl (show HandSPX.refsVE (.ref C :: bm) = true from hbm) rfl hno (fun h' tk' dx k dn dne hx' hn => ?_)
            refine go _ (fr_mv F hLx hxp k) ⟨t1, dx, _, hx', hn, fun f => ?_, ?_, dne, ?_⟩ ⟨rfl, rfl, rfl⟩
            · rw [lookup_putV]; rfl
            · cases z : hp.get? dx with
              | none => rfl
              | some o => exact absurd (Nat.lt_of_lt_of_le (Heap.lt_size (F.keep _ _ z)) dn) (Nat.lt_irrefl _)
            · rintro rfl
              exact absurd (Nat.lt_of_lt_of_le F.ns.lt dn) (Nat.lt_irrefl _)
          | cons gg gs =>
            obtain ⟨t1, dx, mA, hx, hn, hm, hpd, dne, dnl⟩ := XF
            have hwi : Within mA ((gg :: gs).map (·.1)) := by
              have := within_look (gg :: gs)
              rw [show mA = fun f => (gg :: gs).lookup f from funext hm]; exact this
            obtain ⟨oD, _, _, hoD, _, _⟩ := hn.count hwi
            refine set_plain XK (ox := { cls := .ref C, dict := some dx, data := .fields #[.ref t1, .none, .none, .none, .bool false, .none] }) (od := some oD) ⟨hx, rfl, rfl, hoD⟩ T.C0.sa ?_
            refine OEX.osa_old XK hx hn hwi (by rw [List.length_map]; omega) hcl (show HandSPX.refsVE (.ref C :: bm) = true from hbm) rfl hno (fun h' tk' k hn' => ?_)
            refine go _ (fr_mv F (Ne.symm dnl) hpd k) ⟨t1, dx, _, k _ _ (Ne.symm dne) hx, hn', fun f => ?_, hpd, dne, dnl⟩ ⟨rfl, rfl, rfl⟩
            rw [lookup_putV, hm]
      · cases hf
    · cases hf
end
end Rx
end

section
set_option maxHeartbeats 4000000
/-! Rx: an own error's __init__ called. -/
namespace Rx
open PySem PySem.W PySem.Calls PyProof.Rows L2
theorem lookup_mem : ∀ {l : List (Str × Value)} {p : Str} {u : Value}, (l.map (·.1)).Nodup → (p, u) ∈ l → l.lookup p = some u
  | (f, v) :: r, p, u, nd, hm => by
    rw [lookup_putV]
    rw [List.map_cons, List.nodup_cons] at nd
    rcases List.mem_cons.mp hm with e | e
    · cases e; rw [if_pos rfl]
    · rw [if_neg, lookup_mem nd.2 e]
      rintro rfl
      exact nd.1 (List.mem_map.mpr ⟨_, e, rfl⟩)
theorem lookup_rev {l : List (Str × Value)} {p : Str} {u : Value} (nd : (l.map (·.1)).Nodup) (hm : (p, u) ∈ l) : l.reverse.lookup p = some u :=
  lookup_mem (by rw [List.map_reverse]; exact (List.reverse_perm _).nodup_iff.mpr nd) (List.mem_reverse.mpr hm)
theorem zip_fst : ∀ {ps : List Str} {us : List Value}, us.length = ps.length → (ps.zip us).map (·.1) = ps
  | [], [], _ => rfl
  | p :: ps, u :: us, h => by
    show p :: (ps.zip us).map (·.1) = _
    rw [zip_fst (by simpa using h)]
  | [], _ :: _, h => by simp at h
  | _ :: _, [], h => by simp at h
/-- the value of a parameter -/
def parV (ps : List Str) (us : List Value) (x : Str) : Option Value := (ps.zip us).reverse.lookup x
theorem parV_some {ps : List Str} {us : List Value} {x : Str} (nd : ps.Nodup) (hl : us.length = ps.length) (h : x ∈ ps) : ∃ u, parV ps us x = some u := by
  obtain ⟨i, hi, e⟩ := List.getElem_of_mem h
  have hi2 : i < us.length := by omega
  refine ⟨us[i], lookup_rev (by rw [zip_fst hl]; exact nd) ?_⟩
  refine List.mem_iff_getElem.mpr ⟨i, by rw [List.length_zip]; omega, ?_⟩
  rw [List.getElem_zip, e]
theorem bodyF_inv {body : List Stmt} {xa : XA} {fs : List (Str × Str)} (h : bodyF body = some (xa, fs)) : ∃ p0 p1 ap e pos p4 rest, body = .Expr (.Call (.Attribute (.Call (.Name "super" p0) [] [] p1) "__init__" ap) [e] [] pos) p4 :: rest ∧ ap.endLine = pos.line ∧ notStar e = true ∧ argF e = some xa ∧ fldF rest = some fs := by
  unfold bodyF at h
  split at h
  · split at h
    · rename_i hc
      obtain ⟨rfl, rfl, h3, h4⟩ := hc
      split at h
      · rename_i a b ha hb
        have h := Option.some.inj h
        injection h with e1 e2
        subst e1 e2
        exact ⟨_, _, _, _, _, _, _, rfl, h3, h4, ha, hb⟩
      · cases h
    · cases h
  · cases h
section
variable {prog : Program} {w : World} {A : Around} {R : Result → Shared → Prop} {s : Shared} {hp : Heap} {x : Addr} {K : Frag} {C f cda cc : Addr} {qual : Str} {params : Arguments} {body : List Stmt} {scope : Scope} {ps : List Str} {xa : XA} {fs : List (Str × Str)} {fd : FuncData} {mg mb : Str → Option Value} {t0 : Addr}
theorem x_init (T : XIn prog K C f cda cc qual params body scope ps xa fs fd) (bd : Binds K fd ps []) (X₀ : K.In hp) (kp : ∀ b o, hp.get? b = some o → s.heap.get? b = some o) (hsz : hp.objs.size ≤ s.heap.objs.size) (hxp : hp.get? x = none)
    (hx : s.heap.get? x = some (HandSPX.excO C t0)) (hg : hp.Ns mainGlobals mg) (hm : mg "super" = none) (hb : hp.Ns builtinsNs mb) (hbs : mb "super" = some (.type "super")) (hroom : A.depth < recursionLimit) (hlim : s.heap.NoLimit)
    {us : List Value} (hl : us.length + 1 = ps.length) (hsh : ∀ q ∈ xa.reads, ∀ u, parV ps (.ref x :: us) q.1 = some u → ShowV q.2 u)
    (h : ∀ s1 L, (∀ b o, hp.get? b = some o → s1.heap.get? b = some o) → XFld hp s1.heap x L C (accF (parV ps (.ref x :: us)) [] fs) → SameS s s1 → R (.ok (.ret .none)) s1) :
    codeAny (model prog w) A (.call (.ref f) ⟨.ref x :: us, []⟩) R s := by
  have XK : K.In s.heap := X₀.keeps kp
  obtain ⟨oc, od, dV, kV, doc, pm, an, ct, osl, e1, hf⟩ := T.fn
  have hbind := bd s (.ref x :: us) XK (by rw [List.append_nil]; exact hl)
  rw [List.append_nil] at hbind
  obtain ⟨p0, p1, ap, e, pos, p4, rest, eb, hap, hns, he, hfl⟩ := bodyF_inv T.form
  have hself : ("self" : Str) ∈ ps := by
    rw [← T.names]
    have := T.self
    cases z : params.posonlyargs ++ params.args with
    | nil => rw [z] at this; cases this
    | cons a r => rw [z] at this; exact List.mem_map.mpr ⟨a, List.mem_cons_self .., Option.some.inj this⟩
  have hfirst : ps.head? = some "self" := by rw [← T.names, List.head?_map]; exact T.self
  subst e1
  have hnd : ((ps.zip (.ref x :: us)).map (·.1)).Nodup := by rw [zip_fst (by simpa using hl)]; exact T.nd
  have hv : parV ps (.ref x :: us) "self" = some (.ref x) := by
    refine lookup_rev hnd ?_
    cases ps with
    | nil => cases hfirst
    | cons p r =>
      obtain rfl : p = "self" := Option.some.inj hfirst
      exact List.mem_cons_self ..
  refine ks_codeAny_call_defAt (body := body) (binds := ps.zip (.ref x :: us)) hroom (XK _ _ hf) rfl hlim (codeRec_of XK T.cd) rfl hbind T.cells (fun y hy => T.kl _ (List.of_mem_zip hy).1) (fun h₁ hns₁ hk₁ => ?_) T.co T.gen T.kind
  have hLx : s.heap.objs.size ≠ x := fun z => by
    have := Heap.lt_size hx
    rw [z] at this
    exact absurd this (Nat.lt_irrefl _)
  have F : Fr hp s.heap.objs.size h₁ (parV ps (.ref x :: us)) := ⟨hns₁, fun b o z => hk₁ b o (kp b o z), hsz⟩
  subst eb
  refine x_super (b0 := _) (s := { s with heap := h₁, toks := s.toks + (ps.zip (.ref x :: us)).length }) T F X₀ hxp hLx (hk₁ _ _ hx) hv hg hm hb hbs he hns hap (fun q hq => ?_) fun s1 t1 F1 hx1 S1 => ?_
  · obtain ⟨u, hu⟩ := parV_some (us := .ref x :: us) T.nd (by simpa using hl) (T.rd q hq).1
    exact ⟨u, hu, hsh q hq u hu⟩
  · refine x_flds T X₀ hxp hLx hself hv rest fs [] s1 hfl (fun q hq => ?_) (by have := T.two; simp only [List.length_nil]; omega) F1 ⟨t1, hx1⟩ fun s2 F2 XF2 S2 => ?_
    · obtain ⟨u, hu⟩ := parV_some (us := .ref x :: us) T.nd (by simpa using hl) (T.rf q hq).1
      exact ⟨(T.rf q hq).1, (T.rf q hq).2, u, hu⟩
    · exact h s2 _ F2.keep XF2 (SameS.trans (b := s1) ⟨S1.1, S1.2.1, S1.2.2⟩ S2)
end
end Rx
end

section
set_option maxHeartbeats 4000000
/-! Rx: an own error made, for raise. -/
namespace Rx
open PySem PySem.Spec PyProof.Rows L2
def ShowVV (r : Bool) : V → Prop
  | .int i => i.natAbs < 1000
  | .str y => r = true ∧ (PySem.reprText y).length ≤ 1000
  | .non => r = true
  | _ => False
theorem ShowVV.to {r : Bool} {v : V} {u : Value} (rel : RelV v u) (h : ShowVV r v) : ShowV r u := by
  cases v with
  | int i => obtain ⟨t, rfl⟩ := rel; exact h
  | str y => obtain ⟨t, rfl⟩ := rel; exact h
  | non => obtain rfl : u = .none := rel; exact h
  | _ => exact h.elim
def parL (ps : List Str) (vs : List V) (x : Str) : Option V := (ps.zip vs).reverse.lookup x
theorem par_rel {x : Str} : ∀ {ps : List Str} {vs : List V} {us : List Value}, Vals vs us → RelO (parL ps vs x) (parV ps us x)
  | [], _, _, _ => by unfold parL parV; simp [RelO]
  | _ :: _, [], [], _ => by unfold parL parV; simp [RelO]
  | p :: ps, v :: vs, u :: us, .cons r rs => by
    have ih := par_rel (x := x) (ps := ps) rs
    unfold parL parV at ih ⊢
    rw [List.zip_cons_cons, List.zip_cons_cons, List.reverse_cons, List.reverse_cons, List.lookup_append, List.lookup_append]
    cases h1 : (ps.zip vs).reverse.lookup x with
    | some a =>
      rw [h1] at ih
      cases h2 : (ps.zip us).reverse.lookup x with
      | some b => rw [h2] at ih; exact ih
      | none => rw [h2] at ih; exact ih.elim
    | none =>
      rw [h1] at ih
      cases h2 : (ps.zip us).reverse.lookup x with
      | some b => rw [h2] at ih; exact ih.elim
      | none =>
        by_cases e : x = p
        · subst e
          simp only [Option.none_or, List.lookup, beq_self_eq_true]
          exact r
        · have q : (x == p) = false := by simpa using e
          simp only [Option.none_or, List.lookup, q]
          exact True.intro
def accL (m : Str → Option V) : List (Str × V) → List (Str × Str) → List (Str × V)
  | gs, [] => gs
  | gs, (f, p) :: r => accL m ((f, (m p).getD .non) :: gs) r
theorem acc_rel {m : Str → Option V} {m' : Str → Option Value} (hm : ∀ x, RelO (m x) (m' x)) : ∀ (fs : List (Str × Str)) (gs : List (Str × V)) (gs' : List (Str × Value)), (∀ f, RelO (gs.lookup f) (gs'.lookup f)) → ∀ f, RelO ((accL m gs fs).lookup f) ((accF m' gs' fs).lookup f)
  | [], gs, gs', h => h
  | (f, p) :: r, gs, gs', h => acc_rel hm r _ _ fun x => by
    rw [lookup_putV, lookup_put]
    by_cases e : x = f
    · rw [if_pos e, if_pos e]
      have := hm p
      cases h1 : m p with
      | some a =>
        rw [h1] at this
        cases h2 : m' p with
        | some b => rw [h2] at this; exact this
        | none => rw [h2] at this; exact this.elim
      | none =>
        rw [h1] at this
        cases h2 : m' p with
        | some b => rw [h2] at this; exact this.elim
        | none => rfl
    · rw [if_neg e, if_neg e]; exact h x
theorem accF_nil {m : Str → Option Value} {fs : List (Str × Str)} (h : fs ≠ []) : ∃ g gs, accF m [] fs = g :: gs := by
  cases fs with
  | nil => exact absurd rfl h
  | cons q r =>
    obtain ⟨f, p⟩ := q
    cases z : accF m [] ((f, p) :: r) with
    | nil => exact absurd z (accF_ne m r _ _)
    | cons g gs => exact ⟨g, gs, rfl⟩
/-- what the making of an own error asks -/
def tMkX (C : Addr) (ps : List Str) (xa : XA) (fs : List (Str × Str)) (ta : TA) : L2.St → Hp → XK → Prop := fun σ H Q => ta σ H fun vs H1 => vs.length + 1 = ps.length ∧ ∀ a, (∀ q ∈ xa.reads, ∀ v, parL ps (.ref a :: vs) q.1 = some v → ShowVV q.2 v) ∧
  (fs = [] → Q (.ref C) none H1) ∧ (fs ≠ [] → ∀ d, H1 d = none → Q (.ref C) (some d) (upd H1 d (.xd (accL (parL ps (.ref a :: vs)) [] fs))))
section
variable {X : Cx} {C f cda cc : Addr} {qual : Str} {params : Arguments} {body : List Stmt} {scope : Scope} {ps : List Str} {xa : XA} {fs : List (Str × Str)} {fd : FuncData} {x : Str} {p pos : Pos} {e : Expr} {es : List Expr} {ta : TA}
theorem run_xmk (T : XIn X.prog X.K C f cda cc qual params body scope ps xa fs fd) (hb : Binds X.K fd ps []) (hr : X.A.depth + 1 < recursionLimit) (hsu : X.mg "super" = none) {pins : List (Addr × Obj)} {σ : L2.St} {H1 : Hp} {s1 : Shared} {us : List Value} {vs : List V} {Q : XK} (I1 : Inv X pins σ H1 s1) (r1 : Vals vs us)
    (h : vs.length + 1 = ps.length ∧ ∀ a, (∀ q ∈ xa.reads, ∀ v, parL ps (.ref a :: vs) q.1 = some v → ShowVV q.2 v) ∧
      (fs = [] → Q (.ref C) none H1) ∧ (fs ≠ [] → ∀ d, H1 d = none → Q (.ref C) (some d) (upd H1 d (.xd (accL (parL ps (.ref a :: vs)) [] fs))))) :
    wpAny (model X.prog X.w) X.A (call (.ref C) us) (MkP X pins σ Q) X.xe s1 := by
  obtain ⟨nm, q, N, bs, bm, sn, sub, ab, col, dd, k0, k1, k2, k3, k5, hC, hbm⟩ := T.C0.cls
  obtain ⟨hp, g, dr, tk, os⟩ := s1
  have kk : ∀ b o, hp.get? b = some o → ((hp.push (PySem.W.kdv_tup us)).push (PySem.HandSPX.excO C hp.objs.size)).get? b = some o := fun b o e => Heap.get?_push_of_some _ (Heap.get?_push_of_some _ e)
  have hget : ((hp.push (PySem.W.kdv_tup us)).push (PySem.HandSPX.excO C hp.objs.size)).get? (hp.objs.size + 1) = some (PySem.HandSPX.excO C hp.objs.size) := by heap_get
  have hpx : hp.get? (hp.objs.size + 1) = none := by
    cases z : hp.get? (hp.objs.size + 1) with
    | none => rfl
    | some o => exact absurd (Heap.lt_size z) (Nat.not_lt.mpr (Nat.le_succ _))
  have hlu : us.length = vs.length := (Vals.length r1).symm
  obtain ⟨hl, h⟩ := h
  obtain ⟨hsh, hn, hs⟩ := h (hp.objs.size + 1)
  obtain ⟨mb, hmb, hbb⟩ := I1.ok.mod.blt
  have r2 : Vals (V.ref (hp.objs.size + 1) :: vs) (Value.ref (hp.objs.size + 1) :: us) := .cons rfl r1
  have hus : us.length ≤ sizeLine := by
    have h2 : us.length ≤ 100000 := by
      have e1 : ps.length = (params.posonlyargs ++ params.args).length := by rw [← T.names, List.length_map]
      rw [hlu]
      exact Nat.le_trans (Nat.le_of_lt (Nat.lt_of_succ_le (Nat.le_of_eq hl))) T.few
    exact Nat.le_trans h2 sizeLine_big
  refine wpAny_call (PySem.HandSPX.call_own F.excBase_ValueError (fun Y => PySem.HandSPX.refsVE_contains Y bm hbm) (I1.kIn _ _ hC) (PySem.W.looks_findIn I1.kIn T.iC) (fun self => PySem.W.bind_fn I1.kIn self T.tI) hus ?_)
  refine x_init (t0 := hp.objs.size) T hb I1.kIn kk (by show hp.objs.size ≤ _; simp [Heap.push]; try omega) hpx hget (I1.ok.mod.glob.keeps I1.bk) hsu (hmb.keeps I1.bk) ((hbb _ (by decide)).trans PyProof.Rows.Boot.«super») (by rw [make_depth]; exact hr) (I1.nolimit.keeps kk) (by rw [hlu]; exact hl) (fun q hq u hu => ?_) fun s2 L k XF S => ?_
  · have := par_rel (x := q.1) (ps := ps) r2
    rw [hu] at this
    cases z : parL ps (.ref (hp.objs.size + 1) :: vs) q.1 with
    | none => rw [z] at this; exact this.elim
    | some v => rw [z] at this; exact (hsh q hq v z).to this
  · refine ⟨rfl, ?_⟩
    obtain ⟨G, g1, g2⟩ := restrict s2.heap fun b => decide (b ≠ hp.objs.size + 1)
    have gk : ∀ b, b ≠ hp.objs.size + 1 → G.get? b = s2.heap.get? b := fun b hb => g1 b (decide_eq_true hb)
    have ge : G.get? (hp.objs.size + 1) = none := g2 _ (by simp)
    have kG : ∀ b o, hp.get? b = some o → G.get? b = some o := fun b o z => by
      rw [gk b (fun y => by rw [y, hpx] at z; cases z)]
      exact k b o z
    have Gs : ∀ b o, G.get? b = some o → s2.heap.get? b = some o := fun b o z => by
      by_cases hb : b = hp.objs.size + 1
      · rw [hb, ge] at z; cases z
      · exact (gk b hb).symm.trans z
    obtain ⟨h2, g2', d2, t2, os2⟩ := s2
    obtain ⟨e1, e2, e3⟩ := S
    have hna : H1 (hp.objs.size + 1) = none := I1.hok.gone hpx
    by_cases hf : fs = []
    · subst hf
      obtain ⟨t1, hx⟩ := XF
      have J : Inv X pins σ H1 ⟨G, g, dr, tk, os⟩ := I1.kept kG
      exact ⟨_, _, _, ⟨G, g, dr, tk, os⟩, H1, .ref C, none, rfl, J, Gs, ge, hx, ⟨rfl, rfl⟩, rfl, rfl, hna, e2, by rw [show (⟨h2, g2', d2, t2, os2⟩ : Shared).gens = g from e1]; exact I1.bare, raises_own T.C0.exC T.C0.tyC, hn rfl⟩
    · have ar : ∀ y, RelO ((accL (parL ps (.ref (hp.objs.size + 1) :: vs)) [] fs).lookup y) ((accF (parV ps (.ref (hp.objs.size + 1) :: us)) [] fs).lookup y) := acc_rel (fun y => par_rel (x := y) (ps := ps) r2) fs [] [] fun y => True.intro
      obtain ⟨gg, gs, ea⟩ := accF_nil (m := parV ps (.ref (hp.objs.size + 1) :: us)) hf
      rw [ea] at XF ar
      obtain ⟨t1, dx, mA, hx, hns, hmA, hpd, dne, dnl⟩ := XF
      have hnd : H1 dx = none := I1.hok.gone hpd
      have J : Inv X pins σ (upd H1 dx (.xd (accL (parL ps (.ref (hp.objs.size + 1) :: vs)) [] fs))) ⟨G, g, dr, tk, os⟩ := by
        refine I1.laidN kG hpd hnd ⟨mA, hns.at fun o z => (gk dx dne).trans z, fun y => ?_⟩
        rw [hmA y]; exact ar y
      refine ⟨_, _, _, ⟨G, g, dr, tk, os⟩, _, .ref C, some dx, rfl, J, Gs, ge, hx, ⟨rfl, rfl⟩, rfl, rfl, ?_, e2, by rw [show (⟨h2, g2', d2, t2, os2⟩ : Shared).gens = g from e1]; exact I1.bare, raises_own T.C0.exC T.C0.tyC, hs hf dx hnd⟩
      rw [upd_ne (Ne.symm dne)]; exact hna
theorem pmk_x (T : XIn X.prog X.K C f cda cc qual params body scope ps xa fs fd) (hb : Binds X.K fd ps []) (hr : X.A.depth + 1 < recursionLimit) (hsu : X.mg "super" = none) (hg : Gl X x) (hm : X.mg x = some (.ref C)) (ha : PA X (e :: es) ta)
    (hdb : (x == ("__debug__" : Str)) = false) (he : starEach (e :: es) X.env = (false, eval e X.env) :: starEach es X.env) (hpl : (backTo pos (starEach es X.env)).any (·.1) = false) :
    PMk X (.Call (.Name x p) (e :: es) [] pos) (tMkX C ps xa fs ta) := by
  intro pins s σ H Q I h
  refine wpAny_Call_Name_kw (ld_glob I hg hm ?_ hdb)
  exact PySem.W.callWith_K (h₀ := X.base) I.ok.mod.kin T.C0.kC (thn (ha.run pos pins s σ H _ I h) fun us s1 hh => (by obtain ⟨vs, H1, I1, r1, hz⟩ := hh; exact ⟨I1.kIn, run_xmk T hb hr hsu I1 r1 hz⟩)) he hpl
theorem pmk_x0 (T : XIn X.prog X.K C f cda cc qual params body scope ps xa fs fd) (hb : Binds X.K fd ps []) (hr : X.A.depth + 1 < recursionLimit) (hsu : X.mg "super" = none) (hg : Gl X x) (hm : X.mg x = some (.ref C))
    (hdb : (x == ("__debug__" : Str)) = false) :
    PMk X (.Call (.Name x p) [] [] pos) (tMkX C ps xa fs tNil) := by
  intro pins s σ H Q I h
  refine wpAny_Call_Name_kw (ld_glob I hg hm ?_ hdb)
  exact PySem.W.callWith_K0 I.kIn T.C0.kC (run_xmk (us := []) T hb hr hsu I .nil h)
end
end Rx
end

section
set_option maxHeartbeats 4000000
/-! Rx: isinstance of a caught error, with or without fields. -/
namespace Rx
open PySem PySem.Spec PySem.Calls PyProof.Rows PySem.W
section
variable {prog : Program} {w : World} {A : Around} {E : Value → Shared → Prop} {s : Shared} {K : Frag} {x D : Addr} {ox : Obj} {od : Option Obj}
theorem kin_classG {Q : Option Value → Shared → Prop} (hga : findIn K (.ref D) "__getattribute__" = some (some (.builtin "BaseException.__getattribute__"))) (hgt : findIn K (.ref D) "__getattr__" = some none) (hsub : subIn K (.ref D) (.type "BaseException") = some true)
    (hdct : hasDictIn K D = true) (ha : findIn K (.ref D) "__class__" = some (some (.builtin "object.__class__")))
    (hn : specialIn K (.builtin "object.__class__") "__get__" = some (some (.builtin "getset_descriptor.__get__"))) (htk : takesIn K (.builtin "object.__class__") = some true) (hm : mroIn K D (.type "object") = some true)
    (X : K.In s.heap) (I : InstAt s.heap x ox D od) (h : Q (some (.ref D)) { s with toks := s.toks + 1 }) : wpAny (model prog w) A (getAttr? (.ref x) "__class__") Q E s := by
  have hf : findObj K D od "__class__" = some (.bind (.builtin "getset_descriptor.__get__") (.builtin "object.__class__")) := by
    cases od with
    | none => exact findObj_dataN (by obtain ⟨cd, hc, _⟩ := any_some hdct; rw [hc]; rfl) ha hn htk
    | some od => exact findObj_data (by obtain ⟨cd, hc, _⟩ := any_some hdct; rw [hc]; rfl) ha hn htk
  obtain ⟨hp, g, d, t, os⟩ := s
  have L0 := I.type (M := model prog w)
  have L1 := looks_findIn (M := model prog w) X hga
  have L2 := looks_findIn (M := model prog w) X hgt
  have L3 := looks_find (M := model prog w) X I hf
  have sub : Looks (model prog w) hp (isInstance (.ref x) (.type "BaseException")) true := L0.andThen (looks_subIn X hsub)
  have hx0 : (false && onTheHeap (Value.builtin "BaseException.__getattribute__")) = false := rfl
  have hx2 : (Value.builtin "BaseException.__getattribute__" == Value.builtin "object.__getattribute__") = false := by decide +kernel
  have hx1 : (onTheHeap (Value.ref D) && Value.builtin "BaseException.__getattribute__" == Value.builtin "object.__getattribute__") = false := by rw [hx2]; rfl
  unfold getAttr? getAttrBy? getAttrBy
  refine wpAny_bind (wpAny_mkText (wpAny_bind (wpAny_attempt (wpAny_holding (wpAny_bind (L0.at (wpAny_bind (L1.at ?_))))))))
  show wpAny _ _ (if (onTheHeap (Value.ref D) && Value.builtin "BaseException.__getattribute__" == Value.builtin "object.__getattribute__") = true then _ else _) _ _ _
  rw [hx1, if_neg Bool.false_ne_true]
  unfold getAttrByItsOwn hookBefore
  refine wpAny_bind ?_
  rw [if_pos (show onTheHeap (Value.ref D) = true from rfl)]
  refine L2.at ?_
  refine wpAny_bind (wpAny_attempt (wpAny_holding ?_))
  unfold callGetattribute
  rw [hx0, if_neg Bool.false_ne_true]
  unfold boundAndCalled
  rw [PySem.F.excAttr_ValueError.ga.bind (.ref x)]
  refine wpAny_bind (wpAny_pure ?_)
  show wpAny _ _ (call (.builtin "BaseException.__getattribute__") [.ref x, .str "__class__" t]) _ _ _
  refine wpAny_call (codeAny_call_builtin PySem.F.excAttr_ValueError.ga.plain PySem.F.entry_bexc_ga ?_)
  refine @check_slot (model prog w) _ _ ⟨hp, g, d, t + 1, os⟩ "BaseException.__getattribute__" "BaseException" "__getattribute__" (.ref x) [.str "__class__" t] [] _ (by decide +kernel) (by decide +kernel) sub (PySem.F.args_bexc_ga (.ref x) (.str "__class__" t)) ?_
  unfold Builtin.«object.__getattribute__»
  refine wpAny_bind (wpAny_of_eq (a := ((Value.ref x : Value), [Value.str "__class__" t])) (by first | rfl | (simp only [slotArgs]; rfl)) ?_)
  refine wpAny_bind (wpAny_pure (wpAny_bind (L0.at (wpAny_bind (L3.at ?_)))))
  show wpAny _ _ (holding [Value.builtin "object.__class__"] (call (.builtin "getset_descriptor.__get__") [.builtin "object.__class__", .ref x, .ref D]) >>= ret) _ _ _
  refine wpAny_bind (wpAny_holding (wpAny_call (class_get (s := ⟨hp, g, d, t + 1, os⟩) (ox := ox) (od := od) X I hm ?_)))
  refine wpAny_pure ?_
  show wpAny _ _ (handedOut (.ref D)) _ _ _
  rw [handedOut_of (v := .ref D) rfl]
  first
    | exact wpAny_pure (wpAny_pure h)
    | exact wpAny_pure h
    | exact wpAny_pure (wpAny_bind (wpAny_pure (wpAny_pure h)))
theorem kitx_excG (hga : findIn K (.ref D) "__getattribute__" = some (some (.builtin "BaseException.__getattribute__"))) (hgt : findIn K (.ref D) "__getattr__" = some none) (hsub : subIn K (.ref D) (.type "BaseException") = some true) (hdct : hasDictIn K D = true) (ha : findIn K (.ref D) "__class__" = some (some (.builtin "object.__class__")))
    (hn : specialIn K (.builtin "object.__class__") "__get__" = some (some (.builtin "getset_descriptor.__get__"))) (htk : takesIn K (.builtin "object.__class__") = some true) (hm : mroIn K D (.type "object") = some true) :
    KitX K (.ref x) (.ref D) (fun h => InstAt h x ox D od) where
  ty := fun _ _ _ I => I.type
  it := fun _ _ X _ => by
    obtain ⟨cdD, hcD, _⟩ := any_some hdct
    unfold clsIn at hcD
    split at hcD
    · rename_i c' d' cd' sl' ho
      intro A' Q' E' s' k q
      unfold isType loadHead
      exact wpAny_bind (wpAny_loadPart (k _ _ (X _ _ ho)) (wpAny_pure q))
    · cases hcD
  ne := fun h tp dd its n sl X htp => by
    obtain ⟨cdD, hcD, _⟩ := any_some hdct
    refine Bool.eq_false_iff.mpr fun q => ?_
    have e : D = tp := Value.ref.inj (beq_iff_eq.mp q)
    subst e
    unfold clsIn at hcD
    split at hcD
    · rename_i c' d' cd' sl' ho
      have z := (X _ _ ho).symm.trans htp
      cases z
    · cases hcD
  ca := fun X I k => kin_classG hga hgt hsub hdct ha hn htk hm X I k
end
end Rx
namespace Rx
open PySem PySem.Spec PyProof.Rows L2
/-- isinstance(e, c), e the exception that the suite holds -/
def rIsG (K : PySem.W.Frag) (D a : Addr) (d : Option Addr) : List V → Hp → VK → Prop := fun xs H Q => ∃ (cv : Value) (c : V) (b : Bool), xs = [.ref a, c] ∧ (∀ u, RelV c u → u = cv) ∧ PySem.W.kitOne K (.ref D) cv = some b ∧ (d = none ∨ ∃ dx gs, d = some dx ∧ H dx = some (.xd gs)) ∧ Q (.bl b) H
theorem call_isG {X : Cx} {a D : Addr} {oe : Obj} {d : Option Addr} {pn : List (Addr × Obj)} (C : ExcC X.K D) (hz : Zc (.ref D) d oe) (hf : ∃ vs, oe.data = .fields vs) : CallR (X.suite a ((a, oe) :: pn)) (.builtin "isinstance") (rIsG X.K D a d) := by
  intro pins s σ H xs us Q I r h
  obtain ⟨cv, c, b, rfl, hcv, e, hd, q⟩ := h
  cases r with
  | cons rx rr =>
    cases rr with
    | cons rt rr =>
      cases rr
      cases rx
      have ec := hcv _ rt
      subst ec
      obtain ⟨hget, _⟩ := I.pin (a, oe) (List.mem_append.mpr (.inl List.mem_cons_self))
      obtain ⟨vs, hv⟩ := hf
      have J : ∃ od, PySem.W.InstAt s.heap a oe D od := by
        obtain ⟨oc, odd, oda, osl⟩ := oe
        obtain ⟨h1, h2⟩ := hz
        dsimp only at h1 h2 hv
        subst h1 h2 hv
        rcases hd with rfl | ⟨dx, gs, rfl, hx⟩
        · exact ⟨none, hget, rfl, rfl, trivial⟩
        · obtain ⟨mA, ⟨o, _, _, ho, _⟩, _⟩ := (show ObjOk X.prog X.w H s.heap dx (.xd gs) from I.hok dx _ hx)
          exact ⟨some o, hget, rfl, rfl, ho⟩
      obtain ⟨od, J⟩ := J
      exact PySem.W.kia_one (kitx_excG (od := od) C.hg C.hk C.hs C.hd C.ha C.hn C.ht C.hm) I.kIn J e (fun z => nomatch z) fun tk => ⟨.bl b, H, I.kept (t' := tk) fun _ _ z => z, rfl, q⟩
end Rx
end

section
set_option maxHeartbeats 4000000
/-! Rx: what is known around a def's body. -/
namespace Rx
open PySem PySem.Spec PyProof.Rows L2

/-- an error stands for its tree -/
def XRep (G : Gw) (H : Hp) (x : XV) (cls : Value) (d : Option Addr) : Prop :=
  cls = .ref (G.ca x.c) ∧ ((x.fs = [] ∧ d = none) ∨ ∃ dx gs, d = some dx ∧ H dx = some (.xd gs) ∧ FRep G.K H x.fs gs)
def HandsX (G : Gw) (H : Hp) (Ea : XK1) (E : XK) : Prop := ∀ x M' cls d H', HRep G.w G.ca G.K M' H' → XRep G H' x cls d → Keep H H' → Ea x M' → E cls d H'
/-- a contract as a promise -/
def spOf (G : Gw) (n : Nat) (con : Con) : Sp := fun vs H Q E => vs.length = n ∧ ∃ ps M Qa Ea, HRep G.w G.ca G.K M H ∧ Reps G.K H ps vs ∧ con ps M Qa Ea ∧ Hands G H Qa Q ∧ HandsX G H Ea E
/-- what is wished of errors, with the slots -/
def Wish (G : Gw) (xk : XW) : WX := fun cls d σ H => ∃ x g M, Rel G σ H g M ∧ XRep G H x cls d ∧ xk x g M

/-- an own class, for isinstance and == -/
structure OwnCls (K : PySem.W.Frag) (mg : Str → Option Value) (C : Addr) (c : String) : Prop where
  mg : mg (so c) = some (.ref C)
  hg : PySem.W.plainGet K C "__class__" = true
  hd : PySem.W.hasDictIn K C = true
  ha : PySem.W.findIn K (.ref C) "__class__" = some (some (.builtin "object.__class__"))
  hn : PySem.W.specialIn K (.builtin "object.__class__") "__get__" = some (some (.builtin "getset_descriptor.__get__"))
  tk : PySem.W.takesIn K (.builtin "object.__class__") = some true
  mr : PySem.W.mroIn K C (.type "object") = some true
  ne : PySem.W.findIn K (.ref C) "__ne__" = some (some (.builtin "object.__ne__"))
  kit : ∀ t ∈ (["NoneType", "bool", "int", "str", "tuple", "list", "dict"] : List String), PySem.W.kitOne K (.type t) (.ref C) = some false
  nf : PySem.W.notFirst K C (.type "dict") = true ∧ PySem.W.notFirst K C (.type "list") = true
/-- an own error's class, to be matched -/
structure XCls (K : PySem.W.Frag) (mg : Str → Option Value) (ca : String → Addr) (xn : List String) (c : String) : Prop where
  mg : mg (so c) = some (.ref (ca c))
  db : nmOk (so c) = true
  ex : ∀ x ∈ xn, PySem.W.exmOne K (.ref (ca x)) (.ref (ca c)) = some (excIs x c)
  ki : ∀ x ∈ xn, PySem.W.kitOne K (.ref (ca x)) (.ref (ca c)) = some (excIs x c)
  xf : XfC K (ca c)
  nf : ∀ f ∈ xfNames, PySem.W.findIn K (.ref (ca c)) (so f) = some none
  xe : ExcC K (ca c)
/-- an own error's class, to be made -/
structure XMk (prog : Program) (K : PySem.W.Frag) (mg : Str → Option Value) (C : Addr) (c : String) (pn : List String) (rd : List (String × Bool)) (fl : List (String × String)) : Prop where
  ex : ∃ f cda cc qual params body scope xa fd, XIn prog K C f cda cc qual params body scope (so "self" :: pn.map so) xa (fl.map fun q => (so q.1, so q.2)) fd ∧ Binds K fd (so "self" :: pn.map so) [] ∧ xa.reads = rd.map fun q => (so q.1, q.2)
/-- what is known of the defs and classes -/
structure Kn (Γ : Gm) (ca : String → Addr) (X : Cx) : Prop where
  fn : ∀ f n con, Γ.fn f = some (n, con) → ∃ k a fd ps, FnOk X.prog X.w X.K X.mg X.base (L2.CX X.prog X.w) k a fd ps (spOf (gOf X ca) n con) ∧ Room k X.A ∧ X.mg (so f) = some (.ref a) ∧ PySem.W.keepIn X.K (.ref a) = true ∧ Binds X.K fd ps []
  mkc : ∀ c n con, Γ.mkc c = some (n, con) → ∃ k a fd ps, FnOk X.prog X.w X.K X.mg X.base (L2.CX X.prog X.w) k a fd ps (spOf (gOf X ca) n con) ∧ Room (k + 1) X.A ∧ Mk X.K (ca c) a ∧ X.mg (so c) = some (.ref (ca c)) ∧ Binds X.K fd ps [] ∧ ClsOk X.K (ca c) c
  mt : ∀ c m n con, Γ.mt c m = some (n, con) → ∃ k a fd ps, FnOk X.prog X.w X.K X.mg X.base (L2.CX X.prog X.w) k a fd ps (spOf (gOf X ca) n con) ∧ Room (k + 1) X.A ∧ Meth X.K (ca c) (so m) a ∧ Binds X.K fd ps []
  pr : ∀ c f n con, Γ.pr c f = some (n, con) → ∃ k p a fd ps, FnOk X.prog X.w X.K X.mg X.base (L2.CX X.prog X.w) k a fd ps (spOf (gOf X ca) n con) ∧ Room (k + 1) X.A ∧ PropOf X.K (ca c) (so f) p a ∧ Binds X.K fd ps []
  co : ∀ x p, Γ.co x = some p → ∃ u v, X.mg (so x) = some u ∧ RelV v u ∧ ∀ H, Rep X.K H p v
  bi : ∀ f ∈ biNames, X.mg (so f) = none
  cl : ∀ c, Γ.cl.contains c = true → OwnCls X.K X.mg (ca c) c ∧ ∀ d, Γ.cl.contains d = true → PySem.W.kitOne X.K (.ref (ca d)) (.ref (ca c)) = some (decide (d = c))
  xn : ∀ c, Γ.xn.contains c = true → XCls X.K X.mg ca Γ.xn c
  xc : ∀ c, Γ.xc.contains c = true → Γ.xn.contains c = true ∧ ∃ pn rd fl, excSpec c = some (pn, rd, fl) ∧ XMk X.prog X.K X.mg (ca c) c pn rd fl
  su : Γ.xc ≠ [] → X.mg (so "super") = none ∧ X.A.depth + 2 < recursionLimit
  un : X.A.units + 65 < cLine
/-- what is known of a body -/
structure XOk (Γ : Gm) (ca : String → Addr) (xk : XW) (N : List Str) (sc : Scope) (F : Str → Bool) (X : Cx) : Prop where
  kn : Kn Γ ca X
  calm : X.calm = true
  nd : X.N.Nodup
  eN : X.N = N
  eS : X.env.scope = sc
  fn : ∀ x, F x = true → X.fn x = true
  tk : Takes X (Wish (gOf X ca) xk)

theorem takes_no {X : Cx} {ca : String → Addr} : Takes X (Wish (gOf X ca) noX) := fun u s' ⟨a, B, sI, pins, σ, H, cls, d, e, I, nb, up, sky, na, os, ag, x, g, M, h1, h2, h3⟩ => h3.elim
section
variable {Γ : Gm} {ca : String → Addr} {xk : XW} {N : List Str} {sc : Scope} {F : Str → Bool} {X : Cx}
theorem Kn.blk (k : Kn Γ ca X) {s : Shared} {H : Hp} {scope : Scope} {cenv : Env} {fp : List Addr} : Kn Γ ca (X.blk s H scope cenv fp) := ⟨k.fn, k.mkc, k.mt, k.pr, k.co, k.bi, k.cl, k.xn, k.xc, k.su, k.un⟩
theorem XOk.blk (k : XOk Γ ca xk N sc F X) {s : Shared} {H : Hp} {scope : Scope} {C : Addr} {cl : List (Str × Addr)} {fp : List Addr} :
    XOk Γ ca noX N (relS scope sc) (blkF scope) (X.blk s H scope (compEnvC scope cl C X.env) fp) :=
  ⟨k.kn.blk, k.calm, k.nd, k.eN, by rw [← k.eS]; rfl, fun x h => h, takes_no⟩
theorem XOk.noX (k : XOk Γ ca xk N sc F X) : XOk Γ ca noX N sc F X := ⟨k.kn, k.calm, k.nd, k.eN, k.eS, k.fn, takes_no⟩
end

/-! ### the text's forms -/
theorem and1 {a b : Bool} (h : (a && b) = true) : a = true := by cases a <;> simp_all
theorem and2 {a b : Bool} (h : (a && b) = true) : b = true := by cases a <;> simp_all
theorem base_ok {o : Expr} {name : Str} {env : Env} {w : Sem Value} (h : plainO o = true) : attributeBase o name env w = w := by
  unfold attributeBase
  split
  · cases h
  · rfl
theorem stars_ok : ∀ {es : List Expr}, es.all notStar = true → ∀ (env : Env) (pos : Pos), (backTo pos (starEach es env)).any (·.1) = false
  | [], _, _, _ => rfl
  | e :: es, h, env, pos => by
    rw [List.all_cons] at h
    rw [star_ok (and1 h)]
    show ((false : Bool) || (backTo pos (starEach es env)).any (·.1)) = false
    rw [stars_ok (and2 h)]; rfl
theorem stars_all : ∀ {es : List Expr}, es.all notStar = true → ∀ (env : Env) (pos : Pos), (backTo pos (starEach es env)).all (fun x => !x.1) = true
  | [], _, _, _ => rfl
  | e :: es, h, env, pos => by
    rw [List.all_cons] at h
    rw [star_ok (and1 h)]
    show ((true : Bool) && (backTo pos (starEach es env)).all (fun x => !x.1)) = true
    rw [stars_all (and2 h)]; rfl
theorem behind_ok {op : CmpOp} {e : Expr} (h : notSet e = true) : behindInMarks op e = false := by
  cases e <;> first | rfl | cases h
theorem fset_ok {e : Expr} (h : notSet e = true) (env : Env) (x : Value) : foldedSetIterable e env x = pure x := by
  cases e <;> first | rfl | cases h
theorem plain_ix {e : Expr} (h : notSlice e = true) : PlainIx e := fun o i => by
  cases e <;> first | rfl | cases h
theorem asgn_ok {e : Expr} {es : List Expr} (h : notStar e = true) (env : Env) : (assignEach (e :: es) env).map (·.2) = assign e env :: (assignEach es env).map (·.2) := by
  cases e <;> first | rfl | cases h
theorem asgn_len : ∀ (es : List Expr) (env : Env), (assignEach es env).length = es.length
  | [], _ => rfl
  | e :: es, env => by
    have ih := asgn_len es env
    cases e <;> (show (assignEach es env).length + 1 = es.length + 1; rw [ih])
theorem asgn_no : ∀ {es : List Expr}, es.all notStar = true → ∀ env : Env, (assignEach es env).findIdx? (·.1) = none
  | [], _, _ => rfl
  | e :: es, h, env => by
    rw [List.all_cons] at h
    have ih := asgn_no (and2 h) env
    have h1 := and1 h
    have key : ∀ t, (assignEach (e :: es) env) = (false, t) :: assignEach es env → (assignEach (e :: es) env).findIdx? (·.1) = none := fun t q => by
      rw [q, List.findIdx?_cons, ih]; rfl
    cases e <;> first
      | exact key _ rfl
      | cases h1
theorem sub_assign {o i : Expr} {pos : Pos} {env : Env} (h : notSlice i = true) : ∀ v, assign (.Subscript o i pos) env v = (do
      let ov ← holding [v] (eval o env)
      let iv ← holding [v, ov] (eval i env)
      standAt pos
      holding [v, ov, iv] (setItem ov iv v)
      release [v, ov, iv] []) := fun v => by
  cases i <;> first | rfl | cases h
theorem gl_ok {X : Cx} {sc : Scope} (e : X.env.scope = sc) {x : Str} (h : glb sc x = true) : Gl X x := by
  show X.env.scope.names.lookup x = _
  rw [e]; exact of_decide_eq_true h
theorem nm_dbg {x : Str} (h : nmOk x = true) : (x == ("__debug__" : Str)) = false := by
  unfold nmOk at h
  have := and1 (and1 h)
  simpa using this
theorem nm_cd {x : Str} (h : nmOk x = true) : (x == ("__classdict__" : Str)) = false := by
  unfold nmOk at h
  have := and2 (and1 h)
  simpa using this
theorem nm_name {x : Str} (h : nmOk x = true) : x ≠ "__name__" := by
  unfold nmOk at h
  have := and2 h
  simpa using this
theorem vis_ok {X : Cx} {sc : Scope} (e : X.env.scope = sc) {x : Str} (h : visB sc x = true) : Vis X.env.scope x := by
  rw [e]
  unfold visB at h
  split at h
  · exact .inl (by assumption)
  · exact .inr (.inl (by assumption))
  · exact .inr (.inr (by assumption))
  · cases h
theorem meth_form {o : Expr} {m : Str} {ap pos : Pos} {es : List Expr} {env : Env} (h1 : plainO o = true) (h2 : ap.endLine = pos.line) (h3 : es.length < 29) (h4 : es.all notStar = true) :
    eval (.Call (.Attribute o m ap) es [] pos) env = (do
      let ov ← eval o env
      standAt ap.atName
      let (f, first) ← holding [ov] (getMethod ov m (plOf o env))
      callWith pos f first (backTo pos (starEach es env)) (backToKw pos (keywordEach [] env))) := by
  rw [arm_eval_Call, base_ok h1]
  have hform : methodCallForm (es.length + ([] : List Keyword).length) (backTo pos (starEach es env)) (backToKw pos (keywordEach [] env)) = true := by
    unfold methodCallForm
    rw [stars_all h4]
    simp [backToKw, keywordEach]
    omega
  have hpos : methodCallPos true o env ap pos = pure pos := by unfold methodCallPos; simp [h2]
  unfold methodCall calleeOf
  rw [hform]
  simp only [hpos, if_true, pure_bind]
  rfl
theorem few_ok {es : List Expr} {env : Env} {pos : Pos} (h3 : es.length < 29) (h4 : es.all notStar = true) : ((backTo pos (starEach es env)).all (fun x => !x.1) && (backToKw pos (keywordEach [] env)).all (fun x => x.1.isSome)
      && decide (es.length + ([] : List Keyword).length + (if ([] : List Keyword).isEmpty then 0 else 1) < 30)) = true := by
  rw [stars_all h4]
  simp [backToKw, keywordEach]
  omega
end Rx
end

section
set_option maxHeartbeats 4000000
/-! Rx: the readings of expressions, rule by rule. -/
namespace Rx
open PySem PySem.Spec PyProof.Rows L2
section
variable {X : Cx} {ca : String → Addr} {a b c : Expr} {ra rb rc : RE} {pos : Pos}
theorem lift_run {G : Gw} {σ : L2.St} {H : Hp} {r : RE} {Qa : KV1} {g : Sg} {M : MM} {Q : VK} (rel : Rel G σ H g M) (run : r g M Qa)
    (h : ∀ p M' v H', Rel G σ H' g M' → Rep G.K H' p v → Keep H H' → Qa p M' → Q v H') : liftE G r σ H Q :=
  ⟨g, M, Qa, rel, run, fun p M' v H' hM rp k q => h p M' v H' (rel.go k hM) rp k q⟩
theorem liftT_run {G : Gw} {σ : L2.St} {H : Hp} {r : RT} {Qa : Bool → MM → Prop} {g : Sg} {M : MM} {Q : Bool → Hp → Prop} (rel : Rel G σ H g M) (run : r g M Qa)
    (h : ∀ b M' H', Rel G σ H' g M' → Keep H H' → Qa b M' → Q b H') : liftT G r σ H Q :=
  ⟨g, M, Qa, rel, run, fun p M' H' hM k q => h p M' H' (rel.go k hM) k q⟩
theorem liftA_run {G : Gw} {σ : L2.St} {H : Hp} {r : RA} {Qa : List PV → MM → Prop} {g : Sg} {M : MM} {Q : List V → Hp → Prop} (rel : Rel G σ H g M) (run : r g M Qa)
    (h : ∀ p M' v H', Rel G σ H' g M' → Reps G.K H' p v → Keep H H' → Qa p M' → Q v H') : liftA G r σ H Q :=
  ⟨g, M, Qa, rel, run, fun p M' v H' hM rp k q => h p M' v H' (rel.go k hM) rp k q⟩
theorem hands_of {G : Gw} {H H1 : Hp} {Qa : KV1} {Q : VK} (hk : ∀ p M' v H', HRep G.w G.ca G.K M' H' → Rep G.K H' p v → Keep H H' → Qa p M' → Q v H') (k : Keep H H1) : Hands G H1 Qa Q := fun p M' v H' a b c d => hk p M' v H' a b (k.trans c) d

/-- two operands -/
theorem e_op {f : Value → Value → Sem Value} {r : PV → PV → MM → KV1 → Prop} {σ : L2.St} {H : Hp} {Q : VK}
    (h : liftE (gOf X ca) (fun g M Q => ra g M fun p M1 => rb g M1 fun q M2 => r p q M2 Q) σ H Q) : tOp (lift2 (gOf X ca) r) (liftE (gOf X ca) ra) (liftE (gOf X ca) rb) σ H Q := by
  obtain ⟨g, M, Qa, rel, run, hk⟩ := h
  exact lift_run rel run fun p M1 v H1 rel1 rp k1 q1 => lift_run rel1 q1 fun q M2 w H2 rel2 rq k2 q2 => ⟨p, q, M2, Qa, rel2.h, rp.keep k2, rq, q2, hands_of hk (k1.trans k2)⟩
theorem e_bin (op : Operator) (ha : PE X a (liftE (gOf X ca) ra)) (hb : PE X b (liftE (gOf X ca) rb)) :
    PE X (.BinOp a op b pos) (liftE (gOf X ca) fun g M Q => ra g M fun p M1 => rb g M1 fun q M2 => binA op p q M2 Q) :=
  PE.imp (pe_op (bin_snd op) ha hb) fun σ H Q h => e_op (f := binaryOp op) h
theorem e_neg (ha : PE X a (liftE (gOf X ca) ra)) : PE X (.UnaryOp .USub a pos) (liftE (gOf X ca) fun g M Q => ra g M fun p M1 => match p with
    | .int i => Q (.int (-i)) M1
    | _ => False) :=
  PE.imp (pe_un un_neg ha) fun σ H Q h => by
    obtain ⟨g, M, Qa, rel, run, hk⟩ := h
    refine lift_run rel run fun p M1 v H1 rel1 rp k1 q1 => ?_
    split at q1
    · cases rp
      exact ⟨_, rfl, (hands_of hk k1).int rel1.h q1⟩
    · exact q1.elim
theorem e_cmp (op : CmpOp) (hu : X.A.units + 65 < cLine) (hm : behindInMarks op b = false) (ha : PE X a (liftE (gOf X ca) ra)) (hb : PE X b (liftE (gOf X ca) rb)) :
    PE X (.Compare a [op] [b] pos) (liftE (gOf X ca) fun g M Q => ra g M fun p M1 => rb g M1 fun q M2 => cmpA op p q M2 fun r => Q (.bl r) M2) :=
  PE.imp (pe_cmpR (cmp_snd op hu) ha hb hm) fun σ H Q h => e_op (f := compareOp op) h
/-- a wish of truths as one of values -/
def qB (Q : Bool → MM → Prop) : KV1 := fun p M => match p with
  | .bl b => Q b M
  | _ => False
theorem qB_hand {G : Gw} {H : Hp} {Qa : Bool → MM → Prop} {Q : Bool → Hp → Prop} (hk : ∀ b M' H', HRep G.w G.ca G.K M' H' → Keep H H' → Qa b M' → Q b H') :
    ∀ p M' v H', HRep G.w G.ca G.K M' H' → Rep G.K H' p v → Keep H H' → qB Qa p M' → ∃ k, v = .bl k ∧ Q k H' := fun p M' v H' hM rp k q => by
  unfold qB at q
  split at q
  · cases rp
    exact ⟨_, rfl, hk _ _ _ hM k q⟩
  · exact q.elim
theorem t_cmp (op : CmpOp) (hu : X.A.units + 65 < cLine) (hm : behindInMarks op b = false) (ha : PE X a (liftE (gOf X ca) ra)) (hb : PE X b (liftE (gOf X ca) rb)) :
    PT X (.Compare a [op] [b] pos) (liftT (gOf X ca) fun g M Q => ra g M fun p M1 => rb g M1 fun q M2 => cmpA op p q M2 fun r => Q r M2) :=
  PT.imp (pt_cmpR (cmp_snd op hu) ha hb hm) fun σ H Q h => by
    obtain ⟨g, M, Qa, rel, run, hk⟩ := h
    exact e_op (f := compareOp op) (r := cmpE op) ⟨g, M, qB Qa, rel, run, qB_hand hk⟩
theorem last_ok {o1 o2 : CmpOp} {b c : Expr} (h : behindInMarks o2 c = false) : lastMarks [o1, o2] [b, c] = false := by
  unfold lastMarks
  exact h
theorem e_chain' (o1 o2 : CmpOp) {rc : RE} {σ : L2.St} {H : Hp} {Q : VK}
    (h : liftE (gOf X ca) (fun g M Q => ra g M fun p M1 => rb g M1 fun q M2 => cmpA o1 p q M2 fun r => if r = true then rc g M2 fun s M3 => cmpA o2 q s M3 fun r => Q (.bl r) M3 else Q (.bl false) M2) σ H Q) :
    tChain (lift2 (gOf X ca) (cmpE o1)) (lift2 (gOf X ca) (cmpE o2)) (liftE (gOf X ca) ra) (liftE (gOf X ca) rb) (liftE (gOf X ca) rc) σ H Q := by
  obtain ⟨g, M, Qa, rel, run, hk⟩ := h
  refine lift_run rel run fun p M1 v H1 rel1 rp k1 q1 => lift_run rel1 q1 fun q M2 w H2 rel2 rq k2 q2 => ?_
  refine ⟨p, q, M2, qB fun r M2 => if r = true then rc g M2 fun s M3 => cmpA o2 q s M3 fun r => Qa (.bl r) M3 else Qa (.bl false) M2, rel2.h, rp.keep k2, rq, q2, fun p' M' v' H' hM rp' k3 q3 => ?_⟩
  unfold qB at q3
  split at q3
  · rename_i r
    cases rp'
    have k13 := (k1.trans k2).trans k3
    refine ⟨_, rfl, ?_⟩
    cases r with
    | true =>
      simp only [if_true] at q3 ⊢
      exact lift_run (rel2.go k3 hM) q3 fun s M4 u H4 rel4 rs k4 q4 => ⟨q, s, M4, Qa, rel4.h, (rq.keep k3).keep k4, rs, q4, hands_of hk (k13.trans k4)⟩
    | false =>
      simp only [Bool.false_eq_true, if_false] at q3 ⊢
      exact (hands_of hk k13).bl hM q3
  · exact q3.elim
theorem e_chain (o1 o2 : CmpOp) (hu : X.A.units + 65 < cLine) (hm : behindInMarks o2 c = false) (ha : PE X a (liftE (gOf X ca) ra)) (hb : PE X b (liftE (gOf X ca) rb)) (hc : PE X c (liftE (gOf X ca) rc)) :
    PE X (.Compare a [o1, o2] [b, c] pos) (liftE (gOf X ca) fun g M Q => ra g M fun p M1 => rb g M1 fun q M2 => cmpA o1 p q M2 fun r =>
      if r = true then rc g M2 fun s M3 => cmpA o2 q s M3 fun r => Q (.bl r) M3 else Q (.bl false) M2) :=
  PE.imp (pe_chain (cmp_snd o1 hu) (cmp_snd o2 hu) ha hb hc (last_ok hm)) fun σ H Q h => e_chain' o1 o2 h
theorem t_chain (o1 o2 : CmpOp) (hu : X.A.units + 65 < cLine) (hm : behindInMarks o2 c = false) (ha : PE X a (liftE (gOf X ca) ra)) (hb : PE X b (liftE (gOf X ca) rb)) (hc : PE X c (liftE (gOf X ca) rc)) :
    PT X (.Compare a [o1, o2] [b, c] pos) (liftT (gOf X ca) fun g M Q => ra g M fun p M1 => rb g M1 fun q M2 => cmpA o1 p q M2 fun r =>
      if r = true then rc g M2 fun s M3 => cmpA o2 q s M3 fun r => Q r M3 else Q false M2) :=
  PT.imp (pt_chain (cmp_snd o1 hu) (cmp_snd o2 hu) ha hb hc (last_ok hm)) fun σ H Q h => by
    obtain ⟨g, M, Qa, rel, run, hk⟩ := h
    exact e_chain' o1 o2 ⟨g, M, qB Qa, rel, run, qB_hand hk⟩
/-- a value's truth -/
theorem e_tru {σ : L2.St} {H : Hp} {Q : Bool → Hp → Prop} (h : liftT (gOf X ca) (fun g M Q => ra g M fun p M1 => truA p M1 fun b => Q b M1) σ H Q) :
    liftE (gOf X ca) ra σ H fun x H' => liftTr (gOf X ca) truA x H' Q := by
  obtain ⟨g, M, Qa, rel, run, hk⟩ := h
  exact lift_run rel run fun p M1 v H1 rel1 rp k1 q1 => ⟨p, M1, fun b => Qa b M1, rel1.h, rp, q1, fun b q => hk b M1 H1 rel1.h k1 q⟩
theorem t_val (ha : PE X a (liftE (gOf X ca) ra)) (he : ∀ whole, isTrue a X.env whole = (do let v ← whole; standAt a.pos; holding [v] (truthy v))) :
    PT X a (liftT (gOf X ca) fun g M Q => ra g M fun p M1 => truA p M1 fun b => Q b M1) :=
  PT.imp (pt_truthR ha tru_snd he) fun σ H Q h => e_tru h
theorem e_not (ha : PE X a (liftE (gOf X ca) ra)) : PE X (.UnaryOp .Not a pos) (liftE (gOf X ca) fun g M Q => ra g M fun p M1 => truA p M1 fun b => Q (.bl (!b)) M1) := by
  refine ⟨fun pins s σ H Q I h => ?_⟩
  obtain ⟨g, M, Qa, rel, run, hk⟩ := h
  refine UnaryOp_ (thn (ha.run pins s σ H _ I (lift_run (Q := fun v H1 => liftTr (gOf X ca) truA v H1 fun b H2 => Q (.bl (!b)) H2) rel run fun p M1 v H1 rel1 rp k1 q1 =>
    ⟨p, M1, fun b => Qa (.bl (!b)) M1, rel1.h, rp, q1, fun b q => (hands_of hk k1).bl rel1.h q⟩)) fun v s1 ⟨x, H1, I1, r1, q1⟩ => ?_)
  exact not_of (thn (tru_snd pins s1 σ H1 x v _ I1 r1 q1) fun c s2 ⟨H2, I2, q2⟩ => ⟨.bl (!c), H2, I2, rfl, q2⟩)
theorem t_not {r : RT} (ha : PT X a (liftT (gOf X ca) r)) : PT X (.UnaryOp .Not a pos) (liftT (gOf X ca) fun g M Q => r g M fun b M1 => Q (!b) M1) :=
  PT.imp (pt_not ha) fun σ H Q h => by
    obtain ⟨g, M, Qa, rel, run, hk⟩ := h
    exact liftT_run rel run fun b M1 H1 rel1 k1 q1 => hk _ _ _ rel1.h k1 q1
theorem e_and {rest : List Expr} (ha : PE X a (liftE (gOf X ca) ra)) (hb : PE X (.BoolOp .And (b :: rest) pos) (liftE (gOf X ca) rb)) :
    PE X (.BoolOp .And (a :: b :: rest) pos) (liftE (gOf X ca) fun g M Q => ra g M fun p M1 => match p with
    | .bl c => if c = true then rb g M1 Q else Q (.bl false) M1
    | _ => False) :=
  PE.imp (pe_and ha hb) fun σ H Q h => by
    obtain ⟨g, M, Qa, rel, run, hk⟩ := h
    refine lift_run rel run fun p M1 v H1 rel1 rp k1 q1 => ?_
    split at q1
    · rename_i c
      cases rp
      refine ⟨c, rfl, ?_⟩
      cases c with
      | true =>
        simp only [if_true] at q1 ⊢
        exact ⟨g, M1, Qa, rel1, q1, hands_of hk k1⟩
      | false =>
        simp only [Bool.false_eq_true, if_false] at q1 ⊢
        exact (hands_of hk k1).bl rel1.h q1
    · exact q1.elim
theorem e_or {rest : List Expr} (ha : PE X a (liftE (gOf X ca) ra)) (hb : PE X (.BoolOp .Or (b :: rest) pos) (liftE (gOf X ca) rb)) :
    PE X (.BoolOp .Or (a :: b :: rest) pos) (liftE (gOf X ca) fun g M Q => ra g M fun p M1 => match p with
    | .bl c => if c = true then Q (.bl true) M1 else rb g M1 Q
    | _ => False) :=
  PE.imp (pe_or ha hb) fun σ H Q h => by
    obtain ⟨g, M, Qa, rel, run, hk⟩ := h
    refine lift_run rel run fun p M1 v H1 rel1 rp k1 q1 => ?_
    split at q1
    · rename_i c
      cases rp
      refine ⟨c, rfl, ?_⟩
      cases c with
      | true =>
        simp only [if_true] at q1 ⊢
        exact (hands_of hk k1).bl rel1.h q1
      | false =>
        simp only [Bool.false_eq_true, if_false] at q1 ⊢
        exact ⟨g, M1, Qa, rel1, q1, hands_of hk k1⟩
    · exact q1.elim
theorem w_and {rest : List Expr} {r r' : RT} (ha : PT X a (liftT (gOf X ca) r)) (hb : PW X (.BoolOp .And (b :: rest) pos) (liftT (gOf X ca) r')) :
    PW X (.BoolOp .And (a :: b :: rest) pos) (liftT (gOf X ca) fun g M Q => r g M fun c M1 => if c = true then r' g M1 Q else Q false M1) :=
  PW.imp (pw_and ha hb) fun σ H Q h => by
    obtain ⟨g, M, Qa, rel, run, hk⟩ := h
    refine liftT_run rel run fun c M1 H1 rel1 k1 q1 => ?_
    cases c with
    | true =>
      simp only [if_true] at q1 ⊢
      exact ⟨g, M1, Qa, rel1, q1, fun b M' H' hM k q => hk b M' H' hM (k1.trans k) q⟩
    | false =>
      simp only [Bool.false_eq_true, if_false] at q1 ⊢
      exact hk _ _ _ rel1.h k1 q1
theorem w_or {rest : List Expr} {r r' : RT} (ha : PT X a (liftT (gOf X ca) r)) (hb : PW X (.BoolOp .Or (b :: rest) pos) (liftT (gOf X ca) r')) :
    PW X (.BoolOp .Or (a :: b :: rest) pos) (liftT (gOf X ca) fun g M Q => r g M fun c M1 => if c = true then Q true M1 else r' g M1 Q) :=
  PW.imp (pw_or ha hb) fun σ H Q h => by
    obtain ⟨g, M, Qa, rel, run, hk⟩ := h
    refine liftT_run rel run fun c M1 H1 rel1 k1 q1 => ?_
    cases c with
    | true =>
      simp only [if_true] at q1 ⊢
      exact hk _ _ _ rel1.h k1 q1
    | false =>
      simp only [Bool.false_eq_true, if_false] at q1 ⊢
      exact ⟨g, M1, Qa, rel1, q1, fun b M' H' hM k q => hk b M' H' hM (k1.trans k) q⟩
theorem e_ite {r : RT} (hc : PT X c (liftT (gOf X ca) r)) (ha : PE X a (liftE (gOf X ca) ra)) (hb : PE X b (liftE (gOf X ca) rb)) :
    PE X (.IfExp c a b pos) (liftE (gOf X ca) fun g M Q => r g M fun d M1 => if d = true then ra g M1 Q else rb g M1 Q) :=
  PE.imp (pe_ifExp hc ha hb) fun σ H Q h => by
    obtain ⟨g, M, Qa, rel, run, hk⟩ := h
    refine liftT_run rel run fun c M1 H1 rel1 k1 q1 => ?_
    cases c with
    | true =>
      simp only [if_true] at q1 ⊢
      exact ⟨g, M1, Qa, rel1, q1, hands_of hk k1⟩
    | false =>
      simp only [Bool.false_eq_true, if_false] at q1 ⊢
      exact ⟨g, M1, Qa, rel1, q1, hands_of hk k1⟩
/-- names, constants -/
theorem e_const {v : V} {p : PV} (h : PE X a (tC v)) (r : ∀ H, Rep X.K H p v) : PE X a (liftE (gOf X ca) fun _ M Q => Q p M) :=
  PE.imp h fun σ H Q ⟨g, M, Qa, rel, run, hk⟩ => hk p M v H rel.h (r H) (.refl H) run
theorem e_var {i : Nat} {x : Str} (hN : X.N[i]? = some x) (hv : Vis X.env.scope x) (hd : (x == ("__debug__" : Str)) = false) (hcd : (x == ("__classdict__" : Str)) = false) :
    PE X (.Name x pos) (liftE (gOf X ca) fun g M Q => match g[i]? with
    | some (some p) => Q p M
    | _ => False) :=
  PE.imp (pe_var hN hv hd hcd) fun σ H Q h => by
    obtain ⟨g, M, Qa, rel, run, hk⟩ := h
    split at run
    · rename_i p e
      obtain ⟨v, h1, h2⟩ := rel.s.at_ i p e
      exact ⟨v, h1, hk p M v H rel.h h2 (.refl H) run⟩
    · exact run.elim
/-- argument lists -/
theorem a_nil : PA X [] (liftA (gOf X ca) fun _ M Q => Q [] M) := PA.imp pa_nil fun σ H Q ⟨g, M, Qa, rel, run, hk⟩ => hk [] M [] H rel.h .nil (.refl H) run
theorem a_cons {es : List Expr} {r : RA} (ha : PE X a (liftE (gOf X ca) ra)) (hr : PA X es (liftA (gOf X ca) r)) (hs : notStar a = true) :
    PA X (a :: es) (liftA (gOf X ca) fun g M Q => ra g M fun p M1 => r g M1 fun ps M2 => Q (p :: ps) M2) :=
  PA.imp (pa_cons ha hr (star_ok hs _)) fun σ H Q h => by
    obtain ⟨g, M, Qa, rel, run, hk⟩ := h
    exact lift_run rel run fun p M1 v H1 rel1 rp k1 q1 => liftA_run rel1 q1 fun q M2 w H2 rel2 rq k2 q2 => hk _ _ _ _ rel2.h (.cons (rp.keep k2) rq) (k1.trans k2) q2
/-- subscripts -/
theorem e_sub (hu : X.A.units + 65 < cLine) (hs : notSlice b = true) (ha : PE X a (liftE (gOf X ca) ra)) (hb : PE X b (liftE (gOf X ca) rb)) :
    PE X (.Subscript a b pos) (liftE (gOf X ca) fun g M Q => ra g M fun p M1 => rb g M1 fun q M2 => subA p q M2 Q) :=
  PE.imp (pe_ix (sub_snd hu) ha hb (plain_ix hs)) fun σ H Q h => e_op (f := getItem) h
def liftO (G : Gw) (r : Sg → MM → (Option Int → MM → Prop) → Prop) : TO := fun σ H Q => ∃ g M Qa, Rel G σ H g M ∧ r g M Qa ∧ ∀ o M' H', HRep G.w G.ca G.K M' H' → Keep H H' → Qa o M' → Q o H'
theorem PO.imp {e : Option Expr} {t t' : TO} (h : PO X e t) (i : ∀ σ H Q, t' σ H Q → t σ H Q) : PO X e t' := ⟨fun pins s σ H Q I q => h.run pins s σ H Q I (i σ H Q q)⟩
theorem o_none : PO X none (liftO (gOf X ca) fun _ M Q => Q none M) := PO.imp po_none fun σ H Q ⟨g, M, Qa, rel, run, hk⟩ => hk none M H rel.h (.refl H) run
theorem o_some (ha : PE X a (liftE (gOf X ca) ra)) : PO X (some a) (liftO (gOf X ca) fun g M Q => ra g M fun p M1 => match p with
    | .int i => Q (some i) M1
    | _ => False) :=
  PO.imp (po_some ha) fun σ H Q h => by
    obtain ⟨g, M, Qa, rel, run, hk⟩ := h
    refine lift_run rel run fun p M1 v H1 rel1 rp k1 q1 => ?_
    split at q1
    · cases rp
      exact ⟨_, rfl, hk _ _ _ rel1.h k1 q1⟩
    · exact q1.elim
theorem e_slc {lo hi : Option Expr} {p2 : Pos} {rl rh : Sg → MM → (Option Int → MM → Prop) → Prop} (ha : PE X a (liftE (gOf X ca) ra)) (hl : PO X lo (liftO (gOf X ca) rl)) (hh : PO X hi (liftO (gOf X ca) rh)) :
    PE X (.Subscript a (.Slice lo hi none p2) pos) (liftE (gOf X ca) fun g M Q => ra g M fun p M1 => rl g M1 fun l M2 => rh g M2 fun h M3 => slcA p l h M3 Q) :=
  PE.imp (pe_slice slc_snd ha hl hh) fun σ H Q h => by
    obtain ⟨g, M, Qa, rel, run, hk⟩ := h
    exact lift_run rel run fun p M1 v H1 rel1 rp k1 q1 => ⟨g, M1, _, rel1, q1, fun l M2 H2 hM2 k2 q2 => ⟨g, M2, _, rel1.go k2 hM2, q2, fun h M3 H3 hM3 k3 q3 => ⟨p, M3, Qa, hM3, (rp.keep k2).keep k3, q3, hands_of hk ((k1.trans k2).trans k3)⟩⟩⟩
end
end Rx
end

section
set_option maxHeartbeats 4000000
/-! Rx: displays, fields, calls. -/
namespace Rx
open PySem PySem.Spec PyProof.Rows L2
section
variable {Γ : Gm} {ca : String → Addr} {xk : XW} {N : List Str} {sc : Scope} {F : Str → Bool} {X : Cx} {a b c : Expr} {es : List Expr} {ra rb rc : RE} {r : RA} {pos ap : Pos}
/-! ### displays -/
theorem e_tup {k : Nat} (ha : PA X es (liftA (gOf X ca) r)) : PE X (.Tuple es k pos) (liftE (gOf X ca) fun g M Q => r g M fun ps M1 => ps.length ≤ sizeLine ∧ Q (.tup ps) M1) := by
  refine ⟨fun pins s σ H Q I h => ?_⟩
  obtain ⟨g, M, Qa, rel, run, hk⟩ := h
  refine wpAny_Tuple_spliced (thn (ha.run pos pins s σ H (fun vs H1 => vs.length ≤ sizeLine ∧ ∀ p us, H1 p = none → Q (.ref p) (upd H1 p (.frz (tupO us 0) (.tup vs)))) I (liftA_run rel run fun ps M1 vs H1 rel1 rp k1 q1 => ?_))
    fun us s1 ⟨vs, H1, I1, r1, z1, q1⟩ => ⟨by rw [← r1.length]; exact z1, .ref s1.heap.objs.size, _, tup_new (t' := s1.toks) I1 r1 z1, rfl, q1 _ us (tup_fresh I1)⟩)
  exact ⟨by rw [← rp.length]; exact q1.1, fun p us hp => (hands_of hk k1).tup rel1.h rp hp q1.2⟩
theorem e_lst (ha : PA X es (liftA (gOf X ca) r)) : PE X (.List es pos) (liftE (gOf X ca) fun g M Q => r g M fun ps M1 => ps.length ≤ sizeLine ∧ newL ps M1 Q) :=
  PE.imp (pe_lst ha) fun σ H Q h => by
    obtain ⟨g, M, Qa, rel, run, hk⟩ := h
    exact liftA_run rel run fun ps M1 vs H1 rel1 rp k1 q1 => ⟨by rw [← rp.length]; exact q1.1, fun p hp => (hands_of hk k1).lst rel1.h rp hp q1.2⟩
/-- *e in a display -/
theorem a_star {p : Pos} (ha : PE X a (liftE (gOf X ca) ra)) (hr : PA X es (liftA (gOf X ca) r)) :
    PA X (.Starred a p :: es) (liftA (gOf X ca) fun g M Q => ra g M fun p M1 => match seqA p M1 with
    | some qs => r g M1 fun ps M2 => Q (qs ++ ps) M2
    | none => False) := by
  refine ⟨fun po pins s σ H Q I h => ?_⟩
  obtain ⟨g, M, Qa, rel, run, hk⟩ := h
  show wpAny _ _ (spliced ((true, (do let v ← eval a X.env; standAt po; pure v)) :: backTo po (starEach es X.env))) _ _ s
  refine PySem.W.ks_spliced (thn (ha.run pins s σ H (fun v H1 => ∃ b vs, v = .ref b ∧ (SqL X.K H1 b vs ∨ SqT X.K H1 b vs) ∧ liftA (gOf X ca) r σ H1 fun ws H2 => Q (vs ++ ws) H2) I (lift_run rel run fun p M1 v H1 rel1 rp k1 q1 => ?_)) fun v s1 h1 => ?_)
  · split at q1
    · rename_i qs hq
      obtain ⟨b, vs, rfl, sq, rs⟩ := seqA_lst rel1.h rp hq
      exact ⟨b, vs, rfl, sq, liftA_run rel1 q1 fun ps M2 ws H2 rel2 rq k2 q2 => hk _ _ _ _ rel2.h ((rs.keep k2).append rq) (k1.trans k2) q2⟩
    · exact q1.elim
  · obtain ⟨x, H1, I1, r1, b, vs, rfl, sq, q1⟩ := h1
    cases r1
    refine StX.star_any I1 sq.symm fun us s2 I2 r2 => ?_
    exact thn (hr.run po pins s2 σ H1 _ I2 q1) fun ws s3 ⟨ys, H3, I3, r3, q3⟩ => ⟨vs ++ ys, H3, I3, r2.append r3, q3⟩
/-! ### fields -/
theorem FRep.lookup {K : PySem.W.Frag} {H : Hp} {f : String} {p : PV} : ∀ {fs : List (String × PV)} {gs : List (Str × V)}, FRep K H fs gs → fs.lookup f = some p → ∃ v, gs.lookup (so f) = some v ∧ Rep K H p v
  | _, _, .nil, h => by simp at h
  | _, _, .cons (f := f') (p := p') rp t, h => by
    rw [List.lookup_cons] at h
    rw [List.lookup_cons]
    by_cases e : f = f'
    · subst e
      simp only [beq_self_eq_true] at h ⊢
      cases h
      exact ⟨_, rfl, rp⟩
    · have e1 : (f == f') = false := by simpa using e
      have e2 : (so f == Str.ofString f') = false := by
        have : so f ≠ Str.ofString f' := fun z => e (so_inj z)
        simpa using this
      rw [e1] at h
      rw [e2]
      exact FRep.lookup t h
theorem FRep.lookup_none {K : PySem.W.Frag} {H : Hp} {f : String} : ∀ {fs : List (String × PV)} {gs : List (Str × V)}, FRep K H fs gs → fs.lookup f = none → gs.lookup (so f) = none
  | _, _, .nil, h => rfl
  | _, _, .cons (f := f') (p := p') rp t, h => by
    rw [List.lookup_cons] at h
    rw [List.lookup_cons]
    by_cases e : f = f'
    · subst e
      simp only [beq_self_eq_true] at h
      cases h
    · have e1 : (f == f') = false := by simpa using e
      have e2 : (so f == Str.ofString f') = false := by
        have : so f ≠ Str.ofString f' := fun z => e (so_inj z)
        simpa using this
      rw [e1] at h
      rw [e2]
      exact FRep.lookup_none t h
theorem e_fld {f : String} (hp : plainO a = true) (ha : PE X a (liftE (gOf X ca) ra)) :
    PE X (.Attribute a (so f) pos) (liftE (gOf X ca) fun g M Q => ra g M fun p M1 => match p with
    | .ref a => match M1 a with
      | some (.ins c fs) => match fs.lookup f with
        | some v => fieldOf c f = true ∧ Q v M1
        | none => False
      | _ => False
    | _ => False) :=
  PE.imp (pe_fld ha (base_ok hp)) fun σ H Q h => by
    obtain ⟨g, M, Qa, rel, run, hk⟩ := h
    refine lift_run rel run fun p M1 v H1 rel1 rp k1 q1 => ?_
    split at q1
    · rename_i x
      split at q1
      · rename_i c fs e1
        split at q1
        · rename_i y hy
          cases rp
          obtain ⟨dx, gs, h1, h2, _, h4⟩ := rel1.h x _ e1
          obtain ⟨w, h5, h6⟩ := h2.lookup hy
          exact ⟨x, _, dx, gs, w, rfl, h1, h4.cl, h4.no f q1.1, h5, (hands_of hk k1).val rel1.h h6 q1.2⟩
        · exact q1.elim
      · exact q1.elim
    · exact q1.elim
/-! ### calls -/
theorem passX {X : Cx} {ca : String → Addr} {xk : XW} (tk : Takes X (Wish (gOf X ca) xk)) (σ : L2.St) : PassesAt (L2.CX X.prog X.w) X σ (WE (Wish (gOf X ca) xk) σ) := passAt tk σ
/-- arguments, then a contract -/
theorem sp_of {n : Nat} {con : Con} {σ : L2.St} {H : Hp} {M : MM} {g : Sg} {vs : List V} {ps : List PV} {Q : VK} {Qa : KV1} (rel : Rel (gOf X ca) σ H g M) (rs : Reps X.K H ps vs) (hl : ps.length = n) (h : con ps M Qa fun x M2 => xk x g M2) (hk : Hands (gOf X ca) H Qa Q) :
    spOf (gOf X ca) n con vs H Q (WE (Wish (gOf X ca) xk) σ) :=
  ⟨by rw [← rs.length]; exact hl, ps, M, Qa, _, rel.h, rs, h, hk, fun x M' cls d H' hM xr k hx => ⟨x, g, M', rel.go k hM, xr, hx⟩⟩
theorem args_at {f : Value} {t : TA} {P : Args → Shared → Prop} {Q : List V → Hp → Prop} {pins : List (Addr × Obj)} {s : Shared} {σ : L2.St} {H : Hp} (ha : PA X es t) (hs : es.all notStar = true) (I : L2.Inv X pins σ H s) (h : t σ H Q)
    (hq : ∀ us s1 vs H1, L2.Inv X pins σ H1 s1 → Vals vs us → Q vs H1 → P ⟨us, []⟩ s1) : wpAny (model X.prog X.w) X.A (evalArgs f true (backTo pos (starEach es X.env)) (backToKw pos (keywordEach [] X.env))) P X.xe s := by
  have z := ha.run pos pins s σ H Q I h
  cases es with
  | nil =>
    have z2 : wpAny (model X.prog X.w) X.A (spliced []) (AP X pins σ Q) X.xe s := z
    show wpAny _ _ (evalArgs f true [] []) _ _ _
    unfold evalArgs
    refine wpAny_bind (thn z2 fun us s1 ⟨vs, H1, I1, r1, q1⟩ => wpAny_holding (wpAny_bind (wpAny_pure (wpAny_bind (wpAny_pure (wpAny_pure (hq us s1 vs H1 I1 r1 q1)))))))
  | cons e es =>
    rw [List.all_cons] at hs
    rw [star_ok (and1 hs)] at z ⊢
    exact Calls.evalArgs_plain (thn z fun us s1 ⟨vs, H1, I1, r1, q1⟩ => hq us s1 vs H1 I1 r1 q1)
theorem call_at {k : Nat} {f : Addr} {fd : FuncData} {ps : List Str} {sp : Sp} {x : Str} {p : Pos} {E : L2.St → XK} {t : TA} (F : FnOk X.prog X.w X.K X.mg X.base (L2.CX X.prog X.w) k f fd ps sp) (hr : Room k X.A) (hg : Gl X x) (hm : X.mg x = some (.ref f))
    (hk : PySem.W.keepIn X.K (.ref f) = true) (hb : Binds X.K fd ps []) (hx : ∀ σ, PassesAt (L2.CX X.prog X.w) X σ (E σ)) (ha : PA X es t) (hdb : (x == ("__debug__" : Str)) = false) (hs : es.all notStar = true) :
    PE X (.Call (.Name x p) es [] pos) (fun σ H Q => t σ H fun vs H1 => sp vs H1 Q (E σ)) := by
  cases es with
  | nil =>
    refine ⟨fun pins s σ H Q I h => wpAny_Call_Name_kw (ld_glob I hg hm ?_ hdb)⟩
    exact PySem.W.callWith_of rfl (PySem.W.keeps_K hk) (args_at ha rfl I h fun us s1 vs H1 I1 r1 q1 => ⟨I1.kIn, run_fnS F hr hb (hx σ) I1 r1 q1⟩)
  | cons e es =>
    rw [List.all_cons] at hs
    exact pe_callS F hr hg hm hk hb hx ha hdb (star_ok (and1 hs) _) (stars_ok (and2 hs) _ _)
theorem e_call (K : XOk Γ ca xk N sc F X) {f : String} {p : Pos} (hg : glb sc (so f) = true) (hn : nmOk (so f) = true) (hs : es.all notStar = true) (ha : PA X es (liftA (gOf X ca) r)) :
    PE X (.Call (.Name (so f) p) es [] pos) (liftE (gOf X ca) fun g M Q => match Γ.fn f with
    | some (n, k) => r g M fun ps M1 => ps.length = n ∧ k ps M1 Q fun x M2 => xk x g M2
    | none => False) := by
  cases hf : Γ.fn f with
  | none => exact ⟨fun pins s σ H Q I ⟨g, M, Qa, rel, run, hk⟩ => run.elim⟩
  | some z =>
    obtain ⟨n, con⟩ := z
    obtain ⟨k, f', fd, ps, Fn, hr, hm, hk, hb⟩ := K.kn.fn f n con hf
    refine PE.imp (call_at Fn hr (gl_ok K.eS hg) hm hk hb (passX K.tk) ha (nm_dbg hn) hs) fun σ H Q h => ?_
    obtain ⟨g, M, Qa, rel, run, hkk⟩ := h
    exact liftA_run rel run fun ps M1 vs H1 rel1 rp k1 q1 => sp_of rel1 rp q1.1 q1.2 (hands_of hkk k1)
/-- a new instance -/
theorem make_at {k : Nat} {f C : Addr} {fd : FuncData} {ps : List Str} {sp : Sp} {E : XK} {pins : List (Addr × Obj)} {σ : L2.St} {H : Hp} {s : Shared} {Q : VK} {us : List Value} {vs : List V} (Mc : Mk X.K C f)
    (Fn : FnOk X.prog X.w X.K X.mg X.base (L2.CX X.prog X.w) k f fd ps sp) (hr : Room (k + 1) X.A) (hb : Binds X.K fd ps []) (hx : PassesAt (L2.CX X.prog X.w) X σ E) (I : L2.Inv X pins σ H s) (rv : Vals vs us)
    (h : ∀ x dx, H x = none → H dx = none → dx ≠ x → sp (.ref x :: vs) (upd (upd H dx (.own x)) x (.ins C dx [])) (fun v H2 => v = .non ∧ Q (.ref x) H2) E) :
    wpAny (model X.prog X.w) X.A (call (.ref C) us) (EP X pins σ Q) X.xe s := by
  obtain ⟨d, ed⟩ : ∃ d, d = s.heap.objs.size := ⟨_, rfl⟩
  have n1 : H (d + 1) = none := I.hok.fresh (by rw [ed]; exact Nat.le_succ _)
  have n2 : H d = none := I.hok.fresh (by rw [ed]; exact Nat.le_refl _)
  have hsp := h (d + 1) d n1 n2 (Nat.ne_of_lt (Nat.lt_succ_self d))
  have I2 := Inv.made (C := C) I
  rw [← ed] at I2
  have r2 : Vals (V.ref (d + 1) :: vs) (Value.ref (d + 1) :: us) := .cons rfl rv
  have hl : (Value.ref (d + 1) :: us).length = ps.length := r2.length.symm.trans (Fn.len _ _ _ _ hsp)
  have hb2 := hb _ (Value.ref (d + 1) :: us) I2.kIn (by rw [List.append_nil]; exact hl)
  rw [List.append_nil] at hb2
  refine wpAny_call (make_map (f := f) I.kIn Mc.makes Mc.init (beq_iff_eq.mp Mc.fn) ?_)
  rw [← ed]
  refine codeAny_mono (Fn.run _ X.stack _ _ ⟨Value.ref (d + 1) :: us, []⟩ _ _ _ E (hr.make C us []) (I2.env0.make C us []) hb2 r2 hsp) fun o s' ho => ?_
  rcases o with e | fl
  · exact hx pins _ _ e s' I2 ho
  · rcases fl with _ | _ | _ | u
    · exact False.elim ho
    · exact False.elim ho
    · exact False.elim ho
    · obtain ⟨v, H', I3, rv3, ev, q3⟩ := I2.after ho
      subst ev
      exact ⟨rv3, .ref (d + 1), H', I3, rfl, q3⟩
theorem ins_new {G : Gw} {M : MM} {H : Hp} {c : String} {x dx : Addr} (hM : HRep G.w G.ca G.K M H) (cl : ClsOk G.K (G.ca c) c) (h1 : H x = none) (h2 : H dx = none) (h3 : dx ≠ x) :
    HRep G.w G.ca G.K (mput M x (.ins c [])) (upd (upd H dx (.own x)) x (.ins (G.ca c) dx [])) ∧ Keep H (upd (upd H dx (.own x)) x (.ins (G.ca c) dx [])) := by
  have n : (upd H dx (.own x)) x = none := by rw [upd_ne (Ne.symm h3)]; exact h1
  exact ⟨(hM.new0 h2).new n ⟨dx, [], upd_same, .nil, Nat.zero_le _, cl⟩, (Keep.new h2).trans (Keep.new n)⟩
theorem e_mk (K : XOk Γ ca xk N sc F X) {c : String} {p : Pos} (hg : glb sc (so c) = true) (hn : nmOk (so c) = true) (hs : es.all notStar = true) (ha : PA X es (liftA (gOf X ca) r)) :
    PE X (.Call (.Name (so c) p) es [] pos) (liftE (gOf X ca) fun g M Q => match Γ.mkc c with
    | some (n, k) => r g M fun ps M1 => ps.length + 1 = n ∧ ∀ a, M1 a = none → k (.ref a :: ps) (mput M1 a (.ins c [])) (fun v M2 => v = .non ∧ Q (.ref a) M2) fun x M2 => xk x g M2
    | none => False) := by
  cases hf : Γ.mkc c with
  | none => exact ⟨fun pins s σ H Q I ⟨g, M, Qa, rel, run, hk⟩ => run.elim⟩
  | some z =>
    obtain ⟨n, con⟩ := z
    obtain ⟨k, f', fd, ps, Fn, hr, Mc, hm, hb, cl⟩ := K.kn.mkc c n con hf
    refine ⟨fun pins s σ H Q I h => wpAny_Call_Name_kw (ld_glob I (gl_ok K.eS hg) hm ?_ (nm_dbg hn))⟩
    obtain ⟨g, M, Qa, rel, run, hk⟩ := h
    have hA : liftA (gOf X ca) r σ H (fun vs H1 => ∀ x dx, H1 x = none → H1 dx = none → dx ≠ x → spOf (gOf X ca) n con (.ref x :: vs) (upd (upd H1 dx (.own x)) x (.ins (ca c) dx [])) (fun v H2 => v = .non ∧ Q (.ref x) H2) (WE (Wish (gOf X ca) xk) σ)) :=
      (liftA_run rel run fun ps M1 vs H1 rel1 rp k1 q1 => fun x dx h1 h2 h3 => by
        obtain ⟨hM2, k2⟩ := ins_new rel1.h cl h1 h2 h3
        refine sp_of (rel1.go k2 hM2) (.cons (.ref x) (rp.keep k2)) (by rw [List.length_cons]; exact q1.1) (q1.2 x (rel1.h.fresh h1)) fun p' M' v' H' hM rp' k3 ⟨e3, q3⟩ => ?_
        subst e3
        cases rp'
        exact ⟨rfl, hk _ _ _ _ hM (.ref x) ((k1.trans k2).trans k3) q3⟩)
    have hany : (backTo pos (starEach es X.env)).any (·.1) = false := stars_ok hs _ _
    refine PySem.W.callWith_of (by show ((backTo pos (starEach es X.env)).any (·.1) || false) = false; rw [hany]; rfl) (PySem.W.keeps_K Mc.kp) (args_at ha hs I hA fun us s1 vs H1 I1 r1 q1 => ⟨I1.kIn, make_at Mc Fn hr hb (passX K.tk σ) I1 r1 q1⟩)
/-- a method of a class of the program -/
theorem e_meth (K : XOk Γ ca xk N sc F X) {m : String} (h1 : plainO a = true) (h2 : ap.endLine = pos.line) (h3 : es.length < 29) (hs : es.all notStar = true) (ho : PE X a (liftE (gOf X ca) ra)) (ha : PA X es (liftA (gOf X ca) r)) :
    PE X (.Call (.Attribute a (so m) ap) es [] pos) (liftE (gOf X ca) fun g M Q => ra g M fun p M1 => match p with
    | .ref a => match M1 a with
      | some (.ins c fs) => fs.lookup m = none ∧ match Γ.mt c m with
        | some (n, k) => r g M1 fun ps M2 => ps.length + 1 = n ∧ k (.ref a :: ps) M2 Q fun x M3 => xk x g M3
        | none => False
      | _ => False
    | _ => False) := by
  refine ⟨fun pins s σ H Q I h => PySem.W.methodCall_KW (pl := plOf a X.env) ?_ (meth_form h1 h2 h3 hs)⟩
  obtain ⟨g, M, Qa, rel, run, hk⟩ := h
  have hO := ho.run pins s σ H (fun v H1 => ∃ x c dx gs n con, v = .ref x ∧ H1 x = some (.ins (ca c) dx gs) ∧ Cls X.K (ca c) ∧ gs.lookup (so m) = none ∧ Γ.mt c m = some (n, con) ∧
    liftA (gOf X ca) r σ H1 fun vs H2 => spOf (gOf X ca) n con (.ref x :: vs) H2 Q (WE (Wish (gOf X ca) xk) σ)) I (lift_run rel run fun p M1 v H1 rel1 rp k1 q1 => by
      split at q1
      · rename_i x
        split at q1
        · rename_i c fs e1
          obtain ⟨hl, q1⟩ := q1
          split at q1
          · rename_i n con hf
            cases rp
            obtain ⟨dx, gs, g1, g2, _, g4⟩ := rel1.h x _ e1
            refine ⟨x, c, dx, gs, n, con, rfl, g1, g4.cl, g2.lookup_none hl, hf, liftA_run rel1 q1 fun ps M2 vs H2 rel2 rs k2 q2 => ?_⟩
            exact sp_of rel2 (.cons (.ref x) rs) (by rw [List.length_cons]; exact q2.1) q2.2 (hands_of hk (k1.trans k2))
          · exact q1.elim
        · exact q1.elim
      · exact q1.elim)
  refine thn hO fun u s1 ⟨v, H1, I1, rv, x, c, dx, gs, n, con, ev, g1, gc, gl, hf, q1⟩ => ?_
  subst ev
  cases rv
  obtain ⟨k, f, fd, ps, Fn, hr, hm, hb⟩ := K.kn.mt c m n con hf
  refine getmeth_ok I1 g1 gc hm gl ?_
  have hany : (backTo pos (starEach es X.env)).any (·.1) = false := stars_ok hs _ _
  refine PySem.W.callWith_of (by show ((backTo pos (starEach es X.env)).any (·.1) || false) = false; rw [hany]; rfl) (PySem.W.keeps_K hm.kp) (args_at ha hs I1 q1 fun us s2 vs H2 I2 r2 q2 => ⟨I2.kIn, run_fnS (us := .ref x :: us) (vs := .ref x :: vs) Fn (hr.mono (Nat.le_succ _)) hb (passX K.tk σ) I2 (.cons rfl r2) q2⟩)
/-- a property -/
theorem passes_none {E : XK} (h : ∀ c d H, ¬ E c d H) : Passes (L2.CX X.prog X.w) X.nox E := fun pins σ H s e s' I ⟨a, B, H', cls, d, _, _, _, _, _, _, _, w⟩ => (h _ _ _ w).elim
theorem e_prop (K : XOk Γ ca xk N sc F X) {f : String} (hp : plainO a = true) (ha : PE X a (liftE (gOf X ca) ra)) :
    PE X (.Attribute a (so f) pos) (liftE (gOf X ca) fun g M Q => ra g M fun p M1 => match p with
    | .ref a => match M1 a with
      | some (.ins c _) => match Γ.pr c f with
        | some (n, k) => n = 1 ∧ k [.ref a] M1 Q fun _ _ => False
        | none => False
      | _ => False
    | _ => False) := by
  refine ⟨fun pins s σ H Q I h => attr_of (base_ok hp) ?_⟩
  obtain ⟨g, M, Qa, rel, run, hk⟩ := h
  have hO := ha.run pins s σ H (fun v H1 => ∃ x c dx gs n con, v = .ref x ∧ H1 x = some (.ins (ca c) dx gs) ∧ Cls X.K (ca c) ∧ Γ.pr c f = some (n, con) ∧ spOf (gOf X ca) n con [.ref x] H1 Q fun _ _ _ => False) I
    (lift_run rel run fun p M1 v H1 rel1 rp k1 q1 => by
      split at q1
      · rename_i x
        split at q1
        · rename_i c fs e1
          split at q1
          · rename_i n con hf
            cases rp
            obtain ⟨dx, gs, g1, g2, _, g4⟩ := rel1.h x _ e1
            exact ⟨x, c, dx, gs, n, con, rfl, g1, g4.cl, hf, q1.1.symm, [.ref x], M1, Qa, _, rel1.h, .one (.ref x), q1.2, hands_of hk k1, fun _ _ _ _ _ _ _ _ z => z⟩
          · exact q1.elim
        · exact q1.elim
      · exact q1.elim)
  refine thn hO fun u s1 ⟨v, H1, I1, rv, x, c, dx, gs, n, con, ev, g1, gc, hf, q1⟩ => ?_
  subst ev
  cases rv
  obtain ⟨k, p, f', fd, ps, Fn, hr, hpo, hb⟩ := K.kn.pr c f n con hf
  exact getprop_ok I1 g1 gc hpo Fn hr hb .nil (passes_none fun _ _ _ z => z) q1
end
end Rx
end

section
set_option maxHeartbeats 4000000
/-! Rx: what a loop walks. -/
namespace Rx
open PySem PySem.Spec PyProof.Rows L2
/-! ### a raw dict's keys and pairs -/
/-- the object at d is o whenever p holds -/
def ObjAt (K : PySem.W.Frag) (p : Hp → Prop) (d : Addr) (o : Obj) : Prop := ∀ (X : Cx) (pins : List (Addr × Obj)) (σ : L2.St) (H : Hp) (s : Shared), X.K = K → L2.Inv X pins σ H s → p H → s.heap.get? d = some o
def ItK (p : Hp → Prop) (ks : List V) : L2.It := ⟨fun i H => p H ∧ i < ks.length, fun i H x H' => H' = H ∧ ks[i]? = some x, fun i H => p H ∧ ks.length ≤ i⟩
def ItP (p : Hp → Prop) (ks us : List V) : L2.It := ⟨fun i H => p H ∧ i < ks.length, fun i H x H' => ∃ T y z, ks[i]? = some y ∧ us[i]? = some z ∧ x = .ref T ∧ H T = none ∧ H' = upd H T (.tup [y, z]), fun i H => p H ∧ ks.length ≤ i⟩
section
variable {P : Program} {w : World} {K : PySem.W.Frag} {tg : Expr} {d it : Addr} {o : Obj} {es : Array DictEntry} {ep : Nat} {p : Hp → Prop} {ks us : List V}
theorem turn_K (oa : ObjAt K p d o) (hx : o.ExactDict) (hd : o.data = .dict es ep) (rk : Vals ks (es.toList.map (·.key))) : Turn P w K tg (ItK p ks) [it] it (fun i h => h.IsKeyIter it d i es.size ep) := by
  have hsz : ks.length = es.size := by rw [rk.length, List.length_map, Array.length_toList]
  refine ⟨by simp, fun i h st b hb => ?_, fun i h h2 st kp => st.at fun ob e => kp it (by simp) ob e, ?_, ?_, fun A i s Q E st h => wpAny_pyIter_keyiter st h⟩
  · obtain ⟨oi, e, _, dd⟩ := st
    rw [List.mem_singleton.mp hb]
    exact ⟨oi, e, fun v z => by rw [dd] at z; cases z⟩
  · intro Y e1 e2 e3 cm n pn s τ G Ex J ff sx gx
    subst e1 e2 e3
    have ho := oa Y pn τ G s rfl J gx.1
    obtain ⟨f0, f1, _, f3, f4, f5⟩ := ff it (by simp)
    have hi : n < es.size := by rw [← hsz]; exact gx.2
    obtain ⟨y, hy⟩ : ∃ y, ks[n]? = some y := ⟨_, List.getElem?_eq_getElem gx.2⟩
    obtain ⟨u, hu, ru⟩ := rk.get hy
    have eu : u = es[n].key := by
      rw [List.getElem?_map, Array.getElem?_toList, Array.getElem?_eq_getElem hi] at hu
      exact (Option.some.inj hu).symm
    subst eu
    refine wpAny_pyNext_keys_item_raw sx ⟨o, ho, hx, hd⟩ hi fun h2 sx2 sb => ?_
    have J2 : L2.Inv Y pn τ G { s with heap := h2 } := J.turned (t' := s.toks) (fun b ob hb e => (sb.2 b hb).trans e) f0 f1 f3 f4 f5
    obtain ⟨oi, ei, ec, ed⟩ := id sx2
    exact ⟨_, rfl, go_of (s := { s with heap := h2 }) ei ec ed (by decide) ⟨y, G, J2, ru, ⟨rfl, hy⟩, sx2, fun b hb => (ff b hb).1⟩⟩
  · intro Y e1 e2 e3 cm n pn s τ G Ex J ff sx gx
    subst e1 e2 e3
    have ho := oa Y pn τ G s rfl J gx.1
    obtain ⟨f0, f1, _, f3, f4, f5⟩ := ff it (by simp)
    exact wpAny_pyNext_keys_end_raw (J.ok.hd cm) sx ⟨o, ho, hx, hd⟩ (by rw [← hsz]; exact gx.2) fun h2 eb => ⟨rfl, J.turned (t' := s.toks) (fun b ob hb e => eb b ob hb e) f0 f1 f3 f4 f5⟩
theorem turn_P {elts : List Expr} {kk : Nat} {tpos : Pos} (oa : ObjAt K p d o) (hx : o.ExactDict) (hd : o.data = .dict es ep) (rk : Vals ks (es.toList.map (·.key))) (ru : Vals us (es.toList.map (·.val))) :
    Turn P w K (.Tuple elts kk tpos) (ItP p ks us) [it] it (fun i h => ∃ y z, IsItemIter h it d i es.size ep y z) := by
  have hsz : ks.length = es.size := by rw [rk.length, List.length_map, Array.length_toList]
  have hsz2 : us.length = es.size := by rw [ru.length, List.length_map, Array.length_toList]
  refine ⟨by simp, fun i h st b hb => ?_, fun i h h2 st kp => let ⟨y, z, e⟩ := st; ⟨y, z, kp it (by simp) _ e⟩, ?_, ?_, fun A i s Q E st h => let ⟨_, _, e⟩ := st; PySem.W.kcp_self e h⟩
  · obtain ⟨y, z, e⟩ := st
    rw [List.mem_singleton.mp hb]
    exact ⟨_, e, fun v z => nomatch z⟩
  · intro Y e1 e2 e3 cm n pn s τ G Ex J ff sx gx
    subst e1 e2 e3
    have ho := oa Y pn τ G s rfl J gx.1
    have hi : n < es.size := by rw [← hsz]; exact gx.2
    obtain ⟨y, hy⟩ : ∃ y, ks[n]? = some y := ⟨_, List.getElem?_eq_getElem gx.2⟩
    obtain ⟨z, hz⟩ : ∃ z, us[n]? = some z := ⟨us[n]'(by omega), List.getElem?_eq_getElem (by omega)⟩
    obtain ⟨u, hu, r1⟩ := rk.get hy
    obtain ⟨u', hu', r2⟩ := ru.get hz
    have eu : u = es[n].key := by
      rw [List.getElem?_map, Array.getElem?_toList, Array.getElem?_eq_getElem hi] at hu
      exact (Option.some.inj hu).symm
    have eu' : u' = es[n].val := by
      rw [List.getElem?_map, Array.getElem?_toList, Array.getElem?_eq_getElem hi] at hu'
      exact (Option.some.inj hu').symm
    subst eu eu'
    obtain ⟨ok, ov, he⟩ := sx
    have hlt : it < s.heap.objs.size := Heap.lt_size he
    refine wpAny_pyNext_items_item_raw he ⟨o, ho, hx, hd⟩ hi fun h2 out hT _ kp => ⟨_, rfl, wpAny_letOwnedTupleGo_items (s := { s with heap := h2 }) out fun h3 he3 sb => ?_⟩
    have hT3 : h3.get? s.heap.objs.size = some { cls := .type "tuple", data := .seq #[es[n].key, es[n].val] } := (sb.2 _ (Nat.ne_of_gt hlt)).trans hT
    have nw : ObjOk Y.prog Y.w (upd G s.heap.objs.size (.tup [y, z])) h3 s.heap.objs.size (.tup [y, z]) := ⟨by show 2 ≤ sizeLine; decide, [es[n].key, es[n].val], .cons r1 (.cons r2 .nil), ⟨_, hT3, rfl, _, rfl⟩⟩
    have J2 : L2.Inv Y pn τ (upd G s.heap.objs.size (.tup [y, z])) { s with heap := h3 } :=
      J.turnedNew (t' := s.toks) (ch := [it]) (fun b ob hb e => (sb.2 b (fun q => hb (by simp [q]))).trans (kp b ob (fun q => hb (by simp [q])) e)) ff (Nat.le_refl _) nw
    refine ⟨.ref s.heap.objs.size, _, J2, rfl, ⟨_, y, z, hy, hz, rfl, J.hok.fresh (Nat.le_refl _), rfl⟩, ⟨_, _, he3⟩, fun b hb => ?_⟩
    rw [List.mem_singleton.mp hb, upd_ne (Nat.ne_of_lt hlt)]
    exact (ff it (by simp)).1
  · intro Y e1 e2 e3 cm n pn s τ G Ex J ff sx gx
    subst e1 e2 e3
    have ho := oa Y pn τ G s rfl J gx.1
    obtain ⟨ok, ov, he⟩ := sx
    obtain ⟨f0, f1, _, f3, f4, f5⟩ := ff it (by simp)
    exact wpAny_pyNext_items_end_raw (J.ok.hd cm) he ⟨o, ho, hx, hd⟩ (by rw [← hsz]; exact gx.2) fun h2 eb => ⟨rfl, J.turned (t' := s.toks) (fun b ob hb e => eb b ob hb e) f0 f1 f3 f4 f5⟩
end

/-! ### the walk of a loop, by trees -/
/-- an item for the target: the new pair that comes at each turn need not be told with its object -/
def RepT (t : Tg) (K : PySem.W.Frag) (H : Hp) (p : PV) (v : V) : Prop := Rep K H p v ∨ ∃ ts ps a vs, t = .tup ts ∧ p = .tup ps ∧ v = .ref a ∧ SqT K H a vs ∧ Reps K H ps vs
theorem RepT.keep {t : Tg} {K : PySem.W.Frag} {H H' : Hp} {p : PV} {v : V} (r : RepT t K H p v) (k : Keep H H') : RepT t K H' p v := by
  rcases r with r | ⟨ts, ps, a, vs, e1, e2, e3, sq, rs⟩
  · exact .inl (r.keep k)
  · refine .inr ⟨ts, ps, a, vs, e1, e2, e3, ?_, rs.keep k⟩
    rcases sq with (sq | ⟨o, sq⟩) | sq
    · exact .inl (.inl (k.tup _ _ sq))
    · exact .inl (.inr ⟨o, k.frz _ _ _ sq⟩)
    · exact .inr sq
structure Walk (X : Cx) (ca : String → Addr) (t : Tg) (J : L2.It) (H0 H1 : Hp) (xs : List PV) (st : MM → Prop) (un : MM → MM) : Prop where
  go : ∀ i H M, HRep X.w ca X.K M H → Keep H1 H → st M → i < xs.length → J.go i H
  stop : ∀ H M, HRep X.w ca X.K M H → Keep H1 H → st M → J.stop xs.length H
  yld : ∀ i H M v H', HRep X.w ca X.K M H → Keep H1 H → st M → i < xs.length → J.yld i H v H' → ∃ p, xs[i]? = some p ∧ RepT t X.K H' p v ∧ Keep H H' ∧ HRep X.w ca X.K M H'
  fin2 : ∀ H M, HRep X.w ca X.K M H → Keep H1 H → ∃ H', (∀ pins σ s, L2.Inv X pins σ H s → L2.Inv X pins σ H' s) ∧ HRep X.w ca X.K (un M) H' ∧ Keep H0 H' ∧ KeepW H H'
theorem Walk.fin {X : Cx} {ca : String → Addr} {t : Tg} {J : L2.It} {H0 H1 : Hp} {xs : List PV} {st : MM → Prop} {un : MM → MM} (k : Walk X ca t J H0 H1 xs st un) : ∀ H M, HRep X.w ca X.K M H → Keep H1 H → ∃ H', (∀ pins σ s, L2.Inv X pins σ H s → L2.Inv X pins σ H' s) ∧ HRep X.w ca X.K (un M) H' ∧ Keep H0 H' :=
  fun H M a b => let ⟨H', c, d, e, _⟩ := k.fin2 H M a b; ⟨H', c, d, e⟩
/-- what the iterable's reading tells -/
def liftI (X : Cx) (ca : String → Addr) (t : Tg) (r : Sg → MM → RI → Prop) : TI := fun σ H R => ∃ g M Ra, Rel (gOf X ca) σ H g M ∧ r g M Ra ∧ ∀ xs st un M' J H0 H', HRep X.w ca X.K M' H' → Keep H H0 → Keep H H' → Walk X ca t J H0 H' xs st un → Ra xs st un M' → R J H'
section
variable {X : Cx} {ca : String → Addr} {t : Tg} {tg e e2 : Expr} {re re2 : RE} {p pos ap : Pos}
theorem fin_id {H0 H1 : Hp} (k : Keep H0 H1) : ∀ H M, HRep X.w ca X.K M H → Keep H1 H → ∃ H', (∀ pins σ s, L2.Inv X pins σ H s → L2.Inv X pins σ H' s) ∧ HRep X.w ca X.K (id M) H' ∧ Keep H0 H' ∧ KeepW H H' :=
  fun H M hM k1 => ⟨H, fun _ _ _ I => I, hM, k.trans k1, (Keep.refl H).w⟩
theorem walk_lst {M : MM} {H : Hp} {a : Addr} {ps : List PV} (e : M a = some (.lst ps)) : Walk X ca t (Itl X.K a) H H ps (fun M' => M' a = some (.lst ps)) id := by
  refine ⟨fun i H2 M2 hM k st hi => ?_, fun H2 M2 hM k st => ?_, fun i H2 M2 v H3 hM k st hi y => ?_, fin_id (.refl H)⟩
  · obtain ⟨vs, h1, rs⟩ := hM.lst st
    exact ⟨vs, vs[i]'(by rw [← rs.length]; exact hi), SqL.of h1, List.getElem?_eq_getElem _⟩
  · obtain ⟨vs, h1, rs⟩ := hM.lst st
    exact ⟨vs, SqL.of h1, by rw [rs.length]; exact Nat.le_refl _⟩
  · obtain ⟨vs, h1, rs⟩ := hM.lst st
    obtain ⟨rfl, y⟩ := y
    obtain ⟨q, hq, rq⟩ := rs.get' (y vs (SqL.of h1))
    exact ⟨q, hq, .inl rq, .refl _, hM⟩
theorem walk_seq {H : Hp} {ps : List PV} {vs : List V} {J : L2.It} (rs : Reps X.K H ps vs) (hgo : ∀ i H2, Keep H H2 → i < vs.length → J.go i H2) (hst : ∀ H2, Keep H H2 → J.stop vs.length H2) (hy : ∀ i H2 v H3, Keep H H2 → i < vs.length → J.yld i H2 v H3 → H3 = H2 ∧ vs[i]? = some v) :
    Walk X ca t J H H ps (fun _ => True) id := by
  refine ⟨fun i H2 M2 hM k _ hi => hgo i H2 k (by rw [← rs.length]; exact hi), fun H2 M2 hM k _ => by rw [rs.length]; exact hst H2 k, fun i H2 M2 v H3 hM k _ hi y => ?_, fin_id (.refl H)⟩
  obtain ⟨rfl, y2⟩ := hy i H2 v H3 k (by rw [← rs.length]; exact hi) y
  obtain ⟨q, hq, rq⟩ := (rs.keep k).get' y2
  exact ⟨q, hq, .inl rq, .refl _, hM⟩
theorem SqT.keep {K : PySem.W.Frag} {H H' : Hp} {a : Addr} {xs : List V} (k : Keep H H') (h : SqT K H a xs) : SqT K H' a xs := by
  rcases h with (h | ⟨o, h⟩) | h
  · exact .inl (.inl (k.tup _ _ h))
  · exact .inl (.inr ⟨o, k.frz _ _ _ h⟩)
  · exact .inr h
theorem XlAt.sqk {K : PySem.W.Frag} {H H' : Hp} {a : Addr} {xs : List V} (k : Keep H H') (h : XlAt K H a xs) : SqL K H' a xs := (h.keep k).sq
theorem so_chr (c : Char) : Str.ofString (String.singleton c) = ⟨#[c.toNat]⟩ := by
  rw [Str.ofString_eq_toList]
  simp
theorem so_get (s : String) (i : Nat) : (Str.ofString s).cps[i]? = (s.toList[i]?).map Char.toNat := by
  rw [Str.ofString_eq_toList]
  simp
theorem so_size (s : String) : (Str.ofString s).cps.size = s.toList.length := by
  rw [Str.ofString_eq_toList]
  simp
theorem chars_rep {K : PySem.W.Frag} {H : Hp} : ∀ cs : List Char, Reps K H (cs.map fun c => .str (String.singleton c)) (cs.map fun c => V.str ⟨#[c.toNat]⟩)
  | [] => .nil
  | c :: cs => .cons (by have r := Rep.str (K := K) (H := H) (String.singleton c); rw [so_chr] at r; exact r) (chars_rep cs)
/-- a dict is locked while a loop walks it -/
theorem dct_lock {pins : List (Addr × Obj)} {σ : L2.St} {H : Hp} {s : Shared} {M : MM} {a : Addr} {kvs : List (PV × PV)} (I : L2.Inv X pins σ H s) (hM : HRep X.w ca X.K M H) (e : M a = some (.dct kvs)) :
    ∃ (o : Obj) (es : Array DictEntry) (ep : Nat) (ks us : List V), s.heap.get? a = some o ∧ o.ExactDict ∧ o.data = .dict es ep ∧ (a == sysModules) = false ∧ L2.Inv X pins σ (upd H a (.frz o (DctO a es))) s ∧ HRep X.w ca X.K (mdel M a) (upd H a (.frz o (DctO a es))) ∧
      Keep H (upd H a (.frz o (DctO a es))) ∧ Reps X.K H (kvs.map (·.1)) ks ∧ Reps X.K H (kvs.map (·.2)) us ∧ Vals ks (es.toList.map (·.key)) ∧ Vals us (es.toList.map (·.val)) ∧ ObjAt X.K (fun G => G a = some (.frz o (DctO a es))) a o ∧
      ∀ H2 M2, HRep X.w ca X.K M2 H2 → Keep (upd H a (.frz o (DctO a es))) H2 → ∃ H3, (∀ pins σ s, L2.Inv X pins σ H2 s → L2.Inv X pins σ H3 s) ∧ HRep X.w ca X.K (mput M2 a (.dct kvs)) H3 ∧ Keep H H3 ∧ KeepW H2 H3 := by
  obtain ⟨es, h1, h2, h3, h4, h5⟩ := hM.dct e
  obtain ⟨o, ep, g1, g2, g3⟩ := dct_obj I h1
  have kp : Keep H (upd H a (.frz o (DctO a es))) := .set h1 rfl
  have nf := I.nofrz h1 True.intro
  have pairs : ∀ {kvs : List (PV × PV)} {l : List DictEntry}, ERep X.w X.K H kvs l → ∃ ks us, Reps X.K H (kvs.map (·.1)) ks ∧ Reps X.K H (kvs.map (·.2)) us ∧ Vals ks (l.map (·.key)) ∧ Vals us (l.map (·.val)) := by
    intro kvs l r
    induction r with
    | nil => exact ⟨[], [], .nil, .nil, .nil, .nil⟩
    | cons q1 q2 q3 r1 r2 r3 r4 _ ih =>
      obtain ⟨ks, us, a1, a2, a3, a4⟩ := ih
      exact ⟨_ :: ks, _ :: us, .cons r1 a1, .cons r3 a2, .cons r2 a3, .cons r4 a4⟩
  obtain ⟨ks, us, a1, a2, a3, a4⟩ := pairs h2
  refine ⟨o, es, ep, ks, us, g1, g2, g3, h5, ?_, ?_, kp, a1, a2, a3, a4, fun Y pn τ G t e0 J q => (J.hok a _ q).1, fun H2 M2 hM2 k2 => ?_⟩
  · exact I.write (x := a) (e := a) (t' := s.toks) (h' := s.heap) (by rw [h1]; exact True.intro) (.inl rfl) (fun b v _ q => q) ⟨o, g1⟩ ⟨g1, dctO_ok g1 g2 g3⟩
  · intro b u q
    by_cases z : b = a
    · subst z; unfold mdel at q; rw [mput_same] at q; cases q; exact ⟨o, _, upd_same⟩
    · unfold mdel at q; rw [mput_ne z] at q
      exact (hM b u q).keep kp (upd_ne z)
  · have f2 : H2 a = some (.frz o (DctO a es)) := k2.frz _ _ _ upd_same
    have k3 : Keep H (upd H2 a (DctO a es)) := by
      refine ⟨fun b xs q => ?_, fun b o2 u q => ?_⟩
      · have z : b ≠ a := by rintro rfl; rw [h1] at q; cases q
        rw [upd_ne z]; exact (kp.trans k2).tup _ _ q
      · have z : b ≠ a := by rintro rfl; rw [h1] at q; cases q
        rw [upd_ne z]; exact (kp.trans k2).frz _ _ _ q
    have kw : KeepW H2 (upd H2 a (DctO a es)) := by
      refine ⟨fun c o2 xs y => ?_, fun c o2 xs y => ?_⟩
      · have z2 : c ≠ a := by rintro rfl; rw [f2] at y; cases y
        rw [upd_ne z2]; exact y
      · have z2 : c ≠ a := by rintro rfl; rw [f2] at y; cases y
        rw [upd_ne z2]; exact y
    refine ⟨upd H2 a (DctO a es), fun pn τ s2 J => J.unlock f2 nf, fun b u q => ?_, k3, kw⟩
    by_cases z : b = a
    · subst z
      rw [mput_same] at q; cases q
      exact ⟨es, upd_same, h2.keep k3, h3, h4, h5⟩
    · rw [mput_ne z] at q
      exact (hM2 b u q).keepW kw (upd_ne z)
end
end Rx
end

section
set_option maxHeartbeats 4000000
/-! Rx: the iterables' readings. -/
namespace Rx
open PySem PySem.Spec PyProof.Rows L2
section
variable {X : Cx} {ca : String → Addr} {t : Tg} {tg e e2 : Expr} {re re2 : RE} {p pos ap : Pos}
/-- an iterator is handed on: where the heap is as it was -/
theorem pie_one {pins : List (Addr × Obj)} {σ : L2.St} {H : Hp} {s : Shared} {R : L2.It → Hp → Prop} {J : L2.It} {tn : Nat → Heap → Prop} {tk : Nat} (I : L2.Inv X pins σ H s) (o : Obj)
    (T : Turn X.prog X.w X.K tg J [s.heap.objs.size] s.heap.objs.size tn) (st : tn 0 (s.heap.push o)) (q : R J H) : PIE X pins σ tg R (.ref s.heap.objs.size) { s with heap := s.heap.push o, toks := tk } := pi_one I o T st q
theorem i_val (he : PE X e (liftE (gOf X ca) re)) : PI X tg e (liftI X ca t fun g M R => re g M fun p M1 => itA p M1 R) := by
  refine ⟨fun pins s σ H R I h => ?_⟩
  obtain ⟨g, M, Ra, rel, run, hk⟩ := h
  refine thn (he.run pins s σ H (fun v H1 => ∃ p M1, HRep X.w ca X.K M1 H1 ∧ Rep X.K H1 p v ∧ Keep H H1 ∧ itA p M1 Ra) I (lift_run rel run fun p M1 v H1 rel1 rp k1 q1 => ⟨p, M1, rel1.h, rp, k1, q1⟩)) fun u s1 ⟨v, H1, I1, ru, p, M1, hM, rp, k1, q⟩ => ?_
  unfold itA at q
  split at q
  · cases rp with
    | @tup a vs ps tt rs =>
      cases ru
      obtain ⟨its, rv, pl, hz⟩ := I1.tuple tt.sq
      refine wpAny_pyIter_tuple (show s1.heap.IsTuple a its.toArray from pl) (pie_one (tk := s1.toks) I1 _ (turn_tuple a _) ⟨_, Heap.get?_push_size _ rfl, rfl, rfl⟩ ?_)
      refine hk _ _ _ _ _ _ _ hM k1 k1 (walk_seq rs (fun i H2 k hi => ⟨vs, vs[i], (tt.keep k).sq, List.getElem?_eq_getElem hi⟩) (fun H2 k => ⟨vs, (tt.keep k).sq, Nat.le_refl _⟩) fun i H2 v H3 k hi y => ⟨y.1, y.2 vs (tt.keep k).sq⟩) q
  · cases rp with
    | @xl a vs ps tt rs =>
      cases ru
      obtain ⟨its, rv, pl, hz⟩ := I1.list tt.sq
      refine wpAny_pyIter_list pl.isList (pie_one (tk := s1.toks) I1 _ (turn_list a _) ⟨_, Heap.get?_push_size _ rfl, rfl, rfl⟩ ?_)
      exact hk _ _ _ _ _ _ _ hM k1 k1 (walk_seq rs (fun i H2 k hi => ⟨vs, vs[i], tt.sqk k, List.getElem?_eq_getElem hi⟩) (fun H2 k => ⟨vs, tt.sqk k, Nat.le_refl _⟩) fun i H2 v H3 k hi y => ⟨y.1, y.2 vs (tt.sqk k)⟩) q
  · rename_i x
    cases rp
    obtain ⟨tt, rfl⟩ := ru
    have wk : Walk X ca t (Its (Str.ofString x)) H1 H1 (x.toList.map fun c => .str (String.singleton c)) (fun _ => True) id := by
      refine walk_seq (chars_rep x.toList) (fun i H2 k hi => ?_) (fun H2 k => ?_) fun i H2 v H3 k hi y => ⟨y.1, ?_⟩
      · rw [List.length_map] at hi
        show i < (Str.ofString x).cps.size
        rw [so_size]; exact hi
      · show (Str.ofString x).cps.size ≤ _
        rw [so_size, List.length_map]; exact Nat.le_refl _
      · obtain ⟨_, c, hc, rfl⟩ := y
        rw [so_get] at hc
        rw [List.getElem?_map]
        cases q2 : x.toList[i]? with
        | none => rw [q2] at hc; cases hc
        | some ch => rw [q2] at hc; cases hc; rfl
    have fin := hk _ _ _ _ _ _ _ hM k1 k1 wk q
    cases ha : (Str.ofString x).cps.all (· < 128)
    · exact wpAny_pyIter_wide ha (pie_one (tk := s1.toks) I1 _ (turn_str _ _ tt "str_iterator" (.inr rfl)) ⟨_, Heap.get?_push_size _ rfl, rfl, rfl⟩ fin)
    · exact wpAny_pyIter_ascii ha (pie_one (tk := s1.toks) I1 _ (turn_str _ _ tt "str_ascii_iterator" (.inl rfl)) ⟨_, Heap.get?_push_size _ rfl, rfl, rfl⟩ fin)
  · rename_i kvs
    cases rp with
    | @kd a o es ep _ g1 g2 g3 g4 kr =>
      cases ru
      obtain ⟨ks, rk, rv⟩ := kd_keys kr
      have oa : ObjAt X.K (fun _ => True) a o := fun Y pn τ G s2 eK J _ => J.kIn _ _ (by rw [eK]; exact g1)
      refine iter_keys g4.2 (I1.kIn _ _ g1) g2 g3 (pie_one (tk := s1.toks) I1 _ (turn_K oa g2 g3 rv) ⟨_, Heap.get?_push_size _ rfl, rfl, rfl⟩ ?_)
      exact hk _ _ _ _ _ _ _ hM k1 k1 (walk_seq rk (fun i H2 k hi => ⟨True.intro, hi⟩) (fun H2 k => ⟨True.intro, Nat.le_refl _⟩) fun i H2 v H3 k hi y => y) q
  · rename_i a
    cases rp
    cases ru
    split at q
    · rename_i ps e1
      obtain ⟨vs, h1, rs⟩ := hM.lst e1
      obtain ⟨its, rv, pl, hz⟩ := I1.list (SqL.of h1)
      refine wpAny_pyIter_list pl.isList (pie_one (tk := s1.toks) I1 _ (turn_list a _) ⟨_, Heap.get?_push_size _ rfl, rfl, rfl⟩ ?_)
      exact hk _ _ _ _ _ _ _ hM k1 k1 (walk_lst e1) q
    · rename_i kvs e1
      obtain ⟨o, es, ep, ks, us, g1, g2, g3, g5, I2, hM2, kp, rk, ru, vk, vu, oa, fin⟩ := dct_lock I1 hM e1
      refine iter_keys g5 g1 g2 g3 (pie_one (tk := s1.toks) I2 _ (turn_K oa g2 g3 vk) ⟨_, Heap.get?_push_size _ rfl, rfl, rfl⟩ ?_)
      refine hk _ _ _ _ _ H1 _ hM2 k1 (k1.trans kp) ⟨fun i H2 M2 hM' k _ hi => ⟨k.frz _ _ _ upd_same, by rw [← rk.length]; exact hi⟩, fun H2 M2 hM' k _ => ⟨k.frz _ _ _ upd_same, by rw [rk.length]; exact Nat.le_refl _⟩, fun i H2 M2 v H3 hM' k _ hi y => ?_, fin⟩ q
      obtain ⟨rfl, y⟩ := y
      obtain ⟨z, hz, rz⟩ := ((rk.keep kp).keep k).get' y
      exact ⟨z, hz, .inl rz, .refl _, hM'⟩
    · exact q.elim
  · exact q.elim
/-- range(n) -/
theorem range_rep {K : PySem.W.Frag} {H : Hp} : ∀ l : List Nat, Reps K H (l.map fun (i : Nat) => PV.int i) (l.map fun (i : Nat) => V.int i)
  | [] => .nil
  | _ :: l => .cons (.int _) (range_rep l)
theorem i_rng1 (hg : Gl X "range") (hm : X.mg "range" = none) (hs : notStar e = true) (he : PE X e (liftE (gOf X ca) re)) : PI X tg (.Call (.Name "range" p) [e] [] pos) (liftI X ca t fun g M R => re g M fun p M1 => match p with
    | .int n => n ≤ 1000000000 ∧ -1000000000 ≤ n ∧ R ((List.range n.toNat).map fun (i : Nat) => PV.int i) (fun _ => True) id M1
    | _ => False) := by
  have z := pi_range1 (tg := tg) (p := p) (pos := pos) hg hm (pa_cons he pa_nil (star_ok hs _)) (star_ok hs _)
  refine ⟨fun pins s σ H R I h => z.run pins s σ H R I ?_⟩
  obtain ⟨g, M, Ra, rel, run, hk⟩ := h
  refine lift_run rel run fun p M1 v H1 rel1 rp k1 q1 => ?_
  split at q1
  · rename_i n
    cases rp
    refine ⟨n, rfl, by omega, by omega, hk _ _ _ _ _ _ _ rel1.h k1 k1 (walk_seq (range_rep _) (fun i H2 k hi => ?_) (fun H2 k => ?_) fun i H2 v H3 k hi y => ⟨y.1, ?_⟩) q1.2.2⟩
    · show i < n.toNat
      simpa using hi
    · show n.toNat ≤ _
      simp
    · obtain ⟨_, rfl⟩ := y
      simp only [List.length_map, List.length_range] at hi
      rw [List.getElem?_map, List.getElem?_range hi]
      simp
  · exact q1.elim
theorem zip_get {α : Type} (xs : List α) : ∀ (i : Nat) {x : α}, xs[i]? = some x → xs.zipIdx[i]? = some (x, i) := fun i x h => by
  rw [List.getElem?_zipIdx, h]; simp
theorem i_enum {ts : Tgs} {tpos : Pos} {elts : List Expr} {kk : Nat} (ht : t = .tup ts) (hg : Gl X "enumerate") (hm : X.mg "enumerate" = none) (hs : notStar e = true) (he : PE X e (liftE (gOf X ca) re)) :
    PI X (.Tuple elts kk tpos) (.Call (.Name "enumerate" p) [e] [] pos) (liftI X ca t fun g M R => re g M fun p M1 => match p with
    | .ref a => match M1 a with
      | some (.lst xs) => R (xs.zipIdx.map fun (x, i) => .tup [.int i, x]) (fun M' => M' a = some (.lst xs)) id M1
      | _ => False
    | _ => False) := by
  have z := pi_enum (X := X) (elts := elts) (kk := kk) (tpos := tpos) (p := p) (pos := pos) hg hm (pa_cons he pa_nil (star_ok hs _)) (star_ok hs _)
  refine ⟨fun pins s σ H R I h => z.run pins s σ H R I ?_⟩
  obtain ⟨g, M, Ra, rel, run, hk⟩ := h
  refine lift_run rel run fun p M1 v H1 rel1 rp k1 q1 => ?_
  split at q1
  · rename_i a
    cases rp
    split at q1
    · rename_i ps e1
      obtain ⟨vs, h1, rs⟩ := rel1.h.lst e1
      refine ⟨a, vs, rfl, SqL.of h1, hk _ _ _ _ _ _ _ rel1.h k1 k1 ⟨fun i H2 M2 hM k st hi => ?_, fun H2 M2 hM k st => ?_, fun i H2 M2 v H3 hM k st hi y => ?_, fin_id (.refl H1)⟩ q1⟩
      · obtain ⟨vs2, h2, rs2⟩ := hM.lst st
        exact ⟨vs2, vs2[i]'(by rw [← rs2.length]; simpa using hi), SqL.of h2, List.getElem?_eq_getElem _⟩
      · obtain ⟨vs2, h2, rs2⟩ := hM.lst st
        exact ⟨vs2, SqL.of h2, by rw [← rs2.length]; simp⟩
      · obtain ⟨vs2, h2, rs2⟩ := hM.lst st
        obtain ⟨T, x, rfl, hT, rfl, y⟩ := y
        obtain ⟨q, hq, rq⟩ := rs2.get' (y vs2 (SqL.of h2))
        refine ⟨.tup [.int i, q], by rw [List.getElem?_map, zip_get _ _ hq]; rfl, .inr ⟨ts, _, T, _, ht, rfl, rfl, .inl (.inl upd_same), .cons (.int _) (.one (rq.keep (.new hT)))⟩, .new hT, hM.new0 hT⟩
    · exact q1.elim
  · exact q1.elim
theorem i_zip {ts : Tgs} {tpos : Pos} {elts : List Expr} {kk : Nat} (ht : t = .tup ts) (hg : Gl X "zip") (hm : X.mg "zip" = none) (hs : notStar e = true) (hs2 : notStar e2 = true) (he : PE X e (liftE (gOf X ca) re)) (he2 : PE X e2 (liftE (gOf X ca) re2)) :
    PI X (.Tuple elts kk tpos) (.Call (.Name "zip" p) [e, e2] [] pos) (liftI X ca t fun g M R => re g M fun p M1 => re2 g M1 fun q M2 => match p, q with
    | .tup xs, .tup ys => R ((xs.zip ys).map fun z => .tup [z.1, z.2]) (fun _ => True) id M2
    | _, _ => False) := by
  have z := RZ.pi_zipA (X := X) (elts := elts) (kk := kk) (tpos := tpos) (p := p) (pos := pos) hg hm (pa_cons he (pa_cons he2 pa_nil (star_ok hs2 _)) (star_ok hs _)) (star_ok hs _) (stars_ok (by simp [hs2]) _ _)
  refine ⟨fun pins s σ H R I h => z.run pins s σ H R I ?_⟩
  obtain ⟨g, M, Ra, rel, run, hk⟩ := h
  refine lift_run rel run fun p M1 v H1 rel1 rp k1 q1 => lift_run rel1 q1 fun q M2 w H2 rel2 rq k2 q2 => ?_
  split at q2
  · cases rp with
    | @tup a vs xs t1 r1 =>
      cases rq with
      | @tup b ws ys t2 r2 =>
        have t1 := t1.keep k2
        have r1 := r1.keep k2
        have l1 := r1.length
        have l2 := r2.length
        refine ⟨a, b, vs, ws, rfl, .inr ⟨t1.sq, t2.sq, hk _ _ _ _ _ _ _ rel2.h (k1.trans k2) (k1.trans k2) ⟨fun i H2 M2 hM k st hi => ?_, fun H2 M2 hM k st => ?_, fun i H2 M2 v H3 hM k st hi y => ?_, fin_id (.refl _)⟩ q2⟩⟩
        · simp only [List.length_map, List.length_zip] at hi
          exact ⟨vs, ws, vs[i]'(by omega), ws[i]'(by omega), (t1.keep k).sq, (t2.keep k).sq, List.getElem?_eq_getElem _, List.getElem?_eq_getElem _⟩
        · exact ⟨vs, ws, (t1.keep k).sq, (t2.keep k).sq, by simp only [List.length_map, List.length_zip]; omega⟩
        · obtain ⟨T, x, y', rfl, hT, rfl, y1, y2⟩ := y
          obtain ⟨q, hq, rq⟩ := (r1.keep k).get' (y1 vs (t1.keep k).sq)
          obtain ⟨q', hq', rq'⟩ := (r2.keep k).get' (y2 ws (t2.keep k).sq)
          refine ⟨.tup [q, q'], ?_, .inr ⟨ts, _, T, _, ht, rfl, rfl, .inl (.inl upd_same), .cons (rq.keep (.new hT)) (.one (rq'.keep (.new hT)))⟩, .new hT, hM.new0 hT⟩
          rw [List.getElem?_map, (List.getElem?_zip_eq_some (z := (q, q'))).mpr ⟨hq, hq'⟩]
          rfl
  · exact q2.elim
/-- d.items() -/
theorem i_items {ts : Tgs} {tpos : Pos} {elts : List Expr} {kk : Nat} (ht : t = .tup ts) (hp : plainO e = true) (hl : ap.endLine = pos.line) (he : PE X e (liftE (gOf X ca) re)) :
    PI X (.Tuple elts kk tpos) (.Call (.Attribute e "items" ap) [] [] pos) (liftI X ca t fun g M R => re g M fun p M1 => match p with
    | .ref a => match M1 a with
      | some (.dct kvs) => R (kvs.map fun q => .tup [q.1, q.2]) (fun _ => True) (fun M' => mput M' a (.dct kvs)) (mdel M1 a)
      | _ => False
    | _ => False) := by
  refine ⟨fun pins s σ H R I h => ?_⟩
  obtain ⟨g, M, Ra, rel, run, hk⟩ := h
  refine wpAny_Call_method (T := "dict") (id := "dict.items") (base_ok hp) rfl (by simpa using hl) PySem.F.plainAttrs_dict PySem.F.slot_dict_items PySem.F.type_dict_items (thn (he.run pins s σ H (fun v H1 => ∃ a kvs M1, v = .ref a ∧ HRep X.w ca X.K M1 H1 ∧ Keep H H1 ∧ M1 a = some (.dct kvs) ∧ Ra (kvs.map fun q => .tup [q.1, q.2]) (fun _ => True) (fun M' => mput M' a (.dct kvs)) (mdel M1 a)) I
    (lift_run rel run fun p M1 v H1 rel1 rp k1 q1 => ?_)) fun u s1 ⟨v, H1, I1, ru, a, kvs, M1, ev, hM, k1, e1, q⟩ => ?_)
  · split at q1
    · rename_i a
      cases rp
      split at q1
      · rename_i kvs e1
        exact ⟨a, kvs, M1, rfl, rel1.h, k1, e1, q1⟩
      · exact q1.elim
    · exact q1.elim
  · subst ev
    cases ru
    obtain ⟨o, es, ep, ks, us, g1, g2, g3, g5, I2, hM2, kp, rk, ru, vk, vu, oa, fin⟩ := dct_lock I1 hM e1
    refine ⟨⟨o, g1, g2.1⟩, fun b z => by cases z; exact ⟨o, g1, g2.2.1⟩, ?_⟩
    have I3 : L2.Inv X pins σ (upd H1 a (.frz o (DctO a es))) { s1 with heap := s1.heap.push { cls := .type "dict_items", data := .fields #[.ref a] } } := I2.kept (t' := s1.toks) fun b ob q => Heap.get?_push_of_some _ q
    have g1' : (s1.heap.push { cls := .type "dict_items", data := .fields #[.ref a] }).get? a = some o := Heap.get?_push_of_some _ g1
    have fin2 : wpAny (model X.prog X.w) X.A (pyIter (.ref s1.heap.objs.size)) (PIE X pins σ (.Tuple elts kk tpos) R) X.xe { s1 with heap := s1.heap.push { cls := .type "dict_items", data := .fields #[.ref a] } } := by
      refine wpAny_pyIter_items_raw (d := a) ⟨_, Heap.get?_push_size _ rfl, rfl, rfl⟩ ⟨o, g1', g2, g3⟩ (pie_one (tk := s1.toks) I3 _ (turn_P oa g2 g3 vk vu) ⟨.none, .none, Heap.get?_push_size _ rfl⟩ ?_)
      have hlen : us.length = ks.length := by rw [vu.length, vk.length]; simp
      refine hk _ _ _ _ _ H1 _ hM2 k1 (k1.trans kp) ⟨fun i H2 M2 hM' k _ hi => ⟨k.frz _ _ _ upd_same, by rw [← rk.length]; simpa using hi⟩, fun H2 M2 hM' k _ => ⟨k.frz _ _ _ upd_same, by rw [← rk.length]; simp⟩, fun i H2 M2 v H3 hM' k _ hi y => ?_, fin⟩ q
      obtain ⟨T, y, z, hy, hz, rfl, hT, rfl⟩ := y
      obtain ⟨q1, hq1, r1⟩ := ((rk.keep kp).keep k).get' hy
      obtain ⟨q2, hq2, r2⟩ := ((ru.keep kp).keep k).get' hz
      rw [List.getElem?_map] at hq1 hq2
      cases hx : kvs[i]? with
      | none => rw [hx] at hq1; cases hq1
      | some c =>
        rw [hx] at hq1 hq2
        cases hq1; cases hq2
        exact ⟨.tup [c.1, c.2], by rw [List.getElem?_map, hx]; rfl, .inr ⟨ts, _, T, _, ht, rfl, rfl, .inl (.inl upd_same), .cons (r1.keep (.new hT)) (.one (r2.keep (.new hT)))⟩, .new hT, hM'.new0 hT⟩
    exact method_meetsIn PySem.F.slot_dict_items PySem.F.entry_dict_items rfl (PySem.evalArgs_none ⟨rfl, ⟨o, g1, g2.1⟩, PySem.F.args_dict_items_1 _, _, meets_dict_items_raw a g5, ⟨es, ep, o, g1, g2, g3⟩, fin2⟩)
end
end Rx
end

section
set_option maxHeartbeats 4000000
/-! Rx: targets, comprehensions. -/
namespace Rx
open PySem PySem.Spec PyProof.Rows L2
/-- but for some slots the names are as they were -/
def Same (l : List Nat) (σ σ' : L2.St) : Prop := σ'.length = σ.length ∧ ∀ j, j ∉ l → σ'[j]? = σ[j]?
theorem Same.refl (l : List Nat) (σ : L2.St) : Same l σ σ := ⟨rfl, fun _ _ => rfl⟩
theorem Same.trans {l l' : List Nat} {a b c : L2.St} (x : Same l a b) (y : Same l' b c) : Same (l ++ l') a c :=
  ⟨y.1.trans x.1, fun j h => by
    have h1 : j ∉ l := fun z => h (List.mem_append_left _ z)
    have h2 : j ∉ l' := fun z => h (List.mem_append_right _ z)
    rw [y.2 j h2, x.2 j h1]⟩
theorem wipe_get (σ : L2.St) (j : Nat) : ∀ vs : List Nat, (L2.wipe σ vs)[j]? = if j ∈ vs then (σ[j]?).map (fun _ => none) else σ[j]?
  | [] => by simp [L2.wipe]
  | v :: vs => by
    have ih := wipe_get σ j vs
    have hl := wipe_length σ vs
    unfold L2.wipe
    by_cases h : v = j
    · subst h
      by_cases hv : v < σ.length
      · rw [List.getElem?_set_self (by rw [hl]; exact hv)]
        simp [hv]
      · rw [List.getElem?_eq_none (by rw [List.length_set, hl]; omega)]
        rw [List.getElem?_eq_none (by omega)]
        simp
    · rw [List.getElem?_set_ne h, ih]
      have : j ∈ v :: vs ↔ j ∈ vs := by
        rw [List.mem_cons]
        exact ⟨fun z => z.elim (fun q => absurd q.symm h) id, .inr⟩
      simp only [this]
theorem wipe_same {σ σ2 : L2.St} {l vs : List Nat} (h : Same l (L2.wipe σ vs) σ2) (hl : ∀ i ∈ l, i ∈ vs) : L2.wipe σ2 vs = L2.wipe σ vs := by
  apply List.ext_getElem?
  intro j
  rw [wipe_get, wipe_get]
  by_cases hj : j ∈ vs
  · rw [if_pos hj, if_pos hj]
    have h1 := h.1
    rw [wipe_length] at h1
    by_cases hz : j < σ.length
    · rw [List.getElem?_eq_getElem hz, List.getElem?_eq_getElem (by omega)]; rfl
    · rw [List.getElem?_eq_none (by omega), List.getElem?_eq_none (by omega)]
  · rw [if_neg hj, if_neg hj, h.2 j fun z => hj (hl j z), wipe_get, if_neg hj]
/-- a store's reading -/
def liftG (X : Cx) (ca : String → Addr) (t : Tg) (r : PV → Sg → MM → (Sg → MM → Prop) → Prop) : TG := fun v σ H Q => ∃ p g M k, Rel (gOf X ca) σ H g M ∧ RepT t X.K H p v ∧ r p g M k ∧ ∀ g' M' σ' H', Rel (gOf X ca) σ' H' g' M' → Keep H H' → Same (tgSl t) σ σ' → k g' M' → Q σ' H'
def liftGs (X : Cx) (ca : String → Addr) (ts : Tgs) (r : List PV → Sg → MM → (Sg → MM → Prop) → Prop) : TGs := fun vs σ H Q => ∃ ps g M k, Rel (gOf X ca) σ H g M ∧ Reps X.K H ps vs ∧ r ps g M k ∧ ∀ g' M' σ' H', Rel (gOf X ca) σ' H' g' M' → Keep H H' → Same (tgsSl ts) σ σ' → k g' M' → Q σ' H'
section
variable {X : Cx} {ca : String → Addr} {t : Tg} {tg e e2 o i elt : Expr} {ro ri : RE} {p pos ap : Pos}
theorem PG.imp {e : Expr} {t t' : TG} (h : PG X e t) (i : ∀ v σ H Q, t' v σ H Q → t v σ H Q) : PG X e t' := ⟨fun pins s σ H v u Q I r q => h.run pins s σ H v u Q I r (i v σ H Q q)⟩
theorem PGs.imp {e : List Expr} {t t' : TGs} (h : PGs X e t) (i : ∀ v σ H Q, t' v σ H Q → t v σ H Q) : PGs X e t' := ⟨fun pins s σ H v u Q I r q => h.run pins s σ H v u Q I r (i v σ H Q q)⟩
theorem RepT.name {i : Nat} {K : PySem.W.Frag} {H : Hp} {p : PV} {v : V} (r : RepT (.name i) K H p v) : Rep K H p v := by
  rcases r with r | ⟨ts, ps, a, vs, e, _⟩
  · exact r
  · cases e
theorem RepT.sub {o i : E} {K : PySem.W.Frag} {H : Hp} {p : PV} {v : V} (r : RepT (.sub o i) K H p v) : Rep K H p v := by
  rcases r with r | ⟨ts, ps, a, vs, e, _⟩
  · exact r
  · cases e
theorem g_name {i : Nat} {x : Str} (hN : X.N.Nodup) (hi : X.N[i]? = some x) (hx : Loc X.env.scope x) (hf : X.fn x = true ∨ X.env.scope.names.lookup x = some .local) : PG X (.Name x pos) (liftG X ca (.name i) fun p g M k => k (g.set i (some p)) M) :=
  PG.imp (pg_name hN hi hx hf) fun v σ H Q ⟨p, g, M, k, rel, rp, q, hk⟩ => hk _ _ _ _ ⟨rel.s.set i rp.name, rel.h⟩ (.refl H) ⟨List.length_set .., fun j hj => List.getElem?_set_ne (fun z => hj (by simp [tgSl, z]))⟩ q
theorem gs_nil : PGs X [] (liftGs X ca .nil fun ps g M k => match ps with
    | [] => k g M
    | _ => False) :=
  PGs.imp pgs_nil fun v σ H Q ⟨ps, g, M, k, rel, rp, q, hk⟩ => by
    dsimp only at q
    split at q
    · cases rp; exact ⟨rfl, hk _ _ _ _ rel (.refl H) (.refl _ _) q⟩
    · exact q.elim
theorem gs_cons {es : List Expr} {ts : Tgs} {r : PV → Sg → MM → (Sg → MM → Prop) → Prop} {r2 : List PV → Sg → MM → (Sg → MM → Prop) → Prop} (hs : notStar e = true) (h1 : PG X e (liftG X ca t r)) (h2 : PGs X es (liftGs X ca ts r2)) :
    PGs X (e :: es) (liftGs X ca (.cons t ts) fun ps g M k => match ps with
    | p :: ps => r p g M fun g1 M1 => r2 ps g1 M1 k
    | _ => False) :=
  PGs.imp (pgs_cons h1 h2 (asgn_ok hs _)) fun v σ H Q ⟨ps, g, M, k, rel, rp, q, hk⟩ => by
    dsimp only at q
    split at q
    · cases rp with
      | cons a b => exact ⟨_, _, rfl, _, g, M, _, rel, .inl a, q, fun g1 M1 σ1 H1 rel1 k1 s1 q1 => ⟨_, g1, M1, k, rel1, b.keep k1, q1, fun g2 M2 σ2 H2 rel2 k2 s2 q2 => hk _ _ _ _ rel2 (k1.trans k2) (s1.trans s2) q2⟩⟩
    · exact q.elim
theorem g_tup {es : List Expr} {k : Nat} {ts : Tgs} {r : List PV → Sg → MM → (Sg → MM → Prop) → Prop} (hc : X.calm = true) (hs : es.all notStar = true) (hl : tgsLen ts = es.length) (h : PGs X es (liftGs X ca ts r)) :
    PG X (.Tuple es k pos) (liftG X ca (.tup ts) fun p g M k => match p with
    | .tup ps => ps.length = tgsLen ts ∧ r ps g M k
    | _ => False) :=
  PG.imp (pg_tup hc h (asgn_len es _) (asgn_no hs _)) fun v σ H Q ⟨p, g, M, k, rel, rp, q, hk⟩ => by
    dsimp only at q
    split at q
    · rename_i ps
      have z : ∃ a vs, v = .ref a ∧ SqT X.K H a vs ∧ Reps X.K H ps vs := by
        rcases rp with rp | ⟨ts2, ps2, a, vs, e1, e2, e3, e4, e5⟩
        · cases rp with
          | tup tt rs => exact ⟨_, _, rfl, tt.sq, rs⟩
        · cases e2
          exact ⟨a, vs, e3, e4, e5⟩
      obtain ⟨a, vs, rfl, sq, rs⟩ := z
      exact ⟨a, vs, rfl, sq, by rw [← rs.length, q.1, hl], _, g, M, k, rel, rs, q.2, hk⟩
    · exact q.elim
theorem g_sub {rp ri : RE} (hu : X.A.units + 65 < cLine) (hs : notSlice i = true) (ho : PE X o (liftE (gOf X ca) rp)) (hi : PE X i (liftE (gOf X ca) ri)) {oE iE : E} :
    PG X (.Subscript o i pos) (liftG X ca (.sub oE iE) fun p g M k => rp g M fun q M1 => ri g M1 fun r M2 => setA q r p M2 fun M3 => k g M3) :=
  PG.imp (pg_sub ho hi (set_snd hu) (sub_assign hs)) fun v σ H Q ⟨p, g, M, k, rel, rp, q, hk⟩ =>
    lift_run rel q fun po M1 vo H1 rel1 ro k1 q1 => lift_run rel1 q1 fun pi M2 vi H2 rel2 ri k2 q2 =>
      ⟨po, pi, p, M2, _, rel2.h, ro.keep k2, ri, (rp.sub.keep k1).keep k2, q2, fun M3 H3 hM3 k3 q3 => hk _ _ _ _ (rel2.go k3 hM3) ((k1.trans k2).trans k3) (.refl _ _) q3⟩
/-! ### comprehensions -/
theorem ep_unl {pins : List (Addr × Obj)} {σ : L2.St} {Q : VK} {u : Value} {s : Shared} (h : EP X pins σ (fun v H2 => ∃ H3, (∀ pins σ s, L2.Inv X pins σ H2 s → L2.Inv X pins σ H3 s) ∧ Q v H3) u s) : EP X pins σ Q u s := by
  obtain ⟨v, H2, I, r, H3, c, q⟩ := h
  exact ⟨v, H3, c _ _ _ I, r, q⟩
theorem ts_none : PTs X [] (liftT (gOf X ca) fun _ M Q => Q true M) := ⟨fun pins s σ H Q I ⟨g, M, Qa, rel, run, hk⟩ => pts_nil.run pins s σ H Q I (hk true M H rel.h (.refl H) run)⟩
theorem ts_some {r : RT} (h : PT X e (liftT (gOf X ca) r)) : PTs X [e] (liftT (gOf X ca) r) := pts_one h
/-- the turns -/
theorem lc_turns {rI : Sg → MM → RI → Prop} {rG : PV → Sg → MM → (Sg → MM → Prop) → Prop} {rT : RT} {rE : RE} {vs : List Nat} {σ : L2.St} {H : Hp} {Q : VK} (hsl : ∀ i ∈ tgSl t, i ∈ vs)
    (h : liftE (gOf X ca) (fun g M Q => rI g M fun xs st un M1 => ∀ D, M1 D = none → lcF st rG (wipeG g vs) rT rE D (fun M2 => Q (.ref D) (un M2)) xs [] (mput M1 D (.lst []))) σ H Q) :
    tLc (liftI X ca t rI) (liftG X ca t rG) (liftT (gOf X ca) rT) (liftE (gOf X ca) rE) vs σ H (fun v H2 => ∃ H3, (∀ pins σ s, L2.Inv X pins σ H2 s → L2.Inv X pins σ H3 s) ∧ Q v H3) := by
  obtain ⟨g, M, Qa, rel, run, hk⟩ := h
  refine ⟨g, M, _, rel, run, fun xs st un M1 J H0 H1 hM1 k0 k1 wk q => fun D hD => ?_⟩
  have q := q D (hM1.fresh hD)
  have kD : Keep H1 (upd H1 D (.lst [])) := .new hD
  refine ⟨fun i m H' => m = xs.length - i ∧ i ≤ xs.length ∧ ∃ acc M2, HRep X.w ca X.K M2 H' ∧ Keep H1 H' ∧ lcF st rG (wipeG g vs) rT rE D (fun M2 => Qa (.ref D) (un M2)) (xs.drop i) acc M2, ⟨xs.length, rfl, Nat.zero_le _, [], _, hM1.new (u := .lst []) hD ⟨[], upd_same, .nil⟩, kD, q⟩, ?_⟩
  rintro i m H2 ⟨rfl, hi, acc, M2, hM2, k2, q2⟩
  by_cases hlt : i < xs.length
  · rw [List.drop_eq_getElem_cons hlt] at q2
    unfold lcF at q2
    obtain ⟨hst, q2⟩ := q2
    refine .inr ⟨wk.go i H2 M2 hM2 k2 hst hlt, fun H' => ∃ acc M2, HRep X.w ca X.K M2 H' ∧ Keep H1 H' ∧ lcF st rG (wipeG g vs) rT rE D (fun M2 => Qa (.ref D) (un M2)) (xs.drop (i + 1)) acc M2, fun H' n => ⟨xs.length - (i + 1), by omega, rfl, hlt, n⟩, fun v H3 y => ?_⟩
    obtain ⟨p, hp, rp, k3, hM3⟩ := wk.yld i H2 M2 v H3 hM2 k2 hst hlt y
    rw [List.getElem?_eq_getElem hlt] at hp
    cases hp
    have k23 : Keep H H3 := (k1.trans k2).trans k3
    refine ⟨_, wipeG g vs, M2, _, ⟨(rel.s.keep k23).wipe vs, hM3⟩, rp, q2, fun g4 M4 σ4 H4 rel4 k4 s4 q4 => ⟨wipe_same s4 hsl, liftT_run rel4 q4 fun b M5 H5 rel5 k5 q5 => ?_⟩⟩
    have kk : Keep H1 H5 := ((k2.trans k3).trans k4).trans k5
    cases b with
    | true =>
      simp only [if_true] at q5 ⊢
      refine lift_run rel5 q5 fun y M6 vy H6 rel6 ry k6 ⟨e6, z6, q6⟩ => ?_
      obtain ⟨ws, h6, rs6⟩ := rel6.h.lst e6
      exact ⟨ws, h6, by rw [← rs6.length]; exact z6, acc ++ [y], _, rel6.h.set (u := .lst (acc ++ [y])) h6 rfl ⟨_, upd_same, ((rs6.append (.one ry))).keep (.set h6 rfl)⟩, (kk.trans k6).trans (.set h6 rfl), q6⟩
    | false =>
      simp only [Bool.false_eq_true, if_false] at q5 ⊢
      exact ⟨acc, M5, rel5.h, kk, q5.2⟩
  · have e : i = xs.length := by omega
    subst e
    rw [List.drop_length] at q2
    unfold lcF at q2
    refine .inl ⟨wk.stop H2 M2 hM2 k2 q2.1, ?_⟩
    obtain ⟨H3, c, hM3, k3⟩ := wk.fin H2 M2 hM2 k2
    exact ⟨H3, c, hk _ _ _ _ hM3 (.ref D) (k0.trans k3) q2.2⟩
theorem e_lc {ifs : List Expr} {scope : Scope} {own : List (Str × Nat)} {rI : Sg → MM → RI → Prop} {rG : PV → Sg → MM → (Sg → MM → Prop) → Prop} {rT : RT} {rE : RE} (hc : X.calm = true) (hN : X.N.Nodup) (hi : PI X tg e (liftI X ca t rI)) (ok : BlkOk X.N X.env.scope scope own)
    (hsl : ∀ i ∈ tgSl t, i ∈ own.map (·.2)) (hg : ∀ (s : Shared) (H : Hp) (C : Addr) (cl : List (Str × Addr)) (fp : List Addr), PG (X.blk s H scope (compEnvC scope cl C X.env) fp) tg (liftG X ca t rG))
    (ht : ∀ (s : Shared) (H : Hp) (C : Addr) (cl : List (Str × Addr)) (fp : List Addr), PTs (X.blk s H scope (compEnvC scope cl C X.env) fp) ifs (liftT (gOf X ca) rT))
    (he : ∀ (s : Shared) (H : Hp) (C : Addr) (cl : List (Str × Addr)) (fp : List Addr), PE (X.blk s H scope (compEnvC scope cl C X.env) fp) elt (liftE (gOf X ca) rE)) (hs : ∀ x, foldedSetIterable e X.env x = pure x) :
    PE X (.ListComp elt [⟨tg, e, ifs, 0⟩] scope pos) (liftE (gOf X ca) fun g M Q => rI g M fun xs st un M1 => ∀ D, M1 D = none → lcF st rG (wipeG g (own.map (·.2))) rT rE D (fun M2 => Q (.ref D) (un M2)) xs [] (mput M1 D (.lst []))) :=
  ⟨fun pins s σ H Q I h => thn ((pe_lc hc hN hi ok hg ht he hs).run pins s σ H _ I (lc_turns hsl h)) fun _ _ q => ep_unl q⟩
end
end Rx
end

section
set_option maxHeartbeats 4000000
/-! Rx: list comprehensions of two clauses. -/
namespace Rx
open PySem PySem.Spec PyProof.Rows L2
/-- an iterator's turns, without what comes behind -/
structure Walk0 (X : Cx) (ca : String → Addr) (t : Tg) (J : L2.It) (H1 : Hp) (xs : List PV) (st : MM → Prop) : Prop where
  go : ∀ i H M, HRep X.w ca X.K M H → Keep H1 H → st M → i < xs.length → J.go i H
  stop : ∀ H M, HRep X.w ca X.K M H → Keep H1 H → st M → J.stop xs.length H
  yld : ∀ i H M v H', HRep X.w ca X.K M H → Keep H1 H → st M → i < xs.length → J.yld i H v H' → ∃ p, xs[i]? = some p ∧ RepT t X.K H' p v ∧ Keep H H' ∧ HRep X.w ca X.K M H'
def liftI0 (X : Cx) (ca : String → Addr) (t : Tg) (r : Sg → MM → RI → Prop) : TI := fun σ H R => ∃ g M Ra, Rel (gOf X ca) σ H g M ∧ r g M Ra ∧ ∀ xs st un M' J H', HRep X.w ca X.K M' H' → Keep H H' → Walk0 X ca t J H' xs st → Ra xs st un M' → R J H'
section
variable {X : Cx} {ca : String → Addr} {t t1 : Tg} {tg tg1 e e1 elt : Expr} {pos : Pos}
theorem PI.imp {tg e : Expr} {t t' : TI} (h : PI X tg e t) (i : ∀ σ H Q, t' σ H Q → t σ H Q) : PI X tg e t' := ⟨fun pins s σ H Q I q => h.run pins s σ H Q I (i σ H Q q)⟩
theorem PI.zero {Y : Cx} (hw : Y.w = X.w) (hK : Y.K = X.K) {r : Sg → MM → RI → Prop} (h : PI Y tg e (liftI Y ca t r)) : PI Y tg e (liftI0 X ca t r) := by
  refine PI.imp h fun σ H Q ⟨g, M, Ra, rel, run, hk⟩ => ⟨g, M, Ra, ?_, run, fun xs st un M' J H0 H' hM k0 k1 wk q => hk xs st un M' J H' ?_ k1 ⟨fun i H M a b c d => ?_, fun H M a b c => ?_, fun i H M v H' a b c d y => ?_⟩ q⟩
  · unfold gOf at rel ⊢; rw [hw, hK]; exact rel
  · rw [← hw, ← hK]; exact hM
  · rw [← hw, ← hK] at a; exact wk.go i H M a b c d
  · rw [← hw, ← hK] at a; exact wk.stop H M a b c
  · rw [← hw, ← hK] at a
    have := wk.yld i H M v H' a b c d y
    rwa [hw, hK] at this
/-- the turns of two clauses -/
theorem lc2_turns {rI rI1 : Sg → MM → RI → Prop} {rG rG1 : PV → Sg → MM → (Sg → MM → Prop) → Prop} {rT rT1 : RT} {rE : RE} {vs vs1 : List Nat} {σ : L2.St} {H : Hp} {Q : VK} (hsl : ∀ i ∈ tgSl t, i ∈ vs) (hsl1 : ∀ i ∈ tgSl t1, i ∈ vs1)
    (h : liftE (gOf X ca) (fun g M Q => rI g M fun xs st un M1 => ∀ D, M1 D = none → lc2F st rG (wipeG g vs) rT rI1 vs1 rG1 rT1 rE D (fun M2 => Q (.ref D) (un M2)) xs (mput M1 D (.lst []))) σ H Q) :
    tLc2 (liftI X ca t rI) (liftG X ca t rG) (liftT (gOf X ca) rT) (liftI0 X ca t1 rI1) (liftG X ca t1 rG1) (liftT (gOf X ca) rT1) (liftE (gOf X ca) rE) vs vs1 σ H (fun v H2 => ∃ H3, (∀ pins σ s, L2.Inv X pins σ H2 s → L2.Inv X pins σ H3 s) ∧ Q v H3) := by
  obtain ⟨g, M, Qa, rel, run, hk⟩ := h
  refine ⟨g, M, _, rel, run, fun xs st un M1 J H0 H1 hM1 k0 k1 wk q => fun D hD => ?_⟩
  have q := q D (hM1.fresh hD)
  have kD : Keep H1 (upd H1 D (.lst [])) := .new hD
  let F := fun (l : List PV) (M2 : MM) => lc2F st rG (wipeG g vs) rT rI1 vs1 rG1 rT1 rE D (fun M2 => Qa (.ref D) (un M2)) l M2
  refine ⟨fun i m H' => m = xs.length - i ∧ i ≤ xs.length ∧ ∃ M2, HRep X.w ca X.K M2 H' ∧ Keep H1 H' ∧ F (xs.drop i) M2, ⟨xs.length, rfl, Nat.zero_le _, _, hM1.new (u := .lst []) hD ⟨[], upd_same, .nil⟩, kD, q⟩, ?_⟩
  rintro i m H2 ⟨rfl, hi, M2, hM2, k2, q2⟩
  by_cases hlt : i < xs.length
  · rw [List.drop_eq_getElem_cons hlt] at q2
    have q2 : lc2F st rG (wipeG g vs) rT rI1 vs1 rG1 rT1 rE D (fun M2 => Qa (.ref D) (un M2)) (xs[i] :: xs.drop (i + 1)) M2 := q2
    unfold lc2F at q2
    obtain ⟨hst, q2⟩ := q2
    refine .inr ⟨wk.go i H2 M2 hM2 k2 hst hlt, fun H' => ∃ M2, HRep X.w ca X.K M2 H' ∧ Keep H1 H' ∧ F (xs.drop (i + 1)) M2, fun H' n => ⟨xs.length - (i + 1), by omega, rfl, hlt, n⟩, fun v H3 y => ?_⟩
    obtain ⟨p, hp, rp, k3, hM3⟩ := wk.yld i H2 M2 v H3 hM2 k2 hst hlt y
    rw [List.getElem?_eq_getElem hlt] at hp
    cases hp
    have k23 : Keep H H3 := (k1.trans k2).trans k3
    refine ⟨_, wipeG g vs, M2, _, ⟨(rel.s.keep k23).wipe vs, hM3⟩, rp, q2, fun g4 M4 σ4 H4 rel4 k4 s4 q4 => ⟨wipe_same s4 hsl, liftT_run rel4 q4 fun b M5 H5 rel5 k5 q5 => ?_⟩⟩
    have kk : Keep H1 H5 := ((k2.trans k3).trans k4).trans k5
    cases b with
    | false =>
      simp only [Bool.false_eq_true, if_false] at q5 ⊢
      exact ⟨M5, rel5.h, kk, q5⟩
    | true =>
      simp only [if_true] at q5 ⊢
      refine ⟨g4, M5, _, rel5, q5, fun ys st1 un1 M6 J1 H6 hM6 k6 wk1 ⟨hun, acc0, e0, q6⟩ => ?_⟩
      refine ⟨fun j k H' => k = ys.length - j ∧ j ≤ ys.length ∧ ∃ acc M7, HRep X.w ca X.K M7 H' ∧ Keep H6 H' ∧ lcF st1 rG1 (wipeG g4 vs1) rT1 rE D (fun M8 => F (xs.drop (i + 1)) M8) (ys.drop j) acc M7, ⟨ys.length, rfl, Nat.zero_le _, acc0, M6, hM6, .refl _, q6⟩, ?_⟩
      rintro j k H7 ⟨rfl, hj, acc, M7, hM7, k7, q7⟩
      by_cases hlt1 : j < ys.length
      · rw [List.drop_eq_getElem_cons hlt1] at q7
        unfold lcF at q7
        obtain ⟨hst1, q7⟩ := q7
        refine .inr ⟨wk1.go j H7 M7 hM7 k7 hst1 hlt1, fun H' => ∃ acc M8, HRep X.w ca X.K M8 H' ∧ Keep H6 H' ∧ lcF st1 rG1 (wipeG g4 vs1) rT1 rE D (fun M8 => F (xs.drop (i + 1)) M8) (ys.drop (j + 1)) acc M8, fun H' n => ⟨ys.length - (j + 1), by omega, rfl, hlt1, n⟩, fun w H8 y1 => ?_⟩
        obtain ⟨p1, hp1, rp1, k8, hM8⟩ := wk1.yld j H7 M7 w H8 hM7 k7 hst1 hlt1 y1
        rw [List.getElem?_eq_getElem hlt1] at hp1
        cases hp1
        have k58 : Keep H5 H8 := (k6.trans k7).trans k8
        refine ⟨_, wipeG g4 vs1, M7, _, ⟨(rel5.s.keep k58).wipe vs1, hM8⟩, rp1, q7, fun g9 M9 σ9 H9 rel9 k9 s9 q9 => ⟨wipe_same s9 hsl1, liftT_run rel9 q9 fun b M10 H10 rel10 k10 q10 => ?_⟩⟩
        have kk1 : Keep H6 H10 := ((k7.trans k8).trans k9).trans k10
        cases b with
        | true =>
          simp only [if_true] at q10 ⊢
          refine lift_run rel10 q10 fun z M11 vz H11 rel11 rz k11 ⟨e11, z11, q11⟩ => ?_
          obtain ⟨ws, h11, rs11⟩ := rel11.h.lst e11
          exact ⟨ws, h11, by rw [← rs11.length]; exact z11, acc ++ [z], _, rel11.h.set (u := .lst (acc ++ [z])) h11 rfl ⟨_, upd_same, ((rs11.append (.one rz))).keep (.set h11 rfl)⟩, (kk1.trans k11).trans (.set h11 rfl), q11⟩
        | false =>
          simp only [Bool.false_eq_true, if_false] at q10 ⊢
          exact ⟨acc, M10, rel10.h, kk1, q10.2⟩
      · have e : j = ys.length := by omega
        subst e
        rw [List.drop_length] at q7
        unfold lcF at q7
        exact .inl ⟨wk1.stop H7 M7 hM7 k7 q7.1, M7, hM7, (kk.trans k6).trans k7, q7.2⟩
  · have e : i = xs.length := by omega
    subst e
    rw [List.drop_length] at q2
    have q2 : lc2F st rG (wipeG g vs) rT rI1 vs1 rG1 rT1 rE D (fun M2 => Qa (.ref D) (un M2)) [] M2 := q2
    unfold lc2F at q2
    refine .inl ⟨wk.stop H2 M2 hM2 k2 q2.1, ?_⟩
    obtain ⟨H3, c, hM3, k3⟩ := wk.fin H2 M2 hM2 k2
    exact ⟨H3, c, hk _ _ _ _ hM3 (.ref D) (k0.trans k3) q2.2⟩
theorem e_lc2 {ifs ifs1 : List Expr} {scope : Scope} {own : List (Str × Nat)} {vs1 : List Nat} {rI rI1 : Sg → MM → RI → Prop} {rG rG1 : PV → Sg → MM → (Sg → MM → Prop) → Prop} {rT rT1 : RT} {rE : RE} (hc : X.calm = true) (hN : X.N.Nodup) (hi : PI X tg e (liftI X ca t rI)) (ok : BlkOk X.N X.env.scope scope own) (hv : ∀ i ∈ vs1, i ∈ own.map (·.2))
    (hsl : ∀ i ∈ tgSl t, i ∈ own.map (·.2)) (hsl1 : ∀ i ∈ tgSl t1, i ∈ vs1) (hg : ∀ (s : Shared) (H : Hp) (C : Addr) (cl : List (Str × Addr)) (fp : List Addr), PG (X.blk s H scope (compEnvC scope cl C X.env) fp) tg (liftG X ca t rG))
    (ht : ∀ (s : Shared) (H : Hp) (C : Addr) (cl : List (Str × Addr)) (fp : List Addr), PTs (X.blk s H scope (compEnvC scope cl C X.env) fp) ifs (liftT (gOf X ca) rT))
    (hi1 : ∀ (s : Shared) (H : Hp) (C : Addr) (cl : List (Str × Addr)) (fp : List Addr), PI (X.blk s H scope (compEnvC scope cl C X.env) fp) tg1 e1 (liftI0 X ca t1 rI1))
    (hg1 : ∀ (s : Shared) (H : Hp) (C : Addr) (cl : List (Str × Addr)) (fp : List Addr), PG (X.blk s H scope (compEnvC scope cl C X.env) fp) tg1 (liftG X ca t1 rG1))
    (ht1 : ∀ (s : Shared) (H : Hp) (C : Addr) (cl : List (Str × Addr)) (fp : List Addr), PTs (X.blk s H scope (compEnvC scope cl C X.env) fp) ifs1 (liftT (gOf X ca) rT1))
    (he : ∀ (s : Shared) (H : Hp) (C : Addr) (cl : List (Str × Addr)) (fp : List Addr), PE (X.blk s H scope (compEnvC scope cl C X.env) fp) elt (liftE (gOf X ca) rE)) (hs : ∀ x, foldedSetIterable e X.env x = pure x) (hs1 : ∀ env x, foldedSetIterable e1 env x = pure x) :
    PE X (.ListComp elt [⟨tg, e, ifs, 0⟩, ⟨tg1, e1, ifs1, 0⟩] scope pos) (liftE (gOf X ca) fun g M Q => rI g M fun xs st un M1 => ∀ D, M1 D = none → lc2F st rG (wipeG g (own.map (·.2))) rT rI1 vs1 rG1 rT1 rE D (fun M2 => Q (.ref D) (un M2)) xs (mput M1 D (.lst []))) :=
  ⟨fun pins s σ H Q I h => thn ((pe_lc2 hc hN hi ok hv hg ht hi1 hg1 ht1 he hs hs1).run pins s σ H _ I (lc2_turns hsl hsl1 h)) fun _ _ q => ep_unl q⟩
end
end Rx
end

section
set_option maxHeartbeats 4000000
/-! Rx: dict comprehensions, dict displays: keys texts and numbers. -/
namespace Rx
open PySem PySem.Spec PyProof.Rows L2
theorem kpv_of {p : PV} (h : simK p = true) : ∃ k, kpv p = some k := by
  cases p <;> first | exact ⟨_, rfl⟩ | cases h
theorem kpv_inv {p : PV} {k : Key} (h : kpv p = some k) : (∃ s, p = .str s ∧ k = .inr (Str.ofString s)) ∨ ∃ i, p = .int i ∧ k = .inl i := by
  cases p with
  | str s => cases h; exact .inl ⟨s, rfl, rfl⟩
  | int i => cases h; exact .inr ⟨i, rfl, rfl⟩
  | _ => cases h
theorem kpv_rep {K : PySem.W.Frag} {H : Hp} {p : PV} {v : V} {k : Key} (h : kpv p = some k) (r : Rep K H p v) : v = kV k := by
  rcases kpv_inv h with ⟨s, rfl, rfl⟩ | ⟨i, rfl, rfl⟩ <;> (cases r; rfl)
theorem kpv_key {p : PV} {k : Key} (h : kpv p = some k) : keyOf p = some (match k with | .inr x => .text x | .inl i => .num i) := by
  rcases kpv_inv h with ⟨s, rfl, rfl⟩ | ⟨i, rfl, rfl⟩ <;> rfl
theorem kpv_eq {p q : PV} {k l : Key} (h1 : kpv p = some k) (h2 : kpv q = some l) : keyEq p q = decide (k = l) := by
  unfold keyEq
  rw [kpv_key h1, kpv_key h2]
  rcases k with a | a <;> rcases l with b | b <;> simp
theorem DRel.length {K : PySem.W.Frag} {H : Hp} : ∀ {ps : List (PV × PV)} {kvs : List (Key × V)}, DRel K H ps kvs → ps.length = kvs.length
  | _, _, .nil => rfl
  | _, _, .cons _ _ c => by simp [c.length]
theorem putK_ne {k0 k : Key} {v0 v : V} {r : List (Key × V)} (h : k0 ≠ k) : putK ((k0, v0) :: r) k v = (k0, v0) :: putK r k v := by
  unfold putK
  have e : decide (k0 = k) = false := decide_eq_false h
  simp only [List.any_cons, e, Bool.false_or]
  split
  · simp [h]
  · rfl
theorem putK_eq {k : Key} {v0 v : V} {r : List (Key × V)} (h : k ∉ r.map (·.1)) : putK ((k, v0) :: r) k v = (k, v) :: r := by
  unfold putK
  simp only [List.any_cons, decide_true, Bool.true_or, if_true, List.map_cons]
  congr 1
  have : ∀ kv ∈ r, (if kv.1 = k then (kv.1, v) else kv) = kv := fun kv hm => by
    rw [if_neg]
    intro e
    exact h (List.mem_map.mpr ⟨kv, hm, e⟩)
  rw [List.map_congr_left this, List.map_id']
theorem DRel.put {K : PySem.W.Frag} {H : Hp} {y z : PV} {k : Key} {v : V} (hk : kpv y = some k) (rz : Rep K H z v) : ∀ {ps : List (PV × PV)} {kvs : List (Key × V)}, DRel K H ps kvs → (kvs.map (·.1)).Nodup → DRel K H (dPut ps y z) (putK kvs k v)
  | _, _, .nil, _ => .cons hk rz .nil
  | _, _, .cons (p := p) (k := k0) h1 h2 h3, nd => by
    rw [List.map_cons, List.nodup_cons] at nd
    unfold dPut
    rw [kpv_eq h1 hk]
    by_cases e : k0 = k
    · subst e
      rw [putK_eq nd.1, if_pos (by simp)]
      exact .cons h1 rz h3
    · rw [putK_ne e, if_neg (by simp [e])]
      exact .cons h1 h2 (h3.put hk rz nd.2)
theorem putK_keys {k : Key} {v : V} (kvs : List (Key × V)) (nd : (kvs.map (·.1)).Nodup) : ((putK kvs k v).map (·.1)).Nodup := by
  unfold putK
  split
  · have e : ∀ l : List (Key × V), (l.map fun kv => if kv.1 = k then (kv.1, v) else kv).map (·.1) = l.map (·.1) := fun l => by
      rw [List.map_map]
      apply List.map_congr_left
      intro x _
      show (if x.1 = k then (x.1, v) else x).1 = x.1
      split <;> rfl
    rw [e]; exact nd
  · rename_i h
    rw [List.map_append, List.nodup_append]
    refine ⟨nd, by simp, fun a ha b hb => ?_⟩
    simp only [List.map_cons, List.map_nil, List.mem_singleton] at hb
    subst hb
    rintro rfl
    obtain ⟨x, hx, ex⟩ := List.mem_map.mp ha
    exact h (List.any_eq_true.mpr ⟨x, hx, by simp [ex]⟩)
theorem dPut_length {y z : PV} : ∀ l : List (PV × PV), (dPut l y z).length ≤ l.length + 1
  | [] => by simp [dPut]
  | (p, u) :: r => by
    unfold dPut
    split
    · simp
    · have := dPut_length (y := y) (z := z) r
      simp only [List.length_cons]
      omega
/-- the made dict, told raw -/
theorem made_raw {X : Cx} {ca : String → Addr} {pins : List (Addr × Obj)} {σ : L2.St} {H : Hp} {s : Shared} {D : Addr} {M : MM} {acc : List (PV × PV)} (I : L2.Inv X pins σ H s) (hM : HRep X.w ca X.K M H) (hm : M D = some (.kdc acc)) (hz : acc.length ≤ sizeLine) :
    ∃ es, L2.Inv X pins σ (upd H D (DctO D es)) s ∧ HRep X.w ca X.K (mput M D (.dct acc)) (upd H D (DctO D es)) ∧ Keep H (upd H D (DctO D es)) := by
  obtain ⟨kvs, hD, r, _⟩ := hM D _ hm
  obtain ⟨_, hs, vs, kv, o, es, ep, g1, g2, g3, ko, pr, nd⟩ := (show ObjOk X.prog X.w H s.heap D (.dK kvs) from I.hok D _ hD)
  have kp : Keep H (upd H D (DctO D es)) := .set hD rfl
  have I2 : L2.Inv X pins σ (upd H D (DctO D es)) s := I.write (x := D) (e := D) (t' := s.toks) (h' := s.heap) (by rw [hD]; exact True.intro) (.inl rfl) (fun b v _ q => q) ⟨o, g1⟩ (dctO_ok g1 g2 g3)
  have key : ∀ {acc : List (PV × PV)} {kvs : List (Key × V)} {vs : List (Key × Value)} {l : List DictEntry}, DRel X.K H acc kvs → KV kvs vs → Pairs (mixKind X.prog X.w) l vs → (∀ e ∈ l, ∃ k, (mixKind X.prog X.w).is k e.key = true ∧ e.hash = (mixKind X.prog X.w).hash k) →
      ERep X.w X.K H acc l ∧ acc.map (fun q => kpv q.1) = vs.map (fun q => some q.1) := by
    intro acc kvs vs l r0
    induction r0 generalizing vs l with
    | nil => intro kv pr _; cases kv; cases pr; exact ⟨.nil, rfl⟩
    | @cons p q k v ps kvs h1 h2 h3 ih =>
      intro kv pr hko
      cases kv with
      | @cons a b as bs hab t =>
        cases pr with
        | @cons e' kv' es' kvs' i1 i2 pr =>
          obtain ⟨k2, j1, j2⟩ := hko e' (by simp)
          obtain ⟨ih1, ih2⟩ := ih t pr fun x hx => hko x (List.mem_cons_of_mem _ hx)
          have ek : k = b.1 := hab.1
          have e2 : k2 = b.1 := (mixKind X.prog X.w).inj _ _ _ j1 i1
          subst e2
          rw [← ek] at i1 j2
          have i1' : keyIs k e'.key = true := i1
          have j2' : e'.hash = keyH X.w k := j2
          refine ⟨?_, by rw [List.map_cons, List.map_cons, ih2, h1, ek]⟩
          have ru : RelV v e'.val := by rw [i2]; exact hab.2
          rcases kpv_inv h1 with ⟨x, rfl, rfl⟩ | ⟨x, rfl, rfl⟩
          · exact .cons (k := .text _) (v := .str _) rfl (Nat.zero_le _) (by rw [j2']; rfl) (.str _) (relV_key i1') h2 ru ih1
          · exact .cons (k := .num _) (v := .int _) rfl (Nat.zero_le _) (by rw [j2']; rfl) (.int _) (relV_key i1') h2 ru ih1
  have hko : ∀ e ∈ es.toList, ∃ k, (mixKind X.prog X.w).is k e.key = true ∧ e.hash = (mixKind X.prog X.w).hash k := fun e he => ko e (by simpa using he)
  obtain ⟨er, ek⟩ := key r kv pr hko
  have hnd : (acc.map fun q => kk q.1).Nodup := by
    have inj : ∀ {p q : PV} {k l : Key}, kpv p = some k → kpv q = some l → kk p = kk q → k = l := by
      intro p q k l h1 h2 h3
      unfold kk at h3
      rw [kpv_key h1, kpv_key h2] at h3
      rcases k with a | a <;> rcases l with b | b <;> simp_all
    have gen : ∀ {acc : List (PV × PV)} {ks : List Key}, acc.map (fun q => kpv q.1) = ks.map some → ks.Nodup → (acc.map fun q => kk q.1).Nodup := by
      intro acc
      induction acc with
      | nil => intro ks _ _; exact List.nodup_nil
      | cons a r ih =>
        intro ks e nd
        cases ks with
        | nil => simp at e
        | cons k ks =>
          simp only [List.map_cons, List.cons.injEq] at e
          rw [List.nodup_cons] at nd
          rw [List.map_cons, List.nodup_cons]
          refine ⟨fun hm => ?_, ih e.2 nd.2⟩
          obtain ⟨b, hb, eb⟩ := List.mem_map.mp hm
          have hb2 : kpv b.1 ∈ r.map (fun q => kpv q.1) := List.mem_map.mpr ⟨b, hb, rfl⟩
          rw [e.2] at hb2
          obtain ⟨l, hl, el⟩ := List.mem_map.mp hb2
          have := inj el.symm e.1 eb
          subst this
          exact nd.1 hl
    refine gen (ks := vs.map (·.1)) (by rw [ek, List.map_map]; rfl) nd
  refine ⟨es, I2, fun b u q => ?_, kp⟩
  by_cases z : b = D
  · subst z
    rw [mput_same] at q; cases q
    exact ⟨es, upd_same, er.keep kp, hnd, hz, hs⟩
  · rw [mput_ne z] at q
    exact (hM b u q).keep kp (upd_ne z)
theorem DRel.putNd {ps : List (PV × PV)} {kvs : List (Key × V)} (nd : (kvs.map (·.1)).Nodup) (k : Key) (v : V) : ((putK kvs k v).map (·.1)).Nodup := putK_keys kvs nd
section
variable {X : Cx} {ca : String → Addr} {t : Tg} {tg e kx vx : Expr} {pos : Pos}
theorem ep_unl2 {pins : List (Addr × Obj)} {σ : L2.St} {Q : VK} {u : Value} {s : Shared} (h : EP X pins σ (fun v H2 => ∀ pins σ s, L2.Inv X pins σ H2 s → ∃ H3, L2.Inv X pins σ H3 s ∧ Q v H3) u s) : EP X pins σ Q u s := by
  obtain ⟨v, H2, I, r, c⟩ := h
  obtain ⟨H3, I3, q⟩ := c _ _ _ I
  exact ⟨v, H3, I3, r, q⟩
theorem dc_turns {rI : Sg → MM → RI → Prop} {rG : PV → Sg → MM → (Sg → MM → Prop) → Prop} {rT : RT} {rK rV : RE} {vs : List Nat} {σ : L2.St} {H : Hp} {Q : VK} (hsl : ∀ i ∈ tgSl t, i ∈ vs)
    (h : liftE (gOf X ca) (fun g M Q => rI g M fun xs st un M1 => ∀ D, M1 D = none → dcF st rG (wipeG g vs) rT rK rV D (fun kvs M2 => ∃ M3, un M2 = M3 ∧ M3 D = some (.kdc kvs) ∧ Q (.ref D) (mput M3 D (.dct kvs))) xs [] (mput M1 D (.kdc []))) σ H Q) :
    tDc (liftI X ca t rI) (liftG X ca t rG) (liftT (gOf X ca) rT) (liftE (gOf X ca) rK) (liftE (gOf X ca) rV) vs σ H (fun v H2 => ∀ pins σ s, L2.Inv X pins σ H2 s → ∃ H3, L2.Inv X pins σ H3 s ∧ Q v H3) := by
  obtain ⟨g, M, Qa, rel, run, hk⟩ := h
  refine ⟨g, M, _, rel, run, fun xs st un M1 J H0 H1 hM1 k0 k1 wk q => fun D hD => ?_⟩
  have q := q D (hM1.fresh hD)
  have kD : Keep H1 (upd H1 D (.dK [])) := .new hD
  let fn : List (PV × PV) → MM → Prop := fun kvs M2 => ∃ M3, un M2 = M3 ∧ M3 D = some (.kdc kvs) ∧ Qa (.ref D) (mput M3 D (.dct kvs))
  refine ⟨fun i m H' => m = xs.length - i ∧ i ≤ xs.length ∧ ∃ acc M2, HRep X.w ca X.K M2 H' ∧ Keep H1 H' ∧ acc.length ≤ 1000 ∧ dcF st rG (wipeG g vs) rT rK rV D fn (xs.drop i) acc M2, ⟨xs.length, rfl, Nat.zero_le _, [], _, hM1.new (u := .kdc []) hD ⟨[], upd_same, .nil, List.nodup_nil⟩, kD, Nat.zero_le _, q⟩, ?_⟩
  rintro i m H2 ⟨rfl, hi, acc, M2, hM2, k2, hz, q2⟩
  by_cases hlt : i < xs.length
  · rw [List.drop_eq_getElem_cons hlt] at q2
    unfold dcF at q2
    obtain ⟨hst, q2⟩ := q2
    refine .inr ⟨wk.go i H2 M2 hM2 k2 hst hlt, fun H' => ∃ acc M2, HRep X.w ca X.K M2 H' ∧ Keep H1 H' ∧ acc.length ≤ 1000 ∧ dcF st rG (wipeG g vs) rT rK rV D fn (xs.drop (i + 1)) acc M2, fun H' n => ⟨xs.length - (i + 1), by omega, rfl, hlt, n⟩, fun v H3 y => ?_⟩
    obtain ⟨p, hp, rp, k3, hM3⟩ := wk.yld i H2 M2 v H3 hM2 k2 hst hlt y
    rw [List.getElem?_eq_getElem hlt] at hp
    cases hp
    have k23 : Keep H H3 := (k1.trans k2).trans k3
    refine ⟨_, wipeG g vs, M2, _, ⟨(rel.s.keep k23).wipe vs, hM3⟩, rp, q2, fun g4 M4 σ4 H4 rel4 k4 s4 q4 => ⟨wipe_same s4 hsl, liftT_run rel4 q4 fun b M5 H5 rel5 k5 q5 => ?_⟩⟩
    have kk : Keep H1 H5 := ((k2.trans k3).trans k4).trans k5
    cases b with
    | true =>
      simp only [if_true] at q5 ⊢
      refine lift_run rel5 q5 fun y M6 vy H6 rel6 ry k6 q6 => lift_run rel6 q6 fun z M7 vz H7 rel7 rz k7 ⟨e1, e2, e3, q7⟩ => ?_
      obtain ⟨kvs, h7, dr, nd⟩ := rel7.h D _ e3
      obtain ⟨ky, hky⟩ := kpv_of e1
      have kp : Keep H7 (upd H7 D (.dK (putK kvs ky vz))) := .set h7 rfl
      have hl := dr.length
      refine ⟨kvs, ky, kpv_rep hky ry, h7, by rw [← hl, sizeLine_eq]; omega, _, _, rel7.h.set (u := .kdc (dPut acc y z)) h7 rfl ⟨_, upd_same, (dr.put hky rz nd).keep kp, putK_keys kvs nd⟩, ((kk.trans k6).trans k7).trans kp, ?_, q7⟩
      have := dPut_length (y := y) (z := z) acc
      omega
    | false =>
      simp only [Bool.false_eq_true, if_false] at q5 ⊢
      exact ⟨acc, M5, rel5.h, kk, hz, q5.2⟩
  · have e : i = xs.length := by omega
    subst e
    rw [List.drop_length] at q2
    unfold dcF at q2
    refine .inl ⟨wk.stop H2 M2 hM2 k2 q2.1, fun pn τ s2 I2 => ?_⟩
    obtain ⟨H3, c, hM3, k3⟩ := wk.fin H2 M2 hM2 k2
    obtain ⟨M3, eM, e3, q3⟩ := q2.2
    subst eM
    obtain ⟨es, I4, hM4, k4⟩ := made_raw (c _ _ _ I2) hM3 e3 (by rw [sizeLine_eq]; omega)
    exact ⟨_, I4, hk _ _ _ _ hM4 (.ref D) ((k0.trans k3).trans k4) q3⟩
theorem e_dc {ifs : List Expr} {scope : Scope} {own : List (Str × Nat)} {rI : Sg → MM → RI → Prop} {rG : PV → Sg → MM → (Sg → MM → Prop) → Prop} {rT : RT} {rK rV : RE} (hc : X.calm = true) (hN : X.N.Nodup) (hi : PI X tg e (liftI X ca t rI)) (ok : BlkOk X.N X.env.scope scope own)
    (hsl : ∀ i ∈ tgSl t, i ∈ own.map (·.2)) (hg : ∀ (s : Shared) (H : Hp) (C : Addr) (cl : List (Str × Addr)) (fp : List Addr), PG (X.blk s H scope (compEnvC scope cl C X.env) fp) tg (liftG X ca t rG))
    (ht : ∀ (s : Shared) (H : Hp) (C : Addr) (cl : List (Str × Addr)) (fp : List Addr), PTs (X.blk s H scope (compEnvC scope cl C X.env) fp) ifs (liftT (gOf X ca) rT))
    (hkk : ∀ (s : Shared) (H : Hp) (C : Addr) (cl : List (Str × Addr)) (fp : List Addr), PE (X.blk s H scope (compEnvC scope cl C X.env) fp) kx (liftE (gOf X ca) rK))
    (he : ∀ (s : Shared) (H : Hp) (C : Addr) (cl : List (Str × Addr)) (fp : List Addr), PE (X.blk s H scope (compEnvC scope cl C X.env) fp) vx (liftE (gOf X ca) rV)) (hs : ∀ x, foldedSetIterable e X.env x = pure x) :
    PE X (.DictComp kx vx [⟨tg, e, ifs, 0⟩] scope pos) (liftE (gOf X ca) fun g M Q => rI g M fun xs st un M1 => ∀ D, M1 D = none → dcF st rG (wipeG g (own.map (·.2))) rT rK rV D (fun kvs M2 => ∃ M3, un M2 = M3 ∧ M3 D = some (.kdc kvs) ∧ Q (.ref D) (mput M3 D (.dct kvs))) xs [] (mput M1 D (.kdc []))) :=
  ⟨fun pins s σ H Q I h => thn ((pe_dc hc hN hi ok hg ht hkk he hs).run pins s σ H _ I (dc_turns hsl h)) fun _ _ q => ep_unl2 q⟩
end
end Rx
end

section
set_option maxHeartbeats 4000000
/-! Rx: {**d, k: v}: the merging, over the heap. -/
namespace Rx
open PySem PySem.Spec PyProof.Rows L2
section
variable {prog : Program} {w : World} {K : Type} [DecidableEq K] {knd : KeyKind prog w K} {A : Around} {E : Value → Shared → Prop} {s : Shared}
theorem dictPut_of {d : Addr} {kvs : List (K × Value)} {k : K} {key v : Value} {Q : Unit → Shared → Prop} (hkey : knd.is k key = true) (hm : s.heap.DictOf knd d kvs)
    (hQ : ∀ h', h'.DictOf knd d (stored kvs k v) → Heap.SameBut d s.heap h' → Q () { s with heap := h' }) (hsz : kvs.length ≤ sizeLine) :
    wpAny (model prog w) A (dictPut d (knd.hash k) key v) Q E s := by
  obtain ⟨o, es, ep, ho, hc, hd, hk, hp, hn⟩ := hm
  have hes : es.size ≤ sizeLine := by
    have e1 := hp.length
    have e2 : es.toList.length = es.size := by simp
    omega
  unfold dictPut
  refine wpAny_bind (wpAny_dictFind_of hkey ho hd hk ?_)
  have hidx : (es.findIdx? fun e => knd.is k e.key) = kvs.findIdx? fun kv => decide (kv.1 = k) := by
    rw [← hp.findIdx k]; obtain ⟨l⟩ := es; simp
  cases hi : es.findIdx? fun e => knd.is k e.key with
  | some i =>
    refine wpAny_updateDict ho hd (hQ _ ⟨_, _, ep, Heap.get?_update_self _ ho (Obj.isFreed_of_dict (Obj.data_mapDict hd _)),
      hc.mapDict _, Obj.data_mapDict hd _, hk.modify _ _, ?_, ?_⟩ (Heap.SameBut.update ..))
    · rw [stored, if_pos (any_of_findIdx_some (hidx ▸ hi))]
      have hl : (es.toList.findIdx? fun e => knd.is k e.key) = some i := by rw [← hi]; obtain ⟨l⟩ := es; simp
      have := hp.modify hn hl v
      obtain ⟨l⟩ := es
      simpa using this
    · rw [stored, if_pos (any_of_findIdx_some (hidx ▸ hi)), keys_map_store]; exact hn
  | none =>
    have hnot : k ∉ kvs.map (·.1) := not_mem_of_findIdx_none (hidx ▸ hi)
    have hany : ¬ (kvs.any fun kv => decide (kv.1 = k)) = true := by
      rw [List.any_eq_true]; rintro ⟨kv, hkv, he⟩
      exact hnot (List.mem_map.mpr ⟨kv, hkv, of_decide_eq_true he⟩)
    refine wpAny_updateDictKeys (hz := hes) ho hd (hQ _ ⟨_, _, ep + 1, Heap.get?_update_self _ ho (Obj.isFreed_of_dict (Obj.data_mapDictKeys hd _)),
      hc.mapDictKeys _, Obj.data_mapDictKeys hd _, hk.push hkey _, ?_, ?_⟩ (Heap.SameBut.update ..))
    · rw [stored, if_neg hany]
      have := hp.append hkey (knd.hash k) v
      obtain ⟨l⟩ := es
      simpa using this
    · rw [stored, if_neg hany, List.map_append, List.nodup_append]
      refine ⟨hn, by simp, ?_⟩
      intro a ha b hb
      simp only [List.map_cons, List.map_nil, List.mem_singleton] at hb
      subst hb
      exact fun e => hnot (e ▸ ha)
theorem stored_len {kvs : List (K × Value)} {k : K} {v : Value} : (stored kvs k v).length ≤ kvs.length + 1 := by
  unfold stored; split <;> simp
theorem merged_take {kvs more : List (K × Value)} {i : Nat} {k : K} {v : Value} (h : more[i]? = some (k, v)) : merged kvs (more.take (i + 1)) = stored (merged kvs (more.take i)) k v := by
  have e : more.take (i + 1) = more.take i ++ [(k, v)] := by
    rw [List.take_add_one, h]; rfl
  rw [e]; unfold merged; rw [List.foldl_append]; rfl
theorem merged_len' (kvs : List (K × Value)) : ∀ more : List (K × Value), (merged kvs more).length ≤ kvs.length + more.length := by
  intro more
  induction more generalizing kvs with
  | nil => simp [merged]
  | cons q r ih =>
    have := ih (stored kvs q.1 q.2)
    have h2 := stored_len (kvs := kvs) (k := q.1) (v := q.2)
    show (merged (stored kvs q.1 q.2) r).length ≤ _
    simp only [List.length_cons]
    omega
theorem mergeMap_of {d o : Addr} {kvs more : List (K × Value)} {Q : Unit → Shared → Prop} (hdo : d ≠ o) (hoS : (o == sysModules) = false)
    (hd : s.heap.DictOf knd d kvs) (ho : s.heap.DictOf knd o more) (hsz : kvs.length + more.length ≤ sizeLine)
    (hQ : ∀ h', h'.DictOf knd d (merged kvs more) → h'.DictOf knd o more → Heap.SameBut d s.heap h' → Q () { s with heap := h' }) :
    wpAny (model prog w) A (mergeMapping d (.ref o) false) Q E s := by
  obtain ⟨od, esd, epd, hod, hcd, hdd, hkd, hpd, hnd⟩ := id hd
  obtain ⟨oo, eso, epo, hoo, hco, hdo', hko, hpo, hno⟩ := id ho
  have hlen : more.length = eso.size := by rw [← hpo.length]; simp
  unfold mergeMapping
  refine wpAny_bind (wpAny_isInstance ho.typeIs isSubtype_dict_dict ?_)
  dsimp only
  rw [if_pos rfl]
  refine wpAny_bind (wpAny_specialOf ho.typeIs F.slot_dict_iter.lookup ?_)
  refine wpAny_bind (wpAny_pure ?_)
  have eb : (some (Value.builtin "dict.__iter__") == some (Value.builtin "dict.__iter__")) = true := by simp
  rw [eb]
  dsimp only
  rw [if_neg (by rw [hoS]; exact Bool.false_ne_true)]
  simp only [Bool.false_eq_true, if_false]
  refine wpAny_bind (wpAny_dictEntries hod hdd ?_)
  have loop : wpAny (model prog w) A (dictEntries o >>= fun l => dictEpoch o >>= fun epoch => forIn (List.range l.size) PUnit.unit (fun i _ => do
      let __do_lift ← dictEntries o
      match __do_lift[i]? with
        | some e => do
          holding [e.key, e.val] (dictPut d e.hash e.key e.val)
          let __do_lift ← dictEpoch o
          if (__do_lift != epoch) = true then do
              unsupported "dict.changed-during-merge"
              pure (ForInStep.yield PUnit.unit)
            else pure (ForInStep.yield PUnit.unit)
        | x => do
          unsupported "dict.changed-during-merge"
          pure (ForInStep.yield PUnit.unit)) >>= fun _ => pure ()) Q E s := by
    refine wpAny_bind (wpAny_dictEntries hoo hdo' ?_)
    refine wpAny_bind (wpAny_dictEpoch hoo hdo' ?_)
    refine wpAny_bind ?_
    rw [List.range_eq_range']
    refine wpAny_forIn_list _
      (fun rest _ s' => ∃ h' i, s' = { s with heap := h' } ∧ rest = List.range' i (eso.size - i) ∧ i ≤ eso.size ∧ h'.DictOf knd d (merged kvs (more.take i)) ∧ h'.get? o = some oo ∧ Heap.SameBut d s.heap h')
      _ ?_ ?_ _ _ ⟨s.heap, 0, rfl, by simp, Nat.zero_le _, by simpa [merged] using hd, hoo, Heap.SameBut.refl _ _⟩
    · rintro x rest b s' ⟨h', i, rfl, hr, hi, hd', hoo', hs'⟩
      have hlt : i < eso.size := by
        rcases Nat.lt_or_ge i eso.size with h | h
        · exact h
        · rw [Nat.sub_eq_zero_of_le h] at hr; simp at hr
      obtain ⟨rfl, hrest⟩ : x = i ∧ rest = List.range' (i + 1) (eso.size - (i + 1)) := by
        have e : eso.size - i = (eso.size - (i + 1)) + 1 := by omega
        rw [e, List.range'_succ] at hr
        injection hr with h1 h2
        exact ⟨h1, h2⟩
      refine wpAny_bind (wpAny_dictEntries hoo' hdo' ?_)
      rw [Array.getElem?_eq_getElem hlt]
      obtain ⟨kv, hkv⟩ : ∃ kv, more[x]? = some kv := ⟨more[x]'(by rw [hlen]; exact hlt), List.getElem?_eq_getElem _⟩
      obtain ⟨k, v⟩ := kv
      obtain ⟨hkey, hval⟩ := hpo.get? (e := eso[x]) (by simp [hlt]) hkv
      obtain ⟨k', hkey', hhash⟩ := hko eso[x] (Array.getElem_mem hlt)
      obtain rfl : k' = k := knd.inj _ _ _ hkey' hkey
      dsimp only
      rw [hhash, hval]
      have hmx : (merged kvs (more.take x)).length ≤ sizeLine := by
        have e1 := merged_len' kvs (more.take x)
        have e2 : (more.take x).length ≤ more.length := by rw [List.length_take]; omega
        omega
      refine wpAny_bind (wpAny_holding ?_)
      refine dictPut_of hkey hd' (fun h'' hd'' hs'' => ?_) hmx
      have hoo'' : h''.get? o = some oo := (hs''.2 o (Ne.symm hdo)).trans hoo'
      refine wpAny_bind (wpAny_dictEpoch hoo'' hdo' ?_)
      rw [if_neg (by simp)]
      exact wpAny_pure ⟨h'', x + 1, rfl, hrest, hlt, by rw [merged_take hkv]; exact hd'', hoo'', hs'.trans hs''⟩
    · rintro b s' ⟨h', i, rfl, hr, hi, hd', hoo', hs'⟩
      have hin : i = eso.size := by
        rcases Nat.lt_or_ge i eso.size with h | h
        · have e : eso.size - i = (eso.size - (i + 1)) + 1 := by omega
          rw [e, List.range'_succ] at hr; exact nomatch hr
        · exact Nat.le_antisymm hi h
      refine wpAny_pure (hQ h' ?_ ⟨oo, eso, epo, hoo', hco, hdo', hko, hpo, hno⟩ hs')
      rw [hin, ← hlen, List.take_length] at hd'; exact hd'
  split
  · refine wpAny_bind (wpAny_dictEntries hoo hdo' ?_)
    refine wpAny_bind ?_
    rw [← Array.forIn_toList]
    refine wpAny_forIn_list _ (fun rest _ s' => s' = s ∧ ∀ e ∈ rest, e ∈ eso.toList) _ ?_ ?_ _ _ ⟨rfl, fun _ h => h⟩
    · rintro e rest b s' ⟨rfl, hall⟩
      obtain ⟨k', hkey', hhash⟩ := hko e (by simpa using hall e List.mem_cons_self)
      have hv := knd.byValue _ _ hkey'
      cases hke : e.key with
      | ref a => rw [hke] at hv; cases hv
      | _ => exact wpAny_pure ⟨rfl, fun x hx => hall x (List.mem_cons_of_mem _ hx)⟩
    · rintro b s' ⟨rfl, _⟩
      exact loop
  · exact loop
end
end Rx
end

section
set_option maxHeartbeats 4000000
/-! Rx: {**d, k: v}: the display, over the heap. -/
namespace Rx
open PySem PySem.Spec PyProof.Rows L2
theorem sizeLine_big' : 100001 ≤ sizeLine := by rw [sizeLine_eq]; decide
section
variable {prog : Program} {w : World} {K : Type} [DecidableEq K] {knd : KeyKind prog w K} {A : Around} {E : Value → Shared → Prop} {s : Shared}
theorem starDisp {dv kx vx : Sem Value} {Q : Value → Shared → Prop}
    (h : wpAny (model prog w) A dv (fun m s1 => ∃ o more, m = .ref o ∧ s.heap.objs.size ≠ o ∧ (o == sysModules) = false ∧ s1.heap.DictOf knd s.heap.objs.size [] ∧ s1.heap.DictOf knd o more ∧ more.length ≤ 100000 ∧
      ∀ h2, h2.DictOf knd s.heap.objs.size more → Heap.SameBut s.heap.objs.size s1.heap h2 →
        wpAny (model prog w) A kx (fun kv s2 => wpAny (model prog w) A vx (fun vv s3 => ∃ k, knd.is k kv = true ∧ s3.heap.DictOf knd s.heap.objs.size more ∧ s3.heap.DictOf knd h2.objs.size [] ∧ s.heap.objs.size ≠ h2.objs.size ∧ (h2.objs.size == sysModules) = false ∧
          ∀ h4 tk, h4.DictOf knd s.heap.objs.size (stored more k vv) → (∀ b o, b ≠ s.heap.objs.size → b ≠ h2.objs.size → s3.heap.get? b = some o → h4.get? b = some o) → Q (.ref s.heap.objs.size) { s3 with heap := h4, toks := tk }) E s2) E
          { s1 with heap := h2.push { cls := .type "dict", data := .dict #[] } }) E { s with heap := s.heap.push { cls := .type "dict", data := .dict #[] } }) :
    wpAny (model prog w) A (dictDisplay [(none, dv), (some kx, vx)]) Q E s := by
  unfold dictDisplay
  simp only [List.forIn_cons, List.forIn_nil]
  simp only [List.isEmpty_nil, if_true, pure_bind, bind_assoc]
  refine wpAny_bind (wpAny_alloc ?_)
  refine wpAny_bind (wpAny_holding (wpAny_mono h (fun m s1 hh => ?_) fun _ _ x => x))
  obtain ⟨o, more, rfl, hne, hsy, hd1, ho1, hz, hk⟩ := hh
  refine wpAny_bind (wpAny_onRaise (wpAny_tryCatch (wpAny_onRaise (wpAny_holding (mergeMap_of (knd := knd) (kvs := []) (more := more) hne hsy hd1 ho1 (by simp only [List.length_nil]; have := sizeLine_big'; omega) fun h2 hd2 ho2 sb2 => ?_)))))
  have hnd : (more.map (·.1)).Nodup := let ⟨_, _, _, _, _, _, _, _, hn⟩ := ho1; hn
  rw [merged_nil_of_nodup more hnd] at hd2
  have hk2 := hk h2 hd2 sb2
  refine wpAny_bind ?_
  rw [if_neg (by simp)]
  refine wpAny_pure (wpAny_bind (wpAny_pure ?_))
  dsimp only
  refine wpAny_bind ?_
  rw [if_neg (by simp)]
  refine wpAny_bind (wpAny_holding ?_)
  refine wpAny_subDict (knd := knd) (s := { s1 with heap := h2 }) (pairs := [] ++ [(kx, vx)]) (by simp) ?_
  show wpAny _ _ (evalPairs [(kx, vx)]) _ _ _
  refine evalPairs_cons (wpAny_mono hk2 (fun kv s2 h3 => wpAny_mono h3 (fun vv s3 h4 => evalPairs_nil ?_) fun _ _ x => x) fun _ _ x => x)
  obtain ⟨k, hki, hdp, hdq, hpq, hsq, hfin⟩ := h4
  refine ⟨[(k, vv)], ?_, hdq, fun h5 hd5 sb5 => ?_⟩
  · exact ⟨hki, rfl, trivial⟩
  · have hp5 : h5.DictOf knd s.heap.objs.size more := hdp.sameBut sb5 hpq
    have hd5' : h5.DictOf knd h2.objs.size [(k, vv)] := hd5
    refine wpAny_bind (wpAny_onRaise (wpAny_holding (mergeMap_of (knd := knd) (kvs := more) (more := [(k, vv)]) hpq hsq hp5 hd5' (by simp only [List.length_cons, List.length_nil]; have := sizeLine_big'; omega) fun h6 hd6 _ sb6 => ?_)))
    refine wpAny_pure ?_
    dsimp only
    refine wpAny_pure (hfin h6 _ hd6 fun b o' h1 h2' e => ?_)
    rw [sb6.2 b h1]
    exact sb5.extBut b o' h2' e
end
end Rx
end

section
set_option maxHeartbeats 4000000
/-! Rx: dicts with plain keys, told as HandS tells them, and back. -/
namespace Rx
open PySem PySem.Spec PyProof.Rows L2
theorem kpv_is {K : PySem.W.Frag} {H : Hp} {p : PV} {v : V} {u : Value} {k : Key} (h : kpv p = some k) (r : Rep K H p v) (ru : RelV v u) : keyIs k u = true := by
  rcases kpv_inv h with ⟨s, rfl, rfl⟩ | ⟨i, rfl, rfl⟩
  · cases r; obtain ⟨t, rfl⟩ := ru; exact keyIs_str _ _
  · cases r; obtain ⟨t, rfl⟩ := ru; exact keyIs_int _ _
section
variable {X : Cx} {ca : String → Addr}
theorem raw_pairs {P : Program} {w : World} {K : PySem.W.Frag} {H : Hp} : ∀ {kvs : List (PV × PV)} {l : List DictEntry}, ERep w K H kvs l → simKs kvs = true → ∃ (zs : List (Key × V)) (vs : List (Key × Value)), DRel K H kvs zs ∧ KV zs vs ∧ Pairs (mixKind P w) l vs ∧
    (∀ e ∈ l, ∃ k, (mixKind P w).is k e.key = true ∧ e.hash = (mixKind P w).hash k) ∧ kvs.map (fun q => kpv q.1) = vs.map (fun q => some q.1)
  | _, _, .nil, _ => ⟨[], [], .nil, .nil, .nil, (by simp), rfl⟩
  | _, _, .cons (p := p) (k := nk) (e := e) (v := v) (u := u) h1 h2 h3 r1 r2 r3 r4 t, hs => by
    unfold simKs at hs
    rw [List.all_cons] at hs
    obtain ⟨k, hk⟩ := kpv_of (and1 hs)
    obtain ⟨zs, vs, g1, g2, g3, g4, g5⟩ := raw_pairs (P := P) t (and2 hs)
    have hi := kpv_is hk r1 r2
    have hh : e.hash = keyH w k := by
      rw [h3]
      have e1 := kpv_key hk
      rw [h1] at e1
      have e2 := Option.some.inj e1
      rw [e2]
      rcases kpv_inv hk with ⟨s, rfl, rfl⟩ | ⟨i, rfl, rfl⟩ <;> rfl
    refine ⟨(k, u) :: zs, (k, e.val) :: vs, .cons hk r3 g1, .cons ⟨rfl, r4⟩ g2, .cons hi rfl g3, fun x hx => ?_, by simp only [List.map_cons, g5, hk]⟩
    rcases List.mem_cons.mp hx with rfl | hx
    · exact ⟨k, hi, hh⟩
    · exact g4 x hx
theorem kpv_nodup : ∀ {kvs : List (PV × PV)} {ks : List Key}, kvs.map (fun q => kpv q.1) = ks.map some → (kvs.map fun q => kk q.1).Nodup → ks.Nodup
  | [], [], _, _ => List.nodup_nil
  | [], _ :: _, e, _ => by simp at e
  | _ :: _, [], e, _ => by simp at e
  | q :: kvs, k :: ks, e, nd => by
    simp only [List.map_cons, List.cons.injEq] at e
    rw [List.map_cons, List.nodup_cons] at nd
    rw [List.nodup_cons]
    refine ⟨fun hm => nd.1 ?_, kpv_nodup e.2 nd.2⟩
    have : some k ∈ kvs.map (fun q => kpv q.1) := by rw [e.2]; exact List.mem_map.mpr ⟨k, hm, rfl⟩
    obtain ⟨q', hq', eq⟩ := List.mem_map.mp this
    refine List.mem_map.mpr ⟨q', hq', ?_⟩
    unfold kk
    rw [kpv_key eq, kpv_key e.1]
    cases k <;> rfl
/-- told as HandS tells it -/
theorem raw_mix {pins : List (Addr × Obj)} {σ : L2.St} {H : Hp} {s : Shared} {M : MM} (I : L2.Inv X pins σ H s) (hM : HRep X.w ca X.K M H) {a : Addr} {kvs : List (PV × PV)} (e : M a = some (.dct kvs)) (hs : simKs kvs = true) :
    ∃ (zs : List (Key × V)) (vs : List (Key × Value)), DRel X.K H kvs zs ∧ KV zs vs ∧ s.heap.DictOf (mixKind X.prog X.w) a vs ∧ (a == sysModules) = false ∧ (zs.map (·.1)).Nodup ∧ vs.length = kvs.length := by
  obtain ⟨es, h1, h2, h3, h4, h5⟩ := hM.dct e
  obtain ⟨o, ep, g1, g2, g3⟩ := dct_obj I h1
  obtain ⟨zs, vs, t1, t2, t3, t4, t5⟩ := raw_pairs (P := X.prog) h2 hs
  have e2 : kvs.map (fun q => kpv q.1) = (vs.map (·.1)).map some := by rw [t5, List.map_map]; rfl
  have nd := kpv_nodup e2 h3
  have ez : zs.map (·.1) = vs.map (·.1) := by
    have gen : ∀ {zs : List (Key × V)} {vs : List (Key × Value)}, KV zs vs → zs.map (·.1) = vs.map (·.1) := by
      intro zs vs r
      induction r with
      | nil => rfl
      | cons h _ ih => simp only [List.map_cons, ih, h.1]
    exact gen t2
  refine ⟨zs, vs, t1, t2, ⟨o, es, ep, g1, g2, g3, fun e he => t4 e (by simpa using he), t3, nd⟩, h5, by rw [ez]; exact nd, ?_⟩
  have := congrArg List.length e2
  simpa using this.symm
/-- a new dict of that kind -/
theorem mix_new {pins : List (Addr × Obj)} {σ : L2.St} {H : Hp} {s : Shared} {M : MM} {h' : Heap} {t : Nat} {d : Addr} {kvs : List (PV × PV)} {zs : List (Key × V)} {vs : List (Key × Value)} {Qa : KV1} {Q : VK} (I : L2.Inv X pins σ H s) (hM : HRep X.w ca X.K M H)
    (k : ∀ b o, s.heap.get? b = some o → h'.get? b = some o) (hd : s.heap.objs.size ≤ d) (hD : h'.DictOf (mixKind X.prog X.w) d vs) (hkv : KV zs vs) (hr : DRel X.K H kvs zs) (hz : kvs.length ≤ 100000) (hnd : (zs.map (·.1)).Nodup)
    (hq : newD kvs M Qa) (hk : Hands (gOf X ca) H Qa Q) : EP X pins σ Q (.ref d) { s with heap := h', toks := t } := by
  have hn : H d = none := I.hok.fresh hd
  have hsys : (d == sysModules) = false := beq_eq_false_iff_ne.mpr (Nat.ne_of_gt (Nat.lt_of_lt_of_le I.big hd))
  have I1 : L2.Inv X pins σ (upd H d (.dK zs)) { s with heap := h', toks := t } := I.laid (t' := t) k hd ⟨by rw [← hr.length]; exact Nat.le_trans hz (Nat.le_of_succ_le sizeLine_big'), hsys, vs, hkv, hD⟩
  have hM1 : HRep X.w ca X.K (mput M d (.kdc kvs)) (upd H d (.dK zs)) := hM.new hn ⟨zs, upd_same, hr.keep (.new hn), hnd⟩
  obtain ⟨es, I2, hM2, k2⟩ := made_raw I1 hM1 mput_same (Nat.le_trans hz (Nat.le_of_succ_le sizeLine_big'))
  rw [mput_mput] at hM2
  exact ⟨.ref d, _, I2, rfl, hk _ _ _ _ hM2 (.ref d) ((Keep.new hn).trans k2) (hq d (hM.fresh hn))⟩
end
end Rx
end

section
set_option maxHeartbeats 4000000
/-! Rx: dict(d), dict(pairs), d.clear(). -/
namespace Rx
open PySem PySem.Spec PyProof.Rows L2
def tAt (its : List Value) (j : Nat) : Addr := match its[j]? with
  | some (.ref t) => t
  | _ => 0
theorem pairs_vals {P : Program} {w : World} {K : PySem.W.Frag} {H : Hp} {h : Heap} (ok : HOk P w H h) (kin : K.In h) : ∀ {kvs : List (PV × PV)} {vs : List V} {us : List Value}, simKs kvs = true → Reps K H (kvs.map fun q => .tup [q.1, q.2]) vs → Vals vs us →
    ∃ (ps : List (Value × Value)) (ks : List (Key × Value)) (zs : List (Key × V)), ps.length = kvs.length ∧ ks.length = kvs.length ∧ us.length = kvs.length ∧ (∀ (j : Nat) k v, ps[j]? = some (k, v) → us[j]? = some (.ref (tAt us j)) ∧ PairAt h (tAt us j) k v) ∧
      (∀ (j : Nat) k v, ps[j]? = some (k, v) → ∃ kk, ks[j]? = some (kk, v) ∧ keyIs kk k = true) ∧
      (∀ {acc : List (PV × PV)} {as : List (Key × V)} {bs : List (Key × Value)}, DRel K H acc as → KV as bs → (as.map (·.1)).Nodup → ∃ zs' : List (Key × V), DRel K H (kvs.foldl (fun d q => dPut d q.1 q.2) acc) zs' ∧ KV zs' (merged bs ks) ∧ (zs'.map (·.1)).Nodup)
  | [], _, _, _, .nil, .nil => ⟨[], [], [], rfl, rfl, rfl, (by simp), (by simp), fun r k nd => ⟨_, r, k, nd⟩⟩
  | (p, q) :: r, _, _, hs, .cons ra rs, .cons ru rv => by
    unfold simKs at hs
    rw [List.all_cons] at hs
    obtain ⟨k, hk⟩ := kpv_of (and1 hs)
    obtain ⟨ps, ks, zs, l1, l2, l3, f1, f2, f3⟩ := pairs_vals (P := P) ok kin (kvs := r) (and2 hs) rs rv
    cases ra with
    | tup ha rr =>
      rename_i t ts
      cases ru
      cases rr with
      | cons r1 rr =>
        cases rr with
        | cons r2 rr =>
          cases rr
          rename_i v1 v2
          have key : ∃ u1 u2, RelV v1 u1 ∧ RelV v2 u2 ∧ PairAt h t u1 u2 := by
            rcases ha with ⟨o, h1, h2, h3⟩ | ⟨o, its, n, h1, h2, h3, h4, h5, h6⟩
            · obtain ⟨g1, gz, its, g2, g3⟩ := (show ObjOk P w H h t (.frz o (.tup _)) from ok t _ h1)
              obtain ⟨u1, u2, rfl, w1, w2⟩ := vals2 g2
              exact ⟨u1, u2, w1, w2, .inl g3⟩
            · obtain ⟨u1, u2, e, w1, w2⟩ := vals2 h6
              exact ⟨u1, u2, w1, w2, .inl ⟨o, kin _ _ h1, h2, n, by rw [h4, ← Array.toArray_toList (xs := its), e]⟩⟩
          obtain ⟨u1, u2, w1, w2, pa⟩ := key
          refine ⟨(u1, u2) :: ps, (k, u2) :: ks, [], by simp [l1], by simp [l2], by simp [l3], fun j kx vx hj => ?_, fun j kx vx hj => ?_, fun {acc as bs} dr kv nd => ?_⟩
          · cases j with
            | zero =>
              simp at hj
              obtain ⟨rfl, rfl⟩ := hj
              exact ⟨rfl, pa⟩
            | succ j =>
              have := f1 j kx vx (by simpa using hj)
              unfold tAt at this ⊢
              simpa using this
          · cases j with
            | zero =>
              simp at hj
              obtain ⟨rfl, rfl⟩ := hj
              exact ⟨k, rfl, kpv_is hk r1 w1⟩
            | succ j =>
              obtain ⟨kk, e1, e2⟩ := f2 j kx vx (by simpa using hj)
              exact ⟨kk, by simpa using e1, e2⟩
          · obtain ⟨zs', g1, g2, g3⟩ := f3 (dr.put hk r2 nd) (kv.put k w2) (putK_keys _ nd)
            exact ⟨zs', g1, g2, g3⟩
section
variable {X : Cx} {ca : String → Addr}
theorem foldl_len : ∀ (l acc : List (PV × PV)), (l.foldl (fun d q => dPut d q.1 q.2) acc).length ≤ acc.length + l.length
  | [], acc => by simp
  | x :: r, acc => by
    have := foldl_len r (dPut acc x.1 x.2)
    have := dPut_length (y := x.1) (z := x.2) acc
    simp only [List.foldl_cons, List.length_cons]
    omega
theorem dict_snd (hc : X.calm = true) : CallR X (.type "dict") (liftC (gOf X ca) (biA "dict")) := by
  intro pins s σ H xs us Q I r ⟨ps, M, Qa, hM, rps, hr, hk⟩
  unfold biA at hr
  split at hr <;> first
    | (exfalso; exact hr)
    | skip
  all_goals (try contradiction)
  obtain ⟨v, rfl, rp⟩ := rps.one_inv
  split at hr
  · rename_i a
    cases rp
    cases r with
    | cons r0 rn =>
    cases rn
    cases r0
    split at hr
    · rename_i kvs e
      obtain ⟨hs, hz, hq⟩ := hr
      obtain ⟨zs, vs, t1, t2, t3, t4, t5, t6⟩ := raw_mix I hM e hs
      refine kt_call_dict (knd := mixKind X.prog X.w) t4 t3 (by rw [t6]; exact Nat.le_trans hz (Nat.le_trans (by decide) (Nat.le_of_succ_le sizeLine_big'))) fun h' hd sb => ?_
      exact mix_new (t := s.toks) I hM (fun b o z => by rw [sb.2 b (Nat.ne_of_lt (Heap.lt_size z))]; exact Heap.get?_push_of_some _ z) (Nat.le_refl _) hd t2 t1 (Nat.le_trans hz (by decide)) t5 hq hk
    · rename_i xs e
      split at hr
      · rename_i kvs hkv
        obtain ⟨hs, hz, hq⟩ := hr
        obtain ⟨vs, hv, rs⟩ := hM.lst e
        rw [pairs_inv hkv] at rs
        obtain ⟨its, rv, pl, hzz⟩ := I.list (X := X) (a := a) (xs := vs) (.inl (.inl hv))
        obtain ⟨ps, ks, zs, l1, l2, l3, f1, f2, f3⟩ := pairs_vals I.hok I.kIn hs rs rv
        obtain ⟨zs', g1, g2, g3⟩ := f3 (acc := []) (as := []) (bs := []) .nil .nil List.nodup_nil
        refine call_dict_pairs (knd := mixKind X.prog X.w) (kvs := ks) (PairArg.list a its.toArray (tAt its) ps) (I.ok.hd hc) ⟨pl.elim fun o z => z.elim fun n z => ⟨o, n, z⟩, ⟨by simp [l1, l3], fun j k v hj => ⟨by simpa using (f1 j k v hj).1, (f1 j k v hj).2⟩⟩⟩ ⟨by rw [l1, l2], fun i key v hi => f2 i key v hi⟩ (by rw [l1]; exact Nat.le_trans hz (Nat.le_trans (by decide) (Nat.le_of_succ_le sizeLine_big'))) fun h' tk hd kp => ?_
        exact mix_new (t := tk) I hM (fun b o z => kp b o (by simp) z) (Nat.le_refl _) hd g2 g1 (Nat.le_trans (foldl_len kvs []) (by simp only [List.length_nil]; omega)) g3 hq hk
      · exact hr.elim
    · exact hr.elim
  · exact hr.elim
end
end Rx
end

section
set_option maxHeartbeats 4000000
/-! Rx: d.clear(), xs[::-1], list(d.items()), {**d, k: v}. -/
namespace Rx
open PySem PySem.Spec PyProof.Rows L2
section
variable {X : Cx} {ca : String → Addr}
theorem dclear_snd : MtR X "dict.clear" (liftM (gOf X ca) (bmA "dict" "clear")) := by
  intro pins s σ H x xs v us Q I rx rs ⟨p, ps, M, Qa, hM, rp, rps, hr, hk⟩
  unfold bmA at hr
  split at hr <;> first
    | (exfalso; exact hr)
    | skip
  all_goals (try contradiction)
  cases rp; cases rps; cases rx; cases rs
  split at hr
  · rename_i a kvs e
    obtain ⟨hz, hq⟩ := hr
    obtain ⟨es, h1, h2, h3, h4, h5⟩ := hM.dct e
    obtain ⟨o, ep, g1, g2, g3⟩ := dct_obj I h1
    have hsz : es.size ≤ sizeLine := by
      have e1 : kvs.length = es.size := by rw [h2.length, Array.length_toList]
      rw [← e1]
      exact Nat.le_trans hz (Nat.le_trans (by decide) (Nat.le_of_succ_le sizeLine_big'))
    refine call_meetsIn F.slot_dict_clear (Heap.DictRaw.typeIs ⟨o, g1, g2, g3⟩) F.entry_dict_clear (F.args_dict_clear_1 _) (meets_dict_clear_raw _) ⟨es, ep, ⟨o, g1, g2, g3⟩, hsz, fun h' hr' hs' => ?_⟩
    obtain ⟨o', c1, c2, c3⟩ := hr'
    have J := dct_write (t := s.toks) I h1 c1 c2 c3 hs'
    exact ⟨.non, _, J, rfl, hk .non _ .non _ (hM.set (u := .dct []) h1 rfl ⟨#[], upd_same, .nil, List.nodup_nil, Nat.zero_le _, h5⟩) .non (.set h1 rfl) hq⟩
  · exact hr.elim
variable {a : Expr} {ra : RE} {pos : Pos}
theorem e_rev {p1 p2 p3 : Pos} {k : Nat} (ha : PE X a (liftE (gOf X ca) ra)) : PE X (.Subscript a (.Slice none none (some (.UnaryOp .USub (.Constant (.int 1) k p1) p2)) p3) pos) (liftE (gOf X ca) fun g M Q => ra g M fun p M1 => match p with
    | .ref a => match M1 a with
      | some (.lst xs) => newL xs.reverse M1 Q
      | _ => False
    | _ => False) := by
  refine ⟨fun pins s σ H Q I ⟨g, M, Qa, rel, run, hk⟩ => ?_⟩
  refine Subscript_ (thn (ha.run pins s σ H (fun v H1 => ∃ p M1, Rel (gOf X ca) σ H1 g M1 ∧ Rep X.K H1 p v ∧ Keep H H1 ∧ match p with
    | .ref a => match M1 a with
      | some (.lst xs) => newL xs.reverse M1 Qa
      | _ => False
    | _ => False) I (lift_run rel run fun p M1 v H1 rel1 rp k1 q1 => ⟨p, M1, rel1, rp, k1, q1⟩)) fun u s1 ⟨v, H1, I1, ru, p, M1, rel1, rp, k1, q1⟩ => ?_)
  split at q1
  · rename_i l
    split at q1
    · rename_i xs e
      cases rp
      cases ru
      obtain ⟨vs, hv, rs⟩ := rel1.h.lst e
      refine wpAny_Slice ?_
      rw [evalPart_none]
      refine wpAny_pure (wpAny_pure ?_)
      rw [evalPart_some]
      have hneg : PE X (.UnaryOp .USub (.Constant (.int 1) k p1) p2) (tUn (rU fun i => .int (-i)) (tC (.int 1))) := pe_un un_neg pe_int
      refine thn (hneg.run pins s1 σ H1 (fun x H2 => x = .int (-1) ∧ H2 = H1) I1 ⟨1, rfl, rfl, rfl⟩) fun u s2 ⟨x, H2, I2, r2, e2, e3⟩ => ?_
      subst e2
      subst e3
      obtain ⟨tk, rfl⟩ := r2
      obtain ⟨its, rv, pl, hz⟩ := I2.list (X := X) (a := l) (xs := vs) (.inl (.inl hv))
      have I3 : L2.Inv X pins σ H2 { s2 with heap := s2.heap.push { cls := .type "slice", data := .fields #[.none, .none, .int (-1) tk] } } := I2.kept (t' := s2.toks) fun b ob q => Heap.get?_push_of_some _ q
      obtain ⟨its', rv', pl', hz'⟩ := I3.list (X := X) (a := l) (xs := vs) (.inl (.inl hv))
      refine tail_any (ops := [.ref l, .ref s2.heap.objs.size]) pl'.isList.typeIs slot_list_getitem.lookup ?_ (by with_unfolding_all rfl)
      refine wpAny_getItem_list_slice pl'.isList (Heap.IsSliceOf.new ..) .none .none (.int (-1) tk) (by simp) ?_ (by rw [List.size_toArray]; rw [← rv'.length]; exact hz')
      rw [PySem.W.krv_pick]
      have hn : H2 (s2.heap.push { cls := .type "slice", data := .fields #[.none, .none, .int (-1) tk] }).objs.size = none := I3.hok.fresh (Nat.le_refl _)
      have hlen : vs.reverse.length ≤ sizeLine := by rw [List.length_reverse]; exact hz'
      refine ⟨.ref _, _, I3.laid (t' := s2.toks) (o := .lst vs.reverse) (fun b ob q => Heap.get?_push_of_some _ q) (Nat.le_refl _) ⟨hlen, its'.reverse, 0, Vals.reverse rv', Heap.get?_push_size _ rfl⟩, rfl, ?_⟩
      exact hk (.ref _) (mput M1 _ (.lst xs.reverse)) _ _ (rel1.h.new (u := .lst xs.reverse) hn ⟨_, upd_same, (rs.keep (.new hn)).reverse⟩) (.ref _) (k1.trans (.new hn)) (q1 _ (rel1.h.fresh hn))
    · exact q1.elim
  · exact q1.elim
end
end Rx
end

section
set_option maxHeartbeats 4000000
/-! Rx: list(d.items()). -/
namespace Rx
open PySem PySem.Spec PyProof.Rows L2
section
variable {X : Cx} {ca : String → Addr} {pins : List (Addr × Obj)} {σ : L2.St} {H H' : Hp} {s : Shared} {h' : Heap} {t : Nat}
theorem lay_many (I : L2.Inv X pins σ H s) (hk : ∀ b o, s.heap.get? b = some o → h'.get? b = some o) (k1 : ∀ b u, H b = some u → H' b = some u) (k2 : ∀ b o, s.heap.get? b = some o → H b = none → H' b = none)
    (k3 : ∀ b u, H b = none → H' b = some u → ObjOk X.prog X.w H' h' b u) : L2.Inv X pins σ H' { s with heap := h', toks := t } := by
  refine I.call' (ch := []) rfl ⟨fun b o q _ _ _ => hk b o q, fun b o q _ _ _ => ⟨o.slots, hk b o q⟩, fun b o q n _ => k2 b o q n, fun b o q _ => ⟨o, hk b o q⟩, fun b xs q => k1 b _ q, fun b o u q => k1 b _ q, fun b ps q => ⟨#[], by rw [k1 b _ q]; simp⟩⟩ (fun b u q => ?_) I.bare fun b z => by simp at z
  cases z : H b with
  | none => exact k3 b u z q
  | some u' =>
    have e := k1 b u' z
    rw [e] at q
    cases q
    exact (I.hok b _ z).stay (fun d v _ y => hk d v y) (fun d y => k1 d _ y) fun d xs y => k1 d _ y
def ixA : List Addr → Addr → Option Nat
  | [], _ => none
  | b :: r, a => if b = a then some 0 else (ixA r a).map (· + 1)
/-- the pairs laid -/
def layP (H : Hp) (S : Addr) (as : List Addr) (ks us : List V) (es : Array DictEntry) : Hp := fun b => if b = S then some (.lst (as.map V.ref)) else match ixA as b with
  | some j => match ks[j]?, us[j]?, es[j]? with
    | some k, some u, some e => some (.frz (tupO [e.key, e.val] 0) (.tup [k, u]))
    | _, _, _ => H b
  | none => H b
theorem vals_ix {ks : List V} {es : Array DictEntry} {f : DictEntry → Value} (r : Vals ks (es.toList.map f)) {j : Nat} (hj : j < es.size) : ∃ k, ks[j]? = some k ∧ RelV k (f es[j]) := by
  have hl : j < ks.length := by rw [r.length, List.length_map, Array.length_toList]; exact hj
  obtain ⟨u, h1, h2⟩ := r.get (List.getElem?_eq_getElem hl)
  have : (es.toList.map f)[j]? = some (f es[j]) := by
    rw [List.getElem?_map, Array.getElem?_toList, Array.getElem?_eq_getElem hj]; rfl
  rw [this] at h1
  cases h1
  exact ⟨_, List.getElem?_eq_getElem hl, h2⟩
theorem idx_of : ∀ {as : List Addr} {j : Nat} {a : Addr}, as.Nodup → as[j]? = some a → ixA as a = some j
  | [], _, _, _, h => by simp at h
  | b :: r, 0, a, nd, h => by
    simp at h
    unfold ixA; rw [if_pos h]
  | b :: r, j + 1, a, nd, h => by
    rw [List.nodup_cons] at nd
    have h : r[j]? = some a := by simpa using h
    unfold ixA
    rw [if_neg (fun e => nd.1 (by rw [e]; exact List.mem_of_getElem? h)), idx_of nd.2 h]; rfl
theorem idx_no : ∀ {as : List Addr} {a : Addr}, a ∉ as → ixA as a = none
  | [], _, _ => rfl
  | b :: r, a, h => by
    unfold ixA
    rw [if_neg (fun e => h (by rw [e]; exact List.mem_cons_self ..)), idx_no (fun z => h (List.mem_cons_of_mem _ z))]; rfl
theorem refs_rel : ∀ as : List Addr, Vals (as.map V.ref) (as.map Value.ref)
  | [] => .nil
  | a :: as => .cons rfl (refs_rel as)
theorem raw_items (I : L2.Inv X pins σ H s) {M : MM} (hM : HRep X.w ca X.K M H) {kvs : List (PV × PV)} {es : Array DictEntry} {ks us : List V} (rk : Reps X.K H (kvs.map (·.1)) ks) (ru : Reps X.K H (kvs.map (·.2)) us) (vk : Vals ks (es.toList.map (·.key))) (vu : Vals us (es.toList.map (·.val)))
    {acc : Array Value} {c : Nat} {as : List Addr} (hk : ∀ b o, s.heap.get? b = some o → h'.get? b = some o) (hS : h'.get? s.heap.objs.size = some { cls := .type "list", dict := none, data := .seq acc c, slots := #[] }) (hl : as.length = es.size) (hG : PySem.W.DilG es s.heap.objs.size h' as) (hacc : acc.toList = as.map Value.ref) (hz : es.size ≤ sizeLine)
    {Qa : KV1} {Q : VK} (hq : newL (kvs.map fun q => .tup [q.1, q.2]) M Qa) (hh : Hands (gOf X ca) H Qa Q) : EP X pins σ Q (.ref s.heap.objs.size) { s with heap := h', toks := t } := by
  have nd : as.Nodup := List.Pairwise.imp (fun {a b} (h : a < b) => Nat.ne_of_lt h) hG.rise
  have hSn : s.heap.objs.size ∉ as := fun z => Nat.lt_irrefl _ (hG.above _ z)
  have new : ∀ b ∈ as, H b = none := fun b hb => I.hok.fresh (Nat.le_of_lt (hG.above b hb))
  have newS : H s.heap.objs.size = none := I.hok.fresh (Nat.le_refl _)
  have at_ : ∀ (j : Nat) a, as[j]? = some a → ∃ k u e, ks[j]? = some k ∧ us[j]? = some u ∧ es[j]? = some e ∧ RelV k e.key ∧ RelV u e.val ∧ layP H s.heap.objs.size as ks us es a = some (.frz (tupO [e.key, e.val] 0) (.tup [k, u])) := fun j a ha => by
    have hj : j < es.size := by rw [← hl]; exact (List.getElem?_eq_some_iff.mp ha).1
    obtain ⟨k, h1, h2⟩ := vals_ix vk hj
    obtain ⟨u, h3, h4⟩ := vals_ix vu hj
    refine ⟨k, u, es[j], h1, h3, Array.getElem?_eq_getElem hj, h2, h4, ?_⟩
    unfold layP
    rw [if_neg (fun z => hSn (by rw [← z]; exact List.mem_of_getElem? ha)), idx_of nd ha]
    dsimp only
    rw [h1, h3, Array.getElem?_eq_getElem hj]
  have off : ∀ b, b ∉ as → b ≠ s.heap.objs.size → layP H s.heap.objs.size as ks us es b = H b := fun b h1 h2 => by
    unfold layP; rw [if_neg h2, idx_no h1]
  have atS : layP H s.heap.objs.size as ks us es s.heap.objs.size = some (.lst (as.map V.ref)) := by unfold layP; rw [if_pos rfl]
  have k1 : ∀ b u, H b = some u → layP H s.heap.objs.size as ks us es b = some u := fun b u e => by
    rw [off b (fun z => by rw [new b z] at e; cases e) (fun z => by rw [z, newS] at e; cases e)]; exact e
  have kp : Keep H (layP H s.heap.objs.size as ks us es) := ⟨fun b xs => k1 b _, fun b o u => k1 b _⟩
  have I2 : L2.Inv X pins σ (layP H s.heap.objs.size as ks us es) { s with heap := h', toks := t } := by
    refine lay_many I hk k1 (fun b o e n => ?_) fun b u n q => ?_
    · rw [off b (fun z => absurd (Heap.lt_size e) (Nat.not_lt.mpr (Nat.le_of_lt (hG.above b z)))) (Nat.ne_of_lt (Heap.lt_size e))]; exact n
    · by_cases hb : b ∈ as
      · obtain ⟨j, hj⟩ := List.mem_iff_getElem?.mp hb
        obtain ⟨k, u2, e, f1, f2, f3, f4, f5, f6⟩ := at_ j b hj
        rw [f6] at q
        cases q
        obtain ⟨hjj, g⟩ := hG.pairs j b hj
        have ee : es[j] = e := by rw [Array.getElem?_eq_getElem hjj] at f3; exact Option.some.inj f3
        rw [ee] at g
        refine ⟨g, by show 2 ≤ sizeLine; decide, [e.key, e.val], .cons f4 (.cons f5 .nil), ⟨_, g, rfl, 0, rfl⟩⟩
      · by_cases hb2 : b = s.heap.objs.size
        · rw [hb2] at q ⊢
          rw [atS] at q
          cases q
          refine ⟨by rw [List.length_map, hl]; exact hz, acc.toList, c, by rw [hacc]; exact refs_rel as, ?_⟩
          rw [Array.toArray_toList]
          exact hS
        · rw [off b hb hb2, n] at q; cases q
  have hM2 : HRep X.w ca X.K (mput M s.heap.objs.size (.lst (kvs.map fun q => .tup [q.1, q.2]))) (layP H s.heap.objs.size as ks us es) := by
    intro b o e
    by_cases hb : b = s.heap.objs.size
    · rw [hb, mput_same] at e
      cases e
      rw [hb]
      refine ⟨_, atS, ?_⟩
      have hlen : kvs.length = as.length := by
        have e1 := rk.length
        have e2 := vk.length
        rw [List.length_map] at e1
        rw [List.length_map] at e2
        have e3 : es.toList.length = es.size := by simp
        omega
      have gen : ∀ (n : Nat) (as' : List Addr) (kvs' : List (PV × PV)), as' = as.drop n → kvs' = kvs.drop n → Reps X.K (layP H s.heap.objs.size as ks us es) (kvs'.map fun q => .tup [q.1, q.2]) (as'.map V.ref) := by
        intro n as' 
        induction as' generalizing n with
        | nil =>
          intro kvs' h1 h2
          have : kvs' = [] := by
            rw [h2]
            apply List.drop_eq_nil_of_le
            have := congrArg List.length h1
            simp at this
            omega
          subst this
          exact .nil
        | cons a as' ih =>
          intro kvs' h1 h2
          have hn : n < as.length := by
            have := congrArg List.length h1
            simp at this
            omega
          have ha : as[n]? = some a := by
            have := congrArg (fun l => l[0]?) h1
            simpa using this.symm
          cases kvs' with
          | nil =>
            have := congrArg List.length h2
            simp at this
            omega
          | cons q kvs' =>
            have hq : kvs[n]? = some q := by
              have := congrArg (fun l => l[0]?) h2
              simpa using this.symm
            obtain ⟨k, u, e, f1, f2, f3, f4, f5, f6⟩ := at_ n a ha
            refine .cons (.tup (.inl ⟨_, f6, rfl, rfl⟩) (.cons ?_ (.cons ?_ .nil))) (ih (n + 1) kvs' (by rw [← List.drop_drop, ← h1]; rfl) (by rw [← List.drop_drop, ← h2]; rfl))
            · obtain ⟨p, g1, g2⟩ := (rk.keep kp).get' f1
              rw [List.getElem?_map, hq] at g1
              cases g1; exact g2
            · obtain ⟨p, g1, g2⟩ := (ru.keep kp).get' f2
              rw [List.getElem?_map, hq] at g1
              cases g1; exact g2
      exact gen 0 as kvs rfl rfl
    · rw [mput_ne hb] at e
      obtain ⟨u, hu, _⟩ := (hM b o e).some
      exact (hM b o e).keep kp (by rw [k1 b u hu, hu])
  exact ⟨.ref _, _, I2, rfl, hh _ _ _ _ hM2 (.ref _) kp (hq _ (hM.fresh newS))⟩
end
end Rx
end

section
set_option maxHeartbeats 4000000
/-! Rx: list(d.items()), {**d, k: v} as expressions. -/
namespace Rx
open PySem PySem.Spec PyProof.Rows L2
section
variable {X : Cx} {ca : String → Addr} {a : Expr} {ra : RE} {pos : Pos}
theorem e_lit {p ap cpos : Pos} (hc : X.calm = true) (hg : Gl X "list") (hm : X.mg "list" = none) (hp : plainO a = true) (hl : ap.endLine = cpos.line) (ha : PE X a (liftE (gOf X ca) ra)) :
    PE X (.Call (.Name "list" p) [.Call (.Attribute a "items" ap) [] [] cpos] [] pos) (liftE (gOf X ca) fun g M Q => ra g M fun p M1 => match p with
    | .ref a => match M1 a with
      | some (.dct kvs) => newL (kvs.map fun q => .tup [q.1, q.2]) M1 Q
      | _ => False
    | _ => False) := by
  refine ⟨fun pins s σ H Q I ⟨g, M, Qa, rel, run, hk⟩ => ?_⟩
  refine wpAny_Call_Name_kw (ld_blt I hg hm (u := .type "list") (by decide +kernel) ?_)
  refine PyProof.Rows.callWith_type1 ?_ rfl rfl
  show wpAny _ _ (spliced ((false, eval (.Call (.Attribute a "items" ap) [] [] cpos) X.env) :: backTo pos (starEach [] X.env))) _ _ s
  refine Calls.spliced_cons ?_
  refine wpAny_Call_method (T := "dict") (id := "dict.items") (base_ok hp) rfl (by simpa using hl) PySem.F.plainAttrs_dict PySem.F.slot_dict_items PySem.F.type_dict_items (thn (ha.run pins s σ H (fun v H1 => ∃ a kvs M1, v = .ref a ∧ HRep X.w ca X.K M1 H1 ∧ Keep H H1 ∧ M1 a = some (.dct kvs) ∧ newL (kvs.map fun q => .tup [q.1, q.2]) M1 Qa) I
    (lift_run rel run fun p M1 v H1 rel1 rp k1 q1 => ?_)) fun u s1 ⟨v, H1, I1, ru, b, kvs, M1, ev, hM, k1, e1, q⟩ => ?_)
  · split at q1
    · cases rp
      split at q1
      · rename_i kvs e1
        exact ⟨_, kvs, M1, rfl, rel1.h, k1, e1, q1⟩
      · exact q1.elim
    · exact q1.elim
  · subst ev
    cases ru
    obtain ⟨o, es, ep, ks, us, g1, g2, g3, g5, _, _, _, rk, ru, vk, vu, _, _⟩ := dct_lock I1 hM e1
    obtain ⟨es', h1, h2, h3, h4, h5⟩ := hM.dct e1
    obtain ⟨o', ep', q1, q2, q3⟩ := dct_obj I1 h1
    have eo : o' = o := by rw [q1] at g1; exact Option.some.inj g1
    subst eo
    have ee : es' = es := by rw [q3] at g3; cases g3; rfl
    subst ee
    have hz : es'.size ≤ sizeLine := by
      have e2 := h2.length
      have e3 : es'.toList.length = es'.size := by simp
      have e4 : kvs.length = es'.size := by rw [h2.length]; exact e3
      rw [← e4]; exact h4
    refine ⟨⟨o', g1, g2.1⟩, fun b z => by cases z; exact ⟨o', g1, g2.2.1⟩, ?_⟩
    have I2 : L2.Inv X pins σ H1 { s1 with heap := s1.heap.push { cls := .type "dict_items", data := .fields #[.ref b] } } := I1.kept (t' := s1.toks) fun b ob q => Heap.get?_push_of_some _ q
    refine method_meetsIn F.slot_dict_items F.entry_dict_items rfl (PySem.evalArgs_none ⟨rfl, ⟨o', g1, g2.1⟩, F.args_dict_items_1 _, _, meets_dict_items_raw b g5, ⟨es', ep, ⟨o', g1, g2, g3⟩⟩, ?_⟩)
    refine Calls.spliced_nil ?_
    refine PySem.W.dil_call (I1.ok.hd hc) ⟨_, Heap.get?_push_size _ rfl, rfl, rfl⟩ (Heap.DictRaw.push ⟨o', g1, g2, g3⟩ _) hz fun h' tk acc c as hk2 hS hl hG hacc => ?_
    exact raw_items (t := tk) I2 hM rk ru vk vu hk2 hS hl hG hacc hz q (hands_of hk k1)
end
end Rx
end

section
set_option maxHeartbeats 4000000
/-! Rx: {**d, k: v} as an expression. -/
namespace Rx
open PySem PySem.Spec PyProof.Rows L2
abbrev dObj : Obj := { cls := .type "dict", data := .dict #[] }
section
variable {X : Cx} {ca : String → Addr} {pins : List (Addr × Obj)} {σ : L2.St} {H : Hp} {s : Shared}
theorem pin_ok (I : L2.Inv X pins σ H s) : ∀ p ∈ pins, s.heap.get? p.1 = some p.2 ∧ H p.1 = none ∧ p.1 ≠ X.env.locals ∧ p.1 ∉ X.fs ∧ ∀ v, p.2.data ≠ .cell v := fun p hp => I.pin p (List.mem_append_right _ hp)
theorem pin_more {b : Addr} {o : Obj} (I : L2.Inv X pins σ H s) (h : s.heap.get? b = some o ∧ H b = none ∧ b ≠ X.env.locals ∧ b ∉ X.fs ∧ ∀ v, o.data ≠ .cell v) : L2.Inv X ((b, o) :: pins) σ H s :=
  I.pins_of fun p hp => by
    rcases List.mem_cons.mp hp with rfl | hp
    · exact h
    · exact pin_ok I p hp
theorem pin_less {b : Addr} {o : Obj} (I : L2.Inv X ((b, o) :: pins) σ H s) : L2.Inv X pins σ H s := I.pins_of fun p hp => pin_ok I p (List.mem_cons_of_mem _ hp)
variable {a kx vx : Expr} {ra rk rv : RE} {pos : Pos}
theorem e_dst (ha : PE X a (liftE (gOf X ca) ra)) (hk : PE X kx (liftE (gOf X ca) rk)) (hv : PE X vx (liftE (gOf X ca) rv)) :
    PE X (.Dict [none, some kx] [a, vx] pos) (liftE (gOf X ca) fun g M Q => ra g M fun p M1 => match p with
    | .ref a => match M1 a with
      | some (.dct kvs) => (simKs kvs = true ∧ kvs.length ≤ 1000) ∧ rk g M1 fun q M2 => rv g M2 fun r M3 => simK q = true ∧ newD (dPut kvs q r) M3 Q
      | _ => False
    | _ => False) := by
  refine ⟨fun pins s σ H Q I ⟨g, M, Qa, rel, run, hh⟩ => ?_⟩
  rw [arm_eval_Dict]
  refine wpAny_bind (wpAny_standAt ?_)
  have elist : (evalEachOpt [none, some kx] X.env).zip ((evalEach [a, vx] X.env).map fun v => do let x ← v; standAt pos; pure x) = [(none, do let x ← eval a X.env; standAt pos; pure x), (some (eval kx X.env), do let x ← eval vx X.env; standAt pos; pure x)] := rfl
  rw [elist]
  have sz : X.s_0.heap.objs.size ≤ s.heap.objs.size := I.sz
  have np : H s.heap.objs.size = none := I.hok.fresh (Nat.le_refl _)
  have lp : s.heap.objs.size ≠ X.env.locals := Nat.ne_of_gt I.lt
  have fp : s.heap.objs.size ∉ X.fs := I.nofs (Nat.le_refl _)
  have sysp : (s.heap.objs.size == sysModules) = false := beq_eq_false_iff_ne.mpr (Nat.ne_of_gt I.big)
  have I0 : L2.Inv X pins σ H { s with heap := s.heap.push dObj } := I.kept (t' := s.toks) fun b ob q => Heap.get?_push_of_some _ q
  have I1 : L2.Inv X ((s.heap.objs.size, dObj) :: pins) σ H { s with heap := s.heap.push dObj } := pin_more I0 ⟨Heap.get?_push_size _ rfl, np, lp, fp, fun v e => nomatch e⟩
  refine starDisp (knd := mixKind X.prog X.w) ?_
  refine wpAny_bind (thn (ha.run _ _ σ H (fun v H1 => ∃ b kvs M1, v = .ref b ∧ Rel (gOf X ca) σ H1 g M1 ∧ Keep H H1 ∧ M1 b = some (.dct kvs) ∧ (simKs kvs = true ∧ kvs.length ≤ 1000) ∧ rk g M1 fun q M2 => rv g M2 fun r M3 => simK q = true ∧ newD (dPut kvs q r) M3 Qa) I1
    (lift_run rel run fun p M1 v H1 rel1 rp k1 q1 => ?_)) fun u s1 ⟨v, H1, I2, ru, b, kvs, M1, ev, rel1, k1, e1, ⟨hs, hz⟩, q1⟩ => wpAny_bind (wpAny_standAt (wpAny_pure ?_)))
  · split at q1
    · cases rp
      split at q1
      · rename_i kvs e1
        exact ⟨_, kvs, M1, rfl, rel1, k1, e1, q1⟩
      · exact q1.elim
    · exact q1.elim
  · subst ev
    cases ru
    obtain ⟨zs, vs, t1, t2, t3, t4, t5, t6⟩ := raw_mix I2 rel1.h e1 hs
    obtain ⟨p1, p2, p3, p4, p5⟩ := pin_ok I2 _ (List.mem_cons_self ..)
    have hne : s.heap.objs.size ≠ b := by
      rintro rfl
      obtain ⟨es, h1, _⟩ := rel1.h.dct e1
      rw [p2] at h1; cases h1
    have lenM : vs.length ≤ 100000 := by rw [t6]; exact Nat.le_trans hz (by decide)
    have empty : ∀ {h : Heap} {d : Addr}, h.get? d = some dObj → h.DictOf (mixKind X.prog X.w) d [] := fun {h d} e => ⟨dObj, #[], 0, e, ⟨rfl, rfl, rfl⟩, rfl, fun e he => by simp at he, .nil, List.nodup_nil⟩
    refine ⟨b, vs, rfl, hne, t4, empty p1, t3, lenM, fun h2 hd2 sb2 => ?_⟩
    obtain ⟨o2, es2, ep2, g2, gx2, gd2, gr2⟩ := id hd2
    have ple : s.heap.objs.size < s1.heap.objs.size := Heap.lt_size p1
    have I3 : L2.Inv X pins σ H1 { s1 with heap := h2 } := (pin_less I2).turned (t' := s1.toks) (it := s.heap.objs.size) (fun c o hc e => (sb2.2 c hc).trans e) p2 lp (.inr I.sz) (fun y c hy z => by
      obtain ⟨v0, hv0⟩ := I.cell y c hy
      obtain ⟨ob, hob, _⟩ := hv0
      rw [z] at hob
      exact absurd (Heap.lt_size hob) (Nat.lt_irrefl _)) (fun q hq z => by
      have := (I.pin q hq).1
      rw [z] at this
      exact absurd (Heap.lt_size this) (Nat.lt_irrefl _))
    have hsz2 : h2.objs.size = s1.heap.objs.size := sb2.1
    have I4 : L2.Inv X pins σ H1 { s1 with heap := h2.push dObj } := I3.kept (t' := s1.toks) fun c ob q => Heap.get?_push_of_some _ q
    have nq : H1 h2.objs.size = none := I3.hok.fresh (Nat.le_refl _)
    have lq : h2.objs.size ≠ X.env.locals := Nat.ne_of_gt I3.lt
    have fq : h2.objs.size ∉ X.fs := I3.nofs (Nat.le_refl _)
    have pq : s.heap.objs.size ≠ h2.objs.size := by rw [hsz2]; exact Nat.ne_of_lt ple
    have I5 : L2.Inv X ((h2.objs.size, dObj) :: (s.heap.objs.size, o2) :: pins) σ H1 { s1 with heap := h2.push dObj } := pin_more (pin_more I4 ⟨Heap.get?_push_of_some _ g2, p2, lp, fp, fun v e => by rw [gd2] at e; cases e⟩) ⟨Heap.get?_push_size _ rfl, nq, lq, fq, fun v e => nomatch e⟩
    refine thn (hk.run _ _ σ H1 (fun kv H2 => ∃ q M2, Rel (gOf X ca) σ H2 g M2 ∧ Keep H1 H2 ∧ Rep X.K H2 q kv ∧ rv g M2 fun r M3 => simK q = true ∧ newD (dPut kvs q r) M3 Qa) I5 (lift_run rel1 q1 fun p M2 v H2 rel2 rp k2 q2 => ⟨p, M2, rel2, k2, rp, q2⟩)) fun ku s2 ⟨kv, H2, I6, rku, q, M2, rel2, k2, rq, q2⟩ => ?_
    refine wpAny_bind (thn (hv.run _ _ σ H2 (fun vv H3 => ∃ r M3, HRep X.w ca X.K M3 H3 ∧ Keep H2 H3 ∧ Rep X.K H3 r vv ∧ simK q = true ∧ newD (dPut kvs q r) M3 Qa) I6 (lift_run rel2 q2 fun p M3 v H3 rel3 rp k3 q3 => ⟨p, M3, rel3.h, k3, rp, q3.1, q3.2⟩)) fun vu s3 ⟨vv, H3, I7, rvu, r, M3, hM3, k3, rr, hsq, hnew⟩ => wpAny_bind (wpAny_standAt (wpAny_pure ?_)))
    obtain ⟨k, hkq⟩ := kpv_of hsq
    obtain ⟨a1, a2, a3, a4, a5⟩ := pin_ok I7 (h2.objs.size, dObj) (List.mem_cons_self ..)
    obtain ⟨b1, b2, b3, b4, b5⟩ := pin_ok I7 (s.heap.objs.size, o2) (List.mem_cons_of_mem _ (List.mem_cons_self ..))
    have sysq : (h2.objs.size == sysModules) = false := beq_eq_false_iff_ne.mpr (Nat.ne_of_gt (I3.big))
    refine ⟨k, kpv_is hkq rq rku, ⟨o2, es2, ep2, b1, gx2, gd2, gr2⟩, empty a1, pq, sysq, fun h4 tk hd4 kp4 => ?_⟩
    have I8 := pin_less (pin_less I7)
    have dz : KV (putK zs k vv) (stored vs k vu) := t2.put k rvu
    have hlen : (putK zs k vv).length ≤ sizeLine := by
      have e1 : (putK zs k vv).length = (stored vs k vu).length := Paired.length dz
      have e2 := stored_len (kvs := vs) (k := k) (v := vu)
      have := sizeLine_big'
      omega
    have dn : ((putK zs k vv).map (·.1)).Nodup := putK_keys _ t5
    have notp : ∀ {c : Addr} {u : HO}, H3 c = some u → c ≠ s.heap.objs.size := fun {c u} e z => by rw [z, b2] at e; cases e
    have notq : ∀ {c : Addr} {u : HO}, H3 c = some u → c ≠ h2.objs.size := fun {c u} e z => by rw [z, a2] at e; cases e
    have J : L2.Inv X pins σ (upd H3 s.heap.objs.size (.dK (putK zs k vv))) { s3 with heap := h4, toks := tk } := by
      have s0le : X.s_0.heap.objs.size ≤ s.heap.objs.size := I.sz
      refine I8.call' (ch := [s.heap.objs.size, h2.objs.size]) rfl ⟨fun c o e n _ hc => kp4 c o (fun z => hc (by simp [z])) (fun z => hc (by simp [z])) e, fun c o e n _ hc => ⟨o.slots, kp4 c o (fun z => hc (by simp [z])) (fun z => hc (by simp [z])) e⟩,
        fun c o e n hc => by rw [upd_ne (fun z => hc (by simp [z]))]; exact n, fun c o e hc => ⟨o, kp4 c o (fun z => hc (by simp [z])) (fun z => hc (by simp [z])) e⟩, fun c xs e => by rw [upd_ne (notp e)]; exact e, fun c o u e => by rw [upd_ne (notp e)]; exact e, fun c ps e => ⟨#[], by rw [upd_ne (notp e), e]; simp⟩⟩ (fun c u e => ?_) I8.bare fun c hc => ?_
      · by_cases z : c = s.heap.objs.size
        · rw [z] at e ⊢
          rw [upd_same] at e
          cases e
          exact ⟨hlen, sysp, _, dz, hd4⟩
        · rw [upd_ne z] at e
          refine (I8.hok c u e).stay (fun d v hd y => kp4 d v ?_ ?_ y) (fun d y => by rw [upd_ne (notp y)]; exact y) fun d xs y => by rw [upd_ne (notp y)]; exact y
          · rcases hd with rfl | hd
            · exact z
            · exact notp hd
          · rcases hd with rfl | hd
            · exact notq e
            · exact notq hd
      · have hq2 : s.heap.objs.size ≤ h2.objs.size := Nat.le_of_lt (by rw [hsz2]; exact ple)
        rcases List.mem_cons.mp hc with rfl | hc
        · refine ⟨.inr s0le, lp, fun y c hy z => ?_, fun q hq z => ?_⟩
          · obtain ⟨v0, ob, hob, _⟩ := I.cell y c hy
            rw [z] at hob
            exact absurd (Heap.lt_size hob) (Nat.lt_irrefl _)
          · have := (I.pin q hq).1
            rw [z] at this
            exact absurd (Heap.lt_size this) (Nat.lt_irrefl _)
        · obtain rfl : c = h2.objs.size := by simpa using hc
          refine ⟨.inr (Nat.le_trans s0le hq2), lq, fun y c hy z => ?_, fun q hq z => ?_⟩
          · obtain ⟨v0, ob, hob, _⟩ := I3.cell y c hy
            rw [z] at hob
            exact absurd (Heap.lt_size hob) (Nat.lt_irrefl _)
          · have := (I3.pin q hq).1
            rw [z] at this
            exact absurd (Heap.lt_size this) (Nat.lt_irrefl _)
    have kp3 : Keep H3 (upd H3 s.heap.objs.size (.dK (putK zs k vv))) := .new b2
    have dr : DRel X.K (upd H3 s.heap.objs.size (.dK (putK zs k vv))) (dPut kvs q r) (putK zs k vv) := ((t1.keep (k2.trans k3)).put hkq rr t5).keep kp3
    obtain ⟨es5, J5, hM5, k5⟩ := made_raw J (hM3.new (u := .kdc (dPut kvs q r)) b2 ⟨_, upd_same, dr, dn⟩) mput_same (Nat.le_trans (dPut_length _) (Nat.le_trans (Nat.succ_le_succ hz) (Nat.le_trans (by decide) (Nat.le_of_succ_le sizeLine_big'))))
    rw [mput_mput] at hM5
    exact ⟨.ref _, _, J5, rfl, hh _ _ _ _ hM5 (.ref _) ((((k1.trans k2).trans k3).trans kp3).trans k5) (hnew _ (hM3.fresh b2))⟩
end
end Rx
end

section
set_option maxHeartbeats 4000000
/-! Rx: dicts by keys of any kind: stored into, d.setdefault. -/
namespace Rx
open PySem PySem.Spec PyProof.Rows L2
theorem mput_id {M : MM} {a : Addr} {o : MO} (h : M a = some o) : mput M a o = M := by
  funext b; unfold mput; split
  · rename_i e; rw [e, h]
  · rfl
section
variable {X : Cx} {ca : String → Addr}
/-- a dict's new entry, as the store tells it -/
theorem dct_more {pins : List (Addr × Obj)} {σ : L2.St} {H : Hp} {s : Shared} {M : MM} {a : Addr} {kvs : List (PV × PV)} {es : Array DictEntry} {q x : PV} {y z : V} {u v : Value} {k : NestedKey} (I : L2.Inv X pins σ H s) (hM : HRep X.w ca X.K M H)
    (h1 : H a = some (DctO a es)) (h2 : ERep X.w X.K H kvs es.toList) (h3 : (kvs.map fun q => kk q.1).Nodup) (h5 : (a == sysModules) = false) (hk1 : keyOf q = some k) (hk2 : k.depth ≤ 8) (rq : Rep X.K H q y) (ry : RelV y u) (rx : Rep X.K H x z) (rz : RelV z v) (hsz : kvs.length < sizeLine)
    (hno : ∀ j : Nat, (kvs.map fun q => kk q.1)[j]? ≠ some k) {h' : Heap} {t : Nat} {o' : Obj} {ep' : Nat} (c1 : h'.get? a = some o') (c2 : o'.ExactDict) (c3 : o'.data = .dict (es.push ⟨k.hash X.w, u, v⟩) ep') (c4 : Heap.SameBut a s.heap h') :
    L2.Inv X pins σ (upd H a (DctO a (es.push ⟨k.hash X.w, u, v⟩))) { s with heap := h', toks := t } ∧ HRep X.w ca X.K (mput M a (.dct (dPut kvs q x))) (upd H a (DctO a (es.push ⟨k.hash X.w, u, v⟩))) ∧ Keep H (upd H a (DctO a (es.push ⟨k.hash X.w, u, v⟩))) ∧ dPut kvs q x = kvs ++ [(q, x)] := by
  have kp : ∀ es', Keep H (upd H a (DctO a es')) := fun es' => .set h1 rfl
  have hnot : k ∉ kvs.map (fun q => kk q.1) := fun hm => by
    obtain ⟨j, hj⟩ := List.mem_iff_getElem?.mp hm
    exact hno j hj
  have e := dPut_new (v := x) hk1 h2.all hnot
  refine ⟨dct_write I h1 c1 c2 c3 c4, hM.set (u := .dct (dPut kvs q x)) h1 rfl ?_, kp _, e⟩
  rw [e]
  refine ⟨_, upd_same, ?_, ?_, by rw [List.length_append, List.length_singleton]; omega, h5⟩
  · rw [Array.toList_push]
    exact (h2.keep (kp _)).push hk1 hk2 rfl (rq.keep (kp _)) ry (rx.keep (kp _)) rz
  · rw [List.map_append, List.nodup_append]
    refine ⟨h3, by simp, fun b hb c hc => ?_⟩
    simp only [List.map_cons, List.map_nil, List.mem_singleton, kk, hk1, Option.getD_some] at hc
    subst hc
    exact fun e => hnot (e ▸ hb)
/-- a dict's entry changed, as the store tells it -/
theorem dct_turn {pins : List (Addr × Obj)} {σ : L2.St} {H : Hp} {s : Shared} {M : MM} {a : Addr} {kvs : List (PV × PV)} {es : Array DictEntry} {q x : PV} {z : V} {v : Value} {k : NestedKey} {j : Nat} (I : L2.Inv X pins σ H s) (hM : HRep X.w ca X.K M H)
    (h1 : H a = some (DctO a es)) (h2 : ERep X.w X.K H kvs es.toList) (h3 : (kvs.map fun q => kk q.1).Nodup) (h4 : kvs.length ≤ sizeLine) (h5 : (a == sysModules) = false) (hk1 : keyOf q = some k) (rx : Rep X.K H x z) (rz : RelV z v)
    (hj : (kvs.map fun q => kk q.1)[j]? = some k) {h' : Heap} {t : Nat} {o' : Obj} {ep' : Nat} (c1 : h'.get? a = some o') (c2 : o'.ExactDict) (c3 : o'.data = .dict (es.modify j fun e => { e with val := v }) ep') (c4 : Heap.SameBut a s.heap h') :
    L2.Inv X pins σ (upd H a (DctO a (es.modify j fun e => { e with val := v }))) { s with heap := h', toks := t } ∧ HRep X.w ca X.K (mput M a (.dct (dPut kvs q x))) (upd H a (DctO a (es.modify j fun e => { e with val := v }))) ∧ Keep H (upd H a (DctO a (es.modify j fun e => { e with val := v }))) := by
  have kp : ∀ es', Keep H (upd H a (DctO a es')) := fun es' => .set h1 rfl
  refine ⟨dct_write I h1 c1 c2 c3 c4, hM.set (u := .dct (dPut kvs q x)) h1 rfl ?_, kp _⟩
  rw [dPut_old hk1 h2.all h3 hj]
  refine ⟨_, upd_same, ?_, ?_, by rw [List.length_modify]; exact h4, h5⟩
  · have e : (es.modify j fun e => { e with val := v }).toList = es.toList.modify j fun e => { e with val := v } := by
      obtain ⟨l⟩ := es
      simp
    rw [e]
    exact (h2.keep (kp _)).modify (rx.keep (kp _)) rz j
  · have e : (kvs.modify j fun q => (q.1, x)).map (fun q => kk q.1) = kvs.map fun q => kk q.1 := by
      apply List.ext_getElem?
      intro i
      rw [List.getElem?_map, List.getElem?_map, List.getElem?_modify]
      cases kvs[i]? with
      | none => rfl
      | some z => by_cases hi : j = i <;> simp [hi]
    rw [e]; exact h3
/-- d[k] = v within a display or a comprehension -/
theorem dct_dictSet {pins : List (Addr × Obj)} {σ : L2.St} {H : Hp} {s : Shared} {M : MM} {a : Addr} {kvs : List (PV × PV)} {q x : PV} {y z : V} {u v : Value} {Q : Unit → Shared → Prop} {E : Value → Shared → Prop} (hu : X.A.units + 65 < cLine) (I : L2.Inv X pins σ H s) (hM : HRep X.w ca X.K M H)
    (e1 : M a = some (.dct kvs)) (rq : Rep X.K H q y) (ry : RelV y u) (rx : Rep X.K H x z) (rz : RelV z v) (hko : keyOk q = true) (hsz : kvs.length < sizeLine)
    (h : ∀ H' h' t, L2.Inv X pins σ H' { s with heap := h', toks := t } → HRep X.w ca X.K (mput M a (.dct (dPut kvs q x))) H' → Keep H H' → Q () { s with heap := h', toks := t }) :
    wpAny (model X.prog X.w) X.A (dictSet a u v) Q E s := by
  obtain ⟨es, h1, h2, h3, h4, h5⟩ := hM.dct e1
  obtain ⟨o, ep, g1, g2, g3⟩ := dct_obj I h1
  obtain ⟨k, hk1, hk2⟩ := keyOk_iff hko
  have ez : es.size = kvs.length := by rw [h2.length, Array.length_toList]
  refine dictSet_any (by omega) (key_is I q hk1 rq ry) hk2 g1 g2 g3 (dct_keys I h2 h3) (by omega) (fun hno h' t o' ep' c1 c2 c3 c4 => ?_) fun j hj h' t o' ep' c1 c2 c3 c4 => ?_
  · obtain ⟨J, hM', kp, _⟩ := dct_more (t := t) I hM h1 h2 h3 h5 hk1 hk2 rq ry rx rz hsz hno c1 c2 c3 c4
    exact h _ h' t J hM' kp
  · obtain ⟨J, hM', kp⟩ := dct_turn (t := t) I hM h1 h2 h3 h4 h5 hk1 rx rz hj c1 c2 c3 c4
    exact h _ h' t J hM' kp
/-- the stores of a display, one behind another -/
theorem dctK_store {pins : List (Addr × Obj)} {σ : L2.St} {a : Addr} {E : Value → Shared → Prop} (hu : X.A.units + 65 < cLine) : ∀ (kvs : List (PV × PV)) (zs : List (V × V)) (vs : List (Value × Value)) (acc : List (PV × PV)) (H : Hp) (M : MM) (s : Shared) (Q : PUnit → Shared → Prop),
    L2.Inv X pins σ H s → HRep X.w ca X.K M H → M a = some (.dct acc) → Paired (fun (a : PV × PV) (b : V × V) => Rep X.K H a.1 b.1 ∧ Rep X.K H a.2 b.2) kvs zs → VV zs vs → kvs.all (fun q => keyOk q.1) = true → acc.length + kvs.length ≤ 1000 →
    (∀ H' s', L2.Inv X pins σ H' s' → HRep X.w ca X.K (mput M a (.dct (kvs.foldl (fun d q => dPut d q.1 q.2) acc))) H' → Keep H H' → Q PUnit.unit s') →
    wpAny (model X.prog X.w) X.A (forIn vs PUnit.unit fun (x : Value × Value) (_ : PUnit) => (do dictSet a x.1 x.2; pure (ForInStep.yield PUnit.unit) : Sem (ForInStep PUnit))) Q E s
  | [], _, _, acc, H, M, s, Q, I, hM, e, .nil, .nil, _, _, hq => by
    rw [List.forIn_nil]
    refine wpAny_pure (hq H s I ?_ (.refl H))
    rw [show ([] : List (PV × PV)).foldl (fun d q => dPut d q.1 q.2) acc = acc from rfl, mput_id e]; exact hM
  | (p, x) :: kvs, _, _, acc, H, M, s, Q, I, hM, e, .cons (b := zz) ⟨r1, r2⟩ tr, .cons (b := vv) ⟨v1, v2⟩ tv, hk, hz, hq => by
    rw [List.all_cons, Bool.and_eq_true] at hk
    rw [List.length_cons] at hz
    have h6 : 1000000 ≤ sizeLine := sz_1000000
    rw [List.forIn_cons]
    refine wpAny_bind (wpAny_bind (dct_dictSet hu I hM e r1 v1 r2 v2 hk.1 (by omega) fun H1 h1 t1 I1 hM1 k1 => wpAny_pure ?_))
    have hl := dPut_length (y := p) (z := x) acc
    refine dctK_store hu kvs _ _ (dPut acc p x) H1 _ _ Q I1 hM1 mput_same (L2.Paired.mapP tr fun a b ⟨z1, z2⟩ => ⟨z1.keep k1, z2.keep k1⟩) tv hk.2 (by omega) fun H' s' I' hM' k' => hq H' s' I' ?_ (k1.trans k')
    rw [mput_mput] at hM'; exact hM'
theorem meets_setd {prog : Program} {w : World} {d : Addr} {key v : Value} (hS : (d == sysModules) = false) : MeetsIn prog w (Builtin.«dict.setdefault» ⟨[.ref d, key, v], []⟩) (fun A R s => ∃ (o : Obj) (es : Array DictEntry) (ep : Nat) (ks : List NestedKey) (k : NestedKey),
    (A.in1.units + 8 < cLine ∧ NestedIs s.heap k key ∧ k.depth ≤ 8 ∧ s.heap.get? d = some o ∧ o.ExactDict ∧ o.data = .dict es ep ∧ EKs w s.heap ks es ∧ es.size ≤ sizeLine) ∧
    ((∀ j : Nat, ks[j]? ≠ some k) → ∀ h' t o' ep', h'.get? d = some o' → o'.ExactDict → o'.data = .dict (es.push ⟨k.hash w, key, v⟩) ep' → Heap.SameBut d s.heap h' → R (.ok (.ret v)) { s with heap := h', toks := t }) ∧
    (∀ (j : Nat) e, ks[j]? = some k → es[j]? = some e → ∀ t, R (.ok (.ret e.val)) { s with toks := t })) :=
  .of_wp fun A R s ⟨o, es, ep, ks, k, ⟨b1, b2, b3, b4, b5, b6, b7, b8⟩, hn, ho⟩ => by
    unfold Builtin.«dict.setdefault» Builtin.Dict.keyAndDefault
    refine wpAny_bind (wpAny_bind (wpAny_notOrdered_dict (ty_dict b4 b5) ?_))
    show wpAny _ _ (pure (d, key, some v)) _ _ s
    refine wpAny_pure ?_
    show wpAny _ _ (if (d == sysModules) = true then _ else (dictSetDefault d key v >>= _)) _ _ s
    rw [if_neg (by rw [hS]; exact Bool.false_ne_true)]
    exact wpAny_bind (dictSetDefault_any b1 b2 b3 b4 b5 b6 b7 b8 (fun q h' t o' ep' c1 c2 c3 c4 => wpAny_pure ⟨v, rfl, hn q h' t o' ep' c1 c2 c3 c4⟩) fun j e q1 q2 t => wpAny_pure ⟨e.val, rfl, ho j e q1 q2 t⟩)
/-- d.setdefault(k, x) -/
theorem setd_snd (hu : X.A.units + 65 < cLine) : MtR X "dict.setdefault" (liftM (gOf X ca) (bmA "dict" "setdefault")) := by
  intro pins s σ H x xs v us Q I rx rs ⟨p, ps, M, Qa, hM, rp, rps, hr, hk⟩
  unfold bmA at hr
  split at hr <;> first
    | (exfalso; exact hr)
    | skip
  all_goals (try contradiction)
  rename_i a kq xq _ _
  cases rp
  cases rps with
  | cons r1 r2 =>
  cases r2 with
  | cons r2 r3 =>
  cases r3
  cases rx
  cases rs with
  | cons w1 w2 =>
  cases w2 with
  | cons w2 w3 =>
  cases w3
  split at hr
  · rename_i kvs e1
    obtain ⟨hko, hz, hr⟩ := hr
    obtain ⟨es, h1, h2, h3, h4, h5⟩ := hM.dct e1
    obtain ⟨o, ep, g1, g2, g3⟩ := dct_obj I h1
    obtain ⟨k, hk1, hk2⟩ := keyOk_iff hko
    have ez : es.size = kvs.length := by rw [h2.length, Array.length_toList]
    refine call_meetsIn F.slot_dict_setdefault (ty_dict g1 g2) F.entry_dict_setdefault (F.args_dict_setdefault_3 _ _ _) (meets_setd h5) ⟨o, es, ep, _, k, ⟨?_, key_is I kq hk1 r1 w1, hk2, g1, g2, g3, dct_keys I h2 h3, by omega⟩, fun hno h' t o' ep' c1 c2 c3 c4 => ?_, fun j e hj he t => ?_⟩
    · show X.A.units + 1 + 8 < cLine
      omega
    · obtain ⟨J, hM', kp, ed⟩ := dct_more (t := t) I hM h1 h2 h3 h5 hk1 hk2 r1 w1 r2 w2 hz hno c1 c2 c3 c4
      have hnot : k ∉ kvs.map (fun q => kk q.1) := fun hm => by
        obtain ⟨j, hj⟩ := List.mem_iff_getElem?.mp hm
        exact hno j hj
      have hg : dGet kvs kq = none := by
        have := dGet_isSome hk1 h2.all
        cases z : dGet kvs kq with
        | none => rfl
        | some y =>
          rw [z] at this
          exact absurd (of_decide_eq_true this.symm) hnot
      rw [hg] at hr
      rw [ed] at hM'
      exact ⟨_, _, J, w2, hk _ _ _ _ hM' (r2.keep kp) kp hr⟩
    · cases z : dGet kvs kq with
      | none =>
        have hm : k ∈ kvs.map (fun q => kk q.1) := List.mem_of_getElem? hj
        exact absurd hm (dGet_none hk1 h2.all z)
      | some y =>
        rw [z] at hr
        obtain ⟨j', p', j1, j2⟩ := dGet_some hk1 h2.all z
        have ej : j' = j := by
          exact (List.getElem?_inj (List.getElem?_eq_some_iff.mp j2).1 h3).mp (j2.trans hj.symm)
        subst ej
        obtain ⟨_, _, xv, _, _, _, _, _, c6, c7⟩ := h2.at_ j1 (by rw [Array.getElem?_toList]; exact he)
        exact ⟨xv, H, I.tok t, c7, hk _ M xv H hM c6 (.refl H) hr⟩
  · exact hr.elim
end
end Rx
end

section
set_option maxHeartbeats 4000000
/-! Rx: calls of built-in functions, methods of built-in types, isinstance, dict displays. -/
namespace Rx
open PySem PySem.Spec PyProof.Rows L2
section
variable {Γ : Gm} {ca : String → Addr} {xk : XW} {N : List Str} {sc : Scope} {F : Str → Bool} {X : Cx} {a e : Expr} {es : List Expr} {ra : RE} {r : RA} {pos ap p : Pos}
theorem cb_of {rr : List PV → MM → KV1 → Prop} {σ : L2.St} {H : Hp} {Q : VK} (h : liftE (gOf X ca) (fun g M Q => r g M fun ps M1 => rr ps M1 Q) σ H Q) : tCB (liftC (gOf X ca) rr) (liftA (gOf X ca) r) σ H Q := by
  obtain ⟨g, M, Qa, rel, run, hk⟩ := h
  exact liftA_run rel run fun ps M1 vs H1 rel1 rp k1 q1 => ⟨ps, M1, Qa, rel1.h, rp, q1, hands_of hk k1⟩
theorem e_biB {f : String} (hc : CallR X (.builtin f) (liftC (gOf X ca) (biA f))) (hg : Gl X (so f)) (hm : X.mg (so f) = none) (hv : bootBuiltins (so f) = some (.builtin f)) (hn : nmOk (so f) = true) (hs : es.all notStar = true) (he : es.isEmpty = false) (ha : PA X es (liftA (gOf X ca) r)) :
    PE X (.Call (.Name (so f) p) es [] pos) (liftE (gOf X ca) fun g M Q => r g M fun ps M1 => biA f ps M1 Q) := by
  cases es with
  | nil => cases he
  | cons e es =>
    rw [List.all_cons] at hs
    exact PE.imp (pe_callB hc hg hm hv ha (nm_name hn) (nm_dbg hn) (star_ok (and1 hs) _) (stars_ok (and2 hs) _ _)) fun σ H Q h => cb_of h
theorem e_biT {f : String} (hc : CallR X (.type f) (liftC (gOf X ca) (biA f))) (hg : Gl X (so f)) (hm : X.mg (so f) = none) (hv : bootBuiltins (so f) = some (.type f)) (hn : nmOk (so f) = true) (hs : es.all notStar = true) (he : es.isEmpty = false) (ha : PA X es (liftA (gOf X ca) r)) :
    PE X (.Call (.Name (so f) p) es [] pos) (liftE (gOf X ca) fun g M Q => r g M fun ps M1 => biA f ps M1 Q) := by
  cases es with
  | nil => cases he
  | cons e es =>
    rw [List.all_cons] at hs
    exact PE.imp (pe_callTy hc hg hm hv ha (nm_name hn) (nm_dbg hn) (star_ok (and1 hs) _) (stars_ok (and2 hs) _ _)) fun σ H Q h => cb_of h
theorem biCalls_sub : ∀ f ∈ biCalls, f ∈ biNames := by decide
theorem e_bi (K : XOk Γ ca xk N sc F X) {f : String} (hf : biCalls.contains f = true) (hg : glb sc (so f) = true) (hn : nmOk (so f) = true) (hs : es.all notStar = true) (he : es.isEmpty = false) (ha : PA X es (liftA (gOf X ca) r)) :
    PE X (.Call (.Name (so f) p) es [] pos) (liftE (gOf X ca) fun g M Q => r g M fun ps M1 => biA f ps M1 Q) := by
  have hmem : f ∈ biCalls := by simpa using hf
  have hm := K.kn.bi f (biCalls_sub f hmem)
  have g := gl_ok K.eS hg
  simp only [biCalls, List.mem_cons, List.not_mem_nil, or_false] at hmem
  rcases hmem with rfl | rfl | rfl | rfl | rfl | rfl | rfl | rfl | rfl | rfl | rfl
  · exact e_biB len_snd g hm (by decide +kernel) hn hs he ha
  · exact e_biT (list_snd K.calm) g hm (by decide +kernel) hn hs he ha
  · exact e_biT tuple_snd g hm (by decide +kernel) hn hs he ha
  · exact e_biT int_snd g hm (by decide +kernel) hn hs he ha
  · exact e_biB (min_snd K.calm) g hm (by decide +kernel) hn hs he ha
  · exact e_biB (max_snd K.calm) g hm (by decide +kernel) hn hs he ha
  · exact e_biB (all_snd K.calm) g hm (by decide +kernel) hn hs he ha
  · exact e_biB (any_snd K.calm) g hm (by decide +kernel) hn hs he ha
  · exact e_biB (sorted_snd K.calm (by have := K.kn.un; omega)) g hm (by decide +kernel) hn hs he ha
  · exact e_biT str_snd g hm (by decide +kernel) hn hs he ha
  · exact e_biT (dict_snd K.calm) g hm (by decide +kernel) hn hs he ha
/-! ### methods of built-in types -/
theorem bm_at {T id : String} {m : Str} {rr : PV → List PV → MM → KV1 → Prop} (pa : PlainAttrs T) (slot : Slot T m id) (hty : typeOf (.builtin id) = pure (.type "method_descriptor")) (hmt : MtR X id (liftM (gOf X ca) rr))
    (h1 : plainO a = true) (h2 : ap.endLine = pos.line) (h3 : es.length < 29) (hs : es.all notStar = true) (ho : PE X a (liftE (gOf X ca) ra)) (ha : PA X es (liftA (gOf X ca) r)) :
    PE X (.Call (.Attribute a m ap) es [] pos) (liftE (gOf X ca) fun g M Q => ra g M fun p M1 => tyA T p M1 ∧ r g M1 fun ps M2 => rr p ps M2 Q) := by
  refine ⟨fun pins s σ H Q I h => wpAny_Call_method_late (base_ok h1) (few_ok h3 hs) (by simpa using h2) rfl ?_⟩
  obtain ⟨g, M, Qa, rel, run, hk⟩ := h
  refine thn (ho.run pins s σ H (fun v H1 => ∃ p M1, Rel (gOf X ca) σ H1 g M1 ∧ Rep X.K H1 p v ∧ Keep H H1 ∧ tyA T p M1 ∧ r g M1 fun ps M2 => rr p ps M2 Qa) I (lift_run rel run fun p M1 v H1 rel1 rp k1 q1 => ⟨p, M1, rel1, rp, k1, q1⟩)) fun u s1 ⟨v, H1, I1, ru, p, M1, rel1, rp, k1, ty, q1⟩ => ?_
  obtain ⟨t1, t2⟩ := ty_snd I1 rel1.h rp ru ty
  refine ⟨T, id, pa, slot, hty, t1, t2, Calls.callWith_builtin (stars_ok hs _ _) ?_⟩
  refine args_at (Q := fun vs H2 => liftM (gOf X ca) rr v vs H2 Q) ha hs I1 (liftA_run rel1 q1 fun ps M2 vs H2 rel2 rs k2 q2 => ⟨p, ps, M2, Qa, rel2.h, rp.keep k2, rs, q2, hands_of hk (k1.trans k2)⟩) fun us s2 vs H2 I2 rv q2 => ?_
  exact hmt pins s2 σ H2 v vs u us Q I2 ru rv q2
theorem e_bm {T m : String} (hu : X.A.units + 65 < cLine) (hf : bmCalls.contains (T, m) = true) (h1 : plainO a = true) (h2 : ap.endLine = pos.line) (h3 : es.length < 29) (hs : es.all notStar = true) (ho : PE X a (liftE (gOf X ca) ra)) (ha : PA X es (liftA (gOf X ca) r)) :
    PE X (.Call (.Attribute a (so m) ap) es [] pos) (liftE (gOf X ca) fun g M Q => ra g M fun p M1 => tyA T p M1 ∧ r g M1 fun ps M2 => bmA T m p ps M2 Q) := by
  have hmem : (T, m) ∈ bmCalls := by simpa using hf
  simp only [bmCalls, List.mem_cons, List.not_mem_nil, or_false, Prod.mk.injEq] at hmem
  rcases hmem with ⟨rfl, rfl⟩ | ⟨rfl, rfl⟩ | ⟨rfl, rfl⟩ | ⟨rfl, rfl⟩ | ⟨rfl, rfl⟩ | ⟨rfl, rfl⟩ | ⟨rfl, rfl⟩ | ⟨rfl, rfl⟩ | ⟨rfl, rfl⟩ | ⟨rfl, rfl⟩ | ⟨rfl, rfl⟩
  · exact bm_at PySem.F.plainAttrs_list PySem.F.slot_list_append PySem.F.type_list_append append_snd h1 h2 h3 hs ho ha
  · exact bm_at PySem.F.plainAttrs_list PySem.F.slot_list_extend PySem.F.type_list_extend extend_snd h1 h2 h3 hs ho ha
  · exact bm_at PySem.F.plainAttrs_list PySem.F.slot_list_reverse PySem.F.type_list_reverse reverse_snd h1 h2 h3 hs ho ha
  · exact bm_at PySem.F.plainAttrs_list PySem.F.slot_list_clear PySem.F.type_list_clear clear_snd h1 h2 h3 hs ho ha
  · exact bm_at PySem.F.plainAttrs_list PySem.F.slot_list_pop PySem.F.type_list_pop pop_snd h1 h2 h3 hs ho ha
  · exact bm_at PySem.F.plainAttrs_tuple PySem.F.slot_tuple_index PySem.F.type_tuple_index index_snd h1 h2 h3 hs ho ha
  · exact bm_at PySem.F.plainAttrs_str PySem.F.slot_str_split PySem.F.type_str_split split_snd h1 h2 h3 hs ho ha
  · exact bm_at PySem.F.plainAttrs_str PySem.F.slot_str_strip PySem.F.type_str_strip strip_snd h1 h2 h3 hs ho ha
  · exact bm_at PySem.F.plainAttrs_str PySem.F.slot_str_join PySem.F.type_str_join join_snd h1 h2 h3 hs ho ha
  · exact bm_at PySem.F.plainAttrs_dict PySem.F.slot_dict_clear PySem.F.type_dict_clear dclear_snd h1 h2 h3 hs ho ha
  · exact bm_at PySem.F.plainAttrs_dict PySem.F.slot_dict_setdefault PySem.F.type_dict_setdefault (setd_snd hu) h1 h2 h3 hs ho ha
/-! ### isinstance -/
def isiB (a t : String) : Bool := (a == t) || (a == "bool" && t == "int")
theorem isi_kit : ∀ t ∈ isiT, ∀ a ∈ (["NoneType", "bool", "int", "str", "tuple", "list", "dict"] : List String), kitB a t = some (isiB a t) := by decide +kernel
theorem isi_tab : ∀ t ∈ isiT, false = isiB "NoneType" t ∧ (decide (t = "bool") || decide (t = "int")) = isiB "bool" t ∧ decide (t = "int") = isiB "int" t ∧ decide (t = "str") = isiB "str" t ∧ decide (t = "tuple") = isiB "tuple" t ∧ decide (t = "list") = isiB "list" t ∧ decide (t = "dict") = isiB "dict" t := by decide
theorem isi_snd {t : String} (ht : isiT.contains t = true) {pins : List (Addr × Obj)} {σ : L2.St} {H : Hp} {s : Shared} {M : MM} {q : PV} {v : V} {u : Value} {Qa : Bool → Prop} {Q : VK} (I : L2.Inv X pins σ H s) (hM : HRep X.w ca X.K M H) (rp : Rep X.K H q v) (ru : RelV v u) (h : isiA t q M Qa)
    (hk : ∀ b, Qa b → Q (.bl b) H) : wpAny (model X.prog X.w) X.A (call (.builtin "isinstance") [u, .type t]) (EP X pins σ Q) X.xe s := by
  have hmem : t ∈ isiT := by simpa using ht
  have fin : ∀ {T : String} {P : Heap → Prop}, T ∈ (["NoneType", "bool", "int", "str", "tuple", "list", "dict"] : List String) → PySem.W.KitX X.K u (.type T) P → P s.heap → u ≠ .builtin "__main__.__loader__#opaque" → Qa (isiB T t) → wpAny (model X.prog X.w) X.A (call (.builtin "isinstance") [u, .type t]) (EP X pins σ Q) X.xe s :=
    fun hT Z p hx q => PySem.W.kia_one Z I.kIn p (kit_ty (isi_kit t hmem _ hT)) hx fun tk => ⟨.bl (isiB _ t), H, I.tok tk, rfl, hk _ q⟩
  have nt : ∀ a, (Value.ref a) ≠ .builtin "__main__.__loader__#opaque" := fun a z => nomatch z
  have key : ∀ {b : Bool} {T : String}, T ∈ (["NoneType", "bool", "int", "str", "tuple", "list", "dict"] : List String) → Qa b → b = isiB T t → Qa (isiB T t) := fun _ q e => e ▸ q
  obtain ⟨e1, e2, e3, e4, e5, e6, e7⟩ := isi_tab t hmem
  unfold isiA at h
  split at h
  · cases rp; cases (show u = Value.none from ru)
    exact fin (by decide) PySem.W.kitx_none True.intro (fun z => nomatch z) (e1 ▸ h)
  · cases rp; cases (show u = Value.bool _ from ru)
    exact fin (by decide) PySem.W.kitx_bool True.intro (fun z => nomatch z) (e2 ▸ h)
  · cases rp; obtain ⟨k, rfl⟩ := (show ∃ k, u = Value.int _ k from ru)
    exact fin (by decide) PySem.W.kitx_int True.intro (fun z => nomatch z) (e3 ▸ h)
  · cases rp; obtain ⟨k, rfl⟩ := (show ∃ k, u = Value.str _ k from ru)
    exact fin (by decide) PySem.W.kitx_str True.intro (fun z => nomatch z) (e4 ▸ h)
  · cases rp with
    | tup tt rs =>
      have tx := (ty_snd (t := "tuple") I hM (.tup tt rs) ru rfl).1
      cases (show u = Value.ref _ from ru)
      exact fin (by decide) PySem.W.kitx_tuple tx (nt _) (e5 ▸ h)
  · cases rp with
    | kd g1 g2 g3 g4 kr =>
      cases (show u = Value.ref _ from ru)
      exact fin (by decide) PySem.W.kitx_dict ⟨_, I.kIn _ _ g1, g2.1⟩ (nt _) (e7 ▸ h)
  · cases rp with
    | xl tt rs =>
      cases (show u = Value.ref _ from ru)
      obtain ⟨its, _, pl, _⟩ := I.list tt.sq
      exact fin (by decide) PySem.W.kitx_list pl.isList.typeIs (nt _) (e6 ▸ h)
  · cases rp
    cases (show u = Value.ref _ from ru)
    split at h
    · rename_i ps e1
      obtain ⟨vs, h1, rs⟩ := hM.lst e1
      obtain ⟨its, _, pl, _⟩ := I.list (SqL.of h1)
      exact fin (by decide) PySem.W.kitx_list pl.isList.typeIs (nt _) (e6 ▸ h)
    · rename_i kvs e1
      obtain ⟨es, h1, h2, h3, h4, h5⟩ := hM.dct e1
      obtain ⟨o, ep, g1, g2, g3⟩ := dct_obj I h1
      exact fin (by decide) PySem.W.kitx_dict ⟨o, g1, g2.1⟩ (nt _) (e7 ▸ h)
    · exact h.elim
theorem isiT_boot : ∀ t ∈ isiT, bootBuiltins (so t) = some (.type t) ∧ t ∈ biNames := by decide +kernel
theorem e_isi (K : XOk Γ ca xk N sc F X) {t : String} {p2 : Pos} (ht : isiT.contains t = true) (hg : glb sc (so "isinstance") = true) (hgt : glb sc (so t) = true) (hn : nmOk (so t) = true) (hs : notStar a = true) (ha : PE X a (liftE (gOf X ca) ra)) :
    PE X (.Call (.Name (so "isinstance") p) [a, .Name (so t) p2] [] pos) (liftE (gOf X ca) fun g M Q => ra g M fun p M1 => isiA t p M1 fun b => Q (.bl b) M1) := by
  have hb := isiT_boot t (by simpa using ht)
  have hz : PE X (.Name (so t) p2) (tC (.ty t)) := pe_bltn (gl_ok K.eS hgt) (K.kn.bi t hb.2) hb.1 rfl (nm_name hn) (nm_dbg hn)
  let rr : List V → Hp → VK → Prop := fun vs H Q => ∃ q v M Qa, vs = [v, .ty t] ∧ HRep X.w ca X.K M H ∧ Rep X.K H q v ∧ isiA t q M Qa ∧ ∀ b, Qa b → Q (.bl b) H
  have hc : CallR X (.builtin "isinstance") rr := by
    intro pins s σ H xs us Q I r h
    obtain ⟨q, v, M, Qa, rfl, hM, rp, h, hk⟩ := h
    obtain ⟨u1, u2, rfl, r1, r2⟩ := vals2 r
    cases (show u2 = Value.type t from r2)
    exact isi_snd ht I hM rp r1 h hk
  refine PE.imp (pe_callB hc (gl_ok K.eS hg) (K.kn.bi "isinstance" (by decide)) PyProof.Rows.boot_isinstance (pa_cons ha (pa_cons hz pa_nil rfl) (star_ok hs _)) (by decide) (by decide) (star_ok hs _) rfl) fun σ H Q h => ?_
  obtain ⟨g, M, Qa, rel, run, hk⟩ := h
  exact lift_run rel run fun q M1 v H1 rel1 rp k1 q1 => ⟨q, v, M1, _, rfl, rel1.h, rp, q1, fun b hq => (hands_of hk k1).bl rel1.h hq⟩
/-! ### isinstance of an own class -/
theorem isc_snd (K : XOk Γ ca xk N sc F X) {c : String} (hc : Γ.cl.contains c = true) {pins : List (Addr × Obj)} {σ : L2.St} {H : Hp} {s : Shared} {M : MM} {q : PV} {v : V} {u : Value} {Qa : Bool → Prop} {Q : VK} (I : L2.Inv X pins σ H s) (hM : HRep X.w ca X.K M H) (rp : Rep X.K H q v) (ru : RelV v u) (h : iscA Γ c q M Qa)
    (hk : ∀ b, Qa b → Q (.bl b) H) : wpAny (model X.prog X.w) X.A (call (.builtin "isinstance") [u, .ref (ca c)]) (EP X pins σ Q) X.xe s := by
  obtain ⟨C, D⟩ := K.kn.cl c hc
  have fin : ∀ {T : String} {P : Heap → Prop}, T ∈ (["NoneType", "bool", "int", "str", "tuple", "list", "dict"] : List String) → PySem.W.KitX X.K u (.type T) P → P s.heap → u ≠ .builtin "__main__.__loader__#opaque" → Qa false → wpAny (model X.prog X.w) X.A (call (.builtin "isinstance") [u, .ref (ca c)]) (EP X pins σ Q) X.xe s :=
    fun hT Z p hx q => PySem.W.kia_one Z I.kIn p (C.kit _ hT) hx fun tk => ⟨.bl false, H, I.tok tk, rfl, hk _ q⟩
  have nt : ∀ a, (Value.ref a) ≠ .builtin "__main__.__loader__#opaque" := fun a z => nomatch z
  unfold iscA at h
  split at h
  · cases rp; cases (show u = Value.none from ru)
    exact fin (by decide) PySem.W.kitx_none True.intro (fun z => nomatch z) h
  · cases rp; cases (show u = Value.bool _ from ru)
    exact fin (by decide) PySem.W.kitx_bool True.intro (fun z => nomatch z) h
  · cases rp; obtain ⟨k, rfl⟩ := (show ∃ k, u = Value.int _ k from ru)
    exact fin (by decide) PySem.W.kitx_int True.intro (fun z => nomatch z) h
  · cases rp; obtain ⟨k, rfl⟩ := (show ∃ k, u = Value.str _ k from ru)
    exact fin (by decide) PySem.W.kitx_str True.intro (fun z => nomatch z) h
  · cases rp with
    | tup tt rs =>
      have tx := (ty_snd (t := "tuple") I hM (.tup tt rs) ru rfl).1
      cases (show u = Value.ref _ from ru)
      exact fin (by decide) PySem.W.kitx_tuple tx (nt _) h
  · cases rp
    cases (show u = Value.ref _ from ru)
    split at h
    · rename_i ps e1
      obtain ⟨vs, h1, rs⟩ := hM.lst e1
      obtain ⟨its, _, pl, _⟩ := I.list (SqL.of h1)
      exact fin (by decide) PySem.W.kitx_list pl.isList.typeIs (nt _) h
    · rename_i kvs e1
      obtain ⟨es, h1, h2, h3, h4, h5⟩ := hM.dct e1
      obtain ⟨o, ep, g1, g2, g3⟩ := dct_obj I h1
      exact fin (by decide) PySem.W.kitx_dict ⟨o, g1, g2.1⟩ (nt _) h
    · rename_i d fs e1
      obtain ⟨hd, h⟩ := h
      obtain ⟨E, _⟩ := K.kn.cl d hd
      obtain ⟨dx, gs, hH, _⟩ := hM _ _ e1
      obtain ⟨mA, J, _⟩ := ins_get I.hok hH
      obtain ⟨od, J, _⟩ := J.look
      exact PySem.W.kia_one (PySem.W.kitx_own E.hg E.hd E.ha E.hn E.tk E.mr) I.kIn J (D d hd) (nt _) fun tk => ⟨.bl _, H, I.tok tk, rfl, hk _ h⟩
    · exact h.elim
  · exact h.elim
theorem e_isc (K : XOk Γ ca xk N sc F X) {t : String} {p2 : Pos} (hg : glb sc (so "isinstance") = true) (hgt : glb sc (so t) = true) (hn : nmOk (so t) = true) (hs : notStar a = true) (ha : PE X a (liftE (gOf X ca) ra)) :
    PE X (.Call (.Name (so "isinstance") p) [a, .Name (so t) p2] [] pos) (liftE (gOf X ca) fun g M Q => Γ.cl.contains t = true ∧ ra g M fun p M1 => iscA Γ t p M1 fun b => Q (.bl b) M1) := by
  by_cases hc : Γ.cl.contains t = true
  · have C := (K.kn.cl t hc).1
    have hz : PE X (.Name (so t) p2) (tC (.ref (ca t))) := pe_glob (gl_ok K.eS hgt) C.mg rfl (nm_dbg hn)
    let rr : List V → Hp → VK → Prop := fun vs H Q => ∃ q v M Qa, vs = [v, .ref (ca t)] ∧ HRep X.w ca X.K M H ∧ Rep X.K H q v ∧ iscA Γ t q M Qa ∧ ∀ b, Qa b → Q (.bl b) H
    have hcr : CallR X (.builtin "isinstance") rr := by
      intro pins s σ H xs us Q I r h
      obtain ⟨q, v, M, Qa, rfl, hM, rp, h, hk⟩ := h
      obtain ⟨u1, u2, rfl, r1, r2⟩ := vals2 r
      cases (show u2 = Value.ref _ from r2)
      exact isc_snd K hc I hM rp r1 h hk
    refine PE.imp (pe_callB hcr (gl_ok K.eS hg) (K.kn.bi "isinstance" (by decide)) PyProof.Rows.boot_isinstance (pa_cons ha (pa_cons hz pa_nil rfl) (star_ok hs _)) (by decide) (by decide) (star_ok hs _) rfl) fun σ H Q h => ?_
    obtain ⟨g, M, Qa, rel, run, hk⟩ := h
    exact lift_run rel run.2 fun q M1 v H1 rel1 rp k1 q1 => ⟨q, v, M1, _, rfl, rel1.h, rp, q1, fun b hq => (hands_of hk k1).bl rel1.h hq⟩
  · exact ⟨fun pins s σ H Q I ⟨g, M, Qa, rel, run, hk⟩ => absurd run.1 hc⟩
/-! ### == by an own __eq__ -/
theorem passes_none2 {E : XK} (h : ∀ c d H, ¬ E c d H) : Passes (L2.CX X.prog X.w) X E := fun pins σ H s e s' I ⟨a, B, H', cls, d, _, _, _, _, _, _, _, w⟩ => (h _ _ _ w).elim
theorem eqO_snd (K : XOk Γ ca xk N sc F X) : OpR X (compareOp .Eq) (lift2 (gOf X ca) (eqOA Γ)) := by
  intro pins s σ H x y v u Q I rx ry ⟨p, q, M, Qa, hM, rp, rq, hr, hk⟩
  unfold eqOA at hr
  split at hr
  · rename_i a0
    split at hr
    · rename_i c fs e1
      obtain ⟨hc, hq, hm⟩ := hr
      obtain ⟨C, _⟩ := K.kn.cl c hc
      split at hm
      · rename_i n k e2
        obtain ⟨hn, run⟩ := hm
        obtain ⟨j, f, fd, ps, Fn, hroom, mt, hb⟩ := K.kn.mt c "__eq__" n k e2
        cases rp
        cases rx
        obtain ⟨dx, gs, hH, _⟩ := hM _ _ e1
        obtain ⟨mA, J, _⟩ := ins_get I.hok hH
        obtain ⟨od, J, _⟩ := J.look
        obtain ⟨m, hF⟩ := I.fr
        have tb : ∃ tb, PySem.W.Looks (model X.prog X.w) s.heap (typeOf u) tb ∧ PySem.W.notFirst X.K (ca c) tb = true := by
          split at hq
          · cases rq
            cases ry
            split at hq
            · rename_i d fs2 e3
              subst hq
              obtain ⟨dx2, gs2, hH2, _⟩ := hM _ _ e3
              obtain ⟨mA2, J2, _⟩ := ins_get I.hok hH2
              obtain ⟨od2, J2, _⟩ := J2.look
              exact ⟨_, J2.type, by simp [PySem.W.notFirst]⟩
            · rename_i kvs e3
              obtain ⟨es, h1, h2, h3, h4, h5⟩ := hM.dct e3
              obtain ⟨o, ep, g1, g2, g3⟩ := dct_obj I h1
              exact ⟨_, PySem.W.kitAt_ty _ _ ⟨o, g1, g2.1⟩, C.nf.1⟩
            · rename_i ps3 e3
              obtain ⟨vs, h1, rs⟩ := hM.lst e3
              obtain ⟨its, _, pl, _⟩ := I.list (SqL.of h1)
              exact ⟨_, PySem.W.kitAt_ty _ _ pl.isList.typeIs, C.nf.2⟩
            · exact hq.elim
          · exact hq.elim
        obtain ⟨tb, t1, t2⟩ := tb
        show wpAny (model X.prog X.w) X.A (richCompare .Eq (.ref a0) u) (EP X pins σ Q) X.xe s
        refine PySem.W.cmp_K (op := .Eq) (hroom.mono (Nat.le_succ _)).units0 hF I.ok.mod.kin J t1 t2 mt.at_ mt.fn ?_
        have hsp : spOf (gOf X ca) n k [.ref a0, y] H (fun z H' => ∃ b, z = .bl b ∧ Q (.bl b) H') (fun _ _ _ => False) :=
          ⟨by rw [hn]; rfl, [.ref a0, q], M, _, _, hM, .cons (.ref a0) (.one rq), run, fun p' M' v' H' hM' rp' k' q' => by
            dsimp only at q'
            split at q'
            · cases rp'
              exact ⟨_, rfl, hk _ _ _ _ hM' (.bl _) k' q'⟩
            · exact q'.elim, fun _ _ _ _ _ _ _ _ z => z⟩
        have e0 := I.env0
        have hl := Fn.len _ _ _ _ hsp
        have r2 : Vals [V.ref a0, y] [Value.ref a0, u] := .cons rfl (.cons ry .nil)
        refine wpAny_call (codeAny_mono (Fn.run X.A X.stack s H ⟨[.ref a0, u], []⟩ _ _ _ _ (hroom.mono (Nat.le_succ _)) e0 (by
          have := hb s [.ref a0, u] I.kIn (by simpa using hl)
          simpa using this) r2 hsp) fun r s' hq' => ?_)
        cases r with
        | error e => exact (passes_none2 (X := X) fun _ _ _ z => z) pins σ H s e s' I hq'
        | ok fl =>
          cases fl with
          | ret w =>
            obtain ⟨z, H', I', rz, ⟨b, ez, qb⟩⟩ := I.after hq'
            subst ez
            cases rz
            exact ⟨.bl b, H', I', rfl, qb⟩
          | next => exact False.elim hq'
          | brk => exact False.elim hq'
          | cont => exact False.elim hq'
      · exact hm.elim
    · exact hr.elim
  · exact hr.elim
/-! ### != by an own __eq__ -/
theorem cmp_ne {prog : Program} {w : World} {A : Around} {E : Value → Shared → Prop} {s : Shared} {K : PySem.W.Frag} {x C L f : Addr} {h₀ : Heap} {m : Str → Option Value} {ox : Obj} {od : Option Obj} {b tb : Value} {Q : Value → Shared → Prop} (hu : A.units + 1 < cLine) (F : PyProof.Rows.Fr h₀ L s.heap m) (X₀ : K.In h₀)
    (I : PySem.W.InstAt s.heap x ox C od) (hb : PySem.W.Looks (model prog w) s.heap (typeOf b) tb) (hn : PySem.W.notFirst K C tb = true) (hs : PySem.W.findIn K (.ref C) "__ne__" = some (some (.builtin "object.__ne__"))) (he : PySem.W.findIn K (.ref C) "__eq__" = some (some (.ref f))) (hf : PySem.W.isFn K (.ref f) = true)
    (hob : PySem.W.mroIn K C (.type "object") = some true)
    (h : wpAny (model prog w) A.in1 (call (.ref f) [.ref x, b]) (fun v s' => ∃ r, v = .bool r ∧ Q (.bool (!r)) s') E s) : wpAny (model prog w) A (richCompare .NotEq (.ref x) b) Q E s := by
  have X := X₀.keeps F.keep
  have sub : PySem.W.Looks (model prog w) s.heap (isInstance (.ref x) (.type "object")) true := I.type.andThen (PySem.W.looks_mroIn X hob)
  have body : wpAny (model prog w) A.in1 (Builtin.«object.__ne__» ⟨[.ref x, b], []⟩) (fun fin s' => ∃ r, fin = .done (.ret (.bool (!r))) ∧ Q (.bool (!r)) s') E s := by
    unfold Builtin.«object.__ne__»
    refine wpAny_bind (wpAny_of_eq (a := ((Value.ref x : Value), [b])) (by first | rfl | (simp only [slotArgs]; rfl)) ?_)
    refine wpAny_bind (wpAny_cRoomFor (by rw [Around.in1_units]; exact hu) ?_)
    refine wpAny_bind (PySem.W.ifBound_K X I he hf (wpAny_mono h (fun v s' hv => ?_) fun _ _ e => e))
    obtain ⟨r, rfl, q⟩ := hv
    dsimp only
    exact wpAny_bind (wpAny_truthy_bool (wpAny_pure ⟨r, rfl, q⟩))
  have callb : wpAny (model prog w) A (call (.builtin "object.__ne__") [.ref x, b]) (fun v s' => ∃ r, v = .bool (!r) ∧ Q (.bool (!r)) s') E s := by
    refine wpAny_call (codeAny_call_builtin PySem.F.cmp_object.ne.plain PySem.F.cmpEntry_ne ?_)
    refine @PySem.W.check_slot (model prog w) _ _ s "object.__ne__" "object" "__ne__" (.ref x) [b] [] _ PySem.F.cmpKind_ne PySem.F.cmpSplit_ne sub (PySem.F.cmpArgs_ne (.ref x) b) ?_
    refine wpAny_mono body (fun fin s' hv => ?_) fun _ _ e => e
    obtain ⟨r, rfl, q⟩ := hv
    exact ⟨r, rfl, q⟩
  have special : wpAny (model prog w) A (callSpecialIfBound? (.ref x) "__ne__" [b]) (fun r s' => ∃ r0, r = some (Value.bool (!r0)) ∧ Q (.bool (!r0)) s') E s := by
    simp only [callSpecialIfBound?, bindSpecialIfBound?]
    refine wpAny_holding (wpAny_bind (wpAny_bind (wpAny_bind (I.type.here ((PySem.W.looks_findIn X hs).here ?_)))))
    simp only [PySem.F.cmp_object.ne.bind]
    refine wpAny_bind (wpAny_askSetting (wpAny_ite ?_))
    have fin : wpAny (model prog w) A (call (.builtin "object.__ne__") ([.ref x] ++ [b]) >>= fun v => pure (some v)) (fun r s' => ∃ r0, r = some (Value.bool (!r0)) ∧ Q (.bool (!r0)) s') E s :=
      wpAny_bind (wpAny_mono callb (fun v s' h' => wpAny_pure (by obtain ⟨r, rfl, q⟩ := h'; exact ⟨r, rfl, q⟩)) fun _ _ h' => h')
    split
    · exact wpAny_bind (wpAny_pure (wpAny_pure (by exact fin)))
    · exact wpAny_tryCatch (wpAny_bind (wpAny_pure (wpAny_pure (by exact fin))))
  have one : wpAny (model prog w) A (tryCompare (.ref x) "__ne__" b) (fun r s' => ∃ v, r = some v ∧ Q v s') E s := by
    unfold tryCompare
    refine wpAny_bind (wpAny_mono special (fun r s' h' => ?_) fun _ _ e => e)
    obtain ⟨r0, rfl, q⟩ := h'
    exact wpAny_pure ⟨_, rfl, q⟩
  have hu0 : A.units < cLine := Nat.lt_of_succ_lt hu
  unfold richCompare
  simp only [oneThing_ref]
  refine wpAny_holding (wpAny_bind (wpAny_cRoomFor hu0 ?_))
  refine wpAny_bind (I.type.here (wpAny_bind (hb.here ?_)))
  split
  · rename_i q
    have e : PySem.W.subIn K tb (.ref C) = some false := by
      rcases Bool.or_eq_true_iff.mp hn with e | e
      · rw [beq_iff_eq.mp e] at q; simp at q
      · exact beq_iff_eq.mp e
    refine wpAny_bind ((PySem.W.looks_subIn X e).here ?_)
    simp only [Bool.false_eq_true, if_false]
    refine wpAny_bind (wpAny_mono one (fun r s' z => ?_) fun _ _ e => e)
    obtain ⟨v, rfl, hq⟩ := z
    exact wpAny_pure hq
  · refine wpAny_bind (wpAny_pure ?_)
    simp only [Bool.false_eq_true, if_false]
    refine wpAny_bind (wpAny_mono one (fun r s' z => ?_) fun _ _ e => e)
    obtain ⟨v, rfl, hq⟩ := z
    exact wpAny_pure hq
theorem neO_snd (K : XOk Γ ca xk N sc F X) : OpR X (compareOp .NotEq) (lift2 (gOf X ca) fun p q M Q => eqOA Γ p q M (qN Q)) := by
  intro pins s σ H x y v u Q I rx ry ⟨p, q, M, Qa, hM, rp, rq, hr, hk⟩
  dsimp only at hr
  unfold eqOA at hr
  split at hr
  · rename_i a0
    split at hr
    · rename_i c fs e1
      obtain ⟨hc, hq, hm⟩ := hr
      obtain ⟨C, _⟩ := K.kn.cl c hc
      split at hm
      · rename_i n k e2
        obtain ⟨hn, run⟩ := hm
        obtain ⟨j, f, fd, ps, Fn, hroom, mt, hb⟩ := K.kn.mt c "__eq__" n k e2
        cases rp
        cases rx
        obtain ⟨dx, gs, hH, _⟩ := hM _ _ e1
        obtain ⟨mA, J, _⟩ := ins_get I.hok hH
        obtain ⟨od, J, _⟩ := J.look
        obtain ⟨m, hF⟩ := I.fr
        have tb : ∃ tb, PySem.W.Looks (model X.prog X.w) s.heap (typeOf u) tb ∧ PySem.W.notFirst X.K (ca c) tb = true := by
          split at hq
          · cases rq
            cases ry
            split at hq
            · rename_i d fs2 e3
              subst hq
              obtain ⟨dx2, gs2, hH2, _⟩ := hM _ _ e3
              obtain ⟨mA2, J2, _⟩ := ins_get I.hok hH2
              obtain ⟨od2, J2, _⟩ := J2.look
              exact ⟨_, J2.type, by simp [PySem.W.notFirst]⟩
            · rename_i kvs e3
              obtain ⟨es, h1, h2, h3, h4, h5⟩ := hM.dct e3
              obtain ⟨o, ep, g1, g2, g3⟩ := dct_obj I h1
              exact ⟨_, PySem.W.kitAt_ty _ _ ⟨o, g1, g2.1⟩, C.nf.1⟩
            · rename_i ps3 e3
              obtain ⟨vs, h1, rs⟩ := hM.lst e3
              obtain ⟨its, _, pl, _⟩ := I.list (SqL.of h1)
              exact ⟨_, PySem.W.kitAt_ty _ _ pl.isList.typeIs, C.nf.2⟩
            · exact hq.elim
          · exact hq.elim
        obtain ⟨tb, t1, t2⟩ := tb
        show wpAny (model X.prog X.w) X.A (richCompare .NotEq (.ref a0) u) (EP X pins σ Q) X.xe s
        refine cmp_ne (by have := K.kn.un; omega) hF I.ok.mod.kin J t1 t2 C.ne mt.at_ mt.fn C.mr ?_
        have hsp : spOf (gOf X ca) n k [.ref a0, y] H (fun z H' => ∃ b, z = .bl b ∧ Q (.bl (!b)) H') (fun _ _ _ => False) :=
          ⟨by rw [hn]; rfl, [.ref a0, q], M, _, _, hM, .cons (.ref a0) (.one rq), run, fun p' M' v' H' hM' rp' k' q' => by
            dsimp only at q'
            split at q'
            · cases rp'
              exact ⟨_, rfl, hk _ _ _ _ hM' (.bl _) k' q'⟩
            · exact q'.elim, fun _ _ _ _ _ _ _ _ z => z⟩
        have e0 := I.env0
        have hl := Fn.len _ _ _ _ hsp
        have r2 : Vals [V.ref a0, y] [Value.ref a0, u] := .cons rfl (.cons ry .nil)
        refine wpAny_call (codeAny_mono (Fn.run X.A.in1 X.stack s H ⟨[.ref a0, u], []⟩ _ _ _ _ hroom.in1 e0.in1 (by
          have := hb s [.ref a0, u] I.kIn (by simpa using hl)
          simpa using this) r2 hsp) fun r s' hq' => ?_)
        cases r with
        | error e => exact (passes_none2 (X := X) fun _ _ _ z => z) pins σ H s e s' I hq'
        | ok fl =>
          cases fl with
          | ret w =>
            obtain ⟨z, H', I', rz, ⟨b, ez, qb⟩⟩ := I.after hq'
            subst ez
            cases rz
            exact ⟨_, rfl, .bl (!b), H', I', rfl, qb⟩
          | next => exact False.elim hq'
          | brk => exact False.elim hq'
          | cont => exact False.elim hq'
      · exact hm.elim
    · exact hr.elim
  · exact hr.elim
theorem e_eqO {b : Expr} {rb : RE} (K : XOk Γ ca xk N sc F X) (hm : behindInMarks .Eq b = false) (ha : PE X a (liftE (gOf X ca) ra)) (hb : PE X b (liftE (gOf X ca) rb)) :
    PE X (.Compare a [.Eq] [b] pos) (liftE (gOf X ca) fun g M Q => ra g M fun p M1 => rb g M1 fun q M2 => eqOA Γ p q M2 Q) :=
  PE.imp (pe_cmpR (eqO_snd K) ha hb hm) fun σ H Q h => e_op (f := compareOp .Eq) h
theorem eqOA_mono {p q : PV} {M : MM} {Q Q' : KV1} (e : Q = Q') (h : eqOA Γ p q M Q) : eqOA Γ p q M Q' := e ▸ h
theorem t_eqO {b : Expr} {rb : RE} (K : XOk Γ ca xk N sc F X) (hm : behindInMarks .Eq b = false) (ha : PE X a (liftE (gOf X ca) ra)) (hb : PE X b (liftE (gOf X ca) rb)) :
    PT X (.Compare a [.Eq] [b] pos) (liftT (gOf X ca) fun g M Q => ra g M fun p M1 => rb g M1 fun q M2 => eqOA Γ p q M2 (qT Q)) :=
  PT.imp (pt_cmpR (eqO_snd K) ha hb hm) fun σ H Q h => by
    obtain ⟨g, M, Qa, rel, run, hk⟩ := h
    exact e_op (f := compareOp .Eq) (r := eqOA Γ) ⟨g, M, qT Qa, rel, run, qB_hand hk⟩
theorem e_neO {b : Expr} {rb : RE} (K : XOk Γ ca xk N sc F X) (hm : behindInMarks .NotEq b = false) (ha : PE X a (liftE (gOf X ca) ra)) (hb : PE X b (liftE (gOf X ca) rb)) :
    PE X (.Compare a [.NotEq] [b] pos) (liftE (gOf X ca) fun g M Q => ra g M fun p M1 => rb g M1 fun q M2 => eqOA Γ p q M2 (qN Q)) :=
  PE.imp (pe_cmpR (neO_snd K) ha hb hm) fun σ H Q h => e_op (f := compareOp .NotEq) (r := fun p q M Q => eqOA Γ p q M (qN Q)) h
theorem t_neO {b : Expr} {rb : RE} (K : XOk Γ ca xk N sc F X) (hm : behindInMarks .NotEq b = false) (ha : PE X a (liftE (gOf X ca) ra)) (hb : PE X b (liftE (gOf X ca) rb)) :
    PT X (.Compare a [.NotEq] [b] pos) (liftT (gOf X ca) fun g M Q => ra g M fun p M1 => rb g M1 fun q M2 => eqOA Γ p q M2 (qN (qT Q))) :=
  PT.imp (pt_cmpR (neO_snd K) ha hb hm) fun σ H Q h => by
    obtain ⟨g, M, Qa, rel, run, hk⟩ := h
    exact e_op (f := compareOp .NotEq) (r := fun p q M Q => eqOA Γ p q M (qN Q)) ⟨g, M, qT Qa, rel, run, qB_hand hk⟩
/-! ### dict displays -/
/-- the pairs of a display -/
structure PDs (X : Cx) (ca : String → Addr) (pos : Pos) (ks : List (Option Expr)) (vs : List Expr) (rp : Sg → MM → (List (PV × PV) → MM → Prop) → Prop) : Prop where
  len : ks.length = vs.length
  som : ks.all (·.isSome) = true
  run : ∃ trs : List (TE × TE), trs.length = ks.length ∧ PPs X pos ks vs trs ∧ ∀ σ H Q, (∃ g M Qa, Rel (gOf X ca) σ H g M ∧ rp g M Qa ∧ ∀ kvs M' zs H', Rel (gOf X ca) σ H' g M' → Keep H H' → Paired (fun (a : PV × PV) (b : V × V) => Rep X.K H' a.1 b.1 ∧ Rep X.K H' a.2 b.2) kvs zs → Qa kvs M' → Q zs H') → tPairs trs σ H Q
theorem d_nil : PDs X ca pos [] [] (fun _ M Q => Q [] M) := ⟨rfl, rfl, [], rfl, pps_nil, fun σ H Q ⟨g, M, Qa, rel, run, hk⟩ => hk [] M [] H rel (.refl H) .nil run⟩
theorem d_cons {k v : Expr} {ks : List (Option Expr)} {vs : List Expr} {rk rv : RE} {rp : Sg → MM → (List (PV × PV) → MM → Prop) → Prop} (hk : PE X k (liftE (gOf X ca) rk)) (hv : PE X v (liftE (gOf X ca) rv)) (hp : PDs X ca pos ks vs rp) :
    PDs X ca pos (some k :: ks) (v :: vs) (fun g M Q => rk g M fun p M1 => rv g M1 fun q M2 => rp g M2 fun r M3 => Q ((p, q) :: r) M3) := by
  obtain ⟨l, so, trs, lt, pp, f⟩ := hp
  refine ⟨by simp [l], by simp [so], (_, _) :: trs, by simp [lt], pps_cons hk hv pp, fun σ H Q ⟨g, M, Qa, rel, run, hh⟩ => ?_⟩
  refine lift_run rel run fun p M1 x H1 rel1 rp1 k1 q1 => lift_run rel1 q1 fun q M2 y H2 rel2 rq k2 q2 => ?_
  exact f σ H2 _ ⟨g, M2, _, rel2, q2, fun kvs M3 zs H3 rel3 k3 pr q3 => hh _ _ _ _ rel3 ((k1.trans k2).trans k3) (.cons ⟨(rp1.keep k2).keep k3, rq.keep k3⟩ pr) q3⟩
theorem drel_of {K : PySem.W.Frag} {H : Hp} : ∀ {kvs : List (PV × PV)} {zs : List (V × V)}, Paired (fun (a : PV × PV) (b : V × V) => Rep K H a.1 b.1 ∧ Rep K H a.2 b.2) kvs zs → kvs.all (fun q => simK q.1) = true → ∃ ls : List (Key × V), zs = ls.map (fun kv => (kV kv.1, kv.2)) ∧ ls.length = kvs.length ∧
    ∀ {acc : List (PV × PV)} {as : List (Key × V)}, DRel K H acc as → (as.map (·.1)).Nodup → DRel K H (kvs.foldl (fun d q => dPut d q.1 q.2) acc) (mergeK as ls) ∧ ((mergeK as ls).map (·.1)).Nodup
  | [], _, .nil, _ => ⟨[], rfl, rfl, fun r nd => ⟨r, nd⟩⟩
  | (p, q) :: kvs, _, .cons (b := b) h t, hs => by
    rw [List.all_cons] at hs
    obtain ⟨k, hk⟩ := kpv_of (and1 hs)
    obtain ⟨ls, e, l, f⟩ := drel_of t (and2 hs)
    obtain ⟨b1, b2⟩ := b
    have eb : b1 = kV k := kpv_rep hk h.1
    refine ⟨(k, b2) :: ls, by rw [e, eb]; rfl, by simp [l], fun r nd => ?_⟩
    exact f (r.put hk h.2 nd) (putK_keys _ nd)
theorem e_dct {ks : List (Option Expr)} {vs : List Expr} {rp : Sg → MM → (List (PV × PV) → MM → Prop) → Prop} (hp : PDs X ca pos ks vs rp) (h15 : ks.length ≤ 15) :
    PE X (.Dict ks vs pos) (liftE (gOf X ca) fun g M Q => ∀ a, M a = none → rp g (mput M a (.kdc [])) fun kvs M1 => kvs.length ≤ 15 ∧ kvs.all (fun q => simK q.1) = true ∧ M1 a = some (.kdc []) ∧ Q (.ref a) (mput M1 a (.dct (kvs.foldl (fun d q => dPut d q.1 q.2) [])))) := by
  refine ⟨fun pins s σ H Q I h => ?_⟩
  obtain ⟨len, som, trs, lt, pp, f⟩ := hp
  obtain ⟨g, M, Qa, rel, run, hk⟩ := h
  -- the dict made, told raw
  have fin : ∀ {H1 : Hp} {a : Addr} {M1 : MM} {kvs : List (PV × PV)} {zs : List (V × V)}, HRep X.w ca X.K M1 H1 → Keep H H1 → Paired (fun (a : PV × PV) (b : V × V) => Rep X.K H1 a.1 b.1 ∧ Rep X.K H1 a.2 b.2) kvs zs → kvs.length ≤ 15 → kvs.all (fun q => simK q.1) = true → M1 a = some (.kdc []) →
      Qa (.ref a) (mput M1 a (.dct (kvs.foldl (fun d q => dPut d q.1 q.2) []))) → ∃ ls : List (Key × V), zs = ls.map (fun kv => (kV kv.1, kv.2)) ∧ ls.length ≤ 15 ∧ ∀ pn τ s2, L2.Inv X pn τ (upd H1 a (.dK (mergeK [] ls))) s2 → ∃ H3, L2.Inv X pn τ H3 s2 ∧ Q (.ref a) H3 := by
    intro H1 a M1 kvs zs hM1 k1 pr l15 hs ha q
    obtain ⟨ls, e, l, g2⟩ := drel_of pr hs
    obtain ⟨dr, nd⟩ := g2 (as := []) .nil List.nodup_nil
    refine ⟨ls, e, by omega, fun pn τ s2 I2 => ?_⟩
    obtain ⟨k0, hD, _, _⟩ := hM1 a _ ha
    have kp : Keep H1 (upd H1 a (.dK (mergeK [] ls))) := .set hD rfl
    have hl : (kvs.foldl (fun d q => dPut d q.1 q.2) ([] : List (PV × PV))).length ≤ kvs.length := by
      have gen : ∀ (l acc : List (PV × PV)), (l.foldl (fun d q => dPut d q.1 q.2) acc).length ≤ acc.length + l.length := by
        intro l
        induction l with
        | nil => intro acc; simp
        | cons x r ih =>
          intro acc
          have := ih (dPut acc x.1 x.2)
          have := dPut_length (y := x.1) (z := x.2) acc
          simp only [List.foldl_cons, List.length_cons]
          omega
      simpa using gen kvs []
    have hM2 := hM1.set (u := .kdc (kvs.foldl (fun d q => dPut d q.1 q.2) [])) hD rfl ⟨_, upd_same, dr.keep kp, nd⟩
    obtain ⟨es, I3, hM3, k3⟩ := made_raw I2 hM2 mput_same (by rw [sizeLine_eq]; omega)
    rw [mput_mput] at hM3
    exact ⟨_, I3, hk _ _ _ _ hM3 (.ref a) ((k1.trans kp).trans k3) q⟩
  have start : ∀ a, H a = none → Rel (gOf X ca) σ (upd H a (.dK [])) g (mput M a (.kdc [])) ∧ Keep H (upd H a (.dK [])) := fun a ha =>
    ⟨⟨rel.s.keep (.new ha), rel.h.new ha ⟨[], upd_same, .nil, List.nodup_nil⟩⟩, .new ha⟩
  cases ks with
  | nil =>
    cases vs with
    | cons => simp at len
    | nil =>
      have et : trs = [] := by simpa using lt
      subst et
      refine thn (pe_dnewK.run pins s σ H (fun v H2 => ∀ pins σ s, L2.Inv X pins σ H2 s → ∃ H3, L2.Inv X pins σ H3 s ∧ Q v H3) I fun p hp => ?_) fun _ _ q => ep_unl2 q
      obtain ⟨r0, k0⟩ := start p hp
      have z := f σ _ (fun zs H1 => zs = [] ∧ H1 = upd H p (.dK []) → ∀ pn τ s2, L2.Inv X pn τ H1 s2 → ∃ H3, L2.Inv X pn τ H3 s2 ∧ Q (.ref p) H3) ⟨g, _, _, r0, run p (rel.h.fresh hp), fun kvs M1 zs H1 rel1 k1 pr ⟨l15, hs, ha, q⟩ ⟨e1, e2⟩ => by
        subst e1
        obtain ⟨ls, el, _, fn⟩ := fin rel1.h (k0.trans k1) pr l15 hs ha q
        cases ls with
        | cons => simp at el
        | nil =>
          intro pn τ s2 I2
          refine fn pn τ s2 ?_
          have : upd H1 p (.dK (mergeK [] [])) = H1 := by
            rw [e2]
            funext b
            unfold upd
            split <;> rfl
          rw [this]; exact I2⟩
      exact z ⟨rfl, rfl⟩
  | cons k0 ks0 =>
    refine thn ((pe_disp pp som len (by simp) h15).run pins s σ H (fun v H2 => ∀ pins σ s, L2.Inv X pins σ H2 s → ∃ H3, L2.Inv X pins σ H3 s ∧ Q v H3) I fun p hp => ?_) fun _ _ q => ep_unl2 q
    obtain ⟨r0, kp0⟩ := start p hp
    refine f σ _ _ ⟨g, _, _, r0, run p (rel.h.fresh hp), fun kvs M1 zs H1 rel1 k1 pr ⟨l15, hs, ha, q⟩ => ?_⟩
    obtain ⟨ls, el, l2, fn⟩ := fin rel1.h (kp0.trans k1) pr l15 hs ha q
    obtain ⟨kk0, hD, dr0, _⟩ := rel1.h p _ ha
    cases dr0
    exact ⟨hD, ls, el, l2, fn⟩
end
end Rx
end

section
set_option maxHeartbeats 4000000
/-! Rx: displays of keys of any kind. -/
namespace Rx
open PySem PySem.Spec PyProof.Rows L2
section
variable {X : Cx} {ca : String → Addr}
/-- {k: v, ..}: the display of keys of any kind -/
theorem e_dctK {ks : List (Option Expr)} {vs : List Expr} {pos : Pos} {rp : Sg → MM → (List (PV × PV) → MM → Prop) → Prop} (hu : X.A.units + 65 < cLine) (h0 : ks ≠ []) (hp : PDs X ca pos ks vs rp) (h15 : ks.length ≤ 15) :
    PE X (.Dict ks vs pos) (liftE (gOf X ca) fun g M Q => ∀ a, M a = none → rp g (mput M a (.dct [])) fun kvs M1 => kvs.length ≤ 15 ∧ kvs.all (fun q => keyOk q.1) = true ∧ M1 a = some (.dct []) ∧ Q (.ref a) (mput M1 a (.dct (kvs.foldl (fun d q => dPut d q.1 q.2) [])))) := by
  refine ⟨fun pins s σ H Q I h => ?_⟩
  obtain ⟨len, som, trs, lt, pp, f⟩ := hp
  obtain ⟨g, M, Qa, rel, run, hk⟩ := h
  have hn : H s.heap.objs.size = none := I.hok.fresh (Nat.le_refl _)
  have sysp : (s.heap.objs.size == sysModules) = false := beq_eq_false_iff_ne.mpr (Nat.ne_of_gt I.big)
  generalize ea : s.heap.objs.size = a at hn sysp
  have ho : (s.heap.push { cls := .type "dict", data := .dict #[] }).get? a = some { cls := .type "dict", data := .dict #[] } := by rw [← ea]; exact Heap.get?_push_size _ rfl
  have I1 : L2.Inv X pins σ (upd H a (DctO a #[])) { s with heap := s.heap.push { cls := .type "dict", data := .dict #[] } } :=
    I.laid (t' := s.toks) (a := a) (fun _ _ q => Heap.get?_push_of_some _ q) (Nat.le_of_eq ea) (dctO_ok ho ⟨rfl, rfl, rfl⟩ rfl)
  have hM1 : HRep X.w ca X.K (mput M a (.dct [])) (upd H a (DctO a #[])) := rel.h.new hn ⟨#[], upd_same, .nil, List.nodup_nil, Nat.zero_le _, sysp⟩
  have r1 : Rel (gOf X ca) σ (upd H a (DctO a #[])) g (mput M a (.dct [])) := ⟨rel.s.keep (.new hn), hM1⟩
  have hnl := pairTrees_length ks vs X.env pos som len
  rw [arm_eval_Dict, zip_pairTrees ks vs X.env pos som len, dictDisplay_pairs _ (fun z => h0 (List.length_eq_zero_iff.mp (by rw [← hnl, z]; rfl))) (by rw [hnl]; omega)]
  refine wpAny_bind (wpAny_standAt (wpAny_bind ?_))
  unfold subDict
  refine wpAny_bind (wpAny_alloc ?_)
  refine wpAny_bind (wpAny_holding ?_)
  rw [if_pos (by rw [hnl]; exact h15), ea]
  refine wpAny_bind (thn (pp.run pins _ σ _ (fun zs H' => ∃ kvs M', HRep X.w ca X.K M' H' ∧ Keep (upd H a (DctO a #[])) H' ∧ Paired (fun (a : PV × PV) (b : V × V) => Rep X.K H' a.1 b.1 ∧ Rep X.K H' a.2 b.2) kvs zs ∧ kvs.length ≤ 15 ∧ kvs.all (fun q => keyOk q.1) = true ∧ M' a = some (.dct []) ∧ Qa (.ref a) (mput M' a (.dct (kvs.foldl (fun d q => dPut d q.1 q.2) [])))) I1
    (f σ _ _ ⟨g, _, _, r1, run a (rel.h.fresh hn), fun kvs M' zs H' rel' k' pr ⟨q1, q2, q3, q4⟩ => ⟨kvs, M', rel'.h, k', pr, q1, q2, q3, q4⟩⟩)) fun ws s2 ⟨zs, H2, I2, vv, kvs, M2, hM2, k2, pr, q1, q2, q3, q4⟩ => ?_)
  refine wpAny_holding ?_
  refine wpAny_bind (dctK_store hu kvs zs ws [] H2 M2 s2 _ I2 hM2 q3 pr vv q2 (by simp; omega) fun H3 s3 I3 hM3 k3 => wpAny_pure (wpAny_pure (wpAny_pure ?_)))
  exact ⟨.ref a, H3, I3, rfl, hk _ _ _ _ hM3 (.ref a) (((Keep.new hn).trans k2).trans k3) q4⟩
end
end Rx
end

section
set_option maxHeartbeats 4000000
/-! Rx: sets of texts, made of a tuple; their number, their members sorted. -/
namespace Rx
open PySem PySem.Spec PyProof.Rows L2 TL
def tKey (e : Int × Value) : Str := match e.2 with
  | .str k _ => k
  | _ => Str.empty
def TGood (w : World) (e : Int × Value) : Prop := ∃ k tk, e.2 = Value.str k tk ∧ e.1 = hashStr w k
/-- the set of the texts l stands at a -/
def SetT (w : World) (h : Heap) (a : Addr) (l : List Str) : Prop :=
  ∃ o es ep t, h.get? a = some o ∧ o.ExactSet ∧ o.data = .set es ep t ∧ (∀ e ∈ es.toList, TGood w e) ∧ (es.toList.map tKey).Perm l ∧ l.Nodup ∧
    es.size < scanBound ∧ t.fits es.size = true ∧ Ris t.place.toList ∧ (w.params.followText "set-order" = true ∨ t.led = true)
def insT (l : List Str) (k : Str) : List Str := if k ∈ l then l else k :: l
theorem insT_nodup {l : List Str} {k : Str} (h : l.Nodup) : (insT l k).Nodup := by
  unfold insT; split
  · exact h
  · rename_i hn; exact List.nodup_cons.mpr ⟨hn, h⟩
theorem insT_mem {l : List Str} {k x : Str} : x ∈ insT l k ↔ x ∈ l ∨ x = k := by
  unfold insT; split
  · rename_i hk
    exact ⟨.inl, fun h => h.elim id fun e => e ▸ hk⟩
  · rw [List.mem_cons]; exact Or.comm
theorem insT_len {l : List Str} {k : Str} : (insT l k).length ≤ l.length + 1 := by
  unfold insT; split
  · exact Nat.le_succ _
  · exact Nat.le_refl _
section
variable {P : Program} {w : World} {h h' : Heap} {a : Addr} {l : List Str}
theorem SetT.at (R : SetT w h a l) (k : ∀ o, h.get? a = some o → h'.get? a = some o) : SetT w h' a l := by
  obtain ⟨o, es, ep, t, ho, r⟩ := R
  exact ⟨o, es, ep, t, k o ho, r⟩
theorem tgood_elems {es : List (Int × Value)} (g : ∀ e ∈ es, TGood w e) : ElemsOf (PySem.strKind P w) es := fun e he => by
  obtain ⟨k, tk, h1, h2⟩ := g e he
  exact ⟨⟨k, by rw [h1]; exact strKind_is P w k tk, h2⟩, by rw [h1] <;> rfl⟩
theorem tgood_is {e : Int × Value} (g : TGood w e) (k : Str) : (PySem.strKind P w).is k e.2 = true ↔ tKey e = k := by
  obtain ⟨k0, tk, h1, _⟩ := g
  unfold tKey
  rw [h1]
  constructor
  · intro q; exact (PySem.strKind P w).inj (.str k0 tk) k0 k (strKind_is P w k0 tk) q
  · rintro rfl; exact strKind_is P w k0 tk
theorem tgood_mem {es : List (Int × Value)} (g : ∀ e ∈ es, TGood w e) (k : Str) : k ∈ es.map tKey ↔ ∃ e ∈ es, (PySem.strKind P w).is k e.2 = true := by
  rw [List.mem_map]
  constructor
  · rintro ⟨e, he, q⟩
    exact ⟨e, he, (tgood_is (g e he) k).2 q⟩
  · rintro ⟨e, he, q⟩
    exact ⟨e, he, (tgood_is (g e he) k).1 q⟩
end
section
variable {P : Program} {w : World} {A : Around} {E : Value → Shared → Prop} {s : Shared} {a : Addr} {l : List Str}
theorem setT_tail {g : Bool → Sem Unit} (hg : ∀ (b : Bool) (s₁ : Shared) (Q' : Unit → Shared → Prop), Q' () s₁ → wpAny (model P w) A (g b) Q' E s₁)
    {o : Obj} {es : Array (Int × Value)} {ep : Nat} {t : SetTable} (ho : s.heap.get? a = some o) (hex : o.ExactSet) (hd : o.data = .set es ep t)
    {es1 : Array (Int × Value)} {t2 : SetTable} {l1 : List Str} (g1 : ∀ e ∈ es1.toList, TGood w e) (m1 : (es1.toList.map tKey).Perm l1) (nd1 : l1.Nodup)
    (hb1 : es1.size < scanBound) (hf2 : t2.fits es1.size = true) (hr : Ris t2.place.toList) (hl : w.params.followText "set-order" = true ∨ t2.led = true) {wasDummy : Bool} {R : Option Bool → Shared → Prop}
    (hR : ∀ h', Heap.SameBut a s.heap h' → SetT w h' a l1 → R (some true) { s with heap := h' }) :
    wpAny (model P w) A (do
        storeSet a es1 t2
        if (!wasDummy && t2.tooFull) = true then do
            g (relayAll t2 es1 (SetTable.grown es1.size)).2.2
            storeSet a (relayAll t2 es1 (SetTable.grown es1.size)).1 (relayAll t2 es1 (SetTable.grown es1.size)).2.1
            pure (some true)
          else pure (some true)) R E s := by
  refine wpAny_bind (wpAny_storeSet_of ho hd ?_ (fits_of_scanBound hb1))
  have ho1 := store_at (es' := es1) (t' := t2) ho hd
  have sb1 := Heap.SameBut.update s.heap a (Obj.putSet es1 t2)
  split
  · have pm := relayAll_perm t2 es1 (SetTable.grown es1.size)
    have hf3 := relayAll_fits t2 es1 (SetTable.grown es1.size)
    have hr3 := relayAll_ris t2 es1 (SetTable.grown es1.size)
    have hl3 := relayAll_led t2 es1 (SetTable.grown es1.size)
    generalize relayAll t2 es1 (SetTable.grown es1.size) = Z at pm hf3 hr3 hl3 ⊢
    obtain ⟨es2, t3, gave⟩ := Z
    dsimp only at pm hf3 hr3 hl3 ⊢
    have hsz : es2.size = es1.size := by rw [← Array.length_toList, pm.length_eq, Array.length_toList]
    have hb2 : es2.size < scanBound := by rw [hsz]; exact hb1
    refine wpAny_bind (hg _ _ _ ?_)
    refine wpAny_bind (wpAny_storeSet_of ho1 rfl ?_ (fits_of_scanBound hb2))
    have ho2 := store_at (es' := es2) (t' := t3) ho1 rfl
    refine wpAny_pure (hR _ (sb1.trans (Heap.SameBut.update _ a _)) ?_)
    exact ⟨_, es2, _, t3, ho2, hex, rfl, fun e he => g1 e (pm.mem_iff.mp he), (pm.map tKey).trans m1, nd1, hb2, hf3, hr3, hl.imp id fun z => by rw [hl3]; exact z⟩
  · exact wpAny_pure (hR _ sb1 ⟨_, es1, _, t2, ho1, hex, rfl, g1, m1, nd1, hb1, hf2, hr, hl⟩)
/-- a text is put into the set -/
theorem setT_add {k : Str} {tk : Tok} {Q : Bool → Shared → Prop} (R : SetT w s.heap a l) (room : l.length + 1 < scanBound)
    (hQ : ∀ b h', Heap.SameBut a s.heap h' → SetT w h' a (insT l k) → Q b { s with heap := h' }) :
    wpAny (model P w) A (setAddHashed a (.str k tk) ((PySem.strKind P w).hash k)) Q E s := by
  obtain ⟨o, es, ep, t, ho, hex, hd, g, pl, nd, hb, hf, hr, hl⟩ := R
  have hkey : (PySem.strKind P w).is k (.str k tk) = true := strKind_is P w k tk
  have hsc : (Value.str k tk).scannable = true := rfl
  have hel : ElemsOf (PySem.strKind P w) es.toList := tgood_elems g
  unfold setAddHashed setAddHashedIn
  refine wpAny_holding (wpAny_bind (wpAny_setState_of ho hd hf ?_))
  dsimp only
  rw [byScan_of hsc hb hel]
  simp only [↓reduceIte]
  unfold setAddByScan
  refine wpAny_bind ?_
  refine wpAny_bind (wpAny_rule ?_)
  refine wpAny_bind (wpAny_setScan_of hkey ho hd hf hel ?_)
  cases hfi : List.findIdx? (fun e => (PySem.strKind P w).is k e.2) es.toList with
  | some j =>
    dsimp only
    obtain ⟨hj, pj, _⟩ := List.findIdx?_eq_some_iff_getElem.mp hfi
    have hk : k ∈ l := pl.mem_iff.mp ((tgood_mem (P := P) g k).2 ⟨es.toList[j], List.getElem_mem hj, pj⟩)
    have e : insT l k = l := if_pos hk
    refine wpAny_pure (wpAny_pure ?_)
    exact hQ _ s.heap (Heap.SameBut.refl a s.heap) (by rw [e]; exact ⟨o, es, ep, t, ho, hex, hd, g, pl, nd, hb, hf, hr, hl⟩)
  | none =>
    dsimp only
    have hnk : k ∉ l := fun z => by
      obtain ⟨e, he, q⟩ := (tgood_mem (P := P) g k).1 (pl.mem_iff.mpr z)
      have c := List.findIdx?_eq_none_iff.mp hfi e he
      rw [q] at c
      cases c
    have ei : insT l k = k :: l := if_neg hnk
    have hgw : ∀ (b : Bool) {s₁ : Shared} {Q' : Unit → Shared → Prop}, Q' () s₁ → wpAny (model P w) A (match b with | true => rule "set.scan.the-table-gave-way" | false => pure ()) Q' E s₁ :=
      fun b s₁ Q' q => by cases b <;> first | exact wpAny_pure q | exact wpAny_rule q
    have pm := layNew_perm t es ((PySem.strKind P w).hash k) (.str k tk)
    have hf1 := layNew_fits t es ((PySem.strKind P w).hash k) (.str k tk)
    have hr1 := layNew_ris t es ((PySem.strKind P w).hash k) (.str k tk) hr
    have hl1 := layNew_led t es ((PySem.strKind P w).hash k) (.str k tk)
    generalize layNew t es ((PySem.strKind P w).hash k) (.str k tk) = Z at pm hf1 hr1 hl1 ⊢
    obtain ⟨es1, t1, wasDummy, gave⟩ := Z
    dsimp only at pm hf1 hr1 hl1 ⊢
    rw [Array.toList_push] at pm
    have pc : es1.toList.Perm (((PySem.strKind P w).hash k, Value.str k tk) :: es.toList) := pm.trans (List.perm_append_singleton _ _)
    have pk : (es1.toList.map tKey).Perm (k :: l) := (pc.map tKey).trans (.cons k pl)
    have g1 : ∀ e ∈ es1.toList, TGood w e := fun e he => by
      rcases List.mem_cons.mp (pc.mem_iff.mp he) with z | z
      · rw [z]; exact ⟨k, tk, rfl, rfl⟩
      · exact g e z
    have nd1 : (k :: l).Nodup := List.nodup_cons.mpr ⟨hnk, nd⟩
    have hsz : es1.size = l.length + 1 := by
      have := pk.length_eq
      rw [List.length_map, Array.length_toList, List.length_cons] at this
      exact this
    have hb1 : es1.size < scanBound := by rw [hsz]; exact room
    have hled : w.params.followText "set-order" = true ∨ t1.led = true := hl.imp id fun z => by rw [hl1]; exact z
    have fin : ∀ h', Heap.SameBut a s.heap h' → SetT w h' a (k :: l) → Q true { s with heap := h' } := fun h' sb r => hQ true h' sb (by rw [ei]; exact r)
    refine wpAny_bind (hgw _ ?_)
    split
    · refine wpAny_bind ?_
      rw [hashByValue_scannable 8 hsc]
      refine wpAny_pure ?_
      refine setT_tail ?_ ho hex hd g1 pk nd1 hb1 ?_ ?_ ?_ ?_
      · intro b s₁ Q' q; cases b <;> first | exact wpAny_pure q | exact wpAny_rule q
      · first | (split <;> first | exact hf1 | exact SetTable.fits_plain_off hf1) | exact hf1
      · first | (split <;> exact hr1) | exact hr1
      · first | (split <;> exact hled) | exact hled
      · intro h' sb r; dsimp only; exact wpAny_pure (fin h' sb r)
    · refine wpAny_bind (wpAny_pure ?_)
      simp only [↓reduceIte]
      refine setT_tail ?_ ho hex hd g1 pk nd1 hb1 hf1 hr1 hled ?_
      · intro b s₁ Q' q; cases b <;> first | exact wpAny_pure q | exact wpAny_rule q
      · intro h' sb r; dsimp only; exact wpAny_pure (fin h' sb r)
theorem setT_fresh {w : World} {h : Heap} (ho : h.get? a = some { cls := .type "set", dict := none, data := .set #[] 0 (.fresh 0 0 (!w.params.followText "set-order")) }) : SetT w h a [] :=
  ⟨_, #[], 0, _, ho, ⟨rfl, rfl, rfl⟩, rfl, (fun e he => by simp at he), .refl _, .nil, (by decide), (by rfl), List.Pairwise.nil, by
    show _ ∨ (!w.params.followText "set-order") = true
    cases w.params.followText "set-order"
    · exact .inr rfl
    · exact .inl rfl⟩
theorem fold_step {ns : List Str} {i : Nat} {z : Str} (hz : ns[i]? = some z) : (ns.take (i + 1)).foldl insT [] = insT ((ns.take i).foldl insT []) z := by
  rw [List.take_add_one, hz, List.foldl_append]; rfl
theorem fold_len (ns : List Str) : ∀ acc : List Str, (ns.foldl insT acc).length ≤ acc.length + ns.length := by
  induction ns with
  | nil => intro acc; exact Nat.le_refl _
  | cons x r ih =>
    intro acc
    have h1 := ih (insT acc x)
    have h2 := insT_len (l := acc) (k := x)
    rw [List.foldl_cons, List.length_cons]
    omega
theorem fold_mem (ns : List Str) : ∀ (acc : List Str) (x : Str), x ∈ ns.foldl insT acc ↔ x ∈ acc ∨ x ∈ ns := by
  induction ns with
  | nil => intro acc x; simp
  | cons y r ih =>
    intro acc x
    rw [List.foldl_cons, ih, insT_mem, List.mem_cons, or_assoc]
theorem set_update_strs {I : Addr} {fp wr : List Addr} {G : Array GenState → Array GenState → Prop} {n : Nat} {Pv : Nat → Value → Prop} {St : Nat → Shared → Prop} {R : Result → Shared → Prop}
    (W : WalksS P w A.in1 I fp wr G n Pv St) (S : Addr) (hSf : S ∉ fp) (ns : List Str) (hn : n = ns.length) (hb : ns.length + 1 < scanBound) (hval : ∀ i v, Pv i v → ∃ k t, ns[i]? = some k ∧ v = .str k t) :
    ∀ (k i : Nat) (s : Shared), n - i = k → i ≤ n → St i s → SetT w s.heap S ((ns.take i).foldl insT []) →
      (∀ s', Moved (S :: wr) G s s' → SetT w s'.heap S (ns.foldl insT []) → R (.ok (.ret .none)) s') →
      codeAny (model P w) A (.builtin "set.update.loop" ⟨[.ref S, .ref I], []⟩) R s := by
  have hSw : S ∉ wr := fun h => hSf (W.sub _ h)
  have hsub : ∀ b ∈ wr, b ∈ S :: wr := fun b hb => List.mem_cons_of_mem _ hb
  intro k
  induction k with
  | zero =>
    intro i s hk' hi hst hS hR
    have hin : i = n := by omega
    subst hin
    refine codeAny_builtin F.entry_set_update_loop ?_
    rw [Around.under_plainId F.plain_set_update_loop _]
    show wpAny _ A.in1 (pyNext (.ref I) >>= _) _ _ s
    refine wpAny_bind (W.done s _ _ hst fun s' hm => ?_)
    show wpAny _ A.in1 (ret Value.none) _ _ s'
    have e : ns.take i = ns := List.take_of_length_le (by omega)
    rw [e] at hS
    exact wpAny_pure (hR s' (hm.mono hsub) (hS.at fun o e => hm.heap S o hSw e))
  | succ k ih =>
    intro i s hk' hi hst hS hR
    have hlt : i < n := by omega
    refine codeAny_builtin F.entry_set_update_loop ?_
    rw [Around.under_plainId F.plain_set_update_loop _]
    show wpAny _ A.in1 (pyNext (.ref I) >>= _) _ _ s
    refine wpAny_bind (W.item i s _ _ hlt hst fun v s' hP hst' hm => ?_)
    obtain ⟨z, t, hz, rfl⟩ := hval i v hP
    have hS' : SetT w s'.heap S ((ns.take i).foldl insT []) := hS.at fun o e => hm.heap S o hSw e
    have hlen : ((ns.take i).foldl insT []).length ≤ i := by
      have h1 := fold_len (ns.take i) []
      have h2 : (ns.take i).length ≤ i := by rw [List.length_take]; exact Nat.min_le_left _ _
      exact Nat.le_trans h1 (by rw [List.length_nil]; omega)
    show wpAny _ A.in1 (holding [Value.str z t] (setAdd S (.str z t)) >>= _) _ _ s'
    refine wpAny_bind (wpAny_holding ?_)
    unfold setAdd
    refine wpAny_holding ?_
    refine wpAny_bind ((PySem.strKind P w).pyHash (k := z) (strKind_is _ _ _ _) ?_)
    refine setT_add (s := { s' with toks := s'.toks + 1 }) hS' (by omega) fun b0 h' hsb hS2 => ?_
    have hS3 : SetT w h' S ((ns.take (i + 1)).foldl insT []) := by rw [fold_step hz]; exact hS2
    refine wpAny_pure ⟨plainId_quiet F.plain_set_update_loop _, ih (i + 1) _ (by omega) hlt (W.frame _ s' _ _ hst' (Nat.le_succ _) fun b hb o e => ?_) hS3 fun s'' hm'' hS'' => ?_⟩
    · rw [hsb.2 b (fun h : b = S => hSf (by rw [← h]; exact hb))]; exact e
    · refine hR s'' (Moved.trans W.gtrans ((hm.mono hsub).then_heap (Nat.le_succ _) fun b o hb e => ?_) hm'') hS''
      rw [hsb.2 b (fun h : b = S => hb (by rw [h]; exact List.mem_cons_self))]; exact e
set_option maxHeartbeats 3200000 in
theorem call_set_tupT {t : Addr} {items : Array Value} (ns : List Str) {Q : Value → Shared → Prop} (hh : A.handled = none) (hl : s.heap.IsTuple t items) (hit : StrsAre items.toList ns) (hb : ns.length + 1 < scanBound)
    (h : ∀ (h' : Heap) (tk : Nat), SetT w h' s.heap.objs.size (ns.foldl insT []) → (∀ b o, s.heap.get? b = some o → h'.get? b = some o) → Q (.ref s.heap.objs.size) { s with heap := h', toks := tk }) :
    wpAny (model P w) A (call (.type "set") [.ref t]) Q E s := by
  have hisz : items.size = ns.length := by
    have q := StrsAre.length hit
    rw [Array.length_toList] at q
    exact q
  obtain ⟨c, tl, hmro⟩ := F.called_set.mro
  have hmade := F.called_set.made
  have hsub := F.called_set.sub
  refine wpAny_call (codeAny_of_tree ?_)
  show wpAny _ _ (callAny (.type "set") _) _ _ _
  refine wpAny_pure ⟨Code.quiet_builtin _ (by decide +kernel), codeAny_builtin F.entry_type_call ?_⟩
  rw [Around.under_plain (weight_type_call_type "set" [.ref t] []) rfl]
  have h1 := F.called_set.notType
  have h2 := F.called_set.canCreate
  have hct := F.typeCall_set_1 (.ref t)
  repeat (any_goals (first | assumption | wp_step))
  refine codeAny_mono (code_set_led1 (.ref t) (E := E) (Q₁ := fun obj s₁ => obj = .ref s.heap.objs.size ∧ s₁ = { s with heap := s.heap.push { cls := .type "set", dict := none, data := .set #[] 0 (.fresh 0 0 (!w.params.followText "set-order")) } }) ⟨rfl, rfl⟩) fun r s₁ hr => ?_
  cases r with
  | error e => exact hr
  | ok fl =>
    cases fl with
    | ret obj =>
      obtain ⟨rfl, rfl⟩ := hr
      have hS : (s.heap.push { cls := .type "set", dict := none, data := .set #[] 0 (.fresh 0 0 (!w.params.followText "set-order")) }).get? s.heap.objs.size = some { cls := .type "set", dict := none, data := .set #[] 0 (.fresh 0 0 (!w.params.followText "set-order")) } := Heap.get?_push_size _ rfl
      have hT : Shared.TypeIs { s with heap := s.heap.push { cls := .type "set", dict := none, data := .set #[] 0 (.fresh 0 0 (!w.params.followText "set-order")) } } (.ref s.heap.objs.size) "set" := ⟨_, hS, rfl⟩
      have hli := F.called_set.init.lookup
      have hbi := F.called_set.init.bind (.ref s.heap.objs.size)
      repeat (any_goals (first | assumption | wp_step))
      refine codeAny_mono (codeAny_call_builtin (R := wants (fun r s₂ => r = .none ∧ ∃ h' tk, s₂ = { s with heap := h', toks := tk } ∧ SetT w h' s.heap.objs.size (ns.foldl insT []) ∧
          (∀ b o, s.heap.get? b = some o → h'.get? b = some o)) E) F.called_set.init.plain F.entry_set_init (check_set_init_1 hT ?_)) fun r₂ s₂ hr₂ => ?_
      · obtain ⟨ol, hol, hcl, nl, hdl⟩ := hl
        obtain ⟨ocls, odict, odata, oslots⟩ := ol
        simp only at hcl hdl
        subst hcl; subst hdl
        have hol' : (s.heap.push { cls := .type "set", dict := none, data := .set #[] 0 (.fresh 0 0 (!w.params.followText "set-order")) }).get? t = some { cls := .type "tuple", dict := odict, data := .seq items nl, slots := oslots } := Heap.get?_push_of_some _ hol
        have hsls := F.sub_tuple_set
        have hslf := F.sub_tuple_frozenset
        have hne : (Value.type "tuple" == Value.type "dict") = false := by decide
        have hl1 : (s.heap.push { cls := .type "set", dict := none, data := .set #[] 0 (.fresh 0 0 (!w.params.followText "set-order")) }).IsTuple t items := ⟨_, hol', rfl, nl, rfl⟩
        unfold Builtin.«set.__init__» noKeywords Builtin.Frozenset.updateFrom
        generalize hPI : pyIter = PI
        wp_walk
        subst hPI
        refine wpAny_pyIter_tuple hl1 ?_
        refine wpAny_bind (wpAny_runValue ?_)
        have hlS : t < s.heap.objs.size := Heap.lt_size hol
        have hh3 : A.in1.in1.in1.handled = none := by simp [hh]
        have hneI : t ≠ (s.heap.push { cls := .type "set", dict := none, data := .set #[] 0 (.fresh 0 0 (!w.params.followText "set-order")) }).objs.size := by
          rw [Heap.size_push]; exact Nat.ne_of_lt (Nat.lt_succ_of_lt hlS)
        have hSf : s.heap.objs.size ∉ [(s.heap.push { cls := .type "set", dict := none, data := .set #[] 0 (.fresh 0 0 (!w.params.followText "set-order")) }).objs.size, t] := by
          rw [Heap.size_push]; simp only [List.mem_cons, List.mem_singleton, List.not_mem_nil, or_false, not_or]
          exact ⟨Nat.ne_of_lt (Nat.lt_succ_self _), Nat.ne_of_gt hlS⟩
        have hval : ∀ (i : Nat) (v : Value), items[i]? = some v → ∃ k t, ns[i]? = some k ∧ v = .str k t := fun i v hv => by
          have hi : i < ns.length := by rw [← hisz]; exact (Array.getElem?_eq_some_iff.mp hv).1
          obtain ⟨t, e⟩ := SS.strs_at hit i v (by rw [Array.getElem?_toList]; exact hv)
          refine ⟨ns[i], t, List.getElem?_eq_getElem hi, ?_⟩
          rw [e, List.getD_eq_getElem?_getD, List.getElem?_eq_getElem hi] <;> rfl
        refine set_update_strs ((Walks.tuple hh3 _ t hneI items).toS) s.heap.objs.size
          hSf ns hisz hb hval (items.size - 0) 0 _ (by omega) (Nat.zero_le _)
          ⟨⟨_, Heap.get?_push_size _ rfl, rfl, rfl⟩, (hl1.push _)⟩ ?hS0 ?hR
        case hS0 =>
          have hget : ((s.heap.push { cls := .type "set", dict := none, data := .set #[] 0 (.fresh 0 0 (!w.params.followText "set-order")) }).push { cls := .type "tuple_iterator", data := .fields #[.ref t, .int 0 0] }).get? s.heap.objs.size
              = some { cls := .type "set", dict := none, data := .set #[] 0 (.fresh 0 0 (!w.params.followText "set-order")) } := Heap.get?_push_of_some _ hS
          exact setT_fresh hget
        case hR =>
          intro s' hm hS'
          obtain ⟨h', g2, d', tk', os'⟩ := s'
          have eg : g2 = s.gens := hm.gens
          have ed : d' = s.drawn := hm.drawn
          have eo : os' = s.os := hm.os
          subst eg; subst ed; subst eo
          show wpAny _ _ _ _ _ _
          refine wpAny_pure ?_
          show wpAny _ _ (ret Value.none) _ _ _
          refine wpAny_pure ⟨rfl, h', tk', rfl, hS', fun b o e => ?_⟩
          have hb0 : b < s.heap.objs.size := Heap.lt_size e
          have hb1 : b ≠ s.heap.objs.size := Nat.ne_of_lt hb0
          have hb2 : b ≠ (s.heap.push { cls := .type "set", dict := none, data := .set #[] 0 (.fresh 0 0 (!w.params.followText "set-order")) }).objs.size := by
            rw [Heap.size_push]; exact Nat.ne_of_lt (Nat.lt_succ_of_lt hb0)
          exact hm.heap b o (by simp only [List.mem_cons, List.mem_singleton, List.not_mem_nil, or_false, not_or]; exact ⟨hb1, hb2⟩) (Heap.get?_push_of_some _ (Heap.get?_push_of_some _ e))
      · cases r₂ with
        | error e => exact hr₂
        | ok fl₂ =>
          cases fl₂ with
          | ret r =>
            obtain ⟨rfl, h', tk, rfl, hS', hk'⟩ := hr₂
            repeat (any_goals (first | assumption | wp_step))
            exact h _ _ hS' hk'
          | _ => exact hr₂.elim
    | _ => exact hr.elim
theorem strs_of_vals : ∀ {vs : List Value}, (∀ v ∈ vs, ∃ k tk, v = Value.str k tk) → ∃ ks, StrsAre vs ks ∧ ks = vs.map fun v => tKey (0, v)
  | [], _ => ⟨[], .nil, rfl⟩
  | v :: vs, h => by
    obtain ⟨k, tk, rfl⟩ := h v List.mem_cons_self
    obtain ⟨ks, h1, h2⟩ := strs_of_vals fun u hu => h u (List.mem_cons_of_mem _ hu)
    exact ⟨k :: ks, .cons k tk h1, by rw [h2]; rfl⟩
/-- sorted(set) -/
theorem sorted_setT {Q : Value → Shared → Prop} (R : SetT w s.heap a l) (hh : A.handled = none) (h64 : l.length < 64)
    (hQ : ∀ s' p (out : List Value) (ys : List Str) (c : Nat), (∀ b o, s.heap.get? b = some o → s'.heap.get? b = some o) → s'.gens = s.gens → s'.os = s.os → s.heap.objs.size ≤ p →
      s'.heap.get? p = some (seqObj "list" out.toArray c) → Vals (ys.map V.str) out → ys.Perm l → sortedS ys = true → Q (.ref p) s') :
    wpAny (model P w) A (call (.builtin "sorted") [.ref a]) Q E s := by
  obtain ⟨o, es, ep, t, ho, hex, hd, g, pl, nd, hb, hf, hr, hl⟩ := R
  have hsz : es.size = l.length := by
    have := pl.length_eq
    rw [List.length_map, Array.length_toList] at this
    exact this
  refine Calls.call_function_entry kind_sorted plain_sorted entry_sorted (args_sorted1 _) ?_
  unfold Builtin.«sorted»
  refine wpAny_bind (m := checkCount "sorted" 1 1 _) (wpAny_pure ?_)
  refine wpAny_bind (collect_set (A := A.in1) hh ⟨o, ho, hex.1, hd⟩ hf hb hr hl fun s1 vs k1 hz g1 o1 pm => ?_)
  have hvl : vs.length = l.length := by rw [pm.length_eq, List.length_map, Array.length_toList]; exact hsz
  obtain ⟨ks, hS2, ek⟩ := strs_of_vals (vs := vs) fun v hv => by
    obtain ⟨e, he, q⟩ := List.mem_map.mp (pm.mem_iff.mp hv)
    obtain ⟨k, tk, h1, _⟩ := g e he
    exact ⟨k, tk, by rw [← q]; exact h1⟩
  have pk : ks.Perm l := by
    have q := pm.map fun v => tKey (0, v)
    rw [List.map_map] at q
    rw [ek]
    exact q.trans pl
  refine wpAny_bind (wpAny_newList ?_ (by rw [hvl, sizeLine_eq]; omega))
  have hoL : (s1.heap.push (seqObj "list" vs.toArray 0)).get? s1.heap.objs.size = some (seqObj "list" vs.toArray 0) := Heap.get?_push_size _ rfl
  show wpAny _ _ _ _ _ { s1 with heap := s1.heap.push (seqObj "list" vs.toArray 0) }
  refine wpAny_bind (wpAny_holding (wpAny_call_entry slot_list_sort ⟨_, hoL, rfl⟩ entry_list_sort
    (list_sort_treeK strKind_oneLt (s := { s1 with heap := s1.heap.push (seqObj "list" vs.toArray 0) }) hoL hS2.keysOf (fun v₁ v₂ rest e => keyKind_strs (by rw [← e]; exact hS2)) (by omega) fun st' hp hs => ⟨_, rfl, ?_⟩)
    (args_list_sort _)))
  obtain ⟨ys, e1, e2, e3⟩ := sorted_out_str hS2 hp hs
  obtain ⟨e', he'⟩ := sortedHeap_at (vs := vs) (out := (arrOf st').map (·.2)) hoL
  refine wpAny_pure ⟨_, rfl, hQ _ s1.heap.objs.size ((arrOf st').map (·.2)).toList ys e' (fun b u e => ?_) g1 o1 hz (by rw [Array.toArray_toList]; exact he') (vals_of_strs e1) (e2.trans pk) e3⟩
  have q := k1 b u e
  have hlt := Heap.lt_size q
  show (sortedHeap (s1.heap.push (seqObj "list" vs.toArray 0)) s1.heap.objs.size vs _).get? b = some u
  rw [sortedHeap_old (Nat.ne_of_lt hlt) (by rw [size_push']; exact Nat.lt_succ_of_lt hlt)]
  exact Heap.get?_push_of_some _ q
end
end Rx
end

section
set_option maxHeartbeats 4000000
/-! Rx: len(set(t)), sorted(set(t)) as expressions. -/
namespace Rx
open PySem PySem.Spec PyProof.Rows L2
theorem unso_in {ss : List String} : ∀ {l : List Str}, (∀ x ∈ l, x ∈ ss.map so) → ∃ l' : List String, l = l'.map so
  | [], _ => ⟨[], rfl⟩
  | x :: r, h => by
    obtain ⟨y, _, e⟩ := List.mem_map.mp (h x List.mem_cons_self)
    obtain ⟨l', e2⟩ := unso_in (l := r) fun z hz => h z (List.mem_cons_of_mem _ hz)
    exact ⟨y :: l', by rw [List.map_cons, e, e2]⟩
theorem mem_so {x : String} {l : List String} : so x ∈ l.map so ↔ x ∈ l := by
  constructor
  · intro h
    obtain ⟨y, hy, e⟩ := List.mem_map.mp h
    rw [← so_inj e]; exact hy
  · intro h; exact List.mem_map.mpr ⟨x, h, rfl⟩
theorem nodup_unso {l : List String} (h : (l.map so).Nodup) : l.Nodup := by
  induction l with
  | nil => exact .nil
  | cons x r ih =>
    rw [List.map_cons, List.nodup_cons] at h
    exact List.nodup_cons.mpr ⟨fun hx => h.1 (mem_so.mpr hx), ih h.2⟩
theorem nodup_fold : ∀ (ns acc : List Str), acc.Nodup → (ns.foldl insT acc).Nodup
  | [], _, h => h
  | x :: r, acc, h => nodup_fold r (insT acc x) (insT_nodup h)
/-- the members, as texts -/
theorem fold_unso (ss : List String) : ∃ l : List String, (ss.map so).foldl insT [] = l.map so ∧ l.Nodup ∧ (∀ x, x ∈ l ↔ x ∈ ss) ∧ l.length ≤ ss.length := by
  have hm := fold_mem (ss.map so) []
  obtain ⟨l, e⟩ := unso_in (ss := ss) (l := (ss.map so).foldl insT []) fun x hx => by simpa using (hm x).mp hx
  have hl := fold_len (ss.map so) []
  rw [e] at hm
  refine ⟨l, e, nodup_unso ?_, fun x => ?_, ?_⟩
  · rw [← e]; exact nodup_fold _ _ .nil
  · rw [← mem_so (l := l), hm (so x)]
    simp only [List.not_mem_nil, false_or]
    exact mem_so
  · rw [e] at hl; simpa using hl
section
variable {X : Cx} {ca : String → Addr} {a : Expr} {ra : RE} {pos : Pos}
theorem e_set {f : String} {w : List String → MM → KV1 → Prop} {p p2 q : Pos} (hc : X.calm = true) (hg : Gl X (so f)) (hm : X.mg (so f) = none) (hv : bootBuiltins (so f) = some (.builtin f)) (hg2 : Gl X "set") (hm2 : X.mg "set" = none) (hs : notStar a = true) (hn : nmOk (so f) = true) (ha : PE X a (liftE (gOf X ca) ra))
    (hcall : ∀ {pins : List (Addr × Obj)} {σ : L2.St} {H1 : Hp} {M1 : MM} {s1 : Shared} {h' : Heap} {tk : Nat} {ss : List String} {Q : VK} {Qa : KV1} {d : Addr}, L2.Inv X pins σ H1 s1 → HRep X.w ca X.K M1 H1 → (∀ b o, s1.heap.get? b = some o → h'.get? b = some o) → SetT X.w h' d ((ss.map so).foldl insT []) → ss.length ≤ 50 → w ss M1 Qa → Hands (gOf X ca) H1 Qa Q → 
      wpAny (model X.prog X.w) X.A (call (.builtin f) [.ref d]) (EP X pins σ Q) X.xe { s1 with heap := h', toks := tk }) :
    PE X (.Call (.Name (so f) p) [.Call (.Name "set" p2) [a] [] q] [] pos) (liftE (gOf X ca) fun g M Q => ra g M fun p M1 => setR (fun ss M => w ss M Q) p M1) := by
  refine ⟨fun pins s σ H Q I ⟨g, M, Qa, rel, run, hk⟩ => ?_⟩
  have na := star_ok hs X.env (es := [])
  refine wpAny_Call_Name_kw (ld_blt I hg hm hv (hn := nm_name hn) (hd := nm_dbg hn) ?_)
  refine PyProof.Rows.callWith_builtin1 (PyProof.Rows.args_cons ?_ rfl) rfl rfl
  refine wpAny_Call_Name_kw (ld_blt I hg2 hm2 (u := .type "set") (by decide +kernel) ?_)
  refine PyProof.Rows.callWith_type1 (PyProof.Rows.args_cons (thn (ha.run pins s σ H (fun v H1 => ∃ t ss M1, v = .ref t ∧ HRep X.w ca X.K M1 H1 ∧ Keep H H1 ∧ SqT X.K H1 t ((ss.map so).map V.str) ∧ ss.length ≤ 50 ∧ w ss M1 Qa) I
    (lift_run rel run fun p M1 v H1 rel1 rp k1 q1 => ?_)) fun u s1 ⟨v, H1, I1, ru, t, ss, M1, ev, hM, k1, hT, h50, q⟩ => PyProof.Rows.args_nil ?_) na) na rfl
  · unfold setR at q1
    split at q1
    · split at q1
      · rename_i xs ss hss
        cases rp with
        | tup ha rr =>
          have e := strs_rep hss rr
          refine ⟨_, ss, M1, rfl, rel1.h, k1, ?_, q1.1, q1.2⟩
          rw [List.map_map]
          rw [e] at ha
          exact ha.sq
      · exact q1.elim
    · exact q1.elim
  · subst ev
    cases ru
    obtain ⟨its, r, pl, hz⟩ := I1.tuple hT
    refine call_set_tupT (ss.map so) (I1.ok.hd hc) pl (by simpa using strsAre_of r) (by rw [List.length_map]; unfold scanBound; omega) fun h' tk hS hk2 => ?_
    refine PyProof.Rows.args_nil ?_
    exact hcall I1 hM hk2 hS h50 q (hands_of hk k1)
theorem e_lset {p p2 q : Pos} (hc : X.calm = true) (hg : Gl X "len") (hm : X.mg "len" = none) (hg2 : Gl X "set") (hm2 : X.mg "set" = none) (hs : notStar a = true) (ha : PE X a (liftE (gOf X ca) ra)) :
    PE X (.Call (.Name "len" p) [.Call (.Name "set" p2) [a] [] q] [] pos) (liftE (gOf X ca) fun g M Q => ra g M fun p M1 => setR (fun ss M => ∀ l : List String, l.Nodup → (∀ x, x ∈ l ↔ x ∈ ss) → Q (.int l.length) M) p M1) :=
  e_set (f := "len") (w := fun ss M Q => ∀ l : List String, l.Nodup → (∀ x, x ∈ l ↔ x ∈ ss) → Q (.int l.length) M) hc hg hm boot_len hg2 hm2 hs (by decide +kernel) ha fun {pins σ H1 M1 s1 h' tk ss Q Qa d} I1 hM hk2 hS h50 q hk => by
    obtain ⟨l, e, nd, mem, hl⟩ := fold_unso ss
    rw [e] at hS
    obtain ⟨o, es, ep, t, ho, hex, hd, _, pl, _, hb, hf, _, _⟩ := hS
    have hn : es.size = l.length := by
      have := pl.length_eq
      rw [List.length_map, Array.length_toList, List.length_map] at this
      exact this
    have I2 : L2.Inv X pins σ H1 { s1 with heap := h', toks := tk } := I1.kept hk2
    exact call_len_set ho hex hd hf (by rw [hn]; omega) ⟨.int l.length, H1, I2.tok _, ⟨_, by rw [hn]⟩, hk (.int l.length) M1 (.int l.length) H1 hM (.int _) (Keep.refl H1) (q l nd mem)⟩
theorem e_sset {p p2 q : Pos} (hc : X.calm = true) (hg : Gl X "sorted") (hm : X.mg "sorted" = none) (hg2 : Gl X "set") (hm2 : X.mg "set" = none) (hs : notStar a = true) (ha : PE X a (liftE (gOf X ca) ra)) :
    PE X (.Call (.Name "sorted" p) [.Call (.Name "set" p2) [a] [] q] [] pos) (liftE (gOf X ca) fun g M Q => ra g M fun p M1 => setR (fun ss M => ∀ l : List String, l.Nodup → (∀ x, x ∈ l ↔ x ∈ ss) → sortedT l = true → newL (l.map .str) M Q) p M1) :=
  e_set (f := "sorted") (w := fun ss M Q => ∀ l : List String, l.Nodup → (∀ x, x ∈ l ↔ x ∈ ss) → sortedT l = true → newL (l.map .str) M Q) hc hg hm (by decide +kernel) hg2 hm2 hs (by decide +kernel) ha fun {pins σ H1 M1 s1 h' tk ss Q Qa d} I1 hM hk2 hS h50 q hk => by
    obtain ⟨l, e, nd, mem, hl⟩ := fold_unso ss
    rw [e] at hS
    have I2 : L2.Inv X pins σ H1 { s1 with heap := h', toks := tk } := I1.kept hk2
    refine sorted_setT (s := { s1 with heap := h', toks := tk }) hS (I2.ok.hd hc) (by rw [List.length_map]; omega) fun s' p out ys c k g o hp hg hv hperm hsrt => ?_
    obtain ⟨zs, rfl, hz⟩ := unso hperm
    have hlen : ((zs.map so).map V.str).length ≤ sizeLine := by rw [List.length_map, List.length_map, hz.length_eq, sizeLine_eq]; omega
    have hn : H1 p = none := I2.hok.fresh hp
    have J : L2.Inv X pins σ (upd H1 p (.lst ((zs.map so).map V.str))) { s1 with heap := s'.heap, gens := s'.gens, drawn := s'.drawn, toks := s'.toks } :=
      L2.Inv.call (s := { s1 with heap := h', toks := tk }) I2 (ch := []) (Un.laid k hp hn) (I2.hok.laid k hp ⟨hlen, out, c, hv, hg⟩) (by rw [g]; exact I2.bare) (fun _ z => nomatch z)
    have e : s' = { s1 with heap := s'.heap, gens := s'.gens, drawn := s'.drawn, toks := s'.toks } := by
      cases s'
      cases s1
      cases o
      rfl
    rw [e]
    exact ⟨.ref p, _, J, rfl, hk.strs hM (q zs (hz.nodup_iff.mpr nd) (fun x => (hz.mem_iff).trans (mem x)) hsrt) p hn⟩
end
end Rx
end

section
set_option maxHeartbeats 4000000
/-! Rx: every text that is matched is borne out. -/
namespace Rx
open PySem PySem.Spec PyProof.Rows L2
variable {Γ : Gm} {ca : String → Addr}
def isBo : E → Bool
  | .one _ => true
  | .andE _ _ => true
  | .orE _ _ => true
  | _ => false
theorem reE {X : Cx} {pe : Expr} {r r' : RE} (h : PE X pe (liftE (gOf X ca) r)) (i : ∀ g M Q, r' g M Q → r g M Q) : PE X pe (liftE (gOf X ca) r') := PE.imp h fun σ H Q ⟨g, M, Qa, rel, run, hk⟩ => ⟨g, M, Qa, rel, i _ _ _ run, hk⟩
theorem reT {X : Cx} {pe : Expr} {r r' : RT} (h : PT X pe (liftT (gOf X ca) r)) (i : ∀ g M Q, r' g M Q → r g M Q) : PT X pe (liftT (gOf X ca) r') := PT.imp h fun σ H Q ⟨g, M, Qa, rel, run, hk⟩ => ⟨g, M, Qa, rel, i _ _ _ run, hk⟩
theorem reW {X : Cx} {pe : Expr} {r r' : RT} (h : PW X pe (liftT (gOf X ca) r)) (i : ∀ g M Q, r' g M Q → r g M Q) : PW X pe (liftT (gOf X ca) r') := PW.imp h fun σ H Q ⟨g, M, Qa, rel, run, hk⟩ => ⟨g, M, Qa, rel, i _ _ _ run, hk⟩
theorem reA {X : Cx} {pe : List Expr} {r r' : RA} (h : PA X pe (liftA (gOf X ca) r)) (i : ∀ g M Q, r' g M Q → r g M Q) : PA X pe (liftA (gOf X ca) r') := PA.imp h fun σ H Q ⟨g, M, Qa, rel, run, hk⟩ => ⟨g, M, Qa, rel, i _ _ _ run, hk⟩
theorem reO {X : Cx} {pe : Option Expr} {r r' : Sg → MM → (Option Int → MM → Prop) → Prop} (h : PO X pe (liftO (gOf X ca) r)) (i : ∀ g M Q, r' g M Q → r g M Q) : PO X pe (liftO (gOf X ca) r') := PO.imp h fun σ H Q ⟨g, M, Qa, rel, run, hk⟩ => ⟨g, M, Qa, rel, i _ _ _ run, hk⟩
theorem reC {X : Cx} {pe : List Expr} {r r' : RT} (h : PTs X pe (liftT (gOf X ca) r)) (i : ∀ g M Q, r' g M Q → r g M Q) : PTs X pe (liftT (gOf X ca) r') := ⟨fun pins s σ H Q I ⟨g, M, Qa, rel, run, hk⟩ => h.run pins s σ H Q I ⟨g, M, Qa, rel, i _ _ _ run, hk⟩⟩
theorem reI {X : Cx} {t : Tg} {tg pe : Expr} {r r' : Sg → MM → RI → Prop} (h : PI X tg pe (liftI X ca t r)) (i : ∀ g M Q, r' g M Q → r g M Q) : PI X tg pe (liftI X ca t r') := ⟨fun pins s σ H R I ⟨g, M, Qa, rel, run, hk⟩ => h.run pins s σ H R I ⟨g, M, Qa, rel, i _ _ _ run, hk⟩⟩
theorem reG {X : Cx} {t : Tg} {tg : Expr} {r r' : PV → Sg → MM → (Sg → MM → Prop) → Prop} (h : PG X tg (liftG X ca t r)) (i : ∀ p g M k, r' p g M k → r p g M k) : PG X tg (liftG X ca t r') := PG.imp h fun v σ H Q ⟨p, g, M, k, rel, rp, run, hk⟩ => ⟨p, g, M, k, rel, rp, i _ _ _ _ run, hk⟩
theorem reGs {X : Cx} {t : Tgs} {tg : List Expr} {r r' : List PV → Sg → MM → (Sg → MM → Prop) → Prop} (h : PGs X tg (liftGs X ca t r)) (i : ∀ p g M k, r' p g M k → r p g M k) : PGs X tg (liftGs X ca t r') := PGs.imp h fun v σ H Q ⟨p, g, M, k, rel, rp, run, hk⟩ => ⟨p, g, M, k, rel, rp, i _ _ _ _ run, hk⟩
theorem reD {X : Cx} {pos : Pos} {ks : List (Option Expr)} {vs : List Expr} {r r' : Sg → MM → (List (PV × PV) → MM → Prop) → Prop} (h : PDs X ca pos ks vs r) (i : ∀ g M Q, r' g M Q → r g M Q) : PDs X ca pos ks vs r' :=
  ⟨h.len, h.som, let ⟨trs, a, b, c⟩ := h.run; ⟨trs, a, b, fun σ H Q ⟨g, M, Qa, rel, run, hk⟩ => c σ H Q ⟨g, M, Qa, rel, i _ _ _ run, hk⟩⟩⟩
theorem tgs_len {N : List Str} {sc : Scope} {F : Str → Bool} : ∀ {ts : Tgs} {xs : List Expr}, okTgs N sc F ts xs = true → True := fun _ => True.intro
theorem un_ok {X : Cx} (k : Kn Γ ca X) : X.A.units + 65 < cLine := k.un
theorem isT_plain {e : Expr} (h : isPl e = true) {env : Env} : ∀ whole, isTrue e env whole = (do let v ← whole; standAt e.pos; holding [v] (truthy v)) := by
  intro whole
  cases e with
  | UnaryOp op x p => cases op <;> first | rfl | cases h
  | BoolOp => cases h
  | IfExp => cases h
  | Compare => cases h
  | _ => rfl
theorem okI_fset {N : List Str} {sc : Scope} {F : Str → Bool} {it : It} {t : Tg} {tg pe : Expr} {env : Env} (h : okI N sc F it t tg pe = true) : ∀ x, foldedSetIterable pe env x = pure x := fun x => by
  refine fset_ok (e := pe) ?_ env x
  cases pe with
  | Set a b c =>
    cases it with
    | val e => exact absurd (show false = true from and1 (show (notSet (.Set a b c) && okE N sc F e (.Set a b c)) = true from h)) Bool.false_ne_true
    | enum e => cases t <;> cases tg <;> cases h
    | zip a b => cases t <;> cases tg <;> cases h
    | items e => cases t <;> cases tg <;> cases h
    | _ => cases h
  | _ => rfl
theorem e_never {X : Cx} {pe : Expr} : PE X pe (liftE (gOf X ca) fun _ _ _ => False) := ⟨fun pins s σ H Q I ⟨g, M, Qa, rel, run, hk⟩ => run.elim⟩
theorem t_never {X : Cx} {pe : Expr} : PT X pe (liftT (gOf X ca) fun _ _ _ => False) := ⟨fun pins s σ H Q I ⟨g, M, Qa, rel, run, hk⟩ => run.elim⟩
theorem i_never {X : Cx} {tg pe : Expr} {t : Tg} : PI X tg pe (liftI X ca t fun _ _ _ => False) := ⟨fun pins s σ H Q I ⟨g, M, Qa, rel, run, hk⟩ => run.elim⟩
theorem loc_ok {X : Cx} {sc : Scope} {F : Str → Bool} {x : Str} (e : X.env.scope = sc) (hf : ∀ x, F x = true → X.fn x = true) (h : (decide (sc.names.lookup x = some .local) || (decide (sc.names.lookup x = some .cell) && F x)) = true) : Loc X.env.scope x ∧ (X.fn x = true ∨ X.env.scope.names.lookup x = some .local) := by
  rw [e]
  rcases Bool.or_eq_true_iff.mp h with z | z
  · have := of_decide_eq_true z
    exact ⟨.inl this, .inr this⟩
  · exact ⟨.inr (of_decide_eq_true (and1 z)), .inl (hf x (and2 z))⟩
mutual
theorem sndE : ∀ (e : E) ⦃xk : XW⦄ ⦃N : List Str⦄ ⦃sc : Scope⦄ ⦃F : Str → Bool⦄ ⦃X : Cx⦄ ⦃pe : Expr⦄, XOk Γ ca xk N sc F X → okE N sc F e pe = true → PE X pe (liftE (gOf X ca) (runE Γ e xk))
  | .var i => by
    intro xk N sc F X pe K h
    cases pe with
    | Name x p =>
      have h : ((decide (N[i]? = some x) && visB sc x) && nmOk x) = true := h
      exact reE (e_var (by rw [K.eN]; exact of_decide_eq_true (and1 (and1 h))) (vis_ok K.eS (and2 (and1 h))) (nm_dbg (and2 h)) (nm_cd (and2 h))) fun _ _ _ h => h
    | _ => cases h
  | .glo x => by
    intro xk N sc F X pe K h
    cases pe with
    | Name y p =>
      have h : ((decide (y = so x) && glb sc y) && nmOk y) = true := h
      cases of_decide_eq_true (and1 (and1 h))
      cases hc : Γ.co x with
      | none =>
        refine reE e_never fun g M Q q => ?_
        have q : (match Γ.co x with | some p => Q p M | none => False) := q
        rw [hc] at q; exact q
      | some q =>
        obtain ⟨u, v, h1, h2, h3⟩ := K.kn.co x q hc
        refine reE (e_const (pe_glob (gl_ok K.eS (and2 (and1 h))) h1 h2 (nm_dbg (and2 h))) h3) fun g M Q z => ?_
        have z : (match Γ.co x with | some p => Q p M | none => False) := z
        rw [hc] at z; exact z
    | _ => cases h
  | .int i => by
    intro xk N sc F X pe K h
    cases pe with
    | Constant c k p =>
      cases c with
      | int j =>
        cases of_decide_eq_true (show decide (i = j) = true from h)
        exact reE (e_const pe_int fun _ => .int i) fun _ _ _ h => h
      | _ => cases h
    | _ => cases h
  | .str x => by
    intro xk N sc F X pe K h
    cases pe with
    | Constant c k p =>
      cases c with
      | str y =>
        cases of_decide_eq_true (show decide (so x = y) = true from h)
        exact reE (e_const pe_str fun _ => .str x) fun _ _ _ h => h
      | _ => cases h
    | _ => cases h
  | .bl x => by
    intro xk N sc F X pe K h
    cases pe with
    | Constant c k p =>
      cases c with
      | bool y =>
        cases of_decide_eq_true (show decide (x = y) = true from h)
        exact reE (e_const pe_bl fun _ => .bl x) fun _ _ _ h => h
      | _ => cases h
    | _ => cases h
  | .non => by
    intro xk N sc F X pe K h
    cases pe with
    | Constant c k p =>
      cases c with
      | none => exact reE (e_const pe_non fun _ => .non) fun _ _ _ h => h
      | _ => cases h
    | _ => cases h
  | .bin op a b => by
    intro xk N sc F X pe K h
    cases pe with
    | BinOp x o y p =>
      have h : (decide (op = o) && (okE N sc F a x && okE N sc F b y)) = true := h
      cases of_decide_eq_true (and1 h)
      exact reE (e_bin _ (sndE a K (and1 (and2 h))) (sndE b K (and2 (and2 h)))) fun _ _ _ h => h
    | _ => cases h
  | .neg a => by
    intro xk N sc F X pe K h
    cases pe with
    | UnaryOp o x p =>
      cases o with
      | USub => exact reE (e_neg (sndE a K h)) fun _ _ _ h => h
      | _ => cases h
    | _ => cases h
  | .cmp op a b => by
    intro xk N sc F X pe K h
    cases pe with
    | Compare x os ys p =>
      cases os with
      | nil => cases h
      | cons o os =>
        cases os with
        | cons => cases ys with
          | nil => cases h
          | cons y ys => cases h
        | nil =>
          cases ys with
          | nil => cases h
          | cons y ys =>
            cases ys with
            | cons => cases h
            | nil =>
              have h : ((decide (op = o) && notSet y) && (okE N sc F a x && okE N sc F b y)) = true := h
              cases of_decide_eq_true (and1 (and1 h))
              exact reE (e_cmp _ K.kn.un (behind_ok (and2 (and1 h))) (sndE a K (and1 (and2 h))) (sndE b K (and2 (and2 h)))) fun _ _ _ h => h
    | _ => cases h
  | .chain o1 o2 a b c => by
    intro xk N sc F X pe K h
    cases pe with
    | Compare x os ys p =>
      match os, ys, h with
      | [p1, p2], [y, z], h =>
        have h : (((decide (o1 = p1) && decide (o2 = p2)) && (notSet y && notSet z)) && (okE N sc F a x && (okE N sc F b y && okE N sc F c z))) = true := h
        cases of_decide_eq_true (and1 (and1 (and1 h)))
        cases of_decide_eq_true (and2 (and1 (and1 h)))
        exact reE (e_chain _ _ K.kn.un (behind_ok (and2 (and2 (and1 h)))) (sndE a K (and1 (and2 h))) (sndE b K (and1 (and2 (and2 h)))) (sndE c K (and2 (and2 (and2 h))))) fun _ _ _ h => h
    | _ => cases h
  | .notE a => by
    intro xk N sc F X pe K h
    cases pe with
    | UnaryOp o x p =>
      cases o with
      | Not => exact reE (e_not (sndE a K h)) fun _ _ _ h => h
      | _ => cases h
    | _ => cases h
  | .andE a b => by
    intro xk N sc F X pe K h
    cases pe with
    | BoolOp o xs p =>
      match o, xs, h with
      | .And, x :: y :: r, h =>
        have h : (okE N sc F a x && okE N sc F b (.BoolOp .And (y :: r) p)) = true := h
        exact reE (e_and (sndE a K (and1 h)) (sndE b K (and2 h))) fun _ _ _ h => h
    | _ => cases h
  | .orE a b => by
    intro xk N sc F X pe K h
    cases pe with
    | BoolOp o xs p =>
      match o, xs, h with
      | .Or, x :: y :: r, h =>
        have h : (okE N sc F a x && okE N sc F b (.BoolOp .Or (y :: r) p)) = true := h
        exact reE (e_or (sndE a K (and1 h)) (sndE b K (and2 h))) fun _ _ _ h => h
    | _ => cases h
  | .one a => by
    intro xk N sc F X pe K h
    cases pe with
    | BoolOp o xs p =>
      match xs, h with
      | [x], h => exact reE (PE.imp (pe_one (sndE a K h)) fun _ _ _ q => q) fun _ _ _ h => h
    | _ => cases h
  | .ite c a b => by
    intro xk N sc F X pe K h
    cases pe with
    | IfExp x y z p =>
      have h : (okE N sc F c x && (okE N sc F a y && okE N sc F b z)) = true := h
      exact reE (e_ite (sndT c K (and1 h)) (sndE a K (and1 (and2 h))) (sndE b K (and2 (and2 h)))) fun _ _ _ h => h
    | _ => cases h
  | .tup es => by
    intro xk N sc F X pe K h
    cases pe with
    | Tuple xs k p => exact reE (e_tup (sndEs es K h)) fun _ _ _ h => h
    | _ => cases h
  | .lst es => by
    intro xk N sc F X pe K h
    cases pe with
    | List xs p => exact reE (e_lst (sndEs es K h)) fun _ _ _ h => h
    | _ => cases h
  | .dct ps => by
    intro xk N sc F X pe K h
    cases pe with
    | Dict ks vs p =>
      have h : (decide (ks.length ≤ 15) && okPs N sc F ps ks vs) = true := h
      exact reE (e_dct (sndPs ps K (and2 h)) (of_decide_eq_true (and1 h))) fun _ _ _ h => h
    | _ => cases h
  | .dctK ps => by
    intro xk N sc F X pe K h
    cases pe with
    | Dict ks vs p =>
      have h : (decide (ks.length ≤ 15 ∧ ks ≠ []) && okPs N sc F ps ks vs) = true := h
      exact reE (e_dctK K.kn.un (of_decide_eq_true (and1 h)).2 (sndPs ps K (and2 h)) (of_decide_eq_true (and1 h)).1) fun _ _ _ h => h
    | _ => cases h
  | .fld o f => by
    intro xk N sc F X pe K h
    cases pe with
    | Attribute x y p =>
      have h : ((decide (y = so f) && plainO x) && okE N sc F o x) = true := h
      cases of_decide_eq_true (and1 (and1 h))
      exact reE (e_fld (and2 (and1 h)) (sndE o K (and2 h))) fun _ _ _ h => h
    | _ => cases h
  | .prop o f => by
    intro xk N sc F X pe K h
    cases pe with
    | Attribute x y p =>
      have h : ((decide (y = so f) && plainO x) && okE N sc F o x) = true := h
      cases of_decide_eq_true (and1 (and1 h))
      exact reE (e_prop K (and2 (and1 h)) (sndE o K (and2 h))) fun _ _ _ h => h
    | _ => cases h
  | .sub a i => by
    intro xk N sc F X pe K h
    cases pe with
    | Subscript x y p =>
      have h : (notSlice y && (okE N sc F a x && okE N sc F i y)) = true := h
      exact reE (e_sub K.kn.un (and1 h) (sndE a K (and1 (and2 h))) (sndE i K (and2 (and2 h)))) fun _ _ _ h => h
    | _ => cases h
  | .slc a lo hi => by
    intro xk N sc F X pe K h
    cases pe with
    | Subscript x y p =>
      cases y with
      | Slice l r st q =>
        cases st with
        | some => cases h
        | none =>
          have h : (okE N sc F a x && (okO N sc F lo l && okO N sc F hi r)) = true := h
          exact reE (e_slc (sndE a K (and1 h)) (sndO lo K (and1 (and2 h))) (sndO hi K (and2 (and2 h)))) fun _ _ _ h => h
      | _ => cases h
    | _ => cases h
  | .call f as => by
    intro xk N sc F X pe K h
    cases pe with
    | Call g xs kw p =>
      match g, kw, h with
      | .Name y q, [], h =>
        have h : (((decide (y = so f) && glb sc y) && (nmOk y && xs.all notStar)) && okEs N sc F as xs) = true := h
        cases of_decide_eq_true (and1 (and1 (and1 h)))
        exact reE (e_call K (and2 (and1 (and1 h))) (and1 (and2 (and1 h))) (and2 (and2 (and1 h))) (sndEs as K (and2 h))) fun _ _ _ h => h
    | _ => cases h
  | .mk f as => by
    intro xk N sc F X pe K h
    cases pe with
    | Call g xs kw p =>
      match g, kw, h with
      | .Name y q, [], h =>
        have h : (((decide (y = so f) && glb sc y) && (nmOk y && xs.all notStar)) && okEs N sc F as xs) = true := h
        cases of_decide_eq_true (and1 (and1 (and1 h)))
        exact reE (e_mk K (and2 (and1 (and1 h))) (and1 (and2 (and1 h))) (and2 (and2 (and1 h))) (sndEs as K (and2 h))) fun _ _ _ h => h
    | _ => cases h
  | .bi f as => by
    intro xk N sc F X pe K h
    cases pe with
    | Call g xs kw p =>
      match g, kw, h with
      | .Name y q, [], h =>
        have h : (((decide (y = so f) && glb sc y) && ((nmOk y && xs.all notStar) && (biCalls.contains f && !xs.isEmpty))) && okEs N sc F as xs) = true := h
        cases of_decide_eq_true (and1 (and1 (and1 h)))
        have z := and2 (and1 h)
        exact reE (e_bi K (and1 (and2 z)) (and2 (and1 (and1 h))) (and1 (and1 z)) (and2 (and1 z)) (by simpa using and2 (and2 z)) (sndEs as K (and2 h))) fun _ _ _ h => h
    | _ => cases h
  | .isi x t => by
    intro xk N sc F X pe K h
    cases pe with
    | Call g xs kw p =>
      match g, xs, kw, h with
      | .Name y q, [e, .Name z q2], [], h =>
        have h : ((((decide (y = so "isinstance") && glb sc y) && (decide (z = so t) && glb sc z)) && ((nmOk z && notStar e) && isiT.contains t)) && okE N sc F x e) = true := h
        cases of_decide_eq_true (and1 (and1 (and1 (and1 h))))
        cases of_decide_eq_true (and1 (and2 (and1 (and1 h))))
        have z := and2 (and1 h)
        exact reE (e_isi K (and2 z) (and2 (and1 (and1 (and1 h)))) (and2 (and2 (and1 (and1 h)))) (and1 (and1 z)) (and2 (and1 z)) (sndE x K (and2 h))) fun _ _ _ h => h
    | _ => cases h
  | .isc x t => by
    intro xk N sc F X pe K h
    cases pe with
    | Call g xs kw p =>
      match g, xs, kw, h with
      | .Name y q, [e, .Name z q2], [], h =>
        have h : ((((decide (y = so "isinstance") && glb sc y) && (decide (z = so t) && glb sc z)) && (nmOk z && notStar e)) && okE N sc F x e) = true := h
        cases of_decide_eq_true (and1 (and1 (and1 (and1 h))))
        cases of_decide_eq_true (and1 (and2 (and1 (and1 h))))
        have z := and2 (and1 h)
        exact reE (e_isc K (and2 (and1 (and1 (and1 h)))) (and2 (and2 (and1 (and1 h)))) (and1 z) (and2 z) (sndE x K (and2 h))) fun _ _ _ h => h
    | _ => cases h
  | .eqO a b => by
    intro xk N sc F X pe K h
    cases pe with
    | Compare x os ys p =>
      match os, ys, h with
      | [o], [y], h =>
        have h : ((decide (o = .Eq) && notSet y) && (okE N sc F a x && okE N sc F b y)) = true := h
        cases of_decide_eq_true (and1 (and1 h))
        exact reE (e_eqO K (behind_ok (and2 (and1 h))) (sndE a K (and1 (and2 h))) (sndE b K (and2 (and2 h)))) fun _ _ _ h => h
    | _ => cases h
  | .neO a b => by
    intro xk N sc F X pe K h
    cases pe with
    | Compare x os ys p =>
      match os, ys, h with
      | [o], [y], h =>
        have h : ((decide (o = .NotEq) && notSet y) && (okE N sc F a x && okE N sc F b y)) = true := h
        cases of_decide_eq_true (and1 (and1 h))
        exact reE (e_neO K (behind_ok (and2 (and1 h))) (sndE a K (and1 (and2 h))) (sndE b K (and2 (and2 h)))) fun _ _ _ h => h
    | _ => cases h
  | .rev a => by
    intro xk N sc F X pe K h
    cases pe with
    | Subscript x y p =>
      match y, h with
      | .Slice none none (some (.UnaryOp .USub (.Constant (.int j) k p1) p2)) p3, h =>
        have h : (decide (j = 1) && okE N sc F a x) = true := h
        cases of_decide_eq_true (and1 h)
        exact reE (e_rev (sndE a K (and2 h))) fun _ _ _ h => h
    | _ => cases h
  | .lit d => by
    intro xk N sc F X pe K h
    cases pe with
    | Call g xs kw p =>
      match g, xs, kw, h with
      | .Name y q, [.Call (.Attribute x z ap) [] [] cp], [], h =>
        have h : ((((decide (y = so "list") && glb sc y) && (decide (z = so "items") && plainO x)) && decide (ap.endLine = cp.line)) && okE N sc F d x) = true := h
        cases of_decide_eq_true (and1 (and1 (and1 (and1 h))))
        cases of_decide_eq_true (and1 (and2 (and1 (and1 h))))
        exact reE (e_lit K.calm (gl_ok K.eS (and2 (and1 (and1 (and1 h))))) (K.kn.bi "list" (by decide)) (and2 (and2 (and1 (and1 h)))) (of_decide_eq_true (and2 (and1 h))) (sndE d K (and2 h))) fun _ _ _ h => h
    | _ => cases h
  | .lset a => by
    intro xk N sc F X pe K h
    cases pe with
    | Call g xs kw p =>
      match g, xs, kw, h with
      | .Name y q, [.Call (.Name z q2) [x] [] cp], [], h =>
        have h : ((((decide (y = so "len") && glb sc y) && (decide (z = so "set") && glb sc z)) && notStar x) && okE N sc F a x) = true := h
        cases of_decide_eq_true (and1 (and1 (and1 (and1 h))))
        cases of_decide_eq_true (and1 (and2 (and1 (and1 h))))
        exact reE (e_lset K.calm (gl_ok K.eS (and2 (and1 (and1 (and1 h))))) (K.kn.bi "len" (by decide)) (gl_ok K.eS (and2 (and2 (and1 (and1 h))))) (K.kn.bi "set" (by decide)) (and2 (and1 h)) (sndE a K (and2 h))) fun _ _ _ h => h
    | _ => cases h
  | .sset a => by
    intro xk N sc F X pe K h
    cases pe with
    | Call g xs kw p =>
      match g, xs, kw, h with
      | .Name y q, [.Call (.Name z q2) [x] [] cp], [], h =>
        have h : ((((decide (y = so "sorted") && glb sc y) && (decide (z = so "set") && glb sc z)) && notStar x) && okE N sc F a x) = true := h
        cases of_decide_eq_true (and1 (and1 (and1 (and1 h))))
        cases of_decide_eq_true (and1 (and2 (and1 (and1 h))))
        exact reE (e_sset K.calm (gl_ok K.eS (and2 (and1 (and1 (and1 h))))) (K.kn.bi "sorted" (by decide)) (gl_ok K.eS (and2 (and2 (and1 (and1 h))))) (K.kn.bi "set" (by decide)) (and2 (and1 h)) (sndE a K (and2 h))) fun _ _ _ h => h
    | _ => cases h
  | .dst d k v => by
    intro xk N sc F X pe K h
    cases pe with
    | Dict ks vs p =>
      match ks, vs, h with
      | [none, some x], [y, z], h =>
        have h : (okE N sc F d y && (okE N sc F k x && okE N sc F v z)) = true := h
        exact reE (e_dst (sndE d K (and1 h)) (sndE k K (and1 (and2 h))) (sndE v K (and2 (and2 h)))) fun _ _ _ h => h
    | _ => cases h
  | .meth o m as => by
    intro xk N sc F X pe K h
    cases pe with
    | Call g xs kw p =>
      match g, kw, h with
      | .Attribute x y ap, [], h =>
        have h : (((decide (y = so m) && plainO x) && ((decide (ap.endLine = p.line) && decide (xs.length < 29)) && xs.all notStar)) && (okE N sc F o x && okEs N sc F as xs)) = true := h
        cases of_decide_eq_true (and1 (and1 (and1 h)))
        have z := and2 (and1 h)
        exact reE (e_meth K (and2 (and1 (and1 h))) (of_decide_eq_true (and1 (and1 z))) (of_decide_eq_true (and2 (and1 z))) (and2 z) (sndE o K (and1 (and2 h))) (sndEs as K (and2 (and2 h)))) fun _ _ _ h => h
    | _ => cases h
  | .bm t o m as => by
    intro xk N sc F X pe K h
    cases pe with
    | Call g xs kw p =>
      match g, kw, h with
      | .Attribute x y ap, [], h =>
        have h : ((((decide (y = so m) && bmCalls.contains (t, m)) && plainO x) && ((decide (ap.endLine = p.line) && decide (xs.length < 29)) && xs.all notStar)) && (okE N sc F o x && okEs N sc F as xs)) = true := h
        cases of_decide_eq_true (and1 (and1 (and1 (and1 h))))
        have z := and2 (and1 h)
        exact reE (e_bm K.kn.un (and2 (and1 (and1 (and1 h)))) (and2 (and1 (and1 h))) (of_decide_eq_true (and1 (and1 z))) (of_decide_eq_true (and2 (and1 z))) (and2 z) (sndE o K (and1 (and2 h))) (sndEs as K (and2 (and2 h)))) fun _ _ _ h => h
    | _ => cases h
  | .lc elt x it c own => by
    intro xk N sc F X pe K h
    cases pe with
    | ListComp e gs scope p =>
      match gs, h with
      | [⟨t, i, ifs, 0⟩], h =>
        have h : ((((blkC N sc scope (own.map fun p => (so p.1, p.2)) && (tgSl x).all fun i => (own.map (·.2)).contains i) && (okI N sc F it x t i && okTg N (relS scope sc) (blkF scope) x t)) && (okC N (relS scope sc) (blkF scope) c ifs && okE N (relS scope sc) (blkF scope) elt e))) = true := h
        have b := blkOk_by (and1 (and1 (and1 h)))
        have hsl : ∀ j ∈ tgSl x, j ∈ own.map (·.2) := fun j hj => by simpa using (List.all_eq_true.mp (and2 (and1 (and1 h)))) j hj
        have eo : (own.map fun p => (so p.1, p.2)).map (·.2) = own.map (·.2) := by rw [List.map_map]; rfl
        have z := e_lc (X := X) (ca := ca) (t := x) (pos := p) (elt := e) (own := own.map fun p => (so p.1, p.2)) K.calm K.nd (sndI it (t := x) K (and1 (and2 (and1 h)))) (by rw [K.eN, K.eS]; exact b) (by rw [eo]; exact hsl)
          (fun s H C cl fp => sndTg x K.blk (and2 (and2 (and1 h)))) (fun s H C cl fp => sndC c K.blk (and1 (and2 h))) (fun s H C cl fp => sndE elt K.blk (and2 (and2 h))) (okI_fset (and1 (and2 (and1 h))))
        rw [eo] at z
        exact reE z fun _ _ _ h => h
    | _ => cases h
  | .lc2 elt x it x1 it1 c1 own vs1 => by
    intro xk N sc F X pe K h
    cases pe with
    | ListComp e gs scope p =>
      match gs, h with
      | [⟨t, i, [], 0⟩, ⟨t1, i1, ifs1, 0⟩], h =>
        have h : (((blkC N sc scope (own.map fun p => (so p.1, p.2)) && ((tgSl x).all (fun i => (own.map (·.2)).contains i) && ((tgSl x1).all (fun i => vs1.contains i) && vs1.all fun i => (own.map (·.2)).contains i))) && (okI N sc F it x t i && okTg N (relS scope sc) (blkF scope) x t)) &&
          ((okI N (relS scope sc) (blkF scope) it1 x1 t1 i1 && okTg N (relS scope sc) (blkF scope) x1 t1) && (okC N (relS scope sc) (blkF scope) c1 ifs1 && okE N (relS scope sc) (blkF scope) elt e))) = true := h
        have ha := and1 (and1 h)
        have hb := and2 (and1 h)
        have hc := and1 (and2 h)
        have hd := and2 (and2 h)
        have b := blkOk_by (and1 ha)
        have hsl : ∀ j ∈ tgSl x, j ∈ own.map (·.2) := fun j hj => by simpa using (List.all_eq_true.mp (and1 (and2 ha))) j hj
        have hsl1 : ∀ j ∈ tgSl x1, j ∈ vs1 := fun j hj => by simpa using (List.all_eq_true.mp (and1 (and2 (and2 ha)))) j hj
        have hv : ∀ j ∈ vs1, j ∈ own.map (·.2) := fun j hj => by simpa using (List.all_eq_true.mp (and2 (and2 (and2 ha)))) j hj
        have eo : (own.map fun p => (so p.1, p.2)).map (·.2) = own.map (·.2) := by rw [List.map_map]; rfl
        have z := e_lc2 (X := X) (ca := ca) (t := x) (t1 := x1) (pos := p) (elt := e) (own := own.map fun p => (so p.1, p.2)) (vs1 := vs1) K.calm K.nd (sndI it (t := x) K (and1 hb)) (by rw [K.eN, K.eS]; exact b) (by rw [eo]; exact hv) (by rw [eo]; exact hsl) hsl1
          (fun s H C cl fp => sndTg x K.blk (and2 hb)) (fun s H C cl fp => ts_none) (fun s H C cl fp => PI.zero (X := X) (Y := X.blk s H scope (compEnvC scope cl C X.env) fp) rfl rfl (sndI it1 (t := x1) K.blk (and1 hc))) (fun s H C cl fp => sndTg x1 K.blk (and2 hc)) (fun s H C cl fp => sndC c1 K.blk (and1 hd)) (fun s H C cl fp => sndE elt K.blk (and2 hd)) (okI_fset (and1 hb)) (fun env x => okI_fset (and1 hc) x)
        rw [eo] at z
        exact reE z fun _ _ _ h => h
    | _ => cases h
  | .dc k v x it c own => by
    intro xk N sc F X pe K h
    cases pe with
    | DictComp ke ve gs scope p =>
      match gs, h with
      | [⟨t, i, ifs, 0⟩], h =>
        have h : ((((blkC N sc scope (own.map fun p => (so p.1, p.2)) && (tgSl x).all fun i => (own.map (·.2)).contains i) && (okI N sc F it x t i && okTg N (relS scope sc) (blkF scope) x t)) && okC N (relS scope sc) (blkF scope) c ifs) && (okE N (relS scope sc) (blkF scope) k ke && okE N (relS scope sc) (blkF scope) v ve)) = true := h
        have h1 := and1 (and1 h)
        have b := blkOk_by (and1 (and1 h1))
        have hsl : ∀ j ∈ tgSl x, j ∈ own.map (·.2) := fun j hj => by simpa using (List.all_eq_true.mp (and2 (and1 h1))) j hj
        have eo : (own.map fun p => (so p.1, p.2)).map (·.2) = own.map (·.2) := by rw [List.map_map]; rfl
        have z := e_dc (X := X) (ca := ca) (t := x) (pos := p) (kx := ke) (vx := ve) (own := own.map fun p => (so p.1, p.2)) K.calm K.nd (sndI it (t := x) K (and1 (and2 h1))) (by rw [K.eN, K.eS]; exact b) (by rw [eo]; exact hsl)
          (fun s H C cl fp => sndTg x K.blk (and2 (and2 h1))) (fun s H C cl fp => sndC c K.blk (and2 (and1 h))) (fun s H C cl fp => sndE k K.blk (and1 (and2 h))) (fun s H C cl fp => sndE v K.blk (and2 (and2 h))) (okI_fset (and1 (and2 h1)))
        rw [eo] at z
        exact reE z fun _ _ _ h => h
    | _ => cases h
  | .srt e f => by
    intro xk N sc F X pe K h
    exact reE e_never fun _ _ _ h => h
  | .tv a => by
    intro xk N sc F X pe K h
    exact reE e_never fun _ _ _ h => h
  | .never => by
    intro xk N sc F X pe K h
    exact reE e_never fun _ _ _ h => h
theorem sndW : ∀ (e : E) ⦃xk : XW⦄ ⦃N : List Str⦄ ⦃sc : Scope⦄ ⦃F : Str → Bool⦄ ⦃X : Cx⦄ ⦃o : BoolOp⦄ ⦃xs : List Expr⦄ ⦃p : Pos⦄, XOk Γ ca xk N sc F X → okE N sc F e (.BoolOp o xs p) = true → PW X (.BoolOp o xs p) (liftT (gOf X ca) (runT Γ e xk))
  | .andE a b => by
    intro xk N sc F X o xs p K h
    match o, xs, h with
    | .And, x :: y :: r, h =>
      have h : (okE N sc F a x && okE N sc F b (.BoolOp .And (y :: r) p)) = true := h
      exact reW (w_and (sndT a K (and1 h)) (sndW b K (and2 h))) fun _ _ _ h => h
  | .orE a b => by
    intro xk N sc F X o xs p K h
    match o, xs, h with
    | .Or, x :: y :: r, h =>
      have h : (okE N sc F a x && okE N sc F b (.BoolOp .Or (y :: r) p)) = true := h
      exact reW (w_or (sndT a K (and1 h)) (sndW b K (and2 h))) fun _ _ _ h => h
  | .one a => by
    intro xk N sc F X o xs p K h
    match o, xs, h with
    | .And, [x], h => exact reW (PW.imp (pw_and1 (sndT a K h)) fun _ _ _ q => q) fun _ _ _ h => h
    | .Or, [x], h => exact reW (PW.imp (pw_or1 (sndT a K h)) fun _ _ _ q => q) fun _ _ _ h => h
  | .var i => by
    intro xk N sc F X o xs p K h
    cases h
  | .glo x => by
    intro xk N sc F X o xs p K h
    cases h
  | .int i => by
    intro xk N sc F X o xs p K h
    cases h
  | .str x => by
    intro xk N sc F X o xs p K h
    cases h
  | .bl x => by
    intro xk N sc F X o xs p K h
    cases h
  | .non => by
    intro xk N sc F X o xs p K h
    cases h
  | .bin op a b => by
    intro xk N sc F X o xs p K h
    cases h
  | .neg a => by
    intro xk N sc F X o xs p K h
    cases h
  | .cmp op a b => by
    intro xk N sc F X o xs p K h
    cases h
  | .chain o1 o2 a b c => by
    intro xk N sc F X o xs p K h
    cases h
  | .notE a => by
    intro xk N sc F X o xs p K h
    cases h
  | .ite c a b => by
    intro xk N sc F X o xs p K h
    cases h
  | .tup es => by
    intro xk N sc F X o xs p K h
    cases h
  | .lst es => by
    intro xk N sc F X o xs p K h
    cases h
  | .dct ps => by
    intro xk N sc F X o xs p K h
    cases h
  | .dctK ps => by
    intro xk N sc F X o xs p K h
    cases h
  | .fld o f => by
    intro xk N sc F X o xs p K h
    cases h
  | .prop o f => by
    intro xk N sc F X o xs p K h
    cases h
  | .sub a i => by
    intro xk N sc F X o xs p K h
    cases h
  | .slc a lo hi => by
    intro xk N sc F X o xs p K h
    cases h
  | .call f as => by
    intro xk N sc F X o xs p K h
    cases h
  | .mk f as => by
    intro xk N sc F X o xs p K h
    cases h
  | .bi f as => by
    intro xk N sc F X o xs p K h
    cases h
  | .isi x t => by
    intro xk N sc F X o xs p K h
    cases h
  | .isc x t => by
    intro xk N sc F X o xs p K h
    cases h
  | .eqO a b => by
    intro xk N sc F X o xs p K h
    cases h
  | .neO a b => by
    intro xk N sc F X o xs p K h
    cases h
  | .rev a => by
    intro xk N sc F X o xs p K h
    cases h
  | .lit d => by
    intro xk N sc F X o xs p K h
    cases h
  | .lset a => by
    intro xk N sc F X o xs p K h
    cases h
  | .sset a => by
    intro xk N sc F X o xs p K h
    cases h
  | .dst d k v => by
    intro xk N sc F X o xs p K h
    cases h
  | .meth o m as => by
    intro xk N sc F X o xs p K h
    cases h
  | .bm t o m as => by
    intro xk N sc F X o xs p K h
    cases h
  | .lc elt x it c own => by
    intro xk N sc F X o xs p K h
    cases h
  | .lc2 elt x it x1 it1 c1 own vs1 => by
    intro xk N sc F X o xs p K h
    cases h
  | .dc k v x it c own => by
    intro xk N sc F X o xs p K h
    cases h
  | .srt e f => by
    intro xk N sc F X o xs p K h
    cases h
  | .tv a => by
    intro xk N sc F X o xs p K h
    exact absurd (show false = true from h) Bool.false_ne_true
  | .never => by
    intro xk N sc F X o xs p K h
    exact ⟨fun wh pins s σ H Q I ⟨g, M, Qa, rel, run, hk⟩ => False.elim run⟩
theorem sndT : ∀ (e : E) ⦃xk : XW⦄ ⦃N : List Str⦄ ⦃sc : Scope⦄ ⦃F : Str → Bool⦄ ⦃X : Cx⦄ ⦃pe : Expr⦄, XOk Γ ca xk N sc F X → okE N sc F e pe = true → PT X pe (liftT (gOf X ca) (runT Γ e xk))
  | .notE a => by
    intro xk N sc F X pe K h
    cases pe with
    | UnaryOp o x p =>
      cases o with
      | Not => exact reT (t_not (sndT a K h)) fun _ _ _ h => h
      | _ => cases h
    | _ => cases h
  | .andE a b => by
    intro xk N sc F X pe K h
    cases pe with
    | BoolOp o xs p =>
      match o, xs, h with
      | .And, x :: y :: r, h =>
        have h : (okE N sc F a x && okE N sc F b (.BoolOp .And (y :: r) p)) = true := h
        exact reT (w_and (sndT a K (and1 h)) (sndW b K (and2 h))).pt fun _ _ _ h => h
    | _ => cases h
  | .orE a b => by
    intro xk N sc F X pe K h
    cases pe with
    | BoolOp o xs p =>
      match o, xs, h with
      | .Or, x :: y :: r, h =>
        have h : (okE N sc F a x && okE N sc F b (.BoolOp .Or (y :: r) p)) = true := h
        exact reT (w_or (sndT a K (and1 h)) (sndW b K (and2 h))).pt fun _ _ _ h => h
    | _ => cases h
  | .cmp op a b => by
    intro xk N sc F X pe K h
    cases pe with
    | Compare x os ys p =>
      match os, ys, h with
      | [o], [y], h =>
        have h : ((decide (op = o) && notSet y) && (okE N sc F a x && okE N sc F b y)) = true := h
        cases of_decide_eq_true (and1 (and1 h))
        exact reT (t_cmp _ K.kn.un (behind_ok (and2 (and1 h))) (sndE a K (and1 (and2 h))) (sndE b K (and2 (and2 h)))) fun _ _ _ h => h
    | _ => cases h
  | .chain o1 o2 a b c => by
    intro xk N sc F X pe K h
    cases pe with
    | Compare x os ys p =>
      match os, ys, h with
      | [p1, p2], [y, z], h =>
        have h : (((decide (o1 = p1) && decide (o2 = p2)) && (notSet y && notSet z)) && (okE N sc F a x && (okE N sc F b y && okE N sc F c z))) = true := h
        cases of_decide_eq_true (and1 (and1 (and1 h)))
        cases of_decide_eq_true (and2 (and1 (and1 h)))
        exact reT (t_chain _ _ K.kn.un (behind_ok (and2 (and2 (and1 h)))) (sndE a K (and1 (and2 h))) (sndE b K (and1 (and2 (and2 h)))) (sndE c K (and2 (and2 (and2 h))))) fun _ _ _ h => h
    | _ => cases h

  | .one a => by
    intro xk N sc F X pe K h
    cases pe with
    | BoolOp o xs p =>
      match o, xs, h with
      | .And, [x], h => exact reT (PW.imp (pw_and1 (sndT a K h)) fun _ _ _ q => q).pt fun _ _ _ h => h
      | .Or, [x], h => exact reT (PW.imp (pw_or1 (sndT a K h)) fun _ _ _ q => q).pt fun _ _ _ h => h
    | _ => cases h
  | .var i => by
    intro xk N sc F X pe K h
    exact reT t_never fun _ _ _ h => h
  | .call f as => by
    intro xk N sc F X pe K h
    exact reT t_never fun _ _ _ h => h
  | .neO a b => by
    intro xk N sc F X pe K h
    cases pe with
    | Compare x os ys p =>
      match os, ys, h with
      | [o], [y], h =>
        have h : ((decide (o = .NotEq) && notSet y) && (okE N sc F a x && okE N sc F b y)) = true := h
        cases of_decide_eq_true (and1 (and1 h))
        exact reT (t_neO K (behind_ok (and2 (and1 h))) (sndE a K (and1 (and2 h))) (sndE b K (and2 (and2 h)))) fun _ _ _ h => h
    | _ => cases h
  | .rev a => by
    intro xk N sc F X pe K h
    exact reT t_never fun _ _ _ h => h
  | .lit d => by
    intro xk N sc F X pe K h
    exact reT t_never fun _ _ _ h => h
  | .lset a => by
    intro xk N sc F X pe K h
    exact reT t_never fun _ _ _ h => h
  | .sset a => by
    intro xk N sc F X pe K h
    exact reT t_never fun _ _ _ h => h
  | .dst d k v => by
    intro xk N sc F X pe K h
    exact reT t_never fun _ _ _ h => h
  | .meth o m as => by
    intro xk N sc F X pe K h
    exact reT t_never fun _ _ _ h => h
  | .bi f as => by
    intro xk N sc F X pe K h
    exact reT t_never fun _ _ _ h => h
  | .isi x t => by
    intro xk N sc F X pe K h
    exact reT t_never fun _ _ _ h => h
  | .isc x t => by
    intro xk N sc F X pe K h
    exact reT t_never fun _ _ _ h => h
  | .eqO a b => by
    intro xk N sc F X pe K h
    cases pe with
    | Compare x os ys p =>
      match os, ys, h with
      | [o], [y], h =>
        have h : ((decide (o = .Eq) && notSet y) && (okE N sc F a x && okE N sc F b y)) = true := h
        cases of_decide_eq_true (and1 (and1 h))
        exact reT (t_eqO K (behind_ok (and2 (and1 h))) (sndE a K (and1 (and2 h))) (sndE b K (and2 (and2 h)))) fun _ _ _ h => h
    | _ => cases h
  | .fld o f => by
    intro xk N sc F X pe K h
    exact reT t_never fun _ _ _ h => h
  | .glo x => by
    intro xk N sc F X pe K h
    exact reT t_never fun _ _ _ h => h
  | .int i => by
    intro xk N sc F X pe K h
    exact reT t_never fun _ _ _ h => h
  | .str x => by
    intro xk N sc F X pe K h
    exact reT t_never fun _ _ _ h => h
  | .bl x => by
    intro xk N sc F X pe K h
    exact reT t_never fun _ _ _ h => h
  | .non => by
    intro xk N sc F X pe K h
    exact reT t_never fun _ _ _ h => h
  | .bin op a b => by
    intro xk N sc F X pe K h
    exact reT t_never fun _ _ _ h => h
  | .neg a => by
    intro xk N sc F X pe K h
    exact reT t_never fun _ _ _ h => h
  | .ite c a b => by
    intro xk N sc F X pe K h
    exact reT t_never fun _ _ _ h => h
  | .tup es => by
    intro xk N sc F X pe K h
    exact reT t_never fun _ _ _ h => h
  | .lst es => by
    intro xk N sc F X pe K h
    exact reT t_never fun _ _ _ h => h
  | .dct ps => by
    intro xk N sc F X pe K h
    exact reT t_never fun _ _ _ h => h
  | .dctK ps => by
    intro xk N sc F X pe K h
    exact reT t_never fun _ _ _ h => h
  | .prop o f => by
    intro xk N sc F X pe K h
    exact reT t_never fun _ _ _ h => h
  | .sub a i => by
    intro xk N sc F X pe K h
    exact reT t_never fun _ _ _ h => h
  | .slc a lo hi => by
    intro xk N sc F X pe K h
    exact reT t_never fun _ _ _ h => h
  | .mk f as => by
    intro xk N sc F X pe K h
    exact reT t_never fun _ _ _ h => h
  | .bm t o m as => by
    intro xk N sc F X pe K h
    exact reT t_never fun _ _ _ h => h
  | .lc elt x it c own => by
    intro xk N sc F X pe K h
    exact reT t_never fun _ _ _ h => h
  | .lc2 elt x it x1 it1 c1 own vs1 => by
    intro xk N sc F X pe K h
    exact reT t_never fun _ _ _ h => h
  | .dc k v x it c own => by
    intro xk N sc F X pe K h
    exact reT t_never fun _ _ _ h => h
  | .srt e f => by
    intro xk N sc F X pe K h
    exact reT t_never fun _ _ _ h => h
  | .never => by
    intro xk N sc F X pe K h
    exact reT t_never fun _ _ _ h => h
  | .tv a => by
    intro xk N sc F X pe K h
    have h : (isPl pe && okE N sc F a pe) = true := h
    exact reT (t_val (sndE a K (and2 h)) (isT_plain (and1 h))) fun _ _ _ h => h
theorem sndEs : ∀ (e : Es) ⦃xk : XW⦄ ⦃N : List Str⦄ ⦃sc : Scope⦄ ⦃F : Str → Bool⦄ ⦃X : Cx⦄ ⦃pe : List Expr⦄, XOk Γ ca xk N sc F X → okEs N sc F e pe = true → PA X pe (liftA (gOf X ca) (runEs Γ e xk))
  | .nil => by
    intro xk N sc F X pe K h
    cases pe with
    | nil => exact reA a_nil fun _ _ _ h => h
    | cons => cases h
  | .cons e es => by
    intro xk N sc F X pe K h
    cases pe with
    | nil => cases h
    | cons x xs =>
      have h : (notStar x && (okE N sc F e x && okEs N sc F es xs)) = true := h
      exact reA (a_cons (sndE e K (and1 (and2 h))) (sndEs es K (and2 (and2 h))) (and1 h)) fun _ _ _ h => h
  | .star e es => by
    intro xk N sc F X pe K h
    cases pe with
    | nil => cases h
    | cons x xs =>
      cases x with
      | Starred x p =>
        have h : (okE N sc F e x && okEs N sc F es xs) = true := h
        exact reA (a_star (sndE e K (and1 h)) (sndEs es K (and2 h))) fun _ _ _ h => h
      | _ => cases h
theorem sndPs : ∀ (e : Ps) ⦃xk : XW⦄ ⦃N : List Str⦄ ⦃sc : Scope⦄ ⦃F : Str → Bool⦄ ⦃X : Cx⦄ ⦃pos : Pos⦄ ⦃ks : List (Option Expr)⦄ ⦃vs : List Expr⦄, XOk Γ ca xk N sc F X → okPs N sc F e ks vs = true → PDs X ca pos ks vs (runPs Γ e xk)
  | .nil => by
    intro xk N sc F X pos ks vs K h
    match ks, vs, h with
    | [], [], h => exact reD d_nil fun _ _ _ h => h
  | .cons k v ps => by
    intro xk N sc F X pos ks vs K h
    match ks, vs, h with
    | some x :: ks, y :: vs, h =>
      have h : (okE N sc F k x && (okE N sc F v y && okPs N sc F ps ks vs)) = true := h
      exact reD (d_cons (sndE k K (and1 h)) (sndE v K (and1 (and2 h))) (sndPs ps K (and2 (and2 h)))) fun _ _ _ h => h
  | .star d ps => by
    intro xk N sc F X pos ks vs K h
    match ks, vs, h with
    | [], [], h => cases h
theorem sndO : ∀ (e : Oe) ⦃xk : XW⦄ ⦃N : List Str⦄ ⦃sc : Scope⦄ ⦃F : Str → Bool⦄ ⦃X : Cx⦄ ⦃pe : Option Expr⦄, XOk Γ ca xk N sc F X → okO N sc F e pe = true → PO X pe (liftO (gOf X ca) (runO Γ e xk))
  | .none => by
    intro xk N sc F X pe K h
    cases pe with
    | none => exact reO o_none fun _ _ _ h => h
    | some => cases h
  | .some e => by
    intro xk N sc F X pe K h
    cases pe with
    | none => cases h
    | some x => exact reO (o_some (sndE e K h)) fun _ _ _ h => h
theorem sndC : ∀ (e : Oe) ⦃xk : XW⦄ ⦃N : List Str⦄ ⦃sc : Scope⦄ ⦃F : Str → Bool⦄ ⦃X : Cx⦄ ⦃pe : List Expr⦄, XOk Γ ca xk N sc F X → okC N sc F e pe = true → PTs X pe (liftT (gOf X ca) (runC Γ e xk))
  | .none => by
    intro xk N sc F X pe K h
    cases pe with
    | nil => exact reC ts_none fun _ _ _ h => h
    | cons => cases h
  | .some e => by
    intro xk N sc F X pe K h
    match pe, h with
    | [x], h => exact reC (ts_some (sndT e K h)) fun _ _ _ h => h
theorem sndI : ∀ (e : It) ⦃t : Tg⦄ ⦃xk : XW⦄ ⦃N : List Str⦄ ⦃sc : Scope⦄ ⦃F : Str → Bool⦄ ⦃X : Cx⦄ ⦃tg pe : Expr⦄, XOk Γ ca xk N sc F X → okI N sc F e t tg pe = true → PI X tg pe (liftI X ca t (runI Γ e xk))
  | .val e => by
    intro t xk N sc F X tg pe K h
    have h : (notSet pe && okE N sc F e pe) = true := h
    exact reI (i_val (sndE e K (and2 h))) fun _ _ _ h => h
  | .rng1 a => by
    intro t xk N sc F X tg pe K h
    match pe, h with
    | .Call (.Name y p) [x] [] q, h =>
      have h : ((decide (y = so "range") && glb sc y) && (notStar x && okE N sc F a x)) = true := h
      cases of_decide_eq_true (and1 (and1 h))
      exact reI (i_rng1 (gl_ok K.eS (and2 (and1 h))) (K.kn.bi "range" (by decide)) (and1 (and2 h)) (sndE a K (and2 (and2 h)))) fun _ _ _ h => h
  | .rng2 a b => by
    intro t xk N sc F X tg pe K h
    exact reI i_never fun _ _ _ h => h
  | .enum a => by
    intro t xk N sc F X tg pe K h
    match t, tg, pe, h with
    | .tup ts, .Tuple es k tp, .Call (.Name y p) [x] [] q, h =>
      have h : ((decide (y = so "enumerate") && glb sc y) && (notStar x && okE N sc F a x)) = true := h
      cases of_decide_eq_true (and1 (and1 h))
      exact reI (i_enum rfl (gl_ok K.eS (and2 (and1 h))) (K.kn.bi "enumerate" (by decide)) (and1 (and2 h)) (sndE a K (and2 (and2 h)))) fun _ _ _ h => h
  | .zip a b => by
    intro t xk N sc F X tg pe K h
    match t, tg, pe, h with
    | .tup ts, .Tuple es k tp, .Call (.Name y p) [x, z] [] q, h =>
      have h : (((decide (y = so "zip") && glb sc y) && (notStar x && notStar z)) && (okE N sc F a x && okE N sc F b z)) = true := h
      cases of_decide_eq_true (and1 (and1 (and1 h)))
      exact reI (i_zip rfl (gl_ok K.eS (and2 (and1 (and1 h)))) (K.kn.bi "zip" (by decide)) (and1 (and2 (and1 h))) (and2 (and2 (and1 h))) (sndE a K (and1 (and2 h))) (sndE b K (and2 (and2 h)))) fun _ _ _ h => h
  | .items e => by
    intro t xk N sc F X tg pe K h
    match t, tg, pe, h with
    | .tup ts, .Tuple es k tp, .Call (.Attribute x y ap) [] [] p, h =>
      have h : (((decide (y = so "items") && plainO x) && decide (ap.endLine = p.line)) && okE N sc F e x) = true := h
      cases of_decide_eq_true (and1 (and1 (and1 h)))
      exact reI (i_items rfl (and2 (and1 (and1 h))) (of_decide_eq_true (and2 (and1 h))) (sndE e K (and2 h))) fun _ _ _ h => h
theorem sndTg : ∀ (t : Tg) ⦃xk : XW⦄ ⦃N : List Str⦄ ⦃sc : Scope⦄ ⦃F : Str → Bool⦄ ⦃X : Cx⦄ ⦃pe : Expr⦄, XOk Γ ca xk N sc F X → okTg N sc F t pe = true → PG X pe (liftG X ca t (runTg Γ t xk))
  | .name i => by
    intro xk N sc F X pe K h
    cases pe with
    | Name x p =>
      have h : (decide (N[i]? = some x) && (decide (sc.names.lookup x = some .local) || (decide (sc.names.lookup x = some .cell) && F x))) = true := h
      have z := loc_ok K.eS K.fn (and2 h)
      exact reG (g_name K.nd (by rw [K.eN]; exact of_decide_eq_true (and1 h)) z.1 z.2) fun _ _ _ _ h => h
    | _ => cases h
  | .tup ts => by
    intro xk N sc F X pe K h
    cases pe with
    | Tuple xs k p =>
      have h : ((decide (tgsLen ts = xs.length) && xs.all notStar) && okTgs N sc F ts xs) = true := h
      exact reG (g_tup K.calm (and2 (and1 h)) (of_decide_eq_true (and1 (and1 h))) (sndTgs ts K (and2 h))) fun _ _ _ _ h => h
    | _ => cases h
  | .sub o i => by
    intro xk N sc F X pe K h
    cases pe with
    | Subscript x y p =>
      have h : (notSlice y && (okE N sc F o x && okE N sc F i y)) = true := h
      exact reG (g_sub K.kn.un (and1 h) (sndE o K (and1 (and2 h))) (sndE i K (and2 (and2 h)))) fun _ _ _ _ h => h
    | _ => cases h
theorem sndTgs : ∀ (t : Tgs) ⦃xk : XW⦄ ⦃N : List Str⦄ ⦃sc : Scope⦄ ⦃F : Str → Bool⦄ ⦃X : Cx⦄ ⦃pe : List Expr⦄, XOk Γ ca xk N sc F X → okTgs N sc F t pe = true → PGs X pe (liftGs X ca t (runTgs Γ t xk))
  | .nil => by
    intro xk N sc F X pe K h
    cases pe with
    | nil => exact reGs gs_nil fun _ _ _ _ h => h
    | cons => cases h
  | .cons t ts => by
    intro xk N sc F X pe K h
    cases pe with
    | nil => cases h
    | cons x xs =>
      have h : (notStar x && (okTg N sc F t x && okTgs N sc F ts xs)) = true := h
      exact reGs (gs_cons (and1 h) (sndTg t K (and1 (and2 h))) (sndTgs ts K (and2 (and2 h)))) fun _ _ _ _ h => h
end
end Rx
end

section
set_option maxHeartbeats 4000000
/-! Rx: the readings of statements, rule by rule. -/
namespace Rx
open PySem PySem.Spec PyProof.Rows L2
/-- the ends by trees give the ends by values -/
structure EndsOk (X : Cx) (ca : String → Addr) (H : Hp) (Da : DD) (D : Ends) : Prop where
  nx : ∀ g M σ H', Rel (gOf X ca) σ H' g M → Keep H H' → Da.nx g M → D.nx σ H'
  rt : ∀ p M v H', HRep X.w ca X.K M H' → Rep X.K H' p v → Keep H H' → Da.rt p M → D.rt v H'
  bk : ∀ g M σ H', Rel (gOf X ca) σ H' g M → Keep H H' → Da.bk g M → D.bk σ H'
  ct : ∀ g M σ H', Rel (gOf X ca) σ H' g M → Keep H H' → Da.ct g M → D.ct σ H'
theorem EndsOk.keep {X : Cx} {ca : String → Addr} {H H1 : Hp} {Da : DD} {D : Ends} (e : EndsOk X ca H Da D) (k : Keep H H1) : EndsOk X ca H1 Da D :=
  ⟨fun g M σ H' r k2 => e.nx g M σ H' r (k.trans k2), fun p M v H' a b k2 => e.rt p M v H' a b (k.trans k2), fun g M σ H' r k2 => e.bk g M σ H' r (k.trans k2), fun g M σ H' r k2 => e.ct g M σ H' r (k.trans k2)⟩
def liftS (X : Cx) (ca : String → Addr) (r : DD → Sg → MM → Prop) : TS := fun D σ H => ∃ g M Da, Rel (gOf X ca) σ H g M ∧ r Da g M ∧ EndsOk X ca H Da D
section
variable {X : Cx} {ca : String → Addr} {e : Expr} {re : RE} {pos : Pos} {st : Stmt} {sts : List Stmt} {rs rss rs2 : DD → Sg → MM → Prop}
theorem reS {r r' : DD → Sg → MM → Prop} (h : PS X st (liftS X ca r)) (i : ∀ D g M, r' D g M → r D g M) : PS X st (liftS X ca r') := PS.imp h fun D σ H ⟨g, M, Da, rel, run, hk⟩ => ⟨g, M, Da, rel, i _ _ _ run, hk⟩
theorem reSs {r r' : DD → Sg → MM → Prop} (h : PSs X sts (liftS X ca r)) (i : ∀ D g M, r' D g M → r D g M) : PSs X sts (liftS X ca r') := PSs.imp h fun D σ H ⟨g, M, Da, rel, run, hk⟩ => ⟨g, M, Da, rel, i _ _ _ run, hk⟩
theorem s_never : PS X st (liftS X ca fun _ _ _ => False) := PS.imp ps_never fun D σ H ⟨g, M, Da, rel, run, hk⟩ => run
theorem s_pass : PS X (.Pass pos) (liftS X ca fun D g M => D.nx g M) := PS.imp ps_pass fun D σ H ⟨g, M, Da, rel, run, hk⟩ => hk.nx g M σ H rel (.refl H) run
theorem s_brk : PS X (.Break pos) (liftS X ca fun D g M => D.bk g M) := PS.imp ps_break fun D σ H ⟨g, M, Da, rel, run, hk⟩ => hk.bk g M σ H rel (.refl H) run
theorem s_cont : PS X (.Continue pos) (liftS X ca fun D g M => D.ct g M) := PS.imp ps_continue fun D σ H ⟨g, M, Da, rel, run, hk⟩ => hk.ct g M σ H rel (.refl H) run
theorem s_retN : PS X (.Return none pos) (liftS X ca fun D g M => D.rt .non M) := PS.imp ps_retN fun D σ H ⟨g, M, Da, rel, run, hk⟩ => hk.rt .non M .non H rel.h .non (.refl H) run
theorem s_ret (he : PE X e (liftE (gOf X ca) re)) : PS X (.Return (some e) pos) (liftS X ca fun D g M => re g M fun p M1 => D.rt p M1) :=
  PS.imp (ps_ret he) fun D σ H ⟨g, M, Da, rel, run, hk⟩ => lift_run rel run fun p M1 v H1 rel1 rp k1 q1 => hk.rt p M1 v H1 rel1.h rp k1 q1
theorem swaps_no {e : Expr} {tg : Option Expr} {l : Nat} {env : Env} (h : notComp e = true) : swapsWith e tg l env = pure false := by
  cases e <;> first | rfl | cases h
theorem s_expr (hn : notComp e = true) (he : PE X e (liftE (gOf X ca) re)) : PS X (.Expr e pos) (liftS X ca fun D g M => re g M fun _ M1 => D.nx g M1) :=
  PS.imp (ps_expr he (swaps_no hn)) fun D σ H ⟨g, M, Da, rel, run, hk⟩ => lift_run rel run fun p M1 v H1 rel1 rp k1 q1 => hk.nx g M1 σ H1 rel1 k1 q1
theorem s_if {c : Expr} {a b : List Stmt} {rc : RT} (hc : PT X c (liftT (gOf X ca) rc)) (ha : PSs X a (liftS X ca rs)) (hb : PSs X b (liftS X ca rs2)) : PS X (.If c a b pos) (liftS X ca fun D g M => rc g M fun d M1 => if d = true then rs D g M1 else rs2 D g M1) :=
  PS.imp (ps_if hc ha hb) fun D σ H ⟨g, M, Da, rel, run, hk⟩ => liftT_run rel run fun d M1 H1 rel1 k1 q1 => by
    cases d with
    | true =>
      simp only [if_true] at q1 ⊢
      exact ⟨g, M1, Da, rel1, q1, hk.keep k1⟩
    | false =>
      simp only [Bool.false_eq_true, if_false] at q1 ⊢
      exact ⟨g, M1, Da, rel1, q1, hk.keep k1⟩
theorem ss_nil : PSs X [] (liftS X ca fun D g M => D.nx g M) := PSs.imp pss_nil fun D σ H ⟨g, M, Da, rel, run, hk⟩ => hk.nx g M σ H rel (.refl H) run
theorem ss_cons (h1 : PS X st (liftS X ca rs)) (h2 : PSs X sts (liftS X ca rss)) : PSs X (st :: sts) (liftS X ca fun D g M => rs { D with nx := fun g' M' => rss D g' M' } g M) :=
  PSs.imp (pss_cons h1 h2) fun D σ H ⟨g, M, Da, rel, run, hk⟩ => ⟨g, M, _, rel, run, ⟨fun g1 M1 σ1 H1 rel1 k1 q1 => ⟨g1, M1, Da, rel1, q1, hk.keep k1⟩, hk.rt, hk.bk, hk.ct⟩⟩
/-- target = e -/
theorem s_asg {tg : Expr} {t : Tg} {rg : PV → Sg → MM → (Sg → MM → Prop) → Prop} (hs : swapsWith e (some tg) pos.line X.env = pure false) (hw : swappedStores [tg] e X.env = pure none) (hn : notStar tg = true)
    (he : PE X e (liftE (gOf X ca) re)) (hg : PG X tg (liftG X ca t rg)) : PS X (.Assign [tg] e pos) (liftS X ca fun D g M => re g M fun p M1 => rg p g M1 D.nx) :=
  PS.imp (ps_asg he hg hs hw (asgn_ok hn _)) fun D σ H ⟨g, M, Da, rel, run, hk⟩ => lift_run rel run fun p M1 v H1 rel1 rp k1 q1 =>
    ⟨p, g, M1, _, rel1, .inl rp, q1, fun g2 M2 σ2 H2 rel2 k2 _ q2 => hk.nx g2 M2 σ2 H2 rel2 (k1.trans k2) q2⟩
/-- a, b = x, y -/
theorem s_par2 {i j : Nat} {x y : Str} {a b : Expr} {px py pt pt2 : Pos} {kt k2 : Nat} {ra rb : RE} (hc : X.calm = true) (hN : X.N.Nodup) (hi : X.N[i]? = some x) (hj : X.N[j]? = some y) (hij : i ≠ j)
    (hx : X.env.scope.names.lookup x = some .local) (hy : X.env.scope.names.lookup y = some .local) (sa : notStar a = true) (sb : notStar b = true) (ha : PE X a (liftE (gOf X ca) ra)) (hb : PE X b (liftE (gOf X ca) rb))
    (hw : swappedStores [.Tuple [.Name x px, .Name y py] kt pt] (.Tuple [a, b] k2 pt2) X.env = pure (some [x, y])) :
    PS X (.Assign [.Tuple [.Name x px, .Name y py] kt pt] (.Tuple [a, b] k2 pt2) pos) (liftS X ca fun D g M => ra g M fun p M1 => rb g M1 fun q M2 => D.nx ((g.set i (some p)).set j (some q)) M2) :=
  PS.imp (ps_par hc hN hi hj hij hx hy (pa_cons ha (pa_cons hb pa_nil (star_ok sb _)) (star_ok sa _)) hw) fun D σ H ⟨g, M, Da, rel, run, hk⟩ =>
    lift_run rel run fun p M1 v H1 rel1 rp k1 q1 => lift_run rel1 q1 fun q M2 w H2 rel2 rq k2 q2 =>
      ⟨v, w, rfl, hk.nx _ M2 _ H2 ⟨(rel2.s.set i (rp.keep k2)).set j rq, rel2.h⟩ (k1.trans k2) q2⟩
theorem s_par3 {i j l : Nat} {x y z : Str} {a b c : Expr} {px py pz pt pt2 : Pos} {kt k2 : Nat} {ra rb rc : RE} (hc : X.calm = true) (hN : X.N.Nodup) (hi : X.N[i]? = some x) (hj : X.N[j]? = some y) (hl : X.N[l]? = some z) (hij : i ≠ j) (hil : i ≠ l) (hjl : j ≠ l)
    (hx : X.env.scope.names.lookup x = some .local) (hy : X.env.scope.names.lookup y = some .local) (hz : X.env.scope.names.lookup z = some .local) (sa : notStar a = true) (sb : notStar b = true) (sc : notStar c = true)
    (ha : PE X a (liftE (gOf X ca) ra)) (hb : PE X b (liftE (gOf X ca) rb)) (hcc : PE X c (liftE (gOf X ca) rc))
    (hw : swappedStores [.Tuple [.Name x px, .Name y py, .Name z pz] kt pt] (.Tuple [a, b, c] k2 pt2) X.env = pure (some [x, y, z])) :
    PS X (.Assign [.Tuple [.Name x px, .Name y py, .Name z pz] kt pt] (.Tuple [a, b, c] k2 pt2) pos) (liftS X ca fun D g M => ra g M fun p M1 => rb g M1 fun q M2 => rc g M2 fun r M3 => D.nx (((g.set i (some p)).set j (some q)).set l (some r)) M3) :=
  PS.imp (ps_par3 hc hN hi hj hl hij hil hjl hx hy hz (pa_cons ha (pa_cons hb (pa_cons hcc pa_nil (star_ok sc _)) (star_ok sb _)) (star_ok sa _)) hw) fun D σ H ⟨g, M, Da, rel, run, hk⟩ =>
    lift_run rel run fun p M1 v H1 rel1 rp k1 q1 => lift_run rel1 q1 fun q M2 w H2 rel2 rq k2 q2 => lift_run rel2 q2 fun r M3 u H3 rel3 rr k3 q3 =>
      ⟨v, w, u, rfl, hk.nx _ M3 _ H3 ⟨((rel3.s.set i ((rp.keep k2).keep k3)).set j (rq.keep k3)).set l rr, rel3.h⟩ ((k1.trans k2).trans k3) q3⟩
/-- name op= e -/
theorem s_aug {i : Nat} {x : Str} {op : Operator} {p' : Pos} (hN : X.N.Nodup) (hi : X.N[i]? = some x) (hx : Loc X.env.scope x) (hf : X.fn x = true ∨ X.env.scope.names.lookup x = some .local) (he : PE X e (liftE (gOf X ca) re)) :
    PS X (.AugAssign (.Name x p') op e pos) (liftS X ca fun D g M => match g[i]? with
    | some (some p) => re g M fun q M1 => augA op p q M1 fun r M2 => D.nx (g.set i (some r)) M2
    | _ => False) :=
  PS.imp (ps_aug hN hi hx he (augP_snd op) hf) fun D σ H ⟨g, M, Da, rel, run, hk⟩ => by
    dsimp only at run
    split at run
    · rename_i p hp
      obtain ⟨v, h1, rp⟩ := rel.s.at_ i p hp
      refine ⟨v, h1, lift_run rel run fun q M1 w H1 rel1 rq k1 q1 => ⟨p, q, M1, _, rel1.h, rp.keep k1, rq, q1, fun r M2 z H2 hM2 rr k2 q2 => ?_⟩⟩
      exact hk.nx _ M2 _ H2 ⟨(rel1.s.keep k2).set i rr, hM2⟩ (k1.trans k2) q2
    · exact run.elim
/-- while -/
theorem s_while {c : Expr} {body : List Stmt} {rc : RT} (hp : PassesOwn (model X.prog X.w) X.A X.env X.xe) (hc : PT X c (liftT (gOf X ca) rc)) (hb : PSs X body (liftS X ca rs)) :
    PS X (.While c body [] pos) (liftS X ca fun D g M => ∃ W : Nat → Sg → MM → Prop, (∃ m, W m g M) ∧ ∀ m g M, W m g M → rc g M fun r M1 =>
      if r = true then rs { D with nx := weakS fun g' M' => ∃ m', m' < m ∧ W m' g' M', ct := weakS fun g' M' => ∃ m', m' < m ∧ W m' g' M', bk := D.nx } g M1 else D.nx g M1) :=
  PS.imp (ps_while hp hc hb) fun D σ H ⟨g, M, Da, rel, ⟨W, ⟨m0, w0⟩, turn⟩, hk⟩ => by
    refine ⟨fun m σ' H' => ∃ g M, Rel (gOf X ca) σ' H' g M ∧ Keep H H' ∧ W m g M, ⟨m0, g, M, rel, .refl H, w0⟩, ?_⟩
    rintro m σ1 H1 ⟨g1, M1, rel1, k1, w1⟩
    refine liftT_run rel1 (turn m g1 M1 w1) fun r M2 H2 rel2 k2 q2 => ?_
    have weak : ∀ {P : Sg → MM → Prop} {g3 M3 σ3 H3}, Rel (gOf X ca) σ3 H3 g3 M3 → weakS P g3 M3 → ∃ g M, Rel (gOf X ca) σ3 H3 g M ∧ P g M := fun rel3 ⟨g', M', s1, s2, q⟩ => ⟨g', M', ⟨rel3.s.sub s1, rel3.h.sub s2⟩, q⟩
    cases r with
    | true =>
      simp only [if_true] at q2 ⊢
      refine ⟨fun σ3 H3 => ∃ m', m' < m ∧ ∃ g M, Rel (gOf X ca) σ3 H3 g M ∧ Keep H H3 ∧ W m' g M, fun σ3 H3 ⟨m', h1, h2⟩ => ⟨m', h1, h2⟩, g1, M2, _, rel2, q2, ⟨fun g3 M3 σ3 H3 rel3 k3 q3 => ?_, (hk.keep (k1.trans k2)).rt, (hk.keep (k1.trans k2)).nx, fun g3 M3 σ3 H3 rel3 k3 q3 => ?_⟩⟩
      all_goals
        obtain ⟨g4, M4, rel4, m', h1, h2⟩ := weak rel3 q3
        exact ⟨m', h1, g4, M4, rel4, (k1.trans k2).trans k3, h2⟩
    | false =>
      simp only [Bool.false_eq_true, if_false] at q2 ⊢
      exact hk.nx g1 M2 σ1 H2 rel2 (k1.trans k2) q2
end
end Rx
end

section
set_option maxHeartbeats 4000000
/-! Rx: the readings of statements (2): for, name = [..]. -/
namespace Rx
open PySem PySem.Spec PyProof.Rows L2
section
variable {X : Cx} {ca : String → Addr} {e tg elt : Expr} {t : Tg} {re : RE} {pos : Pos} {st : Stmt} {sts : List Stmt} {rs : DD → Sg → MM → Prop}
def unlD (X : Cx) (D : Ends) : Ends := ⟨fun σ H => ∃ H3, (∀ pins σ s, L2.Inv X pins σ H s → L2.Inv X pins σ H3 s) ∧ D.nx σ H3, fun v H => ∃ H3, (∀ pins σ s, L2.Inv X pins σ H s → L2.Inv X pins σ H3 s) ∧ D.rt v H3, fun σ H => ∃ H3, (∀ pins σ s, L2.Inv X pins σ H s → L2.Inv X pins σ H3 s) ∧ D.bk σ H3, fun σ H => ∃ H3, (∀ pins σ s, L2.Inv X pins σ H s → L2.Inv X pins σ H3 s) ∧ D.ct σ H3⟩
theorem sp_unl {pins : List (Addr × Obj)} {D : Ends} {f : Flow} {s : Shared} (h : SP X pins (unlD X D) f s) : SP X pins D f s := by
  cases f with
  | next => obtain ⟨σ, H, I, H3, c, q⟩ := h; exact ⟨σ, H3, c _ _ _ I, q⟩
  | brk => obtain ⟨σ, H, I, H3, c, q⟩ := h; exact ⟨σ, H3, c _ _ _ I, q⟩
  | cont => obtain ⟨σ, H, I, H3, c, q⟩ := h; exact ⟨σ, H3, c _ _ _ I, q⟩
  | ret u => obtain ⟨v, σ, H, I, r, H3, c, q⟩ := h; exact ⟨v, σ, H3, c _ _ _ I, r, q⟩
theorem s_for {body : List Stmt} {rI : Sg → MM → RI → Prop} {rG : PV → Sg → MM → (Sg → MM → Prop) → Prop} (hp : PassesOwn (model X.prog X.w) X.A X.env X.xe) (hc : X.calm = true) (hi : PI X tg e (liftI X ca t rI)) (hg : PG X tg (liftG X ca t rG)) (hb : PSs X body (liftS X ca rs))
    (hs : ∀ x, foldedSetIterable e X.env x = pure x) : PS X (.For tg e body [] pos) (liftS X ca fun D g M => rI g M fun xs st un M1 => forF st un rG rs D xs g M1) := by
  refine ⟨fun pins s σ H D I h => thn ((ps_for hp hc hi hg hb hs).run pins s σ H (unlD X D) I ?_) fun f s2 q => sp_unl q⟩
  obtain ⟨g, M, Da, rel, run, hk⟩ := h
  refine ⟨g, M, _, rel, run, fun xs st un M1 J H0 H1 hM1 k0 k1 wk q => ?_⟩
  refine ⟨fun i m σ' H' => m = xs.length - i ∧ i ≤ xs.length ∧ ∃ g2 M2, Rel (gOf X ca) σ' H' g2 M2 ∧ Keep H1 H' ∧ forF st un rG rs Da (xs.drop i) g2 M2, ⟨xs.length, rfl, Nat.zero_le _, g, M1, ⟨rel.s.keep k1, hM1⟩, .refl H1, q⟩, ?_⟩
  rintro i m σ2 H2 ⟨rfl, hi, g2, M2, rel2, k2, q2⟩
  by_cases hlt : i < xs.length
  · rw [List.drop_eq_getElem_cons hlt] at q2
    unfold forF at q2
    obtain ⟨hst, q2⟩ := q2
    refine .inr ⟨wk.go i H2 M2 rel2.h k2 hst hlt, fun σ' H' => ∃ g2 M2, Rel (gOf X ca) σ' H' g2 M2 ∧ Keep H1 H' ∧ forF st un rG rs Da (xs.drop (i + 1)) g2 M2, fun σ' H' n => ⟨xs.length - (i + 1), by omega, rfl, hlt, n⟩, fun v H3 y => ?_⟩
    obtain ⟨p, hp, rp, k3, hM3⟩ := wk.yld i H2 M2 v H3 rel2.h k2 hst hlt y
    rw [List.getElem?_eq_getElem hlt] at hp
    cases hp
    refine ⟨_, g2, M2, _, ⟨rel2.s.keep k3, hM3⟩, rp, q2, fun g4 M4 σ4 H4 rel4 k4 _ q4 => ⟨g4, M4, _, rel4, q4, ?_⟩⟩
    have kk : Keep H1 H4 := (k2.trans k3).trans k4
    refine ⟨fun g5 M5 σ5 H5 rel5 k5 ⟨g6, M6, s1, s2, q6⟩ => ⟨g6, M6, ⟨rel5.s.sub s1, rel5.h.sub s2⟩, kk.trans k5, q6⟩, fun p5 M5 v5 H5 hM5 rp5 k5 q5 => ?_, fun g5 M5 σ5 H5 rel5 k5 q5 => ?_, fun g5 M5 σ5 H5 rel5 k5 ⟨g6, M6, s1, s2, q6⟩ => ⟨g6, M6, ⟨rel5.s.sub s1, rel5.h.sub s2⟩, kk.trans k5, q6⟩⟩
    · obtain ⟨H6, c, hM6, k6, kw⟩ := wk.fin2 H5 M5 hM5 (kk.trans k5)
      exact ⟨H6, c, hk.rt p5 _ v5 H6 hM6 (rp5.keepW kw) (k0.trans k6) q5⟩
    · obtain ⟨H6, c, hM6, k6, kw⟩ := wk.fin2 H5 M5 rel5.h (kk.trans k5)
      exact ⟨H6, c, hk.nx g5 _ σ5 H6 ⟨rel5.s.keepW kw, hM6⟩ (k0.trans k6) q5⟩
  · have e : i = xs.length := by omega
    subst e
    rw [List.drop_length] at q2
    unfold forF at q2
    obtain ⟨H6, c, hM6, k6, kw⟩ := wk.fin2 H2 M2 rel2.h k2
    exact .inl ⟨wk.stop H2 M2 rel2.h k2 q2.1, H6, c, hk.nx g2 _ σ2 H6 ⟨rel2.s.keepW kw, hM6⟩ (k0.trans k6) q2.2⟩
theorem FRep.put {K : PySem.W.Frag} {H : Hp} {f : String} {p : PV} {v : V} (r : Rep K H p v) : ∀ {fs : List (String × PV)} {gs : List (Str × V)}, FRep K H fs gs → FRep K H (putP f p fs) (putF (so f) v gs)
  | _, _, .nil => .cons r .nil
  | _, _, .cons (f := f') rp t => by
    unfold putP putF
    by_cases e : f' = f
    · subst e
      rw [if_pos rfl, if_pos rfl]
      exact .cons r t
    · rw [if_neg e, if_neg fun z => e (so_inj z)]
      exact .cons rp (FRep.put r t)
theorem FRep.len {K : PySem.W.Frag} {H : Hp} : ∀ {fs : List (String × PV)} {gs : List (Str × V)}, FRep K H fs gs → fs.length = gs.length
  | _, _, .nil => rfl
  | _, _, .cons _ t => by simp [t.len]
theorem putP_len (f : String) (v : PV) : ∀ fs : List (String × PV), (putP f v fs).length ≤ fs.length + 1
  | [] => by simp [putP]
  | (g, x) :: r => by
    unfold putP
    split
    · simp
    · have := putP_len f v r
      simp only [List.length_cons]; omega
theorem ins_set {M : MM} {H : Hp} {a : Addr} {c f : String} {fs : List (String × PV)} {dx : Addr} {gs : List (Str × V)} {p : PV} {v : V} (hM : HRep X.w ca X.K M H) (h1 : H a = some (.ins (ca c) dx gs)) (h2 : FRep X.K H fs gs) (h3 : fs.length < 900) (h4 : ClsOk X.K (ca c) c) (r : Rep X.K H p v) :
    HRep X.w ca X.K (mput M a (.ins c (putP f p fs))) (upd H a (.ins (ca c) dx (putF (so f) v gs))) ∧ Keep H (upd H a (.ins (ca c) dx (putF (so f) v gs))) := by
  have kp : Keep H (upd H a (.ins (ca c) dx (putF (so f) v gs))) := .set h1 rfl
  have := putP_len f p fs
  exact ⟨hM.set (u := .ins c (putP f p fs)) h1 rfl ⟨dx, _, upd_same, (h2.put r).keep kp, by omega, h4⟩, kp⟩
theorem swaps_attr {o : Expr} {f : Str} {p : Pos} {l : Nat} {env : Env} : ∀ e : Expr, swapsWith e (some (.Attribute o f p)) l env = pure false := fun e => by cases e <;> rfl
theorem swaps_sub {o i : Expr} {p : Pos} {l : Nat} {env : Env} : ∀ e : Expr, swapsWith e (some (.Subscript o i p)) l env = pure false := fun e => by cases e <;> rfl
theorem swaps_tup {es : List Expr} {k : Nat} {p : Pos} {l : Nat} {env : Env} : ∀ e : Expr, swapsWith e (some (.Tuple es k p)) l env = pure false := fun e => by cases e <;> rfl
theorem s_fld {o : Expr} {f : String} {p' : Pos} {ro : RE} (ho : PE X o (liftE (gOf X ca) ro)) (he : PE X e (liftE (gOf X ca) re)) :
    PS X (.Assign [.Attribute o (so f) p'] e pos) (liftS X ca fun D g M => re g M fun v M1 => ro g M1 fun p M2 => match p with
    | .ref a => match M2 a with
      | some (.ins c fs) => fs.length < 900 ∧ fieldOf c f = true ∧ D.nx g (mput M2 a (.ins c (putP f v fs)))
      | _ => False
    | _ => False) :=
  PS.imp (ps_fld ho he (swaps_attr e)) fun D σ H ⟨g, M, Da, rel, run, hk⟩ => lift_run rel run fun v M1 vv H1 rel1 rv k1 q1 => lift_run rel1 q1 fun p M2 vp H2 rel2 rp k2 q2 => by
    split at q2
    · rename_i a
      split at q2
      · rename_i c fs e1
        cases rp
        obtain ⟨dx, gs, h1, h2, h3, h4⟩ := rel2.h a _ e1
        obtain ⟨hM3, k3⟩ := ins_set (f := f) rel2.h h1 h2 q2.1 h4 (rv.keep k2)
        refine ⟨a, _, dx, gs, rfl, h1, h4.cl, h4.no f q2.2.1, ?_, hk.nx g _ σ _ (rel2.go k3 hM3) ((k1.trans k2).trans k3) q2.2.2⟩
        have := q2.1
        rw [← h2.len]; omega
      · exact q2.elim
    · exact q2.elim
theorem s_augF {o : Expr} {f : String} {op : Operator} {p' : Pos} {ro : RE} (ho : PE X o (liftE (gOf X ca) ro)) (he : PE X e (liftE (gOf X ca) re)) :
    PS X (.AugAssign (.Attribute o (so f) p') op e pos) (liftS X ca fun D g M => ro g M fun p M1 => match p with
    | .ref a => match M1 a with
      | some (.ins c fs) => match fs.lookup f with
        | some v => fieldOf c f = true ∧ re g M1 fun q M2 => augA op v q M2 fun r M3 => match M3 a with
          | some (.ins c' fs') => c' = c ∧ fs'.length < 900 ∧ D.nx g (mput M3 a (.ins c (putP f r fs')))
          | _ => False
        | none => False
      | _ => False
    | _ => False) :=
  PS.imp (ps_fldaug ho he (aug_snd op)) fun D σ H ⟨g, M, Da, rel, run, hk⟩ => lift_run rel run fun p M1 vp H1 rel1 rp k1 q1 => by
    split at q1
    · rename_i a
      split at q1
      · rename_i c fs e1
        split at q1
        · rename_i v hv
          cases rp
          obtain ⟨dx, gs, h1, h2, h3, h4⟩ := rel1.h a _ e1
          obtain ⟨w, hw, rw1⟩ := h2.lookup hv
          refine ⟨a, _, dx, gs, w, rfl, h1, h4.cl, h4.no f q1.1, hw, lift_run rel1 q1.2 fun q M2 vq H2 rel2 rq k2 q2 => ⟨v, q, M2, _, rel2.h, rw1.keep k2, rq, q2, fun r M3 vr H3 hM3 rr k3 q3 => ?_⟩⟩
          split at q3
          · rename_i c' fs' e3
            obtain ⟨ec, hl, q3⟩ := q3
            subst ec
            obtain ⟨dx', gs', g1, g2, g3, g4⟩ := hM3 a _ e3
            obtain ⟨hM4, k4⟩ := ins_set (f := f) hM3 g1 g2 hl g4 rr
            refine ⟨dx', gs', g1, by rw [← g2.len]; omega, hk.nx g _ σ _ ⟨((rel2.s.keep k3).keep k4), hM4⟩ (((k1.trans k2).trans k3).trans k4) q3⟩
          · exact q3.elim
        · exact q1.elim
      · exact q1.elim
    · exact q1.elim
end
end Rx
end

section
set_option maxHeartbeats 4000000
/-! Rx: that a body is a syntax without places; it is borne out. -/
namespace Rx
open PySem PySem.Spec PyProof.Rows L2
def notLoc (sc : Scope) : Expr → Bool
  | .Name id _ => !(sc.names.lookup id == some .local)
  | _ => true
def swNo (sc : Scope) (x v : Expr) : Bool := notComp v || match x with
  | .Attribute _ _ _ => true
  | .Subscript _ _ _ => true
  | .Tuple _ _ _ => true
  | .Name id _ => !(sc.names.lookup id == some .local)
  | _ => false
def swpNone (sc : Scope) (x v : Expr) : Bool := match x, v with
  | .Tuple ts _ _, .Tuple _ _ _ => ts.any (notLoc sc) || !(ts.length == 2 || ts.length == 3)
  | .List _ _, _ => false
  | _, _ => true
section
variable {env : Env} {sc : Scope}
theorem sw_no {x v : Expr} {l : Nat} (e : env.scope = sc) (h : swNo sc x v = true) : swapsWith v (some x) l env = pure false := by
  unfold swNo at h
  rcases Bool.or_eq_true_iff.mp h with z | z
  · exact swaps_no z
  · cases x with
    | Attribute => exact swaps_attr v
    | Subscript => exact swaps_sub v
    | Tuple => exact swaps_tup v
    | Name id p =>
      have k : (env.kindOf id == some .local) = false := by
        show (env.scope.names.lookup id == some .local) = false
        rw [e]; simpa using z
      cases v <;> first
        | rfl
        | (unfold swapsWith; simp only [k, Bool.and_false, Bool.false_and]; done)
        | (unfold swapsWith; simp only [k, Bool.and_false, Bool.false_and]; rfl)
    | _ => cases z
theorem swp_none {x v : Expr} (e : env.scope = sc) (h : swpNone sc x v = true) : swappedStores [x] v env = pure none := by
  have key : ∀ (ts : List Expr) (line : Nat), ts.any (notLoc sc) = true → (ts.filterMap fun
    | .Name id pos => if env.kindOf id == some .local && pos.line == line then some id else none
    | _ => none).length < ts.length := by
    intro ts line
    induction ts with
    | nil => intro q; cases q
    | cons a r ih =>
      intro q
      have le : (r.filterMap fun
        | .Name id pos => if env.kindOf id == some .local && pos.line == line then some id else none
        | _ => none).length ≤ r.length := List.length_filterMap_le _ _
      rw [List.any_cons] at q
      rw [List.filterMap_cons]
      cases a with
      | Name id p =>
        dsimp only
        by_cases c : (env.kindOf id == some NameKind.local && p.line == line) = true
        · have k : env.scope.names.lookup id = some .local := by
            have := and1 c
            simpa [Env.kindOf] using this
          have n0 : notLoc sc (.Name id p) = false := by
            show (!(sc.names.lookup id == some .local)) = false
            rw [← e, k]; rfl
          rw [n0, Bool.false_or] at q
          rw [if_pos c]
          have := ih q
          simp only [List.length_cons]; omega
        · rw [if_neg c]
          simp only [List.length_cons]; omega
      | _ =>
        dsimp only
        simp only [List.length_cons]; omega
  unfold swpNone at h
  cases x with
  | Tuple ts k p =>
    cases v with
    | Tuple vs k2 p2 =>
      have h : (ts.any (notLoc sc) || !(ts.length == 2 || ts.length == 3)) = true := h
      unfold swappedStores
      dsimp only
      split
      · rfl
      rename_i c0
      rcases Bool.or_eq_true_iff.mp h with h | h
      · have z := key ts ((ts.head?.map (·.pos.line)).getD 0) h
        split
        · rfl
        · split
          · rfl
          · rename_i c
            exact absurd (Bool.or_eq_true_iff.mpr (.inl (bne_iff_ne.mpr (Nat.ne_of_lt z)))) c
      · exact absurd (by rw [h]; rfl) c0
    | _ => rfl
  | List => cases h
  | _ => rfl
end
end Rx
end

section
set_option maxHeartbeats 4000000
/-! Rx: bodies are borne out. -/
namespace Rx
open PySem PySem.Spec PyProof.Rows L2
theorem star_any : ∀ a : Expr, (match a with | .Starred .. => true | _ => false) = false ∨ notStar a = false := fun a => by cases a <;> first | exact .inl rfl | exact .inr rfl
theorem star_no {a : Expr} {b : Bool} (h : b = false ∨ notStar a = false) (s : notStar a = true) : b = false := h.elim id fun z => by rw [s] at z; cases z
section
variable {env : Env} {x y z : Str} {a b c : Expr} {px py pz pt pt2 : Pos} {kt k2 : Nat}
theorem par2_ok (hb : env.blockKind = .function) (hx : env.kindOf x = some .local) (hy : env.kindOf y = some .local) (hl : py.line = px.line) (hne : x ≠ y) (sa : notStar a = true) (sb : notStar b = true)
    (hf : [a, b].all (foldedForSure 8) = false) (hc : [a, b].all (constantsAlone 8) = false) : swappedStores [.Tuple [.Name x px, .Name y py] kt pt] (.Tuple [a, b] k2 pt2) env = pure (some [x, y]) := by
  have e1 := star_no (star_any a) sa
  have e2 := star_no (star_any b) sb
  have ed : ([x, y] : List Str).eraseDups.length = 2 := by
    have : (y == x) = false := by simpa using Ne.symm hne
    simp [List.eraseDups_cons, this]
  unfold swappedStores
  dsimp only
  simp only [hb, hx, hy, hl, hf, hc, List.any_cons, List.any_nil, List.filterMap_cons, List.filterMap_nil, List.head?_cons, Option.map_some, Option.getD_some, Expr.pos, beq_self_eq_true, Bool.and_self, Bool.true_and, if_true, ed, List.length_cons, List.length_nil]
  simp
  intro h
  rcases h with h | h
  · exact absurd (e1.symm.trans h) Bool.false_ne_true
  · exact absurd (e2.symm.trans h) Bool.false_ne_true
theorem par3_ok (hb : env.blockKind = .function) (hx : env.kindOf x = some .local) (hy : env.kindOf y = some .local) (hz : env.kindOf z = some .local) (hl : py.line = px.line) (hl2 : pz.line = px.line) (hne : x ≠ y) (hne2 : x ≠ z) (hne3 : y ≠ z) (sa : notStar a = true) (sb : notStar b = true) (sc : notStar c = true)
    (hf : [a, b, c].all (foldedForSure 8) = false) (hc : [a, b, c].all (constantsAlone 8) = false) : swappedStores [.Tuple [.Name x px, .Name y py, .Name z pz] kt pt] (.Tuple [a, b, c] k2 pt2) env = pure (some [x, y, z]) := by
  have e1 := star_no (star_any a) sa
  have e2 := star_no (star_any b) sb
  have e3 := star_no (star_any c) sc
  have ed : ([x, y, z] : List Str).eraseDups.length = 3 := by
    have h1 : (y == x) = false := by simpa using Ne.symm hne
    have h2 : (z == x) = false := by simpa using Ne.symm hne2
    have h3 : (z == y) = false := by simpa using Ne.symm hne3
    simp [List.eraseDups_cons, h1, h2, h3]
  unfold swappedStores
  dsimp only
  simp only [hb, hx, hy, hz, hl, hl2, hf, hc, List.any_cons, List.any_nil, List.filterMap_cons, List.filterMap_nil, List.head?_cons, Option.map_some, Option.getD_some, Expr.pos, beq_self_eq_true, Bool.and_self, Bool.true_and, if_true, ed, List.length_cons, List.length_nil]
  simp
  intro h
  rcases h with h | h | h
  · exact absurd (e1.symm.trans h) Bool.false_ne_true
  · exact absurd (e2.symm.trans h) Bool.false_ne_true
  · exact absurd (e3.symm.trans h) Bool.false_ne_true
end
end Rx
end

section
set_option maxHeartbeats 4000000
/-! Rx: bodies are borne out. -/
namespace Rx
open PySem PySem.Spec PyProof.Rows L2
abbrev FT : Str → Bool := fun _ => true
def locN (N : List Str) (sc : Scope) (i : Nat) (x : Str) : Bool := decide (N[i]? = some x) && decide (sc.names.lookup x = some .local)
/-- a value of a suite is the text -/
def okXL (N : List Str) (sc : Scope) (nm : Option Str) : List XL → List Expr → Bool
  | [], [] => true
  | .str s :: ls, .Constant (.str t) _ _ :: xs => decide (so s = t) && okXL N sc nm ls xs
  | .fld f :: ls, .Attribute (.Name z _) y _ :: xs => (decide (nm = some z) && (decide (y = so f) && nmOk z)) && okXL N sc nm ls xs
  | _, _ => false
def okXS (N : List Str) (sc : Scope) (nm : Option Str) : XS → Expr → Bool
  | .non, .Constant .none _ _ => true
  | .str s, .Constant (.str t) _ _ => decide (so s = t)
  | .lst ls, .List xs _ => okXL N sc nm ls xs && decide (xs.length ≤ 1000)
  | .ite c a b, .IfExp (.Call (.Name y _) [.Name z _, .Name u _] [] _) ea eb _ => ((decide (y = so "isinstance") && glb sc y) && ((decide (u = so c) && glb sc u) && (decide (nm = some z) && nmOk z))) && (okXS N sc nm a ea && okXS N sc nm b eb)
  | _, _ => false
def nmB (N : List Str) (sc : Scope) (i : Nat) : Option Nat → Option Str → Bool
  | none, none => true
  | some j, some z => locN N sc j z && !(decide (j = i))
  | _, _ => false
/-- the clauses are the text -/
def okHs (N : List Str) (sc : Scope) : Hs → List ExceptHandler → Bool
  | .nil, [] => true
  | .cons c n i e hs, .ExceptHandler (some (.Name x _)) nm [.Assign [.Name y py] ex p] _ :: hds => ((decide (x = so c) && glb sc x) && (nmB N sc i n nm && (locN N sc i y && (notComp ex && okXS N sc nm e ex)))) && okHs N sc hs hds
  | _, _ => false
mutual
def okS (N : List Str) (sc : Scope) : S → Stmt → Bool
  | .setl i elt x it c own, .Assign [.Name y py] (.ListComp e gs scope lp) p => (locN N sc i y && ((py.line == lp.line) && !(scope.names.any fun (n, k) => n == y && (k == .local || k == .cell)))) && okE N sc FT (.lc elt x it c own) (.ListComp e gs scope lp)
  | .setd i k v x it c own, .Assign [.Name y py] (.DictComp ke ve gs scope lp) p => (locN N sc i y && ((py.line == lp.line) && !(scope.names.any fun (n, k) => n == y && (k == .local || k == .cell)))) && okE N sc FT (.dc k v x it c own) (.DictComp ke ve gs scope lp)
  | .setl2 i elt x it x1 it1 c1 own vs1, .Assign [.Name y py] (.ListComp e gs scope lp) p => (locN N sc i y && ((py.line == lp.line) && !(scope.names.any fun (n, k) => n == y && (k == .local || k == .cell)))) && okE N sc FT (.lc2 elt x it x1 it1 c1 own vs1) (.ListComp e gs scope lp)
  | .asg t e, .Assign [x] v p => ((swNo sc x v && swpNone sc x v) && notStar x) && (okTg N sc FT t x && okE N sc FT e v)
  | .fld o f e, .Assign [.Attribute x y p'] v p => decide (y = so f) && (okE N sc FT o x && okE N sc FT e v)
  | .par2 i j a b, .Assign [.Tuple [.Name x px, .Name y py] _ _] (.Tuple [ea, eb] _ _) p => ((locN N sc i x && locN N sc j y) && ((decide (py.line = px.line) && decide (x ≠ y)) && (notStar ea && notStar eb))) &&
      (((![ea, eb].all (foldedForSure 8)) && !([ea, eb].all (constantsAlone 8))) && (okE N sc FT a ea && okE N sc FT b eb))
  | .par3 i j l a b c, .Assign [.Tuple [.Name x px, .Name y py, .Name z pz] _ _] (.Tuple [ea, eb, ec] _ _) p => ((locN N sc i x && (locN N sc j y && locN N sc l z)) && (((decide (py.line = px.line) && decide (pz.line = px.line)) && (decide (x ≠ y) && (decide (x ≠ z) && decide (y ≠ z)))) && (notStar ea && (notStar eb && notStar ec)))) &&
      (((![ea, eb, ec].all (foldedForSure 8)) && !([ea, eb, ec].all (constantsAlone 8))) && (okE N sc FT a ea && (okE N sc FT b eb && okE N sc FT c ec)))
  | .aug i op e, .AugAssign (.Name x _) o v p => (decide (op = o) && (decide (N[i]? = some x) && (decide (sc.names.lookup x = some .local) || (decide (sc.names.lookup x = some .cell) && FT x)))) && okE N sc FT e v
  | .augF o f op e, .AugAssign (.Attribute x y _) o' v p => (decide (op = o') && decide (y = so f)) && (okE N sc FT o x && okE N sc FT e v)
  | .expr e, .Expr v p => notComp v && okE N sc FT e v
  | .ret e, .Return (some v) p => okE N sc FT e v
  | .retN, .Return none p => true
  | .ifS c t f, .If x a b p => okE N sc FT c x && (okSs N sc t a && okSs N sc f b)
  | .whileS c b, .While x body [] p => okE N sc FT c x && okSs N sc b body
  | .forS x it b, .For t i body [] p => (okI N sc FT it x t i && okTg N sc FT x t) && okSs N sc b body
  | .pass, .Pass _ => true
  | .cont, .Continue _ => true
  | .brk, .Break _ => true
  | .never, _ => true
  | .raise c as, .Raise (some (.Call (.Name y _) xs [] _)) none _ => ((decide (y = so c) && glb sc y) && (nmOk y && xs.all notStar)) && okEs N sc FT as xs
  | .matchS e cs, .Match x mcs _ => okE N sc FT e x && okCs N sc cs mcs
  | .tryS b hs, .Try body (h :: hds) [] [] _ => okHs N sc hs (h :: hds) && okSs N sc b body
  | _, _ => false
def okSs (N : List Str) (sc : Scope) : Ss → List Stmt → Bool
  | .nil, [] => true
  | .cons s ss, x :: xs => okS N sc s x && okSs N sc ss xs
  | _, _ => false
def okCs (N : List Str) (sc : Scope) : Cs → List MatchCase → Bool
  | .nil, [] => true
  | .cons x b cs, ⟨.MatchValue (.Constant (.str y) _ _) _, none, body⟩ :: r => decide (so x = y) && (okSs N sc b body && okCs N sc cs r)
  | _, _ => false
end
structure SOk (Γ : Gm) (ca : String → Addr) (xk : XW) (N : List Str) (sc : Scope) (X : Cx) : Prop where
  x : XOk Γ ca xk N sc FT X
  own : PassesOwn (model X.prog X.w) X.A X.env X.xe
  fk : X.env.scope.kind = .function
  stk : X.stack = X.env :: X.outer
  frm : X.env.frame = some X.env.locals
variable {Γ : Gm} {ca : String → Addr}
theorem loc_n {X : Cx} {xk : XW} {N : List Str} {sc : Scope} {i : Nat} {x : Str} (K : SOk Γ ca xk N sc X) (h : locN N sc i x = true) : X.N[i]? = some x ∧ X.env.scope.names.lookup x = some .local := by
  unfold locN at h
  rw [K.x.eN, K.x.eS]
  exact ⟨of_decide_eq_true (and1 h), of_decide_eq_true (and2 h)⟩
theorem ne_ix {X : Cx} {i j : Nat} {x y : Str} (h1 : X.N[i]? = some x) (h2 : X.N[j]? = some y) (h : x ≠ y) : i ≠ j := by
  rintro rfl; rw [h1] at h2; exact h (Option.some.inj h2)
theorem not_t {b : Bool} (h : (!b) = true) : b = false := by cases b <;> simp_all
theorem bk_fn {X : Cx} (h : X.env.scope.kind = .function) : X.env.blockKind = .function := by unfold Env.blockKind; rw [h]; rfl
theorem s_setl {X : Cx} {xk : XW} {N : List Str} {sc : Scope} {i : Nat} {elt : E} {x : Tg} {it : It} {c : Oe} {own : List (String × Nat)} {y : Str} {py lp p : Pos} {e : Expr} {gs : List Comprehension} {scope : Scope} (K : SOk Γ ca xk N sc X)
    (hn : locN N sc i y = true) (hl : (py.line == lp.line) = true) (ha : (scope.names.any fun (n, k) => n == y && (k == .local || k == .cell)) = false) (h : okE N sc FT (.lc elt x it c own) (.ListComp e gs scope lp) = true) :
    PS X (.Assign [.Name y py] (.ListComp e gs scope lp) p) (liftS X ca fun D g M => runE Γ (.lc elt x it c own) xk g M fun q M1 => D.nx (g.set i (some q)) M1) := by
  obtain ⟨n1, n2⟩ := loc_n K hn
  match gs, h, ha with
  | [⟨t, j, ifs, 0⟩], h, ha =>
    have h : ((((blkC N sc scope (own.map fun p => (so p.1, p.2)) && (tgSl x).all fun i => (own.map (·.2)).contains i) && (okI N sc FT it x t j && okTg N (relS scope sc) (blkF scope) x t)) && (okC N (relS scope sc) (blkF scope) c ifs && okE N (relS scope sc) (blkF scope) elt e))) = true := h
    have b := blkOk_by (and1 (and1 (and1 h)))
    have hsl : ∀ j ∈ tgSl x, j ∈ own.map (·.2) := fun j hj => by simpa using (List.all_eq_true.mp (and2 (and1 (and1 h)))) j hj
    have eo : (own.map fun p => (so p.1, p.2)).map (·.2) = own.map (·.2) := by rw [List.map_map]; rfl
    have z := ps_setLc (X := X) (te := liftE (gOf X ca) (runE Γ elt noX)) (tt := liftT (gOf X ca) (runC Γ c noX)) (g := liftG X ca x (runTg Γ x noX)) (wi := liftI X ca x (runI Γ it xk)) (py := py) (spos := p) (pos := lp) (elt := e) (own := own.map fun p => (so p.1, p.2)) K.x.calm K.x.nd n1 n2 (sw_true K.fk n2 hl ha) (sndI it (t := x) K.x (and1 (and2 (and1 h)))) (by rw [K.x.eN, K.x.eS]; exact b)
      (fun s H C cl fp => sndTg x K.x.blk (and2 (and2 (and1 h)))) (fun s H C cl fp => sndC c K.x.blk (and1 (and2 h))) (fun s H C cl fp => sndE elt K.x.blk (and2 (and2 h))) (okI_fset (and1 (and2 (and1 h))))
    rw [eo] at z
    refine ⟨fun pins s σ H D I hh => thn (z.run pins s σ H (unlD X D) I ?_) fun f s2 q => sp_unl q⟩
    obtain ⟨g, M, Da, rel, run, hk⟩ := hh
    exact lc_turns (Q := fun v H1 => D.nx (σ.set i (some v)) H1) hsl ⟨g, M, fun q M1 => Da.nx (g.set i (some q)) M1, rel, run, fun q M1 v H1 hM rq k q1 => hk.nx _ M1 _ H1 ⟨(rel.s.keep k).set i rq, hM⟩ k q1⟩
/-- name = [.. for .. for ..] -/
theorem s_setl2 {X : Cx} {xk : XW} {N : List Str} {sc : Scope} {i : Nat} {elt : E} {x x1 : Tg} {it it1 : It} {c1 : Oe} {own : List (String × Nat)} {vs1 : List Nat} {y : Str} {py lp p : Pos} {e : Expr} {gs : List Comprehension} {scope : Scope} (K : SOk Γ ca xk N sc X)
    (hn : locN N sc i y = true) (hl : (py.line == lp.line) = true) (hno : (scope.names.any fun (n, k) => n == y && (k == .local || k == .cell)) = false) (h : okE N sc FT (.lc2 elt x it x1 it1 c1 own vs1) (.ListComp e gs scope lp) = true) :
    PS X (.Assign [.Name y py] (.ListComp e gs scope lp) p) (liftS X ca fun D g M => runE Γ (.lc2 elt x it x1 it1 c1 own vs1) xk g M fun q M1 => D.nx (g.set i (some q)) M1) := by
  obtain ⟨n1, n2⟩ := loc_n K hn
  match gs, h, hno with
  | [⟨t, j, [], 0⟩, ⟨t1, j1, ifs1, 0⟩], h, hno =>
    have h : (((blkC N sc scope (own.map fun p => (so p.1, p.2)) && ((tgSl x).all (fun i => (own.map (·.2)).contains i) && ((tgSl x1).all (fun i => vs1.contains i) && vs1.all fun i => (own.map (·.2)).contains i))) && (okI N sc FT it x t j && okTg N (relS scope sc) (blkF scope) x t)) &&
      ((okI N (relS scope sc) (blkF scope) it1 x1 t1 j1 && okTg N (relS scope sc) (blkF scope) x1 t1) && (okC N (relS scope sc) (blkF scope) c1 ifs1 && okE N (relS scope sc) (blkF scope) elt e))) = true := h
    have ha := and1 (and1 h)
    have hb := and2 (and1 h)
    have hc := and1 (and2 h)
    have hd := and2 (and2 h)
    have b := blkOk_by (and1 ha)
    have hsl : ∀ j ∈ tgSl x, j ∈ own.map (·.2) := fun j hj => by simpa using (List.all_eq_true.mp (and1 (and2 ha))) j hj
    have hsl1 : ∀ j ∈ tgSl x1, j ∈ vs1 := fun j hj => by simpa using (List.all_eq_true.mp (and1 (and2 (and2 ha)))) j hj
    have hv : ∀ j ∈ vs1, j ∈ own.map (·.2) := fun j hj => by simpa using (List.all_eq_true.mp (and2 (and2 (and2 ha)))) j hj
    have eo : (own.map fun p => (so p.1, p.2)).map (·.2) = own.map (·.2) := by rw [List.map_map]; rfl
    have z := ps_setLc2 (X := X) (te := liftE (gOf X ca) (runE Γ elt noX)) (tt := liftT (gOf X ca) fun _ M Q => Q true M) (tt1 := liftT (gOf X ca) (runC Γ c1 noX)) (g := liftG X ca x (runTg Γ x noX)) (g1 := liftG X ca x1 (runTg Γ x1 noX)) (wi := liftI X ca x (runI Γ it xk)) (wi1 := liftI0 X ca x1 (runI Γ it1 noX)) (vs1 := vs1) (py := py) (spos := p) (pos := lp) (elt := e) (own := own.map fun p => (so p.1, p.2)) K.x.calm K.x.nd n1 n2 (sw_true K.fk n2 hl hno) (sndI it (t := x) K.x (and1 hb)) (by rw [K.x.eN, K.x.eS]; exact b) (by rw [eo]; exact hv)
      (fun s H C cl fp => sndTg x K.x.blk (and2 hb)) (fun s H C cl fp => ts_none) (fun s H C cl fp => PI.zero (X := X) (Y := X.blk s H scope (compEnvC scope cl C X.env) fp) rfl rfl (sndI it1 (t := x1) K.x.blk (and1 hc))) (fun s H C cl fp => sndTg x1 K.x.blk (and2 hc)) (fun s H C cl fp => sndC c1 K.x.blk (and1 hd)) (fun s H C cl fp => sndE elt K.x.blk (and2 hd)) (okI_fset (and1 hb)) (fun env x => okI_fset (and1 hc) x)
    rw [eo] at z
    refine ⟨fun pins s σ H D I hh => thn (z.run pins s σ H (unlD X D) I ?_) fun f s2 q => sp_unl q⟩
    obtain ⟨g, M, Da, rel, run, hk⟩ := hh
    exact lc2_turns (Q := fun v H1 => D.nx (σ.set i (some v)) H1) hsl hsl1 ⟨g, M, fun q M1 => Da.nx (g.set i (some q)) M1, rel, run, fun q M1 v H1 hM rq k q1 => hk.nx _ M1 _ H1 ⟨(rel.s.keep k).set i rq, hM⟩ k q1⟩
/-- name = {..} on one line, the name a local -/
theorem ps_setDc {X : Cx} {i : Nat} {y : Str} {py : Pos} {kx vx tg iter : Expr} {ifs : List Expr} {scope : Scope} {own : List (Str × Nat)} {pos spos : Pos} {wi : TI} {g : TG} {tt : TT} {tk tv : TE} (hc : X.calm = true) (hN : X.N.Nodup) (hy : X.N[i]? = some y) (hyl : X.env.scope.names.lookup y = some .local)
    (hsw : swapsWith (.DictComp kx vx [⟨tg, iter, ifs, 0⟩] scope pos) (some (.Name y py)) spos.line X.env = pure true) (hi : PI X tg iter wi) (ok : BlkOk X.N X.env.scope scope own)
    (hg : ∀ (s : Shared) (H : Hp) (C : Addr) (cl : List (Str × Addr)) (fp : List Addr), PG (X.blk s H scope (compEnvC scope cl C X.env) fp) tg g) (ht : ∀ (s : Shared) (H : Hp) (C : Addr) (cl : List (Str × Addr)) (fp : List Addr), PTs (X.blk s H scope (compEnvC scope cl C X.env) fp) ifs tt)
    (hk : ∀ (s : Shared) (H : Hp) (C : Addr) (cl : List (Str × Addr)) (fp : List Addr), PE (X.blk s H scope (compEnvC scope cl C X.env) fp) kx tk)
    (he : ∀ (s : Shared) (H : Hp) (C : Addr) (cl : List (Str × Addr)) (fp : List Addr), PE (X.blk s H scope (compEnvC scope cl C X.env) fp) vx tv) (hs : ∀ x, foldedSetIterable iter X.env x = pure x) :
    PS X (.Assign [.Name y py] (.DictComp kx vx [⟨tg, iter, ifs, 0⟩] scope pos) spos) (tAsg (tDc wi g tt tk tv (own.map (·.2))) (gName i)) := by
  refine ⟨fun pins s σ H D I h => ?_⟩
  rw [exec_Assign_Name_used _ _ _ _ hsw]
  refine wpAny_bind (wpAny_standAt (wpAny_bind ?_))
  have h : tDc wi g tt tk tv (own.map (·.2)) σ H (fun x H1 => gName i x σ H1 D.nx) := h
  refine wpAny_bind (thn (dc_core (Qf := fun _ s' => SP X pins D .next s') hc hN I hi ok hg ht hk he hs h fun L C s' m H' I' q hn f => ?_) fun _ s' hq => wpAny_pure (wpAny_pure hq))
  show wpAny _ _ (assign (.Name y py) X.env (.ref L)) _ _ _
  refine wpAny_assign_Name (store_ok2 (v := V.ref L) I' hN hy (.inl hyl) rfl (fun s2 I2 ⟨a, sb, ha⟩ => ?_) (.inr hyl))
  obtain ⟨f0, f1, f2, f3, f4, f5⟩ := f
  have haC : C ≠ a := by
    rcases ha with z | z
    · rw [z]; exact f1
    · exact fun e => f4 y a z e.symm
  refine ⟨m, hn.sameBut sb haC, fun h3 sb3 => ?_⟩
  exact ⟨_, H', I2.turned (t' := s2.toks) (fun b o hb e => (sb3.2 b hb).trans e) f0 f1 f3 f4 f5, q⟩
theorem swd_true {kx vx : Expr} {gs : List Comprehension} {scope : Scope} {pos py : Pos} {y : Str} {l : Nat} {env : Env} (hk : env.scope.kind = .function) (hy : env.scope.names.lookup y = some .local) (hl : (py.line == pos.line) = true)
    (ha : (scope.names.any fun (n, k) => n == y && (k == .local || k == .cell)) = false) : swapsWith (.DictComp kx vx gs scope pos) (some (.Name y py)) l env = pure true := by
  have ky : env.kindOf y = some .local := hy
  have hb : env.blockKind = .function := by unfold Env.blockKind; rw [hk]; rfl
  unfold swapsWith
  simp only [hb, ky, ha, Expr.pos, hl]
  rfl
def unlE (X : Cx) (D : Ends) : Ends := { D with nx := fun τ H2 => ∀ pins σ s, L2.Inv X pins σ H2 s → ∃ H3, L2.Inv X pins σ H3 s ∧ D.nx τ H3 }
theorem sp_unlE {X : Cx} {pins : List (Addr × Obj)} {D : Ends} {f : Flow} {s : Shared} (h : SP X pins (unlE X D) f s) : SP X pins D f s := by
  cases f with
  | next => obtain ⟨σ, H, I, c⟩ := h; obtain ⟨H3, I3, q⟩ := c _ _ _ I; exact ⟨σ, H3, I3, q⟩
  | brk => exact h
  | cont => exact h
  | ret u => exact h
theorem s_setd {X : Cx} {xk : XW} {N : List Str} {sc : Scope} {i : Nat} {ek ev : E} {x : Tg} {it : It} {c : Oe} {own : List (String × Nat)} {y : Str} {py lp p : Pos} {kx vx : Expr} {gs : List Comprehension} {scope : Scope} (K : SOk Γ ca xk N sc X)
    (hn : locN N sc i y = true) (hl : (py.line == lp.line) = true) (ha : (scope.names.any fun (n, k) => n == y && (k == .local || k == .cell)) = false) (h : okE N sc FT (.dc ek ev x it c own) (.DictComp kx vx gs scope lp) = true) :
    PS X (.Assign [.Name y py] (.DictComp kx vx gs scope lp) p) (liftS X ca fun D g M => runE Γ (.dc ek ev x it c own) xk g M fun q M1 => D.nx (g.set i (some q)) M1) := by
  obtain ⟨n1, n2⟩ := loc_n K hn
  match gs, h, ha with
  | [⟨t, j, ifs, 0⟩], h, ha =>
    have h : ((((blkC N sc scope (own.map fun p => (so p.1, p.2)) && (tgSl x).all fun i => (own.map (·.2)).contains i) && (okI N sc FT it x t j && okTg N (relS scope sc) (blkF scope) x t)) && okC N (relS scope sc) (blkF scope) c ifs) && (okE N (relS scope sc) (blkF scope) ek kx && okE N (relS scope sc) (blkF scope) ev vx)) = true := h
    have h0 := and1 (and1 h)
    have b := blkOk_by (and1 (and1 h0))
    have hsl : ∀ j ∈ tgSl x, j ∈ own.map (·.2) := fun j hj => by simpa using (List.all_eq_true.mp (and2 (and1 h0))) j hj
    have eo : (own.map fun p => (so p.1, p.2)).map (·.2) = own.map (·.2) := by rw [List.map_map]; rfl
    have z := ps_setDc (X := X) (tk := liftE (gOf X ca) (runE Γ ek noX)) (tv := liftE (gOf X ca) (runE Γ ev noX)) (tt := liftT (gOf X ca) (runC Γ c noX)) (g := liftG X ca x (runTg Γ x noX)) (wi := liftI X ca x (runI Γ it xk)) (py := py) (spos := p) (pos := lp) (kx := kx) (vx := vx) (own := own.map fun p => (so p.1, p.2)) K.x.calm K.x.nd n1 n2 (swd_true K.fk n2 hl ha) (sndI it (t := x) K.x (and1 (and2 h0))) (by rw [K.x.eN, K.x.eS]; exact b)
      (fun s H C cl fp => sndTg x K.x.blk (and2 (and2 h0))) (fun s H C cl fp => sndC c K.x.blk (and2 (and1 h))) (fun s H C cl fp => sndE ek K.x.blk (and1 (and2 h))) (fun s H C cl fp => sndE ev K.x.blk (and2 (and2 h))) (okI_fset (and1 (and2 h0)))
    rw [eo] at z
    refine ⟨fun pins s σ H D I hh => thn (z.run pins s σ H (unlE X D) I ?_) fun f s2 q => sp_unlE q⟩
    obtain ⟨g, M, Da, rel, run, hk⟩ := hh
    exact dc_turns (Q := fun v H1 => D.nx (σ.set i (some v)) H1) hsl ⟨g, M, fun q M1 => Da.nx (g.set i (some q)) M1, rel, run, fun q M1 v H1 hM rq k q1 => hk.nx _ M1 _ H1 ⟨(rel.s.keep k).set i rq, hM⟩ k q1⟩
end Rx
end

section
set_option maxHeartbeats 4000000
/-! Rx: raise, try. -/
namespace Rx
open PySem PySem.Spec PyProof.Rows L2
/-! ### a try's body keeps what stood at the try -/
abbrev Cx.trH (X : Cx) (H : Hp) (pn : List (Addr × Obj)) (xe : Value → Shared → Prop) : Cx := { X with pn := pn, xe := xe, H_0 := fun b => match H b with | some u => some u | none => X.H_0 b }
section
variable {X : Cx} {pins pn' : List (Addr × Obj)} {σ σ' : L2.St} {H H' : Hp} {s s' : Shared} {xe : Value → Shared → Prop} {pn : List (Addr × Obj)}
theorem h0_some {b : Addr} {u : HO} (h : H b = some u) : (Cx.trH X H pn xe).H_0 b = some u := by
  show (match H b with | some u => some u | none => X.H_0 b) = some u
  rw [h]
theorem h0_none {b : Addr} (h : H b = none) (h2 : X.H_0 b = none) : (Cx.trH X H pn xe).H_0 b = none := by
  show (match H b with | some u => some u | none => X.H_0 b) = none
  rw [h]; exact h2
theorem h0_inv {b : Addr} (h : (Cx.trH X H pn xe).H_0 b = none) : H b = none ∧ X.H_0 b = none := by
  have h : (match H b with | some u => some u | none => X.H_0 b) = none := h
  cases q : H b with
  | none => rw [q] at h; exact ⟨rfl, h⟩
  | some u => rw [q] at h; cases h
theorem toTryH (I : L2.Inv X pins σ H s) (xe : Value → Shared → Prop) : L2.Inv (Cx.trH X H (X.pn ++ pins) xe) [] σ H s := by
  have ok := I.ok
  refine ⟨⟨ok.mod, ok.kind, ok.glob, ok.blt, ok.above, ok.inj, ok.has, ok.cab, ok.hd, ok.frames, ok.stk, ok.exf, fun b o e => ⟨(ok.bs b o e).1, h0_none (I.bs b o e).2 (ok.bs b o e).2⟩, ok.bsz, ok.noex, ok.exfs, ok.funs, fun b hb => by
      obtain ⟨_, o, ho, _⟩ := ok.funs.mem hb
      exact h0_none (I.base.free b o ho (ok.frf b hb) (fun z => ok.exfs b z hb)) (ok.frf b hb)⟩,
    I.os, I.bare, ⟨fun b o e n hf hx => I.base.keep b o e (h0_inv n).2 hf hx, fun b o e n hf hx => I.base.slot b o e (h0_inv n).2 hf hx, fun b o e n hx => (h0_inv n).1, I.base.there, fun b xs e => ?_, fun b o u e => ?_, fun b ps e => ?_⟩, I.loc, I.cell, I.free, I.freeC, fun p hp => I.pin p (by rw [List.append_nil] at hp; exact hp), I.hok, I.len⟩
  · cases q : H b with
    | some u => rw [h0_some q] at e; rw [← e]
    | none =>
      have e : (match H b with | some u => some u | none => X.H_0 b) = some (.tup xs) := e
      rw [q] at e
      have z := I.base.tups b xs e
      rw [q] at z; cases z
  · cases q : H b with
    | some u => rw [h0_some q] at e; rw [← e]
    | none =>
      have e : (match H b with | some u => some u | none => X.H_0 b) = some (.frz o u) := e
      rw [q] at e
      have z := I.base.frzs b o u e
      rw [q] at z; cases z
  · cases q : H b with
    | some u => rw [h0_some q] at e; exact ⟨#[], by rw [e]; simp⟩
    | none =>
      have e : (match H b with | some u => some u | none => X.H_0 b) = some (.tbl ps) := e
      rw [q] at e
      obtain ⟨m, z⟩ := I.base.tbls b ps e
      rw [q] at z; cases z
theorem keepH (J : L2.Inv (Cx.trH X H pn xe) pn' σ' H' s') : Keep H H' := ⟨fun b xs e => J.base.tups b xs (h0_some e), fun b o u e => J.base.frzs b o u (h0_some e)⟩
theorem ofTryH (I : L2.Inv X pins σ H s) (J : L2.Inv (Cx.trH X H (X.pn ++ pins) xe) pn' σ' H' s') : L2.Inv X pins σ' H' s' := by
  refine ⟨I.ok, J.os, J.bare, ⟨fun b o e n hf hx => J.base.keep b o e (h0_none (I.base.free b o e n hx) n) hf hx, fun b o e n hf hx => J.base.slot b o e (h0_none (I.base.free b o e n hx) n) hf hx, fun b o e n hx => J.base.free b o e (h0_none (I.base.free b o e n hx) n) hx, J.base.there,
    fun b xs e => J.base.tups b xs (h0_some (I.base.tups b xs e)), fun b o u e => J.base.frzs b o u (h0_some (I.base.frzs b o u e)), fun b ps e => ?_⟩, J.loc, J.cell, J.free, J.freeC, fun p hp => J.pin p (List.mem_append_left _ hp), J.hok, J.len⟩
  obtain ⟨m, e1⟩ := I.base.tbls b ps e
  obtain ⟨m2, e2⟩ := J.base.tbls b _ (h0_some e1)
  exact ⟨m ++ m2, by rw [e2, Array.append_assoc]⟩
end
end Rx
end

section
set_option maxHeartbeats 4000000
/-! Rx: raise; what stands in a suite. -/
namespace Rx
open PySem PySem.Spec PyProof.Rows L2
/-! ### raise -/
theorem shp_v {K : PySem.W.Frag} {H : Hp} {p : PV} {v : V} {r : Bool} (h : shP r p = true) (rp : Rep K H p v) : ShowVV r v := by
  cases p with
  | int i =>
    cases rp
    have h : decide (i.natAbs < 1000) = true := h
    have h := of_decide_eq_true h
    exact h
  | str s =>
    cases rp
    have h : (r && decide ((PySem.reprText (Str.ofString s)).length ≤ 1000)) = true := h
    exact ⟨and1 h, of_decide_eq_true (and2 h)⟩
  | non => cases rp; exact h
  | _ => cases h
theorem so_eq {a b : String} : so a = so b ↔ a = b := ⟨fun h => so_inj h, fun h => by rw [h]⟩
theorem parL_none {ps : List Str} {vs : List V} {x : Str} : ∀ {l : List (Str × V)}, (∀ q ∈ l, q.1 ≠ x) → l.lookup x = none
  | [], _ => rfl
  | (f, v) :: r, h => by
    have e : (x == f) = false := by simpa using (Ne.symm (h (f, v) (List.mem_cons_self ..)))
    simp only [List.lookup, e]
    exact parL_none (ps := ps) (vs := vs) fun q hq => h q (List.mem_cons_of_mem _ hq)
/-- a parameter's value, as a tree -/
theorem par_tree {K : PySem.W.Frag} {H : Hp} {pn : List String} {ps : List PV} {vs : List V} {a : Addr} (r : Reps K H ps vs) (nd : (so "self" :: pn.map so).Nodup) (x : String) (hx : x ∈ pn) :
    parL (so "self" :: pn.map so) (.ref a :: vs) (so x) = ((pn.map so).zip vs).lookup (so x) ∧ ∀ p, parP pn ps x = some p → ∃ v, ((pn.map so).zip vs).lookup (so x) = some v ∧ Rep K H p v := by
  have key : ∀ {l : List (Str × V)} {y : Str}, (l.map (·.1)).Nodup → l.reverse.lookup y = l.lookup y := by
    intro l
    induction l with
    | nil => intro y _; rfl
    | cons q l ih =>
      intro y nd
      obtain ⟨f, v⟩ := q
      rw [List.map_cons, List.nodup_cons] at nd
      rw [List.reverse_cons, List.lookup_append, ih nd.2]
      by_cases e : y = f
      · subst e
        have : l.lookup y = none := parL_none (ps := []) (vs := []) fun q hq e => nd.1 (by rw [← e]; exact List.mem_map_of_mem (f := fun q => q.1) hq)
        rw [this]
        simp [List.lookup]
      · have e' : (y == f) = false := by simpa using e
        simp only [List.lookup, e']
        cases l.lookup y <;> rfl
  have hself : so x ≠ so "self" := fun e => (List.nodup_cons.mp nd).1 (e ▸ List.mem_map_of_mem hx)
  have zf : ∀ (l : List Str) (vs : List V), ((l.zip vs).map (·.1)).Sublist l := fun l vs => by
    induction l generalizing vs with
    | nil => simp
    | cons a l ih => cases vs with
      | nil => simp
      | cons v vs => simpa using (ih vs)
  refine ⟨?_, fun p hp => ?_⟩
  · unfold parL
    rw [key (nd.sublist (zf _ _))]
    show List.lookup (so x) ((so "self", V.ref a) :: (pn.map so).zip vs) = _
    have e' : (so x == so "self") = false := by simpa using hself
    simp only [List.lookup, e']
  · unfold parP at hp
    clear nd hself
    induction pn generalizing ps vs with
    | nil => cases hx
    | cons y pn ih =>
      cases r with
      | nil => simp at hp
      | @cons p0 ps v0 vs r0 rs =>
        rw [List.zip_cons_cons] at hp
        rw [List.map_cons, List.zip_cons_cons]
        by_cases e : x = y
        · subst e
          simp only [List.lookup, beq_self_eq_true] at hp ⊢
          cases hp
          exact ⟨v0, rfl, r0⟩
        · have e1 : (x == y) = false := by simpa using e
          have e2 : (so x == so y) = false := by simpa using fun z => e (so_inj z)
          simp only [List.lookup, e1] at hp
          simp only [List.lookup, e2]
          exact ih rs (by rcases List.mem_cons.mp hx with h | h; exact absurd h e; exact h) hp
theorem accP_rep {K : PySem.W.Frag} {H : Hp} {m : String → Option PV} {m' : Str → Option V} : ∀ (fl : List (String × String)) (gs : List (String × PV)) (gs' : List (Str × V)), (∀ q ∈ fl, ∃ p v, m q.2 = some p ∧ m' (so q.2) = some v ∧ Rep K H p v) → FRep K H gs gs' →
    FRep K H (accP m gs fl) (accL m' gs' (fl.map fun q => (so q.1, so q.2)))
  | [], gs, gs', _, r => r
  | (f, p) :: fl, gs, gs', h, r => by
    obtain ⟨x, v, e1, e2, rv⟩ := h (f, p) (List.mem_cons_self ..)
    refine accP_rep fl _ _ (fun q hq => h q (List.mem_cons_of_mem _ hq)) ?_
    show FRep K H ((f, (m p).getD .non) :: gs) ((so f, (m' (so p)).getD .non) :: gs')
    have e1 : m p = some x := e1
    have e2 : m' (so p) = some v := e2
    rw [e1, e2]
    exact .cons rv r
theorem accP_nil {m : String → Option PV} {fl : List (String × String)} (h : fl = []) : accP m [] fl = [] := by subst h; rfl
section
variable {Γ : Gm} {ca : String → Addr} {xk : XW} {N : List Str} {sc : Scope} {X : Cx} {es : List Expr} {r : RA} {pos cp p : Pos}
theorem spec_in {c : String} {pn : List String} {rd : List (String × Bool)} {fl : List (String × String)} (h : excSpec c = some (pn, rd, fl)) : (∀ q ∈ fl, q.2 ∈ pn) ∧ ∀ q ∈ rd, q.1 ∈ pn := by
  unfold excSpec at h
  split at h <;> first
    | (cases h; done)
    | (cases h; exact ⟨by decide, by decide⟩)
/-- what the making asks, from the trees -/
theorem mk_ok {c : String} {pn : List String} {rd : List (String × Bool)} {fl : List (String × String)} {xa : XA} {f cda cc : Addr} {qual : Str} {params : Arguments} {body : List Stmt} {scope : Scope} {fd : FuncData} (hspec : excSpec c = some (pn, rd, fl))
    (T : XIn X.prog X.K (ca c) f cda cc qual params body scope (so "self" :: pn.map so) xa (fl.map fun q => (so q.1, so q.2)) fd) (hrd : xa.reads = rd.map fun q => (so q.1, q.2)) {σ : L2.St} {H1 : Hp} {g : Sg} {M1 : MM} {ps : List PV} {vs : List V} (rel : Rel (gOf X ca) σ H1 g M1) (rs : Reps X.K H1 ps vs)
    {fs : List (String × PV)} (hf : excF c ps = some fs) (hk : xk ⟨c, fs⟩ g M1) :
    vs.length + 1 = (so "self" :: pn.map so).length ∧ ∀ a, (∀ q ∈ xa.reads, ∀ v, parL (so "self" :: pn.map so) (.ref a :: vs) q.1 = some v → ShowVV q.2 v) ∧
      ((fl.map fun q => (so q.1, so q.2)) = [] → Wish (gOf X ca) xk (.ref (ca c)) none σ H1) ∧ ((fl.map fun q => (so q.1, so q.2)) ≠ [] → ∀ d, H1 d = none → Wish (gOf X ca) xk (.ref (ca c)) (some d) σ (upd H1 d (.xd (accL (parL (so "self" :: pn.map so) (.ref a :: vs)) [] (fl.map fun q => (so q.1, so q.2)))))) := by
  unfold excF at hf
  rw [hspec] at hf
  dsimp only at hf
  split at hf
  · rename_i hc
    cases hf
    obtain ⟨hin, hinr⟩ := spec_in hspec
    refine ⟨by rw [List.length_cons, List.length_map, ← hc.1, rs.length], fun a => ⟨fun q hq v hv => ?_, fun e => ?_, fun e d hd => ?_⟩⟩
    · rw [hrd] at hq
      obtain ⟨q0, hq0, rfl⟩ := List.mem_map.mp hq
      have t := List.all_eq_true.mp hc.2 q0 hq0
      split at t
      · rename_i p hp
        obtain ⟨z1, z2⟩ := par_tree (a := a) rs T.nd q0.1 (hinr q0 hq0)
        obtain ⟨v', e1, e2⟩ := z2 p hp
        have hv : parL (so "self" :: pn.map so) (.ref a :: vs) (so q0.1) = some v := hv
        rw [z1, e1] at hv
        cases hv
        exact shp_v t e2
      · cases t
    · have efl : fl = [] := by simpa using e
      subst efl
      exact ⟨⟨c, []⟩, g, M1, rel, ⟨rfl, .inl ⟨rfl, rfl⟩⟩, hk⟩
    · have kp : Keep H1 (upd H1 d (.xd (accL (parL (so "self" :: pn.map so) (.ref a :: vs)) [] (fl.map fun q => (so q.1, so q.2))))) := .new hd
      refine ⟨⟨c, accP (parP pn ps) [] fl⟩, g, M1, rel.go kp (rel.h.new0 hd), ⟨rfl, .inr ⟨d, _, rfl, upd_same, ?_⟩⟩, hk⟩
      refine FRep.keep kp (accP_rep fl [] [] (fun q hq => ?_) .nil)
      obtain ⟨z1, z2⟩ := par_tree (a := a) rs T.nd q.2 (hin q hq)
      have hlen : ps.length = pn.length := hc.1
      have : ∃ p, parP pn ps q.2 = some p := by
        have gen : ∀ (pn : List String) (ps : List PV), ps.length = pn.length → ∀ x ∈ pn, ∃ p, parP pn ps x = some p := by
          intro pn
          induction pn with
          | nil => intro ps _ x hx; cases hx
          | cons y pn ih =>
            intro ps hl x hx
            cases ps with
            | nil => simp at hl
            | cons p ps =>
              unfold parP
              rw [List.zip_cons_cons]
              by_cases e : x = y
              · subst e; exact ⟨p, by simp [List.lookup]⟩
              · have e1 : (x == y) = false := by simpa using e
                simp only [List.lookup, e1]
                exact ih ps (by simpa using hl) x (by rcases List.mem_cons.mp hx with h | h; exact absurd h e; exact h)
        exact gen pn ps hlen q.2 (hin q hq)
      obtain ⟨p, hp⟩ := this
      obtain ⟨v, e1, e2⟩ := z2 p hp
      exact ⟨p, v, hp, by rw [z1, e1], e2⟩
  · cases hf
theorem s_raise {c : String} {e : Expr} (K : XOk Γ ca xk N sc FT X) (hg : glb sc (so c) = true) (hn : nmOk (so c) = true) (hst : (e :: es).all notStar = true) (ha : PA X (e :: es) (liftA (gOf X ca) r)) :
    PS X (.Raise (some (.Call (.Name (so c) p) (e :: es) [] cp)) none pos) (liftS X ca fun D g M => Γ.xc.contains c = true ∧ r g M fun ps M1 => match excF c ps with
    | some fs => xk ⟨c, fs⟩ g M1
    | none => False) := by
  by_cases hc : Γ.xc.contains c = true
  case neg => exact ⟨fun pins s σ H D I ⟨g, M, Da, rel, run, hk⟩ => absurd run.1 hc⟩
  case pos =>
    obtain ⟨_, pn, rd, fl, hspec, hmk⟩ := K.kn.xc c hc
    obtain ⟨f, cda, cc, qual, params, body, scope, xa, fd, T, hb, hrd⟩ := hmk.ex
    obtain ⟨hsu, hdp⟩ := K.kn.su (fun e => by rw [e] at hc; cases hc)
    have C := K.kn.xn c (K.kn.xc c hc).1
    rw [List.all_cons] at hst
    have mk := pmk_x (p := p) (pos := cp) T hb (by omega) hsu (gl_ok K.eS hg) C.mg ha (nm_dbg hn) (star_ok (and1 hst) _) (stars_ok (and2 hst) _ _)
    refine PS.imp (ps_raise K.calm K.tk mk) fun D σ H ⟨g, M, Da, rel, run, hk⟩ => ?_
    refine liftA_run rel run.2 fun ps M1 vs H1 rel1 rs k1 q1 => ?_
    split at q1
    · rename_i fs hf
      exact mk_ok hspec T hrd rel1 rs hf q1
    · exact q1.elim
theorem s_raise0 {c : String} (K : XOk Γ ca xk N sc FT X) (hg : glb sc (so c) = true) (hn : nmOk (so c) = true) :
    PS X (.Raise (some (.Call (.Name (so c) p) [] [] cp)) none pos) (liftS X ca fun D g M => Γ.xc.contains c = true ∧ match excF c [] with
    | some fs => xk ⟨c, fs⟩ g M
    | none => False) := by
  by_cases hc : Γ.xc.contains c = true
  case neg => exact ⟨fun pins s σ H D I ⟨g, M, Da, rel, run, hk⟩ => absurd run.1 hc⟩
  case pos =>
    obtain ⟨_, pn, rd, fl, hspec, hmk⟩ := K.kn.xc c hc
    obtain ⟨f, cda, cc, qual, params, body, scope, xa, fd, T, hb, hrd⟩ := hmk.ex
    obtain ⟨hsu, hdp⟩ := K.kn.su (fun e => by rw [e] at hc; cases hc)
    have C := K.kn.xn c (K.kn.xc c hc).1
    have mk := pmk_x0 (p := p) (pos := cp) T hb (by omega) hsu (gl_ok K.eS hg) C.mg (nm_dbg hn)
    refine PS.imp (ps_raise K.calm K.tk mk) fun D σ H ⟨g, M, Da, rel, run, hk⟩ => ?_
    have q1 := run.2
    split at q1
    · rename_i fs hf
      exact mk_ok hspec T hrd rel .nil hf q1
    · exact q1.elim
end
end Rx
end

section
set_option maxHeartbeats 4000000
/-! Rx: a suite; try. -/
namespace Rx
open PySem PySem.Spec PyProof.Rows L2
section
variable {Γ : Gm} {ca : String → Addr} {xk : XW} {N : List Str} {sc : Scope} {X : Cx} {a : Addr} {oe : Obj} {cls : Value} {d : Option Addr} {pn : List (Addr × Obj)} {nm : Option Str}
/-- the caught error's slot -/
def SlotX (N : List Str) (nm : Option Str) (a : Addr) (σ : L2.St) : Prop := ∀ z : Str, nm = some z → ∃ j : Nat, N[j]? = some z ∧ σ[j]? = some (some (V.ref a))
/-- the error that a suite holds is known -/
structure SuK (Γ : Gm) (ca : String → Addr) (N : List Str) (sc : Scope) (X : Cx) (nm : Option Str) : Prop where
  xn : ∀ c, Γ.xn.contains c = true → XCls X.K X.mg ca Γ.xn c
  eN : X.N = N
  eS : X.env.scope = sc
  vis : ∀ z, nm = some z → X.env.scope.names.lookup z = some .local
  bi : X.mg "isinstance" = none
theorem xl_pe (K : SuK Γ ca N sc X nm) (hz : Zc cls d oe) (hf : ∃ vs, oe.data = .fields vs) : ∀ (ls : List XL) (xs : List Expr), okXL N sc nm ls xs = true → xs.all notStar = true ∧
    PA (X.suite a ((a, oe) :: pn)) xs (fun σ H Q => SlotX N nm a σ ∧ ∃ x ps, XRep (gOf X ca) H x cls d ∧ Γ.xn.contains x.c = true ∧ xlVals x ls = some ps ∧ ∀ vs, Reps X.K H ps vs → Q vs H)
  | [], xs, h => by
    cases xs with
    | nil => exact ⟨rfl, PA.imp pa_nil fun σ H Q ⟨hs, x, ps, xr, hc, e, h⟩ => by cases e; exact h [] .nil⟩
    | cons => cases h
  | .str s :: ls, xs, h => by
    cases xs with
    | nil => cases h
    | cons x xs =>
      match x, h with
      | .Constant (.str t) k p, h =>
        have h : (decide (so s = t) && okXL N sc nm ls xs) = true := h
        obtain ⟨h1, h2⟩ := xl_pe K hz hf ls xs (and2 h)
        cases of_decide_eq_true (and1 h)
        refine ⟨h1, PA.imp (pa_cons pe_str h2 rfl) fun σ H Q ⟨hs, x, ps, xr, hc, e, h⟩ => ?_⟩
        unfold xlVals at e
        split at e
        · rename_i p ps' e1 e2
          cases e1
          cases e
          exact ⟨hs, x, ps', xr, hc, e2, fun vs rv => h _ (.cons (.str s) rv)⟩
        · cases e
  | .fld f :: ls, xs, h => by
    cases xs with
    | nil => cases h
    | cons x xs =>
      match x, h with
      | .Attribute (.Name z p1) y p2, h =>
        have h : ((decide (nm = some z) && (decide (y = so f) && nmOk z)) && okXL N sc nm ls xs) = true := h
        obtain ⟨h1, h2⟩ := xl_pe K hz hf ls xs (and2 h)
        have en := of_decide_eq_true (and1 (and1 h))
        cases of_decide_eq_true (and1 (and2 (and1 h)))
        have hzn := and2 (and2 (and1 h))
        have vis : Vis X.env.scope z := .inl (K.vis z en)
        have pe : PE (X.suite a ((a, oe) :: pn)) (.Attribute (.Name z p1) (so f) p2) (fun σ H Q => SlotX N nm a σ ∧ ∃ x p, XRep (gOf X ca) H x cls d ∧ Γ.xn.contains x.c = true ∧ xlVal x (.fld f) = some p ∧ ∀ v, Rep X.K H p v → Q v H) := by
          refine ⟨fun pins s σ H Q I ⟨hs, x, p, xr, hc, e, h⟩ => ?_⟩
          obtain ⟨j, hj, hsj⟩ := hs z en
          have hpe : PE (X.suite a ((a, oe) :: pn)) (.Name z p1) (tVar j) := pe_var (X := X.suite a ((a, oe) :: pn)) (by show X.N[j]? = _; rw [K.eN]; exact hj) vis (nm_dbg hzn) (nm_cd hzn)
          unfold xlVal at e
          dsimp only at e
          split at e
          · rename_i hfn
            have C := K.xn x.c hc
            have hno := C.nf f (by simpa using hfn)
            refine (pe_xf (X := X) (n := so f) C.xf hno hz hf hpe (base_ok rfl)).run pins s σ H Q I ⟨.ref a, hsj, rfl, xr.1, ?_⟩
            rcases xr.2 with ⟨e1, e2⟩ | ⟨dx, gs, e1, e2, fr⟩
            · rw [e1] at e; cases e
            · obtain ⟨v, g1, g2⟩ := fr.lookup e
              exact ⟨dx, gs, v, e1, e2, g1, h v g2⟩
          · cases e
        refine ⟨h1, PA.imp (pa_cons pe h2 rfl) fun σ H Q ⟨hs, x, ps, xr, hc, e, h⟩ => ?_⟩
        unfold xlVals at e
        split at e
        · rename_i p ps' e1 e2
          cases e
          exact ⟨hs, x, p, xr, hc, e1, fun v rv => ⟨hs, x, ps', xr, hc, e2, fun vs rvs => h _ (.cons rv rvs)⟩⟩
        · cases e
/-- a suite's value -/
def tXs (Γ : Gm) (G : Gw) (N : List Str) (nm : Option Str) (a : Addr) (cls : Value) (d : Option Addr) (e : XS) : TE := fun σ H Q => SlotX N nm a σ ∧ ∃ x M Qa, XRep G H x cls d ∧ Γ.xn.contains x.c = true ∧ HRep G.w G.ca G.K M H ∧ runX Γ e x M Qa ∧ Hands G H Qa Q
theorem xs_pe (K : SuK Γ ca N sc X nm) (hz : Zc cls d oe) (hf : ∃ vs, oe.data = .fields vs) : ∀ (e : XS) (pe : Expr), okXS N sc nm e pe = true → PE (X.suite a ((a, oe) :: pn)) pe (tXs Γ (gOf X ca) N nm a cls d e)
  | .non, pe, h => by
    match pe, h with
    | .Constant .none k p, h => exact PE.imp pe_non fun σ H Q ⟨hs, x, M, Qa, xr, hc, hM, run, hk⟩ => hk .non M .non H hM .non (.refl H) run
  | .str s, pe, h => by
    match pe, h with
    | .Constant (.str t) k p, h =>
      have h : decide (so s = t) = true := h
      cases of_decide_eq_true h
      exact PE.imp pe_str fun σ H Q ⟨hs, x, M, Qa, xr, hc, hM, run, hk⟩ => hk (.str s) M (.str (so s)) H hM (.str s) (.refl H) run
  | .lst ls, pe, h => by
    match pe, h with
    | .List xs p, h =>
      have h : (okXL N sc nm ls xs && decide (xs.length ≤ 1000)) = true := h
      obtain ⟨h1, h2⟩ := xl_pe (pn := pn) (a := a) (cls := cls) (d := d) K hz hf ls xs (and1 h)
      refine PE.imp (pe_lst h2) fun σ H Q ⟨hs, x, M, Qa, xr, hc, hM, run, hk⟩ => ?_
      have run : (match xlVals x ls with
        | some ps => newL ps M Qa
        | none => False) := run
      split at run
      · rename_i ps e
        refine ⟨hs, x, ps, xr, hc, e, fun vs rs => ⟨?_, fun p hp => ?_⟩⟩
        · have gen : ∀ (ls : List XL) (xs : List Expr) (ps : List PV), okXL N sc nm ls xs = true → xlVals x ls = some ps → ps.length = xs.length := by
            intro ls
            induction ls with
            | nil => intro xs ps h e; cases xs with
              | nil => cases e; rfl
              | cons => cases h
            | cons l ls ih =>
              intro xs ps h e
              unfold xlVals at e
              split at e
              · rename_i p ps' e1 e2
                cases e
                cases l with
                | str s => match xs, h with
                  | .Constant (.str t) k p :: xs, h => simp [ih xs ps' (and2 h) e2]
                | fld f => match xs, h with
                  | .Attribute (.Name z p1) y p2 :: xs, h => simp [ih xs ps' (and2 h) e2]
              · cases e
          have e1 := gen ls xs ps (and1 h) e
          have e2 := of_decide_eq_true (and2 h)
          rw [← rs.length, e1]
          exact Nat.le_trans e2 (Nat.le_trans (by decide) (Nat.le_of_succ_le sizeLine_big'))
        · exact hk (.ref p) (mput M p (.lst ps)) (.ref p) _ (hM.new (u := .lst ps) hp ⟨vs, upd_same, rs.keep (.new hp)⟩) (.ref p) (.new hp) (run p (hM.fresh hp))
      · exact run.elim
  | .ite c x y, pe, h => by
    match pe, h with
    | .IfExp (.Call (.Name iy p1) [.Name z p2, .Name u p3] [] p4) ea eb p5, h =>
      have h : (((decide (iy = so "isinstance") && glb sc iy) && ((decide (u = so c) && glb sc u) && (decide (nm = some z) && nmOk z))) && (okXS N sc nm x ea && okXS N sc nm y eb)) = true := h
      have ha := xs_pe K hz hf x ea (and1 (and2 h))
      have hb := xs_pe K hz hf y eb (and2 (and2 h))
      cases of_decide_eq_true (and1 (and1 (and1 h)))
      cases of_decide_eq_true (and1 (and1 (and2 (and1 h))))
      have gi := and2 (and1 (and1 h))
      have gc := and2 (and1 (and2 (and1 h)))
      have en := of_decide_eq_true (and1 (and2 (and2 (and1 h))))
      have hzn := and2 (and2 (and2 (and1 h)))
      have vis : Vis X.env.scope z := .inl (K.vis z en)
      refine ⟨fun pins s σ H Q I ⟨hs, xv, M, Qa, xr, hc, hM, run, hk⟩ => ?_⟩
      obtain ⟨hxc, run⟩ := run
      obtain ⟨j, hj, hsj⟩ := hs z en
      have C := K.xn xv.c hc
      have D := K.xn c hxc
      have hcl : cls = .ref (ca xv.c) := xr.1
      subst hcl
      have hcm : xv.c ∈ Γ.xn := by simpa using hc
      have hpe : PE (X.suite a ((a, oe) :: pn)) (.Name z p2) (tVar j) := pe_var (X := X.suite a ((a, oe) :: pn)) (by show X.N[j]? = _; rw [K.eN]; exact hj) vis (nm_dbg hzn) (nm_cd hzn)
      have hcls : PE (X.suite a ((a, oe) :: pn)) (.Name (so c) p3) (tC (.ref (ca c))) := pe_glob (X := X.suite a ((a, oe) :: pn)) (gl_ok (X := X) K.eS gc) D.mg rfl (nm_dbg D.db)
      have hcall := pe_callB (X := X.suite a ((a, oe) :: pn)) (p := p1) (pos := p4) (call_isG (pn := pn) (a := a) C.xe hz hf) (gl_ok (X := X) K.eS gi) K.bi PyProof.Rows.boot_isinstance (pa_cons hpe (pa_cons hcls pa_nil rfl) rfl) (by decide) (by decide) rfl rfl
      refine (pe_ifExp (pt_val hcall) ha hb).run pins s σ H Q I ?_
      have hd : d = none ∨ ∃ dx gs, d = some dx ∧ H dx = some (.xd gs) := by
        rcases xr.2 with ⟨_, e⟩ | ⟨dx, gs, e, e2, _⟩
        · exact .inl e
        · exact .inr ⟨dx, gs, e, e2⟩
      refine ⟨_, hsj, .ref (ca c), _, _, rfl, fun _ e => e, D.ki xv.c hcm, hd, ?_⟩
      refine ⟨_, rfl, ?_⟩
      show if excIs xv.c c = true then _ else _
      by_cases g : excIs xv.c c = true
      · rw [if_pos g] at run ⊢
        exact ⟨hs, xv, M, Qa, xr, hc, hM, run, hk⟩
      · rw [if_neg g] at run ⊢
        exact ⟨hs, xv, M, Qa, xr, hc, hM, run, hk⟩
end
end Rx
end

section
set_option maxHeartbeats 4000000
/-! Rx: try: body, except .. -/
namespace Rx
open PySem PySem.Spec PyProof.Rows L2
section
variable {Γ : Gm} {ca : String → Addr} {xk : XW} {N : List Str} {sc : Scope} {X : Cx} {a : Addr} {oe : Obj} {cls : Value} {d : Option Addr} {pn : List (Addr × Obj)}
theorem SRep.wipe1 {K : PySem.W.Frag} {H : Hp} {σ : L2.St} {g : Sg} (r : SRep K H σ g) (j : Nat) (v : Option V) : SRep K H (σ.set j v) (g.set j none) := by
  refine ⟨by simp [r.len], fun i p e => ?_⟩
  by_cases h : j = i
  · subst h
    by_cases hl : j < g.length
    · rw [List.getElem?_set_self hl] at e; cases e
    · rw [List.getElem?_eq_none (by simpa using hl)] at e; cases e
  · rw [List.getElem?_set_ne h] at e ⊢
    exact r.at_ i p e
/-- the suite's one statement -/
theorem suite_ok {nm : Option Str} (K : SuK Γ ca N sc X nm) (hN : X.N.Nodup) {i : Nat} {y : Str} (hi : locN N sc i y = true) {e : XS} {pe : Expr} {py p : Pos} (hn : notComp pe = true) (he : okXS N sc nm e pe = true) (hz : Zc cls d oe) (hf : ∃ vs, oe.data = .fields vs) (hfk : X.env.scope.kind = .function) :
    PSs (X.suite a ((a, oe) :: pn)) [.Assign [.Name y py] pe p] (fun D σ H => SlotX N nm a σ ∧ ∃ x g M Qa, XRep (gOf X ca) H x cls d ∧ Γ.xn.contains x.c = true ∧ Rel (gOf X ca) σ H g M ∧ runX Γ e x M Qa ∧ ∀ p M' v H', HRep X.w ca X.K M' H' → Rep X.K H' p v → Keep H H' → Qa p M' → D.nx (σ.set i (some v)) H') := by
  have h1 : X.N[i]? = some y := by rw [K.eN]; exact of_decide_eq_true (and1 hi)
  have h2 : X.env.scope.names.lookup y = some .local := by rw [K.eS]; exact of_decide_eq_true (and2 hi)
  have hg : PG (X.suite a ((a, oe) :: pn)) (.Name y py) (gName i) := pg_name (X := X.suite a ((a, oe) :: pn)) hN h1 (.inl h2) (.inr h2)
  refine PSs.imp (pss_cons (ps_asg (xs_pe (pn := pn) (a := a) K hz hf e pe he) hg (show swapsWith pe (some (.Name y py)) p.line X.env = pure false from swaps_no hn) rfl rfl) pss_nil) fun D σ H ⟨hs, x, g, M, Qa, xr, hc, rel, run, hk⟩ => ?_
  exact ⟨hs, x, M, Qa, xr, hc, rel.h, run, fun p M' v H' hM rp k q => hk p M' v H' hM rp k q⟩
theorem s_try {b : Ss} {hs : Hs} {body : List Stmt} {h₀ : ExceptHandler} {hds : List ExceptHandler} {pos : Pos} (K : SOk Γ ca xk N sc X) (hb : ∀ (xk' : XW) (Y : Cx), SOk Γ ca xk' N sc Y → PSs Y body (liftS Y ca (runSs Γ xk' b))) (hh : okHs N sc hs (h₀ :: hds) = true) :
    PS X (.Try body (h₀ :: hds) [] [] pos) (liftS X ca (runS Γ xk (.tryS b hs))) := by
  refine ⟨fun pins s σ H D I ⟨g, M, Da, rel, run, hk⟩ => ?_⟩
  have ok := I.ok
  have hs' := K.stk
  have hf := K.frm
  have tk := K.x.tk
  have hfr : X.A.frames = some (X.env :: X.outer) := by rw [ok.frames, hs']
  refine wpAny_Try_except ?_
  have sok : ∀ (xe : Value → Shared → Prop), Takes (Cx.trH X H (X.pn ++ pins) xe) (Wish (gOf X ca) (hdW Γ hs Da xk)) → PassesOwn (model X.prog X.w) X.A X.env xe → SOk Γ ca (hdW Γ hs Da xk) N sc (Cx.trH X H (X.pn ++ pins) xe) := fun xe t o =>
    ⟨⟨⟨K.x.kn.fn, K.x.kn.mkc, K.x.kn.mt, K.x.kn.pr, K.x.kn.co, K.x.kn.bi, K.x.kn.cl, K.x.kn.xn, K.x.kn.xc, K.x.kn.su, K.x.kn.un⟩, K.x.calm, K.x.nd, K.x.eN, K.x.eS, K.x.fn, t⟩, o, K.fk, K.stk, K.frm⟩
  refine wpAny_mono ((hb (hdW Γ hs Da xk) (Cx.trH X H (X.pn ++ pins) (fun e s₁ => wpAny (model X.prog X.w) X.A (noteFrame e X.env) (fun _ s₂ => wpAny (model X.prog X.w) X.A (setFlight e none) (fun _ s₃ =>
    wpAny (model X.prog X.w) X.A (handleBy e X.env (h₀ :: hds)) (SP X pins D) X.xe s₃) X.xe s₂) X.xe s₁)) (sok _ (fun u s' xx => ?_) PassesOwn.looking)).run [] s σ H D (toTryH I _) ⟨g, M, Da, ⟨rel.s, rel.h⟩, run, ⟨hk.nx, hk.rt, hk.bk, hk.ct⟩⟩) (fun f s1 hsp => ?_) (fun e s1 he => he)
  · -- the catch
    obtain ⟨a, B, sI, pins', σ', H', cls, d, rfl, J', nb, up, sky, na, os, ag, x, g', M', rel', xr, w⟩ := xx
    have J : L2.Inv X pins σ' H' sI := ofTryH I J'
    have kp : Keep H H' := keepH J'
    have sky' : Sky B (X.env :: X.outer) a (Zc cls d) X.env.locals s'.heap := by rw [← hs']; exact sky
    show wpAny (model X.prog X.w) X.A (noteFrame (.ref a) X.env) _ _ _
    refine Sky.land Zc.steady hfr hf sky' fun h3 fl3 up3 => ?_
    have J3 : L2.Inv X pins σ' H' { s' with heap := h3 } := J.landed nb fl3.1 (up.trans up3) os ag
    obtain ⟨oe3, vs3, he3, hz3, hd3⟩ := fl3.there
    have notFr : ∀ {h : Heap} {o : Obj} {vs : Array Value}, h.FunFrames B (X.env :: X.outer) → h.get? a = some o → o.data = .fields vs → a ∉ frs (X.env :: X.outer) := fun {h o vs} ff e dd hm => by
      obtain ⟨_, o', e', hnf⟩ := ff.mem hm
      rw [e] at e'; cases e'
      exact hnf _ dd
    have nfr := notFr fl3.2.2.1 he3 hd3
    have nL : a ≠ X.env.locals := fun z => nfr (List.mem_filterMap.mpr ⟨X.env, List.mem_cons_self, by rw [hf, z]⟩)
    have nF : a ∉ X.fs := fun hm => by
      obtain ⟨e, he, q⟩ := List.mem_filterMap.mp hm
      exact nfr (List.mem_filterMap.mpr ⟨e, List.mem_cons_of_mem _ he, q⟩)
    have S3 := J3.suite he3 hd3 na nL nF
    have go : ∀ (hs : Hs) (hds' : List ExceptHandler), okHs N sc hs hds' = true → hdW Γ hs Da xk x g' M' → wpAny (model X.prog X.w) X.A (handleBy (.ref a) X.env hds') (SP X pins D) X.xe { s' with heap := h3 } := by
      intro hs
      induction hs with
      | nil =>
        intro hds' hok w
        cases hds' with
        | cons => cases hok
        | nil =>
        refine wpAny_handleBy_nil ?_
        obtain ⟨k1, k2, k3, oe, vs, T, oT, ts', he, hz, hd, h1, hr⟩ := id fl3
        unfold PySem.passOn
        refine wpAny_bind (wpAny_field he hd h1 ?_)
        rw [if_neg (show ¬ ((Value.ref T == Value.none) = true) from by simp)]
        have fin : wpAny (model X.prog X.w) X.A (setFlight (.ref a) X.env.frame) (fun _ s4 => wpAny (model X.prog X.w) X.A (throw (.ref a) : Sem Flow) (SP X pins D) X.xe s4) X.xe { s' with heap := h3 } := by
          rw [hf]
          refine HandSPX.setFlight_upZ fl3 fun h4 hh4 up4 => wpAny_throw (tk _ _ ?_)
          exact ⟨a, B, sI, pins, σ', H', cls, d, rfl, J, nb, (up.trans up3).trans up4, .inr (.inr (by rw [hs']; exact hh4)), na, os, ag, x, g', M', rel', xr, w⟩
        first
          | exact wpAny_bind (wpAny_pure (wpAny_bind fin))
          | exact wpAny_bind fin
      | cons c n i e hs ih =>
        intro hds' hok w
        match hds', hok with
        | .ExceptHandler (some (.Name cx np)) nm [.Assign [.Name y py] ex p] pos' :: hds2, hok =>
        have hok : (((decide (cx = so c) && glb sc cx) && (nmB N sc i n nm && (locN N sc i y && (notComp ex && okXS N sc nm e ex)))) && okHs N sc hs hds2) = true := hok
        cases of_decide_eq_true (and1 (and1 (and1 hok)))
        have hgl := and2 (and1 (and1 hok))
        have hnn := and1 (and2 (and1 hok))
        have hrest := and2 (and2 (and1 hok))
        obtain ⟨⟨hx1, hx2⟩, w⟩ := w
        have C := K.x.kn.xn c hx2
        have hxm : x.c ∈ Γ.xn := by simpa using hx1
        have hb1 : PySem.W.exmOne X.K cls (.ref (ca c)) = some (excIs x.c c) := by rw [xr.1]; exact C.ex x.c hxm
        have suk : SuK Γ ca N sc X nm := ⟨K.x.kn.xn, K.x.eN, K.x.eS, fun z hz => by
          subst hz
          cases n with
          | none => cases hnn
          | some j =>
            have := and1 (show (locN N sc j z && !(decide (j = i))) = true from hnn)
            rw [K.x.eS]; exact of_decide_eq_true (and2 this), K.x.kn.bi "isinstance" (by decide)⟩
        refine wpAny_handleBy_cons (codeAny_handlers_test ?_) (by intro q; cases q)
        have LT : PySem.W.Looks (model X.prog X.w) h3 (typeOf (.ref a)) cls := fun A Q E s k q => wpAny_typeOf_ref (k _ _ he3) (by rw [hz3.1]; exact q)
        have LM := PySem.W.exm_one (M := model X.prog X.w) (J3.kIn) LT hb1
        have test : ∀ {Q : Value → Shared → Prop} {E : Value → Shared → Prop}, Q (.ref (ca c)) { s' with heap := h3 } → wpAny (model X.prog X.w) (X.A.mark (some (.ref a))) (eval (.Name (so c) np) X.env) Q E { s' with heap := h3 } := fun {Q E} q =>
          ld_glob (X := X.suite a ((a, oe3) :: (X.pn ++ pins))) S3 (gl_ok (X := X) K.x.eS hgl) C.mg q (nm_dbg C.db)
        refine test (LM.here ?_)
        cases hex : excIs x.c c with
        | true =>
          rw [hex, if_pos rfl] at w
          cases nm with
          | none =>
            cases n with
            | some j => cases hnn
            | none =>
            refine codeAny_handlers_suite ?_
            refine HandSPX.lands_againZ fl3 fun h4 fl4 up4 => ?_
            have J4 : L2.Inv X pins σ' H' { s' with heap := h4 } := J.landed nb fl4.1 ((up.trans up3).trans up4) os ag
            obtain ⟨oe4, vs4, he4, hz4, hd4⟩ := fl4.there
            have S4 := J4.suite he4 hd4 na nL nF
            refine wpAny_mono ((suite_ok (a := a) (oe := oe4) (pn := X.pn ++ pins) suk K.x.nd (and1 hrest) (and1 (and2 hrest)) (and2 (and2 hrest)) hz4 ⟨_, hd4⟩ K.fk).run [] _ _ H' D S4 ⟨fun z hz => (nomatch hz), x, g', M', _, xr, hx1, rel', w, fun p M2 v H2 hM rp k q => hk.nx _ _ _ _ ⟨(rel'.s.keep k).set i rp, hM⟩ (kp.trans k) q⟩) (fun f s6 hsp => ?_) (fun _ _ z => False.elim z)
            cases f with
            | next =>
              obtain ⟨σ6, H6, S6, q6⟩ := hsp
              exact ⟨_, _, S6.unsuite ok, q6⟩
            | brk =>
              obtain ⟨σ6, H6, S6, q6⟩ := hsp
              exact ⟨_, _, S6.unsuite ok, q6⟩
            | cont =>
              obtain ⟨σ6, H6, S6, q6⟩ := hsp
              exact ⟨_, _, S6.unsuite ok, q6⟩
            | ret u =>
              obtain ⟨v6, σ6, H6, S6, r6, q6⟩ := hsp
              exact ⟨_, _, _, S6.unsuite ok, r6, q6⟩
          | some z =>
            cases n with
            | none => cases hnn
            | some j =>
            have hnn : (locN N sc j z && !(decide (j = i))) = true := hnn
            have hji : j ≠ i := by
              have := and2 hnn
              simpa using this
            have hjz := and1 hnn
            have hi : X.N[j]? = some z := by rw [K.x.eN]; exact of_decide_eq_true (and1 hjz)
            have hln : X.env.kindOf z = some .local := by show X.env.scope.names.lookup z = _; rw [K.x.eS]; exact of_decide_eq_true (and2 hjz)
            have hloc : Loc X.env.scope z := .inl hln
            have hlj : j < σ'.length := by
              rw [J.len]; exact (List.getElem?_eq_some_iff.mp hi).1
            refine codeAny_handlers_suite_as ?_
            refine HandSPX.lands_againZ fl3 fun h4 fl4 up4 => ?_
            have J4 : L2.Inv X pins σ' H' { s' with heap := h4 } := J.landed nb fl4.1 ((up.trans up3).trans up4) os ag
            obtain ⟨oe4, vs4, he4, hz4, hd4⟩ := fl4.there
            have S4 := J4.suite he4 hd4 na nL nF
            refine store_ok (X := X.suite a ((a, oe4) :: (X.pn ++ pins))) (v := .ref a) S4 K.x.nd hi hloc rfl (fun s5 S5 => ?_) (.inr hln)
            refine wpAny_mono ((suite_ok (a := a) (oe := oe4) (pn := X.pn ++ pins) suk K.x.nd (and1 hrest) (and1 (and2 hrest)) (and2 (and2 hrest)) hz4 ⟨_, hd4⟩ K.fk).run [] s5 _ H' { nx := fun σ' H' => D.nx (σ'.set j none) H', rt := D.rt, bk := fun σ' H' => D.bk (σ'.set j none) H', ct := fun σ' H' => D.ct (σ'.set j none) H' } S5
              ⟨fun z' hz' => by cases hz'; exact ⟨j, by rw [← K.x.eN]; exact hi, List.getElem?_set_self hlj⟩, x, g'.set j none, M', _, xr, hx1, ⟨SRep.wipe1 rel'.s j _, rel'.h⟩, w, fun p M2 v H2 hM rp k q => hk.nx _ _ _ _ ⟨?_, hM⟩ (kp.trans k) q⟩) (fun f s6 hsp => ?_) (fun _ _ z => False.elim z)
            · have e1 : ((σ'.set j (some (V.ref a))).set i (some v)).set j none = ((σ'.set i (some v)).set j none) := by
                rw [List.set_comm _ _ hji, List.set_set]
              rw [e1]
              exact SRep.wipe1 ((rel'.s.keep k).set i rp) j none
            have end_ : ∀ {σ6 : L2.St} {H6 : Hp} {Q : Shared → Prop}, L2.Inv (X.suite a ((a, oe4) :: (X.pn ++ pins))) [] σ6 H6 s6 → (∀ s7, L2.Inv X pins (σ6.set j none) H6 s7 → Q s7) →
                wpAny (model X.prog X.w) X.A (do bindName X.env z .none; unbindBehindTheSuite X.env z pos') (fun _ s7 => Q s7) X.xe s6 := fun {σ6 H6 Q} S6 hq => gone_ok (S6.unsuite ok) K.x.nd hi hln hq
            cases f with
            | next =>
              obtain ⟨σ6, H6, S6, q6⟩ := hsp
              exact end_ S6 fun s7 J7 => ⟨_, _, J7, q6⟩
            | brk =>
              obtain ⟨σ6, H6, S6, q6⟩ := hsp
              exact end_ S6 fun s7 J7 => ⟨_, _, J7, q6⟩
            | cont =>
              obtain ⟨σ6, H6, S6, q6⟩ := hsp
              exact end_ S6 fun s7 J7 => ⟨_, _, J7, q6⟩
            | ret u =>
              obtain ⟨v6, σ6, H6, S6, r6, q6⟩ := hsp
              exact end_ S6 fun s7 J7 => ⟨_, _, _, J7, r6, q6⟩
        | false =>
          rw [hex, if_neg Bool.false_ne_true] at w
          show wpAny _ X.A (handleBy (.ref a) X.env hds2) _ _ _
          exact ih hds2 (and2 hok) w
    exact go hs (h₀ :: hds) hh w
  · cases f with
    | next =>
      obtain ⟨σ', H', J', q⟩ := hsp
      exact wpAny_execs_nil ⟨σ', H', ofTryH I J', q⟩
    | brk =>
      obtain ⟨σ', H', J', q⟩ := hsp
      exact ⟨σ', H', ofTryH I J', q⟩
    | cont =>
      obtain ⟨σ', H', J', q⟩ := hsp
      exact ⟨σ', H', ofTryH I J', q⟩
    | ret u =>
      obtain ⟨v, σ', H', J', r, q⟩ := hsp
      exact ⟨v, σ', H', ofTryH I J', r, q⟩
end
end Rx
end

section
set_option maxHeartbeats 4000000
/-! Rx: match of a text with written texts. -/
namespace Rx
open PySem PySem.Spec PyProof.Rows L2
section
variable {X : Cx} {ca : String → Addr}
/-- one case -/
theorem case_go (hu : X.A.units + 65 < cLine) {pins : List (Addr × Obj)} {σ : L2.St} {H : Hp} {s : Shared} {g : Sg} {M : MM} {Da : DD} {D : Ends} (I : L2.Inv X pins σ H s) (rel : Rel (gOf X ca) σ H g M) (hk : EndsOk X ca H Da D)
    {x z : String} {t : Tok} {body : List Stmt} {rest : List MatchCase} {p1 p2 : Pos} {k : Nat} {first : Bool}
    (hb : z = x → ∀ H' s', L2.Inv X pins σ H' s' → Rel (gOf X ca) σ H' g M → EndsOk X ca H' Da D → wpAny (model X.prog X.w) X.A (execs body X.env) (SP X pins D) X.xe s')
    (hr : z ≠ x → ∀ H' s', L2.Inv X pins σ H' s' → Rel (gOf X ca) σ H' g M → EndsOk X ca H' Da D → wpAny (model X.prog X.w) X.A (matchCases rest X.env (.str (so z) t) false) (SP X pins D) X.xe s') :
    wpAny (model X.prog X.w) X.A (matchCases (⟨.MatchValue (.Constant (.str (so x)) k p1) p2, none, body⟩ :: rest) X.env (.str (so z) t) first) (SP X pins D) X.xe s := by
  refine wpAny_matchCases_cons (wpAny_matchPattern_Value ?_)
  refine thn (pe_str.run pins s σ H (fun v H1 => v = .str (so x) ∧ H1 = H) I ⟨rfl, rfl⟩) fun u s1 ⟨v, H1, I1, ru, e1, e2⟩ => ?_
  subst e1; subst e2
  have rv : RelV (V.str (so z)) (.str (so z) t) := ⟨t, rfl⟩
  refine thn (cmp_snd (ca := ca) .Eq hu pins s1 σ H1 _ _ _ _ (fun w H2 => w = .bl (decide (z = x)) ∧ HRep X.w ca X.K M H2 ∧ Keep H1 H2) I1 rv ru ⟨.str z, .str x, M, fun p M' => p = .bl (decide (z = x)) ∧ M' = M, rel.h, .str z, .str x, ⟨rfl, rfl⟩, fun p M' v H' hM rp k ⟨e1, e2⟩ => ?_⟩) fun c s2 ⟨w, H2, I2, rw2, ew, hM2, k2⟩ => ?_
  · subst e1; subst e2; cases rp; exact ⟨rfl, hM, k⟩
  subst ew
  refine thn (tru_snd (ca := ca) pins s2 σ H2 _ c (fun b H3 => b = decide (z = x) ∧ H3 = H2) I2 rw2 ⟨.bl _, M, fun b => b = decide (z = x), hM2, .bl _, rfl, fun b e => ⟨e, rfl⟩⟩) fun b s3 ⟨H3, I3, eb, e3⟩ => ?_
  subst eb; subst e3
  have rel3 : Rel (gOf X ca) σ H3 g M := ⟨rel.s.keep k2, hM2⟩
  have hk3 := hk.keep k2
  by_cases h : z = x
  · rw [if_pos (decide_eq_true h)]
    exact wpAny_assignInOrder_none (hb h H3 s3 I3 rel3 hk3)
  · rw [if_neg (by rw [decide_eq_false h]; exact Bool.false_ne_true)]
    exact hr h H3 s3 I3 rel3 hk3
end
end Rx
end

section
set_option maxHeartbeats 4000000
/-! Rx: bodies are borne out (2). -/
namespace Rx
open PySem PySem.Spec PyProof.Rows L2
variable {Γ : Gm} {ca : String → Addr}
theorem okSetl {xk : XW} {N : List Str} {sc : Scope} {X : Cx} {i : Nat} {elt : E} {x : Tg} {it : It} {c : Oe} {own : List (String × Nat)} {y : Str} {py lp p : Pos} {e : Expr} {gs : List Comprehension} {scope : Scope} (K : SOk Γ ca xk N sc X)
    (h : okS N sc (.setl i elt x it c own) (.Assign [.Name y py] (.ListComp e gs scope lp) p) = true) : PS X (.Assign [.Name y py] (.ListComp e gs scope lp) p) (liftS X ca (runS Γ xk (.setl i elt x it c own))) := by
  have h : ((locN N sc i y && ((py.line == lp.line) && !(scope.names.any fun (n, k) => n == y && (k == .local || k == .cell)))) && okE N sc FT (.lc elt x it c own) (.ListComp e gs scope lp)) = true := h
  exact reS (s_setl K (and1 (and1 h)) (and1 (and2 (and1 h))) (not_t (and2 (and2 (and1 h)))) (and2 h)) fun _ _ _ h => h
theorem okSetd {xk : XW} {N : List Str} {sc : Scope} {X : Cx} {i : Nat} {ek ev : E} {x : Tg} {it : It} {c : Oe} {own : List (String × Nat)} {y : Str} {py lp p : Pos} {kx vx : Expr} {gs : List Comprehension} {scope : Scope} (K : SOk Γ ca xk N sc X)
    (h : okS N sc (.setd i ek ev x it c own) (.Assign [.Name y py] (.DictComp kx vx gs scope lp) p) = true) : PS X (.Assign [.Name y py] (.DictComp kx vx gs scope lp) p) (liftS X ca (runS Γ xk (.setd i ek ev x it c own))) := by
  have h : ((locN N sc i y && ((py.line == lp.line) && !(scope.names.any fun (n, k) => n == y && (k == .local || k == .cell)))) && okE N sc FT (.dc ek ev x it c own) (.DictComp kx vx gs scope lp)) = true := h
  exact reS (s_setd K (and1 (and1 h)) (and1 (and2 (and1 h))) (not_t (and2 (and2 (and1 h)))) (and2 h)) fun _ _ _ h => h
theorem okPar2 {xk : XW} {N : List Str} {sc : Scope} {X : Cx} {i j : Nat} {a b : E} {x y : Str} {px py pt pt2 p : Pos} {ea eb : Expr} {k1 k2 : Nat} (K : SOk Γ ca xk N sc X)
    (h : okS N sc (.par2 i j a b) (.Assign [.Tuple [.Name x px, .Name y py] k1 pt] (.Tuple [ea, eb] k2 pt2) p) = true) : PS X (.Assign [.Tuple [.Name x px, .Name y py] k1 pt] (.Tuple [ea, eb] k2 pt2) p) (liftS X ca (runS Γ xk (.par2 i j a b))) := by
  have h : (((locN N sc i x && locN N sc j y) && ((decide (py.line = px.line) && decide (x ≠ y)) && (notStar ea && notStar eb))) &&
    (((![ea, eb].all (foldedForSure 8)) && !([ea, eb].all (constantsAlone 8))) && (okE N sc FT a ea && okE N sc FT b eb))) = true := h
  have h1 := and1 h
  have h2 := and2 h
  obtain ⟨n1, n2⟩ := loc_n K (and1 (and1 h1))
  obtain ⟨m1, m2⟩ := loc_n K (and2 (and1 h1))
  have hne := of_decide_eq_true (and2 (and1 (and2 h1)))
  exact reS (s_par2 K.x.calm K.x.nd n1 m1 (ne_ix n1 m1 hne) n2 m2 (and1 (and2 (and2 h1))) (and2 (and2 (and2 h1))) (sndE a K.x (and1 (and2 h2))) (sndE b K.x (and2 (and2 h2)))
    (par2_ok (bk_fn K.fk) n2 m2 (of_decide_eq_true (and1 (and1 (and2 h1)))) hne (and1 (and2 (and2 h1))) (and2 (and2 (and2 h1))) (not_t (and1 (and1 h2))) (not_t (and2 (and1 h2))))) fun _ _ _ h => h
theorem okPar3 {xk : XW} {N : List Str} {sc : Scope} {X : Cx} {i j l : Nat} {a b c : E} {x y z : Str} {px py pz pt pt2 p : Pos} {ea eb ec : Expr} {k1 k2 : Nat} (K : SOk Γ ca xk N sc X)
    (h : okS N sc (.par3 i j l a b c) (.Assign [.Tuple [.Name x px, .Name y py, .Name z pz] k1 pt] (.Tuple [ea, eb, ec] k2 pt2) p) = true) : PS X (.Assign [.Tuple [.Name x px, .Name y py, .Name z pz] k1 pt] (.Tuple [ea, eb, ec] k2 pt2) p) (liftS X ca (runS Γ xk (.par3 i j l a b c))) := by
  have h : (((locN N sc i x && (locN N sc j y && locN N sc l z)) && (((decide (py.line = px.line) && decide (pz.line = px.line)) && (decide (x ≠ y) && (decide (x ≠ z) && decide (y ≠ z)))) && (notStar ea && (notStar eb && notStar ec)))) &&
    (((![ea, eb, ec].all (foldedForSure 8)) && !([ea, eb, ec].all (constantsAlone 8))) && (okE N sc FT a ea && (okE N sc FT b eb && okE N sc FT c ec)))) = true := h
  have h1 := and1 h
  have h2 := and2 h
  obtain ⟨n1, n2⟩ := loc_n K (and1 (and1 h1))
  obtain ⟨m1, m2⟩ := loc_n K (and1 (and2 (and1 h1)))
  obtain ⟨l1, l2⟩ := loc_n K (and2 (and2 (and1 h1)))
  have q := and1 (and2 h1)
  have s := and2 (and2 h1)
  have e1 := of_decide_eq_true (and1 (and2 q))
  have e2 := of_decide_eq_true (and1 (and2 (and2 q)))
  have e3 := of_decide_eq_true (and2 (and2 (and2 q)))
  exact reS (s_par3 K.x.calm K.x.nd n1 m1 l1 (ne_ix n1 m1 e1) (ne_ix n1 l1 e2) (ne_ix m1 l1 e3) n2 m2 l2 (and1 s) (and1 (and2 s)) (and2 (and2 s)) (sndE a K.x (and1 (and2 h2))) (sndE b K.x (and1 (and2 (and2 h2)))) (sndE c K.x (and2 (and2 (and2 h2))))
    (par3_ok (bk_fn K.fk) n2 m2 l2 (of_decide_eq_true (and1 (and1 q))) (of_decide_eq_true (and2 (and1 q))) e1 e2 e3 (and1 s) (and1 (and2 s)) (and2 (and2 s)) (not_t (and1 (and1 h2))) (not_t (and2 (and1 h2))))) fun _ _ _ h => h
mutual
theorem sndS : ∀ (s : S) ⦃xk : XW⦄ ⦃N : List Str⦄ ⦃sc : Scope⦄ ⦃X : Cx⦄ ⦃st : Stmt⦄, SOk Γ ca xk N sc X → okS N sc s st = true → PS X st (liftS X ca (runS Γ xk s))
  | .setl i elt x it c own => by
    intro xk N sc X st K h
    cases st with
    | Assign ts v p =>
     cases ts with
     | nil => cases h
     | cons tg r =>
      cases tg with
      | Name y py =>
       cases r with
       | cons => cases h
       | nil =>
        cases v with
        | ListComp e gs scope lp => exact okSetl K h
        | _ => cases h
      | _ => cases h
    | _ => cases h
  | .setd i ek ev x it c own => by
    intro xk N sc X st K h
    cases st with
    | Assign ts v p =>
     cases ts with
     | nil => cases h
     | cons tg r =>
      cases tg with
      | Name y py =>
       cases r with
       | cons => cases h
       | nil =>
        cases v with
        | DictComp ke ve gs scope lp => exact okSetd K h
        | _ => cases h
      | _ => cases h
    | _ => cases h
  | .asg t e => by
    intro xk N sc X st K h
    cases st with
    | Assign ts v p =>
     cases ts with
     | nil => cases h
     | cons x r =>
      cases r with
      | cons => cases h
      | nil =>
      have h : (((swNo sc x v && swpNone sc x v) && notStar x) && (okTg N sc FT t x && okE N sc FT e v)) = true := h
      exact reS (s_asg (sw_no K.x.eS (and1 (and1 (and1 h)))) (swp_none K.x.eS (and2 (and1 (and1 h)))) (and2 (and1 h)) (sndE e K.x (and2 (and2 h))) (sndTg t K.x (and1 (and2 h)))) fun _ _ _ h => h
    | _ => cases h
  | .fld o f e => by
    intro xk N sc X st K h
    cases st with
    | Assign ts v p =>
     cases ts with
     | nil => cases h
     | cons tg r =>
      cases tg with
      | Attribute x y p' =>
       cases r with
       | cons => cases h
       | nil =>
      have h : (decide (y = so f) && (okE N sc FT o x && okE N sc FT e v)) = true := h
      cases of_decide_eq_true (and1 h)
      exact reS (s_fld (sndE o K.x (and1 (and2 h))) (sndE e K.x (and2 (and2 h)))) fun _ _ _ h => h
      | _ => cases h
    | _ => cases h
  | .aug i op e => by
    intro xk N sc X st K h
    cases st with
    | AugAssign tg o v p =>
     cases tg with
     | Name x p' =>
      have h : ((decide (op = o) && (decide (N[i]? = some x) && (decide (sc.names.lookup x = some .local) || (decide (sc.names.lookup x = some .cell) && FT x)))) && okE N sc FT e v) = true := h
      cases of_decide_eq_true (and1 (and1 h))
      have z := loc_ok K.x.eS K.x.fn (and2 (and2 (and1 h)))
      exact reS (s_aug K.x.nd (by rw [K.x.eN]; exact of_decide_eq_true (and1 (and2 (and1 h)))) z.1 z.2 (sndE e K.x (and2 h))) fun _ _ _ h => h
     | _ => cases h
    | _ => cases h
  | .augF o f op e => by
    intro xk N sc X st K h
    cases st with
    | AugAssign tg o' v p =>
     cases tg with
     | Attribute x y p' =>
      have h : ((decide (op = o') && decide (y = so f)) && (okE N sc FT o x && okE N sc FT e v)) = true := h
      cases of_decide_eq_true (and1 (and1 h))
      cases of_decide_eq_true (and2 (and1 h))
      exact reS (s_augF (sndE o K.x (and1 (and2 h))) (sndE e K.x (and2 (and2 h)))) fun _ _ _ h => h
     | _ => cases h
    | _ => cases h
  | .expr e => by
    intro xk N sc X st K h
    cases st with
    | Expr v p =>
      have h : (notComp v && okE N sc FT e v) = true := h
      exact reS (s_expr (and1 h) (sndE e K.x (and2 h))) fun _ _ _ h => h
    | _ => cases h
  | .ret e => by
    intro xk N sc X st K h
    cases st with
    | Return v p =>
      cases v with
      | some v => exact reS (s_ret (sndE e K.x h)) fun _ _ _ h => h
      | none => cases h
    | _ => cases h
  | .retN => by
    intro xk N sc X st K h
    cases st with
    | Return v p =>
      cases v with
      | some v => cases h
      | none => exact reS s_retN fun _ _ _ h => h
    | _ => cases h
  | .ifS c t f => by
    intro xk N sc X st K h
    cases st with
    | If x a b p =>
      have h : (okE N sc FT c x && (okSs N sc t a && okSs N sc f b)) = true := h
      exact reS (s_if (sndT c K.x (and1 h)) (sndSs t K (and1 (and2 h))) (sndSs f K (and2 (and2 h)))) fun _ _ _ h => h
    | _ => cases h
  | .whileS c b => by
    intro xk N sc X st K h
    cases st with
    | While x body oe p =>
     cases oe with
     | cons => cases h
     | nil =>
      have h : (okE N sc FT c x && okSs N sc b body) = true := h
      exact reS (s_while K.own (sndT c K.x (and1 h)) (sndSs b K (and2 h))) fun _ _ _ h => h
    | _ => cases h
  | .forS x it b => by
    intro xk N sc X st K h
    cases st with
    | For t i body oe p =>
     cases oe with
     | cons => cases h
     | nil =>
      have h : ((okI N sc FT it x t i && okTg N sc FT x t) && okSs N sc b body) = true := h
      exact reS (s_for K.own K.x.calm (sndI it (t := x) K.x (and1 (and1 h))) (sndTg x K.x (and2 (and1 h))) (sndSs b K (and2 h)) (okI_fset (and1 (and1 h)))) fun _ _ _ h => h
    | _ => cases h
  | .pass => by
    intro xk N sc X st K h
    cases st with
    | Pass p => exact reS s_pass fun _ _ _ h => h
    | _ => cases h
  | .cont => by
    intro xk N sc X st K h
    cases st with
    | Continue p => exact reS s_cont fun _ _ _ h => h
    | _ => cases h
  | .brk => by
    intro xk N sc X st K h
    cases st with
    | Break p => exact reS s_brk fun _ _ _ h => h
    | _ => cases h
  | .never => by
    intro xk N sc X st K h
    exact reS s_never fun _ _ _ h => h
  | .setl2 i elt x it x1 it1 c1 own vs1 => by
    intro xk N sc X st K h
    cases st with
    | Assign ts v p =>
     cases ts with
     | nil => cases h
     | cons tg r =>
      cases tg with
      | Name y py =>
       cases r with
       | cons => cases h
       | nil =>
        cases v with
        | ListComp e gs scope lp =>
          have h : ((locN N sc i y && ((py.line == lp.line) && !(scope.names.any fun (n, k) => n == y && (k == .local || k == .cell)))) && okE N sc FT (.lc2 elt x it x1 it1 c1 own vs1) (.ListComp e gs scope lp)) = true := h
          exact reS (s_setl2 K (and1 (and1 h)) (and1 (and2 (and1 h))) (not_t (and2 (and2 (and1 h)))) (and2 h)) fun _ _ _ h => h
        | _ => cases h
      | _ => cases h
    | _ => cases h
  | .matchS e cs => by
    intro xk N sc X st K h
    cases st with
    | Match x mcs p =>
      have h : (okE N sc FT e x && okCs N sc cs mcs) = true := h
      refine ⟨fun pins s σ H D I hh => ?_⟩
      obtain ⟨g, M, Da, rel, run, hk⟩ := hh
      refine wpAny_Match (thn ((sndE e K.x (and1 h)).run pins s σ H (fun v H1 => ∃ z M1, v = .str (so z) ∧ Rel (gOf X ca) σ H1 g M1 ∧ Keep H H1 ∧ runCs Γ xk cs z Da g M1) I (lift_run rel run fun p M1 v H1 rel1 rp k1 q1 => ?_)) fun u s1 ⟨v, H1, I1, ru, z, M1, ev, rel1, k1, q1⟩ => ?_)
      · split at q1
        · rename_i z
          cases rp
          exact ⟨z, M1, rfl, rel1, k1, q1⟩
        · exact q1.elim
      · subst ev
        obtain ⟨t, rfl⟩ := ru
        exact sndCs cs K (and2 h) I1 rel1 (hk.keep k1) q1
    | _ => cases h
  | .par2 i j a b => by
    intro xk N sc X st K h
    cases st with
    | Assign ts v p =>
     rcases ts with _ | ⟨tg, _ | ⟨_, _⟩⟩
     · cases h
     · cases tg with
       | Tuple xs k1 pt =>
         rcases xs with _ | ⟨x1, _ | ⟨x2, _ | ⟨_, _⟩⟩⟩
         · cases h
         · cases x1 <;> cases h
         · cases x1 with
           | Name x px =>
             cases x2 with
             | Name y py =>
               cases v with
               | Tuple vs k2 pt2 =>
                 rcases vs with _ | ⟨ea, _ | ⟨eb, _ | ⟨_, _⟩⟩⟩
                 · cases h
                 · cases h
                 · exact okPar2 K h
                 · cases h
               | _ => cases h
             | _ => cases h
           | _ => cases h
         · cases x1 <;> first | cases h | (cases x2 <;> cases h)
       | _ => cases h
     · cases tg <;> first
         | cases h
         | (rename_i xs _ _; rcases xs with _ | ⟨x1, _ | ⟨x2, _ | ⟨_, _⟩⟩⟩ <;> first
             | cases h
             | (cases x1 <;> first | cases h | (cases x2 <;> first | cases h | (cases v <;> first | cases h | skip))))
    | _ => cases h
  | .par3 i j l a b c => by
    intro xk N sc X st K h
    cases st with
    | Assign ts v p =>
     rcases ts with _ | ⟨tg, _ | ⟨_, _⟩⟩
     · cases h
     · cases tg with
       | Tuple xs k1 pt =>
         rcases xs with _ | ⟨x1, _ | ⟨x2, _ | ⟨x3, _ | ⟨_, _⟩⟩⟩⟩
         · cases h
         · cases x1 <;> cases h
         · cases x1 <;> first | cases h | (cases x2 <;> cases h)
         · cases x1 with
           | Name x px =>
             cases x2 with
             | Name y py =>
               cases x3 with
               | Name z pz =>
                 cases v with
                 | Tuple vs k2 pt2 =>
                   rcases vs with _ | ⟨ea, _ | ⟨eb, _ | ⟨ec, _ | ⟨_, _⟩⟩⟩⟩
                   · cases h
                   · cases h
                   · cases h
                   · exact okPar3 K h
                   · cases h
                 | _ => cases h
               | _ => cases h
             | _ => cases h
           | _ => cases h
         · cases x1 <;> first | cases h | (cases x2 <;> first | cases h | (cases x3 <;> cases h))
       | _ => cases h
     · cases tg <;> first
         | cases h
         | (rename_i xs _ _; rcases xs with _ | ⟨x1, _ | ⟨x2, _ | ⟨x3, _ | ⟨_, _⟩⟩⟩⟩ <;> first
             | cases h
             | (cases x1 <;> first | cases h | (cases x2 <;> first | cases h | (cases x3 <;> first | cases h | skip))))
    | _ => cases h
  | .raise c as => by
    intro xk N sc X st K h
    cases st with
    | Raise x y p =>
      match x, y, h with
      | some (.Call (.Name y q) xs [] cp), none, h =>
        have h : (((decide (y = so c) && glb sc y) && (nmOk y && xs.all notStar)) && okEs N sc FT as xs) = true := h
        cases of_decide_eq_true (and1 (and1 (and1 h)))
        cases xs with
        | nil =>
          cases as with
          | nil => exact reS (s_raise0 K.x (and2 (and1 (and1 h))) (and1 (and2 (and1 h)))) fun _ _ _ h => h
          | cons => cases (and2 h)
          | star => cases (and2 h)
        | cons e es => exact reS (s_raise K.x (and2 (and1 (and1 h))) (and1 (and2 (and1 h))) (and2 (and2 (and1 h))) (sndEs as K.x (and2 h))) fun _ _ _ h => h
    | _ => cases h
  | .tryS b hs => by
    intro xk N sc X st K h
    cases st with
    | Try body hds oe fb p =>
      match hds, oe, fb, h with
      | h0 :: hds, [], [], h =>
        have h : (okHs N sc hs (h0 :: hds) && okSs N sc b body) = true := h
        exact s_try K (fun xk' Y K' => sndSs b K' (and2 h)) (and1 h)
    | _ => cases h
theorem sndSs : ∀ (s : Ss) ⦃xk : XW⦄ ⦃N : List Str⦄ ⦃sc : Scope⦄ ⦃X : Cx⦄ ⦃st : List Stmt⦄, SOk Γ ca xk N sc X → okSs N sc s st = true → PSs X st (liftS X ca (runSs Γ xk s))
  | .nil => by
    intro xk N sc X st K h
    cases st with
    | nil => exact reSs ss_nil fun _ _ _ h => h
    | cons => cases h
  | .cons s ss => by
    intro xk N sc X st K h
    cases st with
    | nil => cases h
    | cons x xs =>
      have h : (okS N sc s x && okSs N sc ss xs) = true := h
      exact reSs (ss_cons (sndS s K (and1 h)) (sndSs ss K (and2 h))) fun _ _ _ h => h
theorem sndCs : ∀ (cs : Cs) ⦃xk : XW⦄ ⦃N : List Str⦄ ⦃sc : Scope⦄ ⦃X : Cx⦄ ⦃mcs : List MatchCase⦄, SOk Γ ca xk N sc X → okCs N sc cs mcs = true → ∀ {pins : List (Addr × Obj)} {σ : L2.St} {H : Hp} {s : Shared} {g : Sg} {M : MM} {Da : DD} {D : Ends} {z : String} {t : Tok} {first : Bool}, L2.Inv X pins σ H s → Rel (gOf X ca) σ H g M → EndsOk X ca H Da D → runCs Γ xk cs z Da g M →
    wpAny (model X.prog X.w) X.A (matchCases mcs X.env (.str (so z) t) first) (SP X pins D) X.xe s
  | .nil => by
    intro xk N sc X mcs K h pins σ H s g M Da D z t first I rel hk q
    cases mcs with
    | nil => exact wpAny_matchCases_nil ⟨σ, H, I, hk.nx g M σ H rel (.refl H) q⟩
    | cons => cases h
  | .cons x b cs => by
    intro xk N sc X mcs K h pins σ H s g M Da D z t first I rel hk q
    match mcs, h with
    | ⟨.MatchValue (.Constant (.str y) k p1) p2, none, body⟩ :: r, h =>
      have h : (decide (so x = y) && (okSs N sc b body && okCs N sc cs r)) = true := h
      have ey := of_decide_eq_true (and1 h)
      subst ey
      have q : (if z = x then runSs Γ xk b Da g M else runCs Γ xk cs z Da g M) := q
      refine case_go K.x.kn.un I rel hk (fun hz H' s' I' rel' hk' => ?_) fun hz H' s' I' rel' hk' => ?_
      · rw [if_pos hz] at q
        exact (sndSs b K (and1 (and2 h))).run pins s' σ H' D I' ⟨g, M, Da, rel', q, hk'⟩
      · rw [if_neg hz] at q
        exact sndCs cs K (and2 (and2 h)) I' rel' hk' q
end
end Rx
end

section
set_option maxHeartbeats 4000000
/-! Rx: a def's body checked gives its promise. -/
namespace Rx
open PySem PySem.Spec PyProof.Rows L2
/-- what is known of the defs below -/
structure Lib (Γ : Gm) (ca : String → Addr) (P : Program) (w : World) (K : PySem.W.Frag) (mg : Str → Option Value) (base : Heap) (k : Nat) : Prop where
  fn : ∀ f n con, Γ.fn f = some (n, con) → ∃ j a fd ps, j ≤ k ∧ FnOk P w K mg base (L2.CX P w) j a fd ps (spOf ⟨w, ca, K⟩ n con) ∧ mg (so f) = some (.ref a) ∧ PySem.W.keepIn K (.ref a) = true ∧ Binds K fd ps []
  mkc : ∀ c n con, Γ.mkc c = some (n, con) → ∃ j a fd ps, j ≤ k ∧ FnOk P w K mg base (L2.CX P w) j a fd ps (spOf ⟨w, ca, K⟩ n con) ∧ Mk K (ca c) a ∧ mg (so c) = some (.ref (ca c)) ∧ Binds K fd ps [] ∧ ClsOk K (ca c) c
  mt : ∀ c m n con, Γ.mt c m = some (n, con) → ∃ j a fd ps, j ≤ k ∧ FnOk P w K mg base (L2.CX P w) j a fd ps (spOf ⟨w, ca, K⟩ n con) ∧ Meth K (ca c) (so m) a ∧ Binds K fd ps []
  pr : ∀ c f n con, Γ.pr c f = some (n, con) → ∃ j p a fd ps, j ≤ k ∧ FnOk P w K mg base (L2.CX P w) j a fd ps (spOf ⟨w, ca, K⟩ n con) ∧ PropOf K (ca c) (so f) p a ∧ Binds K fd ps []
  co : ∀ x p, Γ.co x = some p → ∃ u v, mg (so x) = some u ∧ RelV v u ∧ ∀ H, Rep K H p v
  bi : ∀ f ∈ biNames, mg (so f) = none
  cl : ∀ c, Γ.cl.contains c = true → OwnCls K mg (ca c) c ∧ ∀ d, Γ.cl.contains d = true → PySem.W.kitOne K (.ref (ca d)) (.ref (ca c)) = some (decide (d = c))
  xn : ∀ c, Γ.xn.contains c = true → XCls K mg ca Γ.xn c
  xc : ∀ c, Γ.xc.contains c = true → Γ.xn.contains c = true ∧ ∃ pn rd fl, excSpec c = some (pn, rd, fl) ∧ XMk P K mg (ca c) c pn rd fl
  su : Γ.xc ≠ [] → mg (so "super") = none
section
variable {Γ : Gm} {ca : String → Addr} {P : Program} {w : World} {K : PySem.W.Frag} {mg : Str → Option Value} {base : Heap} {k : Nat}
theorem start_rep {K : PySem.W.Frag} {H : Hp} : ∀ {as : List PV} {vs : List V} (n : Nat), Reps K H as vs → SRep K H (vs.map some ++ List.replicate n none) (as.map some ++ List.replicate n none) := fun {as vs} n r => by
  refine ⟨by simp [r.length], fun i p e => ?_⟩
  by_cases hl : i < as.length
  · rw [List.getElem?_append_left (by simpa using hl), List.getElem?_map] at e
    cases q : as[i]? with
    | none => rw [q] at e; cases e
    | some x =>
      rw [q] at e
      have e2 : x = p := by simpa using e
      subst e2
      obtain ⟨v, h1, h2⟩ := r.get q
      refine ⟨v, ?_, h2⟩
      rw [List.getElem?_append_left (by rw [List.length_map, ← r.length]; exact hl), List.getElem?_map, h1]; rfl
  · rw [List.getElem?_append_right (by simpa using Nat.le_of_not_lt hl), List.getElem?_replicate] at e
    split at e <;> cases e
theorem def_ok (L : Lib Γ ca P w K mg base k) {x qual : Str} {params : Arguments} {body : List Stmt} {scope : Scope} {f : Addr} {fd : FuncData} {N ps : List Str} {ss : Ss} {con : Con}
    (F : FunD K x qual params body scope [] [] f fd) (S : FnScope N ps scope) (hok : okSs N scope ss body = true)
    (run : ∀ as M Qa Ea, con as M Qa Ea → as.length = ps.length → runSs Γ (fun x _ M => Ea x M) ss { nx := fun _ M => Qa .non M, rt := Qa } (as.map some ++ List.replicate (N.length - as.length) none) M) :
    FnOk P w K mg base (L2.CX P w) (k + 2) f fd ps (spOf ⟨w, ca, K⟩ ps.length con) := by
  refine F.ok S (fun vs H Q E h => h.1) fun cdv A outer s H vs Q E hr h => ?_
  obtain ⟨hlen, as, M, Qa, Ea, hM, hrep, hcon, hQ, hE⟩ := h
  let X := cxOf (L2.CX P w) P w K mg base N qual scope f cdv A outer s H E
  have tk0 : Takes X (fun cls d _ H => E cls d H) := takes_of rfl rfl rfl rfl
  have kp : ∀ {pins : List (Addr × Obj)} {σ : L2.St} {H' : Hp} {s' : Shared}, L2.Inv X pins σ H' s' → Keep H H' := fun I => ⟨I.base.tups, I.base.frzs⟩
  have tk : Takes X (Wish (gOf X ca) (fun x _ M => Ea x M)) := fun u s' ⟨a, B, sI, pins, σ, H1, cls, d, e, I, nb, up, sky, na, os, ag, z⟩ => by
    obtain ⟨xv, g, M1, h1, h2, h3⟩ := z
    exact tk0 u s' ⟨a, B, sI, pins, σ, H1, cls, d, e, I, nb, up, sky, na, os, ag, hE xv M1 cls d H1 h1.h h2 (kp I) h3⟩
  have kn : Kn Γ ca X := by
    refine ⟨fun f n con h => ?_, fun c n con h => ?_, fun c m n con h => ?_, fun c f n con h => ?_, L.co, L.bi, L.cl, L.xn, L.xc, fun e => ⟨L.su e, ?_⟩, ?_⟩
    · obtain ⟨j, a, fd, ps, hj, h1, h2⟩ := L.fn f n con h
      exact ⟨j, a, fd, ps, h1, hr.mono (by omega), h2⟩
    · obtain ⟨j, a, fd, ps, hj, h1, h2⟩ := L.mkc c n con h
      exact ⟨j, a, fd, ps, h1, hr.mono (by omega), h2⟩
    · obtain ⟨j, a, fd, ps, hj, h1, h2⟩ := L.mt c m n con h
      exact ⟨j, a, fd, ps, h1, hr.mono (by omega), h2⟩
    · obtain ⟨j, p, a, fd, ps, hj, h1, h2⟩ := L.pr c f n con h
      exact ⟨j, p, a, fd, ps, h1, hr.mono (by omega), h2⟩
    · have := hr.dp
      show X.A.depth + 2 < recursionLimit
      have e : X.A.depth = (A.deeper (envOfC qual scope s.heap.objs.size f cdv)).depth := rfl
      rw [e]
      omega
    · have := hr.un
      show X.A.units + 65 < cLine
      show (A.deeper _).units + 65 < cLine
      omega
  have xok : XOk Γ ca (fun x _ M => Ea x M) N scope FT X := ⟨kn, rfl, S.nd, rfl, rfl, fun _ _ => rfl, tk⟩
  have sok : SOk Γ ca (fun x _ M => Ea x M) N scope X := ⟨xok, passes_of rfl, S.kind, rfl, rfl⟩
  refine ⟨_, sndSs ss sok hok, ?_⟩
  have hlas : as.length = ps.length := hrep.length.trans hlen
  have e : L2.start N vs = vs.map some ++ List.replicate (N.length - as.length) none := by unfold L2.start; rw [hrep.length]
  refine ⟨as.map some ++ List.replicate (N.length - as.length) none, M, { nx := fun _ M => Qa .non M, rt := Qa }, ⟨?_, hM⟩, run as M Qa Ea hcon hlas, ?_⟩
  · rw [e]; exact start_rep _ hrep
  · exact { nx := fun g M' σ' H' rel kk q => hQ .non M' .non H' rel.h .non kk q, rt := fun p M' v H' hM' rp kk q => hQ p M' v H' hM' rp kk q, bk := fun _ _ _ _ _ _ q => q, ct := fun _ _ _ _ _ _ q => q }
end
end Rx
end

section
set_option maxHeartbeats 4000000
/-! Rx: what a head tells: constants, classes. -/
namespace Rx
open PySem PySem.Spec PyProof.Rows L2 He
def strsB : List String → List Value → Bool
  | [], [] => true
  | s :: ss, .str x _ :: vs => decide (so s = x) && strsB ss vs
  | _, _ => false
/-- a written tuple of texts -/
def tupSB (K : PySem.W.Frag) (ss : List String) (v : Value) : Bool := match v with
  | .ref a => (match K.lookup a with
    | some ⟨.type c, none, .seq its _, _⟩ => decide (c = "tuple") && (decide (its.size ≤ sizeLine) && strsB ss its.toList)
    | _ => false)
  | _ => false
def kdsB (K : PySem.W.Frag) : List (String × List String) → List DictEntry → Bool
  | [], [] => true
  | (k, ss) :: r, ⟨_, .str x _, v⟩ :: es => decide (so k = x) && (tupSB K ss v && kdsB K r es)
  | _, _ => false
/-- a written dict of such -/
def kdB (K : PySem.W.Frag) (x : Str) (kvs : List (String × List String)) : Bool := match K.lookup (ga K x) with
  | some ⟨.type c, none, .dict es _, sl⟩ => decide (c = "dict") && (decide (sl.size = 0) && (decide (kvs.length ≤ 1000) && (!(ga K x == sysModules) && kdsB K kvs es.toList)))
  | _ => false
def tupB1 (K : PySem.W.Frag) (x : Str) (ss : List String) : Bool := tupSB K ss (.ref (ga K x))
theorem strsB_ok {K : PySem.W.Frag} {H : Hp} : ∀ {ss : List String} {vs : List Value}, strsB ss vs = true → ∃ us, Vals us vs ∧ Reps K H (ss.map .str) us
  | [], [], _ => ⟨[], .nil, .nil⟩
  | s :: ss, v :: vs, h => by
    cases v with
    | str x t =>
      have h : (decide (so s = x) && strsB ss vs) = true := h
      obtain ⟨us, h1, h2⟩ := strsB_ok (K := K) (H := H) (and2 h)
      have e := of_decide_eq_true (and1 h)
      exact ⟨.str (so s) :: us, .cons ⟨t, by rw [e]⟩ h1, .cons (.str s) h2⟩
    | _ => cases h
  | [], _ :: _, h => by cases h
  | _ :: _, [], h => by cases h
theorem tupSB_ok {K : PySem.W.Frag} {ss : List String} {v : Value} (h : tupSB K ss v = true) : ∃ a, v = .ref a ∧ ∀ H, Rep K H (.tup (ss.map .str)) (.ref a) := by
  cases v with
  | ref a =>
    refine ⟨a, rfl, fun H => ?_⟩
    unfold tupSB at h
    dsimp only at h
    cases q : K.lookup a with
    | none => rw [q] at h; cases h
    | some o =>
      obtain ⟨oc, od, dt, osl⟩ := o
      rw [q] at h
      cases oc with
      | type c =>
        cases od with
        | none =>
          cases dt with
          | seq its n =>
            have h : (decide (c = "tuple") && (decide (its.size ≤ sizeLine) && strsB ss its.toList)) = true := h
            obtain ⟨us, h1, h2⟩ := strsB_ok (K := K) (H := H) (and2 (and2 h))
            exact .tup (.inr ⟨_, its, n, q, congrArg Value.type (of_decide_eq_true (and1 h)), rfl, rfl, of_decide_eq_true (and1 (and2 h)), h1⟩) h2
          | _ => cases h
        | some a => cases dt <;> cases h
      | _ => cases od <;> cases dt <;> cases h
  | _ => cases h
theorem kdsB_ok {K : PySem.W.Frag} {H : Hp} : ∀ {kvs : List (String × List String)} {es : List DictEntry}, kdsB K kvs es = true → KdRep K H (kvs.map fun q => (q.1, .tup (q.2.map .str))) es
  | [], [], _ => .nil
  | (k, ss) :: r, ⟨hs, key, v⟩ :: es, h => by
    cases key with
    | str x t =>
      have h : (decide (so k = x) && (tupSB K ss v && kdsB K r es)) = true := h
      have e := of_decide_eq_true (and1 h)
      obtain ⟨a, e2, hr⟩ := tupSB_ok (and1 (and2 h))
      subst e2
      exact .cons (t := t) (u := .ref a) (by show Value.str x t = Value.str (so k) t; rw [e]) (hr H) rfl (kdsB_ok (and2 (and2 h)))
    | _ => cases h
  | [], _ :: _, h => by cases h
  | _ :: _, [], h => by cases h
theorem kdB_ok {K : PySem.W.Frag} {x : Str} {kvs : List (String × List String)} (h : kdB K x kvs = true) (H : Hp) : Rep K H (.kd (kvs.map fun q => (q.1, .tup (q.2.map .str)))) (.ref (ga K x)) := by
  unfold kdB at h
  cases q : K.lookup (ga K x) with
  | none => rw [q] at h; cases h
  | some o =>
    obtain ⟨oc, od, dt, osl⟩ := o
    rw [q] at h
    cases oc with
    | type c =>
      cases od with
      | none =>
        cases dt with
        | dict es n =>
          have h : (decide (c = "dict") && (decide (osl.size = 0) && (decide (kvs.length ≤ 1000) && (!(ga K x == sysModules) && kdsB K kvs es.toList)))) = true := h
          have h1 := and2 h
          have h2 := and2 h1
          have h3 := and2 h2
          refine .kd q ⟨congrArg Value.type (of_decide_eq_true (and1 h)), rfl, ?_⟩ rfl ⟨by rw [List.length_map]; exact of_decide_eq_true (and1 h2), by simpa using and1 h3⟩ (kdsB_ok (and2 h3))
          exact Array.eq_empty_of_size_eq_zero (of_decide_eq_true (and1 h1))
        | _ => cases h
      | some a => cases dt <;> cases h
    | _ => cases od <;> cases dt <;> cases h
def kinds7 : List String := ["NoneType", "bool", "int", "str", "tuple", "list", "dict"]
def ownB (K : PySem.W.Frag) (C : Addr) (all : List (String × Addr)) (c : String) : Bool :=
  PySem.W.plainGet K C "__class__" && (PySem.W.hasDictIn K C && (eqO (PySem.W.findIn K (.ref C) "__class__") (some (some (.builtin "object.__class__"))) &&
    (eqO (PySem.W.specialIn K (.builtin "object.__class__") "__get__") (some (some (.builtin "getset_descriptor.__get__"))) && (decide (PySem.W.takesIn K (.builtin "object.__class__") = some true) &&
      (decide (PySem.W.mroIn K C (.type "object") = some true) && (eqO (PySem.W.findIn K (.ref C) "__ne__") (some (some (.builtin "object.__ne__"))) && ((kinds7.all fun t => decide (PySem.W.kitOne K (.type t) (.ref C) = some false)) &&
        (PySem.W.notFirst K C (.type "dict") && (PySem.W.notFirst K C (.type "list") && all.all fun d => decide (PySem.W.kitOne K (.ref d.2) (.ref C) = some (decide (d.1 = c))))))))))))
theorem ownB_ok {K : PySem.W.Frag} {C : Addr} {all : List (String × Addr)} {c : String} {mg : Str → Option Value} (hm : mg (so c) = some (.ref C)) (h : ownB K C all c = true) :
    OwnCls K mg C c ∧ ∀ d ∈ all, PySem.W.kitOne K (.ref d.2) (.ref C) = some (decide (d.1 = c)) := by
  unfold ownB at h
  have h1 := and2 h
  have h2 := and2 h1
  have h3 := and2 h2
  have h4 := and2 h3
  have h5 := and2 h4
  have h6 := and2 h5
  have h7 := and2 h6
  have h8 := and2 h7
  have h9 := and2 h8
  exact ⟨⟨hm, and1 h, and1 h1, eqO_ok (and1 h2), eqO_ok (and1 h3), of_decide_eq_true (and1 h4), of_decide_eq_true (and1 h5), eqO_ok (and1 h6), fun t ht => of_decide_eq_true (List.all_eq_true.mp (and1 h7) t ht), and1 h8, and1 h9⟩, fun d hd => of_decide_eq_true (List.all_eq_true.mp (and2 h9) d hd)⟩
/-! ### own errors -/
/-- an own error's class, to be matched: all: the names and addresses of all own errors -/
def xclsB (K : PySem.W.Frag) (C : Addr) (all : List (String × Addr)) (c : String) : Bool :=
  nmOk (so c) && ((all.all fun x => decide (PySem.W.exmOne K (.ref x.2) (.ref C) = some (excIs x.1 c)) && decide (PySem.W.kitOne K (.ref x.2) (.ref C) = some (excIs x.1 c))) && (xfB K C && ((xfNames.all fun f => eqO (PySem.W.findIn K (.ref C) (so f)) (some none)) && (eqO (PySem.W.findIn K (.ref C) "__class__") (some (some (.builtin "object.__class__"))) && (eqO (PySem.W.specialIn K (.builtin "object.__class__") "__get__") (some (some (.builtin "getset_descriptor.__get__"))) && (decide (PySem.W.takesIn K (.builtin "object.__class__") = some true) && decide (PySem.W.mroIn K C (.type "object") = some true)))))))
theorem xclsB_ok {K : PySem.W.Frag} {ca : String → Addr} {mg : Str → Option Value} {xn : List String} {c : String} (hm : mg (so c) = some (.ref (ca c))) (h : xclsB K (ca c) (xn.map fun x => (x, ca x)) c = true) : XCls K mg ca xn c := by
  unfold xclsB at h
  have h1 := and2 h
  have h2 := and2 h1
  have h3 := List.all_eq_true.mp (and1 h1)
  exact ⟨hm, and1 h, fun x hx => of_decide_eq_true (and1 (h3 (x, ca x) (List.mem_map.mpr ⟨x, hx, rfl⟩))), fun x hx => of_decide_eq_true (and2 (h3 (x, ca x) (List.mem_map.mpr ⟨x, hx, rfl⟩))), xfB_ok (and1 h2), fun f hf => eqO_ok (List.all_eq_true.mp (and1 (and2 h2)) f hf), (xfB_ok (and1 h2)).ga, (xfB_ok (and1 h2)).gg, (xfB_ok (and1 h2)).exC, (xfB_ok (and1 h2)).hdC, eqO_ok (and1 (and2 (and2 h2))), eqO_ok (and1 (and2 (and2 (and2 h2)))), of_decide_eq_true (and1 (and2 (and2 (and2 (and2 h2))))), of_decide_eq_true (and2 (and2 (and2 (and2 (and2 h2)))))⟩
def oexClsB (K : PySem.W.Frag) (C : Addr) : Bool := match K.lookup C with
  | some ⟨.type "type", _, .cls cd, sl⟩ => (match cd.mro, sl.toList with
    | .ref C' :: bm, [_, _, _, _, some (.builtin n), _] => decide (C' = C) && (decide (n = "ValueError.__new__") && (!cd.hasDel && (cd.hasDict && PySem.HandSPX.refsVE bm)))
    | _, _ => false)
  | _ => false
theorem oexClsB_ok {K : PySem.W.Frag} {C : Addr} (q : oexClsB K C = true) : ∃ nm q N bs bm sn sub ab col dd k0 k1 k2 k3 k5, K.lookup C = some (excClassObj nm q C N bs bm true sn sub ab col dd k0 k1 k2 k3 k5 "ValueError.__new__") ∧ PySem.HandSPX.refsVE bm = true := by
  unfold oexClsB at q
  split at q
  · rename_i dd cd sl ho
    split at q
    · rename_i C' bm k0 k1 k2 k3 n k5 hm hs
      have e1 := of_decide_eq_true (and1 q)
      have e2 := of_decide_eq_true (and1 (and2 q))
      have e3 := and1 (and2 (and2 q))
      have e4 := and1 (and2 (and2 (and2 q)))
      have e5 := and2 (and2 (and2 (and2 q)))
      subst e1 e2
      obtain ⟨nm, bs, mro, ns, qn, hd, sn, sub, ab, col, del⟩ := cd
      dsimp only at hm e3 e4
      subst hm e4
      have e3 : del = false := by simpa using e3
      subst e3
      have hsl : sl = #[k0, k1, k2, k3, some (.builtin "ValueError.__new__"), k5] := by
        obtain ⟨l⟩ := sl
        simp only at hs
        rw [hs]
      subst hsl
      exact ⟨nm, qn, ns, bs, bm, sn, sub, ab, col, dd, k0, k1, k2, k3, k5, ho, e5⟩
    · cases q
  · cases q
/-- an own error's __init__ as the text has it -/
structure XD where
  c : String
  qual : Str
  params : Arguments
  body : List Stmt
  scope : Scope
def ccOf (K : PySem.W.Frag) (c : String) : Addr := match K.lookup (fAd K (so c, some (so "__init__"))) with
  | some ⟨_, _, .func fd, _⟩ => (match fd.closure with
    | [(_, a)] => a
    | _ => 0)
  | _ => 0
def cdOf (K : PySem.W.Frag) (c : String) : Addr := match K.lookup (fAd K (so c, some (so "__init__"))) with
  | some ⟨_, _, .func fd, _⟩ => (match fd.code with
    | .ref a => a
    | _ => 0)
  | _ => 0
def XD.val (d : XD) (K : PySem.W.Frag) : FnW := some (so "__init__", d.qual, d.params, .stmts d.body, d.scope, mainGlobals, [(so "__class__", ccOf K d.c)], builtinsNs)
def fileB (prog : Program) : Option Obj → Bool
  | some ⟨_, _, .fields vs, _⟩ => (match vs[2]? with
    | some (Value.str file _) => ((prog.main.file : Str) == file)
    | _ => false)
  | _ => false
theorem fileB_ok {prog : Program} {o : Option Obj} (h : fileB prog o = true) : ∃ ccl cdd vs ccs file tf, o = some ⟨ccl, cdd, .fields vs, ccs⟩ ∧ vs[2]? = some (.str file tf) ∧ ((prog.main.file : Str) == file) = true := by
  unfold fileB at h
  split at h
  · split at h
    · rename_i h2
      exact ⟨_, _, _, _, _, _, rfl, h2, h⟩
    · cases h
  · cases h
def cellB (C : Addr) : Option Obj → Bool
  | some ⟨_, _, .cell (some (.ref D)), _⟩ => decide (D = C)
  | _ => false
theorem cellB_ok {C : Addr} {o : Option Obj} (h : cellB C o = true) : ∃ cl cld csl, o = some ⟨cl, cld, .cell (some (.ref C)), csl⟩ := by
  unfold cellB at h
  split at h
  · have e := of_decide_eq_true h
    subst e
    exact ⟨_, _, _, rfl⟩
  · cases h
def codeB (a : Addr) : Option Obj → Bool
  | some ⟨_, _, .func fd, _⟩ => decide (fd.code = .ref a)
  | _ => false
def defB : Option Obj → Bool
  | some ⟨_, _, .func fd, _⟩ => (match fd.defaults with
    | .none => true
    | _ => false)
  | _ => false
def formB (body : List Stmt) (rs : List (Str × Bool)) (fs : List (Str × Str)) : Bool := match bodyF body with
  | some (xa, fs') => decide (xa.reads = rs) && decide (fs' = fs)
  | none => false
theorem formB_ok {body : List Stmt} {rs : List (Str × Bool)} {fs : List (Str × Str)} (h : formB body rs fs = true) : ∃ xa, bodyF body = some (xa, fs) ∧ xa.reads = rs := by
  unfold formB at h
  split at h
  · rename_i xa fs' e
    have e1 := of_decide_eq_true (and1 h)
    have e2 := of_decide_eq_true (and2 h)
    subst e1 e2
    exact ⟨xa, e, rfl⟩
  · cases h
def allB : List Bool → Bool
  | [] => true
  | b :: r => b && allB r
/-- the facts of a making -/
def xmkL (prog : Program) (K : PySem.W.Frag) (d : XD) (pn : List String) (rd : List (String × Bool)) (fl : List (String × String)) (C f : Addr) (ps : List Str) (fs : List (Str × Str)) (rs : List (Str × Bool)) : List Bool :=
  [oexClsB K C, eqO (PySem.W.findIn K (.ref C) "__setattr__") (some (some (.builtin "object.__setattr__"))), decide (PySem.W.subIn K (.ref C) (.type "BaseException") = some true), decide (PySem.W.typeIn K (.ref C) = some (.type "type")), PySem.W.keepIn K (.ref C),
   eqO (PySem.W.findIn K (.ref C) "__init__") (some (some (.ref f))), decide (PySem.W.typeIn K (.ref f) = some (.type "function")), codeB (cdOf K d.c) (K.lookup f), PySem.W.codeIn K (.ref (cdOf K d.c)) d.qual, fileB prog (K.lookup (cdOf K d.c)), !(prog.main.scope.names.lookup ("super" : Str)).isSome, cellB C (K.lookup (ccOf K d.c)),
   decide (PySem.W.mroIn K C (.ref C) = some true), eqO (PySem.W.ks_superIn K C C "__init__") (some (some (.builtin "ValueError.__init__"))), decide (PySem.W.subIn K (.ref C) (.type "ValueError") = some true), eqO (PySem.W.nsIn K cStatics "thirdparty.any") (some none),
   formB d.body rs fs, decide (((d.params.posonlyargs ++ d.params.args).head?.map (·.arg)) = some (so "self")), decide ((d.params.posonlyargs ++ d.params.args).map (·.arg) = ps), decide (fs.length ≤ 2),
   decide (d.scope.names.lookup ("super" : Str) = some .globalImplicit), decide (d.scope.names.lookup ("__class__" : Str) = some .free), ps.all (fun x => decide (d.scope.names.lookup x = some .local)), decide (d.scope.kind = .function), d.scope.names.all (fun x => !(decide (x.2 = .cell))), !d.scope.isCoroutine, !d.scope.isGenerator,
   rs.all (fun q => ps.contains q.1 && !(q.1 == ("__debug__" : Str))), fs.all (fun q => ps.contains q.2 && eqO (PySem.W.findIn K (.ref C) q.1) (some none)), decide ps.Nodup, decide (ps.length ≤ 100000), defB (K.lookup f)]
def xmkB (prog : Program) (K : PySem.W.Frag) (d : XD) (pn : List String) (rd : List (String × Bool)) (fl : List (String × String)) : Bool :=
  allB (xmkL prog K d pn rd fl (ga K (so d.c)) (fAd K (so d.c, some (so "__init__"))) (so "self" :: pn.map so) (fl.map fun q => (so q.1, so q.2)) (rd.map fun q => (so q.1, q.2)))
theorem xmkB_ok {prog : Program} {K : PySem.W.Frag} {mg : Str → Option Value} {d : XD} {pn : List String} {rd : List (String × Bool)} {fl : List (String × String)} (e : fnW K (so d.c, some (so "__init__")) = d.val K) (h : xmkB prog K d pn rd fl = true)
    (hb : ∀ (kV doc pm : Value) (an : Option Addr) (ct : Value), Binds K (PySem.W.ksFn (so "__init__") d.qual d.params d.body d.scope .none kV doc pm an (.ref (cdOf K d.c)) ct (ccOf K d.c)) (so "self" :: pn.map so) []) : XMk prog K mg (ga K (so d.c)) d.c pn rd fl := by
  unfold xmkB at h
  generalize eC : ga K (so d.c) = C at h ⊢
  generalize ef : fAd K (so d.c, some (so "__init__")) = f at h
  unfold xmkL at h
  have b0 := and1 h; replace h := and2 h
  have b1 := and1 h; replace h := and2 h
  have b2 := and1 h; replace h := and2 h
  have b3 := and1 h; replace h := and2 h
  have b4 := and1 h; replace h := and2 h
  have b5 := and1 h; replace h := and2 h
  have b6 := and1 h; replace h := and2 h
  have b7 := and1 h; replace h := and2 h
  have b8 := and1 h; replace h := and2 h
  have b9 := and1 h; replace h := and2 h
  have b10 := and1 h; replace h := and2 h
  have b11 := and1 h; replace h := and2 h
  have b12 := and1 h; replace h := and2 h
  have b13 := and1 h; replace h := and2 h
  have b14 := and1 h; replace h := and2 h
  have b15 := and1 h; replace h := and2 h
  have b16 := and1 h; replace h := and2 h
  have b17 := and1 h; replace h := and2 h
  have b18 := and1 h; replace h := and2 h
  have b19 := and1 h; replace h := and2 h
  have b20 := and1 h; replace h := and2 h
  have b21 := and1 h; replace h := and2 h
  have b22 := and1 h; replace h := and2 h
  have b23 := and1 h; replace h := and2 h
  have b24 := and1 h; replace h := and2 h
  have b25 := and1 h; replace h := and2 h
  have b26 := and1 h; replace h := and2 h
  have b27 := and1 h; replace h := and2 h
  have b28 := and1 h; replace h := and2 h
  have b29 := and1 h; replace h := and2 h
  have b30 := and1 h; replace h := and2 h
  have b31 := and1 h
  obtain ⟨xa, hf, hrs⟩ := formB_ok b16
  obtain ⟨cl, cld, csl, hcell⟩ := cellB_ok b11
  unfold fnW at e
  rw [ef] at e
  cases q : K.lookup f with
  | none => rw [q] at e; cases e
  | some o =>
    obtain ⟨oc, od, dt, osl⟩ := o
    rw [q] at e b7 b31
    cases dt with
    | func fd =>
      obtain ⟨n1, n2, n3, n4, n5, n6, n7, n8, n9, n10, n11, n12, n13, n14, n15⟩ := fd
      have e2 : (some (n1, n2, n3, n4, n5, n6, n7, n15) : FnW) = some (so "__init__", d.qual, d.params, .stmts d.body, d.scope, mainGlobals, [(so "__class__", ccOf K d.c)], builtinsNs) := e
      simp only [Option.some.injEq, Prod.mk.injEq] at e2
      obtain ⟨h1, h2, h3, h4, h5, h6, h7, h8⟩ := e2
      subst h1 h2 h3 h4 h5 h6 h7 h8
      have c3 : n13 = .ref (cdOf K d.c) := of_decide_eq_true b7
      subst c3
      have c8 : n8 = .none := by
        clear b7 e q
        cases n8 <;> first | rfl | cases b31
      subst c8
      refine ⟨⟨f, cdOf K d.c, ccOf K d.c, d.qual, d.params, d.body, d.scope, xa, _, {
        C0 := ⟨oexClsB_ok b0, eqO_ok b1, of_decide_eq_true b2, of_decide_eq_true b3, b4⟩
        iC := eqO_ok b5
        tI := of_decide_eq_true b6
        fn := ⟨oc, od, .none, n9, n10, n11, n12, n14, osl, rfl, q⟩
        cd := b8
        file := fileB_ok b9
        top := by simpa using b10
        cell := ⟨cl, cld, csl, hcell⟩
        mro := of_decide_eq_true b12
        hm := eqO_ok b13
        hB := of_decide_eq_true b14
        ho := eqO_ok b15
        form := hf
        self := of_decide_eq_true b17
        names := of_decide_eq_true b18
        two := of_decide_eq_true b19
        ks := of_decide_eq_true b20
        kc := of_decide_eq_true b21
        kl := fun x hx => of_decide_eq_true (List.all_eq_true.mp b22 x hx)
        kind := of_decide_eq_true b23
        cells := fun x hx => of_decide_eq_false (by simpa using List.all_eq_true.mp b24 x hx)
        co := by simpa using b25
        gen := by simpa using b26
        rd := ?_
        rf := ?_
        nd := of_decide_eq_true b29
        few := of_decide_eq_true b30 }, hb _ _ _ _ _, hrs⟩⟩
      · intro q hq
        rw [hrs] at hq
        have := List.all_eq_true.mp b27 q hq
        exact ⟨by simpa using and1 this, by simpa using and2 this⟩
      · intro q hq
        have := List.all_eq_true.mp b28 q hq
        exact ⟨by simpa using and1 this, eqO_ok (and2 this)⟩
    | _ => cases e
end Rx
end

section
set_option maxHeartbeats 4000000
/-! Rx: properties, as a head tells them. -/
namespace Rx
open PySem PySem.Spec PyProof.Rows L2 He
def gpA (K : PySem.W.Frag) (c f : Str) : Addr := match PySem.W.recIn K (ma K (ga K c) f) "property" with
  | some (.ref g :: _) => g
  | _ => 0
def propB (K : PySem.W.Frag) (c f : Str) : Bool := eqO (PySem.W.findIn K (.ref (ga K c)) f) (some (some (.ref (ma K (ga K c) f)))) && (eqO (PySem.W.specialIn K (.ref (ma K (ga K c) f)) "__get__") (some (some (.builtin "property.__get__"))) && (decide (PySem.W.takesIn K (.ref (ma K (ga K c) f)) = some true) && (match PySem.W.recIn K (ma K (ga K c) f) "property" with
  | some (.ref _ :: _) => true
  | _ => false)))
theorem propB_ok {K : PySem.W.Frag} {c f : Str} (h : propB K c f = true) : PropOf K (ga K c) f (ma K (ga K c) f) (gpA K c f) := by
  unfold propB at h
  refine ⟨eqO_ok (and1 h), eqO_ok (and1 (and2 h)), of_decide_eq_true (and1 (and2 (and2 h))), ?_⟩
  have h4 := and2 (and2 (and2 h))
  unfold gpA
  split at h4
  · rename_i g rest e
    exact ⟨rest, by rw [e]⟩
  · cases h4
end Rx
end

section
set_option maxHeartbeats 4000000
/-! Rx: getters, as a head tells them. -/
namespace Rx
open PySem PySem.Spec PyProof.Rows L2 He
def fnAt (K : PySem.W.Frag) (g : Addr) : FnW := match K.lookup g with
  | some ⟨_, _, .func fd, _⟩ => some (fd.name, fd.qualname, fd.params, fd.body, fd.scope, fd.globals, fd.closure, fd.builtins)
  | _ => none
def gokB (K : PySem.W.Frag) (g : Addr) (d : DefD) : Bool := PySem.W.keepIn K (.ref g) && (match K.lookup g with
  | some ⟨_, _, .func fd, _⟩ => PySem.W.codeIn K fd.code d.qual && (dflB K fd.defaults (d.dvs K) && kwdB K fd.kwdefaults (d.kws K))
  | _ => false)
theorem funD_at {K : PySem.W.Frag} {g : Addr} {d : DefD} (e : fnAt K g = d.val) (c : gokB K g d = true) : ∃ fd, FunD K d.name d.qual d.params d.body d.scope (d.dvs K) (d.kws K) g fd := by
  have kp := and1 c
  have c2 := and2 c
  unfold fnAt at e
  cases q : K.lookup g with
  | none =>
    rw [q] at c2
    cases c2
  | some o =>
    obtain ⟨oc, od, dt, osl⟩ := o
    rw [q] at c2 e
    cases dt with
    | func fd =>
      obtain ⟨n1, n2, n3, n4, n5, n6, n7, n8, n9, n10, n11, n12, n13, n14, n15⟩ := fd
      have e2 : (some (n1, n2, n3, n4, n5, n6, n7, n15) : FnW) = some (d.name, d.qual, d.params, .stmts d.body, d.scope, mainGlobals, [], builtinsNs) := e
      simp only [Option.some.injEq, Prod.mk.injEq] at e2
      obtain ⟨h1, h2, h3, h4, h5, h6, h7, h8⟩ := e2
      subst h1 h2 h3 h4 h5 h6 h7 h8
      have c3 : (PySem.W.codeIn K n13 d.qual && (dflB K n8 (d.dvs K) && kwdB K n9 (d.kws K))) = true := c2
      exact ⟨_, ⟨oc, od, n8, n9, n10, n11, n12, n13, n14, osl, rfl, q, and1 c3, dflB_ok (and1 (and2 c3)), kwdB_ok (and2 (and2 c3))⟩, kp⟩
    | _ => cases c2
/-- what a head tells besides: errors' makers, getters -/
def xsOf (K : PySem.W.Frag) (xs : List XD) : List FnW := xs.map fun d => fnW K (so d.c, some (so "__init__"))
def xsVal (K : PySem.W.Frag) (xs : List XD) : List FnW := xs.map fun d => d.val K
theorem xs_at {K : PySem.W.Frag} {xs : List XD} (h : xsOf K xs = xsVal K xs) {d : XD} (hd : d ∈ xs) : fnW K (so d.c, some (so "__init__")) = d.val K := by
  unfold xsOf xsVal at h
  exact List.map_inj_left.mp h d hd
structure GD where
  c : Str
  f : Str
  d : DefD
def gsOf (K : PySem.W.Frag) (gs : List GD) : List FnW := gs.map fun g => fnAt K (gpA K g.c g.f)
def gsVal (gs : List GD) : List FnW := gs.map fun g => g.d.val
theorem gs_at {K : PySem.W.Frag} {gs : List GD} (h : gsOf K gs = gsVal gs) {g : GD} (hg : g ∈ gs) : fnAt K (gpA K g.c g.f) = g.d.val := by
  unfold gsOf gsVal at h
  exact List.map_inj_left.mp h g hg
def gsB (K : PySem.W.Frag) (gs : List GD) : Bool := gs.all fun g => propB K g.c g.f && gokB K (gpA K g.c g.f) g.d
theorem gsB_at {K : PySem.W.Frag} {gs : List GD} (h : gsB K gs = true) {g : GD} (hg : g ∈ gs) : PropOf K (ga K g.c) g.f (ma K (ga K g.c) g.f) (gpA K g.c g.f) ∧ gokB K (gpA K g.c g.f) g.d = true := by
  have := List.all_eq_true.mp h g hg
  exact ⟨propB_ok (and1 this), and2 this⟩
end Rx
end

section
set_option maxHeartbeats 4000000
/-! Rx: readings of loops and comprehensions, in plain Lean. -/
namespace Rx
open PySem L2
/-- a def's text does what its contract says -/
def Does (Γ : Gm) (N P : List Str) (S : Ss) (C : Con) : Prop := ∀ as M Qa Ea, C as M Qa Ea → as.length = P.length → runSs Γ (fun x _ M => Ea x M) S { nx := fun _ M => Qa .non M, rt := Qa } (as.map some ++ List.replicate (N.length - as.length) none) M
theorem sz6 : 1000000 ≤ sizeLine := sz_1000000
theorem Sub.put {Mb M : MM} {D : Addr} {o : MO} (h : Sub Mb M) (hD : Mb D = none) : Sub Mb (mput M D o) := fun a u e => by
  rw [mput_ne (fun z => by rw [z, hD] at e; cases e)]
  exact h a u e
theorem Sub.fresh {Mb M : MM} {D : Addr} (h : Sub Mb M) (hD : M D = none) : Mb D = none := by
  cases e : Mb D with
  | none => rfl
  | some o => rw [h D o e] at hD; cases hD
/-- a list comprehension whose turns only add to the store: f x the item, none if it is left out -/
theorem lcF_go {st : MM → Prop} {bind : PV → Sg → MM → (Sg → MM → Prop) → Prop} {g : Sg} {test : RT} {elt : RE} {D : Addr} {k : MM → Prop} {Mb : MM} {f : PV → Option PV} (hDb : Mb D = none) (hst : ∀ M', Sub Mb M' → st M') :
    ∀ {xs : List PV} {acc : List PV} {M : MM}, M D = some (.lst acc) → Sub Mb M → acc.length + xs.length ≤ 1000000 →
    (∀ x ∈ xs, ∀ M', Sub Mb M' → ∀ (Kt : PV → MM → Prop) (Kf : MM → Prop), (∀ y, f x = some y → ∀ M'', Sub M' M'' → Kt y M'') → (f x = none → ∀ M'', Sub M' M'' → Kf M'') →
      bind x g M' fun g2 M2 => test g2 M2 fun b M3 => if b = true then elt g2 M3 fun y M4 => Kt y M4 else Kf M3) →
    (∀ M', Sub Mb M' → M' D = some (.lst (acc ++ xs.filterMap f)) → k M') → lcF st bind g test elt D k xs acc M
  | [], acc, M, hD, hM, _, _, hk => ⟨hst M hM, hk M hM (by simpa using hD)⟩
  | x :: r, acc, M, hD, hM, hl, hs, hk => by
    have hl2 : acc.length + (r.length + 1) ≤ 1000000 := hl
    have h6 := sz6
    refine ⟨hst M hM, hs x List.mem_cons_self M hM (fun y M4 => M4 D = some (.lst acc) ∧ acc.length < sizeLine ∧ lcF st bind g test elt D k r (acc ++ [y]) (mput M4 D (.lst (acc ++ [y])))) (fun M3 => M3 D = some (.lst acc) ∧ lcF st bind g test elt D k r acc M3) (fun y hy M4 s4 => ?_) (fun hy M3 s3 => ?_)⟩
    · refine ⟨s4 _ _ hD, by omega, lcF_go hDb hst mput_same ((hM.trans s4).put hDb) (by simp; omega) (fun z hz => hs z (List.mem_cons_of_mem _ hz)) fun M' h1 h2 => hk M' h1 ?_⟩
      rw [h2, List.filterMap_cons, hy]; simp
    · refine ⟨s3 _ _ hD, lcF_go hDb hst (s3 _ _ hD) (hM.trans s3) (by omega) (fun z hz => hs z (List.mem_cons_of_mem _ hz)) fun M' h1 h2 => hk M' h1 ?_⟩
      rw [h2, List.filterMap_cons, hy]
/-- the same where every turn gives an item -/
theorem lcF_map {st : MM → Prop} {bind : PV → Sg → MM → (Sg → MM → Prop) → Prop} {g : Sg} {test : RT} {elt : RE} {D : Addr} {k : MM → Prop} {Mb : MM} {f : PV → PV} {xs : List PV} {M : MM} (hDb : Mb D = none) (hst : ∀ M', Sub Mb M' → st M')
    (hD : M D = some (.lst [])) (hM : Sub Mb M) (hl : xs.length ≤ 1000000)
    (hs : ∀ x ∈ xs, ∀ M', Sub Mb M' → ∀ (Kt : PV → MM → Prop) (Kf : MM → Prop), (∀ M'', Sub M' M'' → Kt (f x) M'') →
      bind x g M' fun g2 M2 => test g2 M2 fun b M3 => if b = true then elt g2 M3 fun y M4 => Kt y M4 else Kf M3)
    (hk : ∀ M', Sub Mb M' → M' D = some (.lst (xs.map f)) → k M') : lcF st bind g test elt D k xs [] M :=
  lcF_go (f := fun x => some (f x)) hDb hst hD hM (by simpa using hl) (fun x hx M' h1 Kt Kf h2 h3 => hs x hx M' h1 Kt Kf (h2 _ rfl)) fun M' h1 h2 => hk M' h1 (by rw [h2, List.filterMap_eq_map']; simp)
theorem blsOf_map : ∀ bs : List Bool, blsOf (bs.map .bl) = some bs
  | [] => rfl
  | b :: bs => by simp [blsOf, blsOf_map bs]
theorem strsOf_map : ∀ bs : List String, strsOf (bs.map .str) = some bs
  | [] => rfl
  | b :: bs => by simp [strsOf, strsOf_map bs]
theorem sMem_str (x : String) : ∀ ss : List String, sMem (.str x) (ss.map .str) = some (ss.contains x)
  | [] => rfl
  | s :: ss => by
    rw [List.map_cons]
    have e : sMem (.str x) (.str s :: ss.map .str) = match sEq (.str s) (.str x), sMem (.str x) (ss.map .str) with
      | some b, some c => some (b || c)
      | _, _ => none := rfl
    rw [e, sMem_str x ss]
    show some (decide (s = x) || ss.contains x) = some ((s :: ss).contains x)
    rw [List.contains_cons]
    have : decide (s = x) = (x == s) := by
      by_cases h : s = x
      · subst h; rw [decide_eq_true rfl, beq_self_eq_true]
      · rw [decide_eq_false h, beq_eq_false_iff_ne.mpr (Ne.symm h)]
    rw [this]
theorem keyEq_str (a b : String) : keyEq (.str a) (.str b) = decide (a = b) := by
  have e : keyEq (.str a) (.str b) = decide ((NestedKey.text (Str.ofString a)) = NestedKey.text (Str.ofString b)) := rfl
  rw [e]
  by_cases h : a = b
  · subst h; rw [decide_eq_true rfl, decide_eq_true rfl]
  · rw [decide_eq_false h, decide_eq_false]
    intro z
    injection z with z
    exact h (so_inj z)
theorem dGet_str {a b : String} {v : PV} {r : List (PV × PV)} : dGet ((.str a, v) :: r) (.str b) = if a = b then some v else dGet r (.str b) := by
  show (if keyEq (.str a) (.str b) = true then some v else dGet r (.str b)) = _
  rw [keyEq_str]
  by_cases h : a = b
  · rw [if_pos h, decide_eq_true h, if_pos rfl]
  · rw [if_neg h, decide_eq_false h, if_neg Bool.false_ne_true]
theorem dGet_nil {b : PV} : dGet [] b = none := rfl
theorem dPut_nil {k v : PV} : dPut [] k v = [(k, v)] := rfl
theorem dPut_str {a b : String} {v u : PV} {r : List (PV × PV)} : dPut ((.str a, v) :: r) (.str b) u = if a = b then (.str a, u) :: r else (.str a, v) :: dPut r (.str b) u := by
  show (if keyEq (.str a) (.str b) = true then (.str a, u) :: r else (.str a, v) :: dPut r (.str b) u) = _
  rw [keyEq_str]
  by_cases h : a = b
  · rw [if_pos h, decide_eq_true h, if_pos rfl]
  · rw [if_neg h, decide_eq_false h, if_neg Bool.false_ne_true]
theorem keyOk_str (a : String) : keyOk (.str a) = true := rfl
/-- a dict comprehension whose turns only add to the store -/
theorem dcF_go {st : MM → Prop} {bind : PV → Sg → MM → (Sg → MM → Prop) → Prop} {g : Sg} {test : RT} {ek ev : RE} {D : Addr} {k : List (PV × PV) → MM → Prop} {Mb : MM} {f : PV → PV × PV} (hDb : Mb D = none) (hst : ∀ M', Sub Mb M' → st M') :
    ∀ {xs : List PV} {acc : List (PV × PV)} {M : MM}, M D = some (.kdc acc) → Sub Mb M → acc.length + xs.length ≤ 900 → (∀ x ∈ xs, simK (f x).1 = true) →
    (∀ x ∈ xs, ∀ M', Sub Mb M' → ∀ (Kt : PV → PV → MM → Prop) (Kf : MM → Prop), (∀ M'', Sub M' M'' → Kt (f x).1 (f x).2 M'') →
      bind x g M' fun g2 M2 => test g2 M2 fun b M3 => if b = true then ek g2 M3 fun y M4 => ev g2 M4 fun z M5 => Kt y z M5 else Kf M3) →
    (∀ M', Sub Mb M' → M' D = some (.kdc (xs.foldl (fun a x => dPut a (f x).1 (f x).2) acc)) → k (xs.foldl (fun a x => dPut a (f x).1 (f x).2) acc) M') → dcF st bind g test ek ev D k xs acc M
  | [], acc, M, hD, hM, _, _, _, hk => ⟨hst M hM, hk M hM hD⟩
  | x :: r, acc, M, hD, hM, hl, hsm, hs, hk => by
    have hl2 : acc.length + (r.length + 1) ≤ 900 := hl
    refine ⟨hst M hM, hs x List.mem_cons_self M hM (fun y z M5 => simK y = true ∧ acc.length < 1000 ∧ M5 D = some (.kdc acc) ∧ dcF st bind g test ek ev D k r (dPut acc y z) (mput M5 D (.kdc (dPut acc y z)))) (fun M3 => M3 D = some (.kdc acc) ∧ dcF st bind g test ek ev D k r acc M3) fun M5 s5 => ?_⟩
    have := dPut_length (y := (f x).1) (z := (f x).2) acc
    exact ⟨hsm x List.mem_cons_self, by omega, s5 _ _ hD, dcF_go hDb hst mput_same ((hM.trans s5).put hDb) (by omega) (fun z hz => hsm z (List.mem_cons_of_mem _ hz)) (fun z hz => hs z (List.mem_cons_of_mem _ hz)) hk⟩
theorem put_strs {h : String → PV} : ∀ (ss : List String) (acc : List String), (acc ++ ss).Nodup → (ss.map PV.str).foldl (fun a x => dPut a x (match x with | .str s => h s | _ => .non)) (acc.map fun s => (PV.str s, h s)) = (acc ++ ss).map fun s => (PV.str s, h s)
  | [], acc, _ => by simp
  | s :: r, acc, nd => by
    rw [List.map_cons, List.foldl_cons]
    have e : ∀ acc : List String, s ∉ acc → dPut (acc.map fun s => (PV.str s, h s)) (.str s) (h s) = (acc ++ [s]).map fun s => (PV.str s, h s) := by
      intro acc
      induction acc with
      | nil => intro _; rfl
      | cons a t ih =>
        intro hn
        rw [List.mem_cons, not_or] at hn
        rw [List.map_cons, dPut_str, if_neg (Ne.symm hn.1), ih hn.2]
        rfl
    have hn : s ∉ acc := fun hm => by
      have := (List.nodup_append.mp nd).2.2 s hm s List.mem_cons_self
      exact this rfl
    rw [e acc hn, put_strs r (acc ++ [s]) (by rw [List.append_assoc]; exact nd), List.append_assoc]
    rfl
/-- a for, by an invariant -/
theorem forF_inv {st : MM → Prop} {un : MM → MM} {bind : PV → Sg → MM → (Sg → MM → Prop) → Prop} {body : DD → Sg → MM → Prop} {D : DD} (W : List PV → Sg → MM → Prop)
    (hst : ∀ xs g M, W xs g M → st M) (hend : ∀ g M, W [] g M → D.nx g (un M))
    (hstep : ∀ x xs g M, W (x :: xs) g M → ∀ Dn : DD, (∀ g M, W xs g M → Dn.nx g M) → (∀ g M, W xs g M → Dn.ct g M) → (∀ g M, D.nx g (un M) → Dn.bk g M) → (∀ v M, D.rt v (un M) → Dn.rt v M) → bind x g M fun g2 M2 => body Dn g2 M2) :
    ∀ {xs : List PV} {g : Sg} {M : MM}, W xs g M → forF st un bind body D xs g M
  | [], g, M, h => ⟨hst _ g M h, hend g M h⟩
  | x :: xs, g, M, h => ⟨hst _ g M h, hstep x xs g M h _ (fun g M w => ⟨g, M, SSub.refl g, Sub.refl M, forF_inv W hst hend hstep w⟩) (fun g M w => ⟨g, M, SSub.refl g, Sub.refl M, forF_inv W hst hend hstep w⟩) (fun g M q => q) fun v M q => q⟩
theorem strOk_so (s : String) : PyData.strOk (so s) = true := by
  show (Str.ofString s).cps.all (· < 0x110000) = true
  rw [Str.ofString_eq_toList, Array.all_eq_true']
  intro x hx
  have hx : x ∈ s.toList.map Char.toNat := by simpa using hx
  obtain ⟨c, _, rfl⟩ := List.mem_map.mp hx
  have := c.valid
  have h : c.toNat < 0x110000 := by
    rcases this with h | h
    · exact Nat.lt_trans (show c.toNat < 0xd800 from h) (by decide)
    · exact h.2
  exact decide_eq_true h
theorem canAll_strs : ∀ ss : List String, PyData.canLayAll0 (ss.map fun s => PyData.str (so s)) = true
  | [] => by simp [PyData.canLayAll0]
  | s :: ss => by simp [PyData.canLayAll0, PyData.canLay0, canAll_strs ss, strOk_so s]
theorem depthAll_strs : ∀ ss : List String, PyData.depthAll (ss.map fun s => PyData.str (so s)) ≤ 1
  | [] => by simp [PyData.depthAll]
  | s :: ss => by
    have := depthAll_strs ss
    simp only [List.map_cons, PyData.depthAll, PyData.depth]
    omega
theorem shaped_strs (ss : List String) : SeqAt.shaped (.tuple (ss.map fun s => PyData.str (so s))) = true := by
  have h1 := depthAll_strs ss
  have h2 : PyData.depth (.tuple (ss.map fun s => PyData.str (so s))) ≤ 64 := by simp only [PyData.depth]; omega
  show (PyData.canLay0 (.tuple (ss.map fun s => PyData.str (so s))) && decide (PyData.depth (.tuple (ss.map fun s => PyData.str (so s))) ≤ 64)) = true
  rw [Bool.and_eq_true]
  exact ⟨by simp only [PyData.canLay0]; exact canAll_strs ss, decide_eq_true h2⟩
theorem eqvAll_strs : ∀ xs ys : List String, PyData.eqvAll (xs.map fun s => PyData.str (so s)) (ys.map fun s => PyData.str (so s)) = decide (xs = ys)
  | [], [] => by simp [PyData.eqvAll]
  | [], _ :: _ => by simp [PyData.eqvAll]
  | _ :: _, [] => by simp [PyData.eqvAll]
  | x :: xs, y :: ys => by
    simp only [List.map_cons, PyData.eqvAll, PyData.eqv, eqvAll_strs xs ys, so_beq]
    by_cases h : x = y <;> simp [h]
theorem deep_strs (M : MM) : ∀ ss : List String, DeepAll M (ss.map PV.str) (ss.map fun s => PyData.str (so s))
  | [] => .nil
  | s :: ss => .cons (.str s) (deep_strs M ss)
theorem eqA_strs {M : MM} {xs ys : List String} {Q : Bool → Prop} (h : Q (decide (xs = ys))) : eqA (.tup (xs.map .str)) (.tup (ys.map .str)) M Q := by
  show (∃ d e, Deep M (.tup (xs.map .str)) d ∧ Deep M (.tup (ys.map .str)) e ∧ SeqAt.shaped d = true ∧ SeqAt.shaped e = true ∧ Q (PyData.eqv d e)) ∨ _
  refine .inl ⟨_, _, .tup (deep_strs M xs), .tup (deep_strs M ys), shaped_strs xs, shaped_strs ys, ?_⟩
  simp only [PyData.eqv, eqvAll_strs]
  exact h
/-- all but one thing stays -/
def Rest (M M' : MM) (a : Addr) : Prop := ∀ x o, x ≠ a → M x = some o → M' x = some o
theorem Rest.refl (M : MM) (a : Addr) : Rest M M a := fun _ _ _ h => h
theorem Rest.of_sub {M M' : MM} {a : Addr} (h : Sub M M') : Rest M M' a := fun x o _ e => h x o e
theorem Rest.sub {M M1 M2 : MM} {a : Addr} (h : Rest M M1 a) (s : Sub M1 M2) : Rest M M2 a := fun x o n e => s x o (h x o n e)
theorem Rest.trans {M M1 M2 : MM} {a : Addr} (h : Rest M M1 a) (s : Rest M1 M2 a) : Rest M M2 a := fun x o n e => s x o n (h x o n e)
theorem Rest.put {M M1 : MM} {a : Addr} {o : MO} (h : Rest M M1 a) : Rest M (mput M1 a o) a := fun x u n e => by rw [mput_ne n]; exact h x u n e
theorem Rest.new {M M1 : MM} {a p : Addr} {o : MO} (h : Rest M M1 a) (e : M1 p = none) : Rest M (mput M1 p o) a := h.sub (Sub.new e)
/-- a new thing of a store changed at another place -/
theorem Rest.to_sub {M M' : MM} {a : Addr} (h : Rest M M' a) (e : M a = none) : Sub M M' := fun x o q => h x o (fun z => by rw [z, e] at q; cases q) q
theorem cut_from {xs : List PV} {k : Nat} : cutP xs (some (k : Int)) none = xs.drop k := by
  unfold cutP
  rw [HT.sIx_nat]
  show (xs.drop (min k xs.length)).take (xs.length - min k xs.length) = _
  rcases Nat.le_total k xs.length with h | h
  · rw [Nat.min_eq_left h, List.take_of_length_le (by simp)]
  · rw [Nat.min_eq_right h, List.drop_length, List.drop_of_length_le h]; simp
theorem cut_to {xs : List PV} {k : Nat} : cutP xs none (some (k : Int)) = xs.take k := by
  unfold cutP
  rw [HT.sIx_nat]
  show (xs.drop 0).take (min k xs.length - 0) = _
  rw [List.drop_zero, Nat.sub_zero]
  rcases Nat.le_total k xs.length with h | h
  · rw [Nat.min_eq_left h]
  · rw [Nat.min_eq_right h, List.take_length, List.take_of_length_le h]
theorem lookup_put_same {f : String} {v : PV} : ∀ fs : List (String × PV), (putP f v fs).lookup f = some v
  | [] => by simp [putP]
  | (g, x) :: r => by
    unfold putP
    split
    · rename_i h; subst h; simp
    · rename_i h
      have h' : (f == g) = false := beq_eq_false_iff_ne.mpr (Ne.symm h)
      rw [List.lookup_cons, h']
      exact lookup_put_same r
inductive All2 (R : PV → PV → Prop) : List PV → List PV → Prop
  | nil : All2 R [] []
  | cons {x y : PV} {xs ys : List PV} : R x y → All2 R xs ys → All2 R (x :: xs) (y :: ys)
theorem All2.imp {R R' : PV → PV → Prop} (h : ∀ x y, R x y → R' x y) : ∀ {xs ys : List PV}, All2 R xs ys → All2 R' xs ys
  | _, _, .nil => .nil
  | _, _, .cons a b => .cons (h _ _ a) (b.imp h)
theorem All2.snoc {R : PV → PV → Prop} {x y : PV} (h : R x y) : ∀ {xs ys : List PV}, All2 R xs ys → All2 R (xs ++ [x]) (ys ++ [y])
  | _, _, .nil => .cons h .nil
  | _, _, .cons a b => .cons a (b.snoc h)
theorem All2.length {R : PV → PV → Prop} : ∀ {xs ys : List PV}, All2 R xs ys → xs.length = ys.length
  | _, _, .nil => rfl
  | _, _, .cons _ b => by simp [b.length]
/-- a list comprehension whose items are new things -/
theorem lcF_rel {st : MM → Prop} {bind : PV → Sg → MM → (Sg → MM → Prop) → Prop} {g : Sg} {test : RT} {elt : RE} {D : Addr} {k : MM → Prop} {Mb : MM} {R : MM → PV → PV → Prop} (hDb : Mb D = none) (hst : ∀ M', Sub Mb M' → st M')
    (mono : ∀ M M' x y, Rest M M' D → R M x y → R M' x y) :
    ∀ {xs pre : List PV} {acc : List PV} {M : MM}, M D = some (.lst acc) → Sub Mb M → acc.length + xs.length ≤ 1000000 → All2 (R M) pre acc →
    (∀ x ∈ xs, ∀ M' acc', Sub Mb M' → M' D = some (.lst acc') → ∀ (Kt : PV → MM → Prop) (Kf : MM → Prop), (∀ y M'', Sub M' M'' → R M'' x y → Kt y M'') →
      bind x g M' fun g2 M2 => test g2 M2 fun b M3 => if b = true then elt g2 M3 fun y M4 => Kt y M4 else Kf M3) →
    (∀ M' ys, Sub Mb M' → All2 (R M') (pre ++ xs) ys → M' D = some (.lst ys) → k M') → lcF st bind g test elt D k xs acc M
  | [], pre, acc, M, hD, hM, _, ha, _, hk => ⟨hst M hM, hk M acc hM (by simpa using ha) hD⟩
  | x :: r, pre, acc, M, hD, hM, hl, ha, hs, hk => by
    have hl2 : acc.length + (r.length + 1) ≤ 1000000 := hl
    have h6 := sz6
    refine ⟨hst M hM, hs x List.mem_cons_self M acc hM hD (fun y M4 => M4 D = some (.lst acc) ∧ acc.length < sizeLine ∧ lcF st bind g test elt D k r (acc ++ [y]) (mput M4 D (.lst (acc ++ [y])))) (fun M3 => M3 D = some (.lst acc) ∧ lcF st bind g test elt D k r acc M3) fun y M4 s4 hr => ?_⟩
    have rr : Rest M4 (mput M4 D (.lst (acc ++ [y]))) D := (Rest.refl M4 D).put
    refine ⟨s4 _ _ hD, by omega, lcF_rel (pre := pre ++ [x]) hDb hst mono mput_same ((hM.trans s4).put hDb) (by simp; omega) ?_ (fun z hz => hs z (List.mem_cons_of_mem _ hz)) fun M' ys h1 h2 h3 => hk M' ys h1 (by simpa using h2) h3⟩
    exact ((ha.imp fun a b q => mono _ _ a b ((Rest.of_sub s4).trans rr) q).snoc (mono _ _ _ _ rr hr))
theorem joinS_len (sep : String) {B : Nat} : ∀ {ss : List String}, (∀ s ∈ ss, s.length ≤ B) → (joinS sep ss).length ≤ ss.length * (B + sep.length)
  | [], _ => by simp [joinS]
  | [x], h => by
    have := h x List.mem_cons_self
    simp [joinS]; omega
  | x :: y :: r, h => by
    have h1 := h x List.mem_cons_self
    have ih := joinS_len sep (ss := y :: r) fun s hs => h s (List.mem_cons_of_mem _ hs)
    unfold joinS
    rw [String.length_append, String.length_append, List.length_cons, Nat.add_mul]
    omega
/-- comprehensions, by an invariant -/
theorem lcF_inv {st : MM → Prop} {bind : PV → Sg → MM → (Sg → MM → Prop) → Prop} {g : Sg} {test : RT} {elt : RE} {D : Addr} {k : MM → Prop} (W : List PV → List PV → MM → Prop) (hst : ∀ xs acc M, W xs acc M → st M) (hlen : ∀ xs acc M, W xs acc M → acc.length < 1000000) (hend : ∀ acc M, W [] acc M → k M)
    (hstep : ∀ x xs acc M, W (x :: xs) acc M → ∀ (Kt : PV → MM → Prop) (Kf : MM → Prop), (∀ y M4, M4 D = some (.lst acc) → W xs (acc ++ [y]) (mput M4 D (.lst (acc ++ [y]))) → Kt y M4) → (∀ M3, M3 D = some (.lst acc) → W xs acc M3 → Kf M3) →
      bind x g M fun g2 M2 => test g2 M2 fun b M3 => if b = true then elt g2 M3 fun y M4 => Kt y M4 else Kf M3) :
    ∀ {xs acc : List PV} {M : MM}, W xs acc M → lcF st bind g test elt D k xs acc M
  | [], acc, M, w => ⟨hst _ _ _ w, hend _ _ w⟩
  | x :: xs, acc, M, w => ⟨hst _ _ _ w, hstep x xs acc M w (fun y M4 => M4 D = some (.lst acc) ∧ acc.length < sizeLine ∧ lcF st bind g test elt D k xs (acc ++ [y]) (mput M4 D (.lst (acc ++ [y])))) (fun M3 => M3 D = some (.lst acc) ∧ lcF st bind g test elt D k xs acc M3)
      (fun y M4 h1 h2 => ⟨h1, Nat.lt_of_lt_of_le (hlen _ _ _ w) sz6, lcF_inv W hst hlen hend hstep h2⟩) fun M3 h1 h2 => ⟨h1, lcF_inv W hst hlen hend hstep h2⟩⟩
theorem dcF_inv {st : MM → Prop} {bind : PV → Sg → MM → (Sg → MM → Prop) → Prop} {g : Sg} {test : RT} {ek ev : RE} {D : Addr} {k : List (PV × PV) → MM → Prop} (W : List PV → List (PV × PV) → MM → Prop) (hst : ∀ xs acc M, W xs acc M → st M) (hlen : ∀ xs acc M, W xs acc M → acc.length < 1000) (hend : ∀ acc M, W [] acc M → k acc M)
    (hstep : ∀ x xs acc M, W (x :: xs) acc M → ∀ (Kt : PV → PV → MM → Prop) (Kf : MM → Prop), (∀ y z M5, simK y = true → M5 D = some (.kdc acc) → W xs (dPut acc y z) (mput M5 D (.kdc (dPut acc y z))) → Kt y z M5) →
      bind x g M fun g2 M2 => test g2 M2 fun b M3 => if b = true then ek g2 M3 fun y M4 => ev g2 M4 fun z M5 => Kt y z M5 else Kf M3) :
    ∀ {xs : List PV} {acc : List (PV × PV)} {M : MM}, W xs acc M → dcF st bind g test ek ev D k xs acc M
  | [], acc, M, w => ⟨hst _ _ _ w, hend _ _ w⟩
  | x :: xs, acc, M, w => ⟨hst _ _ _ w, hstep x xs acc M w (fun y z M5 => simK y = true ∧ acc.length < 1000 ∧ M5 D = some (.kdc acc) ∧ dcF st bind g test ek ev D k xs (dPut acc y z) (mput M5 D (.kdc (dPut acc y z)))) (fun M3 => M3 D = some (.kdc acc) ∧ dcF st bind g test ek ev D k xs acc M3)
      (fun y z M5 h0 h1 h2 => ⟨h0, hlen _ _ _ w, h1, dcF_inv W hst hlen hend hstep h2⟩)⟩
theorem atI_nat' {xs : List PV} {k : Nat} {x : PV} (h : xs[k]? = some x) : atI xs (k : Int) = some x := by
  have hl := (List.getElem?_eq_some_iff.mp h).1
  unfold atI ixN
  have e1 : ¬ ((k : Int) < 0) := by omega
  have e2 : (k : Int) < (xs.length : Int) := by omega
  simp [hl]
  exact (List.getElem?_eq_some_iff.mp h).2
end Rx
end

section
set_option maxHeartbeats 4000000
/-! Rx: the known defs grow one by one. -/
namespace Rx
open PySem PySem.Spec PyProof.Rows L2 He
def Gm.addF (Γ : Gm) (f : String) (n : Nat) (con : Con) : Gm := { Γ with fn := fun g => if g = f then some (n, con) else Γ.fn g }
def Gm.addC (Γ : Gm) (c : String) (n : Nat) (con : Con) : Gm := { Γ with mkc := fun g => if g = c then some (n, con) else Γ.mkc g }
def Gm.addM (Γ : Gm) (c m : String) (n : Nat) (con : Con) : Gm := { Γ with mt := fun d k => if d = c then (if k = m then some (n, con) else Γ.mt d k) else Γ.mt d k }
def Gm.addP (Γ : Gm) (c m : String) (n : Nat) (con : Con) : Gm := { Γ with pr := fun d k => if d = c then (if k = m then some (n, con) else Γ.pr d k) else Γ.pr d k }
section
variable {Γ : Gm} {ca : String → Addr} {P : Program} {w : World} {K : PySem.W.Frag} {mg : Str → Option Value} {base : Heap} {k k' n : Nat} {con : Con} {a : Addr} {fd : FuncData} {ps : List Str}
theorem Lib.addF (L : Lib Γ ca P w K mg base k) {f : String} (hk : k ≤ k') (F : FnOk P w K mg base (L2.CX P w) k' a fd ps (spOf ⟨w, ca, K⟩ n con)) (hm : mg (so f) = some (.ref a)) (kp : PySem.W.keepIn K (.ref a) = true) (hb : Binds K fd ps []) : Lib (Γ.addF f n con) ca P w K mg base k' := by
  refine ⟨fun g n' con' h => ?_, fun c n' con' h => ?_, fun c m n' con' h => ?_, fun c f n' con' h => ?_, L.co, L.bi, L.cl, L.xn, L.xc, L.su⟩
  · have h : (if g = f then some (n, con) else Γ.fn g) = some (n', con') := h
    split at h
    · rename_i e
      cases h
      subst e
      exact ⟨k', a, fd, ps, Nat.le_refl _, F, hm, kp, hb⟩
    · obtain ⟨j, a, fd, ps, hj, r⟩ := L.fn g n' con' h
      exact ⟨j, a, fd, ps, Nat.le_trans hj hk, r⟩
  · obtain ⟨j, a, fd, ps, hj, r⟩ := L.mkc c n' con' h
    exact ⟨j, a, fd, ps, Nat.le_trans hj hk, r⟩
  · obtain ⟨j, a, fd, ps, hj, r⟩ := L.mt c m n' con' h
    exact ⟨j, a, fd, ps, Nat.le_trans hj hk, r⟩
  · obtain ⟨j, p, a, fd, ps, hj, r⟩ := L.pr c f n' con' h
    exact ⟨j, p, a, fd, ps, Nat.le_trans hj hk, r⟩
theorem Lib.addC (L : Lib Γ ca P w K mg base k) {c : String} (hk : k ≤ k') (F : FnOk P w K mg base (L2.CX P w) k' a fd ps (spOf ⟨w, ca, K⟩ n con)) (mk : Mk K (ca c) a) (hm : mg (so c) = some (.ref (ca c))) (hb : Binds K fd ps []) (cl : ClsOk K (ca c) c) : Lib (Γ.addC c n con) ca P w K mg base k' := by
  refine ⟨fun g n' con' h => ?_, fun d n' con' h => ?_, fun c m n' con' h => ?_, fun c f n' con' h => ?_, L.co, L.bi, L.cl, L.xn, L.xc, L.su⟩
  · obtain ⟨j, a, fd, ps, hj, r⟩ := L.fn g n' con' h
    exact ⟨j, a, fd, ps, Nat.le_trans hj hk, r⟩
  · have h : (if d = c then some (n, con) else Γ.mkc d) = some (n', con') := h
    split at h
    · rename_i e
      cases h
      subst e
      exact ⟨k', a, fd, ps, Nat.le_refl _, F, mk, hm, hb, cl⟩
    · obtain ⟨j, a, fd, ps, hj, r⟩ := L.mkc d n' con' h
      exact ⟨j, a, fd, ps, Nat.le_trans hj hk, r⟩
  · obtain ⟨j, a, fd, ps, hj, r⟩ := L.mt c m n' con' h
    exact ⟨j, a, fd, ps, Nat.le_trans hj hk, r⟩
  · obtain ⟨j, p, a, fd, ps, hj, r⟩ := L.pr c f n' con' h
    exact ⟨j, p, a, fd, ps, Nat.le_trans hj hk, r⟩
theorem Lib.addM (L : Lib Γ ca P w K mg base k) {c m : String} (hk : k ≤ k') (F : FnOk P w K mg base (L2.CX P w) k' a fd ps (spOf ⟨w, ca, K⟩ n con)) (mt : Meth K (ca c) (so m) a) (hb : Binds K fd ps []) : Lib (Γ.addM c m n con) ca P w K mg base k' := by
  refine ⟨fun g n' con' h => ?_, fun d n' con' h => ?_, fun d m' n' con' h => ?_, fun c f n' con' h => ?_, L.co, L.bi, L.cl, L.xn, L.xc, L.su⟩
  · obtain ⟨j, a, fd, ps, hj, r⟩ := L.fn g n' con' h
    exact ⟨j, a, fd, ps, Nat.le_trans hj hk, r⟩
  · obtain ⟨j, a, fd, ps, hj, r⟩ := L.mkc d n' con' h
    exact ⟨j, a, fd, ps, Nat.le_trans hj hk, r⟩
  · have h : (if d = c then (if m' = m then some (n, con) else Γ.mt d m') else Γ.mt d m') = some (n', con') := h
    split at h
    · rename_i e
      split at h
      · rename_i e2
        cases h
        subst e; subst e2
        exact ⟨k', a, fd, ps, Nat.le_refl _, F, mt, hb⟩
      · obtain ⟨j, a, fd, ps, hj, r⟩ := L.mt d m' n' con' h
        exact ⟨j, a, fd, ps, Nat.le_trans hj hk, r⟩
    · obtain ⟨j, a, fd, ps, hj, r⟩ := L.mt d m' n' con' h
      exact ⟨j, a, fd, ps, Nat.le_trans hj hk, r⟩
  · obtain ⟨j, p, a, fd, ps, hj, r⟩ := L.pr c f n' con' h
    exact ⟨j, p, a, fd, ps, Nat.le_trans hj hk, r⟩
theorem Lib.addP (L : Lib Γ ca P w K mg base k) {c m : String} (hk : k ≤ k') (F : FnOk P w K mg base (L2.CX P w) k' a fd ps (spOf ⟨w, ca, K⟩ n con)) {p : Addr} (mt : PropOf K (ca c) (so m) p a) (hb : Binds K fd ps []) : Lib (Γ.addP c m n con) ca P w K mg base k' := by
  refine ⟨fun g n' con' h => ?_, fun d n' con' h => ?_, fun d m' n' con' h => ?_, fun d m' n' con' h => ?_, L.co, L.bi, L.cl, L.xn, L.xc, L.su⟩
  · obtain ⟨j, a, fd, ps, hj, r⟩ := L.fn g n' con' h
    exact ⟨j, a, fd, ps, Nat.le_trans hj hk, r⟩
  · obtain ⟨j, a, fd, ps, hj, r⟩ := L.mkc d n' con' h
    exact ⟨j, a, fd, ps, Nat.le_trans hj hk, r⟩
  · obtain ⟨j, a, fd, ps, hj, r⟩ := L.mt d m' n' con' h
    exact ⟨j, a, fd, ps, Nat.le_trans hj hk, r⟩
  · have h : (if d = c then (if m' = m then some (n, con) else Γ.pr d m') else Γ.pr d m') = some (n', con') := h
    split at h
    · rename_i e
      split at h
      · rename_i e2
        cases h
        subst e; subst e2
        exact ⟨k', p, a, fd, ps, Nat.le_refl _, F, mt, hb⟩
      · obtain ⟨j, p, a, fd, ps, hj, r⟩ := L.pr d m' n' con' h
        exact ⟨j, p, a, fd, ps, Nat.le_trans hj hk, r⟩
    · obtain ⟨j, p, a, fd, ps, hj, r⟩ := L.pr d m' n' con' h
      exact ⟨j, p, a, fd, ps, Nat.le_trans hj hk, r⟩
theorem def_ok0 (L : Lib Γ ca P w K mg base k) {x qual : Str} {params : Arguments} {body : List Stmt} {scope : Scope} {f : Addr} {N : List Str} {ss : Ss}
    (F : FunD K x qual params body scope [] [] f fd) (S : FnScope N ps scope) (hok : okSs N scope ss body = true) (hE : ∀ as M Qa Ea Ea', con as M Qa Ea → con as M Qa Ea')
    (run : Does Γ N ps ss con) : FnOk P w K mg base CX0 (k + 2) f fd ps (spOf ⟨w, ca, K⟩ ps.length con) := by
  refine F.ok S (fun vs H Q E h => h.1) fun cdv A outer s H vs Q E hr h => ?_
  obtain ⟨hlen, as, M, Qa, Ea, hM, hrep, hcon, hQ, _⟩ := h
  let X := cxOf CX0 P w K mg base N qual scope f cdv A outer s H E
  have kn : Kn Γ ca X := by
    refine ⟨fun f n con h => ?_, fun c n con h => ?_, fun c m n con h => ?_, fun c f n con h => ?_, L.co, L.bi, L.cl, L.xn, L.xc, fun e => ⟨L.su e, ?_⟩, ?_⟩
    · obtain ⟨j, a, fd, ps, hj, h1, h2⟩ := L.fn f n con h
      exact ⟨j, a, fd, ps, h1, hr.mono (by omega), h2⟩
    · obtain ⟨j, a, fd, ps, hj, h1, h2⟩ := L.mkc c n con h
      exact ⟨j, a, fd, ps, h1, hr.mono (by omega), h2⟩
    · obtain ⟨j, a, fd, ps, hj, h1, h2⟩ := L.mt c m n con h
      exact ⟨j, a, fd, ps, h1, hr.mono (by omega), h2⟩
    · obtain ⟨j, p, a, fd, ps, hj, h1, h2⟩ := L.pr c f n con h
      exact ⟨j, p, a, fd, ps, h1, hr.mono (by omega), h2⟩
    · have := hr.dp
      show (A.deeper (envOfC qual scope s.heap.objs.size f cdv)).depth + 2 < recursionLimit
      omega
    · have := hr.un
      show (A.deeper _).units + 65 < cLine
      omega
  have xok : XOk Γ ca noX N scope FT X := ⟨kn, rfl, S.nd, rfl, rfl, fun _ _ => rfl, takes_no⟩
  have sok : SOk Γ ca noX N scope X := ⟨xok, passes_of rfl, S.kind, rfl, rfl⟩
  refine ⟨_, sndSs ss sok hok, ?_⟩
  have hlas : as.length = ps.length := hrep.length.trans hlen
  have e : L2.start N vs = vs.map some ++ List.replicate (N.length - as.length) none := by unfold L2.start; rw [hrep.length]
  refine ⟨as.map some ++ List.replicate (N.length - as.length) none, M, { nx := fun _ M => Qa .non M, rt := Qa }, ⟨?_, hM⟩, run as M Qa (fun _ _ => False) (hE _ _ _ _ _ hcon) hlas, ?_⟩
  · rw [e]; exact start_rep _ hrep
  · exact { nx := fun g M' σ' H' rel kk q => hQ .non M' .non H' rel.h .non kk q, rt := fun p M' v H' hM' rp kk q => hQ p M' v H' hM' rp kk q, bk := fun _ _ _ _ _ _ q => q, ct := fun _ _ _ _ _ _ q => q }
/-- the script -/
theorem xl_script {K : PySem.W.Frag} {H : Hp} {a : Addr} {ns : List Int} (ho : Only H) (h : SqL K H a (ns.map V.int)) : Rep K H (.xl (ns.map .int)) (.ref a) := by
  have reps : ∀ ns : List Int, Reps K H (ns.map .int) (ns.map V.int) := by
    intro ns
    induction ns with
    | nil => exact .nil
    | cons n r ih => exact .cons (.int n) ih
  refine .xl ?_ (reps ns)
  rcases h with (h | ⟨o, h⟩) | h
  · rcases ho a with e | ⟨o, xs, e⟩
    · rw [e] at h; cases h
    · rw [e] at h; cases h
  · exact .inl ⟨o, h⟩
  · exact .inr h
end
end Rx
end

section
set_option maxHeartbeats 4000000
/-! plain trees: None, ints, texts, tuples of such; == of these is being the same. -/
namespace Rx
open PySem L2
mutual
def dat : PV → PyData
  | .non => .none
  | .bl b => .bool b
  | .int i => .int i
  | .str s => .str (so s)
  | .tup xs => .tuple (dats xs)
  | _ => .none
def dats : List PV → List PyData
  | [] => []
  | x :: xs => dat x :: dats xs
end
def plP : Nat → PV → Bool
  | _, .non => true
  | _, .int _ => true
  | _, .str _ => true
  | n + 1, .tup xs => xs.all (plP n)
  | _, _ => false
def plL (n : Nat) (xs : List PV) : Bool := xs.all (plP n)
theorem plL_cons {n : Nat} {x : PV} {xs : List PV} : plL n (x :: xs) = (plP n x && plL n xs) := rfl
theorem deep_dat {M : MM} : ∀ (n : Nat) (p : PV), plP n p = true → Deep M p (dat p)
  | n, p, h => by
    cases p
    case non => unfold dat; exact .non
    case int i => unfold dat; exact .int i
    case str s => unfold dat; exact .str s
    case tup xs =>
      cases n with
      | zero => simp [plP] at h
      | succ n =>
        replace h : plL n xs = true := h
        unfold dat
        refine .tup ?_
        induction xs with
        | nil => unfold dats; exact .nil
        | cons x xs ih =>
          rw [plL_cons, Bool.and_eq_true] at h
          unfold dats
          exact .cons (deep_dat n x h.1) (ih h.2)
    all_goals (cases n <;> simp [plP] at h)
theorem deep_dats {M : MM} {n : Nat} : ∀ {xs : List PV}, plL n xs = true → DeepAll M xs (dats xs)
  | [], _ => by unfold dats; exact .nil
  | x :: xs, h => by
    rw [plL_cons, Bool.and_eq_true] at h
    unfold dats
    exact .cons (deep_dat n x h.1) (deep_dats h.2)
theorem dep_dat : ∀ (n : Nat) (p : PV), plP n p = true → (dat p).depth ≤ n ∧ (dat p).canLay0 = true
  | n, p, h => by
    cases p
    case non => simp [dat, PyData.depth, PyData.canLay0]
    case int i => simp [dat, PyData.depth, PyData.canLay0]
    case str s => simp [dat, PyData.depth, PyData.canLay0, strOk_so]
    case tup xs =>
      cases n with
      | zero => simp [plP] at h
      | succ n =>
        replace h : plL n xs = true := h
        have : PyData.depthAll (dats xs) ≤ n ∧ PyData.canLayAll0 (dats xs) = true := by
          induction xs with
          | nil => simp [dats, PyData.depthAll, PyData.canLayAll0]
          | cons x xs ih =>
            rw [plL_cons, Bool.and_eq_true] at h
            have h1 := dep_dat n x h.1
            have h2 := ih h.2
            simp only [dats, PyData.depthAll, PyData.canLayAll0, h1.2, h2.2]
            exact ⟨by omega, rfl⟩
        simp only [dat, PyData.depth, PyData.canLay0]
        exact ⟨by omega, this.2⟩
    all_goals (cases n <;> simp [plP] at h)
theorem dep_dats {n : Nat} : ∀ {xs : List PV}, plL n xs = true → PyData.depthAll (dats xs) ≤ n ∧ PyData.canLayAll0 (dats xs) = true
  | [], _ => by simp [dats, PyData.depthAll, PyData.canLayAll0]
  | x :: xs, h => by
    rw [plL_cons, Bool.and_eq_true] at h
    have h1 := dep_dat n x h.1
    have h2 := dep_dats h.2
    simp only [dats, PyData.depthAll, PyData.canLayAll0, h1.2, h2.2]
    exact ⟨by omega, rfl⟩
theorem shaped_dat {n : Nat} {p : PV} (hn : n ≤ 64) (h : plP n p = true) : SeqAt.shaped (dat p) = true := by
  have := dep_dat n p h
  show ((dat p).canLay0 && decide ((dat p).depth ≤ 64)) = true
  rw [this.2, decide_eq_true (by omega)]; rfl
theorem shaped_dats {n : Nat} {xs : List PV} (hn : n ≤ 63) (h : plL n xs = true) : SeqAt.shaped (.list (dats xs)) = true := by
  have := dep_dats h
  have e1 : (PyData.list (dats xs)).canLay0 = true := by simp only [PyData.canLay0]; exact this.2
  have e2 : (PyData.list (dats xs)).depth ≤ 64 := by simp only [PyData.depth]; omega
  show ((PyData.list (dats xs)).canLay0 && decide ((PyData.list (dats xs)).depth ≤ 64)) = true
  rw [e1, decide_eq_true e2]; rfl
theorem eqv_dat : ∀ (n m : Nat) (p q : PV), plP n p = true → plP m q = true → (PyData.eqv (dat p) (dat q) = true ↔ p = q)
  | n, m, p, q, hp, hq => by
    cases p <;> cases q
    case tup.tup xs ys =>
      cases n with
      | zero => simp [plP] at hp
      | succ n =>
      cases m with
      | zero => simp [plP] at hq
      | succ m =>
        replace hp : plL n xs = true := hp
        replace hq : plL m ys = true := hq
        simp only [dat, PyData.eqv, PV.tup.injEq]
        induction xs generalizing ys with
        | nil => cases ys <;> simp [dats, PyData.eqvAll]
        | cons x xs ih =>
          cases ys with
          | nil => simp [dats, PyData.eqvAll]
          | cons y ys =>
            rw [plL_cons, Bool.and_eq_true] at hp hq
            simp only [dats, PyData.eqvAll, Bool.and_eq_true, List.cons.injEq]
            exact and_congr (eqv_dat n m x y hp.1 hq.1) (ih ys hp.2 hq.2)
    all_goals first
      | (simp [dat, PyData.eqv]; done)
      | (simp only [dat, PyData.eqv, PV.str.injEq, so_beq]; simp; done)
      | (cases n <;> simp [plP] at hp; done)
      | (cases m <;> simp [plP] at hq; done)
theorem eqv_dats {n m : Nat} : ∀ {xs ys : List PV}, plL n xs = true → plL m ys = true → (PyData.eqvAll (dats xs) (dats ys) = true ↔ xs = ys)
  | [], [], _, _ => by simp [dats, PyData.eqvAll]
  | [], _ :: _, _, _ => by simp [dats, PyData.eqvAll]
  | _ :: _, [], _, _ => by simp [dats, PyData.eqvAll]
  | x :: xs, y :: ys, hp, hq => by
    rw [plL_cons, Bool.and_eq_true] at hp hq
    simp only [dats, PyData.eqvAll, Bool.and_eq_true, List.cons.injEq]
    rw [eqv_dat n m x y hp.1 hq.1, eqv_dats hp.2 hq.2]
theorem bool_of {b c : Bool} {p : Prop} (h1 : b = true ↔ p) (h2 : c = true ↔ p) : b = c := by
  rw [Bool.eq_iff_iff, h1, h2]
theorem sEq_pl {n m : Nat} {p q : PV} {b : Bool} (hp : plP n p = true) (hq : plP m q = true) (h : sEq p q = some b) : b = true ↔ p = q := by
  cases p <;> cases q
  all_goals first
    | (simp [sEq] at h; done)
    | (cases n <;> simp [plP] at hp; done)
    | (cases m <;> simp [plP] at hq; done)
    | (simp [sEq] at h; subst h; simp)
/-- == of plain trees -/
theorem eqA_pl {M : MM} {p q : PV} {Q : Bool → Prop} (n m : Nat) (hn : n ≤ 64) (hm : m ≤ 64) (hp : plP n p = true) (hq : plP m q = true) (b : Bool) (h : b = true ↔ p = q) (k : Q b) : eqA p q M Q := by
  unfold eqA
  cases e : sEq p q with
  | some c =>
    have := bool_of (sEq_pl hp hq e) h
    subst this; exact k
  | none =>
    refine .inl ⟨dat p, dat q, deep_dat n p hp, deep_dat m q hq, shaped_dat hn hp, shaped_dat hm hq, ?_⟩
    have := bool_of (eqv_dat n m p q hp hq) h
    rw [this]; exact k
/-- == of lists of plain trees -/
theorem eqA_plL {M : MM} {a a' : Addr} {xs ys : List PV} {Q : Bool → Prop} (n m : Nat) (hn : n ≤ 63) (hm : m ≤ 63) (h1 : M a = some (.lst xs)) (h2 : M a' = some (.lst ys)) (hp : plL n xs = true) (hq : plL m ys = true) (b : Bool) (h : b = true ↔ xs = ys) (k : Q b) : eqA (.ref a) (.ref a') M Q := by
  show (∃ d e, Deep M (.ref a) d ∧ Deep M (.ref a') e ∧ SeqAt.shaped d = true ∧ SeqAt.shaped e = true ∧ Q (PyData.eqv d e)) ∨ _
  refine .inl ⟨.list (dats xs), .list (dats ys), .lst h1 (deep_dats hp), .lst h2 (deep_dats hq), shaped_dats hn hp, shaped_dats hm hq, ?_⟩
  have : PyData.eqv (.list (dats xs)) (.list (dats ys)) = b := bool_of (by simp only [PyData.eqv]; exact eqv_dats hp hq) h
  rw [this]; exact k
theorem plP_strs (n : Nat) (ss : List String) : plL n (ss.map .str) = true := by
  unfold plL
  rw [List.all_map, List.all_eq_true]
  intro s _; cases n <;> rfl
end Rx
end

section
set_option maxHeartbeats 4000000
/-! the program's defs as syntax. -/
namespace Law
open PySem PySem.Spec PyProof.Rows L2 Rx
def N_is_integer : List Str := [so "value"]
def P_is_integer : List Str := [so "value"]

def S_is_integer : Ss := (.cons (.ret (.andE (.isi (.var 0) "int") (.one (.notE (.isi (.var 0) "bool")))))
    .nil)
def N_is_from : List Str := [so "value", so "low", so "high"]
def P_is_from : List Str := [so "value", so "low", so "high"]

def S_is_from : Ss := (.cons (.ret (.andE (.call "is_integer" (.cons (.var 0) .nil)) (.one (.chain .LtE .LtE (.var 1) (.var 0) (.var 2)))))
    .nil)
def N_is_name : List Str := [so "value", so "letter"]
def P_is_name : List Str := [so "value"]

def E1_is_name : E := (.cmp .In (.var 1) (.glo "LETTERS"))
def S_is_name : Ss := (.cons (.ifS (.orE (.notE (.tv (.isi (.var 0) "str"))) (.one (.notE (.chain .LtE .LtE (.int 1) (.bi "len" (.cons (.var 0) .nil)) (.glo "LONGEST"))))) (.cons (.ret (.bl false))
    .nil) .nil)
    (.cons (.ret (.bi "all" (.cons (.lc E1_is_name (.name 1) (.val (.var 0)) .none [("letter", 1)]) .nil)))
    .nil))
def N_is_one_of : List Str := [so "value", so "some"]
def P_is_one_of : List Str := [so "value", so "some"]

def S_is_one_of : Ss := (.cons (.ret (.andE (.isi (.var 0) "str") (.one (.cmp .In (.var 0) (.var 1)))))
    .nil)
def N_are_people : List Str := [so "value", so "name"]
def P_are_people : List Str := [so "value"]

def E1_are_people : E := (.call "is_name" (.cons (.var 1) .nil))
def S_are_people : Ss := (.cons (.ifS (.orE (.notE (.tv (.isi (.var 0) "tuple"))) (.orE (.notE (.chain .LtE .LtE (.int 2) (.bi "len" (.cons (.var 0) .nil)) (.int 3))) (.one (.notE (.tv (.bi "all" (.cons (.lc E1_are_people (.name 1) (.val (.var 0)) .none [("name", 1)]) .nil))))))) (.cons (.ret (.bl false))
    .nil) .nil)
    (.cons (.ret (.cmp .Eq (.bi "len" (.cons (.dc (.var 1) (.bl true) (.name 1) (.val (.var 0)) .none [("name", 1)]) .nil)) (.bi "len" (.cons (.var 0) .nil))))
    .nil))
def N_check_rule : List Str := [so "rule", so "part"]
def P_check_rule : List Str := [so "rule"]

def B1_check_rule : Ss := (.cons (.ifS (.notE (.tv (.call "is_one_of" (.cons (.sub (.var 0) (.var 1)) (.cons (.sub (.glo "RULES") (.var 1)) .nil))))) (.cons (.raise "BadRule" (.cons (.var 1) .nil))
    .nil) .nil)
    .nil)
def E2_check_rule : E := (.call "is_one_of" (.cons (.var 1) (.cons (.bi "list" (.cons (.glo "RULES") .nil)) .nil)))
def S_check_rule : Ss := (.cons (.ifS (.orE (.notE (.tv (.isi (.var 0) "dict"))) (.orE (.notE (.tv (.bi "all" (.cons (.lc E2_check_rule (.name 1) (.val (.var 0)) .none [("part", 1)]) .nil)))) (.one (.cmp .Lt (.bi "len" (.cons (.var 0) .nil)) (.bi "len" (.cons (.glo "RULES") .nil)))))) (.cons (.raise "BadRule" (.cons (.str "") .nil))
    .nil) .nil)
    (.cons (.forS (.name 1) (.val (.glo "RULES")) B1_check_rule)
    .nil))
def N_are_words : List Str := [so "value", so "word", so "one", so "other"]
def P_are_words : List Str := [so "value"]

def E1_are_words : E := (.cmp .Lt (.var 2) (.var 3))
def E2_are_words : E := (.call "is_one_of" (.cons (.var 1) (.cons (.glo "WORDS") .nil)))
def S_are_words : Ss := (.cons (.ifS (.orE (.notE (.tv (.isi (.var 0) "tuple"))) (.one (.notE (.tv (.bi "all" (.cons (.lc E2_are_words (.name 1) (.val (.var 0)) .none [("word", 1)]) .nil)))))) (.cons (.ret (.bl false))
    .nil) .nil)
    (.cons (.ret (.bi "all" (.cons (.lc E1_are_words (.tup (.cons (.name 2) (.cons (.name 3) .nil))) (.zip (.var 0) (.slc (.var 0) (.some (.int 1)) .none)) .none [("one", 2), ("other", 3)]) .nil)))
    .nil))
def N_Book_init : List Str := [so "self", so "people", so "longest", so "most", so "rule", so "words", so "part"]
def P_Book_init : List Str := [so "self", so "people", so "longest", so "most", so "rule", so "words"]

def s1_Book_init : S := (.ifS (.notE (.tv (.call "are_people" (.cons (.var 1) .nil)))) (.cons (.raise "BadPeople" .nil)
    .nil) .nil)
def s2_Book_init : S := (.ifS (.orE (.notE (.tv (.call "is_from" (.cons (.var 2) (.cons (.int 0) (.cons (.glo "MOST") .nil)))))) (.one (.notE (.tv (.call "is_from" (.cons (.var 3) (.cons (.int 0) (.cons (.glo "MOST") .nil)))))))) (.cons (.raise "BadNumber" .nil)
    .nil) .nil)
def s3_Book_init : S := (.expr (.call "check_rule" (.cons (.var 4) .nil)))
def s4_Book_init : S := (.ifS (.notE (.tv (.call "are_words" (.cons (.var 5) .nil)))) (.cons (.raise "BadWords" .nil)
    .nil) .nil)
def s5_Book_init : S := (.fld (.var 0) "turns" (.var 1))
def s6_Book_init : S := (.fld (.var 0) "names" (.bi "tuple" (.cons (.bi "sorted" (.cons (.var 1) .nil)) .nil)))
def s7_Book_init : S := (.fld (.var 0) "open_days" (.var 2))
def s8_Book_init : S := (.fld (.var 0) "cap" (.var 3))
def E1_Book_init : E := (.sub (.var 4) (.var 6))
def s9_Book_init : S := (.fld (.var 0) "parts" (.dc (.var 6) E1_Book_init (.name 6) (.val (.glo "RULES")) .none [("part", 6)]))
def s10_Book_init : S := (.fld (.var 0) "told_words" (.var 5))
def S_Book_init : Ss := (.cons s1_Book_init (.cons s2_Book_init (.cons s3_Book_init (.cons s4_Book_init (.cons s5_Book_init (.cons s6_Book_init (.cons s7_Book_init (.cons s8_Book_init (.cons s9_Book_init (.cons s10_Book_init .nil))))))))))
def N_Book_people : List Str := [so "self"]
def P_Book_people : List Str := [so "self"]

def S_Book_people : Ss := (.cons (.ret (.fld (.var 0) "turns"))
    .nil)
def N_Book_longest : List Str := [so "self"]
def P_Book_longest : List Str := [so "self"]

def S_Book_longest : Ss := (.cons (.ret (.fld (.var 0) "open_days"))
    .nil)
def N_Book_most : List Str := [so "self"]
def P_Book_most : List Str := [so "self"]

def S_Book_most : Ss := (.cons (.ret (.fld (.var 0) "cap"))
    .nil)
def N_Book_rule : List Str := [so "self"]
def P_Book_rule : List Str := [so "self"]

def S_Book_rule : Ss := (.cons (.ret (.bi "dict" (.cons (.fld (.var 0) "parts") .nil)))
    .nil)
def N_Book_words : List Str := [so "self"]
def P_Book_words : List Str := [so "self"]

def S_Book_words : Ss := (.cons (.ret (.fld (.var 0) "told_words"))
    .nil)
def N_Book_eq : List Str := [so "self", so "other"]
def P_Book_eq : List Str := [so "self", so "other"]

def S_Book_eq : Ss := (.cons (.ifS (.orE (.notE (.tv (.isc (.var 1) "Book"))) (.orE (.cmp .NotEq (.fld (.var 0) "turns") (.fld (.var 1) "turns")) (.one (.cmp .NotEq (.fld (.var 0) "told_words") (.fld (.var 1) "told_words"))))) (.cons (.ret (.bl false))
    .nil) .nil)
    (.cons (.ret (.andE (.cmp .Eq (.fld (.var 0) "open_days") (.fld (.var 1) "open_days")) (.andE (.cmp .Eq (.fld (.var 0) "cap") (.fld (.var 1) "cap")) (.one (.cmp .Eq (.fld (.var 0) "parts") (.fld (.var 1) "parts"))))))
    .nil))
def N_Book_changed : List Str := [so "self", so "part", so "word"]
def P_Book_changed : List Str := [so "self", so "part", so "word"]

def S_Book_changed : Ss := (.cons (.ifS (.notE (.tv (.call "is_one_of" (.cons (.var 1) (.cons (.bi "list" (.cons (.glo "RULES") .nil)) .nil))))) (.cons (.raise "BadRule" (.cons (.str "") .nil))
    .nil) .nil)
    (.cons (.ret (.mk "Book" (.cons (.fld (.var 0) "turns") (.cons (.fld (.var 0) "open_days") (.cons (.fld (.var 0) "cap") (.cons (.dst (.fld (.var 0) "parts") (.var 1) (.var 2)) (.cons (.fld (.var 0) "told_words") .nil)))))))
    .nil))
def N_write : List Str := [so "book", so "rows", so "part", so "word", so "row"]
def P_write : List Str := [so "book"]

def s1_write : S := (.asg (.name 1) (.lst (.cons (.lst (.cons (.str "people") (.star (.fld (.var 0) "turns") .nil))) (.cons (.lst (.cons (.str "longest") (.cons (.bi "str" (.cons (.fld (.var 0) "open_days") .nil)) .nil))) (.cons (.lst (.cons (.str "most") (.cons (.bi "str" (.cons (.fld (.var 0) "cap") .nil)) .nil))) .nil)))))
def E1_write : E := (.lst (.cons (.var 2) (.cons (.var 3) .nil)))
def s2_write : S := (.expr (.bm "list" (.var 1) "extend" (.cons (.lc E1_write (.tup (.cons (.name 2) (.cons (.name 3) .nil))) (.items (.fld (.var 0) "parts")) .none [("part", 2), ("word", 3)]) .nil)))
def s3_write : S := (.expr (.bm "list" (.var 1) "append" (.cons (.lst (.cons (.str "words") (.star (.fld (.var 0) "told_words") .nil))) .nil)))
def E2_write : E := (.bm "str" (.str " ") "join" (.cons (.var 4) .nil))
def s4_write : S := (.ret (.bm "str" (.str "\n") "join" (.cons (.lc E2_write (.name 4) (.val (.var 1)) .none [("row", 4)]) .nil)))
def S_write : Ss := (.cons s1_write (.cons s2_write (.cons s3_write (.cons s4_write .nil))))
def N_Line_init : List Str := [so "self", so "text", so "number", so "word"]
def P_Line_init : List Str := [so "self", so "text", so "number"]

def T1_Line_init : E := (.cmp .NotEq (.var 3) (.str ""))
def s1_Line_init : S := (.fld (.var 0) "parts" (.lc (.var 3) (.name 3) (.val (.bm "str" (.var 1) "split" (.cons (.str " ") .nil))) (.some T1_Line_init) [("word", 3)]))
def s2_Line_init : S := (.fld (.var 0) "number" (.var 2))
def s3_Line_init : S := (.fld (.var 0) "spot" (.int 0))
def S_Line_init : Ss := (.cons s1_Line_init (.cons s2_Line_init (.cons s3_Line_init .nil)))
def N_Line_now : List Str := [so "self"]
def P_Line_now : List Str := [so "self"]

def S_Line_now : Ss := (.cons (.ret (.ite (.cmp .Lt (.fld (.var 0) "spot") (.bi "len" (.cons (.fld (.var 0) "parts") .nil))) (.sub (.fld (.var 0) "parts") (.fld (.var 0) "spot")) (.str "")))
    .nil)
def N_Line_take : List Str := [so "self", so "is_good", so "word"]
def P_Line_take : List Str := [so "self", so "is_good"]

def s1_Line_take : S := (.asg (.name 2) (.meth (.var 0) "now" .nil))
def s2_Line_take : S := (.ifS (.orE (.cmp .Eq (.var 2) (.str "")) (.one (.notE (.tv (.var 1))))) (.cons (.raise "BadLine" (.cons (.fld (.var 0) "number") (.cons (.bin .Add (.fld (.var 0) "spot") (.int 1)) .nil)))
    .nil) .nil)
def s3_Line_take : S := (.augF (.var 0) "spot" .Add (.int 1))
def s4_Line_take : S := (.ret (.var 2))
def S_Line_take : Ss := (.cons s1_Line_take (.cons s2_Line_take (.cons s3_Line_take (.cons s4_Line_take .nil))))
def N_Line_one_of : List Str := [so "self", so "some"]
def P_Line_one_of : List Str := [so "self", so "some"]

def S_Line_one_of : Ss := (.cons (.ret (.meth (.var 0) "take" (.cons (.cmp .In (.meth (.var 0) "now" .nil) (.var 1)) .nil)))
    .nil)
def N_Line_take_name : List Str := [so "self"]
def P_Line_take_name : List Str := [so "self"]

def S_Line_take_name : Ss := (.cons (.ret (.meth (.var 0) "take" (.cons (.call "is_name" (.cons (.meth (.var 0) "now" .nil) .nil)) .nil)))
    .nil)
def N_Line_finish : List Str := [so "self"]
def P_Line_finish : List Str := [so "self"]

def S_Line_finish : Ss := (.cons (.ifS (.cmp .Lt (.fld (.var 0) "spot") (.bi "len" (.cons (.fld (.var 0) "parts") .nil))) (.cons (.raise "BadLine" (.cons (.fld (.var 0) "number") (.cons (.bin .Add (.fld (.var 0) "spot") (.int 1)) .nil)))
    .nil) .nil)
    .nil)
def N_Reader_init : List Str := [so "self", so "text"]
def P_Reader_init : List Str := [so "self", so "text"]

def S_Reader_init : Ss := (.cons (.fld (.var 0) "rows" (.bm "str" (.var 1) "split" (.cons (.str "\n") .nil)))
    (.cons (.fld (.var 0) "at" (.int 0))
    .nil))
def N_Reader_next_line : List Str := [so "self", so "head", so "found"]
def P_Reader_next_line : List Str := [so "self", so "head"]

def s1_Reader_next_line : S := (.ifS (.cmp .Eq (.fld (.var 0) "at") (.bi "len" (.cons (.fld (.var 0) "rows") .nil))) (.cons (.raise "BadLine" (.cons (.bin .Add (.fld (.var 0) "at") (.int 1)) (.cons (.int 1) .nil)))
    .nil) .nil)
def s2_Reader_next_line : S := (.asg (.name 2) (.mk "Line" (.cons (.sub (.fld (.var 0) "rows") (.fld (.var 0) "at")) (.cons (.bin .Add (.fld (.var 0) "at") (.int 1)) .nil))))
def s3_Reader_next_line : S := (.expr (.meth (.var 2) "one_of" (.cons (.tup (.cons (.var 1) .nil)) .nil)))
def s4_Reader_next_line : S := (.augF (.var 0) "at" .Add (.int 1))
def s5_Reader_next_line : S := (.ret (.var 2))
def S_Reader_next_line : Ss := (.cons s1_Reader_next_line (.cons s2_Reader_next_line (.cons s3_Reader_next_line (.cons s4_Reader_next_line (.cons s5_Reader_next_line .nil)))))
def N_Reader_one_word : List Str := [so "self", so "head", so "some", so "line", so "word"]
def P_Reader_one_word : List Str := [so "self", so "head", so "some"]

def s1_Reader_one_word : S := (.asg (.name 3) (.meth (.var 0) "next_line" (.cons (.var 1) .nil)))
def s2_Reader_one_word : S := (.asg (.name 4) (.meth (.var 3) "one_of" (.cons (.var 2) .nil)))
def s3_Reader_one_word : S := (.expr (.meth (.var 3) "finish" .nil))
def s4_Reader_one_word : S := (.ret (.var 4))
def S_Reader_one_word : Ss := (.cons s1_Reader_one_word (.cons s2_Reader_one_word (.cons s3_Reader_one_word (.cons s4_Reader_one_word .nil))))
def N_read_people : List Str := [so "line", so "found"]
def P_read_people : List Str := [so "line"]

def s1_read_people : S := (.asg (.name 1) (.lst (.cons (.meth (.var 0) "take_name" .nil) (.cons (.meth (.var 0) "take_name" .nil) .nil))))
def s2_read_people : S := (.ifS (.cmp .NotEq (.meth (.var 0) "now" .nil) (.str "")) (.cons (.expr (.bm "list" (.var 1) "append" (.cons (.meth (.var 0) "take_name" .nil) .nil)))
    .nil) .nil)
def s3_read_people : S := (.expr (.meth (.var 0) "finish" .nil))
def s4_read_people : S := (.ret (.bi "tuple" (.cons (.var 1) .nil)))
def S_read_people : Ss := (.cons s1_read_people (.cons s2_read_people (.cons s3_read_people (.cons s4_read_people .nil))))
def N_read_words : List Str := [so "line", so "found"]
def P_read_words : List Str := [so "line"]

def s1_read_words : S := (.asg (.name 1) (.lst .nil))
def T1_read_words : E := (.cmp .NotEq (.meth (.var 0) "now" .nil) (.str ""))
def B2_read_words : Ss := (.cons (.expr (.bm "list" (.var 1) "append" (.cons (.meth (.var 0) "one_of" (.cons (.glo "WORDS") .nil)) .nil)))
    .nil)
def s2_read_words : S := (.whileS T1_read_words B2_read_words)
def s3_read_words : S := (.ret (.bi "tuple" (.cons (.var 1) .nil)))
def S_read_words : Ss := (.cons s1_read_words (.cons s2_read_words (.cons s3_read_words .nil)))
def N_read : List Str := [so "text", so "reader", so "people", so "longest", so "most", so "rule", so "words", so "part"]
def P_read : List Str := [so "text"]

def s1_read : S := (.asg (.name 1) (.mk "Reader" (.cons (.var 0) .nil)))
def s2_read : S := (.asg (.name 2) (.call "read_people" (.cons (.meth (.var 1) "next_line" (.cons (.str "people") .nil)) .nil)))
def s3_read : S := (.par2 3 4 (.bi "int" (.cons (.meth (.var 1) "one_word" (.cons (.str "longest") (.cons (.glo "DIGITS") .nil))) .nil)) (.bi "int" (.cons (.meth (.var 1) "one_word" (.cons (.str "most") (.cons (.glo "DIGITS") .nil))) .nil)))
def E1_read : E := (.meth (.var 1) "one_word" (.cons (.var 7) (.cons (.sub (.glo "RULES") (.var 7)) .nil)))
def s4_read : S := (.setd 5 (.var 7) E1_read (.name 7) (.val (.glo "RULES")) .none [("part", 7)])
def s5_read : S := (.asg (.name 6) (.call "read_words" (.cons (.meth (.var 1) "next_line" (.cons (.str "words") .nil)) .nil)))
def s6_read : S := (.ifS (.cmp .Lt (.fld (.var 1) "at") (.bi "len" (.cons (.fld (.var 1) "rows") .nil))) (.cons (.raise "BadLine" (.cons (.bin .Add (.fld (.var 1) "at") (.int 1)) (.cons (.int 1) .nil)))
    .nil) .nil)
def s7_read : S := (.ret (.mk "Book" (.cons (.var 2) (.cons (.var 3) (.cons (.var 4) (.cons (.var 5) (.cons (.var 6) .nil)))))))
def S_read : Ss := (.cons s1_read (.cons s2_read (.cons s3_read (.cons s4_read (.cons s5_read (.cons s6_read (.cons s7_read .nil)))))))
def N_first_standing : List Str := [so "book", so "many"]
def P_first_standing : List Str := [so "book"]

def S_first_standing : Ss := (.cons (.asg (.name 1) (.bi "len" (.cons (.fld (.var 0) "names") .nil)))
    (.cons (.ret (.tup (.cons (.fld (.var 0) "turns") (.cons (.int 0) (.cons (.tup .nil) (.cons (.bin .Mult (.tup (.cons .non .nil)) (.var 1)) (.cons (.bin .Mult (.tup (.cons (.int 0) .nil)) (.var 1)) .nil)))))))
    .nil))
def N_deeds_of : List Str := [so "book", so "names", so "words", so "pairs", so "found", so "one", so "other", so "word", so "name", so "days"]
def P_deeds_of : List Str := [so "book"]

def s1_deeds_of : S := (.asg (.tup (.cons (.name 1) (.cons (.name 2) .nil))) (.tup (.cons (.fld (.var 0) "names") (.cons (.fld (.var 0) "told_words") .nil))))
def T1_deeds_of : E := (.cmp .NotEq (.var 5) (.var 6))
def E2_deeds_of : E := (.tup (.cons (.var 5) (.cons (.var 6) .nil)))
def s2_deeds_of : S := (.setl2 3 E2_deeds_of (.name 5) (.val (.var 1)) (.name 6) (.val (.var 1)) (.some T1_deeds_of) [("one", 5), ("other", 6)] [6])
def s3_deeds_of : S := (.asg (.name 4) (.lst .nil))
def E3_deeds_of : E := (.tup (.cons (.var 7) (.cons (.var 8) .nil)))
def s4_deeds_of : S := (.ifS (.cmp .In (.glo "AWAY") (.var 2)) (.cons (.expr (.bm "list" (.var 4) "extend" (.cons (.lc2 E3_deeds_of (.name 7) (.val (.tup (.cons (.glo "AWAY") (.cons (.glo "BACK") .nil)))) (.name 8) (.val (.var 1)) .none [("word", 7), ("name", 8)] [8]) .nil)))
    .nil) .nil)
def E4_deeds_of : E := (.tup (.cons (.glo "HAND") (.cons (.var 5) (.cons (.var 6) (.cons (.var 9) .nil)))))
def s5_deeds_of : S := (.ifS (.cmp .In (.glo "HAND") (.var 2)) (.cons (.expr (.bm "list" (.var 4) "extend" (.cons (.lc2 E4_deeds_of (.tup (.cons (.name 5) (.cons (.name 6) .nil))) (.val (.var 3)) (.name 9) (.rng1 (.bin .Add (.fld (.var 0) "open_days") (.int 1))) .none [("one", 5), ("other", 6), ("days", 9)] [9]) .nil)))
    .nil) .nil)
def s6_deeds_of : S := (.expr (.bm "list" (.var 4) "append" (.cons (.tup (.cons (.glo "NIGHT") .nil)) .nil)))
def E5_deeds_of : E := (.tup (.cons (.glo "REFUSE") (.cons (.var 8) .nil)))
def s7_deeds_of : S := (.ifS (.cmp .In (.glo "REFUSE") (.var 2)) (.cons (.expr (.bm "list" (.var 4) "extend" (.cons (.lc E5_deeds_of (.name 8) (.val (.var 1)) .none [("name", 8)]) .nil)))
    .nil) .nil)
def T6_deeds_of : E := (.cmp .Lt (.var 5) (.var 6))
def E7_deeds_of : E := (.tup (.cons (.glo "SWAP") (.cons (.var 5) (.cons (.var 6) .nil))))
def s8_deeds_of : S := (.ifS (.cmp .In (.glo "SWAP") (.var 2)) (.cons (.expr (.bm "list" (.var 4) "extend" (.cons (.lc E7_deeds_of (.tup (.cons (.name 5) (.cons (.name 6) .nil))) (.val (.var 3)) (.some T6_deeds_of) [("one", 5), ("other", 6)]) .nil)))
    .nil) .nil)
def E8_deeds_of : E := (.tup (.cons (.glo "TAKE") (.cons (.var 8) .nil)))
def s9_deeds_of : S := (.ifS (.cmp .In (.glo "TAKE") (.var 2)) (.cons (.expr (.bm "list" (.var 4) "extend" (.cons (.lc E8_deeds_of (.name 8) (.val (.var 1)) .none [("name", 8)]) .nil)))
    .nil) .nil)
def s10_deeds_of : S := (.ret (.var 4))
def S_deeds_of : Ss := (.cons s1_deeds_of (.cons s2_deeds_of (.cons s3_deeds_of (.cons s4_deeds_of (.cons s5_deeds_of (.cons s6_deeds_of (.cons s7_deeds_of (.cons s8_deeds_of (.cons s9_deeds_of (.cons s10_deeds_of .nil))))))))))
def N_is_deed : List Str := [so "book", so "value", so "word"]
def P_is_deed : List Str := [so "book", so "value"]

def s1_is_deed : S := (.ifS (.orE (.notE (.tv (.isi (.var 1) "tuple"))) (.orE (.cmp .Eq (.var 1) (.tup .nil)) (.one (.notE (.tv (.isi (.sub (.var 1) (.int 0)) "str")))))) (.cons (.ret (.bl false))
    .nil) .nil)
def s2_is_deed : S := (.asg (.name 2) (.sub (.var 1) (.int 0)))
def s3_is_deed : S := (.ifS (.cmp .Eq (.var 2) (.glo "NIGHT")) (.cons (.ret (.cmp .Eq (.bi "len" (.cons (.var 1) .nil)) (.int 1)))
    .nil) .nil)
def s4_is_deed : S := (.ifS (.orE (.cmp .NotIn (.ite (.cmp .Eq (.var 2) (.glo "BACK")) (.glo "AWAY") (.var 2)) (.fld (.var 0) "told_words")) (.one (.cmp .Lt (.bi "len" (.cons (.var 1) .nil)) (.int 2)))) (.cons (.ret (.bl false))
    .nil) .nil)
def s5_is_deed : S := (.ifS (.notE (.tv (.call "is_one_of" (.cons (.sub (.var 1) (.int 1)) (.cons (.fld (.var 0) "names") .nil))))) (.cons (.ret (.bl false))
    .nil) .nil)
def s6_is_deed : S := (.ifS (.cmp .In (.var 2) (.glo "ONE_NAMED")) (.cons (.ret (.cmp .Eq (.bi "len" (.cons (.var 1) .nil)) (.int 2)))
    .nil) .nil)
def s7_is_deed : S := (.ifS (.orE (.cmp .NotEq (.bi "len" (.cons (.var 1) .nil)) (.ite (.cmp .Eq (.var 2) (.glo "HAND")) (.int 4) (.int 3))) (.one (.notE (.tv (.call "is_one_of" (.cons (.sub (.var 1) (.int 2)) (.cons (.fld (.var 0) "names") .nil))))))) (.cons (.ret (.bl false))
    .nil) .nil)
def s8_is_deed : S := (.ifS (.cmp .Eq (.var 2) (.glo "SWAP")) (.cons (.ret (.cmp .Lt (.sub (.var 1) (.int 1)) (.sub (.var 1) (.int 2))))
    .nil) .nil)
def s9_is_deed : S := (.ret (.andE (.cmp .NotEq (.sub (.var 1) (.int 1)) (.sub (.var 1) (.int 2))) (.one (.call "is_from" (.cons (.sub (.var 1) (.int 3)) (.cons (.int 0) (.cons (.fld (.var 0) "open_days") .nil)))))))
def S_is_deed : Ss := (.cons s1_is_deed (.cons s2_is_deed (.cons s3_is_deed (.cons s4_is_deed (.cons s5_is_deed (.cons s6_is_deed (.cons s7_is_deed (.cons s8_is_deed (.cons s9_is_deed .nil)))))))))
def N_put : List Str := [so "things", so "index", so "thing"]
def P_put : List Str := [so "things", so "index", so "thing"]

def S_put : Ss := (.cons (.ret (.bin .Add (.bin .Add (.slc (.var 0) .none (.some (.var 1))) (.tup (.cons (.var 2) .nil))) (.slc (.var 0) (.some (.bin .Add (.var 1) (.int 1))) .none)))
    .nil)
def N_lent_by : List Str := [so "book", so "lent", so "name"]
def P_lent_by : List Str := [so "book", so "lent", so "name"]

def S_lent_by : Ss := (.cons (.ret (.sub (.var 1) (.bm "tuple" (.fld (.var 0) "names") "index" (.cons (.var 2) .nil))))
    .nil)
def N_chain_from : List Str := [so "book", so "standing", so "order", so "turn", so "away", so "lent", so "counts", so "found", so "link"]
def P_chain_from : List Str := [so "book", so "standing"]

def s1_chain_from : S := (.asg (.tup (.cons (.name 2) (.cons (.name 3) (.cons (.name 4) (.cons (.name 5) (.cons (.name 6) .nil)))))) (.var 1))
def s2_chain_from : S := (.asg (.name 7) (.lst (.cons (.sub (.var 2) (.var 3)) .nil)))
def s3_chain_from : S := (.asg (.name 8) (.call "lent_by" (.cons (.var 0) (.cons (.var 5) (.cons (.sub (.var 7) (.neg (.int 1))) .nil)))))
def T1_chain_from : E := (.andE (.cmp .IsNot (.var 8) .non) (.one (.cmp .NotIn (.sub (.var 8) (.int 0)) (.var 7))))
def B2_chain_from : Ss := (.cons (.expr (.bm "list" (.var 7) "append" (.cons (.sub (.var 8) (.int 0)) .nil)))
    (.cons (.asg (.name 8) (.call "lent_by" (.cons (.var 0) (.cons (.var 5) (.cons (.sub (.var 7) (.neg (.int 1))) .nil)))))
    .nil))
def s4_chain_from : S := (.whileS T1_chain_from B2_chain_from)
def s5_chain_from : S := (.ret (.tup (.cons (.var 7) (.cons (.var 8) .nil))))
def S_chain_from : Ss := (.cons s1_chain_from (.cons s2_chain_from (.cons s3_chain_from (.cons s4_chain_from (.cons s5_chain_from .nil)))))
def N_holder_of : List Str := [so "book", so "standing", so "found", so "link"]
def P_holder_of : List Str := [so "book", so "standing"]

def S_holder_of : Ss := (.cons (.asg (.tup (.cons (.name 2) (.cons (.name 3) .nil))) (.call "chain_from" (.cons (.var 0) (.cons (.var 1) .nil))))
    (.cons (.ret (.ite (.cmp .Is (.var 3) .non) (.sub (.var 2) (.neg (.int 1))) .non))
    .nil))
def N_stand_ins : List Str := [so "book", so "standing", so "order", so "turn", so "away", so "lent", so "counts", so "word", so "here", so "name"]
def P_stand_ins : List Str := [so "book", so "standing"]

def s1_stand_ins : S := (.asg (.tup (.cons (.name 2) (.cons (.name 3) (.cons (.name 4) (.cons (.name 5) (.cons (.name 6) .nil)))))) (.var 1))
def s2_stand_ins : S := (.asg (.name 7) (.sub (.fld (.var 0) "parts") (.str "gap")))
def s3_stand_ins : S := (.ifS (.cmp .Eq (.var 7) (.str "owner")) (.cons (.ret (.lst (.cons (.sub (.var 2) (.var 3)) .nil)))
    .nil) .nil)
def T1_stand_ins : E := (.cmp .NotIn (.var 9) (.var 4))
def s4_stand_ins : S := (.setl 8 (.var 9) (.name 9) (.val (.bin .Add (.slc (.var 2) (.some (.var 3)) .none) (.slc (.var 2) .none (.some (.var 3))))) (.some T1_stand_ins) [("name", 9)])
def s5_stand_ins : S := (.ret (.ite (.cmp .Eq (.var 7) (.str "next")) (.slc (.var 8) .none (.some (.int 1))) (.lst .nil)))
def S_stand_ins : Ss := (.cons s1_stand_ins (.cons s2_stand_ins (.cons s3_stand_ins (.cons s4_stand_ins (.cons s5_stand_ins .nil)))))
def N_must_at : List Str := [so "book", so "standing", so "order", so "turn", so "away", so "lent", so "counts", so "owner", so "holder", so "found", so "name"]
def P_must_at : List Str := [so "book", so "standing"]

def s1_must_at : S := (.asg (.tup (.cons (.name 2) (.cons (.name 3) (.cons (.name 4) (.cons (.name 5) (.cons (.name 6) .nil)))))) (.var 1))
def s2_must_at : S := (.par2 7 8 (.sub (.var 2) (.var 3)) (.call "holder_of" (.cons (.var 0) (.cons (.var 1) .nil))))
def s3_must_at : S := (.asg (.name 9) (.ite (.andE (.cmp .IsNot (.var 8) .non) (.one (.cmp .NotIn (.var 8) (.var 4)))) (.lst (.cons (.var 8) .nil)) (.call "stand_ins" (.cons (.var 0) (.cons (.var 1) .nil)))))
def s4_must_at : S := (.ifS (.andE (.cmp .Eq (.sub (.fld (.var 0) "parts") (.str "back")) (.str "both")) (.andE (.cmp .NotIn (.var 7) (.var 4)) (.one (.cmp .IsNot (.call "lent_by" (.cons (.var 0) (.cons (.var 5) (.cons (.var 7) .nil)))) .non)))) (.cons (.asg (.name 9) (.lst (.star (.var 9) (.cons (.var 7) .nil))))
    .nil) .nil)
def s5_must_at : S := (.ret (.bi "sorted" (.cons (.dc (.var 10) (.bl true) (.name 10) (.val (.var 9)) .none [("name", 10)]) .nil)))
def S_must_at : Ss := (.cons s1_must_at (.cons s2_must_at (.cons s3_must_at (.cons s4_must_at (.cons s5_must_at .nil)))))
def N_done_at : List Str := [so "book", so "standing", so "name"]
def P_done_at : List Str := [so "book", so "standing"]

def T1_done_at : E := (.cmp .NotIn (.var 2) (.sub (.var 1) (.int 2)))
def S_done_at : Ss := (.cons (.ret (.lc (.var 2) (.name 2) (.val (.call "must_at" (.cons (.var 0) (.cons (.var 1) .nil)))) (.some T1_done_at) [("name", 2)]))
    .nil)
def N_counted_at : List Str := [so "book", so "standing", so "order", so "turn", so "away", so "lent", so "counts", so "owner", so "holder", so "found", so "link", so "name"]
def P_counted_at : List Str := [so "book", so "standing"]

def s1_counted_at : S := (.asg (.tup (.cons (.name 2) (.cons (.name 3) (.cons (.name 4) (.cons (.name 5) (.cons (.name 6) .nil)))))) (.var 1))
def s2_counted_at : S := (.asg (.tup (.cons (.name 7) (.cons (.name 8) .nil))) (.tup (.cons (.sub (.var 2) (.var 3)) (.cons (.call "holder_of" (.cons (.var 0) (.cons (.var 1) .nil))) .nil))))
def T1_counted_at : E := (.cmp .NotEq (.var 11) (.var 7))
def s3_counted_at : S := (.setl 9 (.var 11) (.name 11) (.val (.call "done_at" (.cons (.var 0) (.cons (.var 1) .nil)))) (.some T1_counted_at) [("name", 11)])
def T2_counted_at : E := (.cmp .Eq (.var 11) (.var 8))
def s4_counted_at : S := (.ifS (.cmp .Eq (.sub (.fld (.var 0) "parts") (.str "count")) (.str "handed")) (.cons (.ret (.lc (.var 11) (.name 11) (.val (.var 9)) (.some T2_counted_at) [("name", 11)]))
    .nil) .nil)
def T3_counted_at : E := (.andE (.cmp .IsNot (.var 10) .non) (.one (.cmp .Eq (.sub (.var 10) (.int 0)) (.var 11))))
def s5_counted_at : S := (.ifS (.cmp .Eq (.sub (.fld (.var 0) "parts") (.str "count")) (.str "direct")) (.cons (.asg (.name 10) (.call "lent_by" (.cons (.var 0) (.cons (.var 5) (.cons (.var 7) .nil)))))
    (.cons (.ret (.lc (.var 11) (.name 11) (.val (.var 9)) (.some T3_counted_at) [("name", 11)]))
    .nil)) .nil)
def s6_counted_at : S := (.ret (.var 9))
def S_counted_at : Ss := (.cons s1_counted_at (.cons s2_counted_at (.cons s3_counted_at (.cons s4_counted_at (.cons s5_counted_at (.cons s6_counted_at .nil))))))
def N_night_findings : List Str := [so "book", so "standing", so "owner", so "found", so "name", so "link"]
def P_night_findings : List Str := [so "book", so "standing"]

def s1_night_findings : S := (.asg (.name 2) (.sub (.sub (.var 1) (.int 0)) (.sub (.var 1) (.int 1))))
def s2_night_findings : S := (.asg (.name 3) (.ite (.cmp .Eq (.call "done_at" (.cons (.var 0) (.cons (.var 1) .nil))) (.lst .nil)) (.lst (.cons (.tup (.cons (.str "nobody") (.cons (.str "") .nil))) .nil)) (.lst .nil)))
def B1_night_findings : Ss := (.cons (.ifS (.cmp .Eq (.sub (.sub (.var 1) (.int 4)) (.bm "tuple" (.fld (.var 0) "names") "index" (.cons (.var 4) .nil))) (.fld (.var 0) "cap")) (.cons (.expr (.bm "list" (.var 3) "append" (.cons (.tup (.cons (.str "over") (.cons (.var 4) .nil))) .nil)))
    .nil) .nil)
    .nil)
def s3_night_findings : S := (.forS (.name 4) (.val (.call "counted_at" (.cons (.var 0) (.cons (.var 1) .nil)))) B1_night_findings)
def s4_night_findings : S := (.asg (.name 5) (.sub (.call "chain_from" (.cons (.var 0) (.cons (.var 1) .nil))) (.int 1)))
def s5_night_findings : S := (.ifS (.andE (.cmp .IsNot (.var 5) .non) (.one (.cmp .Eq (.sub (.var 5) (.int 0)) (.var 2)))) (.cons (.expr (.bm "list" (.var 3) "append" (.cons (.tup (.cons (.str "ring") (.cons (.var 2) .nil))) .nil)))
    .nil) .nil)
def s6_night_findings : S := (.ret (.bin .Add (.var 3) (.ite (.cmp .Eq (.bi "len" (.cons (.call "must_at" (.cons (.var 0) (.cons (.var 1) .nil))) .nil)) (.int 2)) (.lst (.cons (.tup (.cons (.str "two") (.cons (.str "") .nil))) .nil)) (.lst .nil))))
def S_night_findings : Ss := (.cons s1_night_findings (.cons s2_night_findings (.cons s3_night_findings (.cons s4_night_findings (.cons s5_night_findings (.cons s6_night_findings .nil))))))
def N_findings_of : List Str := [so "book", so "standing", so "deed"]
def P_findings_of : List Str := [so "book", so "standing", so "deed"]

def S_findings_of : Ss := (.cons (.ret (.ite (.cmp .Eq (.sub (.var 2) (.int 0)) (.glo "NIGHT")) (.call "night_findings" (.cons (.var 0) (.cons (.var 1) .nil))) (.lst .nil)))
    .nil)
def N_ended : List Str := [so "book", so "lent", so "name", so "link"]
def P_ended : List Str := [so "book", so "lent", so "name"]

def T1_ended : E := (.cmp .IsNot (.var 2) .non)
def s1_ended : S := (.asg (.name 3) (.call "lent_by" (.cons (.var 0) (.cons (.var 1) (.cons (.var 2) .nil)))))
def s2_ended : S := (.asg (.name 1) (.call "put" (.cons (.var 1) (.cons (.bm "tuple" (.fld (.var 0) "names") "index" (.cons (.var 2) .nil)) (.cons .non .nil)))))
def s3_ended : S := (.asg (.name 2) (.ite (.andE (.cmp .IsNot (.var 3) .non) (.one (.cmp .Eq (.sub (.fld (.var 0) "parts") (.str "end")) (.str "falls")))) (.sub (.var 3) (.int 0)) .non))
def B2_ended : Ss := (.cons s1_ended (.cons s2_ended (.cons s3_ended .nil)))
def S_ended : Ss := (.cons (.whileS T1_ended B2_ended)
    (.cons (.ret (.var 1))
    .nil))
def N_counts_behind : List Str := [so "book", so "standing", so "counts", so "owner", so "name", so "index"]
def P_counts_behind : List Str := [so "book", so "standing"]

def s1_counts_behind : S := (.par2 2 3 (.sub (.var 1) (.int 4)) (.bm "tuple" (.fld (.var 0) "names") "index" (.cons (.sub (.sub (.var 1) (.int 0)) (.sub (.var 1) (.int 1))) .nil)))
def s3_counts_behind : S := (.asg (.name 5) (.bm "tuple" (.fld (.var 0) "names") "index" (.cons (.var 4) .nil)))
def s4_counts_behind : S := (.asg (.name 2) (.call "put" (.cons (.var 2) (.cons (.var 5) (.cons (.bi "min" (.cons (.fld (.var 0) "cap") (.cons (.bin .Add (.sub (.var 2) (.var 5)) (.int 1)) .nil))) .nil)))))
def s5_counts_behind : S := (.asg (.name 2) (.call "put" (.cons (.var 2) (.cons (.var 3) (.cons (.bi "max" (.cons (.neg (.fld (.var 0) "cap")) (.cons (.bin .Sub (.sub (.var 2) (.var 3)) (.int 1)) .nil))) .nil)))))
def B1_counts_behind : Ss := (.cons s3_counts_behind (.cons s4_counts_behind (.cons s5_counts_behind .nil)))
def s2_counts_behind : S := (.forS (.name 4) (.val (.call "counted_at" (.cons (.var 0) (.cons (.var 1) .nil)))) B1_counts_behind)
def s6_counts_behind : S := (.ret (.var 2))
def S_counts_behind : Ss := (.cons s1_counts_behind (.cons s2_counts_behind (.cons s6_counts_behind .nil)))
def N_a_day_less : List Str := [so "link"]
def P_a_day_less : List Str := [so "link"]

def S_a_day_less : Ss := (.cons (.ifS (.orE (.cmp .Is (.var 0) .non) (.one (.cmp .Eq (.sub (.var 0) (.int 1)) (.int 0)))) (.cons (.ret (.var 0))
    .nil) .nil)
    (.cons (.ret (.tup (.cons (.sub (.var 0) (.int 0)) (.cons (.ite (.cmp .Gt (.sub (.var 0) (.int 1)) (.int 1)) (.bin .Sub (.sub (.var 0) (.int 1)) (.int 1)) .non) .nil))))
    .nil))
def N_lent_behind : List Str := [so "book", so "lent", so "name", so "link"]
def P_lent_behind : List Str := [so "book", so "lent"]

def E1_lent_behind : E := (.call "a_day_less" (.cons (.var 3) .nil))
def s1_lent_behind : S := (.asg (.name 1) (.bi "tuple" (.cons (.lc E1_lent_behind (.name 3) (.val (.var 1)) .none [("link", 3)]) .nil)))
def B2_lent_behind : Ss := (.cons (.asg (.name 3) (.call "lent_by" (.cons (.var 0) (.cons (.var 1) (.cons (.var 2) .nil)))))
    (.cons (.ifS (.andE (.cmp .IsNot (.var 3) .non) (.one (.cmp .Is (.sub (.var 3) (.int 1)) .non))) (.cons (.asg (.name 1) (.call "ended" (.cons (.var 0) (.cons (.var 1) (.cons (.var 2) .nil)))))
    .nil) .nil)
    .nil))
def s2_lent_behind : S := (.forS (.name 2) (.val (.fld (.var 0) "names")) B2_lent_behind)
def s3_lent_behind : S := (.ret (.var 1))
def S_lent_behind : Ss := (.cons s1_lent_behind (.cons s2_lent_behind (.cons s3_lent_behind .nil)))
def N_behind_night : List Str := [so "book", so "standing", so "order", so "turn", so "away", so "lent", so "counts"]
def P_behind_night : List Str := [so "book", so "standing"]

def S_behind_night : Ss := (.cons (.asg (.tup (.cons (.name 2) (.cons (.name 3) (.cons (.name 4) (.cons (.name 5) (.cons (.name 6) .nil)))))) (.var 1))
    (.cons (.ret (.tup (.cons (.var 2) (.cons (.bin .Mod (.bin .Add (.var 3) (.int 1)) (.bi "len" (.cons (.var 2) .nil))) (.cons (.var 4) (.cons (.call "lent_behind" (.cons (.var 0) (.cons (.var 5) .nil))) (.cons (.call "counts_behind" (.cons (.var 0) (.cons (.var 1) .nil))) .nil)))))))
    .nil))
def N_swapped : List Str := [so "order", so "one", so "other", so "name"]
def P_swapped : List Str := [so "order", so "one", so "other"]

def E1_swapped : E := (.ite (.cmp .Eq (.var 3) (.var 1)) (.var 2) (.ite (.cmp .Eq (.var 3) (.var 2)) (.var 1) (.var 3)))
def S_swapped : Ss := (.cons (.ret (.bi "tuple" (.cons (.lc E1_swapped (.name 3) (.val (.var 0)) .none [("name", 3)]) .nil)))
    .nil)
def N_led_to : List Str := [so "book", so "standing", so "deed", so "order", so "turn", so "away", so "lent", so "counts", so "word", so "name", so "link", so "later", so "one"]
def P_led_to : List Str := [so "book", so "standing", so "deed"]

def s1_led_to : S := (.asg (.tup (.cons (.name 3) (.cons (.name 4) (.cons (.name 5) (.cons (.name 6) (.cons (.name 7) .nil)))))) (.var 1))
def s2_led_to : S := (.ifS (.cmp .Eq (.sub (.var 2) (.int 0)) (.glo "NIGHT")) (.cons (.ret (.call "behind_night" (.cons (.var 0) (.cons (.var 1) .nil))))
    .nil) .nil)
def s3_led_to : S := (.asg (.tup (.cons (.name 8) (.cons (.name 9) .nil))) (.slc (.var 2) .none (.some (.int 2))))
def s4_led_to : S := (.asg (.name 10) (.call "lent_by" (.cons (.var 0) (.cons (.var 6) (.cons (.var 9) .nil)))))
def B1_led_to : Ss := (.cons (.ret (.tup (.cons (.call "swapped" (.cons (.var 3) (.cons (.var 9) (.cons (.sub (.var 2) (.int 2)) .nil)))) (.cons (.var 4) (.cons (.var 5) (.cons (.var 6) (.cons (.var 7) .nil)))))))
    .nil)
def B2_led_to : Ss := (.cons (.ifS (.orE (.cmp .IsNot (.var 10) .non) (.one (.cmp .In (.sub (.var 2) (.int 2)) (.var 5)))) (.cons (.ret .non)
    .nil) .nil)
    (.cons (.ret (.tup (.cons (.var 3) (.cons (.var 4) (.cons (.var 5) (.cons (.call "put" (.cons (.var 6) (.cons (.bm "tuple" (.fld (.var 0) "names") "index" (.cons (.var 9) .nil)) (.cons (.slc (.var 2) (.some (.int 2)) .none) .nil)))) (.cons (.var 7) .nil)))))))
    .nil))
def s6_led_to : S := (.ifS (.cmp .NotIn (.var 9) (.var 5)) (.cons (.ret .non)
    .nil) .nil)
def s7_led_to : S := (.asg (.name 11) (.ite (.andE (.cmp .Eq (.sub (.fld (.var 0) "parts") (.str "back")) (.str "ends")) (.one (.cmp .IsNot (.var 10) .non))) (.call "ended" (.cons (.var 0) (.cons (.var 6) (.cons (.var 9) .nil)))) (.var 6)))
def T3_led_to : E := (.cmp .NotEq (.var 12) (.var 9))
def s8_led_to : S := (.ret (.tup (.cons (.var 3) (.cons (.var 4) (.cons (.bi "tuple" (.cons (.lc (.var 12) (.name 12) (.val (.var 5)) (.some T3_led_to) [("one", 12)]) .nil)) (.cons (.var 11) (.cons (.var 7) .nil)))))))
def B4_led_to : Ss := (.cons s6_led_to (.cons s7_led_to (.cons s8_led_to .nil)))
def B5_led_to : Ss := (.cons (.ret (.ite (.cmp .In (.var 9) (.var 5)) .non (.tup (.cons (.var 3) (.cons (.var 4) (.cons (.bi "tuple" (.cons (.bi "sorted" (.cons (.lst (.star (.var 5) (.cons (.var 9) .nil))) .nil)) .nil)) (.cons (.var 6) (.cons (.var 7) .nil))))))))
    .nil)
def s5_led_to : S := (.matchS (.var 8) (.cons "away" B5_led_to (.cons "back" B4_led_to (.cons "hand" B2_led_to (.cons "swap" B1_led_to .nil)))))
def s9_led_to : S := (.ifS (.cmp .Is (.var 10) .non) (.cons (.ret .non)
    .nil) .nil)
def s10_led_to : S := (.asg (.name 11) (.ite (.cmp .Eq (.var 8) (.glo "TAKE")) (.call "ended" (.cons (.var 0) (.cons (.var 6) (.cons (.var 9) .nil)))) (.call "put" (.cons (.var 6) (.cons (.bm "tuple" (.fld (.var 0) "names") "index" (.cons (.var 9) .nil)) (.cons .non .nil))))))
def s11_led_to : S := (.ret (.tup (.cons (.var 3) (.cons (.var 4) (.cons (.var 5) (.cons (.var 11) (.cons (.var 7) .nil)))))))
def S_led_to : Ss := (.cons s1_led_to (.cons s2_led_to (.cons s3_led_to (.cons s4_led_to (.cons s5_led_to (.cons s9_led_to (.cons s10_led_to (.cons s11_led_to .nil))))))))
def N_Record_init : List Str := [so "self", so "book"]
def P_Record_init : List Str := [so "self", so "book"]

def s1_Record_init : S := (.fld (.var 0) "source" (.var 1))
def s2_Record_init : S := (.fld (.var 0) "at" (.call "first_standing" (.cons (.var 1) .nil)))
def s3_Record_init : S := (.fld (.var 0) "row" (.lst .nil))
def s4_Record_init : S := (.fld (.var 0) "acts" (.lst .nil))
def s5_Record_init : S := (.fld (.var 0) "told" (.lst .nil))
def s6_Record_init : S := (.fld (.var 0) "nights" (.int 0))
def s7_Record_init : S := (.fld (.var 0) "able_now" (.call "must_at" (.cons (.var 1) (.cons (.fld (.var 0) "at") .nil))))
def S_Record_init : Ss := (.cons s1_Record_init (.cons s2_Record_init (.cons s3_Record_init (.cons s4_Record_init (.cons s5_Record_init (.cons s6_Record_init (.cons s7_Record_init .nil)))))))
def N_Record_standing : List Str := [so "self"]
def P_Record_standing : List Str := [so "self"]

def S_Record_standing : Ss := (.cons (.ret (.fld (.var 0) "at"))
    .nil)
def N_Record_must : List Str := [so "self"]
def P_Record_must : List Str := [so "self"]

def S_Record_must : Ss := (.cons (.ret (.bi "list" (.cons (.fld (.var 0) "able_now") .nil)))
    .nil)
def N_Record_done : List Str := [so "self"]
def P_Record_done : List Str := [so "self"]

def S_Record_done : Ss := (.cons (.ret (.bi "list" (.cons (.fld (.var 0) "acts") .nil)))
    .nil)
def N_Record_found : List Str := [so "self"]
def P_Record_found : List Str := [so "self"]

def S_Record_found : Ss := (.cons (.ret (.bi "list" (.cons (.fld (.var 0) "told") .nil)))
    .nil)
def N_Record_take_in : List Str := [so "self", so "deed", so "later", so "found", so "finding", so "name"]
def P_Record_take_in : List Str := [so "self", so "deed", so "later"]

def s1_Record_take_in : S := (.asg (.name 3) (.call "findings_of" (.cons (.fld (.var 0) "source") (.cons (.fld (.var 0) "at") (.cons (.var 1) .nil)))))
def s2_Record_take_in : S := (.expr (.bm "list" (.fld (.var 0) "row") "append" (.cons (.var 1) .nil)))
def E1_Record_take_in : E := (.tup (.cons (.bi "len" (.cons (.fld (.var 0) "row") .nil)) (.cons (.var 4) .nil)))
def s3_Record_take_in : S := (.expr (.bm "list" (.fld (.var 0) "told") "extend" (.cons (.lc E1_Record_take_in (.name 4) (.val (.var 3)) .none [("finding", 4)]) .nil)))
def E2_Record_take_in : E := (.tup (.cons (.fld (.var 0) "nights") (.cons (.var 5) .nil)))
def s4_Record_take_in : S := (.ifS (.cmp .Eq (.sub (.var 1) (.int 0)) (.glo "NIGHT")) (.cons (.expr (.bm "list" (.fld (.var 0) "acts") "extend" (.cons (.lc E2_Record_take_in (.name 5) (.val (.call "done_at" (.cons (.fld (.var 0) "source") (.cons (.fld (.var 0) "at") .nil)))) .none [("name", 5)]) .nil)))
    (.cons (.augF (.var 0) "nights" .Add (.int 1))
    .nil)) .nil)
def s5_Record_take_in : S := (.fld (.var 0) "at" (.var 2))
def s6_Record_take_in : S := (.fld (.var 0) "able_now" (.call "must_at" (.cons (.fld (.var 0) "source") (.cons (.var 2) .nil))))
def s7_Record_take_in : S := (.ret (.var 3))
def S_Record_take_in : Ss := (.cons s1_Record_take_in (.cons s2_Record_take_in (.cons s3_Record_take_in (.cons s4_Record_take_in (.cons s5_Record_take_in (.cons s6_Record_take_in (.cons s7_Record_take_in .nil)))))))
def N_replay : List Str := [so "book", so "deeds", so "record", so "index", so "deed", so "later"]
def P_replay : List Str := [so "book", so "deeds"]

def s1_replay : S := (.asg (.name 2) (.mk "Record" (.cons (.var 0) .nil)))
def s3_replay : S := (.asg (.name 5) (.ite (.tv (.call "is_deed" (.cons (.var 0) (.cons (.var 4) .nil)))) (.call "led_to" (.cons (.var 0) (.cons (.fld (.var 2) "at") (.cons (.var 4) .nil)))) .non))
def s4_replay : S := (.ifS (.cmp .Is (.var 5) .non) (.cons (.raise "BadDeed" (.cons (.var 3) .nil))
    .nil) .nil)
def s5_replay : S := (.expr (.meth (.var 2) "take_in" (.cons (.var 4) (.cons (.var 5) .nil))))
def B1_replay : Ss := (.cons s3_replay (.cons s4_replay (.cons s5_replay .nil)))
def s2_replay : S := (.forS (.tup (.cons (.name 3) (.cons (.name 4) .nil))) (.enum (.var 1)) B1_replay)
def s6_replay : S := (.ret (.var 2))
def S_replay : Ss := (.cons s1_replay (.cons s2_replay (.cons s6_replay .nil)))
def N_far : List Str := [so "record", so "days", so "book", so "standing", so "known", so "row", so "first", so "index"]
def P_far : List Str := [so "record", so "days"]

def s1_far : S := (.ifS (.orE (.notE (.tv (.call "is_integer" (.cons (.var 1) .nil)))) (.one (.cmp .Lt (.var 1) (.int 0)))) (.cons (.raise "BadDays" .nil)
    .nil) .nil)
def s2_far : S := (.asg (.tup (.cons (.name 2) (.cons (.name 3) (.cons (.name 4) (.cons (.name 5) .nil))))) (.tup (.cons (.fld (.var 0) "source") (.cons (.fld (.var 0) "at") (.cons (.dct .nil) (.cons (.lst .nil) .nil))))))
def T1_far : E := (.cmp .NotIn (.var 3) (.var 4))
def s4_far : S := (.asg (.sub (.var 4) (.var 3)) (.bi "len" (.cons (.var 5) .nil)))
def s5_far : S := (.expr (.bm "list" (.var 5) "append" (.cons (.var 3) .nil)))
def s6_far : S := (.asg (.name 3) (.call "behind_night" (.cons (.var 2) (.cons (.var 3) .nil))))
def B2_far : Ss := (.cons s4_far (.cons s5_far (.cons s6_far .nil)))
def s3_far : S := (.whileS T1_far B2_far)
def s7_far : S := (.asg (.name 6) (.sub (.var 4) (.var 3)))
def s8_far : S := (.asg (.name 7) (.ite (.cmp .Lt (.var 1) (.bi "len" (.cons (.var 5) .nil))) (.var 1) (.bin .Add (.var 6) (.bin .Mod (.bin .Sub (.var 1) (.var 6)) (.bin .Sub (.bi "len" (.cons (.var 5) .nil)) (.var 6))))))
def s9_far : S := (.ret (.call "must_at" (.cons (.var 2) (.cons (.sub (.var 5) (.var 7)) .nil))))
def S_far : Ss := (.cons s1_far (.cons s2_far (.cons s3_far (.cons s7_far (.cons s8_far (.cons s9_far .nil))))))
def N_Reach_init : List Str := [so "self", so "book", so "start", so "aim", so "waiting", so "at", so "standing", so "deed", so "later"]
def P_Reach_init : List Str := [so "self", so "book", so "start", so "aim"]

def s1_Reach_init : S := (.fld (.var 0) "source" (.var 1))
def s2_Reach_init : S := (.fld (.var 0) "able" (.call "deeds_of" (.cons (.var 1) .nil)))
def s3_Reach_init : S := (.fld (.var 0) "rows" (.dctK (.cons (.var 2) (.tup .nil) .nil)))
def s4_Reach_init : S := (.fld (.var 0) "aim" (.var 3))
def s5_Reach_init : S := (.fld (.var 0) "aimed" .non)
def s6_Reach_init : S := (.fld (.var 0) "first_rows" (.dct .nil))
def s7_Reach_init : S := (.par2 4 5 (.lst (.cons (.var 2) .nil)) (.int 0))
def T1_Reach_init : E := (.andE (.cmp .Lt (.var 5) (.bi "len" (.cons (.var 4) .nil))) (.one (.cmp .Is (.fld (.var 0) "aimed") .non)))
def s9_Reach_init : S := (.asg (.name 6) (.sub (.var 4) (.var 5)))
def s10_Reach_init : S := (.aug 5 .Add (.int 1))
def B2_Reach_init : Ss := (.cons (.expr (.meth (.var 0) "note" (.cons (.var 6) (.cons (.var 7) .nil))))
    (.cons (.ifS (.cmp .NotIn (.var 8) (.fld (.var 0) "rows")) (.cons (.asg (.sub (.fld (.var 0) "rows") (.var 8)) (.tup (.star (.sub (.fld (.var 0) "rows") (.var 6)) (.cons (.var 7) .nil))))
    (.cons (.expr (.bm "list" (.var 4) "append" (.cons (.var 8) .nil)))
    .nil)) .nil)
    .nil))
def s11_Reach_init : S := (.forS (.tup (.cons (.name 7) (.cons (.name 8) .nil))) (.val (.meth (.var 0) "moves" (.cons (.var 6) .nil))) B2_Reach_init)
def B3_Reach_init : Ss := (.cons s9_Reach_init (.cons s10_Reach_init (.cons s11_Reach_init .nil)))
def s8_Reach_init : S := (.whileS T1_Reach_init B3_Reach_init)
def S_Reach_init : Ss := (.cons s1_Reach_init (.cons s2_Reach_init (.cons s3_Reach_init (.cons s4_Reach_init (.cons s5_Reach_init (.cons s6_Reach_init (.cons s7_Reach_init (.cons s8_Reach_init .nil))))))))
def N_Reach_note : List Str := [so "self", so "standing", so "deed", so "finding"]
def P_Reach_note : List Str := [so "self", so "standing", so "deed"]

def B1_Reach_note : Ss := (.cons (.ifS (.cmp .NotIn (.var 3) (.fld (.var 0) "first_rows")) (.cons (.asg (.sub (.fld (.var 0) "first_rows") (.var 3)) (.tup (.star (.sub (.fld (.var 0) "rows") (.var 1)) (.cons (.var 2) .nil))))
    .nil) .nil)
    (.cons (.ifS (.andE (.cmp .Eq (.var 3) (.fld (.var 0) "aim")) (.one (.cmp .Is (.fld (.var 0) "aimed") .non))) (.cons (.fld (.var 0) "aimed" (.tup (.star (.sub (.fld (.var 0) "rows") (.var 1)) (.cons (.var 2) .nil))))
    .nil) .nil)
    .nil))
def S_Reach_note : Ss := (.cons (.forS (.name 3) (.val (.call "findings_of" (.cons (.fld (.var 0) "source") (.cons (.var 1) (.cons (.var 2) .nil))))) B1_Reach_note)
    .nil)
def N_Reach_moves : List Str := [so "self", so "standing", so "found", so "deed", so "later"]
def P_Reach_moves : List Str := [so "self", so "standing"]

def T1_Reach_moves : E := (.cmp .IsNot (.var 4) .non)
def E2_Reach_moves : E := (.tup (.cons (.var 3) (.cons (.var 4) .nil)))
def E3_Reach_moves : E := (.tup (.cons (.var 3) (.cons (.call "led_to" (.cons (.fld (.var 0) "source") (.cons (.var 1) (.cons (.var 3) .nil)))) .nil)))
def S_Reach_moves : Ss := (.cons (.setl 2 E3_Reach_moves (.name 3) (.val (.fld (.var 0) "able")) .none [("deed", 3)])
    (.cons (.ret (.lc E2_Reach_moves (.tup (.cons (.name 3) (.cons (.name 4) .nil))) (.val (.var 2)) (.some T1_Reach_moves) [("deed", 3), ("later", 4)]))
    .nil))
def N_reach_of : List Str := [so "book"]
def P_reach_of : List Str := [so "book"]

def S_reach_of : Ss := (.cons (.ret (.mk "Reach" (.cons (.var 0) (.cons (.call "first_standing" (.cons (.var 0) .nil)) (.cons .non .nil)))))
    .nil)
def N_findings : List Str := [so "book"]
def P_findings : List Str := [so "book"]

def S_findings : Ss := (.cons (.ret (.bi "sorted" (.cons (.fld (.call "reach_of" (.cons (.var 0) .nil)) "first_rows") .nil)))
    .nil)
def N_least : List Str := [so "book", so "finding", so "part"]
def P_least : List Str := [so "book", so "finding"]

def E1_least : E := (.isi (.var 2) "str")
def S_least : Ss := (.cons (.ifS (.orE (.notE (.tv (.isi (.var 1) "tuple"))) (.one (.notE (.tv (.bi "all" (.cons (.lc E1_least (.name 2) (.val (.var 1)) .none [("part", 2)]) .nil)))))) (.cons (.ret .non)
    .nil) .nil)
    (.cons (.ret (.fld (.mk "Reach" (.cons (.var 0) (.cons (.call "first_standing" (.cons (.var 0) .nil)) (.cons (.var 1) .nil)))) "aimed"))
    .nil))
def N_standings : List Str := [so "book"]
def P_standings : List Str := [so "book"]

def S_standings : Ss := (.cons (.ret (.bi "len" (.cons (.fld (.call "reach_of" (.cons (.var 0) .nil)) "rows") .nil)))
    .nil)
def N_can_must : List Str := [so "book", so "found", so "standing", so "row", so "names"]
def P_can_must : List Str := [so "book"]

def s1_can_must : S := (.asg (.name 1) (.dct .nil))
def B1_can_must : Ss := (.cons (.expr (.bm "dict" (.var 1) "setdefault" (.cons (.bi "tuple" (.cons (.call "must_at" (.cons (.var 0) (.cons (.var 2) .nil))) .nil)) (.cons (.var 3) .nil))))
    .nil)
def s2_can_must : S := (.forS (.tup (.cons (.name 2) (.cons (.name 3) .nil))) (.items (.fld (.call "reach_of" (.cons (.var 0) .nil)) "rows")) B1_can_must)
def E2_can_must : E := (.sub (.var 1) (.var 4))
def s3_can_must : S := (.ret (.dc (.var 4) E2_can_must (.name 4) (.val (.bi "sorted" (.cons (.var 1) .nil))) .none [("names", 4)]))
def S_can_must : Ss := (.cons s1_can_must (.cons s2_can_must (.cons s3_can_must .nil)))
def N_both_ways : List Str := [so "book", so "standing", so "one", so "other", so "found", so "first", so "second", so "later", so "last"]
def P_both_ways : List Str := [so "book", so "standing", so "one", so "other"]

def s1_both_ways : S := (.asg (.name 4) (.lst .nil))
def s3_both_ways : S := (.asg (.name 7) (.call "led_to" (.cons (.var 0) (.cons (.var 1) (.cons (.var 5) .nil)))))
def s4_both_ways : S := (.asg (.name 8) (.ite (.cmp .Is (.var 7) .non) .non (.call "led_to" (.cons (.var 0) (.cons (.var 7) (.cons (.var 6) .nil))))))
def s5_both_ways : S := (.ifS (.cmp .Is (.var 8) .non) (.cons (.ret (.bl false))
    .nil) .nil)
def s6_both_ways : S := (.expr (.bm "list" (.var 4) "append" (.cons (.var 8) .nil)))
def B1_both_ways : Ss := (.cons s3_both_ways (.cons s4_both_ways (.cons s5_both_ways (.cons s6_both_ways .nil))))
def s2_both_ways : S := (.forS (.tup (.cons (.name 5) (.cons (.name 6) .nil))) (.val (.tup (.cons (.tup (.cons (.var 2) (.cons (.var 3) .nil))) (.cons (.tup (.cons (.var 3) (.cons (.var 2) .nil))) .nil)))) B1_both_ways)
def s7_both_ways : S := (.ret (.cmp .NotEq (.sub (.var 4) (.int 0)) (.sub (.var 4) (.int 1))))
def S_both_ways : Ss := (.cons s1_both_ways (.cons s2_both_ways (.cons s7_both_ways .nil)))
def N_first_apart : List Str := [so "book", so "rows", so "one", so "other", so "standing", so "row"]
def P_first_apart : List Str := [so "book", so "rows", so "one", so "other"]

def B1_first_apart : Ss := (.cons (.ifS (.tv (.call "both_ways" (.cons (.var 0) (.cons (.var 4) (.cons (.var 2) (.cons (.var 3) .nil)))))) (.cons (.ret (.var 5))
    .nil) .nil)
    .nil)
def S_first_apart : Ss := (.cons (.forS (.tup (.cons (.name 4) (.cons (.name 5) .nil))) (.items (.var 1)) B1_first_apart)
    (.cons (.ret .non)
    .nil))
def N_apart : List Str := [so "book", so "one", so "other", so "deed"]
def P_apart : List Str := [so "book", so "one", so "other"]

def B1_apart : Ss := (.cons (.ifS (.notE (.tv (.call "is_deed" (.cons (.var 0) (.cons (.var 3) .nil))))) (.cons (.raise "UnknownDeed" (.cons (.var 3) .nil))
    .nil) .nil)
    .nil)
def S_apart : Ss := (.cons (.forS (.name 3) (.val (.tup (.cons (.var 1) (.cons (.var 2) .nil)))) B1_apart)
    (.cons (.ret (.call "first_apart" (.cons (.var 0) (.cons (.fld (.call "reach_of" (.cons (.var 0) .nil)) "rows") (.cons (.var 1) (.cons (.var 2) .nil))))))
    .nil))
def N_Board_init : List Str := [so "self", so "book"]
def P_Board_init : List Str := [so "self", so "book"]

def s1_Board_init : S := (.fld (.var 0) "source" (.var 1))
def s2_Board_init : S := (.fld (.var 0) "row" (.lst .nil))
def s3_Board_init : S := (.fld (.var 0) "now_record" (.call "replay" (.cons (.var 1) (.cons (.tup .nil) .nil))))
def S_Board_init : Ss := (.cons s1_Board_init (.cons s2_Board_init (.cons s3_Board_init .nil)))
def N_Board_to_free : List Str := [so "self", so "name", so "layer", so "rows", so "following", so "standing", so "deed", so "later"]
def P_Board_to_free : List Str := [so "self", so "name"]

def s1_Board_to_free : S := (.ifS (.notE (.tv (.call "is_one_of" (.cons (.var 1) (.cons (.fld (.fld (.var 0) "source") "names") .nil))))) (.cons (.raise "UnknownPerson" (.cons (.var 1) .nil))
    .nil) .nil)
def s2_Board_to_free : S := (.asg (.name 2) (.lst (.cons (.fld (.fld (.var 0) "now_record") "at") .nil)))
def s3_Board_to_free : S := (.asg (.name 3) (.dctK (.cons (.sub (.var 2) (.int 0)) (.tup .nil) .nil)))
def T1_Board_to_free : E := (.cmp .NotEq (.var 2) (.lst .nil))
def s5_Board_to_free : S := (.asg (.name 4) (.lst .nil))
def B2_Board_to_free : Ss := (.cons (.asg (.name 7) (.call "led_to" (.cons (.fld (.var 0) "source") (.cons (.var 5) (.cons (.var 6) .nil)))))
    (.cons (.ifS (.andE (.cmp .IsNot (.var 7) .non) (.one (.cmp .NotIn (.var 7) (.var 3)))) (.cons (.asg (.sub (.var 3) (.var 7)) (.tup (.star (.sub (.var 3) (.var 5)) (.cons (.var 6) .nil))))
    (.cons (.expr (.bm "list" (.var 4) "append" (.cons (.var 7) .nil)))
    .nil)) .nil)
    .nil))
def B3_Board_to_free : Ss := (.cons (.ifS (.cmp .NotIn (.var 1) (.call "must_at" (.cons (.fld (.var 0) "source") (.cons (.var 5) .nil)))) (.cons (.ret (.sub (.var 3) (.var 5)))
    .nil) .nil)
    (.cons (.forS (.name 6) (.val (.call "deeds_of" (.cons (.fld (.var 0) "source") .nil))) B2_Board_to_free)
    .nil))
def s6_Board_to_free : S := (.forS (.name 5) (.val (.var 2)) B3_Board_to_free)
def s7_Board_to_free : S := (.asg (.name 2) (.var 4))
def B4_Board_to_free : Ss := (.cons s5_Board_to_free (.cons s6_Board_to_free (.cons s7_Board_to_free .nil)))
def s4_Board_to_free : S := (.whileS T1_Board_to_free B4_Board_to_free)
def s8_Board_to_free : S := (.ret .non)
def S_Board_to_free : Ss := (.cons s1_Board_to_free (.cons s2_Board_to_free (.cons s3_Board_to_free (.cons s4_Board_to_free (.cons s8_Board_to_free .nil)))))
def N_paper : List Str := [so "book", so "finding", so "row"]
def P_paper : List Str := [so "book", so "finding"]

def s1_paper : S := (.asg (.name 2) (.call "least" (.cons (.var 0) (.cons (.var 1) .nil))))
def s2_paper : S := (.ifS (.cmp .IsNot (.var 2) .non) (.cons (.raise "Possible" (.cons (.var 2) .nil))
    .nil) .nil)
def s3_paper : S := (.ret (.bi "sorted" (.cons (.bi "list" (.cons (.fld (.call "reach_of" (.cons (.var 0) .nil)) "rows") .nil)) .nil)))
def S_paper : Ss := (.cons s1_paper (.cons s2_paper (.cons s3_paper .nil)))
def N_check_both : List Str := [so "one", so "other"]
def P_check_both : List Str := [so "one", so "other"]

def S_check_both : Ss := (.cons (.ifS (.orE (.cmp .NotEq (.fld (.var 0) "turns") (.fld (.var 1) "turns")) (.one (.cmp .NotEq (.fld (.var 0) "told_words") (.fld (.var 1) "told_words")))) (.cons (.raise "NotComparable" .nil)
    .nil) .nil)
    (.cons (.ifS (.orE (.cmp .NotEq (.fld (.var 0) "open_days") (.fld (.var 1) "open_days")) (.one (.cmp .NotEq (.fld (.var 0) "cap") (.fld (.var 1) "cap")))) (.cons (.raise "NotComparable" .nil)
    .nil) .nil)
    .nil))
def N_parting : List Str := [so "one", so "other", so "start", so "rows", so "waiting", so "at", so "pair", so "deed", so "left", so "right"]
def P_parting : List Str := [so "one", so "other"]

def s1_parting : S := (.expr (.call "check_both" (.cons (.var 0) (.cons (.var 1) .nil))))
def s2_parting : S := (.asg (.name 2) (.tup (.cons (.call "first_standing" (.cons (.var 0) .nil)) (.cons (.call "first_standing" (.cons (.var 1) .nil)) .nil))))
def s3_parting : S := (.par3 3 4 5 (.dctK (.cons (.var 2) (.tup .nil) .nil)) (.lst (.cons (.var 2) .nil)) (.int 0))
def T1_parting : E := (.cmp .Lt (.var 5) (.bi "len" (.cons (.var 4) .nil)))
def s5_parting : S := (.asg (.name 6) (.sub (.var 4) (.var 5)))
def s6_parting : S := (.aug 5 .Add (.int 1))
def s7_parting : S := (.ifS (.cmp .NotEq (.call "must_at" (.cons (.var 0) (.cons (.sub (.var 6) (.int 0)) .nil))) (.call "must_at" (.cons (.var 1) (.cons (.sub (.var 6) (.int 1)) .nil)))) (.cons (.ret (.sub (.var 3) (.var 6)))
    .nil) .nil)
def B2_parting : Ss := (.cons (.par2 8 9 (.call "led_to" (.cons (.var 0) (.cons (.sub (.var 6) (.int 0)) (.cons (.var 7) .nil)))) (.call "led_to" (.cons (.var 1) (.cons (.sub (.var 6) (.int 1)) (.cons (.var 7) .nil)))))
    (.cons (.ifS (.andE (.cmp .IsNot (.var 8) .non) (.andE (.cmp .IsNot (.var 9) .non) (.one (.cmp .NotIn (.tup (.cons (.var 8) (.cons (.var 9) .nil))) (.var 3))))) (.cons (.asg (.sub (.var 3) (.tup (.cons (.var 8) (.cons (.var 9) .nil)))) (.tup (.star (.sub (.var 3) (.var 6)) (.cons (.var 7) .nil))))
    (.cons (.expr (.bm "list" (.var 4) "append" (.cons (.tup (.cons (.var 8) (.cons (.var 9) .nil))) .nil)))
    .nil)) .nil)
    .nil))
def s8_parting : S := (.forS (.name 7) (.val (.call "deeds_of" (.cons (.var 0) .nil))) B2_parting)
def B3_parting : Ss := (.cons s5_parting (.cons s6_parting (.cons s7_parting (.cons s8_parting .nil))))
def s4_parting : S := (.whileS T1_parting B3_parting)
def s9_parting : S := (.ret .non)
def S_parting : Ss := (.cons s1_parting (.cons s2_parting (.cons s3_parting (.cons s4_parting (.cons s9_parting .nil)))))
def N_alike : List Str := [so "one", so "other"]
def P_alike : List Str := [so "one", so "other"]

def S_alike : Ss := (.cons (.ret (.cmp .Is (.call "parting" (.cons (.var 0) (.cons (.var 1) .nil))) .non))
    .nil)
def N_sets_of : List Str := [so "book", so "names", so "many", so "found", so "at", so "part", so "word", so "rest"]
def P_sets_of : List Str := [so "book", so "names", so "many"]

def s1_sets_of : S := (.ifS (.cmp .Eq (.var 2) (.int 0)) (.cons (.ret (.lst (.cons (.tup .nil) .nil)))
    .nil) .nil)
def s2_sets_of : S := (.asg (.name 3) (.lst .nil))
def E1_sets_of : E := (.tup (.cons (.tup (.cons (.var 5) (.cons (.var 6) .nil))) (.star (.var 7) .nil)))
def B2_sets_of : Ss := (.cons (.ifS (.cmp .NotEq (.var 6) (.sub (.fld (.var 0) "parts") (.var 5))) (.cons (.expr (.bm "list" (.var 3) "extend" (.cons (.lc E1_sets_of (.name 7) (.val (.call "sets_of" (.cons (.var 0) (.cons (.slc (.var 1) (.some (.bin .Add (.var 4) (.int 1))) .none) (.cons (.bin .Sub (.var 2) (.int 1)) .nil))))) .none [("rest", 7)]) .nil)))
    .nil) .nil)
    .nil)
def B3_sets_of : Ss := (.cons (.forS (.name 6) (.val (.sub (.glo "RULES") (.var 5))) B2_sets_of)
    .nil)
def s3_sets_of : S := (.forS (.tup (.cons (.name 4) (.cons (.name 5) .nil))) (.enum (.var 1)) B3_sets_of)
def s4_sets_of : S := (.ret (.var 3))
def S_sets_of : Ss := (.cons s1_sets_of (.cons s2_sets_of (.cons s3_sets_of (.cons s4_sets_of .nil))))
def N_is_free : List Str := [so "book", so "changes", so "kinds", so "part", so "word", so "finding"]
def P_is_free : List Str := [so "book", so "changes", so "kinds"]

def E1_is_free : E := (.cmp .In (.sub (.var 5) (.int 0)) (.var 2))
def B2_is_free : Ss := (.cons (.asg (.name 0) (.meth (.var 0) "changed" (.cons (.var 3) (.cons (.var 4) .nil))))
    .nil)
def S_is_free : Ss := (.cons (.forS (.tup (.cons (.name 3) (.cons (.name 4) .nil))) (.val (.var 1)) B2_is_free)
    (.cons (.ret (.notE (.bi "any" (.cons (.lc E1_is_free (.name 5) (.val (.fld (.call "reach_of" (.cons (.var 0) .nil)) "first_rows")) .none [("finding", 5)]) .nil))))
    .nil))
def N_mends : List Str := [so "book", so "kinds", so "index", so "kind", so "many", so "found", so "some"]
def P_mends : List Str := [so "book", so "kinds"]

def B1_mends : Ss := (.cons (.ifS (.orE (.notE (.tv (.isi (.var 3) "str"))) (.one (.cmp .NotIn (.var 3) (.glo "KINDS")))) (.cons (.raise "UnknownKind" (.cons (.var 2) .nil))
    .nil) .nil)
    .nil)
def s1_mends : S := (.forS (.tup (.cons (.name 2) (.cons (.name 3) .nil))) (.enum (.var 1)) B1_mends)
def T2_mends : E := (.tv (.call "is_free" (.cons (.var 0) (.cons (.var 6) (.cons (.var 1) .nil)))))
def B3_mends : Ss := (.cons (.setl 5 (.var 6) (.name 6) (.val (.call "sets_of" (.cons (.var 0) (.cons (.bi "list" (.cons (.glo "RULES") .nil)) (.cons (.var 4) .nil))))) (.some T2_mends) [("some", 6)])
    (.cons (.ifS (.cmp .NotEq (.var 5) (.lst .nil)) (.cons (.ret (.bi "sorted" (.cons (.var 5) .nil)))
    .nil) .nil)
    .nil))
def s2_mends : S := (.forS (.name 4) (.rng1 (.bin .Add (.bi "len" (.cons (.glo "RULES") .nil)) (.int 1))) B3_mends)
def s3_mends : S := (.ret (.lst .nil))
def S_mends : Ss := (.cons s1_mends (.cons s2_mends (.cons s3_mends .nil)))
def N_law_draws : List Str := [so "_law_script"]
def P_law_draws : List Str := [so "_law_script"]

def S_law_draws : Ss := (.cons (.ret (.lst (.cons (.bi "list" (.cons (.var 0) .nil)) (.cons (.int 0) (.cons (.int 0) (.cons (.int 7) .nil))))))
    .nil)
def N_law_pick : List Str := [so "_law_row", so "_law_many", so "_law_cell", so "_law_found"]
def P_law_pick : List Str := [so "_law_row", so "_law_many"]

def s1_law_pick : S := (.ifS (.cmp .Eq (.sub (.var 0) (.int 2)) (.int 0)) (.cons (.ifS (.cmp .Lt (.sub (.var 0) (.int 1)) (.bi "len" (.cons (.sub (.var 0) (.int 0)) .nil))) (.cons (.asg (.name 2) (.sub (.sub (.var 0) (.int 0)) (.sub (.var 0) (.int 1))))
    (.cons (.asg (.sub (.var 0) (.int 1)) (.bin .Add (.sub (.var 0) (.int 1)) (.int 1)))
    (.cons (.ifS (.cmp .GtE (.var 2) (.bin .Pow (.int 10) (.int 18))) (.cons (.asg (.sub (.var 0) (.int 2)) (.var 2))
    .nil) (.cons (.asg (.sub (.var 0) (.int 3)) (.bin .Mod (.bi "int" (.cons (.bin .Add (.bin .Add (.bin .Mult (.sub (.var 0) (.int 3)) (.int 48271)) (.bin .Mult (.var 2) (.int 69621))) (.int 11)) .nil)) (.int 2147483647)))
    .nil))
    .nil))) (.cons (.asg (.sub (.var 0) (.int 3)) (.bin .Mod (.bi "int" (.cons (.bin .Add (.bin .Mult (.sub (.var 0) (.int 3)) (.int 48271)) (.int 7)) .nil)) (.int 2147483647)))
    .nil))
    .nil) .nil)
def s2_law_pick : S := (.ifS (.cmp .Gt (.sub (.var 0) (.int 2)) (.int 0)) (.cons (.asg (.name 3) (.bin .Mod (.bi "int" (.cons (.sub (.var 0) (.int 2)) .nil)) (.var 1)))
    (.cons (.asg (.sub (.var 0) (.int 2)) (.bin .FloorDiv (.sub (.var 0) (.int 2)) (.var 1)))
    (.cons (.ret (.var 3))
    .nil))) .nil)
def s3_law_pick : S := (.ret (.bin .Mod (.bin .Mod (.bi "int" (.cons (.bin .Mult (.sub (.var 0) (.int 3)) (.int 16807)) .nil)) (.int 2147483629)) (.var 1)))
def S_law_pick : Ss := (.cons s1_law_pick (.cons s2_law_pick (.cons s3_law_pick .nil)))
def N_law_parts : List Str := [so "_law_found"]
def P_law_parts : List Str := []

def S_law_parts : Ss := (.cons (.asg (.name 0) (.lst (.cons (.tup (.cons (.str "back") (.cons (.lst (.cons (.str "both") (.cons (.str "ends") (.cons (.str "stays") .nil)))) .nil))) (.cons (.tup (.cons (.str "count") (.cons (.lst (.cons (.str "all") (.cons (.str "direct") (.cons (.str "handed") .nil)))) .nil))) .nil))))
    (.cons (.ret (.bin .Add (.var 0) (.lst (.cons (.tup (.cons (.str "end") (.cons (.lst (.cons (.str "falls") (.cons (.str "stays") .nil))) .nil))) (.cons (.tup (.cons (.str "gap") (.cons (.lst (.cons (.str "next") (.cons (.str "none") (.cons (.str "owner") .nil)))) .nil))) .nil)))))
    .nil))
def N_law_rule : List Str := [so "_law_row", so "_law_found", so "_law_part", so "_law_words"]
def P_law_rule : List Str := [so "_law_row"]

def s1_law_rule : S := (.asg (.name 1) (.dct .nil))
def B1_law_rule : Ss := (.cons (.asg (.sub (.var 1) (.var 2)) (.sub (.var 3) (.call "_law_pick" (.cons (.var 0) (.cons (.bi "len" (.cons (.var 3) .nil)) .nil)))))
    .nil)
def s2_law_rule : S := (.forS (.tup (.cons (.name 2) (.cons (.name 3) .nil))) (.val (.call "_law_parts" .nil)) B1_law_rule)
def s3_law_rule : S := (.ret (.var 1))
def S_law_rule : Ss := (.cons s1_law_rule (.cons s2_law_rule (.cons s3_law_rule .nil)))
def N_law_people : List Str := [so "_law_row", so "_law_many", so "_law_names"]
def P_law_people : List Str := [so "_law_row", so "_law_many"]

def s1_law_people : S := (.asg (.name 2) (.slc (.lst (.cons (.str "ann") (.cons (.str "bo") (.cons (.str "cy") .nil)))) .none (.some (.var 1))))
def s2_law_people : S := (.ifS (.cmp .Eq (.call "_law_pick" (.cons (.var 0) (.cons (.int 2) .nil))) (.int 0)) (.cons (.expr (.bm "list" (.var 2) "reverse" .nil))
    .nil) .nil)
def s3_law_people : S := (.ifS (.cmp .Eq (.call "_law_pick" (.cons (.var 0) (.cons (.int 2) .nil))) (.int 0)) (.cons (.asg (.name 2) (.bin .Add (.slc (.var 2) (.some (.int 1)) .none) (.slc (.var 2) .none (.some (.int 1)))))
    .nil) .nil)
def s4_law_people : S := (.ret (.bi "tuple" (.cons (.var 2) .nil)))
def S_law_people : Ss := (.cons s1_law_people (.cons s2_law_people (.cons s3_law_people (.cons s4_law_people .nil))))
def N_law_drawn : List Str := [so "_law_row", so "_law_many", so "_law_longest", so "_law_most", so "_law_t", so "_law_word"]
def P_law_drawn : List Str := [so "_law_row", so "_law_many", so "_law_longest", so "_law_most"]

def s1_law_drawn : S := (.asg (.name 4) (.dct (.cons (.str "people") (.call "_law_people" (.cons (.var 0) (.cons (.bin .Add (.int 2) (.call "_law_pick" (.cons (.var 0) (.cons (.bin .Sub (.var 1) (.int 1)) .nil)))) .nil))) (.cons (.str "longest") (.call "_law_pick" (.cons (.var 0) (.cons (.bin .Add (.var 2) (.int 1)) .nil))) .nil))))
def s2_law_drawn : S := (.asg (.tup (.cons (.sub (.var 4) (.str "most")) (.cons (.sub (.var 4) (.str "rule")) .nil))) (.tup (.cons (.call "_law_pick" (.cons (.var 0) (.cons (.bin .Add (.var 3) (.int 1)) .nil))) (.cons (.call "_law_rule" (.cons (.var 0) .nil)) .nil))))
def T1_law_drawn : E := (.cmp .Gt (.call "_law_pick" (.cons (.var 0) (.cons (.int 4) .nil))) (.int 0))
def s3_law_drawn : S := (.asg (.sub (.var 4) (.str "words")) (.bi "tuple" (.cons (.lc (.var 5) (.name 5) (.val (.lst (.cons (.str "away") (.cons (.str "hand") (.cons (.str "refuse") (.cons (.str "swap") (.cons (.str "take") .nil))))))) (.some T1_law_drawn) [("_law_word", 5)]) .nil)))
def s4_law_drawn : S := (.ret (.var 4))
def S_law_drawn : Ss := (.cons s1_law_drawn (.cons s2_law_drawn (.cons s3_law_drawn (.cons s4_law_drawn .nil))))
def N_law_made : List Str := [so "_law_t"]
def P_law_made : List Str := [so "_law_t"]

def S_law_made : Ss := (.cons (.ret (.mk "Book" (.cons (.sub (.var 0) (.str "people")) (.cons (.sub (.var 0) (.str "longest")) (.cons (.sub (.var 0) (.str "most")) (.cons (.sub (.var 0) (.str "rule")) (.cons (.sub (.var 0) (.str "words")) .nil)))))))
    .nil)
end Law
end

section
set_option maxHeartbeats 4000000
/-! contracts of the books' small defs, at any values. -/
namespace Law
open PySem L2 Rx
def LETTERS : String := "abcdefghijklmnopqrstuvwxyz"
def RULES : List (String × List String) := [("back", ["both", "ends", "stays"]), ("count", ["all", "direct", "handed"]), ("end", ["falls", "stays"]), ("gap", ["next", "none", "owner"])]
def WORDS : List String := ["away", "hand", "refuse", "swap", "take"]
def DIGITS : List String := ["0", "1", "2"]
def strsP (ss : List String) : PV := .tup (ss.map .str)
def rulesP : PV := .kd (RULES.map fun q => (q.1, strsP q.2))
/-- the books' constants -/
structure Consts (Γ : Gm) : Prop where
  letters : Γ.co "LETTERS" = some (.str LETTERS)
  longest : Γ.co "LONGEST" = some (.int 8)
  most : Γ.co "MOST" = some (.int 2)
  rules : Γ.co "RULES" = some rulesP
  words : Γ.co "WORDS" = some (strsP WORDS)
/-- a value whose type is known -/
def Kn1 (M : MM) : PV → Prop
  | .ref a => (∃ xs, M a = some (.lst xs)) ∨ ∃ kvs, M a = some (.dct kvs)
  | _ => True
theorem Kn1.sub {M M' : MM} {p : PV} (h : Kn1 M p) (s : Sub M M') : Kn1 M' p := by
  cases p <;> try exact True.intro
  rcases h with ⟨xs, h⟩ | ⟨xs, h⟩
  · exact .inl ⟨xs, s _ _ h⟩
  · exact .inr ⟨xs, s _ _ h⟩
def isInt : PV → Bool
  | .int _ => true
  | _ => false
def isStr : PV → Bool
  | .str _ => true
  | _ => false
def isTup : PV → Bool
  | .tup _ => true
  | _ => false
theorem isi_str {M : MM} {p : PV} {Q : Bool → Prop} (h : Kn1 M p) (q : Q (isStr p)) : isiA "str" p M Q := by
  cases p <;> try exact q
  rcases h with ⟨xs, h⟩ | ⟨xs, h⟩ <;> simpa [isiA, h, isStr] using q
theorem isi_tup {M : MM} {p : PV} {Q : Bool → Prop} (h : Kn1 M p) (q : Q (isTup p)) : isiA "tuple" p M Q := by
  cases p <;> try exact q
  rcases h with ⟨xs, h⟩ | ⟨xs, h⟩ <;> simpa [isiA, h, isTup] using q
def strIn (v : PV) (ss : List String) : Bool := match v with
  | .str s => ss.contains s
  | _ => false
def fromB (p : PV) (lo hi : Int) : Bool := match p with
  | .int i => decide (lo ≤ i) && decide (i ≤ hi)
  | _ => false
def nameB (s : String) : Bool := decide (1 ≤ s.length) && (decide (s.length ≤ 8) && s.toList.all fun c => LETTERS.toList.contains c)
def nameV : PV → Bool
  | .str s => nameB s
  | _ => false
def SmallS : PV → Prop
  | .str s => s.length ≤ 1000000
  | _ => True
def C_is_integer : Con := fun as M Q _ => ∃ p, as = [p] ∧ Kn1 M p ∧ Q (.bl (isInt p)) M
def C_is_from : Con := fun as M Q _ => ∃ p lo hi, as = [p, .int lo, .int hi] ∧ Kn1 M p ∧ Q (.bl (fromB p lo hi)) M
def C_is_name : Con := fun as M Q _ => ∃ p, as = [p] ∧ Kn1 M p ∧ SmallS p ∧ ∀ M', Sub M M' → Q (.bl (nameV p)) M'
def C_is_one_of : Con := fun as M Q _ => ∃ (v : PV) (ss : List String) (q : PV), as = [v, q] ∧ Kn1 M v ∧ (q = strsP ss ∨ ∃ a, q = .ref a ∧ M a = some (.lst (ss.map .str))) ∧ Q (.bl (strIn v ss)) M
theorem run_is_integer {Γ : Gm} : Does Γ N_is_integer P_is_integer S_is_integer C_is_integer := by
  rintro as M Qa Ea ⟨p, rfl, hp, q⟩ -
  cases p
  case ref a =>
    rcases hp with ⟨xs, h⟩ | ⟨xs, h⟩ <;> simpa [S_is_integer, N_is_integer, runSs, runS, runE, isiA, truA, isInt, h] using q
  all_goals simpa [S_is_integer, N_is_integer, runSs, runS, runE, isiA, truA, isInt] using q
theorem run_is_from {Γ : Gm} (h1 : Γ.fn "is_integer" = some (1, C_is_integer)) : Does Γ N_is_from P_is_from S_is_from C_is_from := by
  rintro as M Qa Ea ⟨p, lo, hi, rfl, hp, q⟩ -
  cases p
  all_goals simp [S_is_from, N_is_from, runSs, runS, runE, runEs, h1, C_is_integer, isInt, cmpA]
  all_goals simp only [fromB] at q
  case int i =>
    refine ⟨trivial, ?_⟩
    split
    · rename_i h; simpa [h] using q
    · rename_i h; simpa [h] using q
  all_goals exact ⟨hp, q⟩
theorem single_list (c : Char) : (String.singleton c).toList = [c] := by simp
theorem run_is_name {Γ : Gm} (K : Consts Γ) : Does Γ N_is_name P_is_name S_is_name C_is_name := by
  rintro as M Qa Ea ⟨p, rfl, hk, hl, q⟩ -
  by_cases hs : isStr p = true
  rotate_left
  · have q' : Qa (.bl false) M := by
      have := q M (Sub.refl M)
      cases p <;> first | exact this | exact absurd rfl hs
    have hs : isStr p = false := by simpa using hs
    simp [S_is_name, N_is_name, runSs, runS, runT, runE, runEs]
    refine isi_str hk ?_
    rw [hs]
    simpa [truA] using q'
  cases p <;> try cases hs
  rename_i s
  have hl : s.length ≤ 1000000 := hl
  have q : ∀ M', Sub M M' → Qa (.bl (nameB s)) M' := q
  simp [S_is_name, N_is_name, E1_is_name, runSs, runS, runT, runE, runEs, runI, isiA, truA, biA, cmpA, K.longest, hl, itA]
  have key : nameB s = (decide (1 ≤ s.length) && (decide (s.length ≤ 8) && s.toList.all fun c => LETTERS.toList.contains c)) := rfl
  by_cases h1 : 1 ≤ s.length
  · rw [if_pos (by omega)]
    by_cases h2 : s.length ≤ 8
    · rw [if_neg (by omega)]
      intro D hD
      refine lcF_map (Mb := M) (f := fun x => match x with | .str z => (match z.toList with | [c] => .bl (LETTERS.toList.contains c) | _ => .non) | _ => .non) hD (fun _ _ => True.intro) mput_same ((Sub.refl M).put hD) (by simp; exact hl) ?_ ?_
      · intro x hx M' h3 Kt Kf h4
        obtain ⟨c, hc, rfl⟩ := List.mem_map.mp hx
        simp [runTg, runC, E1_is_name, runE, wipeG, K.letters, cmpA, inA]
        have := h4 M' (Sub.refl M')
        simpa using this
      · intro M' h3 h4
        have e : (s.toList.map fun c => PV.str (String.singleton c)).map (fun x => match x with | .str z => (match z.toList with | [c] => .bl (LETTERS.toList.contains c) | _ => .non) | _ => .non) = (s.toList.map fun c => LETTERS.toList.contains c).map PV.bl := by
          rw [List.map_map, List.map_map]
          exact List.map_congr_left fun c _ => by simp
        rw [e] at h4
        simp only [id, h4, blsOf_map]
        have q' := q M' h3
        rw [key, decide_eq_true h1, decide_eq_true h2] at q'
        simpa [List.all_map] using q'
    · have q' := q M (Sub.refl M)
      rw [key, decide_eq_false h2] at q'
      rw [if_pos (by omega)]
      simpa using q'
  · have q' := q M (Sub.refl M)
    rw [key, decide_eq_false h1] at q'
    rw [if_neg (by omega)]
    simpa using q'
theorem run_is_one_of {Γ : Gm} : Does Γ N_is_one_of P_is_one_of S_is_one_of C_is_one_of := by
  rintro as M Qa Ea ⟨v, ss, q, rfl, hv, hq, z⟩ -
  simp [S_is_one_of, N_is_one_of, runSs, runS, runE]
  refine isi_str hv ?_
  cases v
  case str s =>
    simp [isStr]
    rcases hq with rfl | ⟨a, rfl, h⟩
    · simpa [cmpA, inA, strsP, sMem_str, strIn] using z
    · simpa [cmpA, inA, h, sMem_str, strIn] using z
  all_goals exact z
end Law
end

section
set_option maxHeartbeats 4000000
/-! contracts: people, rules, words, at any values. -/
namespace Law
open PySem L2 Rx
def nodupV (xs : List PV) : Bool := match strsOf xs with
  | some ss => decide ss.Nodup
  | none => false
def peopleV : PV → Bool
  | .tup xs => decide (2 ≤ xs.length) && (decide (xs.length ≤ 3) && (xs.all nameV && nodupV xs))
  | _ => false
/-- a tuple's items are known -/
def Kn2 (M : MM) (v : PV) : Prop := Kn1 M v ∧ ∀ xs, v = .tup xs → xs.length ≤ 900 ∧ ∀ x ∈ xs, Kn1 M x ∧ SmallS x
theorem Kn2.sub {M M' : MM} {p : PV} (h : Kn2 M p) (s : Sub M M') : Kn2 M' p := ⟨h.1.sub s, fun xs e => ⟨(h.2 xs e).1, fun x hx => ⟨((h.2 xs e).2 x hx).1.sub s, ((h.2 xs e).2 x hx).2⟩⟩⟩
theorem kn2_strs {M : MM} {ss : List String} (hl : ss.length ≤ 900) (h : ∀ s ∈ ss, s.length ≤ 1000000) : Kn2 M (strsP ss) := ⟨True.intro, fun xs e => by
  cases e
  refine ⟨by simpa using hl, fun x hx => ?_⟩
  obtain ⟨s, hs, rfl⟩ := List.mem_map.mp hx
  exact ⟨True.intro, h s hs⟩⟩
theorem mem_map_str {x : PV} {ss : List String} (h : x ∈ ss.map PV.str) : ∃ s ∈ ss, x = .str s := by
  obtain ⟨s, h1, h2⟩ := List.mem_map.mp h
  exact ⟨s, h1, h2.symm⟩
theorem names_strs : ∀ {xs : List PV}, xs.all nameV = true → ∃ ss : List String, xs = ss.map .str ∧ ∀ s ∈ ss, nameB s = true
  | [], _ => ⟨[], rfl, fun _ h => nomatch h⟩
  | x :: xs, h => by
    rw [List.all_cons, Bool.and_eq_true] at h
    obtain ⟨ss, rfl, h2⟩ := names_strs h.2
    cases x
    case str s =>
      refine ⟨s :: ss, rfl, fun z hz => ?_⟩
      rcases List.mem_cons.mp hz with rfl | hz
      · exact h.1
      · exact h2 z hz
    all_goals exact absurd h.1 (by simp [nameV])
theorem words_strs {W : List String} : ∀ {xs : List PV}, (xs.all fun x => strIn x W) = true → ∃ ss : List String, xs = ss.map .str ∧ ∀ s ∈ ss, s ∈ W
  | [], _ => ⟨[], rfl, fun _ h => nomatch h⟩
  | x :: xs, h => by
    rw [List.all_cons, Bool.and_eq_true] at h
    obtain ⟨ss, rfl, h2⟩ := words_strs h.2
    cases x
    case str s =>
      refine ⟨s :: ss, rfl, fun z hz => ?_⟩
      rcases List.mem_cons.mp hz with rfl | hz
      · simpa [strIn] using h.1
      · exact h2 z hz
    all_goals exact absurd h.1 (by simp [strIn])
theorem dict_len (ss : List String) (h : ss.length ≤ 3) : decide ((((ss.map PV.str).foldl (fun a x => dPut a x (.bl true)) []).length : Int) = (ss.length : Int)) = decide ss.Nodup := by
  rcases ss with _ | ⟨a, _ | ⟨b, _ | ⟨c, _ | ⟨d, r⟩⟩⟩⟩
  · simp
  · simp [dPut_nil]
  · by_cases h1 : a = b <;> simp [dPut_nil, dPut_str, h1]
  · by_cases h1 : a = b
    · by_cases h2 : b = c <;> simp [dPut_nil, dPut_str, h1, h2]
    · by_cases h2 : a = c
      · subst h2; simp [dPut_nil, dPut_str, h1]
      · by_cases h3 : b = c <;> simp [dPut_nil, dPut_str, h1, h2, h3]
  · simp at h
theorem no_false {bs : List Bool} (h : (bs.all fun x => x) = true) : ¬ false ∈ bs := fun hm => Bool.noConfusion (List.all_eq_true.mp h false hm)
theorem name_len {s : String} (h : nameB s = true) : s.length ≤ 8 := by
  unfold nameB at h
  have := (Bool.and_eq_true_iff.mp (Bool.and_eq_true_iff.mp h).2).1
  exact of_decide_eq_true this
def C_are_people : Con := fun as M Q _ => ∃ v, as = [v] ∧ Kn2 M v ∧ ∀ M', Sub M M' → Q (.bl (peopleV v)) M'
theorem blsOf_map' {f : PV → Bool} (xs : List PV) : blsOf (xs.map fun x => .bl (f x)) = some (xs.map f) := by
  have := blsOf_map (xs.map f)
  rwa [List.map_map] at this
theorem run_are_people {Γ : Gm} (h1 : Γ.fn "is_name" = some (1, C_is_name)) : Does Γ N_are_people P_are_people S_are_people C_are_people := by
  rintro as M Qa Ea ⟨v, rfl, ⟨hk, hx⟩, q⟩ -
  simp [S_are_people, N_are_people, runSs, runS, runT, runE, runEs]
  refine isi_tup hk ?_
  cases v
  case tup xs =>
    obtain ⟨hl, hx⟩ := hx xs rfl
    simp [isTup, truA, runSs, runS, runE, runEs, biA, cmpA, runI, itA, h1]
    have key : peopleV (.tup xs) = (decide (2 ≤ xs.length) && (decide (xs.length ≤ 3) && (xs.all nameV && nodupV xs))) := rfl
    have no : (decide (2 ≤ xs.length) && (decide (xs.length ≤ 3) && (xs.all nameV && nodupV xs))) = false → ∀ M', Sub M M' → Qa (.bl false) M' := fun h M' s => by have := q M' s; rwa [key, h] at this
    by_cases p1 : 2 ≤ xs.length
    rotate_left
    · rw [if_neg (by omega)]; exact no (by simp [p1]) M (Sub.refl M)
    rw [if_pos (by omega)]
    by_cases p2 : xs.length ≤ 3
    rotate_left
    · rw [if_neg (by omega)]; exact no (by simp [p2]) M (Sub.refl M)
    rw [if_pos (by omega)]
    intro D hD
    refine lcF_map (Mb := M) (f := fun x => .bl (nameV x)) hD (fun _ _ => True.intro) mput_same ((Sub.refl M).put hD) (by omega) ?_ ?_
    · intro x hx' M' h3 Kt Kf h4
      simp [runTg, runC, E1_are_people, runE, runEs, wipeG, h1, C_is_name]
      exact ⟨(hx x hx').1.sub h3, (hx x hx').2, fun M'' s => h4 _ s⟩
    · intro M' h3 h4
      simp only [id, h4, blsOf_map']
      by_cases p3 : xs.all nameV = true
      rotate_left
      · have p3' : xs.all nameV = false := by simpa using p3
        have e0 : ((xs.map nameV).all fun x => x) = false := by rw [List.all_map]; exact p3'
        simp [e0]
        rw [if_pos (by simpa using p3')]
        exact no (by simp [p3']) _ h3
      obtain ⟨ss, rfl, hs⟩ := names_strs p3
      have e0 : ((((ss.map PV.str).map nameV).all fun x => x)) = true := by rw [List.all_map]; exact p3
      rw [if_neg (no_false e0)]
      intro D2 hD2
      refine dcF_go (Mb := M') (f := fun x => (x, .bl true)) hD2 (fun _ _ => True.intro) mput_same ((Sub.refl M').put hD2) (by simp at p2 ⊢; omega) ?_ ?_ ?_
      · intro x hx'
        obtain ⟨c, hc, rfl⟩ := List.mem_map.mp hx'
        rfl
      · intro x hx' M2 h5 Kt Kf h6
        simp [runTg, runC, wipeG]
        exact h6 _ (Sub.refl _)
      · intro M2 h5 h6
        refine ⟨h6, ?_⟩
        simp only [mput_same]
        simp [eqA, sEq]
        have hl3 : ss.length ≤ 3 := by simpa using p2
        have := dict_len ss hl3
        rw [this]
        have q' := q _ ((h3.trans h5).put (h3.fresh hD2) (o := .dct ((ss.map PV.str).foldl (fun a x => dPut a x (.bl true)) [])))
        rw [key, decide_eq_true p1, decide_eq_true p2, p3] at q'
        simpa [nodupV, strsOf_map] using q'
  all_goals simp [isTup, truA, runSs, runS, runE]
  all_goals exact q M (Sub.refl M)
/-- a rule's pairs -/
def kS (ks : List (String × PV)) : List (PV × PV) := ks.map fun q => (.str q.1, q.2)
def PARTS : List String := ["back", "count", "end", "gap"]
def wordsOf : String → List String
  | "back" => ["both", "ends", "stays"]
  | "count" => ["all", "direct", "handed"]
  | "end" => ["falls", "stays"]
  | "gap" => ["next", "none", "owner"]
  | _ => []
def goodAt (ks : List (String × PV)) (p : String) : Bool := strIn ((ks.lookup p).getD .non) (wordsOf p)
def ruleFault (ks : List (String × PV)) : Option String :=
  if !(ks.all fun q => PARTS.contains q.1) || decide (ks.length < 4) then some "" else PARTS.find? fun p => !(goodAt ks p)
def NotDict (M : MM) : PV → Prop
  | .ref a => ∃ xs, M a = some (.lst xs)
  | .kd _ => False
  | _ => True
def RuleArg (M : MM) (v : PV) (f : Option String) : Prop := (NotDict M v ∧ f = some "") ∨ ∃ a ks, v = .ref a ∧ M a = some (.dct (kS ks)) ∧ (ks.map (·.1)).Nodup ∧ ks.length ≤ 900 ∧ (∀ q ∈ ks, Kn1 M q.2) ∧ f = ruleFault ks
theorem NotDict.sub {M M' : MM} {v : PV} (h : NotDict M v) (s : Sub M M') : NotDict M' v := by
  cases v <;> try exact h
  obtain ⟨xs, h⟩ := h; exact ⟨xs, s _ _ h⟩
theorem RuleArg.sub {M M' : MM} {v : PV} {f : Option String} (h : RuleArg M v f) (s : Sub M M') : RuleArg M' v f := by
  rcases h with ⟨h, e⟩ | ⟨a, ks, h1, h2, h3, h4, h5, h6⟩
  · exact .inl ⟨h.sub s, e⟩
  · exact .inr ⟨a, ks, h1, s _ _ h2, h3, h4, fun q hq => (h5 q hq).sub s, h6⟩
theorem dGet_kS (z : String) : ∀ ks : List (String × PV), dGet (kS ks) (.str z) = ks.lookup z
  | [] => rfl
  | (k, v) :: r => by
    show dGet ((.str k, v) :: kS r) (.str z) = _
    rw [dGet_str, dGet_kS z r, List.lookup_cons]
    by_cases h : k = z
    · subst h; simp
    · have : (z == k) = false := beq_eq_false_iff_ne.mpr (Ne.symm h)
      rw [if_neg h, this]
theorem nodup_sub {α : Type} [DecidableEq α] : ∀ {l m : List α}, l.Nodup → (∀ x ∈ l, x ∈ m) → l.length ≤ m.length
  | [], _, _, _ => Nat.zero_le _
  | a :: t, m, nd, h => by
    have nd' := List.nodup_cons.mp nd
    have ha := h a List.mem_cons_self
    have := nodup_sub (m := m.erase a) nd'.2 fun x hx => (List.mem_erase_of_ne (fun e => nd'.1 (by rw [← e]; exact hx))).mpr (h x (List.mem_cons_of_mem _ hx))
    rw [List.length_erase_of_mem ha] at this
    have := List.length_pos_of_mem ha
    simp; omega
theorem look_some {z : String} : ∀ {ks : List (String × PV)}, z ∈ ks.map (·.1) → ∃ v, ks.lookup z = some v ∧ (z, v) ∈ ks
  | [], h => nomatch h
  | (k, v) :: r, h => by
    rw [List.lookup_cons]
    by_cases e : z = k
    · subst e; exact ⟨v, by simp, by simp⟩
    · have e2 : (z == k) = false := beq_eq_false_iff_ne.mpr e
      rw [e2]
      rw [List.map_cons, List.mem_cons] at h
      obtain ⟨w, h1, h2⟩ := look_some (h.resolve_left e)
      exact ⟨w, h1, List.mem_cons_of_mem _ h2⟩
theorem rule_full {ks : List (String × PV)} (h1 : (ks.all fun q => PARTS.contains q.1) = true) (h2 : (ks.map (·.1)).Nodup) (h3 : 4 ≤ ks.length) {p : String} (hp : p ∈ PARTS) : ∃ v, ks.lookup p = some v ∧ (p, v) ∈ ks := by
  refine look_some ?_
  refine Decidable.byContradiction fun hn => ?_
  have hs : ∀ x ∈ ks.map (·.1), x ∈ PARTS.erase p := fun x hx => by
    obtain ⟨q, hq, rfl⟩ := List.mem_map.mp hx
    have := List.all_eq_true.mp h1 q hq
    refine (List.mem_erase_of_ne (fun e => hn (by rw [← e]; exact hx))).mpr (by simpa using this)
  have := nodup_sub h2 hs
  rw [List.length_erase_of_mem hp] at this
  simp [PARTS] at this; omega
def C_check_rule : Con := fun as M Q E => ∃ v f, as = [v] ∧ RuleArg M v f ∧ (f = none → ∀ M', Sub M M' → Q .non M') ∧ ∀ p, f = some p → ∀ M', Sub M M' → E ⟨"BadRule", [("part", .str p)]⟩ M'
theorem rulesP_eq : rulesP = .kd [("back", strsP ["both", "ends", "stays"]), ("count", strsP ["all", "direct", "handed"]), ("end", strsP ["falls", "stays"]), ("gap", strsP ["next", "none", "owner"])] := rfl
/-- a locked dict told again -/
theorem Sub.unl {M M' : MM} {a : Addr} {o : MO} (h : M a = some o) (s : Sub (mdel M a) M') : Sub M (mput M' a o) := fun b u e => by
  by_cases z : b = a
  · subst z; rw [mput_same, ← h, e]
  · rw [mput_ne z]; exact s b u (by unfold mdel; rw [mput_ne z]; exact e)
theorem rules_keys : (RULES.map fun q => (q.1, strsP q.2)).map (fun q => PV.str q.1) = PARTS.map PV.str := rfl
theorem rules_len : (RULES.map fun q => (q.1, strsP q.2)).length = 4 := rfl
theorem rules_at {p : String} (h : p ∈ PARTS) : (RULES.map fun q => (q.1, strsP q.2)).lookup p = some (strsP (wordsOf p)) := by
  simp [PARTS] at h
  rcases h with rfl | rfl | rfl | rfl <;> simp [RULES, wordsOf, List.lookup]
theorem exc_rule (p : String) (h : (PySem.reprText (Str.ofString p)).length ≤ 1000) : excF "BadRule" [.str p] = some [("part", .str p)] := by
  simp [excF, excSpec, parP, shP, h, accP]
theorem repr_parts : ∀ p ∈ ("" :: PARTS), (PySem.reprText (Str.ofString p)).length ≤ 1000 := by decide +kernel
theorem find_snoc {l : List String} {x : String} {r : List String} {g : String → Bool} (h : ∀ y ∈ l, g y = false) (hx : g x = true) : (l ++ x :: r).find? g = some x := by
  induction l with
  | nil => simp [hx]
  | cons a t ih =>
    have ha := h a List.mem_cons_self
    rw [List.cons_append, List.find?_cons, ha]
    exact ih fun y hy => h y (List.mem_cons_of_mem _ hy)
theorem run_check_rule {Γ : Gm} (K : Consts Γ) (hx : Γ.xc.contains "BadRule" = true) (h1 : Γ.fn "is_one_of" = some (2, C_is_one_of)) : Does Γ N_check_rule P_check_rule S_check_rule C_check_rule := by
  rintro as M Qa Ea ⟨v, f, rfl, hv, q, e⟩ -
  have hxm : "BadRule" ∈ Γ.xc := by simpa using hx
  rcases hv with ⟨hn, rfl⟩ | ⟨a, ks, rfl, ha, hnd, hl9, hkn, rfl⟩
  · have go : ∀ b, b = false → isiA "dict" v M fun c => c = b := by
      rintro b rfl
      cases v <;> try exact (show _ = false by decide)
      · obtain ⟨xs, h⟩ := hn; simp [isiA, h]
      · exact hn.elim
    have e' := e "" rfl M (Sub.refl M)
    simp [S_check_rule, N_check_rule, runSs, runS, runT, runE, runEs]
    cases v <;> try (simp [isiA, truA, runSs, runS, runE, runEs, hxm, exc_rule "" (repr_parts "" (by decide))]; exact e')
    · obtain ⟨xs, h⟩ := hn
      simp [isiA, h, truA, runSs, runS, runE, runEs, hxm, exc_rule "" (repr_parts "" (by decide))]; exact e'
    · exact hn.elim
  simp [S_check_rule, N_check_rule, runSs, runS, runT, runE, runEs, runI, isiA, truA, biA, cmpA, itA, ha]
  intro D hD
  have hDa : D ≠ a := fun z => by rw [z] at hD; unfold mdel at hD; rw [mput_same] at hD; cases hD
  have ek : (kS ks).map (fun x => x.1) = (ks.map (·.1)).map PV.str := by unfold kS; rw [List.map_map, List.map_map]; rfl
  rw [ek]
  refine lcF_map (Mb := mdel M a) (f := fun x => .bl (strIn x PARTS)) hD (fun _ _ => True.intro) mput_same ((Sub.refl _).put hD) (by simp; omega) ?_ ?_
  · intro x hx' M' h3 Kt Kf h4
    obtain ⟨z, hz, rfl⟩ := mem_map_str hx'
    simp [runTg, runC, E2_check_rule, runE, runEs, wipeG, K.rules, rulesP, biA, newL, h1]
    intro p hp
    refine ⟨.str z, PARTS, .ref p, rfl, True.intro, .inr ⟨p, rfl, ?_⟩, ?_⟩
    · rw [mput_same]; rfl
    · exact h4 _ (Sub.new hp)
  · intro M' h3 h4
    have h5 : (mput M' a (.dct (kS ks))) D = some (.lst (((ks.map (·.1)).map PV.str).map fun x => .bl (strIn x PARTS))) := by rw [mput_ne hDa]; exact h4
    have hs0 : Sub M (mput M' a (.dct (kS ks))) := Sub.unl ha h3
    have hkl : (kS ks).length = ks.length := by simp [kS]
    have eall : ((((ks.map (·.1)).map PV.str).map fun x => strIn x PARTS).all id) = (ks.all fun q => PARTS.contains q.1) := by
      rw [List.all_map, List.all_map, List.all_map]; rfl
    simp only [h5, blsOf_map']
    have mt : ∀ (b : Bool), (false ∈ ((ks.map (·.1)).map PV.str).map fun x => strIn x PARTS) = ((ks.all fun q => PARTS.contains q.1) = false) := fun _ => by
      rw [← eall, propext_iff]
      simp [strIn]
    by_cases hA : (ks.all fun q => PARTS.contains q.1) = true
    rotate_left
    · have hA' : (ks.all fun q => PARTS.contains q.1) = false := by simpa using hA
      rw [if_pos (by rw [mt true]; exact hA')]
      have hf : ruleFault ks = some "" := by simp only [ruleFault, hA']; rfl
      simp [hxm, exc_rule "" (repr_parts "" (by decide))]
      exact e "" hf _ hs0
    rw [if_neg (by rw [mt true]; rw [hA]; exact Bool.noConfusion)]
    simp [K.rules, rulesP, hkl, rules_len]
    by_cases hL : ks.length < 4
    · rw [if_pos (by simpa [RULES] using hL)]
      have hf : ruleFault ks = some "" := by simp [ruleFault, hA, hL]
      simp [hxm, exc_rule "" (repr_parts "" (by decide))]
      exact e "" hf _ hs0
    rw [if_neg (by simpa [RULES] using hL)]
    have hrf : ruleFault ks = PARTS.find? fun p => !(goodAt ks p) := by
      simp only [ruleFault, hA, hL]; rfl
    have ek2 : RULES.map ((fun q => PV.str q.1) ∘ fun q => (q.1, strsP q.2)) = PARTS.map PV.str := rfl
    rw [ek2]
    refine forF_inv (fun xs g M2 => Sub (mput M' a (.dct (kS ks))) M2 ∧ (∃ g1, g = [some (.ref a), g1]) ∧ ∃ pre post, PARTS = pre ++ post ∧ xs = post.map .str ∧ ∀ p ∈ pre, goodAt ks p = true) ?_ ?_ ?_ ?_
    · intro _ _ _ _; exact True.intro
    · rintro g M2 ⟨w1, w2, pre, post, w3, w4, w5⟩
      have : post = [] := by cases post with
        | nil => rfl
        | cons _ _ => cases w4
      subst this
      refine q ?_ M2 (hs0.trans w1)
      rw [hrf, List.find?_eq_none]
      intro p hp
      rw [w3, List.append_nil] at hp
      simp [w5 p hp]
    rotate_left
    · exact ⟨Sub.refl _, ⟨_, rfl⟩, [], PARTS, rfl, rfl, fun _ h => nomatch h⟩
    rintro x xs g M2 ⟨w1, ⟨g1, rfl⟩, pre, post, w3, w4, w5⟩ Dn d1 d2 d3 d4
    obtain ⟨z, post', rfl⟩ : ∃ z post', post = z :: post' := by
      cases post with
      | nil => cases w4
      | cons z r => exact ⟨z, r, rfl⟩
    rw [List.map_cons] at w4
    injection w4 with w4a w4b
    subst w4a; subst w4b
    have hz : z ∈ PARTS := by rw [w3]; simp
    have ha2 : M2 a = some (.dct (kS ks)) := w1 _ _ mput_same
    obtain ⟨v, hv, hmem⟩ := rule_full hA hnd (by omega) hz
    simp [runTg, B1_check_rule, runSs, runS, runT, runE, runEs, K.rules, rulesP, subA, ha2, dGet_kS, hv, keyOk_str, h1, rules_at hz]
    refine ⟨_, _, _, rfl, ((hkn _ hmem).sub hs0).sub w1, .inl rfl, ?_⟩
    have hg : goodAt ks z = strIn v (wordsOf z) := by simp [goodAt, hv]
    by_cases hgz : goodAt ks z = true
    · rw [hg] at hgz
      simp [truA, hgz]
      refine d1 _ _ ⟨w1, ⟨_, rfl⟩, pre ++ [z], post', by rw [w3]; simp, rfl, fun p hp => ?_⟩
      rcases List.mem_append.mp hp with hp | hp
      · exact w5 p hp
      · rw [List.mem_singleton.mp hp, hg, hgz]
    · have hgz' : strIn v (wordsOf z) = false := by rw [← hg]; simpa using hgz
      simp [truA, hgz', hxm, exc_rule z (repr_parts z (List.mem_cons_of_mem _ hz))]
      refine e z ?_ _ (hs0.trans w1)
      rw [hrf, w3]
      exact find_snoc (fun y hy => by simp [w5 y hy]) (by simpa using hgz)
def ascV (xs : List PV) : Bool := match strsOf xs with
  | some ws => (ws.zip (ws.drop 1)).all fun p => sLt p.1 p.2
  | none => false
def wordsV : PV → Bool
  | .tup xs => (xs.all fun x => strIn x WORDS) && ascV xs
  | _ => false
def C_are_words : Con := fun as M Q _ => ∃ v, as = [v] ∧ Kn2 M v ∧ ∀ M', Sub M M' → Q (.bl (wordsV v)) M'
theorem run_are_words {Γ : Gm} (K : Consts Γ) (h1 : Γ.fn "is_one_of" = some (2, C_is_one_of)) : Does Γ N_are_words P_are_words S_are_words C_are_words := by
  rintro as M Qa Ea ⟨v, rfl, ⟨hk, hx⟩, q⟩ -
  simp [S_are_words, N_are_words, runSs, runS, runT, runE, runEs]
  refine isi_tup hk ?_
  cases v
  case tup xs =>
    obtain ⟨hl, hx⟩ := hx xs rfl
    simp [isTup, truA, runSs, runS, runE, runEs, biA, cmpA, runI, itA, h1]
    intro D hD
    refine lcF_map (Mb := M) (f := fun x => .bl (strIn x WORDS)) hD (fun _ _ => True.intro) mput_same ((Sub.refl M).put hD) (by omega) ?_ ?_
    · intro x hx' M' h3 Kt Kf h4
      simp [runTg, runC, wipeG, E2_are_words, runE, runEs, h1, K.words]
      exact ⟨x, WORDS, _, rfl, (hx x hx').1.sub h3, .inl rfl, h4 _ (Sub.refl _)⟩
    · intro M' h3 h4
      simp only [id, h4, blsOf_map']
      by_cases hA : (xs.all fun x => strIn x WORDS) = true
      rotate_left
      · have hA' : (xs.all fun x => strIn x WORDS) = false := by simpa using hA
        have e0 : ((xs.map fun x => strIn x WORDS).all fun x => x) = false := by rw [List.all_map]; exact hA'
        have q' := q M' h3
        simp only [wordsV, hA', Bool.false_and] at q'
        simp [e0]
        rw [if_pos (by simpa using hA')]
        exact q'
      obtain ⟨ws, rfl, hw⟩ := words_strs hA
      have e0 : (((ws.map PV.str).map fun x => strIn x WORDS).all fun x => x) = true := by rw [List.all_map]; exact hA
      rw [if_neg (no_false e0)]
      simp [runI, runO, runE, slcA]
      intro D2 hD2
      have ec : cutP (ws.map PV.str) (some 1) none = (ws.drop 1).map PV.str := by
        have := cut_from (xs := ws.map PV.str) (k := 1)
        rw [List.map_drop]; exact this
      rw [ec]
      have hl' : ws.length ≤ 900 := by simpa using hl
      refine lcF_map (Mb := M') (f := fun x => match x with | .tup [.str y, .str z] => .bl (sLt y z) | _ => .non) hD2 (fun _ _ => True.intro) mput_same ((Sub.refl M').put hD2) (by simp; omega) ?_ ?_
      · intro x hx M2 h5 Kt Kf h6
        obtain ⟨⟨y, z⟩, h7, rfl⟩ := List.mem_map.mp hx
        obtain ⟨y, hy, rfl⟩ := mem_map_str (List.of_mem_zip h7).1
        obtain ⟨z, hz, rfl⟩ := mem_map_str (List.of_mem_zip h7).2
        simp [runTg, runTgs, tgsLen, runC, wipeG, E1_are_words, runE, cmpA]
        exact h6 _ (Sub.refl _)
      · intro M2 h5 h6
        have e3 : (List.map (fun z => PV.tup [z.fst, z.snd]) ((ws.map PV.str).zip ((ws.drop 1).map PV.str))).map (fun x => match x with | .tup [.str y, .str z] => PV.bl (sLt y z) | _ => .non) = ((ws.zip (ws.drop 1)).map fun p => sLt p.1 p.2).map PV.bl := by
          rw [List.zip_map, List.map_map, List.map_map, List.map_map]
          exact List.map_congr_left fun c _ => rfl
        rw [e3] at h6
        simp only [id, h6, blsOf_map]
        have q' := q _ (h3.trans h5)
        simp only [wordsV, hA, ascV, strsOf_map, Bool.true_and] at q'
        simpa [List.all_map] using q'
  all_goals simp [isTup, truA, runSs, runS, runE]
  all_goals exact q M (Sub.refl M)
end Law
end

section
set_option maxHeartbeats 4000000
/-! contracts of Book, at any values. -/
namespace Law
open PySem L2 Rx
def PeopleOk (ss : List String) : Prop := 2 ≤ ss.length ∧ ss.length ≤ 3 ∧ (∀ s ∈ ss, nameB s = true) ∧ ss.Nodup
/-- a book -/
structure Bk where
  people : List String
  longest : Nat
  most : Nat
  r1 : String
  r2 : String
  r3 : String
  r4 : String
  words : List String
  deriving DecidableEq
def Bk.rule (b : Bk) : List (PV × PV) := [(.str "back", .str b.r1), (.str "count", .str b.r2), (.str "end", .str b.r3), (.str "gap", .str b.r4)]
structure RuleOk (b : Bk) : Prop where
  m1 : b.r1 ∈ ["both", "ends", "stays"]
  m2 : b.r2 ∈ ["all", "direct", "handed"]
  m3 : b.r3 ∈ ["falls", "stays"]
  m4 : b.r4 ∈ ["next", "none", "owner"]
def WordsOk (ws : List String) : Prop := ws.length ≤ 5 ∧ (∀ w ∈ ws, w ∈ WORDS) ∧ (ws.zip (ws.drop 1)).all (fun p => sLt p.1 p.2) = true
structure BkOk (b : Bk) : Prop where
  people : PeopleOk b.people
  l : b.longest ≤ 2
  m : b.most ≤ 2
  rule : RuleOk b
  words : WordsOk b.words
def Bk.at (b : Bk) : String → String
  | "back" => b.r1
  | "count" => b.r2
  | "end" => b.r3
  | "gap" => b.r4
  | _ => ""
def Bk.set (b : Bk) (p w : String) : Bk := match p with
  | "back" => { b with r1 := w }
  | "count" => { b with r2 := w }
  | "end" => { b with r3 := w }
  | "gap" => { b with r4 := w }
  | _ => b
def Bk.ks (b : Bk) : List (String × PV) := [("back", .str b.r1), ("count", .str b.r2), ("end", .str b.r3), ("gap", .str b.r4)]
theorem rule_kS (b : Bk) : b.rule = kS b.ks := rfl
theorem rule_keys (b : Bk) : b.rule.map (·.1) = PARTS.map PV.str := rfl
theorem rule_len (b : Bk) : b.rule.length = 4 := rfl
theorem ks_at (b : Bk) {p : String} (h : p ∈ PARTS) : b.ks.lookup p = some (.str (b.at p)) := by
  simp [PARTS] at h
  rcases h with rfl | rfl | rfl | rfl <;> simp [Bk.ks, Bk.at, List.lookup]
theorem rule_at (b : Bk) {p : String} (h : p ∈ PARTS) : dGet b.rule (.str p) = some (.str (b.at p)) := by rw [rule_kS, dGet_kS]; exact ks_at b h
theorem RuleOk.at {b : Bk} (r : RuleOk b) {p : String} (h : p ∈ PARTS) : b.at p ∈ wordsOf p := by
  simp [PARTS] at h
  rcases h with rfl | rfl | rfl | rfl
  · exact r.m1
  · exact r.m2
  · exact r.m3
  · exact r.m4
def flds (b : Bk) (zs : List String) (d : Addr) : List (String × PV) := [("turns", strsP b.people), ("names", strsP zs), ("open_days", .int b.longest), ("cap", .int b.most), ("parts", .ref d), ("told_words", strsP b.words)]
def BookAt (M : MM) (a : Addr) (b : Bk) : Prop := ∃ d zs, zs.Perm b.people ∧ sortedT zs = true ∧ M a = some (.ins "Book" (flds b zs d)) ∧ M d = some (.dct b.rule)
theorem BookAt.sub {M M' : MM} {a : Addr} {b : Bk} (h : BookAt M a b) (s : Sub M M') : BookAt M' a b := by
  obtain ⟨d, zs, h1, h2, h3, h4⟩ := h
  exact ⟨d, zs, h1, h2, s _ _ h3, s _ _ h4⟩
theorem fo_book : fieldOf "Book" "turns" = true ∧ fieldOf "Book" "names" = true ∧ fieldOf "Book" "open_days" = true ∧ fieldOf "Book" "cap" = true ∧ fieldOf "Book" "parts" = true ∧ fieldOf "Book" "told_words" = true := by decide
def bookFault (p l m : PV) (rf : Option String) (w : PV) : Option XV :=
  if peopleV p = true then (if (fromB l 0 2 && fromB m 0 2) = true then (match rf with
    | some s => some ⟨"BadRule", [("part", .str s)]⟩
    | none => if wordsV w = true then none else some ⟨"BadWords", []⟩) else some ⟨"BadNumber", []⟩) else some ⟨"BadPeople", []⟩
structure BookIs (M : MM) (p l m r w : PV) (b : Bk) : Prop where
  p : p = strsP b.people
  l : l = .int b.longest
  m : m = .int b.most
  r : ∃ a ks, r = .ref a ∧ M a = some (.dct (kS ks)) ∧ ∀ z ∈ PARTS, ks.lookup z = some (.str (b.at z))
  w : w = strsP b.words
  few : b.people.length < 64
def C_Book_init : Con := fun as M Q E => ∃ (self : Addr) (p l m r w : PV) (rf : Option String), as = [.ref self, p, l, m, r, w] ∧ Kn2 M p ∧ Kn1 M l ∧ Kn1 M m ∧ RuleArg M r rf ∧ Kn2 M w ∧ M self = some (.ins "Book" []) ∧
  (∀ x, bookFault p l m rf w = some x → ∀ M', Sub M M' → E x M') ∧ (bookFault p l m rf w = none → ∃ b, BookIs M p l m r w b ∧ ∀ M', BookAt M' self b → Rest M M' self → Q .non M')
theorem fresh_put {M : MM} {p : Addr} {o : MO} (h : M p = none) : ∃ M', mput M p o = M' ∧ Sub M M' ∧ M' p = some o := ⟨_, rfl, Sub.new h, mput_same⟩
theorem run_Book_init {Γ : Gm} (K : Consts Γ) (x1 : Γ.xc.contains "BadPeople" = true) (x2 : Γ.xc.contains "BadNumber" = true) (x3 : Γ.xc.contains "BadWords" = true) (h1 : Γ.fn "are_people" = some (1, C_are_people)) (h2 : Γ.fn "is_from" = some (3, C_is_from)) (h3 : Γ.fn "check_rule" = some (1, C_check_rule)) (h4 : Γ.fn "are_words" = some (1, C_are_words)) : Does Γ N_Book_init P_Book_init S_Book_init C_Book_init := by
  rintro as M Qa Ea ⟨self, pp, l, m, r, w, rf, rfl, kp, kl, km, kr, kw, hs, e, q⟩ -
  obtain ⟨f1, f2, f3, f4, f5, f6⟩ := fo_book
  have x1' : "BadPeople" ∈ Γ.xc := by simpa using x1
  have x2' : "BadNumber" ∈ Γ.xc := by simpa using x2
  have x3' : "BadWords" ∈ Γ.xc := by simpa using x3
  have y1 : excF "BadPeople" [] = some [] := rfl
  have y2 : excF "BadNumber" [] = some [] := rfl
  have y3 : excF "BadWords" [] = some [] := rfl
  simp [S_Book_init, N_Book_init, runSs]
  simp [s1_Book_init, runS, runT, runE, runEs, h1, C_are_people, truA, runSs]
  refine ⟨kp, fun M1 s1 => ?_⟩
  by_cases gp : peopleV pp = true
  rotate_left
  · have gp' : peopleV pp = false := by simpa using gp
    simp [gp', x1', y1]
    exact e ⟨"BadPeople", []⟩ (by simp [bookFault, gp']) M1 s1
  simp [gp]
  simp [s2_Book_init, runS, runT, runE, runEs, K.most, h2, C_is_from, truA, runSs]
  refine ⟨_, _, _, ⟨rfl, rfl, rfl⟩, kl.sub s1, ?_⟩
  by_cases g1 : fromB l 0 2 = true
  rotate_left
  · have g1' : fromB l 0 2 = false := by simpa using g1
    simp [g1', x2', y2]
    exact e ⟨"BadNumber", []⟩ (by simp [bookFault, gp, g1']) M1 s1
  simp [g1]
  refine ⟨_, _, _, ⟨rfl, rfl, rfl⟩, km.sub s1, ?_⟩
  by_cases g2 : fromB m 0 2 = true
  rotate_left
  · have g2' : fromB m 0 2 = false := by simpa using g2
    simp [g2', x2', y2]
    exact e ⟨"BadNumber", []⟩ (by simp [bookFault, gp, g2']) M1 s1
  simp [g2]
  simp [s3_Book_init, runS, runE, runEs, h3, C_check_rule]
  refine ⟨rf, kr.sub s1, fun hrf M2 s2 => ?_, fun z hz M2 s2 => e ⟨"BadRule", [("part", .str z)]⟩ (by simp [bookFault, gp, g1, g2, hz]) M2 (s1.trans s2)⟩
  subst hrf
  simp [s4_Book_init, runS, runT, runE, runEs, h4, C_are_words, truA, runSs]
  refine ⟨kw.sub (s1.trans s2), fun M3 s3 => ?_⟩
  have s13 := (s1.trans s2).trans s3
  by_cases g3 : wordsV w = true
  rotate_left
  · have g3' : wordsV w = false := by simpa using g3
    simp [g3', x3', y3]
    exact e ⟨"BadWords", []⟩ (by simp [bookFault, gp, g1, g2, g3']) M3 s13
  simp [g3]
  obtain ⟨b, ⟨rfl, rfl, rfl, ⟨rd, ks, rfl, hr, hks⟩, rfl, few⟩, qq⟩ := q (by simp [bookFault, gp, g1, g2, g3])
  have hs3 := s13 _ _ hs
  simp [s5_Book_init, runS, runE, hs3, f1, putP]
  generalize hM4 : mput M3 self (.ins "Book" [("turns", strsP b.people)]) = M4
  have r4 : Rest M M4 self := by rw [← hM4]; exact (Rest.of_sub s13).put
  have hs4 : M4 self = some (.ins "Book" [("turns", strsP b.people)]) := by rw [← hM4]; exact mput_same
  simp [s6_Book_init, runS, runE, runEs, biA, seqA, strsP, strsOf_map, newL, mput_same]
  refine ⟨few, fun zs hz hzs p hp => ?_⟩
  have hps : self ≠ p := fun z => by rw [← z, hs4] at hp; cases hp
  rw [mput_ne hps, hs4]
  simp [f2, putP]
  generalize hM5 : mput (mput M4 p (.lst (zs.map PV.str))) self (.ins "Book" [("turns", strsP b.people), ("names", .tup (zs.map PV.str))]) = M5
  have r5 : Rest M M5 self := by rw [← hM5]; exact (r4.new hp).put
  have hs5 : M5 self = some (.ins "Book" [("turns", strsP b.people), ("names", strsP zs)]) := by rw [← hM5]; exact mput_same
  simp [s7_Book_init, s8_Book_init, runS, runE, hs5, f3, f4, putP, mput_same, mput_mput]
  generalize hM6 : mput M5 self (.ins "Book" [("turns", strsP b.people), ("names", strsP zs), ("open_days", .int b.longest), ("cap", .int b.most)]) = M6
  have r6 : Rest M M6 self := by rw [← hM6]; exact r5.put
  have hs6 : M6 self = some (.ins "Book" [("turns", strsP b.people), ("names", strsP zs), ("open_days", .int b.longest), ("cap", .int b.most)]) := by rw [← hM6]; exact mput_same
  simp [s9_Book_init, runS, runE, runI, itA, K.rules, rulesP]
  intro D hD
  have hne : rd ≠ self := fun z => by rw [z, hs] at hr; cases hr
  have hr6 : M6 rd = some (.dct (kS ks)) := r6 _ _ hne hr
  have ek2 : RULES.map ((fun q => PV.str q.1) ∘ fun q => (q.1, strsP q.2)) = PARTS.map PV.str := rfl
  rw [ek2]
  refine dcF_go (Mb := M6) (f := fun x => (x, match x with | .str z => .str (b.at z) | _ => .non)) hD (fun _ _ => True.intro) mput_same ((Sub.refl _).put hD) (by simp [PARTS]) ?_ ?_ ?_
  · intro x hx
    obtain ⟨z, hz, rfl⟩ := mem_map_str hx
    rfl
  · intro x hx M' h5 Kt Kf h6
    obtain ⟨z, hz, rfl⟩ := mem_map_str hx
    simp [runTg, runC, wipeG, E1_Book_init, runE, subA, h5 _ _ hr6, dGet_kS, hks z hz, keyOk_str]
    exact h6 _ (Sub.refl _)
  · intro M7 h5 h6
    have er : (PARTS.map PV.str).foldl (fun a x => dPut a x (match x with | .str z => .str (b.at z) | _ => .non)) [] = b.rule := by
      simp [PARTS, dPut_str, dPut_nil, Bk.at, Bk.rule]
    have er2 : (PARTS.map PV.str).foldl (fun a x => dPut a ((fun x => (x, match x with | .str z => PV.str (b.at z) | _ => PV.non)) x).1 ((fun x => (x, match x with | .str z => PV.str (b.at z) | _ => PV.non)) x).2) [] = b.rule := er
    rw [er2] at h6 ⊢
    have hDs : self ≠ D := fun z => by rw [← z, hs6] at hD; cases hD
    refine ⟨h6, ?_⟩
    have hs7 : mput M7 D (.dct b.rule) self = some (.ins "Book" [("turns", strsP b.people), ("names", strsP zs), ("open_days", .int b.longest), ("cap", .int b.most)]) := by
      rw [mput_ne hDs]; exact h5 _ _ hs6
    rw [hs7]
    simp [f5, putP]
    simp [s10_Book_init, runS, runE, f6, putP, mput_same, mput_mput]
    refine qq _ ⟨D, zs, hz, hzs, mput_same, ?_⟩ ?_
    · rw [mput_ne (Ne.symm hDs)]; exact mput_same
    · exact ((r6.sub (h5.put hD))).put
/-- Book(..) called -/
theorem mk_book {p l m r w : PV} {rf : Option String} {M : MM} {Q : Addr → MM → Prop} {E : XK1} (kp : Kn2 M p) (kl : Kn1 M l) (km : Kn1 M m) (kr : RuleArg M r rf) (kw : Kn2 M w)
    (e : ∀ x, bookFault p l m rf w = some x → ∀ M', Sub M M' → E x M') (q : bookFault p l m rf w = none → ∃ b, BookIs M p l m r w b ∧ ∀ a M', BookAt M' a b → Sub M M' → M a = none → Q a M') (a : Addr) (ha : M a = none) :
    C_Book_init [.ref a, p, l, m, r, w] (mput M a (.ins "Book" [])) (fun v M2 => v = .non ∧ Q a M2) E := by
  have s := Sub.new (o := .ins "Book" []) ha
  refine ⟨a, p, l, m, r, w, rf, rfl, kp.sub s, kl.sub s, km.sub s, kr.sub s, kw.sub s, mput_same, fun x hx M' s' => e x hx M' (s.trans s'), fun hf => ?_⟩
  obtain ⟨b, bi, q⟩ := q hf
  obtain ⟨a1, a2, a3, ⟨d, ks, a4, a5, a6⟩, a7, a8⟩ := bi
  refine ⟨b, ⟨a1, a2, a3, ⟨d, ks, a4, s _ _ a5, a6⟩, a7, a8⟩, fun M' hb hr => ⟨rfl, q a M' hb (((Rest.of_sub s).trans hr).to_sub ha) ha⟩⟩
end Law
end

section
set_option maxHeartbeats 4000000
/-! contracts: Book's properties, ==, changed. -/
namespace Law
open PySem L2 Rx
def C_Book_people : Con := fun as M Q _ => ∃ a b, as = [.ref a] ∧ BookAt M a b ∧ Q (strsP b.people) M
def C_Book_longest : Con := fun as M Q _ => ∃ a b, as = [.ref a] ∧ BookAt M a b ∧ Q (.int b.longest) M
def C_Book_most : Con := fun as M Q _ => ∃ a b, as = [.ref a] ∧ BookAt M a b ∧ Q (.int b.most) M
def C_Book_words : Con := fun as M Q _ => ∃ a b, as = [.ref a] ∧ BookAt M a b ∧ Q (strsP b.words) M
def C_Book_rule : Con := fun as M Q _ => ∃ a b, as = [.ref a] ∧ BookAt M a b ∧ ∀ d M', M' d = some (.dct b.rule) → Sub M M' → M d = none → Q (.ref d) M'
theorem run_Book_people {Γ : Gm} : Does Γ N_Book_people P_Book_people S_Book_people C_Book_people := by
  rintro as M Qa Ea ⟨a, b, rfl, ⟨d, zs, g1, g2, ha, hd⟩, q⟩ -
  obtain ⟨f1, f2, f3, f4, f5, f6⟩ := fo_book
  simpa [S_Book_people, N_Book_people, runSs, runS, runE, ha, flds, List.lookup, f1] using q
theorem run_Book_longest {Γ : Gm} : Does Γ N_Book_longest P_Book_longest S_Book_longest C_Book_longest := by
  rintro as M Qa Ea ⟨a, b, rfl, ⟨d, zs, g1, g2, ha, hd⟩, q⟩ -
  obtain ⟨f1, f2, f3, f4, f5, f6⟩ := fo_book
  simpa [S_Book_longest, N_Book_longest, runSs, runS, runE, ha, flds, List.lookup, f3] using q
theorem run_Book_most {Γ : Gm} : Does Γ N_Book_most P_Book_most S_Book_most C_Book_most := by
  rintro as M Qa Ea ⟨a, b, rfl, ⟨d, zs, g1, g2, ha, hd⟩, q⟩ -
  obtain ⟨f1, f2, f3, f4, f5, f6⟩ := fo_book
  simpa [S_Book_most, N_Book_most, runSs, runS, runE, ha, flds, List.lookup, f4] using q
theorem run_Book_words {Γ : Gm} : Does Γ N_Book_words P_Book_words S_Book_words C_Book_words := by
  rintro as M Qa Ea ⟨a, b, rfl, ⟨d, zs, g1, g2, ha, hd⟩, q⟩ -
  obtain ⟨f1, f2, f3, f4, f5, f6⟩ := fo_book
  simpa [S_Book_words, N_Book_words, runSs, runS, runE, ha, flds, List.lookup, f6] using q
theorem run_Book_rule {Γ : Gm} : Does Γ N_Book_rule P_Book_rule S_Book_rule C_Book_rule := by
  rintro as M Qa Ea ⟨a, b, rfl, ⟨d, zs, g1, g2, ha, hd⟩, q⟩ -
  obtain ⟨f1, f2, f3, f4, f5, f6⟩ := fo_book
  simp [S_Book_rule, N_Book_rule, runSs, runS, runE, runEs, ha, flds, List.lookup, f5, biA, hd, rule_len, newD]
  refine ⟨rfl, fun p hp => q p _ mput_same (Sub.new hp) hp⟩
theorem dEq_rule (x y : Bk) : dEq x.rule y.rule = some (decide (x.r1 = y.r1) && (decide (x.r2 = y.r2) && (decide (x.r3 = y.r3) && decide (x.r4 = y.r4)))) := by
  simp [dEq, Bk.rule, allS, dEqR, sGet, sEq]
/-- the other one: a book, or a list, or a dict -/
def EqArg (M : MM) (a' : Addr) (x : Bk) (r : Bool) : Prop := (∃ y, BookAt M a' y ∧ r = decide (x = y)) ∨ (((∃ xs, M a' = some (.lst xs)) ∨ ∃ kvs, M a' = some (.dct kvs)) ∧ r = false)
def C_Book_eq : Con := fun as M Q _ => ∃ (a a' : Addr) (x : Bk) (r : Bool), as = [.ref a, .ref a'] ∧ BookAt M a x ∧ EqArg M a' x r ∧ Q (.bl r) M
theorem bk_eq (x y : Bk) : decide (x = y) = (decide (x.people = y.people) && (decide (x.words = y.words) && (decide (x.longest = y.longest) && (decide (x.most = y.most) && (decide (x.r1 = y.r1) && (decide (x.r2 = y.r2) && (decide (x.r3 = y.r3) && decide (x.r4 = y.r4)))))))) := by
  rw [Bool.eq_iff_iff]
  cases x; cases y
  simp only [decide_eq_true_eq, Bool.and_eq_true, Bk.mk.injEq]
  constructor
  · rintro ⟨a, b, c, d, e, f, g, h⟩; exact ⟨a, h, b, c, d, e, f, g⟩
  · rintro ⟨a, h, b, c, d, e, f, g⟩; exact ⟨a, b, c, d, e, f, g, h⟩
theorem run_Book_eq {Γ : Gm} (hcl : Γ.cl.contains "Book" = true) : Does Γ N_Book_eq P_Book_eq S_Book_eq C_Book_eq := by
  rintro as M Qa Ea ⟨a, a', x, r, rfl, ⟨d, zs, _, _, h1, h2⟩, ha, q⟩ -
  obtain ⟨f1, f2, f3, f4, f5, f6⟩ := fo_book
  have hm : "Book" ∈ Γ.cl := by simpa using hcl
  rcases ha with ⟨y, ⟨d', zs', _, _, h3, h4⟩, rfl⟩ | ⟨⟨xs, h3⟩ | ⟨xs, h3⟩, rfl⟩
  rotate_left
  · simpa [S_Book_eq, N_Book_eq, runSs, runS, runT, runE, iscA, hm, h1, h3, truA] using q
  · simpa [S_Book_eq, N_Book_eq, runSs, runS, runT, runE, iscA, hm, h1, h3, truA] using q
  rw [bk_eq] at q
  simp [S_Book_eq, N_Book_eq, runSs, runS, runT, runE, iscA, hm, h1, h3, truA, flds, f1, f3, f4, f5, f6, cmpA, List.lookup]
  refine eqA_strs ?_
  by_cases e1 : x.people = y.people
  · simp [e1]
    refine eqA_strs ?_
    by_cases e2 : x.words = y.words
    · simp [e1, e2] at q ⊢
      simp only [eqA, sEq]
      by_cases e3 : x.longest = y.longest
      · simp [e3] at q ⊢
        by_cases e4 : x.most = y.most
        · simp [e4] at q ⊢
          refine .inr ⟨_, h2, _, h4, ?_⟩
          rw [dEq_rule]
          generalize hr : (decide (x.r1 = y.r1) && (decide (x.r2 = y.r2) && (decide (x.r3 = y.r3) && decide (x.r4 = y.r4)))) = r
          have q2 : Qa (.bl r) M := by rw [← hr]; simpa using q
          cases r
          · exact .inl ⟨rfl, q2⟩
          · exact .inr ⟨rfl, q2⟩
        · simp [e4] at q
          rw [if_neg (by omega)]; exact q
      · simp [e3] at q
        rw [decide_eq_false (show ¬ ((x.longest : Int) = (y.longest : Int)) by omega), if_neg Bool.false_ne_true]; exact q
    · simp [e1, e2] at q ⊢; exact q
  · simp [e1] at q ⊢; exact q
/-- an own == of a book -/
theorem eqOA_book {Γ : Gm} (hcl : Γ.cl.contains "Book" = true) (h : Γ.mt "Book" "__eq__" = some (2, C_Book_eq)) {M : MM} {a a' : Addr} {x : Bk} {r : Bool} {Q : KV1} (h1 : BookAt M a x) (h2 : EqArg M a' x r) (q : Q (.bl r) M) : eqOA Γ (.ref a) (.ref a') M Q := by
  have hk : C_Book_eq [.ref a, .ref a'] M (fun v M1 => match v with | .bl b => Q (.bl b) M1 | _ => False) fun _ _ => False := ⟨a, a', x, r, rfl, h1, h2, q⟩
  have hm : "Book" ∈ Γ.cl := by simpa using hcl
  obtain ⟨d, zs, _, _, g, _⟩ := h1
  have ht : (match M a' with
      | some (.ins d _) => d = "Book"
      | some (.dct _) => True
      | some (.lst _) => True
      | _ => False) := by
    rcases h2 with ⟨y, ⟨d', zs', _, _, h3, h4⟩, rfl⟩ | ⟨⟨xs, h3⟩ | ⟨xs, h3⟩, rfl⟩ <;> simp [h3]
  simp only [eqOA, g, h]
  exact ⟨hcl, ht, True.intro, hk⟩
end Law
end

section
set_option maxHeartbeats 4000000
/-! contracts: changed. -/
namespace Law
open PySem L2 Rx
theorem names_all {ss : List String} (h : ∀ s ∈ ss, nameB s = true) : (ss.map PV.str).all nameV = true := by
  rw [List.all_map, List.all_eq_true]; exact h
theorem peopleV_ok {ss : List String} (h : PeopleOk ss) : peopleV (strsP ss) = true := by
  obtain ⟨h1, h2, h3, h4⟩ := h
  simp only [peopleV, strsP, List.length_map, names_all h3, nodupV, strsOf_map]
  simp [h1, h2, h4]
theorem wordsV_ok {ws : List String} (h : WordsOk ws) : wordsV (strsP ws) = true := by
  obtain ⟨h1, h2, h3⟩ := h
  have : ((ws.map PV.str).all fun x => strIn x WORDS) = true := by
    rw [List.all_map, List.all_eq_true]
    intro w hw
    simpa [strIn] using h2 w hw
  simp only [wordsV, strsP, this, ascV, strsOf_map, h3]; rfl
theorem fromB_ok {n : Nat} (h : n ≤ 2) : fromB (.int n) 0 2 = true := by simp [fromB]; omega
theorem people_kn {M : MM} {b : Bk} (h : PeopleOk b.people) : Kn2 M (strsP b.people) := kn2_strs (by have := h.2.1; omega) fun s hs => by have := name_len (h.2.2.1 s hs); omega
theorem word_len {w : String} (h : w ∈ WORDS) : w.length ≤ 8 := by
  revert h
  have : ∀ w ∈ WORDS, w.length ≤ 8 := by decide
  exact this w
theorem words_kn {M : MM} {b : Bk} (h : WordsOk b.words) : Kn2 M (strsP b.words) := kn2_strs (by have := h.1; omega) fun s hs => by have := word_len (h.2.1 s hs); omega
theorem bkok_fault {b : Bk} (h : BkOk b) (rf : Option String) : bookFault (strsP b.people) (.int b.longest) (.int b.most) rf (strsP b.words) = rf.map fun s => ⟨"BadRule", [("part", .str s)]⟩ := by
  simp only [bookFault, peopleV_ok h.people, fromB_ok h.l, fromB_ok h.m, wordsV_ok h.words]
  cases rf <;> simp
def ksPut (b : Bk) (p : String) (v : PV) : List (String × PV) := b.ks.map fun q => if q.1 = p then (q.1, v) else q
theorem dPut_ksPut (b : Bk) {p : String} (h : p ∈ PARTS) (v : PV) : dPut b.rule (.str p) v = kS (ksPut b p v) := by
  simp [PARTS] at h
  rcases h with rfl | rfl | rfl | rfl <;> simp [Bk.rule, ksPut, Bk.ks, kS, dPut_str]
theorem ksPut_keys (b : Bk) (p : String) (v : PV) : (ksPut b p v).map (·.1) = PARTS := by
  unfold ksPut
  rw [List.map_map]
  have : ((fun q : String × PV => q.1) ∘ fun q => if q.1 = p then (q.1, v) else q) = fun q => q.1 := by
    funext q; show (if q.1 = p then (q.1, v) else q).1 = q.1
    split <;> rfl
  rw [this]; rfl
theorem ksPut_len (b : Bk) (p : String) (v : PV) : (ksPut b p v).length = 4 := by
  have := congrArg List.length (ksPut_keys b p v)
  simpa [PARTS] using this
theorem ksPut_at (b : Bk) {p z : String} (h : p ∈ PARTS) (hz : z ∈ PARTS) (v : PV) : (ksPut b p v).lookup z = some (if z = p then v else .str (b.at z)) := by
  simp [PARTS] at h hz
  rcases h with rfl | rfl | rfl | rfl <;> rcases hz with rfl | rfl | rfl | rfl <;> simp [ksPut, Bk.ks, Bk.at, List.lookup]
theorem set_at (b : Bk) {p z : String} (h : p ∈ PARTS) (hz : z ∈ PARTS) (w : String) : (b.set p w).at z = if z = p then w else b.at z := by
  simp [PARTS] at h hz
  rcases h with rfl | rfl | rfl | rfl <;> rcases hz with rfl | rfl | rfl | rfl <;> simp [Bk.set, Bk.at]
theorem ksPut_in (b : Bk) (p : String) (v : PV) : ((ksPut b p v).all fun q => PARTS.contains q.1) = true := by
  have e : ((ksPut b p v).all fun q => PARTS.contains q.1) = ((ksPut b p v).map (·.1)).all fun z => PARTS.contains z := by rw [List.all_map]; rfl
  rw [e, ksPut_keys]; decide
theorem ksPut_fault {b : Bk} (r : RuleOk b) {p : String} (h : p ∈ PARTS) (v : PV) : ruleFault (ksPut b p v) = if strIn v (wordsOf p) = true then none else some p := by
  have g : ∀ z ∈ PARTS, goodAt (ksPut b p v) z = if z = p then strIn v (wordsOf p) else true := fun z hz => by
    simp only [goodAt, ksPut_at b h hz]
    by_cases e : z = p
    · subst e; simp
    · simp [e, strIn, r.at hz]
  have e0 : ruleFault (ksPut b p v) = PARTS.find? fun z => !(goodAt (ksPut b p v) z) := by
    simp [ruleFault, ksPut_in, ksPut_len]
    intro x y hxy hn
    have := List.all_eq_true.mp (ksPut_in b p v) _ hxy
    simp at this
    exact absurd this hn
  rw [e0]
  by_cases hv : strIn v (wordsOf p) = true
  · rw [if_pos hv, List.find?_eq_none]
    intro z hz
    rw [g z hz, hv]; simp
  · rw [if_neg hv]
    have hv' : strIn v (wordsOf p) = false := by simpa using hv
    have g2 : ∀ z ∈ PARTS, (!(goodAt (ksPut b p v) z)) = decide (z = p) := fun z hz => by
      rw [g z hz, hv']
      by_cases e : z = p <;> simp [e]
    have e1 : (PARTS.find? fun z => !(goodAt (ksPut b p v) z)) = PARTS.find? fun z => decide (z = p) := by
      have : ∀ l : List String, (∀ z ∈ l, z ∈ PARTS) → (l.find? fun z => !(goodAt (ksPut b p v) z)) = l.find? fun z => decide (z = p) := by
        intro l
        induction l with
        | nil => intro _; rfl
        | cons a t ih =>
          intro hl
          rw [List.find?_cons, List.find?_cons, g2 a (hl a List.mem_cons_self), ih fun z hz => hl z (List.mem_cons_of_mem _ hz)]
      exact this PARTS fun z hz => hz
    rw [e1]
    simp [PARTS] at h
    rcases h with rfl | rfl | rfl | rfl <;> decide
theorem set_ok {b : Bk} (h : BkOk b) {p w : String} (hp : p ∈ PARTS) (hw : w ∈ wordsOf p) : BkOk (b.set p w) := by
  obtain ⟨h1, h2, h3, ⟨a, c, d, e⟩, h5⟩ := h
  simp [PARTS] at hp
  rcases hp with rfl | rfl | rfl | rfl
  · exact ⟨h1, h2, h3, ⟨hw, c, d, e⟩, h5⟩
  · exact ⟨h1, h2, h3, ⟨a, hw, d, e⟩, h5⟩
  · exact ⟨h1, h2, h3, ⟨a, c, hw, e⟩, h5⟩
  · exact ⟨h1, h2, h3, ⟨a, c, d, hw⟩, h5⟩
def changeFault (part word : PV) : Option String := match part with
  | .str p => if PARTS.contains p = true then (if strIn word (wordsOf p) = true then none else some p) else some ""
  | _ => some ""
def C_Book_changed : Con := fun as M Q E => ∃ a b part word, as = [.ref a, part, word] ∧ BookAt M a b ∧ BkOk b ∧ Kn1 M part ∧ Kn1 M word ∧
  (∀ s, changeFault part word = some s → ∀ M', Sub M M' → E ⟨"BadRule", [("part", .str s)]⟩ M') ∧
  (∀ p w, part = .str p → word = .str w → p ∈ PARTS → w ∈ wordsOf p → ∀ a' M', BookAt M' a' (b.set p w) → Sub M M' → M a' = none → Q (.ref a') M')
theorem set_same (b : Bk) (p w : String) : (b.set p w).people = b.people ∧ (b.set p w).longest = b.longest ∧ (b.set p w).most = b.most ∧ (b.set p w).words = b.words := by
  unfold Bk.set; split <;> exact ⟨rfl, rfl, rfl, rfl⟩
theorem run_Book_changed {Γ : Gm} (K : Consts Γ) (x1 : Γ.xc.contains "BadRule" = true) (h1 : Γ.fn "is_one_of" = some (2, C_is_one_of)) (h2 : Γ.mkc "Book" = some (6, C_Book_init)) : Does Γ N_Book_changed P_Book_changed S_Book_changed C_Book_changed := by
  rintro as M Qa Ea ⟨a, b, part, word, rfl, hb, ok, kp, kw, e, q⟩ -
  obtain ⟨f1, f2, f3, f4, f5, f6⟩ := fo_book
  have x1' : "BadRule" ∈ Γ.xc := by simpa using x1
  have hb0 := hb
  obtain ⟨d, zs, g1, g2, ha, hd⟩ := hb
  simp [S_Book_changed, N_Book_changed, runSs, runS, runT, runE, runEs, K.rules, rulesP, biA, newL, h1]
  intro l hl
  obtain ⟨M1, hM1, t1, k1⟩ := fresh_put (o := .lst (List.map ((fun q => PV.str q.1) ∘ fun q => (q.1, strsP q.2)) RULES)) hl
  rw [hM1]
  refine ⟨part, PARTS, _, rfl, kp.sub t1, .inr ⟨l, rfl, k1⟩, ?_⟩
  simp only [truA]
  by_cases hp : strIn part PARTS = true
  rotate_left
  · have hp' : strIn part PARTS = false := by simpa using hp
    simp [hp', x1', exc_rule "" (repr_parts "" (by decide))]
    refine e "" ?_ M1 t1
    cases part <;> try rfl
    rename_i s
    have : PARTS.contains s = false := hp'
    simp only [changeFault, this]; rfl
  rw [hp]
  cases part
  case str p =>
    have hpc : PARTS.contains p = true := hp
    have hpm : p ∈ PARTS := by simpa using hpc
    have ha1 := t1 _ _ ha
    have hd1 := t1 _ _ hd
    simp [ha1, hd1, flds, List.lookup, f1, f3, f4, f5, f6, rule_len, h2, dPut_ksPut b hpm, simK, newD]
    refine ⟨rfl, fun d2 hd2 => ?_⟩
    have t2 := Sub.new (o := .dct (kS (ksPut b p word))) hd2
    rw [t2 _ _ ha1]
    simp [flds, List.lookup, f6]
    have kr : RuleArg (mput M1 d2 (.dct (kS (ksPut b p word)))) (.ref d2) (ruleFault (ksPut b p word)) := by
      refine .inr ⟨d2, _, rfl, mput_same, by rw [ksPut_keys]; decide, by rw [ksPut_len]; omega, fun q hq => ?_, rfl⟩
      obtain ⟨r, hr, rfl⟩ := List.mem_map.mp hq
      split
      · exact kw.sub (t1.trans t2)
      · simp [Bk.ks] at hr
        rcases hr with rfl | rfl | rfl | rfl <;> exact True.intro
    refine mk_book (people_kn ok.people) True.intro True.intro kr (words_kn ok.words) (fun x hx M' s' => ?_) fun hf => ?_
    · rw [bkok_fault ok, ksPut_fault ok.rule hpm] at hx
      by_cases hw : strIn word (wordsOf p) = true
      · rw [if_pos hw] at hx; cases hx
      · rw [if_neg hw] at hx
        cases hx
        exact e p (by simp only [changeFault, hpc, if_neg hw]; rfl) M' ((t1.trans t2).trans s')
    · rw [bkok_fault ok, ksPut_fault ok.rule hpm] at hf
      by_cases hw : strIn word (wordsOf p) = true
      rotate_left
      · rw [if_neg hw] at hf; cases hf
      cases word
      case str w =>
        have hwm : w ∈ wordsOf p := by simpa [strIn] using hw
        obtain ⟨s1, s2, s3, s4⟩ := set_same b p w
        refine ⟨b.set p w, ⟨by rw [s1], by rw [s2], by rw [s3], ⟨d2, _, rfl, mput_same, fun z hz => ?_⟩, by rw [s4], by rw [s1]; have := ok.people.2.1; omega⟩, fun a' M' hb' s' hn => ?_⟩
        · rw [ksPut_at b hpm hz, set_at b hpm hz]
          by_cases ez : z = p <;> simp [ez]
        · exact q p w rfl rfl hpm hwm a' M' hb' ((t1.trans t2).trans s') ((t1.trans t2).fresh hn)
      all_goals cases hw
  all_goals cases hp
end Law
end

section
set_option maxHeartbeats 4000000
/-! the law's draws. -/
namespace Law
open PySem L2 Rx
def rowL (c : Addr) (i x y : Int) : MO := .lst [.ref c, .int i, .int x, .int y]
def RowC (M : MM) (r c : Addr) : Prop := ∃ ns i x y, M r = some (rowL c i x y) ∧ M c = some (.lst ((ns : List Int).map .int)) ∧ 0 ≤ i ∧ 0 ≤ x
theorem RowC.sub {M M' : MM} {r c : Addr} (h : RowC M r c) (s : Sub M M') : RowC M' r c := by
  obtain ⟨ns, i, x, y, h1, h2, h3⟩ := h
  exact ⟨ns, i, x, y, s _ _ h1, s _ _ h2, h3⟩
def C_draws : Con := fun as M Q _ => ∃ (p : PV) (ns : List Int), as = [p] ∧ ns.length ≤ 1000 ∧ seqA p M = some (ns.map .int) ∧ ∀ r c M', RowC M' r c → Sub M M' → M r = none → M c = none → Q (.ref r) M'
theorem ix40 {α : Type} (a b c d : α) : atI [a, b, c, d] (0 : Int) = some a ∧ atI [a, b, c, d] (1 : Int) = some b ∧ atI [a, b, c, d] (2 : Int) = some c ∧ atI [a, b, c, d] (3 : Int) = some d := ⟨rfl, rfl, rfl, rfl⟩
theorem ix4s : ixN 4 0 = some 0 ∧ ixN 4 1 = some 1 ∧ ixN 4 2 = some 2 ∧ ixN 4 3 = some 3 := ⟨rfl, rfl, rfl, rfl⟩
theorem run_draws {Γ : Gm} : Does Γ N_law_draws P_law_draws S_law_draws C_draws := by
  rintro as M Qa Ea ⟨p, ns, rfl, hl, hp, q⟩ -
  have h6 := sz6
  simp [S_law_draws, N_law_draws, runSs, runS, runE, runEs]
  have main : newL (ns.map PV.int) M fun p M1 => 4 ≤ sizeLine ∧ newL [p, .int 0, .int 0, .int 7] M1 Qa := by
    intro c ec
    obtain ⟨M1, hM1, t1, hc⟩ := fresh_put (o := .lst (ns.map PV.int)) ec
    rw [hM1]
    refine ⟨by omega, fun r er => ?_⟩
    refine q r c _ ⟨ns, 0, 0, 7, mput_same, ?_, by omega, by omega⟩ (t1.trans (Sub.new er)) (t1.fresh er) ec
    exact (Sub.new er) _ _ hc
  unfold seqA at hp
  split at hp
  · cases hp; exact main
  · cases hp; exact main
  · split at hp
    · rename_i h; cases hp; simpa [biA, h] using main
    · cases hp
  · cases hp
def C_pick : Con := fun as M Q _ => ∃ (r c : Addr) (n : Int), as = [.ref r, .int n] ∧ 1 ≤ n ∧ n ≤ 100 ∧ RowC M r c ∧ ∀ (v : Nat) M', (v : Int) < n → RowC M' r c → Rest M M' r → Q (.int v) M'
theorem cmul_r {i j : Int} (h1 : -(2 ^ 64) < j) (h2 : j < 2 ^ 64) : CMul i j := .inr ⟨h1, h2⟩
theorem run_pick {Γ : Gm} : Does Γ N_law_pick P_law_pick S_law_pick C_pick := by
  rintro as M Qa Ea ⟨r, c, n, rfl, n1, n2, ⟨ns, i, x, y, hr, hc, hi, hx⟩, q⟩ -
  have hcr : c ≠ r := fun z => by
    rw [z, hr] at hc
    cases ns with
    | nil => simp [rowL] at hc
    | cons a t => simp [rowL] at hc
  simp [S_law_pick, N_law_pick, runSs]
  -- behind the first statement
  have tail : ∀ (g2 : Option PV) (M1 : MM) (i x y : Int), M1 r = some (rowL c i x y) → M1 c = some (.lst (ns.map .int)) → 0 ≤ i → 0 ≤ x → Rest M M1 r →
      runS Γ (fun x x_1 M => Ea x M) s2_law_pick { nx := fun g' M' => runS Γ (fun x x_1 M => Ea x M) s3_law_pick { nx := fun x M => Qa PV.non M, rt := Qa } g' M', rt := Qa } [some (.ref r), some (.int n), g2, none] M1 := by
    intro g2 M1 i x y hr hc hi hx rest
    simp [s2_law_pick, runS, runT, runE, runEs, runSs, subA, hr, rowL, ix40, cmpA, biA, binA, runTg, setA, ix4s]
    by_cases h0 : 0 < x
    · rw [if_pos h0]
      have hd : CDiv x n := ⟨by omega, by omega⟩
      have hv : 0 ≤ x % n := Int.emod_nonneg _ (by omega)
      have hv2 : x % n < n := Int.emod_lt_of_pos _ (by omega)
      refine ⟨by omega, hd, ?_⟩
      have := q (x % n).toNat (mput M1 r (rowL c i (x / n) y)) (by omega) ⟨ns, i, x / n, y, mput_same, by rw [mput_ne hcr]; exact hc, hi, Int.ediv_nonneg hx (by omega)⟩ rest.put
      rw [Int.toNat_of_nonneg hv] at this
      exact this
    · rw [if_neg h0]
      simp [s3_law_pick, runS, runE, runEs, subA, hr, rowL, ix40, biA, binA]
      have hv : 0 ≤ y * 16807 % 2147483629 % n := Int.emod_nonneg _ (by omega)
      have hv2 : y * 16807 % 2147483629 % n < n := Int.emod_lt_of_pos _ (by omega)
      refine ⟨cmul_r (by omega) (by omega), by omega, ?_⟩
      have := q (y * 16807 % 2147483629 % n).toNat M1 (by omega) ⟨ns, i, x, y, hr, hc, hi, hx⟩ rest
      rw [Int.toNat_of_nonneg hv] at this
      exact this
  simp [s1_law_pick, runS, runT, runE, runEs, runSs, subA, hr, rowL, ix40, cmpA, eqA, sEq, biA, hc, binA, runTg, setA, ix4s, mput_same]
  by_cases hx0 : x = 0
  · rw [if_pos hx0]
    subst hx0
    by_cases hil : i < (ns.length : Int)
    · rw [if_pos hil]
      have hlt : i.toNat < ns.length := by omega
      have e : atI (ns.map PV.int) i = some (.int ns[i.toNat]) := by
        have := atI_nat' (xs := ns.map PV.int) (k := i.toNat) (x := .int ns[i.toNat]) (by simp [hlt])
        rwa [Int.toNat_of_nonneg hi] at this
      simp [e, mput_mput]
      refine ⟨⟨by omega, by omega, by decide⟩, ?_⟩
      have hc' : ∀ o, mput M r o c = some (.lst (ns.map .int)) := fun o => by rw [mput_ne hcr]; exact hc
      by_cases hbig : (1000000000000000000 : Int) ≤ ns[i.toNat]
      · rw [if_pos hbig]
        exact tail _ _ (i + 1) _ _ mput_same (hc' _) (by omega) (by omega) (Rest.refl M r).put
      · rw [if_neg hbig]
        refine ⟨cmul_r (by omega) (by omega), cmul_r (by omega) (by omega), ?_⟩
        exact tail _ _ (i + 1) _ _ mput_same (hc' _) (by omega) (by omega) (Rest.refl M r).put
    · rw [if_neg hil]
      refine ⟨cmul_r (by omega) (by omega), ?_⟩
      exact tail _ _ i _ _ mput_same (by rw [mput_ne hcr]; exact hc) (by omega) (by omega) (Rest.refl M r).put
  · rw [if_neg hx0]
    exact tail _ _ i _ _ hr hc hi hx (Rest.refl M r)
/-- the parts and their words -/
def PartsAt (M : MM) (p : Addr) : Prop := ∃ l1 l2 l3 l4, M p = some (.lst [.tup [.str "back", .ref l1], .tup [.str "count", .ref l2], .tup [.str "end", .ref l3], .tup [.str "gap", .ref l4]]) ∧
  M l1 = some (.lst [.str "both", .str "ends", .str "stays"]) ∧ M l2 = some (.lst [.str "all", .str "direct", .str "handed"]) ∧ M l3 = some (.lst [.str "falls", .str "stays"]) ∧ M l4 = some (.lst [.str "next", .str "none", .str "owner"])
def C_parts : Con := fun as M Q _ => as = [] ∧ ∀ p M', PartsAt M' p → Sub M M' → M p = none → Q (.ref p) M'
theorem run_parts {Γ : Gm} : Does Γ N_law_parts P_law_parts S_law_parts C_parts := by
  rintro as M Qa Ea ⟨rfl, q⟩ -
  have h6 := sz6
  have z2 : 2 ≤ sizeLine := by omega
  have z3 : 3 ≤ sizeLine := by omega
  simp [S_law_parts, N_law_parts, runSs, runS, runE, runEs, runTg, newL, z2, z3]
  intro l1 e1
  obtain ⟨M1, hM1, t1, k1⟩ := fresh_put (o := .lst [.str "both", .str "ends", .str "stays"]) e1
  rw [hM1]
  intro l2 e2
  obtain ⟨M2, hM2, t2, k2⟩ := fresh_put (o := .lst [.str "all", .str "direct", .str "handed"]) e2
  rw [hM2]
  intro p e3
  obtain ⟨M3, hM3, t3, k3⟩ := fresh_put (o := .lst [.tup [.str "back", .ref l1], .tup [.str "count", .ref l2]]) e3
  rw [hM3]
  intro l3 e4
  obtain ⟨M4, hM4, t4, k4⟩ := fresh_put (o := .lst [.str "falls", .str "stays"]) e4
  rw [hM4]
  intro l4 e5
  obtain ⟨M5, hM5, t5, k5⟩ := fresh_put (o := .lst [.str "next", .str "none", .str "owner"]) e5
  rw [hM5]
  intro p2 e6
  obtain ⟨M6, hM6, t6, k6⟩ := fresh_put (o := .lst [.tup [.str "end", .ref l3], .tup [.str "gap", .ref l4]]) e6
  rw [hM6]
  have k3' := t6 _ _ (t5 _ _ (t4 _ _ k3))
  simp [binA, k6, k3']
  refine ⟨by omega, fun p3 e7 => ?_⟩
  have t7 := Sub.new (o := .lst [.tup [.str "back", .ref l1], .tup [.str "count", .ref l2], .tup [.str "end", .ref l3], .tup [.str "gap", .ref l4]]) e7
  have tt := ((((t1.trans t2).trans t3).trans t4).trans t5).trans t6
  refine q p3 _ ⟨l1, l2, l3, l4, mput_same, ?_, ?_, ?_, ?_⟩ (tt.trans t7) (tt.fresh e7)
  · exact t7 _ _ (t6 _ _ (t5 _ _ (t4 _ _ (t3 _ _ (t2 _ _ k1)))))
  · exact t7 _ _ (t6 _ _ (t5 _ _ (t4 _ _ (t3 _ _ k2))))
  · exact t7 _ _ (t6 _ _ (t5 _ _ k4))
  · exact t7 _ _ (t6 _ _ k5)
end Law
end

section
set_option maxHeartbeats 4000000
/-! the drawn rule, people. -/
namespace Law
open PySem L2 Rx
def kvOf (ws : List String) : List (PV × PV) := (PARTS.zip ws).map fun q => (.str q.1, .str q.2)
def WsOk (ws : List String) : Prop := ∀ (i : Nat) (w : String), ws[i]? = some w → ∃ z, PARTS[i]? = some z ∧ w ∈ wordsOf z
def itemsL (l1 l2 l3 l4 : Addr) : List PV := [.tup [.str "back", .ref l1], .tup [.str "count", .ref l2], .tup [.str "end", .ref l3], .tup [.str "gap", .ref l4]]
def C_law_rule : Con := fun as M Q _ => ∃ r c : Addr, as = [.ref r] ∧ RowC M r c ∧ ∀ d M' (b : Bk), RuleOk b → M' d = some (.dct b.rule) → RowC M' r c → Rest M M' r → M d = none → Q (.ref d) M'
theorem wsok_snoc {ws : List String} {z w : String} (h : WsOk ws) (hz : PARTS[ws.length]? = some z) (hw : w ∈ wordsOf z) : WsOk (ws ++ [w]) := fun i u hu => by
  by_cases hi : i < ws.length
  · rw [List.getElem?_append_left hi] at hu; exact h i u hu
  · have hi2 : i = ws.length := by
      have := (List.getElem?_eq_some_iff.mp hu).1
      simp at this; omega
    subst hi2
    simp at hu
    subst hu
    exact ⟨z, hz, hw⟩
theorem run_law_rule {Γ : Gm} (h1 : Γ.fn "_law_parts" = some (0, C_parts)) (h2 : Γ.fn "_law_pick" = some (2, C_pick)) : Does Γ N_law_rule P_law_rule S_law_rule C_law_rule := by
  rintro as M Qa Ea ⟨r, c, rfl, hr, q⟩ -
  have h6 := sz6
  simp [S_law_rule, N_law_rule, runSs]
  simp [s1_law_rule, runS, runE, runPs, runTg, mput_same, mput_mput]
  intro f ef
  obtain ⟨M1, hM1, t1, hf1⟩ := fresh_put (o := .dct []) ef
  rw [hM1]
  have hrf : r ≠ f := fun z => by obtain ⟨ns, i, x, y, g1, _⟩ := hr; rw [z, ef] at g1; cases g1
  simp [s2_law_rule, runS, runE, runEs, runI, h1, C_parts]
  intro p M2 pa2 t2 ep
  obtain ⟨l1, l2, l3, l4, hp, k1, k2, k3, k4⟩ := pa2
  simp [itA, hp]
  have hrow2 := (hr.sub t1).sub t2
  have hf2 := t2 _ _ hf1
  have rowne : ∀ {x : Addr} {s : String} {ps : List PV}, M2 x = some (.lst (.str s :: ps)) → x ≠ r := fun {x s ps} h z => by
    obtain ⟨ns, i, x', y, g1, _⟩ := hrow2
    rw [z, g1] at h; simp [rowL] at h
  have lf : ∀ {x : Addr} {ps : List PV}, M2 x = some (.lst ps) → x ≠ f := fun {x ps} h z => by rw [z, hf2] at h; cases h
  have pne : p ≠ r := fun z => by
    obtain ⟨ns, i, x', y, g1, _⟩ := hrow2
    rw [z, g1] at hp; simp [rowL] at hp
  refine forF_inv (fun xs g M' => ∃ ws : List String, ws.length ≤ 4 ∧ xs = (itemsL l1 l2 l3 l4).drop ws.length ∧ (∃ a b, g = [some (.ref r), some (.ref f), a, b]) ∧ M' f = some (.dct (kvOf ws)) ∧ RowC M' r c ∧ WsOk ws ∧ ∀ x o, x ≠ r → x ≠ f → M2 x = some o → M' x = some o) ?_ ?_ ?_ ?_
  · rintro xs g M' ⟨ws, _, _, _, _, _, _, w⟩
    exact w p _ pne (lf hp) hp
  · rintro g M' ⟨ws, w1, w2, ⟨a, b, rfl⟩, w4, w5, w6, w7⟩
    have hl : ws.length = 4 := by
      have := congrArg List.length w2
      simp [itemsL] at this; omega
    obtain ⟨x1, x2, x3, x4, rfl⟩ : ∃ x1 x2 x3 x4, ws = [x1, x2, x3, x4] := by
      rcases ws with _ | ⟨x1, _ | ⟨x2, _ | ⟨x3, _ | ⟨x4, _ | ⟨x5, r⟩⟩⟩⟩⟩
      · cases hl
      · cases hl
      · cases hl
      · cases hl
      · exact ⟨x1, x2, x3, x4, rfl⟩
      · simp at hl
    have m1 : x1 ∈ wordsOf "back" := by obtain ⟨z, a1, a2⟩ := w6 0 x1 rfl; cases a1; exact a2
    have m2 : x2 ∈ wordsOf "count" := by obtain ⟨z, a1, a2⟩ := w6 1 x2 rfl; cases a1; exact a2
    have m3 : x3 ∈ wordsOf "end" := by obtain ⟨z, a1, a2⟩ := w6 2 x3 rfl; cases a1; exact a2
    have m4 : x4 ∈ wordsOf "gap" := by obtain ⟨z, a1, a2⟩ := w6 3 x4 rfl; cases a1; exact a2
    simp [s3_law_rule, runS, runE]
    refine q f M' ⟨[], 0, 0, x1, x2, x3, x4, []⟩ ⟨m1, m2, m3, m4⟩ w4 w5 (fun x o hx e => ?_) ef
    exact w7 x o hx (fun z => by rw [z, ef] at e; cases e) (t2 _ _ (t1 _ _ e))
  rotate_left
  · exact ⟨[], by simp, rfl, ⟨_, _, rfl⟩, hf2, hrow2, fun i w h => by simp at h, fun x o _ _ e => e⟩
  · rintro x xs g M' ⟨ws, w1, w2, ⟨a, b, rfl⟩, w4, w5, w6, w7⟩ Dn d1 d2 d3 d4
    have main : ∀ (z : String) (l : Addr), PARTS[ws.length]? = some z → x = .tup [.str z, .ref l] → xs = (itemsL l1 l2 l3 l4).drop (ws.length + 1) → ws.length + 1 ≤ 4 → M' l = some (.lst ((wordsOf z).map .str)) → 1 ≤ (wordsOf z).length → (wordsOf z).length ≤ 100 →
        (∀ w, dPut (kvOf ws) (.str z) (.str w) = kvOf (ws ++ [w])) →
        runTg Γ (Tg.tup (Tgs.cons (Tg.name 2) (Tgs.cons (Tg.name 3) Tgs.nil))) (fun x x_1 M => Ea x M) x [some (.ref r), some (.ref f), a, b] M' fun g2 M2 => runSs Γ (fun x x_1 M => Ea x M) B1_law_rule Dn g2 M2 := by
      intro z l e1 e2 e3 e4 e5 e6 e7 e8
      subst e2
      simp [runTg, runTgs, tgsLen, B1_law_rule, runSs, runS, runE, runEs, biA, e5, h2]
      refine ⟨r, c, ((wordsOf z).length : Int), rfl, by omega, by omega, w5, fun v M3 hv hr3 r3 => ?_⟩
      have hlr : l ≠ r := fun w => by
        obtain ⟨ns, i, x', y, g1, _⟩ := w5
        rw [w, g1] at e5
        cases hz : wordsOf z with
        | nil => rw [hz] at e6; simp at e6
        | cons u t => rw [hz] at e5; simp [rowL] at e5
      have e5' := r3 _ _ hlr e5
      have hvl : v < (wordsOf z).length := by omega
      have ea : atI ((wordsOf z).map PV.str) (v : Int) = some (.str (wordsOf z)[v]) := atI_nat' (by simp [hvl])
      have hf3 := r3 _ _ (Ne.symm hrf) w4
      simp [subA, e5', ea, setA, hf3, keyOk_str, e8]
      have hk : (kvOf ws).length ≤ 4 := by simp [kvOf, PARTS]; omega
      refine ⟨by omega, d1 _ _ ⟨ws ++ [(wordsOf z)[v]], by simp; omega, by simpa using e3, ⟨_, _, rfl⟩, mput_same, ?_, wsok_snoc w6 e1 (List.getElem_mem hvl), fun x o hx hf e => ?_⟩⟩
      · obtain ⟨ns, i, x', y, g1, g2, g3⟩ := hr3
        have hcf : c ≠ f := fun w => by rw [w, hf3] at g2; cases g2
        exact ⟨ns, i, x', y, by rw [mput_ne hrf]; exact g1, by rw [mput_ne hcf]; exact g2, g3⟩
      · rw [mput_ne hf]; exact r3 x o hx (w7 x o hx hf e)
    have hl4 : ws.length < 4 := by
      have := congrArg List.length w2
      simp [itemsL] at this; omega
    have hl' : ws.length = 0 ∨ ws.length = 1 ∨ ws.length = 2 ∨ ws.length = 3 := by omega
    rcases hl' with hl | hl | hl | hl
    · obtain rfl : ws = [] := List.eq_nil_of_length_eq_zero hl
      have e : x = .tup [.str "back", .ref l1] ∧ xs = (itemsL l1 l2 l3 l4).drop 1 := by simpa [itemsL] using w2
      exact main "back" l1 rfl e.1 e.2 (by omega) (w7 _ _ (rowne k1) (lf k1) k1) (by decide) (by decide) (fun w => by simp [kvOf, PARTS, dPut_nil])
    · obtain ⟨u1, rfl⟩ : ∃ u1, ws = [u1] := List.length_eq_one_iff.mp hl
      have e : x = .tup [.str "count", .ref l2] ∧ xs = (itemsL l1 l2 l3 l4).drop 2 := by simpa [itemsL] using w2
      exact main "count" l2 rfl e.1 e.2 (by omega) (w7 _ _ (rowne k2) (lf k2) k2) (by decide) (by decide) (fun w => by simp [kvOf, PARTS, dPut_nil, dPut_str])
    · obtain ⟨u1, u2, rfl⟩ : ∃ u1 u2, ws = [u1, u2] := by
        rcases ws with _ | ⟨u1, _ | ⟨u2, _ | ⟨u3, t⟩⟩⟩
        · cases hl
        · cases hl
        · exact ⟨u1, u2, rfl⟩
        · simp at hl
      have e : x = .tup [.str "end", .ref l3] ∧ xs = (itemsL l1 l2 l3 l4).drop 3 := by simpa [itemsL] using w2
      exact main "end" l3 rfl e.1 e.2 (by omega) (w7 _ _ (rowne k3) (lf k3) k3) (by decide) (by decide) (fun w => by simp [kvOf, PARTS, dPut_nil, dPut_str])
    · obtain ⟨u1, u2, u3, rfl⟩ : ∃ u1 u2 u3, ws = [u1, u2, u3] := by
        rcases ws with _ | ⟨u1, _ | ⟨u2, _ | ⟨u3, _ | ⟨u4, t⟩⟩⟩⟩
        · cases hl
        · cases hl
        · cases hl
        · exact ⟨u1, u2, u3, rfl⟩
        · simp at hl
      have e : x = .tup [.str "gap", .ref l4] ∧ xs = (itemsL l1 l2 l3 l4).drop 4 := by simpa [itemsL] using w2
      exact main "gap" l4 rfl e.1 e.2 (by omega) (w7 _ _ (rowne k4) (lf k4) k4) (by decide) (by decide) (fun w => by simp [kvOf, PARTS, dPut_nil, dPut_str])
theorem PeopleOk.perm {a b : List String} (h : PeopleOk a) (p : b.Perm a) : PeopleOk b :=
  ⟨by rw [p.length_eq]; exact h.1, by rw [p.length_eq]; exact h.2.1, fun s hs => h.2.2.1 s (p.mem_iff.mp hs), p.nodup_iff.mpr h.2.2.2⟩
def C_law_people : Con := fun as M Q _ => ∃ (r c : Addr) (n : Nat), as = [.ref r, .int n] ∧ 2 ≤ n ∧ n ≤ 3 ∧ RowC M r c ∧ ∀ (ss : List String) M', PeopleOk ss → RowC M' r c → Rest M M' r → Q (strsP ss) M'
theorem names_ok {n : Nat} (h2 : 2 ≤ n) (h3 : n ≤ 3) : PeopleOk (["ann", "bo", "cy"].take n) := by
  have : n = 2 ∨ n = 3 := by omega
  rcases this with rfl | rfl
  · exact ⟨by decide, by decide, by decide, by decide⟩
  · exact ⟨by decide, by decide, by decide, by decide⟩
theorem run_law_people {Γ : Gm} (h2 : Γ.fn "_law_pick" = some (2, C_pick)) : Does Γ N_law_people P_law_people S_law_people C_law_people := by
  rintro as M Qa Ea ⟨r, c, n, rfl, n2, n3, hr, q⟩ -
  have h6 := sz6
  have z3 : 3 ≤ sizeLine := by omega
  simp [S_law_people, N_law_people, runSs]
  simp [s1_law_people, runS, runE, runEs, runO, runTg, newL, z3]
  intro p0 e0
  obtain ⟨M1, hM1, t1, k1⟩ := fresh_put (o := .lst [.str "ann", .str "bo", .str "cy"]) e0
  rw [hM1]
  simp [slcA, k1, cut_to]
  intro p e
  obtain ⟨M2, hM2, t2, k2⟩ := fresh_put (o := .lst (List.take n [PV.str "ann", .str "bo", .str "cy"])) e
  rw [hM2]
  have ek : List.take n [PV.str "ann", .str "bo", .str "cy"] = (["ann", "bo", "cy"].take n).map PV.str := by rw [List.map_take]; rfl
  rw [ek] at k2
  have po := names_ok n2 n3
  generalize ["ann", "bo", "cy"].take n = ss0 at k2 po
  have hr2 := (hr.sub t1).sub t2
  have hrp : p ≠ r := fun z => by obtain ⟨ns, i, x, y, g1, _⟩ := hr.sub t1; rw [z, g1] at e; cases e
  have hpM : M p = none := t1.fresh e
  simp [s2_law_people, runS, runT, runE, runEs, h2, runSs]
  refine ⟨r, c, 2, rfl, by omega, by omega, hr2, fun v M3 hv hr3 r3 => ?_⟩
  -- the second half
  have rowp : ∀ {M : MM} {o : MO} {ps : List PV}, RowC M r c → M p = some (.lst ps) → (∀ a t, ps = a :: t → ∃ s, a = .str s) → ps ≠ [] → RowC (mput M p o) r c := fun {M o ps} hr hp hs hne => by
    obtain ⟨ns, i, x, y, g1, g2, g3⟩ := hr
    have hcp : c ≠ p := fun w => by
      rw [w, hp] at g2
      cases ps with
      | nil => exact hne rfl
      | cons a t =>
        obtain ⟨s, rfl⟩ := hs a t rfl
        cases ns <;> simp at g2
    exact ⟨ns, i, x, y, by rw [mput_ne (Ne.symm hrp)]; exact g1, by rw [mput_ne hcp]; exact g2, g3⟩
  have half : ∀ (ss : List String) (M3 : MM), PeopleOk ss → M3 p = some (.lst (ss.map .str)) → RowC M3 r c → Rest M M3 r →
      runS Γ (fun x x_1 M => Ea x M) s3_law_people { nx := fun g' M' => runS Γ (fun x x_1 M => Ea x M) s4_law_people { nx := fun x M => Qa PV.non M, rt := Qa } g' M', rt := Qa } [some (.ref r), some (.int n), some (.ref p)] M3 := by
    intro ss M3 po k3 hr3 r3
    simp [s3_law_people, runS, runT, runE, runEs, h2, runSs]
    refine ⟨r, c, 2, rfl, by omega, by omega, hr3, fun v M4 hv hr4 r4 => ?_⟩
    have k4 := r4 _ _ hrp k3
    simp [cmpA, eqA, sEq]
    by_cases h0 : v = 0
    · rw [if_pos h0]
      have ec : cutP (ss.map PV.str) (some 1) none = (ss.drop 1).map PV.str := by
        have := cut_from (xs := ss.map PV.str) (k := 1)
        rw [List.map_drop]; exact this
      have ec2 : cutP (ss.map PV.str) none (some 1) = (ss.take 1).map PV.str := by
        have := cut_to (xs := ss.map PV.str) (k := 1)
        rw [List.map_take]; exact this
      simp only [runO, runE, List.getElem?_cons_succ, List.getElem?_cons_zero, slcA, k4, ec]
      intro p1 e1
      obtain ⟨M5, hM5, t5, k5⟩ := fresh_put (o := .lst ((ss.drop 1).map PV.str)) e1
      rw [hM5]
      have k45 := t5 _ _ k4
      simp only [k45, ec2]
      intro p2 e2
      obtain ⟨M6, hM6, t6, k6⟩ := fresh_put (o := .lst ((ss.take 1).map PV.str)) e2
      rw [hM6]
      have k56 := t6 _ _ k5
      have hl : ss.length ≤ 3 := po.2.1
      simp only [binA, k6, k56]
      refine ⟨by simp; omega, fun p3 e3 => ?_⟩
      have ee : (ss.drop 1).map PV.str ++ (ss.take 1).map PV.str = (ss.drop 1 ++ ss.take 1).map PV.str := by rw [List.map_append]
      rw [ee]
      have t7 := Sub.new (o := .lst ((ss.drop 1 ++ ss.take 1).map PV.str)) e3
      have tt := (t5.trans t6).trans t7
      simp only [runTg, s4_law_people, runS, runE, runEs, biA, List.set, List.getElem?_cons_succ, List.getElem?_cons_zero, mput_same]
      refine q _ _ (po.perm ?_) (hr4.sub tt) ((r3.trans r4).sub tt)
      have := List.perm_append_comm (l₁ := ss.drop 1) (l₂ := ss.take 1)
      rwa [List.take_append_drop] at this
    · rw [if_neg h0]
      simp [s4_law_people, runS, runE, runEs, biA, k4]
      exact q ss M4 po hr4 (r3.trans r4)
  simp [cmpA, eqA, sEq]
  have k3 := r3 _ _ hrp k2
  have rM3 : Rest M M3 r := (Rest.of_sub (t1.trans t2)).trans r3
  by_cases h0 : v = 0
  · rw [if_pos h0]
    simp [tyA, k3, bmA]
    rw [← List.map_reverse]
    refine half ss0.reverse _ (po.perm (List.reverse_perm ss0)) mput_same (rowp hr3 k3 ?_ ?_) ?_
    · intro a t e
      cases ss0 with
      | nil => cases e
      | cons u w => simp at e; exact ⟨u, e.1.symm⟩
    · intro z
      have := po.1
      have e2 := congrArg List.length z
      simp at e2; rw [e2] at this; simp at this
    · intro x o hx ex
      rw [mput_ne (fun w => by rw [w, hpM] at ex; cases ex)]
      exact rM3 x o hx ex
  · rw [if_neg h0]
    exact half ss0 M3 po k3 hr3 rM3
end Law
end

section
set_option maxHeartbeats 4000000
/-! the drawn parts of a book, made. -/
namespace Law
open PySem L2 Rx
def tabL (b : Bk) (d : Addr) : List (PV × PV) := [(.str "people", strsP b.people), (.str "longest", .int b.longest), (.str "most", .int b.most), (.str "rule", .ref d), (.str "words", strsP b.words)]
def TAt (M : MM) (t : Addr) (b : Bk) : Prop := ∃ d, M t = some (.dct (tabL b d)) ∧ M d = some (.dct b.rule)
def subsOf : List String → List (List String)
  | [] => [[]]
  | x :: l => subsOf l ++ (subsOf l).map (x :: ·)
theorem mem_subs : ∀ {l ws : List String}, ws.Sublist l → ws ∈ subsOf l
  | _, _, .slnil => by simp [subsOf]
  | _, _, .cons a h => by
    unfold subsOf
    exact List.mem_append_left _ (mem_subs h)
  | _, _, .cons₂ a h => by
    unfold subsOf
    exact List.mem_append_right _ (List.mem_map.mpr ⟨_, mem_subs h, rfl⟩)
def wordsOkB (ws : List String) : Bool := decide (ws.length ≤ 5) && (ws.all (fun w => WORDS.contains w) && (ws.zip (ws.drop 1)).all (fun p => sLt p.1 p.2))
theorem subs_ok : (subsOf WORDS).all wordsOkB = true := by decide +kernel
theorem words_sub {ws : List String} (h : ws.Sublist WORDS) : WordsOk ws := by
  have h1 := List.all_eq_true.mp subs_ok ws (mem_subs h)
  unfold wordsOkB at h1
  have a := (Bool.and_eq_true_iff.mp h1).1
  have b := Bool.and_eq_true_iff.mp (Bool.and_eq_true_iff.mp h1).2
  exact ⟨of_decide_eq_true a, fun w hw => by simpa using List.all_eq_true.mp b.1 w hw, b.2⟩
def C_drawn : Con := fun as M Q _ => ∃ (r c : Addr) (a lo mo : Nat), as = [.ref r, .int a, .int lo, .int mo] ∧ 2 ≤ a ∧ a ≤ 3 ∧ lo ≤ 2 ∧ mo ≤ 2 ∧ RowC M r c ∧ ∀ t M' (b : Bk), BkOk b → TAt M' t b → RowC M' r c → Rest M M' r → M t = none → Q (.ref t) M'
theorem run_drawn {Γ : Gm} (h1 : Γ.fn "_law_pick" = some (2, C_pick)) (h2 : Γ.fn "_law_people" = some (2, C_law_people)) (h3 : Γ.fn "_law_rule" = some (1, C_law_rule)) : Does Γ N_law_drawn P_law_drawn S_law_drawn C_drawn := by
  rintro as M Qa Ea ⟨r, c, a, lo, mo, rfl, a2, a3, l2, m2, hr, q⟩ -
  have h6 := sz6
  have z2 : 2 ≤ sizeLine := by omega
  have z5 : 5 ≤ sizeLine := by omega
  simp [S_law_drawn, N_law_drawn, runSs]
  simp [s1_law_drawn, runS, runE, runEs, runPs, runTg, h1, h2, binA]
  intro t et
  obtain ⟨M1, hM1, t1, k1⟩ := fresh_put (o := .kdc []) et
  rw [hM1]
  have hr1 := hr.sub t1
  have htr : t ≠ r := fun z => by obtain ⟨ns, i, x, y, g1, _⟩ := hr; rw [z, g1] at et; cases et
  refine ⟨r, c, (a : Int) - 1, rfl, by omega, by omega, hr1, fun v M2 hv hr2 r2 => ?_⟩
  refine ⟨r, c, 2 + v, by simp, by omega, by omega, hr2, fun ss M3 po hr3 r3 => ?_⟩
  refine ⟨r, c, (lo : Int) + 1, rfl, by omega, by omega, hr3, fun v2 M4 hv2 hr4 r4 => ?_⟩
  have k4 : M4 t = some (.kdc []) := r4 _ _ htr (r3 _ _ htr (r2 _ _ htr k1))
  simp [simK, k4, dPut_nil, dPut_str]
  obtain ⟨M5, hM5, k5⟩ : ∃ M5, mput M4 t (.dct [(.str "people", strsP ss), (.str "longest", .int v2)]) = M5 ∧ M5 t = some (.dct [(.str "people", strsP ss), (.str "longest", .int v2)]) := ⟨_, rfl, mput_same⟩
  rw [hM5]
  have rowt : ∀ {M' M'' : MM} {o : MO}, RowC M' r c → (∀ x, M' t = some (.lst x) → False) → mput M' t o = M'' → RowC M'' r c := fun {M' M'' o} hr hn e => by
    obtain ⟨ns, i, x, y, g1, g2, g3⟩ := hr
    have hct : c ≠ t := fun w => by rw [w] at g2; exact hn _ g2
    subst e
    exact ⟨ns, i, x, y, by rw [mput_ne (Ne.symm htr)]; exact g1, by rw [mput_ne hct]; exact g2, g3⟩
  have hr5 : RowC M5 r c := rowt hr4 (fun x e => by rw [k4] at e; cases e) hM5
  have r15 : Rest M M5 r := fun x o hx e => by
    rw [← hM5, mput_ne (fun w => by rw [w, et] at e; cases e)]
    exact r4 x o hx (r3 x o hx (r2 x o hx (t1 x o e)))
  simp [s2_law_drawn, runS, runE, runEs, runTg, runTgs, tgsLen, h1, h3, binA]
  refine ⟨r, c, (mo : Int) + 1, rfl, by omega, by omega, hr5, fun v3 M6 hv3 hr6 r6 => ?_⟩
  refine ⟨r, c, rfl, hr6, fun d M7 b0 ro hd hr7 r7 ed => ?_⟩
  have k7 := r7 _ _ htr (r6 _ _ htr k5)
  have hdt : d ≠ t := fun w => by rw [w, r6 _ _ htr k5] at ed; cases ed
  simp [z2, setA, k7, keyOk_str, dPut_str, dPut_nil, mput_same, mput_mput]
  refine ⟨by omega, by omega, ?_⟩
  obtain ⟨M8, hM8, k8⟩ : ∃ M8, mput M7 t (.dct [(.str "people", strsP ss), (.str "longest", .int v2), (.str "most", .int v3), (.str "rule", .ref d)]) = M8 ∧ M8 t = some (.dct [(.str "people", strsP ss), (.str "longest", .int v2), (.str "most", .int v3), (.str "rule", .ref d)]) := ⟨_, rfl, mput_same⟩
  rw [hM8]
  have hr8 : RowC M8 r c := rowt hr7 (fun x e => by rw [k7] at e; cases e) hM8
  have hd8 : M8 d = some (.dct b0.rule) := by rw [← hM8, mput_ne hdt]; exact hd
  have r18 : Rest M M8 r := fun x o hx e => by
    rw [← hM8, mput_ne (fun w => by rw [w, et] at e; cases e)]
    exact r7 x o hx (r6 x o hx (r15 x o hx e))
  simp [s3_law_drawn, runS, runE, runEs, runI, runTg, newL, z5]
  intro p ep
  obtain ⟨M9, hM9, t9, k9⟩ := fresh_put (o := .lst (WORDS.map PV.str)) ep
  have hM9' : mput M8 p (.lst [.str "away", .str "hand", .str "refuse", .str "swap", .str "take"]) = M9 := hM9
  rw [hM9']
  have k9' : M9 p = some (.lst [.str "away", .str "hand", .str "refuse", .str "swap", .str "take"]) := k9
  simp [itA, k9']
  intro D eD
  have hr9 := hr8.sub t9
  have hDr : D ≠ r := fun z => by obtain ⟨ns, i, x, y, g1, _⟩ := hr9; rw [z, g1] at eD; cases eD
  have hpr : p ≠ r := fun z => by obtain ⟨ns, i, x, y, g1, _⟩ := hr8; rw [z, g1] at ep; cases ep
  have hDp : p ≠ D := fun z => by rw [← z, k9] at eD; cases eD
  have hDt : t ≠ D := fun z => by rw [← z, t9 _ _ k8] at eD; cases eD
  have hDd : d ≠ D := fun z => by rw [← z, t9 _ _ hd8] at eD; cases eD
  have hcD : c ≠ D := fun w => by obtain ⟨ns, i, x, y, g1, g2, g3, g4⟩ := hr9; rw [w, eD] at g2; cases g2
  have rowD : ∀ {M' : MM} {o : MO}, RowC M' r c → RowC (mput M' D o) r c := fun {M' o} hr => by
    obtain ⟨ns, i, x, y, g1, g2, g3⟩ := hr
    exact ⟨ns, i, x, y, by rw [mput_ne (Ne.symm hDr)]; exact g1, by rw [mput_ne hcD]; exact g2, g3⟩
  -- which cells the row has is kept beside D
  have row9 := hr9
  refine lcF_inv (fun xs acc M' => ∃ (ws : List String) (j : Nat), j ≤ 5 ∧ xs = (WORDS.drop j).map PV.str ∧ acc = ws.map PV.str ∧ ws.Sublist (WORDS.take j) ∧ M' D = some (.lst acc) ∧ RowC M' r c ∧ ∀ x o, x ≠ r → x ≠ D → M9 x = some o → M' x = some o) ?_ ?_ ?_ ?_ ?_
  · rintro xs acc M' ⟨ws, j, _, _, _, _, _, _, w⟩
    exact w p _ hpr hDp k9
  · rintro xs acc M' ⟨ws, j, w1, _, rfl, w4, _⟩
    have := w4.length_le
    simp [WORDS] at this
    simp; omega
  · rintro acc M' ⟨ws, j, w1, w2, rfl, w4, w5, w6, w7⟩
    have ej : j = 5 := by
      have := congrArg List.length w2
      simp [WORDS] at this; omega
    subst ej
    have wsub : ws.Sublist WORDS := w4
    have wok := words_sub wsub
    have kt := w7 _ _ htr hDt (t9 _ _ k8)
    simp [id, biA, w5, setA, kt, keyOk_str, dPut_str, dPut_nil]
    refine ⟨by omega, ?_⟩
    simp [s4_law_drawn, runS, runE]
    have hdr : d ≠ r := fun z => by obtain ⟨ns, i, x, y, g1, _⟩ := hr8; rw [z, g1] at hd8; cases hd8
    refine q t _ ⟨ss, v2, v3, b0.r1, b0.r2, b0.r3, b0.r4, ws⟩ ⟨po, by show v2 ≤ 2; omega, by show v3 ≤ 2; omega, ⟨ro.m1, ro.m2, ro.m3, ro.m4⟩, wok⟩ ⟨d, mput_same, ?_⟩ ?_ (fun x o hx e => ?_) et
    · rw [mput_ne hdt]; exact w7 _ _ hdr hDd (t9 _ _ hd8)
    · exact rowt w6 (fun x e => by rw [kt] at e; cases e) rfl
    · rw [mput_ne (fun w => by rw [w, et] at e; cases e)]
      have e9 := t9 _ _ (r18 x o hx e)
      exact w7 x o hx (fun w => by rw [w, eD] at e9; cases e9) e9
  · rintro x xs acc M' ⟨ws, j, w1, w2, rfl, w4, w5, w6, w7⟩ Kt Kf hK1 hK2
    have hj : j < 5 := by
      have := congrArg List.length w2
      simp [WORDS] at this; omega
    have hw : WORDS[j]? = some WORDS[j] := List.getElem?_eq_getElem hj
    have w2' : (WORDS.drop j).map PV.str = .str WORDS[j] :: (WORDS.drop (j + 1)).map PV.str := by
      rw [List.drop_eq_getElem_cons hj]; rfl
    rw [w2'] at w2
    obtain ⟨rfl, rfl⟩ := List.cons.inj w2
    simp [runTg, runC, wipeG, T1_law_drawn, runT, runE, runEs, h1]
    refine ⟨r, c, 4, rfl, by omega, by omega, w6, fun v M2' hv hrm rm => ?_⟩
    have hD2 := rm _ _ hDr w5
    have et' : WORDS.take (j + 1) = WORDS.take j ++ [WORDS[j]] := by rw [List.take_succ, hw]; rfl
    simp [cmpA]
    by_cases h0 : 0 < v
    · rw [if_pos h0]
      refine hK1 _ _ hD2 ⟨ws ++ [WORDS[j]], j + 1, by omega, rfl, by simp, ?_, mput_same, ?_, fun x o hx hxD e => ?_⟩
      · rw [et']; exact w4.append (List.Sublist.refl _)
      · exact rowD hrm
      · rw [mput_ne hxD]; exact rm x o hx (w7 x o hx hxD e)
    · rw [if_neg h0]
      refine hK2 _ hD2 ⟨ws, j + 1, by omega, rfl, rfl, ?_, hD2, hrm, fun x o hx hxD e => rm x o hx (w7 x o hx hxD e)⟩
      rw [et']; exact w4.trans (List.sublist_append_left _ _)
  · exact ⟨[], 0, by omega, rfl, rfl, List.Sublist.refl _, mput_same, rowD hr9, fun x o _ hxD e => by rw [mput_ne hxD]; exact e⟩
end Law
end

section
set_option maxHeartbeats 4000000
/-! days: standings as data, what the small defs compute. -/
namespace Law
open PySem L2 Rx
abbrev Link := Option (String × Option Nat)
/-- a standing -/
structure St where
  order : List String
  turn : Nat
  away : List String
  lent : List Link
  counts : List Int
  deriving DecidableEq
def dayP : Option Nat → PV
  | some d => .int d
  | none => .non
def linkP : Link → PV
  | some (q, d) => .tup [.str q, dayP d]
  | none => .non
def stP (s : St) : PV := .tup [strsP s.order, .int s.turn, strsP s.away, .tup (s.lent.map linkP), .tup (s.counts.map .int)]
/-- deeds -/
inductive Deed where
  | away (p : String)
  | back (p : String)
  | hand (p q : String) (d : Nat)
  | night
  | refuse (p : String)
  | swap (p q : String)
  | take (p : String)
  deriving DecidableEq
def deedP : Deed → PV
  | .away p => .tup [.str "away", .str p]
  | .back p => .tup [.str "back", .str p]
  | .hand p q d => .tup [.str "hand", .str p, .str q, .int d]
  | .night => .tup [.str "night"]
  | .refuse p => .tup [.str "refuse", .str p]
  | .swap p q => .tup [.str "swap", .str p, .str q]
  | .take p => .tup [.str "take", .str p]
/-- the constants of days -/
structure DConsts (Γ : Gm) : Prop where
  away : Γ.co "AWAY" = some (.str "away")
  back : Γ.co "BACK" = some (.str "back")
  hand : Γ.co "HAND" = some (.str "hand")
  night : Γ.co "NIGHT" = some (.str "night")
  refuse : Γ.co "REFUSE" = some (.str "refuse")
  swap : Γ.co "SWAP" = some (.str "swap")
  take : Γ.co "TAKE" = some (.str "take")
/-- a book with its names ascending -/
def BkX (M : MM) (a : Addr) (b : Bk) (zs : List String) : Prop := zs.Perm b.people ∧ sortedT zs = true ∧ BkOk b ∧ ∃ d, M a = some (.ins "Book" (flds b zs d)) ∧ M d = some (.dct b.rule)
theorem BkX.sub {M M' : MM} {a : Addr} {b : Bk} {zs : List String} (h : BkX M a b zs) (s : Sub M M') : BkX M' a b zs := by
  obtain ⟨h1, h2, h3, d, h4, h5⟩ := h
  exact ⟨h1, h2, h3, d, s _ _ h4, s _ _ h5⟩
theorem BkX.book {M : MM} {a : Addr} {b : Bk} {zs : List String} (h : BkX M a b zs) : BookAt M a b := by
  obtain ⟨h1, h2, h3, d, h4, h5⟩ := h
  exact ⟨d, zs, h1, h2, h4, h5⟩
theorem BookAt.x {M : MM} {a : Addr} {b : Bk} (h : BookAt M a b) (ok : BkOk b) : ∃ zs, BkX M a b zs := by
  obtain ⟨d, zs, h1, h2, h3, h4⟩ := h
  exact ⟨zs, h1, h2, ok, d, h3, h4⟩
theorem BkX.nodup {M : MM} {a : Addr} {b : Bk} {zs : List String} (h : BkX M a b zs) : zs.Nodup := h.1.nodup_iff.mpr h.2.2.1.people.2.2.2
theorem BkX.len {M : MM} {a : Addr} {b : Bk} {zs : List String} (h : BkX M a b zs) : 2 ≤ zs.length ∧ zs.length ≤ 3 := by
  have := h.1.length_eq; have := h.2.2.1.people; unfold PeopleOk at this; omega
/-- a standing of the names zs -/
structure StOk (zs : List String) (cap : Nat) (s : St) : Prop where
  order : s.order.Perm zs
  turn : s.turn < zs.length
  away : ∀ n ∈ s.away, n ∈ zs
  awayNd : s.away.Nodup
  lentL : s.lent.length = zs.length
  lent : ∀ l ∈ s.lent, ∀ q d, l = some (q, d) → q ∈ zs ∧ ∃ n, d = some n ∧ n ≤ 2
  countsL : s.counts.length = zs.length
  counts : ∀ c ∈ s.counts, -(cap : Int) ≤ c ∧ c ≤ cap
def firstSt (b : Bk) (zs : List String) : St := ⟨b.people, 0, [], List.replicate zs.length none, List.replicate zs.length 0⟩
def C_first_standing : Con := fun as M Q _ => ∃ a b zs, as = [.ref a] ∧ BkX M a b zs ∧ Q (stP (firstSt b zs)) M
theorem flat_one {α : Type} (x : α) : ∀ n : Nat, (List.replicate n [x]).flatten = List.replicate n x
  | 0 => rfl
  | n + 1 => by rw [List.replicate_succ, List.flatten_cons, flat_one x n, List.replicate_succ]; rfl
theorem run_first_standing {Γ : Gm} : Does Γ N_first_standing P_first_standing S_first_standing C_first_standing := by
  rintro as M Qa Ea ⟨a, b, zs, rfl, hb, q⟩ -
  obtain ⟨f1, f2, f3, f4, f5, f6⟩ := fo_book
  have hl := hb.len
  obtain ⟨h1, h2, h3, d, ha, hd⟩ := hb
  have h6 := sz6
  simp [S_first_standing, N_first_standing, runSs, runS, runE, runEs, runTg, ha, flds, List.lookup, f1, f2, biA, strsP, binA]
  refine ⟨by omega, by omega, by omega, by omega, by omega, by omega, by omega, ?_⟩
  have : Qa (stP (firstSt b zs)) M := q
  simpa [stP, firstSt, strsP, linkP] using this
/-- put -/
def C_put : Con := fun as M Q _ => ∃ (xs : List PV) (i : Nat) (x : PV), as = [.tup xs, .int i, x] ∧ i < xs.length ∧ xs.length ≤ 100 ∧ Q (.tup (xs.set i x)) M
theorem take_set_drop (xs : List PV) (i : Nat) (x : PV) (h : i < xs.length) : xs.take i ++ [x] ++ xs.drop (i + 1) = xs.set i x := by
  rw [List.set_eq_take_append_cons_drop, if_pos h]; simp
theorem run_put {Γ : Gm} : Does Γ N_put P_put S_put C_put := by
  rintro as M Qa Ea ⟨xs, i, x, rfl, hi, hl, q⟩ -
  have h6 := sz6
  have e1 : cutP xs none (some (i : Int)) = xs.take i := cut_to
  have e2 : cutP xs (some ((i : Int) + 1)) none = xs.drop (i + 1) := by
    have := cut_from (xs := xs) (k := i + 1)
    rwa [Int.natCast_add] at this
  simp [S_put, N_put, runSs, runS, runE, runEs, runO, slcA, binA, e1, e2]
  refine ⟨by omega, by omega, by omega, ?_⟩
  have := take_set_drop xs i x hi
  rw [List.append_assoc] at this
  rw [show xs.take i ++ x :: xs.drop (i + 1) = xs.set i x from this]
  exact q
/-- what somebody lends -/
def lentBy (zs : List String) (lent : List Link) (n : String) : Link := (lent[zs.idxOf n]?).getD none
def C_lent_by : Con := fun as M Q _ => ∃ (a : Addr) (b : Bk) (zs : List String) (lent : List Link) (n : String), as = [.ref a, .tup (lent.map linkP), .str n] ∧ BkX M a b zs ∧ lent.length = zs.length ∧ n ∈ zs ∧ Q (linkP (lentBy zs lent n)) M
theorem idx_some {zs : List String} {n : String} (h : n ∈ zs) : zs.idxOf? n = some (zs.idxOf n) := by
  induction zs with
  | nil => cases h
  | cons z r ih =>
    rw [List.idxOf?_cons, List.idxOf_cons]
    by_cases e : z = n
    · subst e; simp
    · have e' : (z == n) = false := beq_eq_false_iff_ne.mpr e
      rw [e']
      have := ih ((List.mem_cons.mp h).resolve_left (Ne.symm e))
      simp [this]
theorem idx_lt {zs : List String} {n : String} (h : n ∈ zs) : zs.idxOf n < zs.length := List.idxOf_lt_length_iff.mpr h
theorem run_lent_by {Γ : Gm} : Does Γ N_lent_by P_lent_by S_lent_by C_lent_by := by
  rintro as M Qa Ea ⟨a, b, zs, lent, n, rfl, hb, hl, hn, q⟩ -
  obtain ⟨f1, f2, f3, f4, f5, f6⟩ := fo_book
  obtain ⟨h1, h2, h3, d, ha, hd⟩ := hb
  have hi := idx_lt hn
  have e : atI (lent.map linkP) ((zs.idxOf n : Nat) : Int) = some (linkP (lentBy zs lent n)) := by
    refine atI_nat' ?_
    have hi2 : zs.idxOf n < lent.length := by omega
    rw [List.getElem?_map, lentBy, List.getElem?_eq_getElem hi2]; rfl
  simp [S_lent_by, N_lent_by, runSs, runS, runE, runEs, ha, flds, List.lookup, f2, strsP, tyA, bmA, strsOf_map, idx_some hn, subA, e]
  exact q
end Law
end

section
set_option maxHeartbeats 4000000
/-! days: sorted names; chain, holder, stand-ins, who must. -/
namespace Law
open PySem L2 Rx
/-! ### sorted texts -/
abbrev cps (s : String) : List Nat := (Str.ofString s).cps.toList
def leS (a b : String) : Prop := ¬ cps b < cps a
theorem leS_trans {a b c : String} (h1 : leS a b) (h2 : leS b c) : leS a c := List.not_lt.mpr (List.le_trans (List.not_lt.mp h1) (List.not_lt.mp h2))
theorem leS_anti {a b : String} (h1 : leS a b) (h2 : leS b a) : a = b := by
  have := List.le_antisymm (List.not_lt.mp h1) (List.not_lt.mp h2)
  refine so_inj ?_
  exact PySem.W.str_of_cps this
theorem rising_pw : ∀ (l : List String) (p : String), PyProof.Rows.risingS (so p) (l.map so) = true → (p :: l).Pairwise leS
  | [], p, _ => List.pairwise_singleton _ _
  | x :: r, p, h => by
    have h : (!PySem.Spec.ltCps (so x).cps.toList (so p).cps.toList && PyProof.Rows.risingS (so x) (r.map so)) = true := h
    rw [Bool.and_eq_true, PyProof.Rows.ltCps_eq] at h
    have ih := rising_pw r x h.2
    have hx : leS p x := fun z => by rw [decide_eq_true z] at h; cases h.1
    refine List.Pairwise.cons (fun y hy => ?_) ih
    rcases List.mem_cons.mp hy with rfl | hy
    · exact hx
    · exact leS_trans hx (List.rel_of_pairwise_cons ih hy)
theorem sorted_pw {l : List String} (h : sortedT l = true) : l.Pairwise leS := by
  cases l with
  | nil => exact .nil
  | cons x r => exact rising_pw r x h
/-- a sorted list of some of the names -/
theorem sorted_some {zs ys : List String} {P : String → Bool} (hz : sortedT zs = true) (nz : zs.Nodup) (hy : sortedT ys = true) (ny : ys.Nodup) (h : ∀ x, x ∈ ys ↔ x ∈ zs ∧ P x = true) : ys = zs.filter P := by
  refine List.Perm.eq_of_pairwise (le := leS) (fun a b _ _ => leS_anti) (sorted_pw hy) ((sorted_pw hz).filter P) ?_
  refine (List.perm_ext_iff_of_nodup ny (nz.filter P)).mpr fun x => ?_
  rw [h x, List.mem_filter]
/-- sorted names are told by their people -/
theorem sorted_uniq {zs ys ps : List String} (hz : sortedT zs = true) (hy : sortedT ys = true) (h1 : zs.Perm ps) (h2 : ys.Perm ps) : ys = zs :=
  List.Perm.eq_of_pairwise (le := leS) (fun a b _ _ => leS_anti) (sorted_pw hy) (sorted_pw hz) (h2.trans h1.symm)
/-- the keys of {name: True for name in ss} -/
theorem keys_of : ∀ (ss ks : List String), ks.Nodup → ∃ ks' : List String, (ss.map PV.str).foldl (fun a x => dPut a x (.bl true)) (ks.map fun s => (PV.str s, PV.bl true)) = ks'.map (fun s => (PV.str s, PV.bl true)) ∧ ks'.Nodup ∧ (∀ x, x ∈ ks' ↔ x ∈ ks ∨ x ∈ ss) ∧ ks'.length ≤ ks.length + ss.length
  | [], ks, nd => ⟨ks, rfl, nd, fun x => by simp, by simp⟩
  | s :: ss, ks, nd => by
    have put : ∀ ks : List String, dPut (ks.map fun s => (PV.str s, PV.bl true)) (.str s) (.bl true) = (if s ∈ ks then ks else ks ++ [s]).map fun s => (PV.str s, PV.bl true) := by
      intro ks
      induction ks with
      | nil => rfl
      | cons k r ih =>
        rw [List.map_cons, dPut_str]
        by_cases e : k = s
        · subst e; simp
        · rw [if_neg e, ih]
          by_cases h : s ∈ r
          · simp [h]
          · have : ¬ s ∈ k :: r := by simp [h, Ne.symm e]
            simp [h, this]
    rw [List.map_cons, List.foldl_cons, put ks]
    by_cases h : s ∈ ks
    · rw [if_pos h]
      obtain ⟨ks', e, n, m, l⟩ := keys_of ss ks nd
      refine ⟨ks', e, n, fun x => ?_, by simp; omega⟩
      rw [m x, List.mem_cons]
      constructor
      · rintro (a | a)
        · exact .inl a
        · exact .inr (.inr a)
      · rintro (a | rfl | a)
        · exact .inl a
        · exact .inl h
        · exact .inr a
    · rw [if_neg h]
      obtain ⟨ks', e, n, m, l⟩ := keys_of ss (ks ++ [s]) (by
        rw [List.nodup_append]
        exact ⟨nd, by simp, fun a ha b hb e => h (by rw [List.mem_singleton] at hb; rw [← hb, ← e]; exact ha)⟩)
      refine ⟨ks', e, n, fun x => ?_, by simp at l ⊢; omega⟩
      rw [m x, List.mem_append, List.mem_singleton, List.mem_cons, or_assoc]
/-! ### the chain -/
def owner (s : St) : String := (s.order[s.turn]?).getD ""
def chainGo (zs : List String) (lent : List Link) : Nat → List String → Link → List String × Link
  | 0, f, l => (f, l)
  | n + 1, f, l => match l with
    | none => (f, none)
    | some (q, d) => if f.contains q = true then (f, l) else chainGo zs lent n (f ++ [q]) (lentBy zs lent q)
def chainF (zs : List String) (s : St) : List String × Link := chainGo zs s.lent zs.length [owner s] (lentBy zs s.lent (owner s))
theorem owner_mem {zs : List String} {cap : Nat} {s : St} (h : StOk zs cap s) : owner s ∈ zs ∧ s.order[s.turn]? = some (owner s) := by
  have hl : s.turn < s.order.length := by rw [h.order.length_eq]; exact h.turn
  have e : s.order[s.turn]? = some s.order[s.turn] := List.getElem?_eq_getElem hl
  have eo : owner s = s.order[s.turn] := by unfold owner; rw [e]; rfl
  rw [eo]
  exact ⟨h.order.mem_iff.mp (List.getElem_mem hl), e⟩
theorem lentBy_ok {zs : List String} {cap : Nat} {s : St} (h : StOk zs cap s) {n q : String} {d : Option Nat} (e : lentBy zs s.lent n = some (q, d)) : q ∈ zs ∧ ∃ k, d = some k ∧ k ≤ 2 := by
  unfold lentBy at e
  cases z : s.lent[zs.idxOf n]? with
  | none => rw [z] at e; cases e
  | some l =>
    rw [z] at e
    have e : l = some (q, d) := e
    exact h.lent l (List.mem_of_getElem? z) q d e
def C_chain_from : Con := fun as M Q _ => ∃ (a : Addr) (b : Bk) (zs : List String) (s : St), as = [.ref a, stP s] ∧ BkX M a b zs ∧ StOk zs b.most s ∧ ∀ l M', M' l = some (.lst ((chainF zs s).1.map .str)) → Sub M M' → M l = none → Q (.tup [.ref l, linkP (chainF zs s).2]) M'
theorem ix_last (f : List String) (q : String) : atI ((f ++ [q]).map PV.str) (-1) = some (.str q) := by
  unfold atI ixN
  simp
  rw [if_pos (by omega)]
  show (List.map PV.str f ++ [PV.str q])[(-1 + ((f.length : Int) + 1)).toNat]? = _
  have e : (-1 + ((f.length : Int) + 1)).toNat = (List.map PV.str f).length := by rw [List.length_map]; omega
  rw [e]; simp
theorem atI_turn {zs : List String} {cap : Nat} {s : St} (h : StOk zs cap s) : atI (s.order.map PV.str) (s.turn : Int) = some (.str (owner s)) := atI_nat' (by rw [List.getElem?_map, (owner_mem h).2]; rfl)
theorem run_chain_from {Γ : Gm} (h1 : Γ.fn "lent_by" = some (3, C_lent_by)) : Does Γ N_chain_from P_chain_from S_chain_from C_chain_from := by
  rintro as M Qa Ea ⟨a, b, zs, s, rfl, hb, ok, q⟩ -
  have h6 := sz6
  obtain ⟨om, oe⟩ := owner_mem ok
  have e1 := atI_turn ok
  have zl := hb.len
  simp [S_chain_from, N_chain_from, runSs]
  simp [s1_chain_from, runS, runE, runTg, runTgs, tgsLen, stP]
  simp [s2_chain_from, runS, runE, runEs, runTg, subA, strsP, e1, newL]
  refine ⟨by omega, fun l hl => ?_⟩
  obtain ⟨M1, hM1, t1, k1⟩ := fresh_put (o := .lst [.str (owner s)]) hl
  rw [hM1]
  have ix0 : atI [PV.str (owner s)] (-1) = some (.str (owner s)) := rfl
  simp [s3_chain_from, runS, runE, runEs, runTg, subA, k1, ix0, h1]
  refine ⟨a, b, zs, s.lent, owner s, rfl, hb.sub t1, ok.lentL, om, ?_⟩
  simp [s4_chain_from, runS]
  refine ⟨fun m g M' => ∃ (f : List String) (lk : Link), m = zs.length - f.length ∧ f.Nodup ∧ (∀ x ∈ f, x ∈ zs) ∧ g = [some (.ref a), some (stP s), some (strsP s.order), some (.int s.turn), some (strsP s.away), some (.tup (s.lent.map linkP)), some (.tup (s.counts.map .int)), some (.ref l), some (linkP lk)] ∧ M' l = some (.lst (f.map .str)) ∧ Sub M M' ∧
    chainGo zs s.lent (zs.length + 1 - f.length) f lk = chainF zs s ∧ ∀ q d, lk = some (q, d) → q ∈ zs, ?_, ?_⟩
  · refine ⟨_, [owner s], lentBy zs s.lent (owner s), rfl, by simp, fun x hx => by rw [List.mem_singleton.mp hx]; exact om, rfl, k1, t1, rfl, fun q d e => (lentBy_ok ok e).1⟩
  · rintro m g M' ⟨f, lk, rfl, nd, fz, rfl, k, sM, ch, lz⟩
    have fl : f.length ≤ zs.length := nodup_sub nd fz
    obtain ⟨n, hn⟩ : ∃ n, zs.length + 1 - f.length = n + 1 := ⟨zs.length - f.length, by omega⟩
    rw [hn] at ch
    cases lk with
    | none =>
      simp [T1_chain_from, runT, runE, linkP, cmpA]
      simp [s5_chain_from, runS, runE, runEs]
      refine ⟨by omega, ?_⟩
      have e : chainF zs s = (f, none) := ch.symm
      rw [e] at q
      exact q l M' k sM hl
    | some w =>
      obtain ⟨z, d⟩ := w
      have hz := lz z d rfl
      have iz : atI [PV.str z, dayP d] 0 = some (.str z) := rfl
      simp [T1_chain_from, runT, runE, linkP, cmpA, subA, iz, inA, k, sMem_str]
      by_cases hc : z ∈ f
      · simp [hc]
        simp [s5_chain_from, runS, runE, runEs]
        refine ⟨by omega, ?_⟩
        have e : chainF zs s = (f, some (z, d)) := by
          rw [← ch]
          show (if f.contains z = true then _ else _) = _
          rw [if_pos (by simpa using hc)]
        rw [e] at q
        exact q l M' k sM hl
      · simp [hc]
        simp [B2_chain_from, runSs, runS, runE, runEs, runTg, tyA, k, subA, iz, bmA]
        refine ⟨by omega, ?_⟩
        have nd2 : (f ++ [z]).Nodup := by
          rw [List.nodup_append]
          exact ⟨nd, by simp, fun x hx y hy e => hc (by rw [List.mem_singleton] at hy; rw [← hy, ← e]; exact hx)⟩
        have fz2 : ∀ x ∈ f ++ [z], x ∈ zs := fun x hx => by
          rcases List.mem_append.mp hx with h | h
          · exact fz x h
          · rw [List.mem_singleton.mp h]; exact hz
        have fl2 : (f ++ [z]).length ≤ zs.length := nodup_sub nd2 fz2
        have el := ix_last f z
        simp at el
        simp [el, h1]
        have sM2 : Sub M (mput M' l (.lst (f.map PV.str ++ [.str z]))) := sM.put hl
        refine ⟨a, b, zs, s.lent, z, rfl, hb.sub sM2, ok.lentL, hz, ?_⟩
        refine ⟨_, _, SSub.refl _, Sub.refl _, zs.length - (f ++ [z]).length, ?_, f ++ [z], rfl, nd2, fz2, lentBy zs s.lent z, rfl, ?_, sM2, ?_, fun q d e => (lentBy_ok ok e).1⟩
        · simp at fl2 ⊢; omega
        · rw [mput_same]; simp
        · rw [← ch]
          have e : zs.length + 1 - (f ++ [z]).length = n := by simp at fl2 ⊢; omega
          rw [e]
          show _ = if f.contains z = true then _ else _
          rw [if_neg (by simpa using hc)]
end Law
end

section
set_option maxHeartbeats 4000000
/-! the law's own defs as syntax. -/
namespace Law
open PySem PySem.Spec PyProof.Rows L2 Rx
def N_law_is_name : List Str := [so "_law_value", so "_law_sign"]
def P_law_is_name : List Str := [so "_law_value"]

def T1_law_is_name : E := (.notE (.chain .LtE .LtE (.str "a") (.var 1) (.str "z")))
def S_law_is_name : Ss := (.cons (.ifS (.orE (.notE (.tv (.isi (.var 0) "str"))) (.one (.notE (.chain .LtE .LtE (.int 1) (.bi "len" (.cons (.var 0) .nil)) (.int 8))))) (.cons (.ret (.bl false))
    .nil) .nil)
    (.cons (.ret (.cmp .Eq (.lc (.var 1) (.name 1) (.val (.var 0)) (.some T1_law_is_name) [("_law_sign", 1)]) (.lst .nil)))
    .nil))
def N_law_number : List Str := [so "_law_value"]
def P_law_number : List Str := [so "_law_value"]

def S_law_number : Ss := (.cons (.ret (.andE (.isi (.var 0) "int") (.andE (.notE (.isi (.var 0) "bool")) (.one (.chain .LtE .LtE (.int 0) (.var 0) (.int 2))))))
    .nil)
def N_law_due : List Str := [so "_law_t", so "_law_people_here", so "_law_rule_here", so "_law_words", so "_law_names", so "_law_part", so "_law_some", so "_law_every", so "_law_name", so "_law_word"]
def P_law_due : List Str := [so "_law_t"]

def s1_law_due : S := (.asg (.tup (.cons (.name 1) (.cons (.name 2) (.cons (.name 3) .nil)))) (.tup (.cons (.sub (.var 0) (.str "people")) (.cons (.sub (.var 0) (.str "rule")) (.cons (.sub (.var 0) (.str "words")) .nil)))))
def s2_law_due : S := (.ifS (.orE (.notE (.tv (.isi (.var 1) "tuple"))) (.one (.notE (.chain .LtE .LtE (.int 2) (.bi "len" (.cons (.var 1) .nil)) (.int 3))))) (.cons (.ret (.lst (.cons (.str "people") .nil)))
    .nil) .nil)
def T1_law_due : E := (.notE (.tv (.call "_law_is_name" (.cons (.var 8) .nil))))
def s3_law_due : S := (.ifS (.orE (.cmp .NotEq (.lc (.var 8) (.name 8) (.val (.var 1)) (.some T1_law_due) [("_law_name", 8)]) (.lst .nil)) (.one (.cmp .Lt (.lset (.var 1)) (.bi "len" (.cons (.var 1) .nil))))) (.cons (.ret (.lst (.cons (.str "people") .nil)))
    .nil) .nil)
def s4_law_due : S := (.ifS (.orE (.notE (.tv (.call "_law_number" (.cons (.sub (.var 0) (.str "longest")) .nil)))) (.one (.notE (.tv (.call "_law_number" (.cons (.sub (.var 0) (.str "most")) .nil)))))) (.cons (.ret (.lst (.cons (.str "number") .nil)))
    .nil) .nil)
def s5_law_due : S := (.setl 4 (.var 5) (.tup (.cons (.name 5) (.cons (.name 6) .nil))) (.val (.call "_law_parts" .nil)) .none [("_law_part", 5), ("_law_some", 6)])
def T2_law_due : E := (.cmp .NotIn (.var 5) (.var 2))
def s6_law_due : S := (.ifS (.orE (.notE (.tv (.isi (.var 2) "dict"))) (.orE (.cmp .NotEq (.bi "len" (.cons (.var 2) .nil)) (.int 4)) (.one (.cmp .NotEq (.lc (.var 5) (.name 5) (.val (.var 4)) (.some T2_law_due) [("_law_part", 5)]) (.lst .nil))))) (.cons (.ret (.lst (.cons (.str "rule") (.cons (.str "") .nil))))
    .nil) .nil)
def B3_law_due : Ss := (.cons (.ifS (.orE (.notE (.tv (.isi (.sub (.var 2) (.var 5)) "str"))) (.one (.cmp .NotIn (.sub (.var 2) (.var 5)) (.var 6)))) (.cons (.ret (.lst (.cons (.str "rule") (.cons (.var 5) .nil))))
    .nil) .nil)
    .nil)
def s7_law_due : S := (.forS (.tup (.cons (.name 5) (.cons (.name 6) .nil))) (.val (.call "_law_parts" .nil)) B3_law_due)
def s8_law_due : S := (.asg (.name 7) (.lst (.cons (.str "away") (.cons (.str "hand") (.cons (.str "refuse") (.cons (.str "swap") (.cons (.str "take") .nil)))))))
def T4_law_due : E := (.cmp .NotIn (.var 9) (.var 7))
def s9_law_due : S := (.ifS (.orE (.notE (.tv (.isi (.var 3) "tuple"))) (.one (.cmp .NotEq (.lc (.var 9) (.name 9) (.val (.var 3)) (.some T4_law_due) [("_law_word", 9)]) (.lst .nil)))) (.cons (.ret (.lst (.cons (.str "words") .nil)))
    .nil) .nil)
def s10_law_due : S := (.ret (.ite (.cmp .Eq (.bi "list" (.cons (.var 3) .nil)) (.sset (.var 3))) .non (.lst (.cons (.str "words") .nil))))
def S_law_due : Ss := (.cons s1_law_due (.cons s2_law_due (.cons s3_law_due (.cons s4_law_due (.cons s5_law_due (.cons s6_law_due (.cons s7_law_due (.cons s8_law_due (.cons s9_law_due (.cons s10_law_due .nil))))))))))
def N_law_told : List Str := [so "_law_t", so "_law_told_here", so "e"]
def P_law_told : List Str := [so "_law_t"]

def s1_law_told : S := (.asg (.name 1) .non)
def B1_law_told : Ss := (.cons (.expr (.call "_law_made" (.cons (.var 0) .nil)))
    .nil)
def H2_law_told : Hs := (.cons "BadPeople" (.some 2) 1 (.ite "DutyError" (.lst [(.str "people")]) (.str "another")) (.cons "BadNumber" .none 1 (.lst [(.str "number")]) (.cons "BadRule" (.some 2) 1 (.lst [(.str "rule"), (.fld "part")]) (.cons "BadWords" .none 1 (.lst [(.str "words")]) .nil))))
def s2_law_told : S := (.tryS B1_law_told H2_law_told)
def s3_law_told : S := (.ret (.var 1))
def S_law_told : Ss := (.cons s1_law_told (.cons s2_law_told (.cons s3_law_told .nil)))
def N_law_spoil : List Str := [so "_law_row", so "_law_t", so "_law_at", so "_law_some", so "_law_part"]
def P_law_spoil : List Str := [so "_law_row", so "_law_t"]

def B1_law_spoil : Ss := (.cons (.asg (.name 3) (.lst (.cons .non (.cons (.tup .nil) (.cons (.tup (.cons (.str "ann") .nil)) (.cons (.lst (.cons (.str "ann") (.cons (.str "bo") .nil))) (.cons (.tup (.cons (.str "ann") (.cons (.str "ann") .nil))) (.cons (.tup (.cons (.str "ann") (.cons (.str "B") .nil))) (.cons (.tup (.cons (.str "ann") (.cons (.int 5) .nil))) (.cons (.tup (.cons (.str "a") (.cons (.str "b") (.cons (.str "c") (.cons (.str "d") .nil))))) .nil))))))))))
    (.cons (.asg (.sub (.var 1) (.str "people")) (.sub (.var 3) (.call "_law_pick" (.cons (.var 0) (.cons (.int 8) .nil)))))
    .nil))
def B2_law_spoil : Ss := (.cons (.asg (.sub (.var 1) (.sub (.lst (.cons (.str "longest") (.cons (.str "most") .nil))) (.call "_law_pick" (.cons (.var 0) (.cons (.int 2) .nil))))) (.sub (.lst (.cons (.neg (.int 1)) (.cons (.int 3) (.cons (.bl true) (.cons .non (.cons (.str "1") .nil)))))) (.call "_law_pick" (.cons (.var 0) (.cons (.int 5) .nil)))))
    .nil)
def B3_law_spoil : Ss := (.cons (.asg (.sub (.var 1) (.str "rule")) (.sub (.lst (.cons .non (.cons (.dct .nil) (.cons (.lst .nil) (.cons (.dct (.cons (.str "back") (.str "both") .nil)) .nil))))) (.call "_law_pick" (.cons (.var 0) (.cons (.int 4) .nil)))))
    .nil)
def B4_law_spoil : Ss := (.cons (.asg (.name 3) (.lst (.cons .non (.cons (.lst (.cons (.str "hand") .nil)) (.cons (.tup (.cons (.str "hand") (.cons (.str "away") .nil))) (.cons (.tup (.cons (.str "hand") (.cons (.str "hand") .nil))) (.cons (.tup (.cons (.str "night") .nil)) (.cons (.tup (.cons (.int 1) .nil)) (.cons (.tup (.cons (.str "back") .nil)) .nil)))))))))
    (.cons (.asg (.sub (.var 1) (.str "words")) (.sub (.var 3) (.call "_law_pick" (.cons (.var 0) (.cons (.int 7) .nil)))))
    .nil))
def s1_law_spoil : S := (.asg (.sub (.var 1) (.str "rule")) (.bi "dict" (.cons (.sub (.var 1) (.str "rule")) .nil)))
def s2_law_spoil : S := (.asg (.name 4) (.sub (.lst (.cons (.str "back") (.cons (.str "count") (.cons (.str "end") (.cons (.str "gap") (.cons (.str "more") .nil)))))) (.call "_law_pick" (.cons (.var 0) (.cons (.int 5) .nil)))))
def s3_law_spoil : S := (.asg (.sub (.sub (.var 1) (.str "rule")) (.var 4)) (.sub (.lst (.cons (.str "ends") (.cons (.str "falls") (.cons (.str "all") (.cons (.str "none") (.cons .non (.cons (.int 5) (.cons (.str "") (.cons (.tup (.cons (.str "ends") .nil)) .nil))))))))) (.call "_law_pick" (.cons (.var 0) (.cons (.int 8) .nil)))))
def B5_law_spoil : Ss := (.cons s1_law_spoil (.cons s2_law_spoil (.cons s3_law_spoil .nil)))
def B6_law_spoil : Ss := (.cons (.ifS (.tv (.isi (.sub (.var 1) (.str "rule")) "dict")) B5_law_spoil .nil)
    .nil)
def B7_law_spoil : Ss := (.cons (.ifS (.cmp .Eq (.var 2) (.int 3)) B4_law_spoil B6_law_spoil)
    .nil)
def B8_law_spoil : Ss := (.cons (.ifS (.cmp .Eq (.var 2) (.int 2)) B3_law_spoil B7_law_spoil)
    .nil)
def B9_law_spoil : Ss := (.cons (.ifS (.cmp .Eq (.var 2) (.int 1)) B2_law_spoil B8_law_spoil)
    .nil)
def S_law_spoil : Ss := (.cons (.asg (.name 2) (.call "_law_pick" (.cons (.var 0) (.cons (.int 5) .nil))))
    (.cons (.ifS (.cmp .Eq (.var 2) (.int 0)) B1_law_spoil B9_law_spoil)
    .nil))
def N_law : List Str := [so "_law_script", so "_law_row", so "_law_turn", so "_law_t", so "_law_k"]
def P_law : List Str := [so "_law_script"]

def s1_law : S := (.asg (.name 1) (.call "_law_draws" (.cons (.var 0) .nil)))
def s3_law : S := (.asg (.name 3) (.call "_law_drawn" (.cons (.var 1) (.cons (.int 3) (.cons (.int 2) (.cons (.int 2) .nil))))))
def B1_law : Ss := (.cons (.expr (.call "_law_spoil" (.cons (.var 1) (.cons (.var 3) .nil))))
    .nil)
def s4_law : S := (.forS (.name 4) (.rng1 (.call "_law_pick" (.cons (.var 1) (.cons (.int 3) .nil)))) B1_law)
def s5_law : S := (.ifS (.cmp .NotEq (.call "_law_told" (.cons (.var 3) .nil)) (.call "_law_due" (.cons (.var 3) .nil))) (.cons (.ret (.bl false))
    .nil) .nil)
def B2_law : Ss := (.cons s3_law (.cons s4_law (.cons s5_law .nil)))
def s2_law : S := (.forS (.name 2) (.rng1 (.int 8)) B2_law)
def s6_law : S := (.ret (.bl true))
def S_law : Ss := (.cons s1_law (.cons s2_law (.cons s6_law .nil)))
end Law
end

section
set_option maxHeartbeats 4000000
/-! checks. -/
namespace Law
open PySem PySem.Spec PyProof.Rows L2 Rx
def top (i : Nat) : Stmt := PySem.Challenge.pw_dutieslent_k01_books_refused.main.body.getD i (.Pass ⟨0, 0, 0, 0⟩)
def mem (i j : Nat) : Stmt := match top i with
  | .ClassDef _ _ _ body _ _ _ _ _ _ _ => body.getD j (.Pass ⟨0, 0, 0, 0⟩)
  | _ => .Pass ⟨0, 0, 0, 0⟩
theorem ok_is_integer : okSs N_is_integer (defScope (top 13)) S_is_integer (defBody (top 13)) = true := by decide +kernel
theorem sc_is_integer : FnScope N_is_integer P_is_integer (defScope (top 13)) := ⟨rfl, rfl, rfl, by decide +kernel, rfl, by decide +kernel, by decide +kernel⟩
theorem ok_is_from : okSs N_is_from (defScope (top 14)) S_is_from (defBody (top 14)) = true := by decide +kernel
theorem sc_is_from : FnScope N_is_from P_is_from (defScope (top 14)) := ⟨rfl, rfl, rfl, by decide +kernel, rfl, by decide +kernel, by decide +kernel⟩
theorem ok_is_name : okSs N_is_name (defScope (top 15)) S_is_name (defBody (top 15)) = true := by decide +kernel
theorem sc_is_name : FnScope N_is_name P_is_name (defScope (top 15)) := ⟨rfl, rfl, rfl, by decide +kernel, rfl, by decide +kernel, by decide +kernel⟩
theorem ok_is_one_of : okSs N_is_one_of (defScope (top 16)) S_is_one_of (defBody (top 16)) = true := by decide +kernel
theorem sc_is_one_of : FnScope N_is_one_of P_is_one_of (defScope (top 16)) := ⟨rfl, rfl, rfl, by decide +kernel, rfl, by decide +kernel, by decide +kernel⟩
theorem ok_are_people : okSs N_are_people (defScope (top 17)) S_are_people (defBody (top 17)) = true := by decide +kernel
theorem sc_are_people : FnScope N_are_people P_are_people (defScope (top 17)) := ⟨rfl, rfl, rfl, by decide +kernel, rfl, by decide +kernel, by decide +kernel⟩
theorem ok_check_rule : okSs N_check_rule (defScope (top 18)) S_check_rule (defBody (top 18)) = true := by decide +kernel
theorem sc_check_rule : FnScope N_check_rule P_check_rule (defScope (top 18)) := ⟨rfl, rfl, rfl, by decide +kernel, rfl, by decide +kernel, by decide +kernel⟩
theorem ok_are_words : okSs N_are_words (defScope (top 19)) S_are_words (defBody (top 19)) = true := by decide +kernel
theorem sc_are_words : FnScope N_are_words P_are_words (defScope (top 19)) := ⟨rfl, rfl, rfl, by decide +kernel, rfl, by decide +kernel, by decide +kernel⟩
theorem ok_Book_init : okSs N_Book_init (defScope (mem 20 0)) S_Book_init (defBody (mem 20 0)) = true := by decide +kernel
theorem sc_Book_init : FnScope N_Book_init P_Book_init (defScope (mem 20 0)) := ⟨rfl, rfl, rfl, by decide +kernel, rfl, by decide +kernel, by decide +kernel⟩
theorem ok_Book_people : okSs N_Book_people (defScope (mem 20 1)) S_Book_people (defBody (mem 20 1)) = true := by decide +kernel
theorem sc_Book_people : FnScope N_Book_people P_Book_people (defScope (mem 20 1)) := ⟨rfl, rfl, rfl, by decide +kernel, rfl, by decide +kernel, by decide +kernel⟩
theorem ok_Book_longest : okSs N_Book_longest (defScope (mem 20 2)) S_Book_longest (defBody (mem 20 2)) = true := by decide +kernel
theorem sc_Book_longest : FnScope N_Book_longest P_Book_longest (defScope (mem 20 2)) := ⟨rfl, rfl, rfl, by decide +kernel, rfl, by decide +kernel, by decide +kernel⟩
theorem ok_Book_most : okSs N_Book_most (defScope (mem 20 3)) S_Book_most (defBody (mem 20 3)) = true := by decide +kernel
theorem sc_Book_most : FnScope N_Book_most P_Book_most (defScope (mem 20 3)) := ⟨rfl, rfl, rfl, by decide +kernel, rfl, by decide +kernel, by decide +kernel⟩
theorem ok_Book_rule : okSs N_Book_rule (defScope (mem 20 4)) S_Book_rule (defBody (mem 20 4)) = true := by decide +kernel
theorem sc_Book_rule : FnScope N_Book_rule P_Book_rule (defScope (mem 20 4)) := ⟨rfl, rfl, rfl, by decide +kernel, rfl, by decide +kernel, by decide +kernel⟩
theorem ok_Book_words : okSs N_Book_words (defScope (mem 20 5)) S_Book_words (defBody (mem 20 5)) = true := by decide +kernel
theorem sc_Book_words : FnScope N_Book_words P_Book_words (defScope (mem 20 5)) := ⟨rfl, rfl, rfl, by decide +kernel, rfl, by decide +kernel, by decide +kernel⟩
theorem ok_Book_eq : okSs N_Book_eq (defScope (mem 20 6)) S_Book_eq (defBody (mem 20 6)) = true := by decide +kernel
theorem sc_Book_eq : FnScope N_Book_eq P_Book_eq (defScope (mem 20 6)) := ⟨rfl, rfl, rfl, by decide +kernel, rfl, by decide +kernel, by decide +kernel⟩
theorem ok_law_draws : okSs N_law_draws (defScope (top 22)) S_law_draws (defBody (top 22)) = true := by decide +kernel
theorem sc_law_draws : FnScope N_law_draws P_law_draws (defScope (top 22)) := ⟨rfl, rfl, rfl, by decide +kernel, rfl, by decide +kernel, by decide +kernel⟩
theorem ok_law_pick : okSs N_law_pick (defScope (top 23)) S_law_pick (defBody (top 23)) = true := by decide +kernel
theorem sc_law_pick : FnScope N_law_pick P_law_pick (defScope (top 23)) := ⟨rfl, rfl, rfl, by decide +kernel, rfl, by decide +kernel, by decide +kernel⟩
theorem ok_law_parts : okSs N_law_parts (defScope (top 24)) S_law_parts (defBody (top 24)) = true := by decide +kernel
theorem sc_law_parts : FnScope N_law_parts P_law_parts (defScope (top 24)) := ⟨rfl, rfl, rfl, by decide +kernel, rfl, by decide +kernel, by decide +kernel⟩
theorem ok_law_rule : okSs N_law_rule (defScope (top 25)) S_law_rule (defBody (top 25)) = true := by decide +kernel
theorem sc_law_rule : FnScope N_law_rule P_law_rule (defScope (top 25)) := ⟨rfl, rfl, rfl, by decide +kernel, rfl, by decide +kernel, by decide +kernel⟩
theorem ok_law_people : okSs N_law_people (defScope (top 26)) S_law_people (defBody (top 26)) = true := by decide +kernel
theorem sc_law_people : FnScope N_law_people P_law_people (defScope (top 26)) := ⟨rfl, rfl, rfl, by decide +kernel, rfl, by decide +kernel, by decide +kernel⟩
theorem ok_law_drawn : okSs N_law_drawn (defScope (top 27)) S_law_drawn (defBody (top 27)) = true := by decide +kernel
theorem sc_law_drawn : FnScope N_law_drawn P_law_drawn (defScope (top 27)) := ⟨rfl, rfl, rfl, by decide +kernel, rfl, by decide +kernel, by decide +kernel⟩
theorem ok_law_made : okSs N_law_made (defScope (top 28)) S_law_made (defBody (top 28)) = true := by decide +kernel
theorem sc_law_made : FnScope N_law_made P_law_made (defScope (top 28)) := ⟨rfl, rfl, rfl, by decide +kernel, rfl, by decide +kernel, by decide +kernel⟩
theorem ok_law_is_name : okSs N_law_is_name (defScope (top 29)) S_law_is_name (defBody (top 29)) = true := by decide +kernel
theorem sc_law_is_name : FnScope N_law_is_name P_law_is_name (defScope (top 29)) := ⟨rfl, rfl, rfl, by decide +kernel, rfl, by decide +kernel, by decide +kernel⟩
theorem ok_law_number : okSs N_law_number (defScope (top 30)) S_law_number (defBody (top 30)) = true := by decide +kernel
theorem sc_law_number : FnScope N_law_number P_law_number (defScope (top 30)) := ⟨rfl, rfl, rfl, by decide +kernel, rfl, by decide +kernel, by decide +kernel⟩
theorem ok_law_due : okSs N_law_due (defScope (top 31)) S_law_due (defBody (top 31)) = true := by decide +kernel
theorem sc_law_due : FnScope N_law_due P_law_due (defScope (top 31)) := ⟨rfl, rfl, rfl, by decide +kernel, rfl, by decide +kernel, by decide +kernel⟩
theorem ok_law_told : okSs N_law_told (defScope (top 32)) S_law_told (defBody (top 32)) = true := by decide +kernel
theorem sc_law_told : FnScope N_law_told P_law_told (defScope (top 32)) := ⟨rfl, rfl, rfl, by decide +kernel, rfl, by decide +kernel, by decide +kernel⟩
theorem ok_law_spoil : okSs N_law_spoil (defScope (top 33)) S_law_spoil (defBody (top 33)) = true := by decide +kernel
theorem sc_law_spoil : FnScope N_law_spoil P_law_spoil (defScope (top 33)) := ⟨rfl, rfl, rfl, by decide +kernel, rfl, by decide +kernel, by decide +kernel⟩
theorem ok_law : okSs N_law (defScope (top 34)) S_law (defBody (top 34)) = true := by decide +kernel
theorem sc_law : FnScope N_law P_law (defScope (top 34)) := ⟨rfl, rfl, rfl, by decide +kernel, rfl, by decide +kernel, by decide +kernel⟩
end Law
end

section
set_option maxHeartbeats 4000000
/-! k01: names, numbers, sets of texts. -/
namespace Law
open PySem L2 Rx
def Flat1 (x : PV) : Prop := (∃ s, x = .str s ∧ s.length ≤ 9) ∨ ∃ i, x = .int i
theorem Flat1.kn {M : MM} {x : PV} (h : Flat1 x) : Kn1 M x := by
  rcases h with ⟨s, rfl, _⟩ | ⟨i, rfl⟩ <;> exact True.intro
theorem Flat1.sm {x : PV} (h : Flat1 x) : SmallS x := by
  rcases h with ⟨s, rfl, h⟩ | ⟨i, rfl⟩
  · show s.length ≤ 1000000; omega
  · exact True.intro
/-- people or words, good or not -/
def PArg (M : MM) (v : PV) : Prop := Kn1 M v ∧ ∀ xs, v = .tup xs → xs.length ≤ 5 ∧ ∀ x ∈ xs, Flat1 x
theorem PArg.sub {M M' : MM} {v : PV} (h : PArg M v) (s : Sub M M') : PArg M' v := ⟨h.1.sub s, h.2⟩
theorem PArg.kn {M : MM} {v : PV} (h : PArg M v) : Kn2 M v := ⟨h.1, fun xs e => ⟨by have := (h.2 xs e).1; omega, fun x hx => ⟨((h.2 xs e).2 x hx).kn, ((h.2 xs e).2 x hx).sm⟩⟩⟩
def Num (v : PV) : Prop := (∃ i, v = .int i) ∨ (∃ b, v = .bl b) ∨ v = .non ∨ ∃ s, v = .str s
theorem Num.kn {M : MM} {v : PV} (h : Num v) : Kn1 M v := by
  rcases h with ⟨i, rfl⟩ | ⟨i, rfl⟩ | rfl | ⟨i, rfl⟩ <;> exact True.intro
/-! ### letters -/
theorem cps_one (c : Char) : (Str.ofString (String.singleton c)).cps.toList = [c.toNat] := by
  rw [Str.ofString_eq_toList]; simp
theorem lt_one {a b : Nat} : ([a] < [b]) ↔ a < b := by
  constructor
  · intro h
    cases h with
    | rel h => exact h
    | cons h => cases h
  · intro h; exact .rel h
theorem az : (Str.ofString "a").cps.toList = [97] ∧ (Str.ofString "z").cps.toList = [122] := by decide +kernel
theorem letters_lo : ∀ c ∈ LETTERS.toList, 97 ≤ c.toNat ∧ c.toNat ≤ 122 := by decide +kernel
theorem letters_hi : ∀ n, n < 26 → LETTERS.toList.contains (Char.ofNat (97 + n)) = true := by decide +kernel
theorem letter_iff (c : Char) : LETTERS.toList.contains c = (decide (97 ≤ c.toNat) && decide (c.toNat ≤ 122)) := by
  rw [Bool.eq_iff_iff, Bool.and_eq_true, decide_eq_true_eq, decide_eq_true_eq]
  constructor
  · intro h; exact letters_lo c (by simpa using h)
  · rintro ⟨h1, h2⟩
    have := letters_hi (c.toNat - 97) (by omega)
    rw [show 97 + (c.toNat - 97) = c.toNat by omega, Char.ofNat_toNat] at this
    exact this
theorem lt_a (c : Char) : sLt (String.singleton c) "a" = decide (c.toNat < 97) := by
  unfold sLt; rw [cps_one, az.1]; exact decide_eq_decide.mpr lt_one
theorem lt_z (c : Char) : sLt "z" (String.singleton c) = decide (122 < c.toNat) := by
  unfold sLt; rw [cps_one, az.2]; exact decide_eq_decide.mpr lt_one
def badC (x : PV) : Option PV := match x with
  | .str z => match z.toList with
    | [c] => if LETTERS.toList.contains c = true then none else some x
    | _ => none
  | _ => none
def signsOf (s : String) : List PV := s.toList.map fun c => .str (String.singleton c)
theorem signs_nil (s : String) : (signsOf s).filterMap badC = [] ↔ (s.toList.all fun c => LETTERS.toList.contains c) = true := by
  rw [List.filterMap_eq_nil_iff, List.all_eq_true]
  unfold signsOf
  constructor
  · intro h c hc
    have := h _ (List.mem_map.mpr ⟨c, hc, rfl⟩)
    unfold badC at this
    simp at this
    simpa using this
  · intro h x hx
    obtain ⟨c, hc, rfl⟩ := List.mem_map.mp hx
    have := h c hc
    unfold badC
    simp
    simpa using this
theorem signs_pl (s : String) : plL 1 ((signsOf s).filterMap badC) = true := by
  unfold plL
  rw [List.all_eq_true]
  intro x hx
  obtain ⟨y, hy, e⟩ := List.mem_filterMap.mp hx
  unfold signsOf at hy
  obtain ⟨c, _, rfl⟩ := List.mem_map.mp hy
  unfold badC at e
  simp at e
  rw [← e.2]; rfl
def C_lname : Con := fun as M Q _ => ∃ v, as = [v] ∧ Flat1 v ∧ ∀ M', Sub M M' → Q (.bl (nameV v)) M'
theorem run_lname {Γ : Gm} : Does Γ N_law_is_name P_law_is_name S_law_is_name C_lname := by
  rintro as M Qa Ea ⟨v, rfl, hv, q⟩ -
  rcases hv with ⟨s, rfl, hl⟩ | ⟨i, rfl⟩
  rotate_left
  · simp [S_law_is_name, N_law_is_name, runSs, runS, runT, runE, isiA, truA]
    exact q M (Sub.refl M)
  have q : ∀ M', Sub M M' → Qa (.bl (nameB s)) M' := q
  have key : nameB s = (decide (1 ≤ s.length) && (decide (s.length ≤ 8) && s.toList.all fun c => LETTERS.toList.contains c)) := rfl
  simp [S_law_is_name, N_law_is_name, runSs, runS, runT, runE, runEs, isiA, truA, biA, cmpA, runI, itA]
  refine ⟨by omega, ?_⟩
  by_cases h1 : 1 ≤ s.length
  rotate_left
  · rw [if_neg (by omega)]
    have q' := q M (Sub.refl M)
    rw [key, decide_eq_false h1] at q'
    simpa [runSs, runS, runE] using q'
  rw [if_pos (by omega)]
  by_cases h2 : s.length ≤ 8
  rotate_left
  · have q' := q M (Sub.refl M)
    rw [key, decide_eq_false h2] at q'
    rw [if_pos (by omega)]
    simpa [runSs, runS, runE] using q'
  rw [if_neg (by omega)]
  intro D hD
  refine lcF_go (Mb := M) (f := badC) hD (fun _ _ => True.intro) mput_same ((Sub.refl M).put hD) (by simp only [List.length_nil, List.length_map]; rw [String.length_toList]; omega) ?_ ?_
  · intro x hx M' s' Kt Kf hKt hKf
    obtain ⟨c, hc, rfl⟩ := List.mem_map.mp hx
    have fin : ∀ b : Bool, b = LETTERS.toList.contains c → (if (!b) = true then Kt (.str (String.singleton c)) M' else Kf M') := by
      intro b hb
      cases b with
      | true => exact hKf (by unfold badC; simp; simpa using hb.symm) M' (Sub.refl _)
      | false => exact hKt _ (by unfold badC; simp; simpa using hb.symm) M' (Sub.refl _)
    simp [runTg, runC, wipeG, T1_law_is_name, runT, runE, cmpA, lt_a, lt_z]
    have fin2 := fin _ (letter_iff c).symm
    by_cases g1 : c.toNat < 97
    · have g1' : ¬ 97 ≤ c.toNat := by omega
      simpa [g1, g1'] using fin2
    · have g1' : 97 ≤ c.toNat := by omega
      by_cases g2 : 122 < c.toNat
      · have g2' : ¬ c.toNat ≤ 122 := by omega
        simpa [g1, g2, g1', g2'] using fin2
      · have g2' : c.toNat ≤ 122 := by omega
        simpa [g1, g2, g1', g2'] using fin2
  · intro M1 t1 k1
    have k1' : M1 D = some (.lst ((signsOf s).filterMap badC)) := by rw [k1]; rfl
    intro p hp
    refine eqA_plL 1 1 (by omega) (by omega) ((Sub.new hp) _ _ k1') mput_same (signs_pl s) rfl (s.toList.all fun c => LETTERS.toList.contains c) ((signs_nil s).symm) ?_
    have q' := q _ (t1.trans (Sub.new (o := .lst []) hp))
    rw [key, decide_eq_true h1, decide_eq_true h2, Bool.true_and, Bool.true_and] at q'
    exact q'
def C_lnum : Con := fun as M Q _ => ∃ v, as = [v] ∧ Num v ∧ Q (.bl (fromB v 0 2)) M
theorem run_lnum {Γ : Gm} : Does Γ N_law_number P_law_number S_law_number C_lnum := by
  rintro as M Qa Ea ⟨v, rfl, hv, q⟩ -
  rcases hv with ⟨i, rfl⟩ | ⟨i, rfl⟩ | rfl | ⟨i, rfl⟩
  · simp [S_law_number, N_law_number, runSs, runS, runT, runE, isiA, truA, cmpA]
    have q : Qa (.bl (decide (0 ≤ i) && decide (i ≤ 2))) M := q
    by_cases g : 0 ≤ i
    · simpa [g] using q
    · simpa [g] using q
  · simpa [S_law_number, N_law_number, runSs, runS, runT, runE, isiA, truA, cmpA, fromB] using q
  · simpa [S_law_number, N_law_number, runSs, runS, runT, runE, isiA, truA, cmpA, fromB] using q
  · simpa [S_law_number, N_law_number, runSs, runS, runT, runE, isiA, truA, cmpA, fromB] using q
/-! ### plain: what sets tell -/
theorem perm_of {α : Type} [DecidableEq α] : ∀ {l m : List α}, l.Nodup → (∀ x ∈ l, x ∈ m) → m.length ≤ l.length → l.Perm m
  | [], m, _, _, h => by
    have : m = [] := List.eq_nil_of_length_eq_zero (by simpa using h)
    rw [this]
  | a :: t, m, nd, hs, hl => by
    have nd' := List.nodup_cons.mp nd
    have ha := hs a List.mem_cons_self
    have hp := List.length_pos_of_mem ha
    have := perm_of (l := t) (m := m.erase a) nd'.2 (fun x hx => (List.mem_erase_of_ne (fun e => nd'.1 (by rw [← e]; exact hx))).mpr (hs x (List.mem_cons_of_mem _ hx))) (by
      rw [List.length_erase_of_mem ha]; simp at hl; omega)
    exact (this.cons a).trans (List.perm_cons_erase ha).symm
theorem set_less {ss l : List String} (nd : l.Nodup) (mem : ∀ x, x ∈ l ↔ x ∈ ss) : decide (l.length < ss.length) = !decide ss.Nodup := by
  rw [Bool.eq_iff_iff, Bool.not_eq_true', decide_eq_false_iff_not, decide_eq_true_eq]
  constructor
  · intro h hn
    have := nodup_sub hn fun x hx => (mem x).mpr hx
    omega
  · intro hn
    refine Decidable.byContradiction fun h => hn ?_
    exact (perm_of nd (fun x hx => (mem x).mp hx) (by omega)).nodup_iff.mp nd
theorem asc_pw : ∀ {ws : List String}, (ws.zip (ws.drop 1)).all (fun p => sLt p.1 p.2) = true → ws.Pairwise fun a b => cps a < cps b
  | [], _ => .nil
  | [x], _ => List.pairwise_singleton _ _
  | x :: y :: r, h => by
    have h' : (sLt x y && ((y :: r).zip ((y :: r).drop 1)).all (fun p => sLt p.1 p.2)) = true := h
    rw [Bool.and_eq_true] at h'
    have ih := asc_pw h'.2
    have hxy : cps x < cps y := of_decide_eq_true h'.1
    refine List.Pairwise.cons (fun z hz => ?_) ih
    rcases List.mem_cons.mp hz with rfl | hz
    · exact hxy
    · exact List.lt_trans hxy (List.rel_of_pairwise_cons ih hz)
theorem pw_asc : ∀ {ws : List String}, (ws.Pairwise fun a b => cps a < cps b) → (ws.zip (ws.drop 1)).all (fun p => sLt p.1 p.2) = true
  | [], _ => rfl
  | [x], _ => rfl
  | x :: y :: r, h => by
    show (sLt x y && ((y :: r).zip ((y :: r).drop 1)).all (fun p => sLt p.1 p.2)) = true
    rw [Bool.and_eq_true]
    exact ⟨decide_eq_true (List.rel_of_pairwise_cons h List.mem_cons_self), pw_asc (List.Pairwise.of_cons h)⟩
theorem set_sorted {ws l : List String} (nd : l.Nodup) (mem : ∀ x, x ∈ l ↔ x ∈ ws) (srt : sortedT l = true) : ws = l ↔ (ws.zip (ws.drop 1)).all (fun p => sLt p.1 p.2) = true := by
  have pl := sorted_pw srt
  constructor
  · rintro rfl
    refine pw_asc ?_
    refine (pl.and nd).imp fun {a b} h => ?_
    rcases h with ⟨h1, h2⟩
    exact Decidable.byContradiction fun hn => h2 (leS_anti h1 hn)
  · intro h
    have pw := asc_pw h
    have ndw : ws.Nodup := pw.imp fun {a b} h e => by subst e; exact List.lt_irrefl _ h
    have p : ws.Perm l := (List.perm_ext_iff_of_nodup ndw nd).mpr fun x => (mem x).symm
    exact List.Perm.eq_of_pairwise (le := leS) (fun a b _ _ => leS_anti) (pw.imp fun {a b} h z => List.lt_asymm h z) pl p
end Law
end

section
set_option maxHeartbeats 4000000
/-! k01: what is due, what is told. -/
namespace Law
open PySem L2 Rx
def tabP (p l m r w : PV) : List (PV × PV) := [(.str "people", p), (.str "longest", l), (.str "most", m), (.str "rule", r), (.str "words", w)]
theorem tabP_at (p l m r w : PV) : dGet (tabP p l m r w) (.str "people") = some p ∧ dGet (tabP p l m r w) (.str "longest") = some l ∧ dGet (tabP p l m r w) (.str "most") = some m ∧ dGet (tabP p l m r w) (.str "rule") = some r ∧ dGet (tabP p l m r w) (.str "words") = some w := by
  simp [tabP, dGet_str]
def KEYS5 : List String := ["back", "count", "end", "gap", "more"]
theorem keys5_len {ks : List (String × PV)} (nd : (ks.map (·.1)).Nodup) (h : ∀ x ∈ ks.map (·.1), x ∈ KEYS5) : ks.length ≤ 5 := by
  have := nodup_sub nd h
  rw [List.length_map] at this
  exact this
def RFlat (v : PV) : Prop := (∃ s, v = .str s) ∨ v = .non ∨ (∃ i, v = .int i) ∨ ∃ xs, v = .tup xs
/-- a rule, good or not -/
def RArg (M : MM) (v : PV) (f : Option String) : Prop := (v = .non ∧ f = some "") ∨ (∃ a, v = .ref a ∧ M a = some (.lst []) ∧ f = some "") ∨
  ∃ a ks, v = .ref a ∧ M a = some (.dct (kS ks)) ∧ (ks.map (·.1)).Nodup ∧ (∀ x ∈ ks.map (·.1), x ∈ KEYS5) ∧ (∀ q ∈ ks, RFlat q.2) ∧ f = ruleFault ks
theorem RFlat.kn {M : MM} {v : PV} (h : RFlat v) : Kn1 M v := by
  rcases h with ⟨i, rfl⟩ | rfl | ⟨i, rfl⟩ | ⟨i, rfl⟩ <;> exact True.intro
theorem RArg.sub {M M' : MM} {v : PV} {f : Option String} (h : RArg M v f) (s : Sub M M') : RArg M' v f := by
  rcases h with h | ⟨a, e, h1, h2⟩ | ⟨a, ks, e, h1, h2⟩
  · exact .inl h
  · exact .inr (.inl ⟨a, e, s _ _ h1, h2⟩)
  · exact .inr (.inr ⟨a, ks, e, s _ _ h1, h2⟩)
theorem RArg.arg {M : MM} {v : PV} {f : Option String} (h : RArg M v f) : RuleArg M v f := by
  rcases h with ⟨rfl, e⟩ | ⟨a, rfl, h1, e⟩ | ⟨a, ks, rfl, h1, h2, h3, h4, e⟩
  · exact .inl ⟨True.intro, e⟩
  · exact .inl ⟨⟨_, h1⟩, e⟩
  · exact .inr ⟨a, ks, rfl, h1, h2, by have := keys5_len h2 h3; omega, fun q hq => (h4 q hq).kn, e⟩
structure SpA (M : MM) (t : Addr) (p l m r w : PV) (f : Option String) : Prop where
  t : M t = some (.dct (tabP p l m r w))
  p : PArg M p
  l : Num l
  m : Num m
  r : RArg M r f
  w : PArg M w
theorem SpA.sub {M M' : MM} {t : Addr} {p l m r w : PV} {f : Option String} (h : SpA M t p l m r w f) (s : Sub M M') : SpA M' t p l m r w f := ⟨s _ _ h.t, h.p.sub s, h.l, h.m, h.r.sub s, h.w.sub s⟩
def dueL (x : XV) : List PV := if x.c = "BadPeople" then [.str "people"] else if x.c = "BadNumber" then [.str "number"] else if x.c = "BadRule" then [.str "rule", (x.fs.lookup "part").getD .non] else [.str "words"]
def DueAt (M : MM) (v : PV) (x : Option XV) : Prop := match x with
  | none => v = .non
  | some x => ∃ a, v = .ref a ∧ M a = some (.lst (dueL x))
theorem DueAt.sub {M M' : MM} {v : PV} {x : Option XV} (h : DueAt M v x) (s : Sub M M') : DueAt M' v x := by
  cases x with
  | none => exact h
  | some x => obtain ⟨a, e, h⟩ := h; exact ⟨a, e, s _ _ h⟩
/-! ### good books -/
def wAt (ks : List (String × PV)) (z : String) : String := match ks.lookup z with
  | some (.str u) => u
  | _ => ""
theorem good_book {M : MM} {p l m r w : PV} {f : Option String} (hr : RArg M r f) (h : bookFault p l m f w = none) : ∃ b, BookIs M p l m r w b := by
  unfold bookFault at h
  split at h
  rotate_left
  · cases h
  rename_i hp
  split at h
  rotate_left
  · cases h
  rename_i hn
  split at h
  · cases h
  rename_i hf
  split at h
  rotate_left
  · cases h
  rename_i hw
  rw [Bool.and_eq_true] at hn
  have num : ∀ v, fromB v 0 2 = true → ∃ n : Nat, v = .int n := by
    intro v hv
    cases v <;> simp [fromB] at hv
    rename_i i
    exact ⟨i.toNat, by rw [Int.toNat_of_nonneg hv.1]⟩
  obtain ⟨n1, rfl⟩ := num l hn.1
  obtain ⟨n2, rfl⟩ := num m hn.2
  cases p <;> simp [peopleV] at hp
  rename_i xs
  obtain ⟨ss, rfl, _⟩ := names_strs (xs := xs) (by rw [List.all_eq_true]; exact hp.2.2.1)
  cases w <;> simp [wordsV] at hw
  rename_i ys
  obtain ⟨ws, rfl, _⟩ := words_strs (W := WORDS) (xs := ys) (by rw [List.all_eq_true]; exact hw.1)
  rcases hr with ⟨rfl, e⟩ | ⟨a, rfl, h1, e⟩ | ⟨a, ks, rfl, h1, h2, h3, h4, e⟩
  · cases e
  · cases e
  · have e2 : (PARTS.find? fun z => !(goodAt ks z)) = none := by
      have e : none = ruleFault ks := e
      unfold ruleFault at e
      split at e
      · cases e
      · exact e.symm
    rw [List.find?_eq_none] at e2
    have g : ∀ z ∈ PARTS, ks.lookup z = some (.str (wAt ks z)) := fun z hz => by
      have := e2 z hz
      have hg : goodAt ks z = true := by simpa using this
      unfold goodAt at hg
      unfold wAt
      cases hk : ks.lookup z with
      | none => rw [hk] at hg; exact absurd hg Bool.false_ne_true
      | some v =>
        rw [hk] at hg
        cases v <;> first | rfl | exact absurd hg Bool.false_ne_true
    refine ⟨⟨ss, n1, n2, wAt ks "back", wAt ks "count", wAt ks "end", wAt ks "gap", ws⟩, rfl, rfl, rfl, ⟨a, ks, rfl, h1, fun z hz => ?_⟩, rfl, by simp at hp; show ss.length < 64; omega⟩
    rw [g z hz]
    simp [PARTS] at hz
    rcases hz with rfl | rfl | rfl | rfl <;> rfl
def C_madeX : Con := fun as M Q E => ∃ t p l m r w f, as = [.ref t] ∧ SpA M t p l m r w f ∧ (∀ x, bookFault p l m f w = some x → ∀ M', Sub M M' → E x M') ∧ (bookFault p l m f w = none → ∀ a M', Sub M M' → Q (.ref a) M')
theorem run_madeX {Γ : Gm} (h1 : Γ.mkc "Book" = some (6, C_Book_init)) : Does Γ N_law_made P_law_made S_law_made C_madeX := by
  rintro as M Qa Ea ⟨t, p, l, m, r, w, f, rfl, h, e, q⟩ -
  obtain ⟨a1, a2, a3, a4, a5⟩ := tabP_at p l m r w
  have ht := h.t
  simp [S_law_made, N_law_made, runSs, runS, runE, runEs, subA, ht, a1, a2, a3, a4, a5, keyOk_str, h1]
  exact mk_book h.p.kn h.l.kn h.m.kn h.r.arg h.w.kn e fun hf => by
    obtain ⟨b, hb⟩ := good_book h.r hf
    exact ⟨b, hb, fun a M' _ s _ => q hf a M' s⟩
def C_toldX : Con := fun as M Q _ => ∃ t p l m r w f, as = [.ref t] ∧ SpA M t p l m r w f ∧ ∀ v M', Sub M M' → DueAt M' v (bookFault p l m f w) → Q v M'
theorem fault_is {p l m w : PV} {f : Option String} {x : XV} (h : bookFault p l m f w = some x) : x = ⟨"BadPeople", []⟩ ∨ x = ⟨"BadNumber", []⟩ ∨ (∃ s, x = ⟨"BadRule", [("part", .str s)]⟩) ∨ x = ⟨"BadWords", []⟩ := by
  unfold bookFault at h
  split at h
  · split at h
    · split at h
      · rename_i s
        cases h
        exact .inr (.inr (.inl ⟨_, rfl⟩))
      · split at h
        · cases h
        · cases h; exact .inr (.inr (.inr rfl))
    · cases h; exact .inr (.inl rfl)
  · cases h; exact .inl rfl
theorem run_toldX {Γ : Gm} (x0 : Γ.xn.contains "DutyError" = true) (x1 : Γ.xn.contains "BadPeople" = true) (x2 : Γ.xn.contains "BadNumber" = true) (x3 : Γ.xn.contains "BadRule" = true) (x4 : Γ.xn.contains "BadWords" = true) (h1 : Γ.fn "_law_made" = some (1, C_madeX)) : Does Γ N_law_told P_law_told S_law_told C_toldX := by
  rintro as M Qa Ea ⟨t, p, l, m, r, w, f, rfl, h, q⟩ -
  have x0' : "DutyError" ∈ Γ.xn := by simpa using x0
  have x1' : "BadPeople" ∈ Γ.xn := by simpa using x1
  have x2' : "BadNumber" ∈ Γ.xn := by simpa using x2
  have x3' : "BadRule" ∈ Γ.xn := by simpa using x3
  have x4' : "BadWords" ∈ Γ.xn := by simpa using x4
  have h6 := sz6
  simp [S_law_told, N_law_told, runSs, s1_law_told, s2_law_told, B1_law_told, H2_law_told, runS, runE, runEs, runTg, h1]
  refine ⟨t, p, l, m, r, w, f, rfl, h, fun x hx M' s' => ?_, fun hf a M' s' => ?_⟩
  · rw [hx] at q
    rcases fault_is hx with rfl | rfl | ⟨s, rfl⟩ | rfl
    · simp [hdW, x0', x1', x2', x3', x4', excIs, runX, xlVals, xlVal, xfNames, newL, List.lookup, s3_law_told, runS, runE]
      exact fun d hd => q _ _ (s'.trans (Sub.new hd)) ⟨d, rfl, mput_same⟩
    · simp [hdW, x0', x1', x2', x3', x4', excIs, runX, xlVals, xlVal, xfNames, newL, List.lookup, s3_law_told, runS, runE]
      exact fun d hd => q _ _ (s'.trans (Sub.new hd)) ⟨d, rfl, mput_same⟩
    · simp [hdW, x0', x1', x2', x3', x4', excIs, runX, xlVals, xlVal, xfNames, newL, List.lookup, s3_law_told, runS, runE]
      exact fun d hd => q _ _ (s'.trans (Sub.new hd)) ⟨d, rfl, mput_same⟩
    · simp [hdW, x0', x1', x2', x3', x4', excIs, runX, xlVals, xlVal, xfNames, newL, List.lookup, s3_law_told, runS, runE]
      exact fun d hd => q _ _ (s'.trans (Sub.new hd)) ⟨d, rfl, mput_same⟩
  · rw [hf] at q
    simp [s3_law_told, runS, runE]
    exact q _ M' s' rfl
end Law
end

section
set_option maxHeartbeats 4000000
/-! k01: what is due, by the law's own look. -/
namespace Law
open PySem L2 Rx
def nameF (x : PV) : Option PV := if nameV x = true then none else some x
theorem flat_pl {x : PV} (h : Flat1 x) : plP 1 x = true := by
  rcases h with ⟨s, rfl, _⟩ | ⟨i, rfl⟩ <;> rfl
theorem filt_pl {f : PV → Option PV} (hf : ∀ x y, f x = some y → y = x) {xs : List PV} (h : ∀ x ∈ xs, Flat1 x) : plL 1 (xs.filterMap f) = true := by
  unfold plL
  rw [List.all_eq_true]
  intro y hy
  obtain ⟨x, hx, e⟩ := List.mem_filterMap.mp hy
  rw [hf x y e]; exact flat_pl (h x hx)
theorem nameF_id : ∀ x y, nameF x = some y → y = x := fun x y h => by
  unfold nameF at h; split at h
  · cases h
  · cases h; rfl
def inF (W : List String) (x : PV) : Option PV := if strIn x W = true then none else some x
theorem inF_id (W : List String) : ∀ x y, inF W x = some y → y = x := fun x y h => by
  unfold inF at h; split at h
  · cases h
  · cases h; rfl
theorem smem_flat {x : PV} (h : Flat1 x) (W : List String) : sMem x (W.map .str) = some (strIn x W) := by
  rcases h with ⟨s, rfl, _⟩ | ⟨i, rfl⟩
  · rw [sMem_str]; rfl
  · induction W with
    | nil => rfl
    | cons a t ih =>
      have ih : sMem (.int i) (t.map .str) = some false := ih
      show (match sEq (.str a) (.int i), sMem (.int i) (t.map .str) with | some b, some c => some (b || c) | _, _ => none) = some false
      rw [ih]; rfl
theorem rule_same {ks : List (String × PV)} (nd : (ks.map (·.1)).Nodup) : (!(ks.all fun q => PARTS.contains q.1) || decide (ks.length < 4)) = !(decide (ks.length = 4) && PARTS.all fun z => (ks.lookup z).isSome) := by
  have look : ∀ z, (ks.lookup z).isSome = true ↔ z ∈ ks.map (·.1) := by
    intro z
    constructor
    · intro h
      obtain ⟨v, hv⟩ := Option.isSome_iff_exists.mp h
      clear h nd
      induction ks with
      | nil => cases hv
      | cons q r ih =>
        rw [List.lookup_cons] at hv
        by_cases e : z = q.1
        · rw [e]; simp
        · have e2 : (z == q.1) = false := beq_eq_false_iff_ne.mpr e
          rw [e2] at hv
          rw [List.map_cons]; exact List.mem_cons_of_mem _ (ih hv)
    · intro h
      obtain ⟨v, hv, _⟩ := look_some h
      rw [hv]; rfl
  have hl : (ks.map (·.1)).length = ks.length := List.length_map _
  rw [← Bool.not_not (!(ks.all fun q => PARTS.contains q.1) || decide (ks.length < 4))]
  congr 1
  rw [Bool.not_or, Bool.not_not, Bool.eq_iff_iff, Bool.and_eq_true, Bool.and_eq_true, decide_eq_true_eq, Bool.not_eq_true', decide_eq_false_iff_not, List.all_eq_true, List.all_eq_true]
  constructor
  · rintro ⟨h1, h2⟩
    have hs : ∀ x ∈ ks.map (·.1), x ∈ PARTS := fun x hx => by
      obtain ⟨q, hq, rfl⟩ := List.mem_map.mp hx
      simpa using h1 q hq
    have := nodup_sub nd hs
    rw [hl] at this
    have p4 : PARTS.length = 4 := rfl
    have p := perm_of nd hs (by rw [hl]; omega)
    exact ⟨by omega, fun z hz => (look z).mpr (p.mem_iff.mpr hz)⟩
  · rintro ⟨h1, h2⟩
    have hs : ∀ x ∈ PARTS, x ∈ ks.map (·.1) := fun x hx => (look x).mp (h2 x hx)
    have p := perm_of (by decide : PARTS.Nodup) hs (by rw [hl, h1]; decide)
    refine ⟨fun q hq => ?_, by omega⟩
    have := p.mem_iff.mpr (List.mem_map.mpr ⟨q, hq, rfl⟩)
    simpa using this
def partF (ks : List (String × PV)) (x : PV) : Option PV := match x with
  | .str z => if (ks.lookup z).isSome = true then none else some x
  | _ => none
theorem partF_id (ks : List (String × PV)) (z : String) (y : PV) (h : partF ks (.str z) = some y) : y = .str z := by
  have h : (if (ks.lookup z).isSome = true then none else some (PV.str z)) = some y := h
  by_cases g : (ks.lookup z).isSome = true
  · rw [if_pos g] at h; cases h
  · rw [if_neg g] at h; exact (Option.some.inj h).symm
theorem eqA_int {i j : Int} {M : MM} {Q : Bool → Prop} : eqA (.int i) (.int j) M Q = Q (decide (i = j)) := rfl
def C_due : Con := fun as M Q _ => ∃ t p l m r w f, as = [.ref t] ∧ SpA M t p l m r w f ∧ ∀ v M', Sub M M' → DueAt M' v (bookFault p l m f w) → Q v M'
theorem run_due {Γ : Gm} (h1 : Γ.fn "_law_is_name" = some (1, C_lname)) (h2 : Γ.fn "_law_number" = some (1, C_lnum)) (h3 : Γ.fn "_law_parts" = some (0, C_parts)) : Does Γ N_law_due P_law_due S_law_due C_due := by
  rintro as M Qa Ea ⟨t, p, l, m, r, w, f, rfl, ⟨ht, hp, hl, hm, hr, hw⟩, q⟩ -
  have h6 := sz6
  obtain ⟨a1, a2, a3, a4, a5⟩ := tabP_at p l m r w
  simp [S_law_due, N_law_due, runSs]
  simp [s1_law_due, runS, runE, runEs, runTg, runTgs, tgsLen, subA, ht, a1, a4, a5, keyOk_str]
  refine ⟨by omega, ?_⟩
  -- one ending
  have bad : ∀ (x : XV) (ps : List PV) (M' : MM), Sub M M' → bookFault p l m f w = some x → dueL x = ps → ps.length ≤ 2 → newL ps M' Qa := fun x ps M' s hx hps _ d hd => q _ _ (s.trans (Sub.new hd)) (by rw [hx]; exact ⟨d, rfl, by rw [mput_same, hps]⟩)
  -- people
  have bp : peopleV p = false → ∀ M', Sub M M' → newL [.str "people"] M' Qa := fun h M' s => bad ⟨"BadPeople", []⟩ _ M' s (by simp [bookFault, h]) rfl (by simp)
  simp [s2_law_due, runS, runT, runE, runEs]
  refine isi_tup hp.1 ?_
  cases p
  case tup xs =>
    obtain ⟨xl, xf⟩ := hp.2 xs rfl
    have key : peopleV (.tup xs) = (decide (2 ≤ xs.length) && (decide (xs.length ≤ 3) && (xs.all nameV && nodupV xs))) := rfl
    simp [isTup, truA, biA, cmpA, runSs, runS, runE, runEs]
    by_cases g1 : 2 ≤ xs.length
    rotate_left
    · have : ¬ (2 : Int) ≤ xs.length := by omega
      simp [this]
      exact ⟨by omega, bp (by rw [key]; simp [g1]) M (Sub.refl M)⟩
    have g1' : (2 : Int) ≤ xs.length := by omega
    by_cases g2 : xs.length ≤ 3
    rotate_left
    · have : ¬ (xs.length : Int) ≤ 3 := by omega
      simp [g1', this]
      exact ⟨by omega, bp (by rw [key]; simp [g2]) M (Sub.refl M)⟩
    have g2' : (xs.length : Int) ≤ 3 := by omega
    simp [g1', g2']
    simp [s3_law_due, runS, runT, runE, runEs, runI, itA]
    intro D hD
    refine lcF_go (Mb := M) (f := nameF) hD (fun _ _ => True.intro) mput_same ((Sub.refl M).put hD) (by simp; omega) ?_ ?_
    · intro x hx M' s' Kt Kf hKt hKf
      simp [runTg, runC, wipeG, T1_law_due, runT, runE, runEs, h1, C_lname]
      refine ⟨xf x hx, fun M'' s'' => ?_⟩
      by_cases g : nameV x = true
      · simp [truA, g]; exact hKf (by simp [nameF, g]) M'' s''
      · simp [truA, g]; exact hKt x (by simp [nameF, g]) M'' s''
    intro M1 t1 k1
    rw [List.nil_append] at k1
    intro e1 he1
    have t2 := t1.trans (Sub.new (o := .lst []) he1)
    try simp only [cmpA]
    refine eqA_plL 1 1 (by omega) (by omega) ((Sub.new he1) _ _ k1) mput_same (filt_pl nameF_id xf) (show plL 1 [] = true from rfl) (xs.all nameV) ?_ ?_
    · rw [List.filterMap_eq_nil_iff, List.all_eq_true]
      refine forall_congr' fun x => forall_congr' fun _ => ?_
      unfold nameF
      by_cases g : nameV x = true <;> simp [g]
    by_cases g3 : xs.all nameV = true
    rotate_left
    · have g3' : xs.all nameV = false := by simpa using g3
      simp only [g3']
      simp [runSs, runS, runE, runEs]
      exact ⟨by omega, bp (by rw [key, g3']; simp) _ t2⟩
    obtain ⟨ss, rfl, hss⟩ := names_strs g3
    rw [g3]
    simp [setR, strsOf_map, biA, cmpA]
    refine ⟨by simpa using (by simpa using xl : ss.length ≤ 5 ) |> fun h => (by omega : ss.length ≤ 50), fun ls nd mem => ?_⟩
    have less := set_less nd mem
    have less' : decide ((ls.length : Int) < (ss.length : Int)) = !decide ss.Nodup := by rw [← less]; exact decide_eq_decide.mpr (by omega)
    have key2 : peopleV (.tup (ss.map .str)) = decide ss.Nodup := by
      have g1s : 2 ≤ ss.length := by simpa using g1
      have g2s : ss.length ≤ 3 := by simpa using g2
      rw [key, g3]
      simp [nodupV, strsOf_map, g1s, g2s]
    by_cases g4 : ss.Nodup
    rotate_left
    · have this : (ls.length : Int) < (ss.length : Int) := by
        rw [decide_eq_false g4] at less'
        exact of_decide_eq_true less'
      have hlt : ls.length < ss.length := by omega
      have hle : ¬ ss.length ≤ ls.length := by omega
      simp [this, hlt, hle, runSs, runS, runE, runEs]
      exact ⟨by omega, bp (by rw [key2, decide_eq_false g4]) _ t2⟩
    have : ¬ (ls.length : Int) < (ss.length : Int) := by
      rw [decide_eq_true g4] at less'
      exact of_decide_eq_false less'
    have hlt : ¬ ls.length < ss.length := by omega
    have hle : ss.length ≤ ls.length := by omega
    simp [this, hlt, hle, runSs]
    have hpp : peopleV (.tup (ss.map .str)) = true := by rw [key2, decide_eq_true g4]
    generalize mput M1 e1 (.lst []) = M2 at t2
    -- numbers
    have bn : (fromB l 0 2 && fromB m 0 2) = false → ∀ M', Sub M M' → newL [.str "number"] M' Qa := fun h M' s => bad ⟨"BadNumber", []⟩ _ M' s (by simp only [bookFault, hpp, h]; rfl) rfl (by simp)
    have ht2 := t2 _ _ ht
    simp [s4_law_due, runS, runT, runE, runEs, subA, ht2, a2, a3, keyOk_str, h2]
    refine ⟨l, rfl, hl, ?_⟩
    by_cases g5 : fromB l 0 2 = true
    rotate_left
    · have g5' : fromB l 0 2 = false := by simpa using g5
      simp [truA, g5', runSs, runS, runE, runEs]
      exact ⟨by omega, bn (by rw [g5']; rfl) _ t2⟩
    simp [truA, g5, runSs, runS, runE, runEs, ht2, a3]
    refine ⟨m, rfl, hm, ?_⟩
    by_cases g6 : fromB m 0 2 = true
    rotate_left
    · have g6' : fromB m 0 2 = false := by simpa using g6
      simp [truA, g6', runSs, runS, runE, runEs]
      exact ⟨by omega, bn (by rw [g6']; simp) _ t2⟩
    simp [truA, g6, runSs]
    have hnn : (fromB l 0 2 && fromB m 0 2) = true := by rw [g5, g6]; rfl
    -- the parts' names
    simp [s5_law_due, runS, runE, runEs, runI, h3, C_parts]
    intro pp M3 pa t3 ep
    obtain ⟨l1, l2, l3, l4, hpp4, k1, k2, k3, k4⟩ := pa
    simp [itA, hpp4]
    intro D2 hD2
    have hD2' : D2 ≠ pp := fun z => by rw [z, hpp4] at hD2; cases hD2
    refine lcF_map (Mb := M3) (f := fun x => match x with | .tup [a, _] => a | _ => .non) hD2 (fun M' s => s _ _ hpp4) mput_same ((Sub.refl M3).put hD2) (by simp) ?_ ?_
    · intro x hx M' s' Kt Kf hKt
      simp at hx
      rcases hx with rfl | rfl | rfl | rfl <;> (simp [runTg, runTgs, tgsLen, runC, wipeG, runE]; exact hKt _ (Sub.refl _))
    intro M4 t4 k5
    have k5' : M4 D2 = some (.lst (PARTS.map PV.str)) := k5
    have t24 : Sub M M4 := (t2.trans t3).trans t4
    -- the rule
    have brl : ∀ s, f = some s → ∀ M', Sub M M' → newL [.str "rule", .str s] M' Qa := fun s h M' sM => bad ⟨"BadRule", [("part", .str s)]⟩ _ M' sM (by simp only [bookFault, hpp, hnn, h]; rfl) rfl (by simp)
    have hr4 := hr.sub t24
    simp [s6_law_due, runS, runT, runE, runEs]
    rcases hr4 with ⟨rfl, e⟩ | ⟨ra, rfl, hra, e⟩ | ⟨ra, ks, rfl, hra, nd, kl, kf, e⟩
    · simp [isiA, truA, runSs, runS, runE, runEs]
      exact ⟨by omega, brl "" e M4 t24⟩
    · simp [isiA, hra, truA, runSs, runS, runE, runEs]
      exact ⟨by omega, brl "" e M4 t24⟩
    have kln : (kS ks).length = ks.length := by simp [kS]
    have rs := rule_same nd
    simp [isiA, hra, truA, biA, kln, cmpA, eqA_int]
    by_cases g7 : ks.length = 4
    rotate_left
    · have : ¬ (ks.length : Int) = 4 := by omega
      simp [this, runSs, runS, runE, runEs]
      refine ⟨by omega, brl "" ?_ M4 t24⟩
      rw [e]
      unfold ruleFault
      rw [rs]
      simp [g7]
    have g7' : (ks.length : Int) = 4 := by omega
    simp [g7', runI, runE, itA, k5']
    intro D3 hD3
    have hD3' : D3 ≠ D2 := fun z => by rw [z, k5'] at hD3; cases hD3
    refine lcF_go (Mb := M4) (f := partF ks) hD3 (fun M' s => s _ _ k5') mput_same ((Sub.refl M4).put hD3) (by simp [PARTS]) ?_ ?_
    · intro x hx M' s' Kt Kf hKt hKf
      obtain ⟨z, hz, rfl⟩ := mem_map_str hx
      simp [runTg, runC, wipeG, T2_law_due, runT, runE, cmpA, inA, s' _ _ hra, keyOk_str, dGet_kS]
      have kt := hKt (.str z)
      have eg := dGet_kS z ks
      cases g : ks.lookup z with
      | none => rw [g] at eg; simp [eg]; exact kt (by simp [partF, g]) M' (Sub.refl _)
      | some v => rw [g] at eg; simp [eg]; exact hKf (by simp [partF, g]) M' (Sub.refl _)
    intro M5 t5 k6
    rw [List.nil_append] at k6
    intro e2 he2
    have t6 := (t24.trans t5).trans (Sub.new (o := .lst []) he2)
    have t46 := t5.trans (Sub.new (o := .lst []) he2)
    try simp only [cmpA]
    refine eqA_plL 1 1 (by omega) (by omega) ((Sub.new he2) _ _ k6) mput_same (by
      unfold plL
      rw [List.all_eq_true]
      intro y hy
      obtain ⟨x, hx, e⟩ := List.mem_filterMap.mp hy
      obtain ⟨z, hz, rfl⟩ := mem_map_str hx
      rw [partF_id ks z y e]; rfl) (show plL 1 [] = true from rfl) (PARTS.all fun z => (ks.lookup z).isSome) ?_ ?_
    · rw [List.filterMap_eq_nil_iff, List.all_eq_true]
      constructor
      · intro h x hx
        obtain ⟨z, hz, rfl⟩ := mem_map_str hx
        simp [partF, h z hz]
      · intro h z hz
        have := h _ (List.mem_map.mpr ⟨z, hz, rfl⟩)
        simpa [partF] using this
    by_cases g8 : (PARTS.all fun z => (ks.lookup z).isSome) = true
    rotate_left
    · have g8' : (PARTS.all fun z => (ks.lookup z).isSome) = false := by simpa using g8
      simp only [g8']
      simp [runSs, runS, runE, runEs]
      refine ⟨by omega, brl "" ?_ _ t6⟩
      rw [e]
      unfold ruleFault
      rw [rs, g8']
      simp
    rw [g8]
    simp [runSs]
    have hf : f = PARTS.find? fun z => !(goodAt ks z) := by
      rw [e]
      unfold ruleFault
      rw [rs, g8, g7]
      rfl
    generalize mput M5 e2 (.lst []) = M6 at t6 t46
    have hra6 := t46 _ _ hra
    simp [s7_law_due, runS, runE, runEs, runI, h3, C_parts]
    intro p2 M7 pa2 t7 ep2
    obtain ⟨l1, l2, l3, l4, hp2, k1, k2, k3, k4⟩ := pa2
    simp [itA, hp2]
    have tm7 : Sub M M7 := t6.trans t7
    have hra7 := t7 _ _ hra6
    refine forF_inv (fun xs g M' => ∃ j, j ≤ 4 ∧ xs = (itemsL l1 l2 l3 l4).drop j ∧ (∃ g5 g6, g = [some (.ref t), some (.tup (ss.map .str)), some (.ref ra), some w, some (.ref D2), g5, g6, none, none, none]) ∧ M7 = M' ∧ ∀ z ∈ PARTS.take j, goodAt ks z = true) ?_ ?_ ?_ ?_
    · rintro xs g M' ⟨j, _, _, _, rfl, _⟩; exact hp2
    · rintro g M' ⟨j, j4, hx, ⟨g5, g6, rfl⟩, rfl, hg⟩
      have ej : j = 4 := by
        have := congrArg List.length hx
        simp [itemsL] at this; omega
      subst ej
      have fn : f = none := by
        rw [hf, List.find?_eq_none]
        intro z hz; simp [hg z hz]
      subst fn
      -- words
      have bw : wordsV w = false → ∀ M', Sub M M' → newL [.str "words"] M' Qa := fun h M' s => bad ⟨"BadWords", []⟩ _ M' s (by simp only [bookFault, hpp, hnn, h]; rfl) rfl (by simp)
      simp [s8_law_due, runS, runE, runEs, runTg, newL]
      refine ⟨by omega, fun le hle => ?_⟩
      obtain ⟨M8, hM8, t8, k8⟩ := fresh_put (o := .lst (WORDS.map PV.str)) hle
      have hM8' : mput M7 le (.lst [PV.str "away", PV.str "hand", PV.str "refuse", PV.str "swap", PV.str "take"]) = M8 := hM8
      rw [hM8']
      have tm8 := tm7.trans t8
      simp [s9_law_due, runS, runT, runE, runEs]
      refine isi_tup (hw.1.sub tm8) ?_
      cases w
      case tup ys =>
        obtain ⟨yl, yf⟩ := hw.2 ys rfl
        simp [isTup, truA, runI, runE, itA]
        intro D4 hD4
        refine lcF_go (Mb := M8) (f := inF WORDS) hD4 (fun _ _ => True.intro) mput_same ((Sub.refl M8).put hD4) (by simp; omega) ?_ ?_
        · intro x hx M' s' Kt Kf hKt hKf
          simp [runTg, runC, wipeG, T4_law_due, runT, runE, cmpA, inA, s' _ _ k8, smem_flat (yf x hx)]
          by_cases g : strIn x WORDS = true
          · simp [g]; exact hKf (by simp [inF, g]) M' (Sub.refl _)
          · simp [g]; exact hKt _ (by simp [inF, g]) M' (Sub.refl _)
        intro M9 t9 k9
        rw [List.nil_append] at k9
        intro e3 he3
        have t10 := (tm8.trans t9).trans (Sub.new (o := .lst []) he3)
        try simp only [cmpA]
        refine eqA_plL 1 1 (by omega) (by omega) ((Sub.new he3) _ _ k9) mput_same (filt_pl (inF_id WORDS) yf) (show plL 1 [] = true from rfl) (ys.all fun x => strIn x WORDS) ?_ ?_
        · rw [List.filterMap_eq_nil_iff, List.all_eq_true]
          refine forall_congr' fun x => forall_congr' fun _ => ?_
          unfold inF
          by_cases g : strIn x WORDS = true <;> simp [g]
        have keyw : wordsV (.tup ys) = ((ys.all fun x => strIn x WORDS) && ascV ys) := rfl
        by_cases g9 : (ys.all fun x => strIn x WORDS) = true
        rotate_left
        · have g9' : (ys.all fun x => strIn x WORDS) = false := by simpa using g9
          simp only [g9']
          simp [runSs, runS, runE, runEs]
          exact ⟨by omega, bw (by rw [keyw, g9']; rfl) _ t10⟩
        obtain ⟨ws, rfl, hws⟩ := words_strs g9
        rw [g9]
        simp [runSs]
        generalize mput M9 e3 (.lst []) = M10 at t10
        simp [s10_law_due, runS, runT, runE, runEs, biA, newL, setR, strsOf_map]
        intro q1 hq1
        obtain ⟨M11, hM11, t11, k11⟩ := fresh_put (o := .lst (ws.map PV.str)) hq1
        rw [hM11]
        refine ⟨by simp at yl; omega, fun ls nd2 mem srt q2 hq2 => ?_⟩
        have t12 := Sub.new (o := .lst (ls.map PV.str)) hq2
        have tm12 := (t10.trans t11).trans t12
        have ev : wordsV (.tup (ws.map .str)) = (ws.zip (ws.drop 1)).all fun p => sLt p.1 p.2 := by
          rw [keyw, g9]; simp [ascV, strsOf_map]
        simp only [cmpA]
        try simp only [cmpA]
        refine eqA_plL 1 1 (by omega) (by omega) (t12 _ _ k11) mput_same (plP_strs _ _) (plP_strs _ _) (wordsV (.tup (ws.map .str))) ?_ ?_
        · rw [ev, ← set_sorted nd2 mem srt]
          constructor
          · intro h; rw [h]
          · intro h; exact (List.map_inj_right (fun x y e => by injection e)).mp h
        by_cases g10 : wordsV (.tup (ws.map .str)) = true
        · rw [g10]
          simp
          exact q _ _ tm12 (by simp only [bookFault, hpp, hnn, g10]; rfl)
        · have g10' : wordsV (.tup (ws.map .str)) = false := by simpa using g10
          rw [g10']
          simp
          exact ⟨by omega, bw g10' _ tm12⟩
      all_goals
        simp [isTup, truA, runSs, runS, runE, runEs]
        exact ⟨by omega, bw rfl _ tm8⟩
    · rintro x xs g M' ⟨j, j4, hx, ⟨g5, g6, rfl⟩, rfl, hg⟩ Dn d1 d2 d3 d4
      have main : ∀ (z : String) (lz : Addr), PARTS[j]? = some z → x = .tup [.str z, .ref lz] → xs = (itemsL l1 l2 l3 l4).drop (j + 1) → j + 1 ≤ 4 → M7 lz = some (.lst ((wordsOf z).map .str)) →
          runTg Γ (Tg.tup (Tgs.cons (Tg.name 5) (Tgs.cons (Tg.name 6) Tgs.nil))) (fun x x_1 M => Ea x M) x [some (.ref t), some (.tup (ss.map .str)), some (.ref ra), some w, some (.ref D2), g5, g6, none, none, none] M7 fun g2 M2 => runSs Γ (fun x x_1 M => Ea x M) B3_law_due Dn g2 M2 := by
        rintro z lz hz rfl hxs hj hlz
        have hzm : z ∈ PARTS := List.mem_of_getElem? hz
        obtain ⟨v, hv⟩ := Option.isSome_iff_exists.mp (List.all_eq_true.mp g8 z hzm)
        have hvm : (z, v) ∈ ks := by
          obtain ⟨u, hu, hm⟩ := look_some (ks := ks) (z := z) (by
            refine Decidable.byContradiction fun hn => ?_
            have : ∀ l : List (String × PV), z ∉ l.map (·.1) → l.lookup z = none := by
              intro l
              induction l with
              | nil => intro _; rfl
              | cons a b ih =>
                intro h
                rw [List.map_cons, List.mem_cons, not_or] at h
                rw [List.lookup_cons, beq_eq_false_iff_ne.mpr h.1]
                exact ih h.2
            rw [this ks hn] at hv; cases hv)
          rw [hv] at hu; cases hu; exact hm
        have vf := kf _ hvm
        have et : PARTS.take (j + 1) = PARTS.take j ++ [z] := by rw [List.take_add_one, hz]; rfl
        have gz : goodAt ks z = strIn v (wordsOf z) := by simp [goodAt, hv]
        have bad2 : goodAt ks z = false → newL [.str "rule", .str z] M7 Qa := fun h => brl z (by
          rw [hf]
          have e1 : PARTS = PARTS.take j ++ z :: PARTS.drop (j + 1) := by
            have hlt : j < PARTS.length := (List.getElem?_eq_some_iff.mp hz).1
            have hge : PARTS[j] = z := (List.getElem?_eq_some_iff.mp hz).2
            rw [← hge, ← List.drop_eq_getElem_cons hlt, List.take_append_drop]
          rw [e1]
          exact find_snoc (fun y hy => by rw [hg y hy]; rfl) (by rw [h]; rfl)) M7 tm7
        have bad3 : goodAt ks z = false → newL [.str "rule", .str z] M7 fun p M1 => Dn.rt p M1 := fun h d hd => d4 _ _ (bad2 h d hd)
        have go : goodAt ks z = true → Dn.nx [some (.ref t), some (.tup (ss.map .str)), some (.ref ra), some w, some (.ref D2), some (.str z), some (.ref lz), none, none, none] M7 := fun h => d1 _ _ ⟨j + 1, hj, hxs, ⟨_, _, rfl⟩, rfl, fun y hy => by
          rw [et] at hy
          rcases List.mem_append.mp hy with hy | hy
          · exact hg y hy
          · rw [List.mem_singleton.mp hy]; exact h⟩
        simp [runTg, runTgs, tgsLen, B3_law_due, runSs, runS, runT, runE, runEs, subA, hra7, dGet_kS, hv, keyOk_str]
        rcases vf with ⟨s, rfl⟩ | rfl | ⟨i, rfl⟩ | ⟨ys, rfl⟩
        · simp [isiA, truA, cmpA, inA, hlz, sMem_str]
          by_cases g : s ∈ wordsOf z
          · simp [g]
            exact go (by rw [gz]; simpa [strIn] using g)
          · simp [g]
            exact ⟨by omega, bad3 (by rw [gz]; simpa [strIn] using g)⟩
        · simp [isiA, truA]
          exact ⟨by omega, bad3 (by rw [gz]; rfl)⟩
        · simp [isiA, truA]
          exact ⟨by omega, bad3 (by rw [gz]; rfl)⟩
        · simp [isiA, truA]
          exact ⟨by omega, bad3 (by rw [gz]; rfl)⟩
      have hj4 : j < 4 := by
        have := congrArg List.length hx
        simp [itemsL] at this; omega
      have hj' : j = 0 ∨ j = 1 ∨ j = 2 ∨ j = 3 := by omega
      rcases hj' with rfl | rfl | rfl | rfl
      · have e : x = .tup [.str "back", .ref l1] ∧ xs = (itemsL l1 l2 l3 l4).drop 1 := by simpa [itemsL] using hx
        exact main "back" l1 rfl e.1 e.2 (by omega) k1
      · have e : x = .tup [.str "count", .ref l2] ∧ xs = (itemsL l1 l2 l3 l4).drop 2 := by simpa [itemsL] using hx
        exact main "count" l2 rfl e.1 e.2 (by omega) k2
      · have e : x = .tup [.str "end", .ref l3] ∧ xs = (itemsL l1 l2 l3 l4).drop 3 := by simpa [itemsL] using hx
        exact main "end" l3 rfl e.1 e.2 (by omega) k3
      · have e : x = .tup [.str "gap", .ref l4] ∧ xs = (itemsL l1 l2 l3 l4).drop 4 := by simpa [itemsL] using hx
        exact main "gap" l4 rfl e.1 e.2 (by omega) k4
    · exact ⟨0, by omega, rfl, ⟨_, _, rfl⟩, rfl, fun _ h => nomatch h⟩
  all_goals
    simp [isTup, truA, runSs, runS, runE, runEs]
    exact ⟨by omega, bp rfl M (Sub.refl M)⟩
end Law
end

section
set_option maxHeartbeats 4000000
/-! k01: spoilt things. -/
namespace Law
open PySem L2 Rx
def SpX (M : MM) (t : Addr) : Prop := ∃ p l m r w f, SpA M t p l m r w f ∧ r ≠ .ref t
theorem SpX.sub {M M' : MM} {t : Addr} (h : SpX M t) (s : Sub M M') : SpX M' t := by
  obtain ⟨p, l, m, r, w, f, h, n⟩ := h
  exact ⟨p, l, m, r, w, f, h.sub s, n⟩
theorem row_list {M : MM} {r c : Addr} (h : RowC M r c) : ∃ xs, M r = some (.lst xs) := by
  obtain ⟨ns, i, x, y, h1, _⟩ := h; exact ⟨_, h1⟩
theorem kn1_row {M M' : MM} {r c : Addr} {v : PV} (h : Kn1 M v) (k : Rest M M' r) (hr : RowC M r c) (hr' : RowC M' r c) : Kn1 M' v := by
  cases v <;> try exact True.intro
  rename_i a
  obtain ⟨xs, hx⟩ := row_list hr
  obtain ⟨ys, hy⟩ := row_list hr'
  by_cases e : a = r
  · subst e; exact .inl ⟨ys, hy⟩
  · rcases h with ⟨zs, h⟩ | ⟨zs, h⟩
    · exact .inl ⟨zs, k _ _ e h⟩
    · exact .inr ⟨zs, k _ _ e h⟩
theorem PArg.row {M M' : MM} {r c : Addr} {v : PV} (h : PArg M v) (k : Rest M M' r) (hr : RowC M r c) (hr' : RowC M' r c) : PArg M' v := ⟨kn1_row h.1 k hr hr', h.2⟩
theorem RArg.row {M M' : MM} {r c : Addr} {v : PV} {f : Option String} (h : RArg M v f) (k : Rest M M' r) (hr : RowC M r c) : RArg M' v f := by
  obtain ⟨ns, i, x, y, h1, _⟩ := hr
  have ne : ∀ {a : Addr} {o : MO}, M a = some o → (o ≠ rowL c i x y) → a ≠ r := fun {a o} e n z => by
    rw [z, h1] at e; exact n (Option.some.inj e).symm
  rcases h with h | ⟨a, e, g1, g2⟩ | ⟨a, ks, e, g1, g2⟩
  · exact .inl h
  · exact .inr (.inl ⟨a, e, k _ _ (ne g1 (by simp [rowL])) g1, g2⟩)
  · exact .inr (.inr ⟨a, ks, e, k _ _ (ne g1 (by simp [rowL])) g1, g2⟩)
theorem dct_row {M M' : MM} {r c t : Addr} {kvs : List (PV × PV)} (k : Rest M M' r) (hr : RowC M r c) (h : M t = some (.dct kvs)) : M' t = some (.dct kvs) := by
  obtain ⟨xs, hx⟩ := row_list hr
  exact k _ _ (fun z => by rw [z, hx] at h; cases h) h
theorem SpX.row {M M' : MM} {r c t : Addr} (h : SpX M t) (k : Rest M M' r) (hr : RowC M r c) (hr' : RowC M' r c) : SpX M' t := by
  obtain ⟨p, l, m, ru, w, f, ⟨h1, h2, h3, h4, h5, h6⟩, n⟩ := h
  exact ⟨p, l, m, ru, w, f, ⟨dct_row k hr h1, h2.row k hr hr', h3, h4, h5.row k hr, h6.row k hr hr'⟩, n⟩
theorem lst_row {M M' : MM} {r c a : Addr} {xs : List PV} (k : Rest M M' r) (hr : RowC M r c) (h : M a = some (.lst xs)) (hn : ∀ y s, xs = y :: s → y ≠ .ref c) : M' a = some (.lst xs) := by
  obtain ⟨ns, i, x, y, h1, _⟩ := hr
  refine k _ _ (fun z => ?_) h
  rw [z, h1] at h
  have : xs = [.ref c, .int i, .int x, .int y] := (MO.lst.inj (Option.some.inj h)).symm
  exact hn _ _ this rfl
theorem kn1_put {M : MM} {t : Addr} {k k' : List (PV × PV)} {v : PV} (ht : M t = some (.dct k)) (h : Kn1 M v) : Kn1 (mput M t (.dct k')) v := by
  cases v <;> try exact True.intro
  rename_i a
  by_cases e : a = t
  · subst e; exact .inr ⟨_, mput_same⟩
  · rcases h with ⟨zs, h⟩ | ⟨zs, h⟩
    · exact .inl ⟨zs, by rw [mput_ne e]; exact h⟩
    · exact .inr ⟨zs, by rw [mput_ne e]; exact h⟩
theorem PArg.put {M : MM} {t : Addr} {k k' : List (PV × PV)} {v : PV} (ht : M t = some (.dct k)) (h : PArg M v) : PArg (mput M t (.dct k')) v := ⟨kn1_put ht h.1, h.2⟩
theorem RArg.put {M : MM} {t : Addr} {o : MO} {v : PV} {f : Option String} (n : v ≠ .ref t) (h : RArg M v f) : RArg (mput M t o) v f := by
  rcases h with h | ⟨a, rfl, g1, g2⟩ | ⟨a, ks, rfl, g1, g2⟩
  · exact .inl h
  · exact .inr (.inl ⟨a, rfl, by rw [mput_ne (fun e => n (by rw [e]))]; exact g1, g2⟩)
  · exact .inr (.inr ⟨a, ks, rfl, by rw [mput_ne (fun e => n (by rw [e]))]; exact g1, g2⟩)
theorem RowC.putD {M : MM} {r c t : Addr} {k k' : List (PV × PV)} (hr : RowC M r c) (ht : M t = some (.dct k)) : RowC (mput M t (.dct k')) r c := by
  obtain ⟨ns, i, x, y, h1, h2, h3⟩ := hr
  exact ⟨ns, i, x, y, by rw [mput_ne (fun e => by rw [e, ht] at h1; cases h1)]; exact h1, by rw [mput_ne (fun e => by rw [e, ht] at h2; cases h2)]; exact h2, h3⟩
theorem tabP_put (p l m r w v : PV) : dPut (tabP p l m r w) (.str "people") v = tabP v l m r w ∧ dPut (tabP p l m r w) (.str "longest") v = tabP p v m r w ∧ dPut (tabP p l m r w) (.str "most") v = tabP p l v r w ∧ dPut (tabP p l m r w) (.str "rule") v = tabP p l m v w ∧ dPut (tabP p l m r w) (.str "words") v = tabP p l m r v := by
  simp [tabP, dPut_str]
/-- one thing put anew -/
theorem put_p {M : MM} {t : Addr} {p l m r w v : PV} {f : Option String} (h : SpA M t p l m r w f) (n : r ≠ .ref t) (hv : PArg M v) : SpX (mput M t (.dct (tabP v l m r w))) t :=
  ⟨v, l, m, r, w, f, ⟨mput_same, hv.put h.t, h.l, h.m, h.r.put n, h.w.put h.t⟩, n⟩
theorem put_w {M : MM} {t : Addr} {p l m r w v : PV} {f : Option String} (h : SpA M t p l m r w f) (n : r ≠ .ref t) (hv : PArg M v) : SpX (mput M t (.dct (tabP p l m r v))) t :=
  ⟨p, l, m, r, v, f, ⟨mput_same, h.p.put h.t, h.l, h.m, h.r.put n, hv.put h.t⟩, n⟩
theorem put_l {M : MM} {t : Addr} {p l m r w v : PV} {f : Option String} (h : SpA M t p l m r w f) (n : r ≠ .ref t) (hv : Num v) : SpX (mput M t (.dct (tabP p v m r w))) t :=
  ⟨p, v, m, r, w, f, ⟨mput_same, h.p.put h.t, hv, h.m, h.r.put n, h.w.put h.t⟩, n⟩
theorem put_m {M : MM} {t : Addr} {p l m r w v : PV} {f : Option String} (h : SpA M t p l m r w f) (n : r ≠ .ref t) (hv : Num v) : SpX (mput M t (.dct (tabP p l v r w))) t :=
  ⟨p, l, v, r, w, f, ⟨mput_same, h.p.put h.t, h.l, hv, h.r.put n, h.w.put h.t⟩, n⟩
theorem put_r {M : MM} {t : Addr} {p l m r w v : PV} {f f' : Option String} (h : SpA M t p l m r w f) (n : v ≠ .ref t) (hv : RArg M v f') : SpX (mput M t (.dct (tabP p l m v w))) t :=
  ⟨p, l, m, v, w, f', ⟨mput_same, h.p.put h.t, h.l, h.m, hv.put n, h.w.put h.t⟩, n⟩
theorem parg_tup {M : MM} {xs : List PV} (hl : xs.length ≤ 5) (h : ∀ x ∈ xs, Flat1 x) : PArg M (.tup xs) := ⟨True.intro, fun ys e => by cases e; exact ⟨hl, h⟩⟩
theorem parg_lst {M : MM} {a : Addr} {xs : List PV} (h : M a = some (.lst xs)) : PArg M (.ref a) := ⟨.inl ⟨xs, h⟩, fun ys e => by cases e⟩
theorem parg_non {M : MM} : PArg M .non := ⟨True.intro, fun ys e => by cases e⟩
theorem fl_s (s : String) (h : s.length ≤ 9 := by decide) : Flat1 (.str s) := .inl ⟨s, rfl, h⟩
def peopleL (q : Addr) : List PV := [.non, .tup [], .tup [.str "ann"], .ref q, .tup [.str "ann", .str "ann"], .tup [.str "ann", .str "B"], .tup [.str "ann", .int 5], .tup [.str "a", .str "b", .str "c", .str "d"]]
def wordsL (q : Addr) : List PV := [.non, .ref q, .tup [.str "hand", .str "away"], .tup [.str "hand", .str "hand"], .tup [.str "night"], .tup [.int 1], .tup [.str "back"]]
theorem peopleL_ok {M : MM} {q : Addr} {xs : List PV} (h : M q = some (.lst xs)) : ∀ v ∈ peopleL q, PArg M v := by
  intro v hv
  simp only [peopleL, List.mem_cons, List.not_mem_nil, or_false] at hv
  rcases hv with rfl | rfl | rfl | rfl | rfl | rfl | rfl | rfl
  · exact parg_non
  · exact parg_tup (by simp) (by simp)
  · exact parg_tup (by simp) (by simp; exact fl_s _)
  · exact parg_lst h
  · exact parg_tup (by simp) (by simp; exact fl_s _)
  · exact parg_tup (by simp) (by simp; exact ⟨fl_s _, fl_s _⟩)
  · exact parg_tup (by simp) (by simp; exact ⟨fl_s _, .inr ⟨5, rfl⟩⟩)
  · exact parg_tup (by simp) (by simp; exact ⟨fl_s _, fl_s _, fl_s _, fl_s _⟩)
theorem wordsL_ok {M : MM} {q : Addr} {xs : List PV} (h : M q = some (.lst xs)) : ∀ v ∈ wordsL q, PArg M v := by
  intro v hv
  simp only [wordsL, List.mem_cons, List.not_mem_nil, or_false] at hv
  rcases hv with rfl | rfl | rfl | rfl | rfl | rfl | rfl
  · exact parg_non
  · exact parg_lst h
  · exact parg_tup (by simp) (by simp; exact ⟨fl_s _, fl_s _⟩)
  · exact parg_tup (by simp) (by simp; exact fl_s _)
  · exact parg_tup (by simp) (by simp; exact fl_s _)
  · exact parg_tup (by simp) (by simp; exact .inr ⟨1, rfl⟩)
  · exact parg_tup (by simp) (by simp; exact fl_s _)
theorem put_kS (z : String) (u : PV) : ∀ {ks : List (String × PV)}, (ks.map (·.1)).Nodup → (∀ q ∈ ks, RFlat q.2) → RFlat u →
    ∃ ks', dPut (kS ks) (.str z) u = kS ks' ∧ (ks'.map (·.1)).Nodup ∧ ks'.length ≤ ks.length + 1 ∧ (∀ q ∈ ks', RFlat q.2) ∧ ∀ x ∈ ks'.map (·.1), x = z ∨ x ∈ ks.map (·.1)
  | [], _, _, hu => ⟨[(z, u)], rfl, by simp, by simp, fun q hq => by rw [List.mem_singleton.mp hq]; exact hu, by simp⟩
  | (k, v) :: r, nd, hf, hu => by
    rw [List.map_cons, List.nodup_cons] at nd
    by_cases e : k = z
    · subst e
      refine ⟨(k, u) :: r, ?_, by rw [List.map_cons, List.nodup_cons]; exact nd, by simp, fun q hq => ?_, fun x hx => .inr (by simpa using hx)⟩
      · show dPut ((.str k, v) :: kS r) (.str k) u = _
        rw [dPut_str, if_pos rfl]; rfl
      · rcases List.mem_cons.mp hq with rfl | hq
        · simpa [KEYS5] using hu
        · exact hf q (List.mem_cons_of_mem _ hq)
    · obtain ⟨ks', e1, n1, l1, f1, m1⟩ := put_kS z u nd.2 (fun q hq => hf q (List.mem_cons_of_mem _ hq)) hu
      refine ⟨(k, v) :: ks', ?_, ?_, by simp; omega, fun q hq => ?_, fun x hx => ?_⟩
      · show dPut ((.str k, v) :: kS r) (.str z) u = _
        rw [dPut_str, if_neg e, e1]; rfl
      · rw [List.map_cons, List.nodup_cons]
        exact ⟨fun hm => (m1 k hm).elim e nd.1, n1⟩
      · rcases List.mem_cons.mp hq with rfl | hq
        · exact hf _ List.mem_cons_self
        · exact f1 q hq
      · rw [List.map_cons] at hx
        rcases List.mem_cons.mp hx with rfl | hx
        · exact .inr (by simp)
        · rcases m1 x hx with h | h
          · exact .inl h
          · exact .inr (by rw [List.map_cons]; exact List.mem_cons_of_mem _ h)
def C_spoil : Con := fun as M Q _ => ∃ r c t : Addr, as = [.ref r, .ref t] ∧ RowC M r c ∧ SpX M t ∧ ∀ M', RowC M' r c → SpX M' t → Q .non M'
theorem pick_at {xs : List PV} {v : Nat} (h : v < xs.length) : ∃ u, atI xs (v : Int) = some u ∧ u ∈ xs := ⟨xs[v], atI_nat' (List.getElem?_eq_getElem h), List.getElem_mem h⟩
/-- a drawn one of some values -/
theorem pick_of {M : MM} {r c a : Addr} {n : Nat} {xs : List PV} {K : KV1} (hr : RowC M r c) (h1 : 1 ≤ n) (hl : xs.length = n) (hn : n ≤ 100) (h : M a = some (.lst xs)) (hne : ∀ y s, xs = y :: s → y ≠ .ref c)
    (k : ∀ u M', u ∈ xs → RowC M' r c → Rest M M' r → K u M') : C_pick [.ref r, .int n] M (fun q M2 => subA (.ref a) q M2 K) fun _ _ => True := by
  refine ⟨r, c, n, rfl, by omega, by omega, hr, fun v M' hv hr' rs => ?_⟩
  have ha := lst_row rs hr h hne
  obtain ⟨u, e, hu⟩ := pick_at (xs := xs) (v := v) (by omega)
  simp only [subA, ha, e]
  exact k u M' hu hr' rs
theorem run_spoil {Γ : Gm} (h1 : Γ.fn "_law_pick" = some (2, C_pick)) : Does Γ N_law_spoil P_law_spoil S_law_spoil C_spoil := by
  rintro as M Qa Ea ⟨r, c, t, rfl, hr, hx, q⟩ -
  have h6 := sz6
  have z1 : 1 ≤ sizeLine := by omega
  have z2 : 2 ≤ sizeLine := by omega
  have z4 : 4 ≤ sizeLine := by omega
  have z5 : 5 ≤ sizeLine := by omega
  have z7 : 7 ≤ sizeLine := by omega
  have z8 : 8 ≤ sizeLine := by omega
  simp [S_law_spoil, N_law_spoil, runSs, runS, runE, runEs, runTg, runT, h1]
  refine ⟨r, c, 5, rfl, by omega, by omega, hr, fun v M1 hv hr1 rs1 => ?_⟩
  have hx1 := hx.row rs1 hr hr1
  clear hx hr rs1
  have tn : ∀ {M : MM} {d : Addr}, SpX M t → M d = none → d ≠ t := fun {M d} h e z => by
    obtain ⟨p, l, m, ru, w, f, h, _⟩ := h
    rw [z, h.t] at e; cases e
  have hv' : v = 0 ∨ v = 1 ∨ v = 2 ∨ v = 3 ∨ v = 4 := by omega
  rcases hv' with rfl | rfl | rfl | rfl | rfl
  · -- people
    simp [cmpA, eqA, sEq, B1_law_spoil, runSs, runS, runE, runEs, runTg, newL, z1, z2, z4, z8]
    intro q1 e1
    obtain ⟨M2, hM2, s2, k2⟩ := fresh_put (o := .lst [.str "ann", .str "bo"]) e1
    rw [hM2]
    intro q2 e2
    obtain ⟨M3, hM3, s3, k3⟩ := fresh_put (o := .lst (peopleL q1)) e2
    have hM3' : mput M2 q2 (.lst [PV.non, PV.tup [], PV.tup [PV.str "ann"], PV.ref q1, PV.tup [PV.str "ann", PV.str "ann"], PV.tup [PV.str "ann", PV.str "B"], PV.tup [PV.str "ann", PV.int 5], PV.tup [PV.str "a", PV.str "b", PV.str "c", PV.str "d"]]) = M3 := hM3
    rw [hM3']
    simp [h1]
    have hr3 := (hr1.sub s2).sub s3
    refine ⟨r, c, 8, rfl, by omega, by omega, hr3, fun v M4 hv4 hr4 rs4 => ?_⟩
    have k4 := lst_row rs4 hr3 k3 (fun y s e => by simp only [peopleL, List.cons.injEq] at e; rw [← e.1]; exact fun z => by cases z)
    have kq4 := lst_row rs4 hr3 (s3 _ _ k2) (fun y s e => by simp only [List.cons.injEq] at e; rw [← e.1]; exact fun z => by cases z)
    obtain ⟨u, eu, hu⟩ := pick_at (xs := peopleL q1) (v := v) (by show v < 8; omega)
    have hp := peopleL_ok kq4 u hu
    obtain ⟨p, l, m, ru, w, f, h, n⟩ := ((hx1.sub s2).sub s3).row rs4 hr3 hr4
    simp [subA, k4, eu, setA, h.t, keyOk_str, (tabP_put p l m ru w u).1]
    exact ⟨by simp [tabP]; omega, q _ (hr4.putD h.t) (put_p h n hp)⟩
  · -- numbers
    simp [cmpA, eqA, sEq, B9_law_spoil, B2_law_spoil, runSs, runS, runE, runEs, runTg, runT, newL, z1, z2, z5, h1]
    intro q1 e1
    obtain ⟨M2, hM2, s2, k2⟩ := fresh_put (o := .lst [.int (-1), .int 3, .bl true, .non, .str "1"]) e1
    rw [hM2]
    have hr2 := hr1.sub s2
    refine ⟨r, c, 5, rfl, by omega, by omega, hr2, fun v M3 hv3 hr3 rs3 => ?_⟩
    have k3 := lst_row rs3 hr2 k2 (fun y s e => by simp only [List.cons.injEq] at e; rw [← e.1]; exact fun z => by cases z)
    obtain ⟨u, eu, hu⟩ := pick_at (xs := [.int (-1), .int 3, .bl true, .non, .str "1"]) (v := v) (by show v < 5; omega)
    have hu2 : Num u := by
      simp only [List.mem_cons, List.not_mem_nil, or_false] at hu
      rcases hu with rfl | rfl | rfl | rfl | rfl
      · exact .inl ⟨_, rfl⟩
      · exact .inl ⟨_, rfl⟩
      · exact .inr (.inl ⟨_, rfl⟩)
      · exact .inr (.inr (.inl rfl))
      · exact .inr (.inr (.inr ⟨_, rfl⟩))
    simp [subA, k3, eu]
    intro q2 e2
    obtain ⟨M4, hM4, s4, k4⟩ := fresh_put (o := .lst [.str "longest", .str "most"]) e2
    rw [hM4]
    have hr4 := hr3.sub s4
    refine ⟨r, c, 2, rfl, by omega, by omega, hr4, fun v2 M5 hv5 hr5 rs5 => ?_⟩
    have k5 := lst_row rs5 hr4 k4 (fun y s e => by simp only [List.cons.injEq] at e; rw [← e.1]; exact fun z => by cases z)
    obtain ⟨p, l, m, ru, w, f, h, n⟩ := (((hx1.sub s2).row rs3 hr2 hr3).sub s4).row rs5 hr4 hr5
    have hv2 : v2 = 0 ∨ v2 = 1 := by omega
    rcases hv2 with rfl | rfl
    · have ea : atI [PV.str "longest", PV.str "most"] ((0 : Nat) : Int) = some (.str "longest") := rfl
      simp only [k5, ea]
      simp [setA, h.t, keyOk_str, (tabP_put p l m ru w u).2.1]
      exact ⟨by simp [tabP]; omega, q _ (hr5.putD h.t) (put_l h n hu2)⟩
    · have ea : atI [PV.str "longest", PV.str "most"] ((1 : Nat) : Int) = some (.str "most") := rfl
      simp only [k5, ea]
      simp [setA, h.t, keyOk_str, (tabP_put p l m ru w u).2.2.1]
      exact ⟨by simp [tabP]; omega, q _ (hr5.putD h.t) (put_m h n hu2)⟩
  · -- rule
    simp [cmpA, eqA, sEq, B9_law_spoil, B8_law_spoil, B3_law_spoil, runSs, runS, runE, runEs, runPs, runTg, runT, newL, z1, z2, z4, h1, mput_same, mput_mput]
    intro q1 e1
    obtain ⟨M2, hM2, s2, k2⟩ := fresh_put (o := .dct []) e1
    rw [hM2]
    intro q2 e2
    obtain ⟨M3, hM3, s3, k3⟩ := fresh_put (o := .lst []) e2
    rw [hM3]
    intro q3 e3
    simp [simK, dPut_nil]
    obtain ⟨M4, hM4, s4, k4⟩ := fresh_put (o := .dct [(.str "back", .str "both")]) e3
    rw [hM4]
    intro q4 e4
    obtain ⟨M5, hM5, s5, k5⟩ := fresh_put (o := .lst [.non, .ref q1, .ref q2, .ref q3]) e4
    rw [hM5]
    have s15 := ((s2.trans s3).trans s4).trans s5
    have hr5 := hr1.sub s15
    have hx5 := hx1.sub s15
    have n1 : q1 ≠ t := tn hx1 e1
    have n2 : q2 ≠ t := tn (hx1.sub s2) e2
    have n3 : q3 ≠ t := tn (hx1.sub (s2.trans s3)) e3
    refine ⟨r, c, 4, rfl, by omega, by omega, hr5, fun v M6 hv6 hr6 rs6 => ?_⟩
    have k6 := lst_row rs6 hr5 k5 (fun y s e => by simp only [List.cons.injEq] at e; rw [← e.1]; exact fun z => by cases z)
    have g1 : M6 q1 = some (.dct []) := dct_row rs6 hr5 (s5 _ _ (s4 _ _ (s3 _ _ k2)))
    have g2 : M6 q2 = some (.lst []) := lst_row rs6 hr5 (s5 _ _ (s4 _ _ k3)) (fun y s e => by cases e)
    have g3 : M6 q3 = some (.dct [(.str "back", .str "both")]) := dct_row rs6 hr5 (s5 _ _ k4)
    obtain ⟨u, eu, hu⟩ := pick_at (xs := [.non, .ref q1, .ref q2, .ref q3]) (v := v) (by show v < 4; omega)
    have hu2 : ∃ f', RArg M6 u f' ∧ u ≠ .ref t := by
      simp only [List.mem_cons, List.not_mem_nil, or_false] at hu
      rcases hu with rfl | rfl | rfl | rfl
      · exact ⟨_, .inl ⟨rfl, rfl⟩, fun z => by cases z⟩
      · exact ⟨_, .inr (.inr ⟨q1, [], rfl, g1, .nil, (by simp), (fun _ h => nomatch h), rfl⟩), fun z => by cases z; exact n1 rfl⟩
      · exact ⟨_, .inr (.inl ⟨q2, rfl, g2, rfl⟩), fun z => by cases z; exact n2 rfl⟩
      · exact ⟨_, .inr (.inr ⟨q3, [("back", .str "both")], rfl, g3, by simp, by simp [KEYS5], fun q hq => by rw [List.mem_singleton.mp hq]; exact .inl ⟨_, rfl⟩, rfl⟩), fun z => by cases z; exact n3 rfl⟩
    obtain ⟨f', hu3, hu4⟩ := hu2
    obtain ⟨p, l, m, ru, w, f, h, n⟩ := hx5.row rs6 hr5 hr6
    simp [subA, k6, eu, setA, h.t, keyOk_str, (tabP_put p l m ru w u).2.2.2.1]
    exact ⟨by simp [tabP]; omega, q _ (hr6.putD h.t) (put_r h hu4 hu3)⟩
  · -- words
    simp [cmpA, eqA, sEq, B9_law_spoil, B8_law_spoil, B7_law_spoil, B4_law_spoil, runSs, runS, runE, runEs, runTg, runT, newL, z1, z2, z4, z7]
    intro q1 e1
    obtain ⟨M2, hM2, s2, k2⟩ := fresh_put (o := .lst [.str "hand"]) e1
    rw [hM2]
    intro q2 e2
    obtain ⟨M3, hM3, s3, k3⟩ := fresh_put (o := .lst (wordsL q1)) e2
    have hM3' : mput M2 q2 (.lst [PV.non, PV.ref q1, PV.tup [PV.str "hand", PV.str "away"], PV.tup [PV.str "hand", PV.str "hand"], PV.tup [PV.str "night"], PV.tup [PV.int 1], PV.tup [PV.str "back"]]) = M3 := hM3
    rw [hM3']
    simp [h1]
    have hr3 := (hr1.sub s2).sub s3
    refine ⟨r, c, 7, rfl, by omega, by omega, hr3, fun v M4 hv4 hr4 rs4 => ?_⟩
    have k4 := lst_row rs4 hr3 k3 (fun y s e => by simp only [wordsL, List.cons.injEq] at e; rw [← e.1]; exact fun z => by cases z)
    have kq4 := lst_row rs4 hr3 (s3 _ _ k2) (fun y s e => by simp only [List.cons.injEq] at e; rw [← e.1]; exact fun z => by cases z)
    obtain ⟨u, eu, hu⟩ := pick_at (xs := wordsL q1) (v := v) (by show v < 7; omega)
    have hp := wordsL_ok kq4 u hu
    obtain ⟨p, l, m, ru, w, f, h, n⟩ := ((hx1.sub s2).sub s3).row rs4 hr3 hr4
    simp [subA, k4, eu, setA, h.t, keyOk_str, (tabP_put p l m ru w u).2.2.2.2]
    exact ⟨by simp [tabP]; omega, q _ (hr4.putD h.t) (put_w h n hp)⟩
  · -- a word of the rule
    obtain ⟨p, l, m, ru, w, f, h, n⟩ := hx1
    obtain ⟨a1, a2, a3, a4, a5⟩ := tabP_at p l m ru w
    have hx1 : SpX M1 t := ⟨p, l, m, ru, w, f, h, n⟩
    simp [cmpA, eqA, sEq, B9_law_spoil, B8_law_spoil, B7_law_spoil, B6_law_spoil, runSs, runS, runE, runEs, runTg, runT, subA, h.t, a4, keyOk_str]
    rcases id h.r with ⟨rfl, e⟩ | ⟨ra, rfl, hra, e⟩ | ⟨ra, ks, rfl, hra, nd, kl, kf, e⟩
    · simp [isiA, truA]; exact q M1 hr1 hx1
    · simp [isiA, hra, truA]; exact q M1 hr1 hx1
    have kln : (kS ks).length = ks.length := by simp [kS]
    have kl5 := keys5_len nd kl
    have smk : simKs (kS ks) = true := by
      unfold simKs kS
      rw [List.all_map, List.all_eq_true]
      intro x _; rfl
    simp [isiA, hra, truA, B5_law_spoil, runSs]
    simp [s1_law_spoil, runS, runE, runEs, runTg, subA, h.t, a4, keyOk_str, biA, hra, newD, smk, kln]
    refine ⟨by omega, fun d ed => ?_⟩
    obtain ⟨M2, hM2, s2, k2⟩ := fresh_put (o := .dct (kS ks)) ed
    rw [hM2]
    have hdt : d ≠ t := tn hx1 ed
    have h2 := h.sub s2
    simp [setA, h2.t, keyOk_str, (tabP_put p l m (.ref ra) w (.ref d)).2.2.2.1]
    refine ⟨by simp [tabP]; omega, ?_⟩
    have hr2 := (hr1.sub s2).putD (k' := tabP p l m (.ref d) w) h2.t
    generalize hM3 : mput M2 t (.dct (tabP p l m (.ref d) w)) = M3
    rw [hM3] at hr2
    have k3 : M3 d = some (.dct (kS ks)) := by rw [← hM3, mput_ne hdt]; exact k2
    have h3 : SpA M3 t p l m (.ref d) w (ruleFault ks) := by
      rw [← hM3]
      exact ⟨mput_same, h2.p.put h2.t, h2.l, h2.m, RArg.put (fun z => by cases z; exact hdt rfl) (.inr (.inr ⟨d, ks, rfl, k2, nd, kl, kf, rfl⟩)), h2.w.put h2.t⟩
    simp [s2_law_spoil, runS, runE, runEs, runTg, newL, z5, h1]
    intro q1 e1
    obtain ⟨M4, hM4, s4, k4⟩ := fresh_put (o := .lst [.str "back", .str "count", .str "end", .str "gap", .str "more"]) e1
    rw [hM4]
    have hr4 := hr2.sub s4
    refine ⟨r, c, 5, rfl, by omega, by omega, hr4, fun v M5 hv5 hr5 rs5 => ?_⟩
    have k5 := lst_row rs5 hr4 k4 (fun y s e => by simp only [List.cons.injEq] at e; rw [← e.1]; exact fun z => by cases z)
    obtain ⟨u, eu, hu⟩ := pick_at (xs := [.str "back", .str "count", .str "end", .str "gap", .str "more"]) (v := v) (by show v < 5; omega)
    obtain ⟨z, rfl, hu⟩ : ∃ z, u = .str z ∧ z ∈ KEYS5 := by
      simp only [List.mem_cons, List.not_mem_nil, or_false] at hu
      rcases hu with rfl | rfl | rfl | rfl | rfl <;> exact ⟨_, rfl, by decide⟩
    simp [subA, k5, eu]
    simp [s3_law_spoil, runS, runE, runEs, runTg, newL, z1, z8, h1]
    intro q2 e2
    obtain ⟨M6, hM6, s6, k6⟩ := fresh_put (o := .lst [.str "ends", .str "falls", .str "all", .str "none", .non, .int 5, .str "", .tup [.str "ends"]]) e2
    rw [hM6]
    have hr6 := hr5.sub s6
    refine ⟨r, c, 8, rfl, by omega, by omega, hr6, fun v2 M7 hv7 hr7 rs7 => ?_⟩
    have k7 := lst_row rs7 hr6 k6 (fun y s e => by simp only [List.cons.injEq] at e; rw [← e.1]; exact fun z => by cases z)
    obtain ⟨u2, eu2, hu2⟩ := pick_at (xs := [.str "ends", .str "falls", .str "all", .str "none", .non, .int 5, .str "", .tup [.str "ends"]]) (v := v2) (by show v2 < 8; omega)
    have hf2 : RFlat u2 := by
      simp only [List.mem_cons, List.not_mem_nil, or_false] at hu2
      rcases hu2 with rfl | rfl | rfl | rfl | rfl | rfl | rfl | rfl
      · exact .inl ⟨_, rfl⟩
      · exact .inl ⟨_, rfl⟩
      · exact .inl ⟨_, rfl⟩
      · exact .inl ⟨_, rfl⟩
      · exact .inr (.inl rfl)
      · exact .inr (.inr (.inl ⟨_, rfl⟩))
      · exact .inl ⟨_, rfl⟩
      · exact .inr (.inr (.inr ⟨_, rfl⟩))
    have tk : M7 t = some (.dct (tabP p l m (.ref d) w)) := dct_row rs7 hr6 (s6 _ _ (dct_row rs5 hr4 (s4 _ _ h3.t)))
    have kd : M7 d = some (.dct (kS ks)) := dct_row rs7 hr6 (s6 _ _ (dct_row rs5 hr4 (s4 _ _ k3)))
    have pp := (((h3.p.sub s4).row rs5 hr4 hr5).sub s6).row rs7 hr6 hr7
    have ww := (((h3.w.sub s4).row rs5 hr4 hr5).sub s6).row rs7 hr6 hr7
    obtain ⟨a1, a2, a3, a4, a5⟩ := tabP_at p l m (.ref d) w
    obtain ⟨ks', e1', nd', kl', kf', km'⟩ := put_kS z u2 nd kf hf2
    simp [subA, k7, eu2, tk, a4, keyOk_str, setA, kd, kln, e1']
    refine ⟨by omega, q _ (hr7.putD kd) ⟨p, l, m, .ref d, w, ruleFault ks', ⟨?_, pp.put kd, h3.l, h3.m, .inr (.inr ⟨d, ks', rfl, mput_same, nd', ?_, kf', rfl⟩), ww.put kd⟩, fun z => by cases z; exact hdt rfl⟩⟩
    · rw [mput_ne (Ne.symm hdt)]; exact tk
    · intro x hx
      rcases km' x hx with rfl | hx
      · simpa [KEYS5] using hu
      · exact kl x hx
end Law
end

section
set_option maxHeartbeats 4000000
/-! k01: the law. -/
namespace Law
open PySem L2 Rx
def C_law : Con := fun as M Q _ => ∃ (p : PV) (ns : List Int), as = [p] ∧ ns.length ≤ 1000 ∧ seqA p M = some (ns.map .int) ∧ ∀ M', Q (.bl true) M'
theorem drawn_x {M : MM} {t : Addr} {b : Bk} (ok : BkOk b) (h : TAt M t b) : SpX M t := by
  obtain ⟨d, h1, h2⟩ := h
  have e : tabL b d = tabP (strsP b.people) (.int b.longest) (.int b.most) (.ref d) (strsP b.words) := rfl
  rw [e] at h1
  have hl : b.people.length ≤ 5 := by have := ok.people.2.1; omega
  refine ⟨_, _, _, _, _, ruleFault b.ks, ⟨h1, parg_tup (by simpa using hl) fun x hx => ?_, .inl ⟨_, rfl⟩, .inl ⟨_, rfl⟩, .inr (.inr ⟨d, b.ks, rfl, h2, by simp [Bk.ks], by simp [Bk.ks, KEYS5], fun q hq => ?_, rfl⟩), parg_tup (by simpa using ok.words.1) fun x hx => ?_⟩, fun z => ?_⟩
  · obtain ⟨s, hs, rfl⟩ := mem_map_str hx
    exact fl_s s (by have := name_len (ok.people.2.2.1 s hs); omega)
  · simp [Bk.ks] at hq
    rcases hq with rfl | rfl | rfl | rfl <;> exact .inl ⟨_, rfl⟩
  · obtain ⟨s, hs, rfl⟩ := mem_map_str hx
    exact fl_s s (by have := word_len (ok.words.2.1 s hs); omega)
  · cases z
    rw [h1] at h2
    simp [tabP, Bk.rule] at h2
theorem due_eq {M : MM} {u v : PV} {x : Option XV} {Q : Bool → Prop} (hx : ∀ e, x = some e → e = ⟨"BadPeople", []⟩ ∨ e = ⟨"BadNumber", []⟩ ∨ (∃ s, e = ⟨"BadRule", [("part", .str s)]⟩) ∨ e = ⟨"BadWords", []⟩) (h1 : DueAt M u x) (h2 : DueAt M v x) (q : Q true) : eqA u v M Q := by
  cases x with
  | none =>
    cases (show u = .non from h1)
    cases (show v = .non from h2)
    exact q
  | some e =>
    obtain ⟨a, rfl, ha⟩ := h1
    obtain ⟨b, rfl, hb⟩ := h2
    have hp : plL 1 (dueL e) = true := by
      rcases hx e rfl with rfl | rfl | ⟨s, rfl⟩ | rfl <;> rfl
    exact eqA_plL 1 1 (by omega) (by omega) ha hb hp hp true (by simp) q
theorem run_law {Γ : Gm} (h1 : Γ.fn "_law_draws" = some (1, C_draws)) (h2 : Γ.fn "_law_drawn" = some (4, C_drawn)) (h3 : Γ.fn "_law_pick" = some (2, C_pick)) (h4 : Γ.fn "_law_spoil" = some (2, C_spoil)) (h5 : Γ.fn "_law_told" = some (1, C_toldX)) (h6 : Γ.fn "_law_due" = some (1, C_due)) : Does Γ N_law P_law S_law C_law := by
  rintro as M Qa Ea ⟨p, ns, rfl, hl, hp, q⟩ -
  simp [S_law, N_law, runSs]
  simp [s1_law, runS, runE, runEs, runTg, h1]
  refine ⟨p, ns, rfl, hl, hp, fun r c M1 hr1 s1 hrn hcn => ?_⟩
  simp [s2_law, runS, runI, runE]
  refine forF_inv (fun xs g M' => (∃ g2 g3 g4, g = [some p, some (.ref r), g2, g3, g4]) ∧ RowC M' r c) ?_ ?_ ?_ ?_
  · intro _ _ _ _; exact True.intro
  · rintro g M' ⟨⟨g2, g3, g4, rfl⟩, _⟩
    simp [s6_law, runS, runE]
    exact q M'
  · rintro x xs g M2 ⟨⟨g2, g3, g4, rfl⟩, hr2⟩ Dn d1 d2 d3 d4
    simp only [runTg, List.set, B2_law, runSs]
    simp [s3_law, runS, runE, runEs, runTg, h2]
    refine ⟨r, c, 3, 2, 2, rfl, by omega, by omega, by omega, by omega, hr2, fun t M3 b ok ht hr3 rs3 htn => ?_⟩
    have hx3 := drawn_x ok ht
    simp [s4_law, runS, runI, runE, runEs, h3]
    refine ⟨r, c, 3, rfl, by omega, by omega, hr3, fun v M4 hv hr4 rs4 => ?_⟩
    have hx4 := hx3.row rs4 hr3 hr4
    refine ⟨by omega, by omega, ?_⟩
    refine forF_inv (fun xs g M' => (∃ g4, g = [some p, some (.ref r), some x, some (.ref t), g4]) ∧ RowC M' r c ∧ SpX M' t) ?_ ?_ ?_ ?_
    · intro _ _ _ _; exact True.intro
    · rintro g M' ⟨⟨g4, rfl⟩, hr5, pp, l, m, ru, w, f, hx5, n⟩
      simp [s5_law, runS, runT, runE, runEs, h5, h6]
      refine ⟨t, pp, l, m, ru, w, f, rfl, hx5, fun u M6 s6 du => ?_⟩
      refine ⟨t, pp, l, m, ru, w, f, rfl, hx5.sub s6, fun u2 M7 s7 du2 => ?_⟩
      simp only [cmpA]
      refine due_eq (x := bookFault pp l m f w) (fun e he => fault_is he) (du.sub s7) du2 ?_
      simp [runSs]
      exact d1 _ _ ⟨⟨_, _, _, rfl⟩, (hr5.sub s6).sub s7⟩
    · rintro y ys g M5 ⟨⟨g4, rfl⟩, hr5, hx5⟩ Dm m1 m2 m3 m4
      simp only [runTg, List.set, B1_law, runSs]
      simp [runS, runE, runEs, h4]
      exact ⟨r, c, t, rfl, hr5, hx5, fun M6 hr6 hx6 => m1 _ _ ⟨⟨_, rfl⟩, hr6, hx6⟩⟩
    · exact ⟨⟨_, rfl⟩, hr4, hx4⟩
  · exact ⟨⟨_, _, _, rfl⟩, hr1⟩
end Law
end

section
set_option maxHeartbeats 0
namespace Law
open PySem PySem.W
open_top head for PySem.Challenge.rw_dutieslent_k01_books_refused
end Law
end

section
set_option maxHeartbeats 0
/-! the law's head: facts by names. -/
namespace Law
open PySem PySem.Spec PyProof.Rows L2 Rx He
def d_is_integer : DefD := ⟨("is_integer", none), "is_integer", "is_integer", defArgs (top 13), defBody (top 13), defScope (top 13), [], []⟩
def d_is_from : DefD := ⟨("is_from", none), "is_from", "is_from", defArgs (top 14), defBody (top 14), defScope (top 14), [], []⟩
def d_is_name : DefD := ⟨("is_name", none), "is_name", "is_name", defArgs (top 15), defBody (top 15), defScope (top 15), [], []⟩
def d_is_one_of : DefD := ⟨("is_one_of", none), "is_one_of", "is_one_of", defArgs (top 16), defBody (top 16), defScope (top 16), [], []⟩
def d_are_people : DefD := ⟨("are_people", none), "are_people", "are_people", defArgs (top 17), defBody (top 17), defScope (top 17), [], []⟩
def d_check_rule : DefD := ⟨("check_rule", none), "check_rule", "check_rule", defArgs (top 18), defBody (top 18), defScope (top 18), [], []⟩
def d_are_words : DefD := ⟨("are_words", none), "are_words", "are_words", defArgs (top 19), defBody (top 19), defScope (top 19), [], []⟩
def d_Book_init : DefD := ⟨("Book", some "__init__"), "__init__", "Book.__init__", defArgs (mem 20 0), defBody (mem 20 0), defScope (mem 20 0), [], []⟩
def d_law_draws : DefD := ⟨("_law_draws", none), "_law_draws", "_law_draws", defArgs (top 22), defBody (top 22), defScope (top 22), [], []⟩
def d_law_pick : DefD := ⟨("_law_pick", none), "_law_pick", "_law_pick", defArgs (top 23), defBody (top 23), defScope (top 23), [], []⟩
def d_law_parts : DefD := ⟨("_law_parts", none), "_law_parts", "_law_parts", defArgs (top 24), defBody (top 24), defScope (top 24), [], []⟩
def d_law_rule : DefD := ⟨("_law_rule", none), "_law_rule", "_law_rule", defArgs (top 25), defBody (top 25), defScope (top 25), [], []⟩
def d_law_people : DefD := ⟨("_law_people", none), "_law_people", "_law_people", defArgs (top 26), defBody (top 26), defScope (top 26), [], []⟩
def d_law_drawn : DefD := ⟨("_law_drawn", none), "_law_drawn", "_law_drawn", defArgs (top 27), defBody (top 27), defScope (top 27), [], []⟩
def d_law_made : DefD := ⟨("_law_made", none), "_law_made", "_law_made", defArgs (top 28), defBody (top 28), defScope (top 28), [], []⟩
def d_law_is_name : DefD := ⟨("_law_is_name", none), "_law_is_name", "_law_is_name", defArgs (top 29), defBody (top 29), defScope (top 29), [], []⟩
def d_law_number : DefD := ⟨("_law_number", none), "_law_number", "_law_number", defArgs (top 30), defBody (top 30), defScope (top 30), [], []⟩
def d_law_due : DefD := ⟨("_law_due", none), "_law_due", "_law_due", defArgs (top 31), defBody (top 31), defScope (top 31), [], []⟩
def d_law_told : DefD := ⟨("_law_told", none), "_law_told", "_law_told", defArgs (top 32), defBody (top 32), defScope (top 32), [], []⟩
def d_law_spoil : DefD := ⟨("_law_spoil", none), "_law_spoil", "_law_spoil", defArgs (top 33), defBody (top 33), defScope (top 33), [], []⟩
def d_law : DefD := ⟨("law", none), "law", "law", defArgs (top 34), defBody (top 34), defScope (top 34), [], []⟩
def fn : List DefD := [d_is_integer, d_is_from, d_is_name, d_is_one_of, d_are_people, d_check_rule, d_are_words, d_Book_init, d_law_draws, d_law_pick, d_law_parts, d_law_rule, d_law_people, d_law_drawn, d_law_made, d_law_is_name, d_law_number, d_law_due, d_law_told, d_law_spoil, d_law]
def gds : List GD := []
def x_BadPeople : XD := ⟨"BadPeople", "BadPeople.__init__", defArgs (mem 3 0), defBody (mem 3 0), defScope (mem 3 0)⟩
def x_BadNumber : XD := ⟨"BadNumber", "BadNumber.__init__", defArgs (mem 4 0), defBody (mem 4 0), defScope (mem 4 0)⟩
def x_BadRule : XD := ⟨"BadRule", "BadRule.__init__", defArgs (mem 5 0), defBody (mem 5 0), defScope (mem 5 0)⟩
def x_BadWords : XD := ⟨"BadWords", "BadWords.__init__", defArgs (mem 6 0), defBody (mem 6 0), defScope (mem 6 0)⟩
def xds : List XD := [x_BadPeople, x_BadNumber, x_BadRule, x_BadWords]
def fa0 : List Fa := [.glo "is_integer", .glo "is_from", .glo "is_name", .glo "is_one_of", .glo "are_people", .glo "check_rule", .glo "are_words", .glo "_law_draws", .glo "_law_pick", .glo "_law_parts", .glo "_law_rule", .glo "_law_people", .glo "_law_drawn", .glo "_law_made", .glo "_law_is_name", .glo "_law_number", .glo "_law_due", .glo "_law_told", .glo "_law_spoil", .glo "law", .glo "Book", .cls "Book", .mkr "Book", .noat "Book" "turns", .noat "Book" "names"]
def fa1 : List Fa := [.noat "Book" "open_days", .noat "Book" "cap", .noat "Book" "parts", .noat "Book" "told_words", .glo "DutyError", .glo "BadPeople", .glo "BadNumber", .glo "BadRule", .glo "BadWords", .free "len", .free "list", .free "tuple", .free "int", .free "min", .free "max", .free "all", .free "any", .free "sorted", .free "str", .free "isinstance", .free "range", .free "enumerate", .free "zip", .free "dict", .free "bool"]
def fa2 : List Fa := [.free "set", .free "super", .str "LETTERS" "abcdefghijklmnopqrstuvwxyz", .int "LONGEST" 8, .int "MOST" 2, .glo "RULES", .glo "WORDS"]
def fa : List Fa := fa0 ++ fa1 ++ fa2
def owns : List String := []
def xns : List String := ["DutyError", "BadPeople", "BadNumber", "BadRule", "BadWords"]
def ex1 (K : PySem.W.Frag) : Bool := owns.all fun c => ownB K (ga K (so c)) (owns.map fun d => (d, ga K (so d))) c
def ex2 (K : PySem.W.Frag) : Bool := (kdB K "RULES" RULES && (tupB1 K "WORDS" WORDS && true))
def ex3 (K : PySem.W.Frag) : Bool := gsB K gds
def ex4 (K : PySem.W.Frag) : Bool := xns.all fun c => xclsB K (ga K (so c)) (xns.map fun x => (x, ga K (so x))) c
def ex5 (K : PySem.W.Frag) : Bool := (xmkB PySem.Challenge.pw_dutieslent_k01_books_refused K x_BadPeople [] [] [] && (xmkB PySem.Challenge.pw_dutieslent_k01_books_refused K x_BadNumber [] [] [] && (xmkB PySem.Challenge.pw_dutieslent_k01_books_refused K x_BadRule ["part"] [("part", true)] [("part", "part")] && (xmkB PySem.Challenge.pw_dutieslent_k01_books_refused K x_BadWords [] [] [] && true))))
theorem says (P : Params) : He.obsD fa fn (head.heap_39 P) = He.valD fn := by kernel_rfl
theorem exs1 (P : Params) : ex1 (head.heap_39 P) = true := by kernel_rfl
theorem exs2 (P : Params) : ex2 (head.heap_39 P) = true := by kernel_rfl
theorem exs3 (P : Params) : ex3 (head.heap_39 P) = true := by kernel_rfl
theorem exs4 (P : Params) : ex4 (head.heap_39 P) = true := by kernel_rfl
theorem exs5 (P : Params) : ex5 (head.heap_39 P) = true := by kernel_rfl
theorem exg (P : Params) : gsOf (head.heap_39 P) gds = gsVal gds := by kernel_rfl
theorem exx (P : Params) : xsOf (head.heap_39 P) xds = xsVal (head.heap_39 P) xds := by kernel_rfl
end Law
end

section
set_option maxHeartbeats 4000000
/-! the end. -/
namespace Law
open PySem PySem.Spec PyProof.Rows L2 Rx He
def coF (x : String) : Option PV := if x = "LETTERS" then some (.str LETTERS) else if x = "LONGEST" then some (.int 8) else if x = "MOST" then some (.int 2) else if x = "RULES" then some (rulesP) else if x = "WORDS" then some (strsP WORDS) else none
def G0 : Gm := { fn := fun _ => none, mkc := fun _ => none, mt := fun _ _ => none, pr := fun _ _ => none, co := coF, cl := owns, xc := ["BadPeople", "BadNumber", "BadRule", "BadWords"], xn := xns }
def G1 : Gm := G0.addF "is_integer" 1 C_is_integer
def G2 : Gm := G1.addF "is_from" 3 C_is_from
def G3 : Gm := G2.addF "is_name" 1 C_is_name
def G4 : Gm := G3.addF "is_one_of" 2 C_is_one_of
def G5 : Gm := G4.addF "are_people" 1 C_are_people
def G6 : Gm := G5.addF "check_rule" 1 C_check_rule
def G7 : Gm := G6.addF "are_words" 1 C_are_words
def G8 : Gm := G7.addC "Book" 6 C_Book_init
def G9 : Gm := G8.addF "_law_draws" 1 C_draws
def G10 : Gm := G9.addF "_law_pick" 2 C_pick
def G11 : Gm := G10.addF "_law_parts" 0 C_parts
def G12 : Gm := G11.addF "_law_rule" 1 C_law_rule
def G13 : Gm := G12.addF "_law_people" 2 C_law_people
def G14 : Gm := G13.addF "_law_drawn" 4 C_drawn
def G15 : Gm := G14.addF "_law_made" 1 C_madeX
def G16 : Gm := G15.addF "_law_is_name" 1 C_lname
def G17 : Gm := G16.addF "_law_number" 1 C_lnum
def G18 : Gm := G17.addF "_law_due" 1 C_due
def G19 : Gm := G18.addF "_law_told" 1 C_toldX
def G20 : Gm := G19.addF "_law_spoil" 2 C_spoil
def G21 : Gm := G20.addF "law" 1 C_law
theorem do_is_integer : Does G0 N_is_integer P_is_integer S_is_integer C_is_integer := run_is_integer 
theorem do_is_from : Does G1 N_is_from P_is_from S_is_from C_is_from := run_is_from (show G1.fn "is_integer" = some (1, C_is_integer) from rfl)
theorem do_is_name : Does G2 N_is_name P_is_name S_is_name C_is_name := run_is_name (show Consts G2 from ⟨rfl, rfl, rfl, rfl, rfl⟩)
theorem do_is_one_of : Does G3 N_is_one_of P_is_one_of S_is_one_of C_is_one_of := run_is_one_of 
theorem do_are_people : Does G4 N_are_people P_are_people S_are_people C_are_people := run_are_people (show G4.fn "is_name" = some (1, C_is_name) from rfl)
theorem do_check_rule : Does G5 N_check_rule P_check_rule S_check_rule C_check_rule := run_check_rule (show Consts G5 from ⟨rfl, rfl, rfl, rfl, rfl⟩) (show G5.xc.contains "BadRule" = true from rfl) (show G5.fn "is_one_of" = some (2, C_is_one_of) from rfl)
theorem do_are_words : Does G6 N_are_words P_are_words S_are_words C_are_words := run_are_words (show Consts G6 from ⟨rfl, rfl, rfl, rfl, rfl⟩) (show G6.fn "is_one_of" = some (2, C_is_one_of) from rfl)
theorem do_Book_init : Does G7 N_Book_init P_Book_init S_Book_init C_Book_init := run_Book_init (show Consts G7 from ⟨rfl, rfl, rfl, rfl, rfl⟩) (show G7.xc.contains "BadPeople" = true from rfl) (show G7.xc.contains "BadNumber" = true from rfl) (show G7.xc.contains "BadWords" = true from rfl) (show G7.fn "are_people" = some (1, C_are_people) from rfl) (show G7.fn "is_from" = some (3, C_is_from) from rfl) (show G7.fn "check_rule" = some (1, C_check_rule) from rfl) (show G7.fn "are_words" = some (1, C_are_words) from rfl)
theorem do_law_draws : Does G8 N_law_draws P_law_draws S_law_draws C_draws := run_draws 
theorem do_law_pick : Does G9 N_law_pick P_law_pick S_law_pick C_pick := run_pick 
theorem do_law_parts : Does G10 N_law_parts P_law_parts S_law_parts C_parts := run_parts 
theorem do_law_rule : Does G11 N_law_rule P_law_rule S_law_rule C_law_rule := run_law_rule (show G11.fn "_law_parts" = some (0, C_parts) from rfl) (show G11.fn "_law_pick" = some (2, C_pick) from rfl)
theorem do_law_people : Does G12 N_law_people P_law_people S_law_people C_law_people := run_law_people (show G12.fn "_law_pick" = some (2, C_pick) from rfl)
theorem do_law_drawn : Does G13 N_law_drawn P_law_drawn S_law_drawn C_drawn := run_drawn (show G13.fn "_law_pick" = some (2, C_pick) from rfl) (show G13.fn "_law_people" = some (2, C_law_people) from rfl) (show G13.fn "_law_rule" = some (1, C_law_rule) from rfl)
theorem do_law_made : Does G14 N_law_made P_law_made S_law_made C_madeX := run_madeX (show G14.mkc "Book" = some (6, C_Book_init) from rfl)
theorem do_law_is_name : Does G15 N_law_is_name P_law_is_name S_law_is_name C_lname := run_lname 
theorem do_law_number : Does G16 N_law_number P_law_number S_law_number C_lnum := run_lnum 
theorem do_law_due : Does G17 N_law_due P_law_due S_law_due C_due := run_due (show G17.fn "_law_is_name" = some (1, C_lname) from rfl) (show G17.fn "_law_number" = some (1, C_lnum) from rfl) (show G17.fn "_law_parts" = some (0, C_parts) from rfl)
theorem do_law_told : Does G18 N_law_told P_law_told S_law_told C_toldX := run_toldX (show G18.xn.contains "DutyError" = true from rfl) (show G18.xn.contains "BadPeople" = true from rfl) (show G18.xn.contains "BadNumber" = true from rfl) (show G18.xn.contains "BadRule" = true from rfl) (show G18.xn.contains "BadWords" = true from rfl) (show G18.fn "_law_made" = some (1, C_madeX) from rfl)
theorem do_law_spoil : Does G19 N_law_spoil P_law_spoil S_law_spoil C_spoil := run_spoil (show G19.fn "_law_pick" = some (2, C_pick) from rfl)
theorem do_law : Does G20 N_law P_law S_law C_law := run_law (show G20.fn "_law_draws" = some (1, C_draws) from rfl) (show G20.fn "_law_drawn" = some (4, C_drawn) from rfl) (show G20.fn "_law_pick" = some (2, C_pick) from rfl) (show G20.fn "_law_spoil" = some (2, C_spoil) from rfl) (show G20.fn "_law_told" = some (1, C_toldX) from rfl) (show G20.fn "_law_due" = some (1, C_due) from rfl)
def caOf (K : PySem.W.Frag) (c : String) : Addr := ga K (so c)
structure Ex (P : Program) (K : PySem.W.Frag) : Prop where
  e1 : ex1 K = true
  e2 : ex2 K = true
  e3 : ex3 K = true
  e4 : ex4 K = true
  e5 : ex5 K = true
  eg : gsOf K gds = gsVal gds
  ex : xsOf K xds = xsVal K xds
section
variable {w : World} {K : PySem.W.Frag} {mg : Str → Option Value} {base : Heap}
theorem lib0 (KX : K.In base) (G : base.Ns mainGlobals mg) (c : SaysD fa fn K) (e : Ex PySem.Challenge.pw_dutieslent_k01_books_refused K) : Lib G0 (caOf K) PySem.Challenge.pw_dutieslent_k01_books_refused w K mg base 0 := by
  refine ⟨fun _ _ _ h => (by cases h), fun _ _ _ h => (by cases h), fun _ _ _ _ h => (by cases h), fun _ _ _ _ h => (by cases h), fun x p h => ?_, fun x hx => ?_, fun d hd => ?_, fun x hx => ?_, fun x hx => ?_, fun _ => free_ok KX G (c.fact 51 (f := .free "super") rfl)⟩
  · have h : coF x = some p := h
    unfold coF at h
    split at h
    · rename_i ex; cases h; subst ex
      obtain ⟨t, ht⟩ := str_ok KX G (c.fact 52 (f := .str "LETTERS" "abcdefghijklmnopqrstuvwxyz") rfl)
      exact ⟨_, .str (so "abcdefghijklmnopqrstuvwxyz"), ht, ⟨t, rfl⟩, fun H => .str _⟩
    split at h
    · rename_i ex; cases h; subst ex
      obtain ⟨t, ht⟩ := int_ok KX G (c.fact 53 (f := .int "LONGEST" 8) rfl)
      exact ⟨_, .int 8, ht, ⟨t, rfl⟩, fun H => .int _⟩
    split at h
    · rename_i ex; cases h; subst ex
      obtain ⟨t, ht⟩ := int_ok KX G (c.fact 54 (f := .int "MOST" 2) rfl)
      exact ⟨_, .int 2, ht, ⟨t, rfl⟩, fun H => .int _⟩
    split at h
    · rename_i ex; cases h; subst ex
      exact ⟨_, .ref _, glo_ok KX G (c.fact 55 (f := .glo "RULES") rfl), rfl, fun H => kdB_ok (and1 e.e2) H⟩
    split at h
    · rename_i ex; cases h; subst ex
      obtain ⟨a, ea, hr⟩ := tupSB_ok (and1 (and2 e.e2))
      cases ea
      exact ⟨_, .ref _, glo_ok KX G (c.fact 56 (f := .glo "WORDS") rfl), rfl, hr⟩
    · cases h
  · simp only [biNames, List.mem_cons, List.not_mem_nil, or_false] at hx
    rcases hx with rfl | rfl | rfl | rfl | rfl | rfl | rfl | rfl | rfl | rfl | rfl | rfl | rfl | rfl | rfl | rfl | rfl
    · exact free_ok KX G (c.fact 34 (f := .free "len") rfl)
    · exact free_ok KX G (c.fact 35 (f := .free "list") rfl)
    · exact free_ok KX G (c.fact 36 (f := .free "tuple") rfl)
    · exact free_ok KX G (c.fact 37 (f := .free "int") rfl)
    · exact free_ok KX G (c.fact 38 (f := .free "min") rfl)
    · exact free_ok KX G (c.fact 39 (f := .free "max") rfl)
    · exact free_ok KX G (c.fact 40 (f := .free "all") rfl)
    · exact free_ok KX G (c.fact 41 (f := .free "any") rfl)
    · exact free_ok KX G (c.fact 42 (f := .free "sorted") rfl)
    · exact free_ok KX G (c.fact 43 (f := .free "str") rfl)
    · exact free_ok KX G (c.fact 44 (f := .free "isinstance") rfl)
    · exact free_ok KX G (c.fact 45 (f := .free "range") rfl)
    · exact free_ok KX G (c.fact 46 (f := .free "enumerate") rfl)
    · exact free_ok KX G (c.fact 47 (f := .free "zip") rfl)
    · exact free_ok KX G (c.fact 48 (f := .free "dict") rfl)
    · exact free_ok KX G (c.fact 49 (f := .free "bool") rfl)
    · exact free_ok KX G (c.fact 50 (f := .free "set") rfl)
  · simp [G0, owns] at hd
  · have hx : x ∈ xns := by simpa [G0] using hx
    have ho := List.all_eq_true.mp e.e4 x hx
    have hg : mg (so x) = some (.ref (caOf K x)) := by
      simp only [xns, List.mem_cons, List.not_mem_nil, or_false] at hx
      rcases hx with rfl | rfl | rfl | rfl | rfl
      · exact glo_ok KX G (c.fact 29 (f := .glo "DutyError") rfl)
      · exact glo_ok KX G (c.fact 30 (f := .glo "BadPeople") rfl)
      · exact glo_ok KX G (c.fact 31 (f := .glo "BadNumber") rfl)
      · exact glo_ok KX G (c.fact 32 (f := .glo "BadRule") rfl)
      · exact glo_ok KX G (c.fact 33 (f := .glo "BadWords") rfl)
    exact xclsB_ok hg ho
  · have hx : x ∈ ["BadPeople", "BadNumber", "BadRule", "BadWords"] := by simpa [G0] using hx
    simp only [List.mem_cons, List.not_mem_nil, or_false] at hx
    rcases hx with rfl | rfl | rfl | rfl
    · exact ⟨rfl, [], [], [], rfl, xmkB_ok (d := x_BadPeople) (xs_at e.ex (by simp [xds])) (and1 e.e5) (fun _ _ _ _ _ => .all fun us hl => match us, hl with | [_], _ => rfl)⟩
    · exact ⟨rfl, [], [], [], rfl, xmkB_ok (d := x_BadNumber) (xs_at e.ex (by simp [xds])) (and1 (and2 e.e5)) (fun _ _ _ _ _ => .all fun us hl => match us, hl with | [_], _ => rfl)⟩
    · exact ⟨rfl, ["part"], [("part", true)], [("part", "part")], rfl, xmkB_ok (d := x_BadRule) (xs_at e.ex (by simp [xds])) (and1 (and2 (and2 e.e5))) (fun _ _ _ _ _ => .all fun us hl => match us, hl with | [_, _], _ => rfl)⟩
    · exact ⟨rfl, [], [], [], rfl, xmkB_ok (d := x_BadWords) (xs_at e.ex (by simp [xds])) (and1 (and2 (and2 (and2 e.e5)))) (fun _ _ _ _ _ => .all fun us hl => match us, hl with | [_], _ => rfl)⟩
theorem cls_Book (c : SaysD fa fn K) : ClsOk K (caOf K "Book") "Book" := by
  refine ⟨cls_ok (c.fact 21 (f := .cls "Book") rfl), fun f h => ?_⟩
  have h : f ∈ ["turns", "names", "open_days", "cap", "parts", "told_words"] := by simpa [fieldOf] using h
  simp only [List.mem_cons, List.not_mem_nil, or_false] at h
  rcases h with rfl | rfl | rfl | rfl | rfl | rfl
  · exact noat_ok (c.fact 23 (f := .noat "Book" "turns") rfl)
  · exact noat_ok (c.fact 24 (f := .noat "Book" "names") rfl)
  · exact noat_ok (c.fact 25 (f := .noat "Book" "open_days") rfl)
  · exact noat_ok (c.fact 26 (f := .noat "Book" "cap") rfl)
  · exact noat_ok (c.fact 27 (f := .noat "Book" "parts") rfl)
  · exact noat_ok (c.fact 28 (f := .noat "Book" "told_words") rfl)
theorem C_law_E : ∀ as M Qa Ea Ea', C_law as M Qa Ea → C_law as M Qa Ea' := fun _ _ _ _ _ h => h
theorem all (c : SaysD fa fn K) (e : Ex PySem.Challenge.pw_dutieslent_k01_books_refused K) : ∃ fd, (∀ (s : Shared) (u : Value), BindsTo s fd ⟨[u], []⟩ [("_law_script", u)]) ∧ ∀ base : Heap, K.In base → base.Ns mainGlobals mg → FnOk PySem.Challenge.pw_dutieslent_k01_books_refused w K mg base CX0 42 (ga K "law") fd ["_law_script"] (spOf ⟨w, caOf K, K⟩ 1 C_law) := by
  obtain ⟨fd0, F0⟩ := c.def_ 0 (d := d_is_integer) rfl
  have F0 : FunD K "is_integer" "is_integer" (defArgs (top 13)) (defBody (top 13)) (defScope (top 13)) [] [] (ga K "is_integer") fd0 := F0
  have b0 : Binds K fd0 P_is_integer [] := F0.bindsN fun _ _ _ _ _ _ us hl => match us, hl with | [_], _ => rfl
  obtain ⟨fd1, F1⟩ := c.def_ 1 (d := d_is_from) rfl
  have F1 : FunD K "is_from" "is_from" (defArgs (top 14)) (defBody (top 14)) (defScope (top 14)) [] [] (ga K "is_from") fd1 := F1
  have b1 : Binds K fd1 P_is_from [] := F1.bindsN fun _ _ _ _ _ _ us hl => match us, hl with | [_, _, _], _ => rfl
  obtain ⟨fd2, F2⟩ := c.def_ 2 (d := d_is_name) rfl
  have F2 : FunD K "is_name" "is_name" (defArgs (top 15)) (defBody (top 15)) (defScope (top 15)) [] [] (ga K "is_name") fd2 := F2
  have b2 : Binds K fd2 P_is_name [] := F2.bindsN fun _ _ _ _ _ _ us hl => match us, hl with | [_], _ => rfl
  obtain ⟨fd3, F3⟩ := c.def_ 3 (d := d_is_one_of) rfl
  have F3 : FunD K "is_one_of" "is_one_of" (defArgs (top 16)) (defBody (top 16)) (defScope (top 16)) [] [] (ga K "is_one_of") fd3 := F3
  have b3 : Binds K fd3 P_is_one_of [] := F3.bindsN fun _ _ _ _ _ _ us hl => match us, hl with | [_, _], _ => rfl
  obtain ⟨fd4, F4⟩ := c.def_ 4 (d := d_are_people) rfl
  have F4 : FunD K "are_people" "are_people" (defArgs (top 17)) (defBody (top 17)) (defScope (top 17)) [] [] (ga K "are_people") fd4 := F4
  have b4 : Binds K fd4 P_are_people [] := F4.bindsN fun _ _ _ _ _ _ us hl => match us, hl with | [_], _ => rfl
  obtain ⟨fd5, F5⟩ := c.def_ 5 (d := d_check_rule) rfl
  have F5 : FunD K "check_rule" "check_rule" (defArgs (top 18)) (defBody (top 18)) (defScope (top 18)) [] [] (ga K "check_rule") fd5 := F5
  have b5 : Binds K fd5 P_check_rule [] := F5.bindsN fun _ _ _ _ _ _ us hl => match us, hl with | [_], _ => rfl
  obtain ⟨fd6, F6⟩ := c.def_ 6 (d := d_are_words) rfl
  have F6 : FunD K "are_words" "are_words" (defArgs (top 19)) (defBody (top 19)) (defScope (top 19)) [] [] (ga K "are_words") fd6 := F6
  have b6 : Binds K fd6 P_are_words [] := F6.bindsN fun _ _ _ _ _ _ us hl => match us, hl with | [_], _ => rfl
  obtain ⟨fd7, F7⟩ := c.def_ 7 (d := d_Book_init) rfl
  have F7 : FunD K "__init__" "Book.__init__" (defArgs (mem 20 0)) (defBody (mem 20 0)) (defScope (mem 20 0)) [] [] (ma K (ga K "Book") "__init__") fd7 := F7
  have b7 : Binds K fd7 P_Book_init [] := F7.bindsN fun _ _ _ _ _ _ us hl => match us, hl with | [_, _, _, _, _, _], _ => rfl
  obtain ⟨fd8, F8⟩ := c.def_ 8 (d := d_law_draws) rfl
  have F8 : FunD K "_law_draws" "_law_draws" (defArgs (top 22)) (defBody (top 22)) (defScope (top 22)) [] [] (ga K "_law_draws") fd8 := F8
  have b8 : Binds K fd8 P_law_draws [] := F8.bindsN fun _ _ _ _ _ _ us hl => match us, hl with | [_], _ => rfl
  obtain ⟨fd9, F9⟩ := c.def_ 9 (d := d_law_pick) rfl
  have F9 : FunD K "_law_pick" "_law_pick" (defArgs (top 23)) (defBody (top 23)) (defScope (top 23)) [] [] (ga K "_law_pick") fd9 := F9
  have b9 : Binds K fd9 P_law_pick [] := F9.bindsN fun _ _ _ _ _ _ us hl => match us, hl with | [_, _], _ => rfl
  obtain ⟨fd10, F10⟩ := c.def_ 10 (d := d_law_parts) rfl
  have F10 : FunD K "_law_parts" "_law_parts" (defArgs (top 24)) (defBody (top 24)) (defScope (top 24)) [] [] (ga K "_law_parts") fd10 := F10
  have b10 : Binds K fd10 P_law_parts [] := F10.bindsN fun _ _ _ _ _ _ us hl => match us, hl with | [], _ => rfl
  obtain ⟨fd11, F11⟩ := c.def_ 11 (d := d_law_rule) rfl
  have F11 : FunD K "_law_rule" "_law_rule" (defArgs (top 25)) (defBody (top 25)) (defScope (top 25)) [] [] (ga K "_law_rule") fd11 := F11
  have b11 : Binds K fd11 P_law_rule [] := F11.bindsN fun _ _ _ _ _ _ us hl => match us, hl with | [_], _ => rfl
  obtain ⟨fd12, F12⟩ := c.def_ 12 (d := d_law_people) rfl
  have F12 : FunD K "_law_people" "_law_people" (defArgs (top 26)) (defBody (top 26)) (defScope (top 26)) [] [] (ga K "_law_people") fd12 := F12
  have b12 : Binds K fd12 P_law_people [] := F12.bindsN fun _ _ _ _ _ _ us hl => match us, hl with | [_, _], _ => rfl
  obtain ⟨fd13, F13⟩ := c.def_ 13 (d := d_law_drawn) rfl
  have F13 : FunD K "_law_drawn" "_law_drawn" (defArgs (top 27)) (defBody (top 27)) (defScope (top 27)) [] [] (ga K "_law_drawn") fd13 := F13
  have b13 : Binds K fd13 P_law_drawn [] := F13.bindsN fun _ _ _ _ _ _ us hl => match us, hl with | [_, _, _, _], _ => rfl
  obtain ⟨fd14, F14⟩ := c.def_ 14 (d := d_law_made) rfl
  have F14 : FunD K "_law_made" "_law_made" (defArgs (top 28)) (defBody (top 28)) (defScope (top 28)) [] [] (ga K "_law_made") fd14 := F14
  have b14 : Binds K fd14 P_law_made [] := F14.bindsN fun _ _ _ _ _ _ us hl => match us, hl with | [_], _ => rfl
  obtain ⟨fd15, F15⟩ := c.def_ 15 (d := d_law_is_name) rfl
  have F15 : FunD K "_law_is_name" "_law_is_name" (defArgs (top 29)) (defBody (top 29)) (defScope (top 29)) [] [] (ga K "_law_is_name") fd15 := F15
  have b15 : Binds K fd15 P_law_is_name [] := F15.bindsN fun _ _ _ _ _ _ us hl => match us, hl with | [_], _ => rfl
  obtain ⟨fd16, F16⟩ := c.def_ 16 (d := d_law_number) rfl
  have F16 : FunD K "_law_number" "_law_number" (defArgs (top 30)) (defBody (top 30)) (defScope (top 30)) [] [] (ga K "_law_number") fd16 := F16
  have b16 : Binds K fd16 P_law_number [] := F16.bindsN fun _ _ _ _ _ _ us hl => match us, hl with | [_], _ => rfl
  obtain ⟨fd17, F17⟩ := c.def_ 17 (d := d_law_due) rfl
  have F17 : FunD K "_law_due" "_law_due" (defArgs (top 31)) (defBody (top 31)) (defScope (top 31)) [] [] (ga K "_law_due") fd17 := F17
  have b17 : Binds K fd17 P_law_due [] := F17.bindsN fun _ _ _ _ _ _ us hl => match us, hl with | [_], _ => rfl
  obtain ⟨fd18, F18⟩ := c.def_ 18 (d := d_law_told) rfl
  have F18 : FunD K "_law_told" "_law_told" (defArgs (top 32)) (defBody (top 32)) (defScope (top 32)) [] [] (ga K "_law_told") fd18 := F18
  have b18 : Binds K fd18 P_law_told [] := F18.bindsN fun _ _ _ _ _ _ us hl => match us, hl with | [_], _ => rfl
  obtain ⟨fd19, F19⟩ := c.def_ 19 (d := d_law_spoil) rfl
  have F19 : FunD K "_law_spoil" "_law_spoil" (defArgs (top 33)) (defBody (top 33)) (defScope (top 33)) [] [] (ga K "_law_spoil") fd19 := F19
  have b19 : Binds K fd19 P_law_spoil [] := F19.bindsN fun _ _ _ _ _ _ us hl => match us, hl with | [_, _], _ => rfl
  obtain ⟨fd20, F20⟩ := c.def_ 20 (d := d_law) rfl
  have F20 : FunD K "law" "law" (defArgs (top 34)) (defBody (top 34)) (defScope (top 34)) [] [] (ga K "law") fd20 := F20
  have b20 : Binds K fd20 P_law [] := F20.bindsN fun _ _ _ _ _ _ us hl => match us, hl with | [_], _ => rfl
  have bl : ∀ (s : Shared) (u : Value), BindsTo s fd20 ⟨[u], []⟩ [("_law_script", u)] := fun s u => FunD.bindsA (ps := ["_law_script"]) F20 (fun _ _ _ _ _ _ us hl => match us, hl with | [_], _ => rfl) s [u] rfl
  refine ⟨fd20, bl, fun base KX G => ?_⟩
  have B0 := lib0 (w := w) KX G c e
  have O0 : FnOk PySem.Challenge.pw_dutieslent_k01_books_refused w K mg base (L2.CX PySem.Challenge.pw_dutieslent_k01_books_refused w) (0 + 2) (ga K "is_integer") fd0 P_is_integer (spOf ⟨w, caOf K, K⟩ 1 C_is_integer) := def_ok B0 F0 sc_is_integer ok_is_integer do_is_integer
  have B1 : Lib G1 (caOf K) PySem.Challenge.pw_dutieslent_k01_books_refused w K mg base 2 := B0.addF (by decide) O0 (glo_ok KX G (c.fact 0 (f := .glo "is_integer") rfl)) F0.kp b0
  have O1 : FnOk PySem.Challenge.pw_dutieslent_k01_books_refused w K mg base (L2.CX PySem.Challenge.pw_dutieslent_k01_books_refused w) (2 + 2) (ga K "is_from") fd1 P_is_from (spOf ⟨w, caOf K, K⟩ 3 C_is_from) := def_ok B1 F1 sc_is_from ok_is_from do_is_from
  have B2 : Lib G2 (caOf K) PySem.Challenge.pw_dutieslent_k01_books_refused w K mg base 4 := B1.addF (by decide) O1 (glo_ok KX G (c.fact 1 (f := .glo "is_from") rfl)) F1.kp b1
  have O2 : FnOk PySem.Challenge.pw_dutieslent_k01_books_refused w K mg base (L2.CX PySem.Challenge.pw_dutieslent_k01_books_refused w) (4 + 2) (ga K "is_name") fd2 P_is_name (spOf ⟨w, caOf K, K⟩ 1 C_is_name) := def_ok B2 F2 sc_is_name ok_is_name do_is_name
  have B3 : Lib G3 (caOf K) PySem.Challenge.pw_dutieslent_k01_books_refused w K mg base 6 := B2.addF (by decide) O2 (glo_ok KX G (c.fact 2 (f := .glo "is_name") rfl)) F2.kp b2
  have O3 : FnOk PySem.Challenge.pw_dutieslent_k01_books_refused w K mg base (L2.CX PySem.Challenge.pw_dutieslent_k01_books_refused w) (6 + 2) (ga K "is_one_of") fd3 P_is_one_of (spOf ⟨w, caOf K, K⟩ 2 C_is_one_of) := def_ok B3 F3 sc_is_one_of ok_is_one_of do_is_one_of
  have B4 : Lib G4 (caOf K) PySem.Challenge.pw_dutieslent_k01_books_refused w K mg base 8 := B3.addF (by decide) O3 (glo_ok KX G (c.fact 3 (f := .glo "is_one_of") rfl)) F3.kp b3
  have O4 : FnOk PySem.Challenge.pw_dutieslent_k01_books_refused w K mg base (L2.CX PySem.Challenge.pw_dutieslent_k01_books_refused w) (8 + 2) (ga K "are_people") fd4 P_are_people (spOf ⟨w, caOf K, K⟩ 1 C_are_people) := def_ok B4 F4 sc_are_people ok_are_people do_are_people
  have B5 : Lib G5 (caOf K) PySem.Challenge.pw_dutieslent_k01_books_refused w K mg base 10 := B4.addF (by decide) O4 (glo_ok KX G (c.fact 4 (f := .glo "are_people") rfl)) F4.kp b4
  have O5 : FnOk PySem.Challenge.pw_dutieslent_k01_books_refused w K mg base (L2.CX PySem.Challenge.pw_dutieslent_k01_books_refused w) (10 + 2) (ga K "check_rule") fd5 P_check_rule (spOf ⟨w, caOf K, K⟩ 1 C_check_rule) := def_ok B5 F5 sc_check_rule ok_check_rule do_check_rule
  have B6 : Lib G6 (caOf K) PySem.Challenge.pw_dutieslent_k01_books_refused w K mg base 12 := B5.addF (by decide) O5 (glo_ok KX G (c.fact 5 (f := .glo "check_rule") rfl)) F5.kp b5
  have O6 : FnOk PySem.Challenge.pw_dutieslent_k01_books_refused w K mg base (L2.CX PySem.Challenge.pw_dutieslent_k01_books_refused w) (12 + 2) (ga K "are_words") fd6 P_are_words (spOf ⟨w, caOf K, K⟩ 1 C_are_words) := def_ok B6 F6 sc_are_words ok_are_words do_are_words
  have B7 : Lib G7 (caOf K) PySem.Challenge.pw_dutieslent_k01_books_refused w K mg base 14 := B6.addF (by decide) O6 (glo_ok KX G (c.fact 6 (f := .glo "are_words") rfl)) F6.kp b6
  have O7 : FnOk PySem.Challenge.pw_dutieslent_k01_books_refused w K mg base (L2.CX PySem.Challenge.pw_dutieslent_k01_books_refused w) (14 + 2) (ma K (ga K "Book") "__init__") fd7 P_Book_init (spOf ⟨w, caOf K, K⟩ 6 C_Book_init) := def_ok B7 F7 sc_Book_init ok_Book_init do_Book_init
  have B8 : Lib G8 (caOf K) PySem.Challenge.pw_dutieslent_k01_books_refused w K mg base 16 := B7.addC (by decide) O7 (mkr_ok (c.fact 22 (f := .mkr "Book") rfl)) (glo_ok KX G (c.fact 20 (f := .glo "Book") rfl)) b7 (cls_Book c)
  have O8 : FnOk PySem.Challenge.pw_dutieslent_k01_books_refused w K mg base (L2.CX PySem.Challenge.pw_dutieslent_k01_books_refused w) (16 + 2) (ga K "_law_draws") fd8 P_law_draws (spOf ⟨w, caOf K, K⟩ 1 C_draws) := def_ok B8 F8 sc_law_draws ok_law_draws do_law_draws
  have B9 : Lib G9 (caOf K) PySem.Challenge.pw_dutieslent_k01_books_refused w K mg base 18 := B8.addF (by decide) O8 (glo_ok KX G (c.fact 7 (f := .glo "_law_draws") rfl)) F8.kp b8
  have O9 : FnOk PySem.Challenge.pw_dutieslent_k01_books_refused w K mg base (L2.CX PySem.Challenge.pw_dutieslent_k01_books_refused w) (18 + 2) (ga K "_law_pick") fd9 P_law_pick (spOf ⟨w, caOf K, K⟩ 2 C_pick) := def_ok B9 F9 sc_law_pick ok_law_pick do_law_pick
  have B10 : Lib G10 (caOf K) PySem.Challenge.pw_dutieslent_k01_books_refused w K mg base 20 := B9.addF (by decide) O9 (glo_ok KX G (c.fact 8 (f := .glo "_law_pick") rfl)) F9.kp b9
  have O10 : FnOk PySem.Challenge.pw_dutieslent_k01_books_refused w K mg base (L2.CX PySem.Challenge.pw_dutieslent_k01_books_refused w) (20 + 2) (ga K "_law_parts") fd10 P_law_parts (spOf ⟨w, caOf K, K⟩ 0 C_parts) := def_ok B10 F10 sc_law_parts ok_law_parts do_law_parts
  have B11 : Lib G11 (caOf K) PySem.Challenge.pw_dutieslent_k01_books_refused w K mg base 22 := B10.addF (by decide) O10 (glo_ok KX G (c.fact 9 (f := .glo "_law_parts") rfl)) F10.kp b10
  have O11 : FnOk PySem.Challenge.pw_dutieslent_k01_books_refused w K mg base (L2.CX PySem.Challenge.pw_dutieslent_k01_books_refused w) (22 + 2) (ga K "_law_rule") fd11 P_law_rule (spOf ⟨w, caOf K, K⟩ 1 C_law_rule) := def_ok B11 F11 sc_law_rule ok_law_rule do_law_rule
  have B12 : Lib G12 (caOf K) PySem.Challenge.pw_dutieslent_k01_books_refused w K mg base 24 := B11.addF (by decide) O11 (glo_ok KX G (c.fact 10 (f := .glo "_law_rule") rfl)) F11.kp b11
  have O12 : FnOk PySem.Challenge.pw_dutieslent_k01_books_refused w K mg base (L2.CX PySem.Challenge.pw_dutieslent_k01_books_refused w) (24 + 2) (ga K "_law_people") fd12 P_law_people (spOf ⟨w, caOf K, K⟩ 2 C_law_people) := def_ok B12 F12 sc_law_people ok_law_people do_law_people
  have B13 : Lib G13 (caOf K) PySem.Challenge.pw_dutieslent_k01_books_refused w K mg base 26 := B12.addF (by decide) O12 (glo_ok KX G (c.fact 11 (f := .glo "_law_people") rfl)) F12.kp b12
  have O13 : FnOk PySem.Challenge.pw_dutieslent_k01_books_refused w K mg base (L2.CX PySem.Challenge.pw_dutieslent_k01_books_refused w) (26 + 2) (ga K "_law_drawn") fd13 P_law_drawn (spOf ⟨w, caOf K, K⟩ 4 C_drawn) := def_ok B13 F13 sc_law_drawn ok_law_drawn do_law_drawn
  have B14 : Lib G14 (caOf K) PySem.Challenge.pw_dutieslent_k01_books_refused w K mg base 28 := B13.addF (by decide) O13 (glo_ok KX G (c.fact 12 (f := .glo "_law_drawn") rfl)) F13.kp b13
  have O14 : FnOk PySem.Challenge.pw_dutieslent_k01_books_refused w K mg base (L2.CX PySem.Challenge.pw_dutieslent_k01_books_refused w) (28 + 2) (ga K "_law_made") fd14 P_law_made (spOf ⟨w, caOf K, K⟩ 1 C_madeX) := def_ok B14 F14 sc_law_made ok_law_made do_law_made
  have B15 : Lib G15 (caOf K) PySem.Challenge.pw_dutieslent_k01_books_refused w K mg base 30 := B14.addF (by decide) O14 (glo_ok KX G (c.fact 13 (f := .glo "_law_made") rfl)) F14.kp b14
  have O15 : FnOk PySem.Challenge.pw_dutieslent_k01_books_refused w K mg base (L2.CX PySem.Challenge.pw_dutieslent_k01_books_refused w) (30 + 2) (ga K "_law_is_name") fd15 P_law_is_name (spOf ⟨w, caOf K, K⟩ 1 C_lname) := def_ok B15 F15 sc_law_is_name ok_law_is_name do_law_is_name
  have B16 : Lib G16 (caOf K) PySem.Challenge.pw_dutieslent_k01_books_refused w K mg base 32 := B15.addF (by decide) O15 (glo_ok KX G (c.fact 14 (f := .glo "_law_is_name") rfl)) F15.kp b15
  have O16 : FnOk PySem.Challenge.pw_dutieslent_k01_books_refused w K mg base (L2.CX PySem.Challenge.pw_dutieslent_k01_books_refused w) (32 + 2) (ga K "_law_number") fd16 P_law_number (spOf ⟨w, caOf K, K⟩ 1 C_lnum) := def_ok B16 F16 sc_law_number ok_law_number do_law_number
  have B17 : Lib G17 (caOf K) PySem.Challenge.pw_dutieslent_k01_books_refused w K mg base 34 := B16.addF (by decide) O16 (glo_ok KX G (c.fact 15 (f := .glo "_law_number") rfl)) F16.kp b16
  have O17 : FnOk PySem.Challenge.pw_dutieslent_k01_books_refused w K mg base (L2.CX PySem.Challenge.pw_dutieslent_k01_books_refused w) (34 + 2) (ga K "_law_due") fd17 P_law_due (spOf ⟨w, caOf K, K⟩ 1 C_due) := def_ok B17 F17 sc_law_due ok_law_due do_law_due
  have B18 : Lib G18 (caOf K) PySem.Challenge.pw_dutieslent_k01_books_refused w K mg base 36 := B17.addF (by decide) O17 (glo_ok KX G (c.fact 16 (f := .glo "_law_due") rfl)) F17.kp b17
  have O18 : FnOk PySem.Challenge.pw_dutieslent_k01_books_refused w K mg base (L2.CX PySem.Challenge.pw_dutieslent_k01_books_refused w) (36 + 2) (ga K "_law_told") fd18 P_law_told (spOf ⟨w, caOf K, K⟩ 1 C_toldX) := def_ok B18 F18 sc_law_told ok_law_told do_law_told
  have B19 : Lib G19 (caOf K) PySem.Challenge.pw_dutieslent_k01_books_refused w K mg base 38 := B18.addF (by decide) O18 (glo_ok KX G (c.fact 17 (f := .glo "_law_told") rfl)) F18.kp b18
  have O19 : FnOk PySem.Challenge.pw_dutieslent_k01_books_refused w K mg base (L2.CX PySem.Challenge.pw_dutieslent_k01_books_refused w) (38 + 2) (ga K "_law_spoil") fd19 P_law_spoil (spOf ⟨w, caOf K, K⟩ 2 C_spoil) := def_ok B19 F19 sc_law_spoil ok_law_spoil do_law_spoil
  have B20 : Lib G20 (caOf K) PySem.Challenge.pw_dutieslent_k01_books_refused w K mg base 40 := B19.addF (by decide) O19 (glo_ok KX G (c.fact 18 (f := .glo "_law_spoil") rfl)) F19.kp b19
  exact def_ok0 B20 F20 sc_law ok_law C_law_E do_law
end
end Law
open PySem PySem.W PySem.Calls PyProof.Rows L2 Rx He in
theorem PySem.Challenge.cw_dutieslent_k01_books_refused_holds : PySem.Challenge.rw_dutieslent_k01_books_refused.Holds := by
  refine Law.head ?_
  refine L2.walk_ofE (l := PySem.Challenge.rw_dutieslent_k01_books_refused) (n := 63) (k := 42) (x := "_law_script") (CX := L2.CX0) rfl (by decide) (by kernel_rfl) ⟨rfl, by decide, by decide⟩ ?F (fun _ _ _ _ z => z)
  intro w mg fa h Y G hmg
  have KX := kIn_of Y
  obtain ⟨fd, hb, hF⟩ := Law.all (w := w) (mg := mg) (Law.says w.params) ⟨Law.exs1 w.params, Law.exs2 w.params, Law.exs3 w.params, Law.exs4 w.params, Law.exs5 w.params, Law.exg w.params, Law.exx w.params⟩
  have hl := glo_ok KX G (SaysD.fact (Law.says w.params) 19 (f := .glo "law") rfl)
  have e : some (Value.ref fa) = some (.ref (ga (Law.head.heap_39 w.params) "law")) := hmg.symm.trans hl
  cases e
  refine ⟨_, fd, _, KX, hb, fun H a ns hlen ho hs => ?_, hF⟩
  refine ⟨rfl, [.xl (ns.map .int)], fun _ => none, fun p _ => p = .bl true, fun _ _ => False, fun _ _ e => (nomatch e), .cons (xl_script ho hs) .nil, ⟨_, ns, rfl, by omega, rfl, fun _ => rfl⟩, fun p M' v H' hM rp kk q => ?_, fun _ _ _ _ _ _ _ _ z => z⟩
  subst q
  cases rp
  rfl
end
