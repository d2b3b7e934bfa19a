import PyProof.Rows.All
import Wide.All
import OpenK.AllK
import Wide.FinOn
import KE.KDictKeyed
import KE.KDictWalk
import HandS.ForMost
import HandS.TupAny
import HandS.TupMul
import HandS.Exc
import HandS.ExcOwn
import HandS.CallSlots
import HandS.Text
import HandS.StrMore
import PyProof.Rows.StrJoinRep
import HandS.Deep
import KE.KTab
import PyProof.DictFindH
import PyProof.DictRoadsH
import KE.KEqDict
import HandS.Strs
import KE.SortData
import KE.KDictSum
import KE.KDictCopyH
import HandS.Conv
import PyProof.TupleOfSeq
import HandS.Comp
import HandS.DictComp
import HandS.IsInst
import HandS.Iter
import HandS.Zip
import HandS.Property
import HandS.Records
import HandS.Flow
import HandS.Star
import HandS.OwnEq
import HandS.Style
import HandS.Defaults
import HandS.Head0
import HandS.Head1
import HandS.Head2
import HandS.HeadEnd
import HandS.HeadHook1
import HandS.HeadHook2
import HandS.HeadHook3
import HandS.HeadHook4
import PySem.Challenge.RW_dutieslent_k18_texts_there_and_back
set_option Elab.async false
set_option linter.all false
set_option maxRecDepth 100000
set_option pp.maxSteps 600
section
set_option maxHeartbeats 4000000
/-! Rx: values as trees, a store of changing things by address, what a reading is over them. -/
namespace Rx
open PySem L2

/-- a value: what never changes is a tree; a changing thing is known by its address -/
inductive PV where
  | non
  | bl (b : Bool)
  | int (i : Int)
  | str (s : String)
  | tup (xs : List PV)
  | ref (a : Addr)
  | kd (kvs : List (String × PV))
  | xl (xs : List PV)
  deriving Inhabited

/-- a changing thing -/
inductive MO where
  | lst (xs : List PV)
  | dct (kvs : List (PV × PV))
  | kdc (kvs : List (PV × PV))
  | ins (c : String) (fs : List (String × PV))
  | own
  | lck

abbrev MM := Addr → Option MO
def mput (M : MM) (a : Addr) (o : MO) : MM := fun b => if b = a then some o else M b
@[simp] theorem mput_same {M : MM} {a : Addr} {o : MO} : mput M a o a = some o := by unfold mput; rw [if_pos rfl]
theorem mput_ne {M : MM} {a b : Addr} {o : MO} (h : b ≠ a) : mput M a o b = M b := by unfold mput; rw [if_neg h]
theorem mput_mput {M : MM} {a : Addr} {o u : MO} : mput (mput M a o) a u = mput M a u := by
  funext b; unfold mput; split <;> rfl
/-- a thing that was there stays behind a new one -/
theorem mput_old {M : MM} {a b : Addr} {o u : MO} (h : M a = none) (h' : M b = some u) : mput M a o b = some u := by
  rw [mput_ne]
  · exact h'
  · rintro rfl; rw [h] at h'; cases h'

abbrev Sg := List (Option PV)
abbrev KV1 := PV → MM → Prop

/-- a tuple that stands: tracked or written -/
def TupAt (K : PySem.W.Frag) (H : Hp) (a : Addr) (xs : List V) : Prop :=
  (∃ o, H a = some (.frz o (.tup xs)) ∧ o.cls = .type "tuple" ∧ o.dict = none) ∨
    ∃ (o : Obj) (its : Array Value) (n : Nat), K.lookup a = some o ∧ o.cls = .type "tuple" ∧ o.dict = none ∧ o.data = .seq its n ∧ its.size ≤ sizeLine ∧ Vals xs its.toList
theorem TupAt.sq {K : PySem.W.Frag} {H : Hp} {a : Addr} {xs : List V} (h : TupAt K H a xs) : SqT K H a xs := by
  rcases h with ⟨o, h, _⟩ | ⟨o, its, n, h1, h2, _, h3, h4, h5⟩
  · exact .inl (.inr ⟨o, h⟩)
  · exact .inr ⟨o, its, n, h1, h2, h3, h4, h5⟩
/-- a tuple's object -/
def tupO (us : List Value) (n : Nat) : Obj := { cls := .type "tuple", data := .seq us.toArray n }
/-- a list from outside, that nobody changes -/
def XlAt (K : PySem.W.Frag) (H : Hp) (a : Addr) (xs : List V) : Prop :=
  (∃ o, H a = some (.frz o (.lst xs))) ∨
    ∃ (o : Obj) (its : Array Value) (n : Nat), K.lookup a = some o ∧ o.cls = .type "list" ∧ o.dict = none ∧ o.data = .seq its n ∧ its.size ≤ sizeLine ∧ Vals xs its.toList
theorem XlAt.sq {K : PySem.W.Frag} {H : Hp} {a : Addr} {xs : List V} (h : XlAt K H a xs) : SqL K H a xs := by
  rcases h with ⟨o, h⟩ | h
  · exact .inl (.inr ⟨o, h⟩)
  · exact .inr h

mutual
/-- the value v stands for the tree -/
inductive Rep (K : PySem.W.Frag) (H : Hp) : PV → V → Prop
  | non : Rep K H .non .non
  | bl (b : Bool) : Rep K H (.bl b) (.bl b)
  | int (i : Int) : Rep K H (.int i) (.int i)
  | str (s : String) : Rep K H (.str s) (.str (Str.ofString s))
  | tup {a : Addr} {vs : List V} {ps : List PV} : TupAt K H a vs → Reps K H ps vs → Rep K H (.tup ps) (.ref a)
  | ref (a : Addr) : Rep K H (.ref a) (.ref a)
  | xl {a : Addr} {vs : List V} {ps : List PV} : XlAt K H a vs → Reps K H ps vs → Rep K H (.xl ps) (.ref a)
  | kd {a : Addr} {o : Obj} {es : Array DictEntry} {ep : Nat} {kvs : List (String × PV)} : K.lookup a = some o → o.ExactDict → o.data = .dict es ep → kvs.length ≤ 1000 ∧ (a == sysModules) = false → KdRep K H kvs es.toList → Rep K H (.kd kvs) (.ref a)
inductive Reps (K : PySem.W.Frag) (H : Hp) : List PV → List V → Prop
  | nil : Reps K H [] []
  | cons {p : PV} {ps : List PV} {v : V} {vs : List V} : Rep K H p v → Reps K H ps vs → Reps K H (p :: ps) (v :: vs)
/-- the entries of a written dict by texts -/
inductive KdRep (K : PySem.W.Frag) (H : Hp) : List (String × PV) → List DictEntry → Prop
  | nil : KdRep K H [] []
  | cons {k : String} {t : Tok} {q : PV} {u : V} {e : DictEntry} {ps : List (String × PV)} {es : List DictEntry} : e.key = Value.str (Str.ofString k) t → Rep K H q u → RelV u e.val → KdRep K H ps es → KdRep K H ((k, q) :: ps) (e :: es)
end

/-- what every step keeps: tuples, locked things -/
structure Keep (H H' : Hp) : Prop where
  tup : ∀ b xs, H b = some (.tup xs) → H' b = some (.tup xs)
  frz : ∀ b o u, H b = some (.frz o u) → H' b = some (.frz o u)
theorem Keep.refl (H : Hp) : Keep H H := ⟨fun _ _ h => h, fun _ _ _ h => h⟩
theorem Keep.trans {H H1 H2 : Hp} (a : Keep H H1) (b : Keep H1 H2) : Keep H H2 := ⟨fun c xs h => b.tup c xs (a.tup c xs h), fun c o u h => b.frz c o u (a.frz c o u h)⟩
/-- a new thing -/
theorem Keep.new {H : Hp} {p : Addr} {o : HO} (h : H p = none) : Keep H (upd H p o) := ⟨fun b xs e => by rw [upd_ne (ne_of_none e h)]; exact e, fun b o u e => by rw [upd_ne (ne_of_none e h)]; exact e⟩
def isTF : HO → Bool
  | .tup _ => true
  | .frz _ _ => true
  | _ => false
/-- a changing thing changed -/
theorem Keep.set {H : Hp} {p : Addr} {o u : HO} (h : H p = some u) (hu : isTF u = false) : Keep H (upd H p o) := by
  refine ⟨fun b xs e => ?_, fun b o' u' e => ?_⟩
  · rw [upd_ne]
    · exact e
    · rintro rfl; rw [h] at e; cases e; cases hu
  · rw [upd_ne]
    · exact e
    · rintro rfl; rw [h] at e; cases e; cases hu

section
variable {K : PySem.W.Frag} {H H' : Hp}
/-- a weaker keeping: tuples, locked tuples and lists -/
structure KeepW (H H' : Hp) : Prop where
  ft : ∀ b o xs, H b = some (.frz o (.tup xs)) → H' b = some (.frz o (.tup xs))
  fl : ∀ b o xs, H b = some (.frz o (.lst xs)) → H' b = some (.frz o (.lst xs))
theorem Keep.w (k : Keep H H') : KeepW H H' := ⟨fun b o xs => k.frz b o _, fun b o xs => k.frz b o _⟩
theorem TupAt.keepW {a : Addr} {xs : List V} (k : KeepW H H') (h : TupAt K H a xs) : TupAt K H' a xs := h.elim (fun ⟨o, h, h2⟩ => .inl ⟨o, k.ft _ _ _ h, h2⟩) .inr
theorem XlAt.keepW {a : Addr} {xs : List V} (k : KeepW H H') (h : XlAt K H a xs) : XlAt K H' a xs := h.elim (fun ⟨o, h⟩ => .inl ⟨o, k.fl _ _ _ h⟩) .inr
theorem TupAt.keep {a : Addr} {xs : List V} (k : Keep H H') (h : TupAt K H a xs) : TupAt K H' a xs := h.keepW k.w
theorem XlAt.keep {a : Addr} {xs : List V} (k : Keep H H') (h : XlAt K H a xs) : XlAt K H' a xs := h.keepW k.w
mutual
theorem Rep.keepW (k : KeepW H H') : ∀ {p : PV} {v : V}, Rep K H p v → Rep K H' p v
  | _, _, .non => .non
  | _, _, .bl b => .bl b
  | _, _, .int i => .int i
  | _, _, .str s => .str s
  | _, _, .tup h r => .tup (h.keepW k) (Reps.keepW k r)
  | _, _, .ref a => .ref a
  | _, _, .xl h r => .xl (h.keepW k) (Reps.keepW k r)
  | _, _, .kd h1 h2 h3 h4 r => .kd h1 h2 h3 h4 (KdRep.keepW k r)
theorem Reps.keepW (k : KeepW H H') : ∀ {p : List PV} {v : List V}, Reps K H p v → Reps K H' p v
  | _, _, .nil => .nil
  | _, _, .cons a b => .cons (Rep.keepW k a) (Reps.keepW k b)
theorem KdRep.keepW (k : KeepW H H') : ∀ {p : List (String × PV)} {v : List DictEntry}, KdRep K H p v → KdRep K H' p v
  | _, _, .nil => .nil
  | _, _, .cons a b c d => .cons a (Rep.keepW k b) c (KdRep.keepW k d)
end
theorem Rep.keep (k : Keep H H') {p : PV} {v : V} (r : Rep K H p v) : Rep K H' p v := r.keepW k.w
theorem Reps.keep (k : Keep H H') {p : List PV} {v : List V} (r : Reps K H p v) : Reps K H' p v := r.keepW k.w
theorem KdRep.keep (k : Keep H H') {p : List (String × PV)} {v : List DictEntry} (r : KdRep K H p v) : KdRep K H' p v := r.keepW k.w
theorem Reps.length : ∀ {p : List PV} {v : List V}, Reps K H p v → p.length = v.length
  | _, _, .nil => rfl
  | _, _, .cons _ b => by simp only [List.length_cons, b.length]
theorem Reps.get : ∀ {p : List PV} {v : List V} {i : Nat} {x : PV}, Reps K H p v → p[i]? = some x → ∃ w, v[i]? = some w ∧ Rep K H x w
  | _, _, _, _, .nil, e => by simp at e
  | _, _, 0, _, .cons a _, e => by simp at e; subst e; exact ⟨_, rfl, a⟩
  | _, _, i + 1, x, .cons _ b, e => by
    obtain ⟨w, h1, h2⟩ := Reps.get (i := i) (x := x) b (by simpa using e)
    exact ⟨w, by simpa using h1, h2⟩
theorem Reps.get' : ∀ {p : List PV} {v : List V} {i : Nat} {w : V}, Reps K H p v → v[i]? = some w → ∃ x, p[i]? = some x ∧ Rep K H x w
  | _, _, _, _, .nil, e => by simp at e
  | _, _, 0, _, .cons a _, e => by simp at e; subst e; exact ⟨_, rfl, a⟩
  | _, _, i + 1, w, .cons _ b, e => by
    obtain ⟨x, h1, h2⟩ := Reps.get' (i := i) (w := w) b (by simpa using e)
    exact ⟨x, by simpa using h1, h2⟩
theorem Reps.append : ∀ {p q : List PV} {v w : List V}, Reps K H p v → Reps K H q w → Reps K H (p ++ q) (v ++ w)
  | _, _, _, _, .nil, r => r
  | _, _, _, _, .cons a b, r => .cons a (b.append r)
theorem Reps.one {p : PV} {v : V} (r : Rep K H p v) : Reps K H [p] [v] := .cons r .nil
theorem Reps.set {x : PV} {w : V} (r : Rep K H x w) : ∀ {p : List PV} {v : List V} (i : Nat), Reps K H p v → Reps K H (p.set i x) (v.set i w)
  | _, _, _, .nil => .nil
  | _, _, 0, .cons _ b => .cons r b
  | _, _, i + 1, .cons a b => .cons a (Reps.set r i b)
theorem Reps.take : ∀ {p : List PV} {v : List V} (n : Nat), Reps K H p v → Reps K H (p.take n) (v.take n)
  | _, _, 0, _ => .nil
  | _, _, _ + 1, .nil => .nil
  | _, _, n + 1, .cons a b => .cons a (Reps.take n b)
theorem Reps.drop : ∀ {p : List PV} {v : List V} (n : Nat), Reps K H p v → Reps K H (p.drop n) (v.drop n)
  | _, _, 0, r => r
  | _, _, _ + 1, .nil => .nil
  | _, _, n + 1, .cons _ b => Reps.drop n b
theorem Reps.reverse : ∀ {p : List PV} {v : List V}, Reps K H p v → Reps K H p.reverse v.reverse
  | _, _, .nil => .nil
  | _, _, .cons a b => by
    rw [List.reverse_cons, List.reverse_cons]
    exact b.reverse.append (.one a)
theorem Reps.dropLast {p : List PV} {v : List V} (r : Reps K H p v) : Reps K H p.dropLast v.dropLast := by
  rw [List.dropLast_eq_take, List.dropLast_eq_take, r.length]
  exact r.take _
theorem Reps.replicate {p : List PV} {v : List V} (r : Reps K H p v) : ∀ n : Nat, Reps K H (List.replicate n p).flatten (List.replicate n v).flatten
  | 0 => .nil
  | n + 1 => by
    rw [List.replicate_succ, List.replicate_succ, List.flatten_cons, List.flatten_cons]
    exact r.append (r.replicate n)
theorem Rep.none_iff {p : PV} {v : V} (r : Rep K H p v) : (v = .non ↔ p = .non) := by
  cases r <;> simp
end

/-- the raw look of a dict: its entries' keys and values as they stand, their hashes -/
def DctO (a : Addr) (es : Array DictEntry) : HO := .ext fun h => ∃ o ep, h.get? a = some o ∧ o.ExactDict ∧ o.data = .dict es ep

mutual
/-- a tree as a key -/
def keyOf : PV → Option NestedKey
  | .non => some .none
  | .int i => some (.num i)
  | .bl b => some (.num (if b = true then 1 else 0))
  | .str s => some (.text (Str.ofString s))
  | .tup ps => match keysOf ps with
    | some ks => some (.tup ks)
    | none => none
  | _ => none
def keysOf : List PV → Option (List NestedKey)
  | [] => some []
  | p :: ps => match keyOf p, keysOf ps with
    | some k, some ks => some (k :: ks)
    | _, _ => none
end
def kk (p : PV) : NestedKey := (keyOf p).getD .none

/-- the fields that an instance of a class of the program has -/
def fieldOf (c f : String) : Bool :=
  match c with
  | "Book" => ["turns", "names", "open_days", "cap", "parts", "told_words"].contains f
  | "Record" => ["source", "at", "row", "acts", "told", "nights", "able_now"].contains f
  | "Reach" => ["source", "able", "rows", "aim", "aimed", "first_rows"].contains f
  | "Board" => ["source", "row", "now_record"].contains f
  | "Desk" => ["present", "past", "later", "told_now"].contains f
  | "Trial" => ["present", "past", "later", "told_now", "home", "is_kept"].contains f
  | "Line" => ["parts", "number", "spot"].contains f
  | "Reader" => ["rows", "at"].contains f
  | _ => false
structure ClsOk (K : PySem.W.Frag) (C : Addr) (c : String) : Prop where
  cl : Cls K C
  no : ∀ f, fieldOf c f = true → NoAttr K C (Str.ofString f)

/-- the fields of an instance -/
inductive FRep (K : PySem.W.Frag) (H : Hp) : List (String × PV) → List (Str × V) → Prop
  | nil : FRep K H [] []
  | cons {f : String} {p : PV} {v : V} {fs : List (String × PV)} {gs : List (Str × V)} : Rep K H p v → FRep K H fs gs → FRep K H ((f, p) :: fs) ((Str.ofString f, v) :: gs)
theorem FRep.keepW {K : PySem.W.Frag} {H H' : Hp} (k : KeepW H H') : ∀ {fs : List (String × PV)} {gs : List (Str × V)}, FRep K H fs gs → FRep K H' fs gs
  | _, _, .nil => .nil
  | _, _, .cons a b => .cons (a.keepW k) (b.keepW k)
theorem FRep.keep {K : PySem.W.Frag} {H H' : Hp} (k : Keep H H') {fs : List (String × PV)} {gs : List (Str × V)} (r : FRep K H fs gs) : FRep K H' fs gs := r.keepW k.w

/-- a plain key, as HandS has it -/
def kpv : PV → Option Key
  | .str s => some (.inr (Str.ofString s))
  | .int i => some (.inl i)
  | _ => none
/-- a dict that is being made -/
inductive DRel (K : PySem.W.Frag) (H : Hp) : List (PV × PV) → List (Key × V) → Prop
  | nil : DRel K H [] []
  | cons {p q : PV} {k : Key} {v : V} {ps : List (PV × PV)} {kvs : List (Key × V)} : kpv p = some k → Rep K H q v → DRel K H ps kvs → DRel K H ((p, q) :: ps) ((k, v) :: kvs)
theorem DRel.keepW {K : PySem.W.Frag} {H H' : Hp} (k : KeepW H H') : ∀ {ps : List (PV × PV)} {kvs : List (Key × V)}, DRel K H ps kvs → DRel K H' ps kvs
  | _, _, .nil => .nil
  | _, _, .cons a b c => .cons a (b.keepW k) (c.keepW k)
theorem DRel.keep {K : PySem.W.Frag} {H H' : Hp} (k : Keep H H') {ps : List (PV × PV)} {kvs : List (Key × V)} (r : DRel K H ps kvs) : DRel K H' ps kvs := r.keepW k.w

section
variable (w : World) (ca : String → Addr) (K : PySem.W.Frag)
/-- the entries of a dict stand for its pairs -/
inductive ERep (H : Hp) : List (PV × PV) → List DictEntry → Prop
  | nil : ERep H [] []
  | cons {p q : PV} {k : NestedKey} {e : DictEntry} {v u : V} {ps : List (PV × PV)} {es : List DictEntry} : keyOf p = some k → k.depth ≤ 8 → e.hash = k.hash w → Rep K H p v → RelV v e.key → Rep K H q u → RelV u e.val →
      ERep H ps es → ERep H ((p, q) :: ps) (e :: es)
def MoOk (H : Hp) (a : Addr) : MO → Prop
  | .lst ps => ∃ vs, H a = some (.lst vs) ∧ Reps K H ps vs
  | .dct kvs => ∃ es : Array DictEntry, H a = some (DctO a es) ∧ ERep w K H kvs es.toList ∧ (kvs.map fun q => kk q.1).Nodup ∧ kvs.length ≤ sizeLine ∧ (a == sysModules) = false
  | .kdc ps => ∃ kvs, H a = some (.dK kvs) ∧ DRel K H ps kvs ∧ (kvs.map (·.1)).Nodup
  | .ins c fs => ∃ dx gs, H a = some (.ins (ca c) dx gs) ∧ FRep K H fs gs ∧ fs.length ≤ 900 ∧ ClsOk K (ca c) c
  | .own => ∃ x, H a = some (.own x)
  | .lck => ∃ o u, H a = some (.frz o u)
def HRep (M : MM) (H : Hp) : Prop := ∀ a o, M a = some o → MoOk w ca K H a o
/-- fewer things are told -/
def Sub (M' M : MM) : Prop := ∀ a o, M' a = some o → M a = some o
end
theorem Sub.refl (M : MM) : Sub M M := fun _ _ h => h
theorem Sub.trans {A B C : MM} (a : Sub A B) (b : Sub B C) : Sub A C := fun x o h => b x o (a x o h)
theorem Sub.new {M : MM} {a : Addr} {o : MO} (h : M a = none) : Sub M (mput M a o) := fun b u e => mput_old h e
theorem HRep.sub {w : World} {ca : String → Addr} {K : PySem.W.Frag} {M M' : MM} {H : Hp} (h : HRep w ca K M H) (s : Sub M' M) : HRep w ca K M' H := fun a o e => h a o (s a o e)

section
variable {w : World} {ca : String → Addr} {K : PySem.W.Frag} {H H' : Hp} {M : MM} {a : Addr}
theorem ERep.keepW (k : KeepW H H') : ∀ {ps : List (PV × PV)} {es : List DictEntry}, ERep w K H ps es → ERep w K H' ps es
  | _, _, .nil => .nil
  | _, _, .cons h1 h2 h3 r1 r2 r3 r4 t => .cons h1 h2 h3 (r1.keepW k) r2 (r3.keepW k) r4 (t.keepW k)
theorem ERep.keep (k : Keep H H') {ps : List (PV × PV)} {es : List DictEntry} (r : ERep w K H ps es) : ERep w K H' ps es := r.keepW k.w
/-- one thing's description, where the thing itself stays -/
theorem MoOk.keepW {o : MO} (k : KeepW H H') (e : H' a = H a) (h : MoOk w ca K H a o) : MoOk w ca K H' a o := by
  cases o with
  | lst ps => obtain ⟨vs, h1, h2⟩ := h; exact ⟨vs, e.trans h1, h2.keepW k⟩
  | dct kvs => obtain ⟨es, h1, h2, h3⟩ := h; exact ⟨es, e.trans h1, h2.keepW k, h3⟩
  | kdc ps => obtain ⟨kvs, h1, h2, h3⟩ := h; exact ⟨kvs, e.trans h1, h2.keepW k, h3⟩
  | ins c fs => obtain ⟨dx, gs, h1, h2, h3⟩ := h; exact ⟨dx, gs, e.trans h1, h2.keepW k, h3⟩
  | own => obtain ⟨x, h1⟩ := h; exact ⟨x, e.trans h1⟩
  | lck => obtain ⟨o, u, h1⟩ := h; exact ⟨o, u, e.trans h1⟩
theorem MoOk.keep {o : MO} (k : Keep H H') (e : H' a = H a) (h : MoOk w ca K H a o) : MoOk w ca K H' a o := h.keepW k.w e
theorem MoOk.some {o : MO} (h : MoOk w ca K H a o) : ∃ u, H a = .some u ∧ True := by
  cases o with
  | lst ps => obtain ⟨vs, h1, h2⟩ := h; exact ⟨_, h1, True.intro⟩
  | dct kvs => obtain ⟨es, h1, h2⟩ := h; exact ⟨_, h1, True.intro⟩
  | kdc ps => obtain ⟨kvs, h1, h2⟩ := h; exact ⟨_, h1, True.intro⟩
  | ins c fs => obtain ⟨dx, gs, h1, h2⟩ := h; exact ⟨_, h1, True.intro⟩
  | own => obtain ⟨x, h1⟩ := h; exact ⟨_, h1, True.intro⟩
  | lck => obtain ⟨o, u, h1⟩ := h; exact ⟨_, h1, True.intro⟩
theorem HRep.fresh (h : HRep w ca K M H) {p : Addr} (e : H p = none) : M p = none := by
  cases q : M p with
  | none => rfl
  | some o =>
    obtain ⟨u, h1, _⟩ := (h p o q).some
    rw [e] at h1; cases h1
/-- a new thing that is not told -/
theorem HRep.new0 (h : HRep w ca K M H) {p : Addr} {o : HO} (e : H p = none) : HRep w ca K M (upd H p o) := fun a u q => by
  obtain ⟨x, h1, _⟩ := (h a u q).some
  exact (h a u q).keep (.new e) (upd_ne (ne_of_none h1 e))
/-- a new thing that is told -/
theorem HRep.new (h : HRep w ca K M H) {p : Addr} {o : HO} {u : MO} (e : H p = none) (n : MoOk w ca K (upd H p o) p u) : HRep w ca K (mput M p u) (upd H p o) := fun a v q => by
  by_cases z : a = p
  · subst z; rw [mput_same] at q; cases q; exact n
  · rw [mput_ne z] at q; exact h.new0 e a v q
/-- a thing changed -/
theorem HRep.set (h : HRep w ca K M H) {p : Addr} {o o' : HO} {u : MO} (e : H p = some o') (t : isTF o' = false) (n : MoOk w ca K (upd H p o) p u) : HRep w ca K (mput M p u) (upd H p o) := fun a v q => by
  by_cases z : a = p
  · subst z; rw [mput_same] at q; cases q; exact n
  · rw [mput_ne z] at q; exact (h a v q).keep (.set e t) (upd_ne z)
theorem HRep.lst (h : HRep w ca K M H) {ps : List PV} (e : M a = some (.lst ps)) : ∃ vs, H a = some (.lst vs) ∧ Reps K H ps vs := h a _ e
end

/-- the slots stand for the trees -/
structure SRep (K : PySem.W.Frag) (H : Hp) (σ : L2.St) (g : Sg) : Prop where
  len : σ.length = g.length
  at_ : ∀ (i : Nat) p, g[i]? = some (some p) → ∃ v, σ[i]? = some (some v) ∧ Rep K H p v
theorem SRep.keepW {K : PySem.W.Frag} {H H' : Hp} {σ : L2.St} {g : Sg} (k : KeepW H H') (r : SRep K H σ g) : SRep K H' σ g := ⟨r.len, fun i p e => let ⟨v, h1, h2⟩ := r.at_ i p e; ⟨v, h1, h2.keepW k⟩⟩
theorem SRep.keep {K : PySem.W.Frag} {H H' : Hp} {σ : L2.St} {g : Sg} (k : Keep H H') (r : SRep K H σ g) : SRep K H' σ g := ⟨r.len, fun i p e => let ⟨v, h1, h2⟩ := r.at_ i p e; ⟨v, h1, h2.keep k⟩⟩
theorem SRep.set {K : PySem.W.Frag} {H : Hp} {σ : L2.St} {g : Sg} {p : PV} {v : V} (r : SRep K H σ g) (i : Nat) (q : Rep K H p v) : SRep K H (σ.set i (some v)) (g.set i (some p)) := by
  refine ⟨by simp [r.len], fun j x e => ?_⟩
  by_cases h : i = j
  · subst h
    by_cases hl : i < g.length
    · rw [List.getElem?_set_self hl] at e
      cases e
      exact ⟨v, List.getElem?_set_self (by rw [r.len]; exact hl), q⟩
    · rw [List.getElem?_eq_none (by simpa using hl)] at e; cases e
  · rw [List.getElem?_set_ne h] at e
    obtain ⟨w, h1, h2⟩ := r.at_ j x e
    exact ⟨w, by rw [List.getElem?_set_ne h]; exact h1, h2⟩
/-- slots forgotten -/
def SSub (g' g : Sg) : Prop := g'.length = g.length ∧ ∀ (i : Nat) p, g'[i]? = some (some p) → g[i]? = some (some p)
theorem SSub.refl (g : Sg) : SSub g g := ⟨rfl, fun _ _ h => h⟩
theorem SRep.sub {K : PySem.W.Frag} {H : Hp} {σ : L2.St} {g g' : Sg} (r : SRep K H σ g) (s : SSub g' g) : SRep K H σ g' := ⟨r.len.trans s.1.symm, fun i p e => r.at_ i p (s.2 i p e)⟩
def wipeG (g : Sg) : List Nat → Sg
  | [] => g
  | v :: vs => (wipeG g vs).set v none
theorem wipeG_length (g : Sg) : ∀ vs : List Nat, (wipeG g vs).length = g.length
  | [] => rfl
  | v :: vs => by unfold wipeG; rw [List.length_set, wipeG_length g vs]
theorem SRep.wipe {K : PySem.W.Frag} {H : Hp} {σ : L2.St} {g : Sg} (r : SRep K H σ g) : ∀ vs : List Nat, SRep K H (L2.wipe σ vs) (wipeG g vs)
  | [] => r
  | v :: vs => by
    have q := r.wipe vs
    refine ⟨by rw [wipe_length, wipeG_length, r.len], fun i p e => ?_⟩
    unfold wipeG at e
    unfold L2.wipe
    by_cases h : v = i
    · subst h
      by_cases hl : v < (wipeG g vs).length
      · rw [List.getElem?_set_self hl] at e; cases e
      · rw [List.getElem?_eq_none (by simpa using hl)] at e; cases e
    · rw [List.getElem?_set_ne h] at e ⊢
      exact q.at_ i p e

/-- what is told of the whole -/
structure Gw where
  w : World
  ca : String → Addr
  K : PySem.W.Frag
/-- the slots and the store stand for the trees -/
structure Rel (G : Gw) (σ : L2.St) (H : Hp) (g : Sg) (M : MM) : Prop where
  s : SRep G.K H σ g
  h : HRep G.w G.ca G.K M H
theorem Rel.go {G : Gw} {σ : L2.St} {H H' : Hp} {g : Sg} {M M' : MM} (r : Rel G σ H g M) (k : Keep H H') (h : HRep G.w G.ca G.K M' H') : Rel G σ H' g M' := ⟨r.s.keep k, h⟩

/-- readings over trees -/
abbrev RE := Sg → MM → KV1 → Prop
abbrev RT := Sg → MM → (Bool → MM → Prop) → Prop
abbrev RA := Sg → MM → (List PV → MM → Prop) → Prop
def liftE (G : Gw) (r : RE) : TE := fun σ H Q => ∃ g M Qa, Rel G σ H g M ∧ r g M Qa ∧ ∀ p M' v H', HRep G.w G.ca G.K M' H' → Rep G.K H' p v → Keep H H' → Qa p M' → Q v H'
def liftT (G : Gw) (r : RT) : TT := fun σ H Q => ∃ g M Qa, Rel G σ H g M ∧ r g M Qa ∧ ∀ b M' H', HRep G.w G.ca G.K M' H' → Keep H H' → Qa b M' → Q b H'
def liftA (G : Gw) (r : RA) : TA := fun σ H Q => ∃ g M Qa, Rel G σ H g M ∧ r g M Qa ∧ ∀ ps M' vs H', HRep G.w G.ca G.K M' H' → Reps G.K H' ps vs → Keep H H' → Qa ps M' → Q vs H'

section
variable {X : Cx} {e : Expr}
theorem PE.imp {t t' : TE} (h : PE X e t) (i : ∀ σ H Q, t' σ H Q → t σ H Q) : PE X e t' := ⟨fun pins s σ H Q I q => h.run pins s σ H Q I (i σ H Q q)⟩
theorem PT.imp {t t' : TT} (h : PT X e t) (i : ∀ σ H Q, t' σ H Q → t σ H Q) : PT X e t' := ⟨fun pins s σ H Q I q => h.run pins s σ H Q I (i σ H Q q)⟩
theorem PW.imp {t t' : TT} (h : PW X e t) (i : ∀ σ H Q, t' σ H Q → t σ H Q) : PW X e t' := ⟨fun wh pins s σ H Q I q => h.run wh pins s σ H Q I (i σ H Q q)⟩
theorem PA.imp {es : List Expr} {t t' : TA} (h : PA X es t) (i : ∀ σ H Q, t' σ H Q → t σ H Q) : PA X es t' := ⟨fun po pins s σ H Q I q => h.run po pins s σ H Q I (i σ H Q q)⟩
theorem PS.imp {st : Stmt} {t t' : TS} (h : PS X st t) (i : ∀ D σ H, t' D σ H → t D σ H) : PS X st t' := ⟨fun pins s σ H D I q => h.run pins s σ H D I (i D σ H q)⟩
theorem PSs.imp {st : List Stmt} {t t' : TS} (h : PSs X st t) (i : ∀ D σ H, t' D σ H → t D σ H) : PSs X st t' := ⟨fun pins s σ H D I q => h.run pins s σ H D I (i D σ H q)⟩
end
end Rx
end

section
set_option maxHeartbeats 4000000
/-! Rx: the syntax without places, and what a reading of it asks. -/
namespace Rx
open PySem L2

mutual
inductive E where
  | var (i : Nat)
  | glo (x : String)
  | int (i : Int)
  | str (s : String)
  | bl (b : Bool)
  | non
  | bin (op : Operator) (a b : E)
  | neg (a : E)
  | cmp (op : CmpOp) (a b : E)
  | chain (o1 o2 : CmpOp) (a b c : E)
  | notE (a : E)
  | andE (a b : E)
  | orE (a b : E)
  | one (a : E)
  | ite (c a b : E)
  | tup (es : Es)
  | lst (es : Es)
  | dct (ps : Ps)
  | fld (o : E) (f : String)
  | prop (o : E) (f : String)
  | sub (a i : E)
  | slc (a : E) (lo hi : Oe)
  | call (f : String) (as : Es)
  | mk (c : String) (as : Es)
  | bi (f : String) (as : Es)
  | isi (x : E) (t : String)
  | isc (x : E) (c : String)
  | eqO (a b : E)
  | meth (o : E) (m : String) (as : Es)
  | bm (t : String) (o : E) (m : String) (as : Es)
  | lc (elt : E) (x : Tg) (it : It) (c : Oe) (own : List (String × Nat))
  | lc2 (elt : E) (x : Tg) (it : It) (x1 : Tg) (it1 : It) (c1 : Oe) (own : List (String × Nat)) (vs1 : List Nat)
  | dc (k v : E) (x : Tg) (it : It) (c : Oe) (own : List (String × Nat))
  | srt (e : E) (f : String)
  | tv (a : E)
  | never
inductive Es where
  | nil
  | cons (e : E) (es : Es)
  | star (e : E) (es : Es)
inductive Ps where
  | nil
  | cons (k v : E) (ps : Ps)
  | star (d : E) (ps : Ps)
inductive Oe where
  | none
  | some (e : E)
inductive It where
  | val (e : E)
  | rng1 (a : E)
  | rng2 (a b : E)
  | enum (e : E)
  | zip (a b : E)
  | items (e : E)
inductive Tg where
  | name (i : Nat)
  | tup (ts : Tgs)
  | sub (o i : E)
inductive Tgs where
  | nil
  | cons (t : Tg) (ts : Tgs)
end
mutual
inductive S where
  | setl (i : Nat) (elt : E) (x : Tg) (it : It) (c : Oe) (own : List (String × Nat))
  | setd (i : Nat) (k v : E) (x : Tg) (it : It) (c : Oe) (own : List (String × Nat))
  | asg (t : Tg) (e : E)
  | fld (o : E) (f : String) (e : E)
  | par2 (i j : Nat) (a b : E)
  | par3 (i j k : Nat) (a b c : E)
  | aug (i : Nat) (op : Operator) (e : E)
  | augF (o : E) (f : String) (op : Operator) (e : E)
  | expr (e : E)
  | ret (e : E)
  | retN
  | ifS (c : E) (t f : Ss)
  | whileS (c : E) (b : Ss)
  | forS (x : Tg) (it : It) (b : Ss)
  | pass
  | cont
  | brk
  | never
  | raise (c : String) (as : Es)
  | matchS (e : E) (cs : Cs)
inductive Ss where
  | nil
  | cons (s : S) (ss : Ss)
inductive Cs where
  | nil
  | cons (x : String) (b : Ss) (cs : Cs)
end

/-- an error: its class, its fields -/
structure XV where
  c : String
  fs : List (String × PV)
abbrev XK1 := XV → MM → Prop
/-- .. with the slots -/
abbrev XW := XV → Sg → MM → Prop
/-- no error -/
def noX : XW := fun _ _ _ => False
/-- what a def is worth: the arguments, the store, the wanted end, the wanted error -/
abbrev Con := List PV → MM → KV1 → XK1 → Prop
/-- what is known around a def -/
structure Gm where
  fn : String → Option (Nat × Con)
  mkc : String → Option (Nat × Con)
  mt : String → String → Option (Nat × Con)
  pr : String → String → Option (Nat × Con)
  co : String → Option PV
  cl : List String := []

/-! ### data -/
mutual
/-- a tree, its lists read off the store -/
inductive Deep (M : MM) : PV → PyData → Prop
  | non : Deep M .non .none
  | bl (b : Bool) : Deep M (.bl b) (.bool b)
  | int (i : Int) : Deep M (.int i) (.int i)
  | str (s : String) : Deep M (.str s) (.str (Str.ofString s))
  | tup {ps : List PV} {ds : List PyData} : DeepAll M ps ds → Deep M (.tup ps) (.tuple ds)
  | lst {a : Addr} {ps : List PV} {ds : List PyData} : M a = some (.lst ps) → DeepAll M ps ds → Deep M (.ref a) (.list ds)
  | xl {ps : List PV} {ds : List PyData} : DeepAll M ps ds → Deep M (.xl ps) (.list ds)
inductive DeepAll (M : MM) : List PV → List PyData → Prop
  | nil : DeepAll M [] []
  | cons {p : PV} {ps : List PV} {d : PyData} {ds : List PyData} : Deep M p d → DeepAll M ps ds → DeepAll M (p :: ps) (d :: ds)
end
/-- == of flat things -/
def sEq : PV → PV → Option Bool
  | .str a, .str b => some (decide (a = b))
  | .int a, .int b => some (decide (a = b))
  | .bl a, .bl b => some (decide (a = b))
  | .non, .non => some true
  | .non, .str _ => some false
  | .str _, .non => some false
  | .non, .int _ => some false
  | .int _, .non => some false
  | .non, .bl _ => some false
  | .bl _, .non => some false
  | .int _, .str _ => some false
  | .str _, .int _ => some false
  | .bl _, .str _ => some false
  | .str _, .bl _ => some false
  | _, _ => none
/-- in, of flat things -/
def sMem (x : PV) : List PV → Option Bool
  | [] => match x with
    | .non => some false
    | .bl _ => some false
    | .int _ => some false
    | .str _ => some false
    | _ => none
  | p :: ps => match sEq p x, sMem x ps with
    | some b, some c => some (b || c)
    | _, _ => none
/-- == of dicts with text keys and flat values -/
def sGet (k : String) : List (PV × PV) → Option PV
  | [] => none
  | (.str x, v) :: r => if x = k then some v else sGet k r
  | _ :: r => sGet k r
def dEqR (kb : List (PV × PV)) : List (PV × PV) → Option Bool
  | [] => some true
  | (.str k, v) :: r => match sGet k kb with
    | some y => match sEq v y, dEqR kb r with
      | some e, some b => some (e && b)
      | _, _ => none
    | none => some false
  | _ :: _ => none
def allS (ka : List (PV × PV)) : Bool := ka.all fun q => match q.1 with
  | .str _ => true
  | _ => false
def dEq (ka kb : List (PV × PV)) : Option Bool := if allS ka && allS kb then match dEqR kb ka with
  | some r => some (ka.length == kb.length && r)
  | none => none else none
def eqA (p q : PV) (M : MM) (Q : Bool → Prop) : Prop :=
  match sEq p q with
  | some b => Q b
  | none => (∃ d e, Deep M p d ∧ Deep M q e ∧ SeqAt.shaped d = true ∧ SeqAt.shaped e = true ∧ Q (PyData.eqv d e)) ∨ ∃ a b ka kb r, p = .ref a ∧ q = .ref b ∧ M a = some (.dct ka) ∧ M b = some (.dct kb) ∧ dEq ka kb = some r ∧ Q r
/-- two trees are one key -/
def keyEq (p q : PV) : Bool := match keyOf p, keyOf q with
  | some a, some b => decide (a = b)
  | _, _ => false
/-- what stands at a key -/
def dGet (kvs : List (PV × PV)) (k : PV) : Option PV := match kvs with
  | [] => none
  | (p, v) :: r => if keyEq p k = true then some v else dGet r k
/-- a value put at a key -/
def dPut (kvs : List (PV × PV)) (k v : PV) : List (PV × PV) := match kvs with
  | [] => [(k, v)]
  | (p, u) :: r => if keyEq p k = true then (p, v) :: r else (p, u) :: dPut r k v
def keyOk (p : PV) : Bool := match keyOf p with
  | some k => decide (k.depth ≤ 8)
  | none => false

/-! ### operations -/
def strLen (s : String) : Nat := s.length
def binA (op : Operator) (p q : PV) (M : MM) (Q : KV1) : Prop :=
  match op, p, q with
  | .Add, .int i, .int j => Q (.int (i + j)) M
  | .Add, .str s, .str t => s.length + t.length ≤ 1000000 ∧ Q (.str (s ++ t)) M
  | .Add, .tup xs, .tup ys => xs.length + ys.length ≤ sizeLine ∧ Q (.tup (xs ++ ys)) M
  | .Add, .ref a, .ref b => match M a, M b with
    | some (.lst xs), some (.lst ys) => xs.length + ys.length ≤ sizeLine ∧ ∀ p, M p = none → Q (.ref p) (mput M p (.lst (xs ++ ys)))
    | _, _ => False
  | .Sub, .int i, .int j => Q (.int (i - j)) M
  | .Mult, .int i, .int j => CMul i j ∧ Q (.int (i * j)) M
  | .Mult, .tup xs, .int k => xs ≠ [] ∧ 2 ≤ k ∧ k ≤ 1000 ∧ xs.length ≤ 1000 ∧ Q (.tup (List.replicate k.toNat xs).flatten) M
  | .Mult, .str s, .int k => match s.toList with
    | [c] => 0 ≤ k ∧ k ≤ 1000 ∧ Q (.str (String.ofList (List.replicate k.toNat c))) M
    | _ => False
  | .FloorDiv, .int i, .int j => CDiv i j ∧ Q (.int (i / j)) M
  | .Mod, .int i, .int j => 0 < j ∧ Q (.int (i % j)) M
  | .Pow, .int i, .int j => CPow i j ∧ Q (.int (i ^ j.toNat)) M
  | _, _, _ => False
/-- is x in q -/
def inA (x q : PV) (M : MM) (Q : Bool → Prop) : Prop :=
  match q with
  | .tup ps => match sMem x ps with
    | some b => Q b
    | none => False
  | .ref a => match M a with
    | some (.lst ps) => match sMem x ps with
      | some b => Q b
      | none => ∃ d ds, Deep M x d ∧ DeepAll M ps ds ∧ SeqAt.shaped d = true ∧ SeqAt.shaped (.list ds) = true ∧ Q (ds.any fun e => PyData.eqv e d)
    | some (.dct kvs) => keyOk x = true ∧ Q (dGet kvs x).isSome
    | _ => False
  | .kd kvs => False
  | .str z => match x with
    | .str s => match s.toList with
      | [c] => Q (z.toList.contains c)
      | _ => False
    | _ => False
  | _ => False
def sLt (a b : String) : Bool := decide ((Str.ofString a).cps.toList < (Str.ofString b).cps.toList)
def cmpA (op : CmpOp) (p q : PV) (M : MM) (Q : Bool → Prop) : Prop :=
  match op with
  | .Eq => eqA p q M Q
  | .NotEq => eqA p q M fun b => Q (!b)
  | .Lt => match p, q with
    | .int i, .int j => Q (decide (i < j))
    | .str a, .str b => Q (sLt a b)
    | _, _ => False
  | .LtE => match p, q with
    | .int i, .int j => Q (decide (i ≤ j))
    | _, _ => False
  | .Gt => match p, q with
    | .int i, .int j => Q (decide (j < i))
    | _, _ => False
  | .GtE => match p, q with
    | .int i, .int j => Q (decide (j ≤ i))
    | _, _ => False
  | .Is => match q with
    | .non => match p with
      | .non => Q true
      | _ => Q false
    | _ => False
  | .IsNot => match q with
    | .non => match p with
      | .non => Q false
      | _ => Q true
    | _ => False
  | .In => inA p q M Q
  | .NotIn => inA p q M fun b => Q (!b)
/-- a value's truth -/
def truA (p : PV) (M : MM) (Q : Bool → Prop) : Prop :=
  match p with
  | .non => Q false
  | .bl b => Q b
  | .int i => Q (i != 0)
  | .str s => s.length ≤ 1000000 ∧ Q (s.length != 0)
  | .tup xs => Q (!xs.isEmpty)
  | .ref a => match M a with
    | some (.lst xs) => Q (!xs.isEmpty)
    | _ => False
  | _ => False
def subA (p q : PV) (M : MM) (Q : KV1) : Prop :=
  match p, q with
  | .tup xs, .int i => match atI xs i with
    | some x => Q x M
    | none => False
  | .xl xs, .int i => match atI xs i with
    | some x => Q x M
    | none => False
  | .ref a, k => match M a with
    | some (.lst xs) => match k with
      | .int i => match atI xs i with
        | some x => Q x M
        | none => False
      | _ => False
    | some (.dct kvs) => match dGet kvs k with
      | some x => keyOk k = true ∧ Q x M
      | none => False
    | _ => False
  | .kd kvs, .str k => match kvs.lookup k with
    | some x => Q x M
    | none => False
  | _, _ => False
def cutP (xs : List PV) (lo hi : Option Int) : List PV := (xs.drop (HT.sIx xs.length 0 lo)).take (HT.sIx xs.length xs.length hi - HT.sIx xs.length 0 lo)
def slcA (p : PV) (lo hi : Option Int) (M : MM) (Q : KV1) : Prop :=
  match p with
  | .tup xs => Q (.tup (cutP xs lo hi)) M
  | .ref a => match M a with
    | some (.lst xs) => ∀ p, M p = none → Q (.ref p) (mput M p (.lst (cutP xs lo hi)))
    | _ => False
  | _ => False
/-- the strings of a list of texts -/
def strsOf : List PV → Option (List String)
  | [] => some []
  | .str s :: r => match strsOf r with
    | some ss => some (s :: ss)
    | none => none
  | _ :: _ => none
def blsOf : List PV → Option (List Bool)
  | [] => some []
  | .bl s :: r => match blsOf r with
    | some ss => some (s :: ss)
    | none => none
  | _ :: _ => none
/-- sorted texts, by insertion -/
def sIns (x : String) : List String → List String
  | [] => [x]
  | y :: r => if sLt y x = true then y :: sIns x r else x :: y :: r
def sSort : List String → List String
  | [] => []
  | x :: r => sIns x (sSort r)
def sortedT (ys : List String) : Bool := PyProof.Rows.sortedS (ys.map Str.ofString)
/-- the items of a list or a tuple -/
def seqA (p : PV) (M : MM) : Option (List PV) :=
  match p with
  | .tup xs => some xs
  | .xl xs => some xs
  | .ref a => match M a with
    | some (.lst xs) => some xs
    | _ => none
  | _ => none
def newL (xs : List PV) (M : MM) (Q : KV1) : Prop := ∀ p, M p = none → Q (.ref p) (mput M p (.lst xs))
def biA (f : String) (as : List PV) (M : MM) (Q : KV1) : Prop :=
  match f, as with
  | "len", [p] => match p with
    | .str s => s.length ≤ 1000000 ∧ Q (.int s.length) M
    | .tup xs => Q (.int xs.length) M
    | .xl xs => Q (.int xs.length) M
    | .kd kvs => Q (.int kvs.length) M
    | .ref a => match M a with
      | some (.lst xs) => Q (.int xs.length) M
      | some (.dct kvs) => Q (.int kvs.length) M
      | _ => False
    | _ => False
  | "list", [p] => match p with
    | .tup xs => newL xs M Q
    | .xl xs => newL xs M Q
    | .kd kvs => newL (kvs.map fun q => .str q.1) M Q
    | .ref a => match M a with
      | some (.lst xs) => newL xs M Q
      | some (.dct kvs) => newL (kvs.map (·.1)) M Q
      | _ => False
    | _ => False
  | "tuple", [p] => match p with
    | .tup xs => Q (.tup xs) M
    | .ref a => match M a with
      | some (.lst xs) => Q (.tup xs) M
      | _ => False
    | _ => False
  | "int", [p] => match p with
    | .int i => Q (.int i) M
    | .str s => s.length ≤ 640 ∧ ∃ n, PySem.intText? (Str.ofString s) = some n ∧ Q (.int n) M
    | _ => False
  | "str", [p] => match p with
    | .int i => i.natAbs < 1000 ∧ Q (.str (toString i)) M
    | _ => False
  | "min", [p, q] => match p, q with
    | .int i, .int j => Q (.int (if j < i then j else i)) M
    | _, _ => False
  | "max", [p, q] => match p, q with
    | .int i, .int j => Q (.int (if j > i then j else i)) M
    | _, _ => False
  | "all", [p] => match p with
    | .ref a => match M a with
      | some (.lst ps) => match blsOf ps with
        | some bs => Q (.bl (bs.all id)) M
        | none => False
      | _ => False
    | _ => False
  | "any", [p] => match p with
    | .ref a => match M a with
      | some (.lst ps) => match blsOf ps with
        | some bs => Q (.bl (bs.any id)) M
        | none => False
      | _ => False
    | _ => False
  | "sorted", [p] => match seqA p M with
    | some ps => match strsOf ps with
      | some ss => ss.length < 64 ∧ ∀ ys : List String, ys.Perm ss → sortedT ys = true → newL (ys.map .str) M Q
      | none => False
    | none => False
  | _, _ => False
/-- o[i] = v -/
def setA (o i v : PV) (M : MM) (k : MM → Prop) : Prop :=
  match o with
  | .ref a => match M a with
    | some (.lst xs) => match i with
      | .int n => match ixN xs.length n with
        | some j => k (mput M a (.lst (xs.set j v)))
        | none => False
      | _ => False
    | some (.dct kvs) => keyOk i = true ∧ kvs.length < sizeLine ∧ k (mput M a (.dct (dPut kvs i v)))
    | _ => False
  | _ => False
def augA (op : Operator) (p q : PV) (M : MM) (Q : KV1) : Prop :=
  match op, p, q with
  | .Add, .int i, .int j => Q (.int (i + j)) M
  | .Sub, .int i, .int j => Q (.int (i - j)) M
  | _, _, _ => False
/-- a value of a built-in type -/
def tyA (t : String) (o : PV) (M : MM) : Prop :=
  match o with
  | .ref a => match M a with
    | some (.lst _) => t = "list"
    | some (.dct _) => t = "dict"
    | _ => False
  | .tup _ => t = "tuple"
  | .str _ => t = "str"
  | _ => False
/-- texts: cut, glued, bare -/
def splC (c : Char) : List Char → List Char → List (List Char)
  | acc, [] => [acc]
  | acc, d :: r => if d = c then acc :: splC c [] r else splC c (acc ++ [d]) r
def splitS (c : Char) (s : String) : List String := (splC c [] s.toList).map String.ofList
def joinS (sep : String) : List String → String
  | [] => ""
  | [x] => x
  | x :: y :: r => x ++ (sep ++ joinS sep (y :: r))
def stripC (c : Char) (l : List Char) : List Char := ((l.dropWhile (· == c)).reverse.dropWhile (· == c)).reverse
def stripS (c : Char) (s : String) : String := String.ofList (stripC c s.toList)
/-- a built-in type's method -/
def bmA (t : String) (m : String) (o : PV) (as : List PV) (M : MM) (Q : KV1) : Prop :=
  match t, m, o, as with
  | "list", "append", .ref a, [p] => match M a with
    | some (.lst xs) => xs.length < sizeLine ∧ Q .non (mput M a (.lst (xs ++ [p])))
    | _ => False
  | "list", "extend", .ref a, [.ref b] => match M a, M b with
    | some (.lst xs), some (.lst ys) => xs.length + ys.length ≤ sizeLine ∧ Q .non (mput M a (.lst (xs ++ ys)))
    | _, _ => False
  | "list", "reverse", .ref a, [] => match M a with
    | some (.lst xs) => Q .non (mput M a (.lst xs.reverse))
    | _ => False
  | "list", "clear", .ref a, [] => match M a with
    | some (.lst xs) => Q .non (mput M a (.lst []))
    | _ => False
  | "list", "pop", .ref a, [] => match M a with
    | some (.lst xs) => match xs[xs.length - 1]? with
      | some x => Q x (mput M a (.lst xs.dropLast))
      | none => False
    | _ => False
  | "tuple", "index", .tup xs, [.str s] => match strsOf xs with
    | some ss => match ss.idxOf? s with
      | some j => Q (.int j) M
      | none => False
    | none => False
  | "str", "split", .str s, [.str sep] => match sep.toList with
    | [c] => c.toNat < 256 ∧ s.length ≤ 1000000 ∧ newL ((splitS c s).map .str) M Q
    | _ => False
  | "str", "strip", .str s, [.str sep] => match sep.toList with
    | [c] => s.length ≤ 1000000 ∧ Q (.str (stripS c s)) M
    | _ => False
  | "str", "join", .str s, [p] => match seqA p M with
    | some ps => match strsOf ps with
      | some ss => s.length ≤ 1000 ∧ (joinS s ss).length ≤ 100000 ∧ ss.length ≤ 1000 ∧ Q (.str (joinS s ss)) M
      | none => False
    | none => False
  | "dict", "get", .ref a, [k, d] => match M a with
    | some (.dct kvs) => keyOk k = true ∧ Q ((dGet kvs k).getD d) M
    | _ => False
  | "dict", "setdefault", .ref a, [k, d] => match M a with
    | some (.dct kvs) => keyOk k = true ∧ kvs.length < sizeLine ∧ match dGet kvs k with
      | some v => Q v M
      | none => Q d (mput M a (.dct (kvs ++ [(k, d)])))
    | _ => False
  | _, _, _, _ => False
def mdel (M : MM) (a : Addr) : MM := mput M a .lck
/-- what a loop walks: the items, what must stand at each turn, what comes back behind the loop, the store within it -/
abbrev RI := List PV → (MM → Prop) → (MM → MM) → MM → Prop
def itA (p : PV) (M : MM) (R : RI) : Prop :=
  match p with
  | .tup xs => R xs (fun _ => True) id M
  | .xl xs => R xs (fun _ => True) id M
  | .str s => R (s.toList.map fun c => .str (String.singleton c)) (fun _ => True) id M
  | .kd kvs => R (kvs.map fun q => .str q.1) (fun _ => True) id M
  | .ref a => match M a with
    | some (.lst xs) => R xs (fun M' => M' a = some (.lst xs)) id M
    | some (.dct kvs) => R (kvs.map (·.1)) (fun _ => True) (fun M' => mput M' a (.dct kvs)) (mdel M a)
    | _ => False
  | _ => False

/-- a field set -/
def putP (f : String) (v : PV) : List (String × PV) → List (String × PV)
  | [] => [(f, v)]
  | (g, x) :: r => if g = f then (g, v) :: r else (g, x) :: putP f v r
/-- the ends of a block -/
structure DD where
  nx : Sg → MM → Prop
  rt : KV1
  bk : Sg → MM → Prop := fun _ _ => False
  ct : Sg → MM → Prop := fun _ _ => False
/-- fewer things, fewer slots -/
def weakS (k : Sg → MM → Prop) (g : Sg) (M : MM) : Prop := ∃ g' M', SSub g' g ∧ Sub M' M ∧ k g' M'
def weakV (k : KV1) (p : PV) (M : MM) : Prop := ∃ M', Sub M' M ∧ k p M'

def forF (st : MM → Prop) (un : MM → MM) (bind : PV → Sg → MM → (Sg → MM → Prop) → Prop) (body : DD → Sg → MM → Prop) (D : DD) : List PV → Sg → MM → Prop
  | [], g, M => st M ∧ D.nx g (un M)
  | x :: r, g, M => st M ∧ bind x g M fun g2 M2 => body { nx := weakS (forF st un bind body D r), ct := weakS (forF st un bind body D r), bk := fun g M => D.nx g (un M), rt := fun v M => D.rt v (un M) } g2 M2
/-- a plain key -/
def simK : PV → Bool
  | .str _ => true
  | .int _ => true
  | _ => false
def newD (kvs : List (PV × PV)) (M : MM) (Q : KV1) : Prop := ∀ a, M a = none → Q (.ref a) (mput M a (.dct kvs))
/-- a dict comprehension's turns: D the dict that is being made -/
def dcF (st : MM → Prop) (bind : PV → Sg → MM → (Sg → MM → Prop) → Prop) (g : Sg) (test : RT) (ek ev : RE) (D : Addr) (k : List (PV × PV) → MM → Prop) : List PV → List (PV × PV) → MM → Prop
  | [], acc, M => st M ∧ k acc M
  | x :: r, acc, M => st M ∧ bind x g M fun g2 M2 => test g2 M2 fun b M3 => if b = true then
      ek g2 M3 fun y M4 => ev g2 M4 fun z M5 => simK y = true ∧ acc.length < 1000 ∧ M5 D = some (.kdc acc) ∧ dcF st bind g test ek ev D k r (dPut acc y z) (mput M5 D (.kdc (dPut acc y z)))
    else M3 D = some (.kdc acc) ∧ dcF st bind g test ek ev D k r acc M3
/-- is it of a built-in type -/
def isiA (t : String) (p : PV) (M : MM) (Q : Bool → Prop) : Prop :=
  match p with
  | .non => Q false
  | .bl _ => Q (t = "bool" || t = "int")
  | .int _ => Q (t = "int")
  | .str _ => Q (t = "str")
  | .tup _ => Q (t = "tuple")
  | .kd _ => Q (t = "dict")
  | .xl _ => Q (t = "list")
  | .ref a => match M a with
    | some (.lst _) => Q (t = "list")
    | some (.dct _) => Q (t = "dict")
    | _ => False
/-- a list comprehension's turns: D the new list -/
def lcF (st : MM → Prop) (bind : PV → Sg → MM → (Sg → MM → Prop) → Prop) (g : Sg) (test : RT) (elt : RE) (D : Addr) (k : MM → Prop) : List PV → List PV → MM → Prop
  | [], _, M => st M ∧ k M
  | x :: r, acc, M => st M ∧ bind x g M fun g2 M2 => test g2 M2 fun b M3 => if b = true then
      elt g2 M3 fun y M4 => M4 D = some (.lst acc) ∧ acc.length < sizeLine ∧ lcF st bind g test elt D k r (acc ++ [y]) (mput M4 D (.lst (acc ++ [y])))
    else M3 D = some (.lst acc) ∧ lcF st bind g test elt D k r acc M3

mutual
def tgSl : Tg → List Nat
  | .name i => [i]
  | .tup ts => tgsSl ts
  | .sub _ _ => []
def tgsSl : Tgs → List Nat
  | .nil => []
  | .cons t ts => tgSl t ++ tgsSl ts
end
def tgsLen : Tgs → Nat
  | .nil => 0
  | .cons _ ts => tgsLen ts + 1
/-- is it an instance of an own class -/
def iscA (Γ : Gm) (c : String) (p : PV) (M : MM) (Q : Bool → Prop) : Prop :=
  match p with
  | .non => Q false
  | .bl _ => Q false
  | .int _ => Q false
  | .str _ => Q false
  | .tup _ => Q false
  | .ref a => match M a with
    | some (.lst _) => Q false
    | some (.dct _) => Q false
    | some (.ins d _) => Γ.cl.contains d = true ∧ Q (decide (d = c))
    | _ => False
  | _ => False
/-- == by the left one's own __eq__ -/
def eqOA (Γ : Gm) (p q : PV) (M : MM) (Q : KV1) : Prop :=
  match p with
  | .ref a => match M a with
    | some (.ins c _) => Γ.cl.contains c = true ∧ (match q with
      | .ref b => match M b with
        | some (.ins d _) => d = c
        | some (.dct _) => True
        | some (.lst _) => True
        | _ => False
      | _ => False) ∧ match Γ.mt c "__eq__" with
      | some (n, k) => n = 2 ∧ k [p, q] M (fun v M1 => match v with
        | .bl b => Q (.bl b) M1
        | _ => False) fun _ _ => False
      | none => False
    | _ => False
  | _ => False
def qT (Q : Bool → MM → Prop) : KV1 := fun p M => match p with
  | .bl b => Q b M
  | _ => False
section
variable (Γ : Gm)
mutual
def runE : E → XW → RE
  | .var i, xk, g, M, Q => match g[i]? with
    | some (some p) => Q p M
    | _ => False
  | .glo x, xk, _, M, Q => match Γ.co x with
    | some p => Q p M
    | none => False
  | .int i, xk, _, M, Q => Q (.int i) M
  | .str s, xk, _, M, Q => Q (.str s) M
  | .bl b, xk, _, M, Q => Q (.bl b) M
  | .non, xk, _, M, Q => Q .non M
  | .bin op a b, xk, g, M, Q => runE a xk g M fun p M1 => runE b xk g M1 fun q M2 => binA op p q M2 Q
  | .neg a, xk, g, M, Q => runE a xk g M fun p M1 => match p with
    | .int i => Q (.int (-i)) M1
    | _ => False
  | .cmp op a b, xk, g, M, Q => runE a xk g M fun p M1 => runE b xk g M1 fun q M2 => cmpA op p q M2 fun r => Q (.bl r) M2
  | .chain o1 o2 a b c, xk, g, M, Q => runE a xk g M fun p M1 => runE b xk g M1 fun q M2 => cmpA o1 p q M2 fun r =>
      if r = true then runE c xk g M2 fun s M3 => cmpA o2 q s M3 fun r => Q (.bl r) M3 else Q (.bl false) M2
  | .notE a, xk, g, M, Q => runE a xk g M fun p M1 => truA p M1 fun b => Q (.bl (!b)) M1
  | .andE a b, xk, g, M, Q => runE a xk g M fun p M1 => match p with
    | .bl c => if c = true then runE b xk g M1 Q else Q (.bl false) M1
    | _ => False
  | .orE a b, xk, g, M, Q => runE a xk g M fun p M1 => match p with
    | .bl c => if c = true then Q (.bl true) M1 else runE b xk g M1 Q
    | _ => False
  | .one a, xk, g, M, Q => runE a xk g M Q
  | .ite c a b, xk, g, M, Q => runT c xk g M fun r M1 => if r = true then runE a xk g M1 Q else runE b xk g M1 Q
  | .tup es, xk, g, M, Q => runEs es xk g M fun ps M1 => ps.length ≤ sizeLine ∧ Q (.tup ps) M1
  | .lst es, xk, g, M, Q => runEs es xk g M fun ps M1 => ps.length ≤ sizeLine ∧ newL ps M1 Q
  | .dct ps, xk, g, M, Q => ∀ a, M a = none → runPs ps xk g (mput M a (.kdc [])) fun kvs M1 => kvs.length ≤ 15 ∧ kvs.all (fun q => simK q.1) = true ∧ M1 a = some (.kdc []) ∧ Q (.ref a) (mput M1 a (.dct (kvs.foldl (fun d q => dPut d q.1 q.2) [])))
  | .fld o f, xk, g, M, Q => runE o xk g M fun p M1 => match p with
    | .ref a => match M1 a with
      | some (.ins c fs) => match fs.lookup f with
        | some v => fieldOf c f = true ∧ Q v M1
        | none => False
      | _ => False
    | _ => False
  | .prop o f, xk, g, M, Q => runE o xk g M fun p M1 => match p with
    | .ref a => match M1 a with
      | some (.ins c _) => match Γ.pr c f with
        | some (n, k) => n = 1 ∧ k [.ref a] M1 Q fun _ _ => False
        | none => False
      | _ => False
    | _ => False
  | .sub a i, xk, g, M, Q => runE a xk g M fun p M1 => runE i xk g M1 fun q M2 => subA p q M2 Q
  | .slc a lo hi, xk, g, M, Q => runE a xk g M fun p M1 => runO lo xk g M1 fun l M2 => runO hi xk g M2 fun h M3 => slcA p l h M3 Q
  | .call f as, xk, g, M, Q => match Γ.fn f with
    | some (n, k) => runEs as xk g M fun ps M1 => ps.length = n ∧ k ps M1 Q fun x M2 => xk x g M2
    | none => False
  | .mk c as, xk, g, M, Q => match Γ.mkc c with
    | some (n, k) => runEs as xk g M fun ps M1 => ps.length + 1 = n ∧ ∀ a, M1 a = none → k (.ref a :: ps) (mput M1 a (.ins c [])) (fun v M2 => v = .non ∧ Q (.ref a) M2) fun x M2 => xk x g M2
    | none => False
  | .bi f as, xk, g, M, Q => runEs as xk g M fun ps M1 => biA f ps M1 Q
  | .isi x t, xk, g, M, Q => runE x xk g M fun p M1 => isiA t p M1 fun b => Q (.bl b) M1
  | .isc x c, xk, g, M, Q => Γ.cl.contains c = true ∧ runE x xk g M fun p M1 => iscA Γ c p M1 fun b => Q (.bl b) M1
  | .eqO a b, xk, g, M, Q => runE a xk g M fun p M1 => runE b xk g M1 fun q M2 => eqOA Γ p q M2 Q
  | .meth o m as, xk, g, M, Q => runE o xk g M fun p M1 => match p with
    | .ref a => match M1 a with
      | some (.ins c fs) => fs.lookup m = none ∧ match Γ.mt c m with
        | some (n, k) => runEs as xk g M1 fun ps M2 => ps.length + 1 = n ∧ k (.ref a :: ps) M2 Q fun x M3 => xk x g M3
        | none => False
      | _ => False
    | _ => False
  | .bm t o m as, xk, g, M, Q => runE o xk g M fun p M1 => tyA t p M1 ∧ runEs as xk g M1 fun ps M2 => bmA t m p ps M2 Q
  | .lc elt x it c own, xk, g, M, Q => runI it xk g M fun xs st un M1 => ∀ D, M1 D = none →
      lcF st (runTg x noX) (wipeG g (own.map (·.2))) (runC c noX) (runE elt noX) D (fun M2 => Q (.ref D) (un M2)) xs [] (mput M1 D (.lst []))
  | .lc2 elt x it x1 it1 c1 own vs1, xk, g, M, Q => False
  | .dc k v x it c own, xk, g, M, Q => runI it xk g M fun xs st un M1 => ∀ D, M1 D = none →
      dcF st (runTg x noX) (wipeG g (own.map (·.2))) (runC c noX) (runE k noX) (runE v noX) D (fun kvs M2 => ∃ M3, un M2 = M3 ∧ M3 D = some (.kdc kvs) ∧ Q (.ref D) (mput M3 D (.dct kvs))) xs [] (mput M1 D (.kdc []))
  | .srt e f, xk, g, M, Q => False
  | .tv _, _, _, _, _ => False
  | .never, _, _, _, _ => False
def runT : E → XW → RT
  | .notE a, xk, g, M, Q => runT a xk g M fun b M1 => Q (!b) M1
  | .andE a b, xk, g, M, Q => runT a xk g M fun c M1 => if c = true then runT b xk g M1 Q else Q false M1
  | .orE a b, xk, g, M, Q => runT a xk g M fun c M1 => if c = true then Q true M1 else runT b xk g M1 Q
  | .one a, xk, g, M, Q => runT a xk g M Q
  | .cmp op a b, xk, g, M, Q => runE a xk g M fun p M1 => runE b xk g M1 fun q M2 => cmpA op p q M2 fun r => Q r M2
  | .chain o1 o2 a b c, xk, g, M, Q => runE a xk g M fun p M1 => runE b xk g M1 fun q M2 => cmpA o1 p q M2 fun r =>
      if r = true then runE c xk g M2 fun s M3 => cmpA o2 q s M3 fun r => Q r M3 else Q false M2
  | .tv a, xk, g, M, Q => runE a xk g M fun p M1 => truA p M1 fun b => Q b M1
  | .eqO a b, xk, g, M, Q => runE a xk g M fun p M1 => runE b xk g M1 fun q M2 => eqOA Γ p q M2 (qT Q)
  | _, _, _, _, _ => False
def runEs : Es → XW → RA
  | .nil, xk, _, M, Q => Q [] M
  | .cons e es, xk, g, M, Q => runE e xk g M fun p M1 => runEs es xk g M1 fun ps M2 => Q (p :: ps) M2
  | .star e es, xk, g, M, Q => runE e xk g M fun p M1 => match seqA p M1 with
    | some qs => runEs es xk g M1 fun ps M2 => Q (qs ++ ps) M2
    | none => False
def runPs : Ps → XW → Sg → MM → (List (PV × PV) → MM → Prop) → Prop
  | .nil, xk, _, M, Q => Q [] M
  | .cons k v ps, xk, g, M, Q => runE k xk g M fun p M1 => runE v xk g M1 fun q M2 => runPs ps xk g M2 fun r M3 => Q ((p, q) :: r) M3
  | .star d ps, xk, g, M, Q => False
def runO : Oe → XW → Sg → MM → (Option Int → MM → Prop) → Prop
  | .none, xk, _, M, Q => Q none M
  | .some e, xk, g, M, Q => runE e xk g M fun p M1 => match p with
    | .int i => Q (some i) M1
    | _ => False
def runC : Oe → XW → RT
  | .none, xk, _, M, Q => Q true M
  | .some e, xk, g, M, Q => runT e xk g M Q
def runI : It → XW → Sg → MM → RI → Prop
  | .val e, xk, g, M, R => runE e xk g M fun p M1 => itA p M1 R
  | .rng1 a, xk, g, M, R => runE a xk g M fun p M1 => match p with
    | .int n => n ≤ 1000000000 ∧ -1000000000 ≤ n ∧ R ((List.range n.toNat).map fun (i : Nat) => PV.int i) (fun _ => True) id M1
    | _ => False
  | .rng2 a b, xk, g, M, R => False
  | .enum e, xk, g, M, R => runE e xk g M fun p M1 => match p with
    | .ref a => match M1 a with
      | some (.lst xs) => R (xs.zipIdx.map fun (x, i) => .tup [.int i, x]) (fun M' => M' a = some (.lst xs)) id M1
      | _ => False
    | _ => False
  | .zip a b, xk, g, M, R => runE a xk g M fun p M1 => runE b xk g M1 fun q M2 => match p, q with
    | .tup xs, .tup ys => R ((xs.zip ys).map fun z => .tup [z.1, z.2]) (fun _ => True) id M2
    | _, _ => False
  | .items e, xk, g, M, R => runE e xk g M fun p M1 => match p with
    | .ref a => match M1 a with
      | some (.dct kvs) => R (kvs.map fun q => .tup [q.1, q.2]) (fun _ => True) (fun M' => mput M' a (.dct kvs)) (mdel M1 a)
      | _ => False
    | _ => False
def runTg : Tg → XW → PV → Sg → MM → (Sg → MM → Prop) → Prop
  | .name i, xk, p, g, M, k => k (g.set i (some p)) M
  | .tup ts, xk, p, g, M, k => match p with
    | .tup ps => ps.length = tgsLen ts ∧ runTgs ts xk ps g M k
    | _ => False
  | .sub o i, xk, p, g, M, k => runE o xk g M fun q M1 => runE i xk g M1 fun r M2 => setA q r p M2 fun M3 => k g M3
def runTgs : Tgs → XW → List PV → Sg → MM → (Sg → MM → Prop) → Prop
  | .nil, xk, ps, g, M, k => match ps with
    | [] => k g M
    | _ => False
  | .cons t ts, xk, ps, g, M, k => match ps with
    | p :: ps => runTg t xk p g M fun g1 M1 => runTgs ts xk ps g1 M1 k
    | _ => False
end
end

section
variable (Γ : Gm) (xk : XV → Sg → MM → Prop)
mutual
def runS : S → DD → Sg → MM → Prop
  | .setl i elt x it c own, D, g, M => runE Γ (.lc elt x it c own) xk g M fun p M1 => D.nx (g.set i (some p)) M1
  | .setd i k v x it c own, D, g, M => runE Γ (.dc k v x it c own) xk g M fun p M1 => D.nx (g.set i (some p)) M1
  | .asg t e, D, g, M => runE Γ e xk g M fun p M1 => runTg Γ t xk p g M1 D.nx
  | .fld o f e, D, g, M => runE Γ e xk g M fun v M1 => runE Γ o xk g M1 fun p M2 => match p with
    | .ref a => match M2 a with
      | some (.ins c fs) => fs.length < 900 ∧ fieldOf c f = true ∧ D.nx g (mput M2 a (.ins c (putP f v fs)))
      | _ => False
    | _ => False
  | .par2 i j a b, D, g, M => runE Γ a xk g M fun p M1 => runE Γ b xk g M1 fun q M2 => D.nx ((g.set i (some p)).set j (some q)) M2
  | .par3 i j k a b c, D, g, M => runE Γ a xk g M fun p M1 => runE Γ b xk g M1 fun q M2 => runE Γ c xk g M2 fun r M3 => D.nx (((g.set i (some p)).set j (some q)).set k (some r)) M3
  | .aug i op e, D, g, M => match g[i]? with
    | some (some p) => runE Γ e xk g M fun q M1 => augA op p q M1 fun r M2 => D.nx (g.set i (some r)) M2
    | _ => False
  | .augF o f op e, D, g, M => runE Γ o xk g M fun p M1 => match p with
    | .ref a => match M1 a with
      | some (.ins c fs) => match fs.lookup f with
        | some v => fieldOf c f = true ∧ runE Γ e xk g M1 fun q M2 => augA op v q M2 fun r M3 => match M3 a with
          | some (.ins c' fs') => c' = c ∧ fs'.length < 900 ∧ D.nx g (mput M3 a (.ins c (putP f r fs')))
          | _ => False
        | none => False
      | _ => False
    | _ => False
  | .expr e, D, g, M => runE Γ e xk g M fun _ M1 => D.nx g M1
  | .ret e, D, g, M => runE Γ e xk g M fun p M1 => D.rt p M1
  | .retN, D, g, M => D.rt .non M
  | .ifS c t f, D, g, M => runT Γ c xk g M fun b M1 => if b = true then runSs t D g M1 else runSs f D g M1
  | .whileS c b, D, g, M => ∃ W : Nat → Sg → MM → Prop, (∃ m, W m g M) ∧ ∀ m g M, W m g M → runT Γ c xk g M fun r M1 =>
      if r = true then runSs b { D with nx := weakS fun g' M' => ∃ m', m' < m ∧ W m' g' M', ct := weakS fun g' M' => ∃ m', m' < m ∧ W m' g' M', bk := D.nx } g M1 else D.nx g M1
  | .forS x it b, D, g, M => runI Γ it xk g M fun xs st un M1 => forF st un (runTg Γ x xk) (runSs b) D xs g M1
  | .pass, D, g, M => D.nx g M
  | .cont, D, g, M => D.ct g M
  | .brk, D, g, M => D.bk g M
  | .never, _, _, _ => False
  | .raise c as, D, g, M => False
  | .matchS e cs, D, g, M => runE Γ e xk g M fun p M1 => match p with
    | .str s => runCs cs s D g M1
    | _ => False
def runSs : Ss → DD → Sg → MM → Prop
  | .nil, D, g, M => D.nx g M
  | .cons s ss, D, g, M => runS s { D with nx := fun g' M' => runSs ss D g' M' } g M
def runCs : Cs → String → DD → Sg → MM → Prop
  | .nil, _, D, g, M => D.nx g M
  | .cons x b cs, s, D, g, M => if s = x then runSs b D g M else runCs cs s D g M
end
end
end Rx
end

section
set_option maxHeartbeats 4000000
/-! Rx: that a text of the program is a syntax without places. -/
namespace Rx
open PySem L2
abbrev so (s : String) : Str := Str.ofString s
def glb (sc : Scope) (x : Str) : Bool := decide (sc.names.lookup x = some .globalImplicit)
def visB (sc : Scope) (x : Str) : Bool := match sc.names.lookup x with
  | some .local => true
  | some .cell => true
  | some .free => true
  | _ => false
def locB (sc : Scope) (x : Str) : Bool := match sc.names.lookup x with
  | some .local => true
  | some .cell => true
  | _ => false
def biNames : List String := ["len", "list", "tuple", "int", "min", "max", "all", "any", "sorted", "str", "isinstance", "range", "enumerate", "zip", "dict", "bool", "set"]
def biCalls : List String := ["len", "list", "tuple", "int", "min", "max", "all", "any", "sorted", "str"]
def bmCalls : List (String × String) := [("list", "append"), ("list", "extend"), ("list", "reverse"), ("list", "clear"), ("list", "pop"), ("tuple", "index"), ("str", "split"), ("str", "strip"), ("str", "join")]
def isiT : List String := ["int", "bool", "str", "tuple", "dict", "list"]
def nmOk (x : Str) : Bool := !(x == so "__debug__") && !(x == so "__classdict__") && !(x == so "__name__")
/-- not super() -/
def plainO : Expr → Bool
  | .Call (.Name _ _) [] [] _ => false
  | _ => true
def notStar : Expr → Bool
  | .Starred _ _ => false
  | _ => true
def notSet : Expr → Bool
  | .Set _ _ _ => false
  | _ => true
def notSlice : Expr → Bool
  | .Slice _ _ _ _ => false
  | _ => true
def notComp : Expr → Bool
  | .ListComp _ _ _ _ => false
  | .SetComp _ _ _ _ => false
  | .DictComp _ _ _ _ _ => false
  | _ => true
def blkF (scope : Scope) (x : Str) : Bool := scope.names.lookup x == some .cell
def isPl : Expr → Bool
  | .UnaryOp .Not _ _ => false
  | .BoolOp _ _ _ => false
  | .IfExp _ _ _ _ => false
  | .Compare _ _ _ _ => false
  | _ => true
mutual
def okE (N : List Str) (sc : Scope) (F : Str → Bool) : E → Expr → Bool
  | .var i, .Name x _ => decide (N[i]? = some x) && visB sc x && nmOk x
  | .glo x, .Name y _ => decide (y = so x) && glb sc y && nmOk y
  | .int i, .Constant (.int j) _ _ => decide (i = j)
  | .str s, .Constant (.str x) _ _ => decide (so s = x)
  | .bl b, .Constant (.bool c) _ _ => decide (b = c)
  | .non, .Constant .none _ _ => true
  | .bin op a b, .BinOp x o y _ => decide (op = o) && (okE N sc F a x && okE N sc F b y)
  | .neg a, .UnaryOp .USub x _ => okE N sc F a x
  | .cmp op a b, .Compare x [o] [y] _ => (decide (op = o) && notSet y) && (okE N sc F a x && okE N sc F b y)
  | .chain o1 o2 a b c, .Compare x [p1, p2] [y, z] _ => ((decide (o1 = p1) && decide (o2 = p2)) && (notSet y && notSet z)) && (okE N sc F a x && (okE N sc F b y && okE N sc F c z))
  | .notE a, .UnaryOp .Not x _ => okE N sc F a x
  | .andE a b, .BoolOp .And (x :: y :: r) p => okE N sc F a x && okE N sc F b (.BoolOp .And (y :: r) p)
  | .orE a b, .BoolOp .Or (x :: y :: r) p => okE N sc F a x && okE N sc F b (.BoolOp .Or (y :: r) p)
  | .one a, .BoolOp _ [x] _ => okE N sc F a x
  | .ite c a b, .IfExp x y z _ => okE N sc F c x && (okE N sc F a y && okE N sc F b z)
  | .tup es, .Tuple xs _ _ => okEs N sc F es xs
  | .lst es, .List xs _ => okEs N sc F es xs
  | .dct ps, .Dict ks vs _ => decide (ks.length ≤ 15) && okPs N sc F ps ks vs
  | .fld o f, .Attribute x y _ => (decide (y = so f) && plainO x) && okE N sc F o x
  | .prop o f, .Attribute x y _ => (decide (y = so f) && plainO x) && okE N sc F o x
  | .sub a i, .Subscript x y _ => notSlice y && (okE N sc F a x && okE N sc F i y)
  | .slc a lo hi, .Subscript x (.Slice l h none _) _ => okE N sc F a x && (okO N sc F lo l && okO N sc F hi h)
  | .call f as, .Call (.Name y _) xs [] _ => ((decide (y = so f) && glb sc y) && (nmOk y && xs.all notStar)) && okEs N sc F as xs
  | .mk f as, .Call (.Name y _) xs [] _ => ((decide (y = so f) && glb sc y) && (nmOk y && xs.all notStar)) && okEs N sc F as xs
  | .bi f as, .Call (.Name y _) xs [] _ => ((decide (y = so f) && glb sc y) && ((nmOk y && xs.all notStar) && (biCalls.contains f && !xs.isEmpty))) && okEs N sc F as xs
  | .isi x t, .Call (.Name y _) [e, .Name z _] [] _ => (((decide (y = so "isinstance") && glb sc y) && (decide (z = so t) && glb sc z)) && ((nmOk z && notStar e) && isiT.contains t)) && okE N sc F x e
  | .isc x t, .Call (.Name y _) [e, .Name z _] [] _ => (((decide (y = so "isinstance") && glb sc y) && (decide (z = so t) && glb sc z)) && (nmOk z && notStar e)) && okE N sc F x e
  | .eqO a b, .Compare x [o] [y] _ => (decide (o = .Eq) && notSet y) && (okE N sc F a x && okE N sc F b y)
  | .meth o m as, .Call (.Attribute x y ap) xs [] p => ((decide (y = so m) && plainO x) && ((decide (ap.endLine = p.line) && decide (xs.length < 29)) && xs.all notStar)) && (okE N sc F o x && okEs N sc F as xs)
  | .bm t o m as, .Call (.Attribute x y ap) xs [] p => (((decide (y = so m) && bmCalls.contains (t, m)) && plainO x) && ((decide (ap.endLine = p.line) && decide (xs.length < 29)) && xs.all notStar)) && (okE N sc F o x && okEs N sc F as xs)
  | .lc elt x it c own, .ListComp e [⟨t, i, ifs, 0⟩] scope _ =>
      ((blkC N sc scope (own.map fun p => (so p.1, p.2)) && (tgSl x).all fun i => (own.map (·.2)).contains i) && (okI N sc F it x t i && okTg N (relS scope sc) (blkF scope) x t)) && (okC N (relS scope sc) (blkF scope) c ifs && okE N (relS scope sc) (blkF scope) elt e)
  | .dc k v x it c own, .DictComp ke ve [⟨t, i, ifs, 0⟩] scope _ =>
      (((blkC N sc scope (own.map fun p => (so p.1, p.2)) && (tgSl x).all fun i => (own.map (·.2)).contains i) && (okI N sc F it x t i && okTg N (relS scope sc) (blkF scope) x t)) && okC N (relS scope sc) (blkF scope) c ifs) && (okE N (relS scope sc) (blkF scope) k ke && okE N (relS scope sc) (blkF scope) v ve)
  | .tv a, x => isPl x && okE N sc F a x
  | .never, _ => true
  | _, _ => false
def okEs (N : List Str) (sc : Scope) (F : Str → Bool) : Es → List Expr → Bool
  | .nil, [] => true
  | .cons e es, x :: xs => notStar x && (okE N sc F e x && okEs N sc F es xs)
  | .star e es, .Starred x _ :: xs => okE N sc F e x && okEs N sc F es xs
  | _, _ => false
def okPs (N : List Str) (sc : Scope) (F : Str → Bool) : Ps → List (Option Expr) → List Expr → Bool
  | .nil, [], [] => true
  | .cons k v ps, some x :: ks, y :: vs => okE N sc F k x && (okE N sc F v y && okPs N sc F ps ks vs)
  | _, _, _ => false
def okO (N : List Str) (sc : Scope) (F : Str → Bool) : Oe → Option Expr → Bool
  | .none, none => true
  | .some e, some x => okE N sc F e x
  | _, _ => false
def okC (N : List Str) (sc : Scope) (F : Str → Bool) : Oe → List Expr → Bool
  | .none, [] => true
  | .some e, [x] => okE N sc F e x
  | _, _ => false
def okI (N : List Str) (sc : Scope) (F : Str → Bool) : It → Tg → Expr → Expr → Bool
  | .val e, _, t, x => notSet x && okE N sc F e x
  | .rng1 a, _, t, .Call (.Name y _) [x] [] _ => (decide (y = so "range") && glb sc y) && (notStar x && okE N sc F a x)
  | .enum a, .tup _, .Tuple _ _ _, .Call (.Name y _) [x] [] _ => (decide (y = so "enumerate") && glb sc y) && (notStar x && okE N sc F a x)
  | .zip a b, .tup _, .Tuple _ _ _, .Call (.Name y _) [x, z] [] _ => ((decide (y = so "zip") && glb sc y) && (notStar x && notStar z)) && (okE N sc F a x && okE N sc F b z)
  | .items e, .tup _, .Tuple _ _ _, .Call (.Attribute x y ap) [] [] p => ((decide (y = so "items") && plainO x) && decide (ap.endLine = p.line)) && okE N sc F e x
  | _, _, _, _ => false
def okTg (N : List Str) (sc : Scope) (F : Str → Bool) : Tg → Expr → Bool
  | .name i, .Name x _ => decide (N[i]? = some x) && (decide (sc.names.lookup x = some .local) || (decide (sc.names.lookup x = some .cell) && F x))
  | .tup ts, .Tuple xs _ _ => (decide (tgsLen ts = xs.length) && xs.all notStar) && okTgs N sc F ts xs
  | .sub o i, .Subscript x y _ => notSlice y && (okE N sc F o x && okE N sc F i y)
  | _, _ => false
def okTgs (N : List Str) (sc : Scope) (F : Str → Bool) : Tgs → List Expr → Bool
  | .nil, [] => true
  | .cons t ts, x :: xs => notStar x && (okTg N sc F t x && okTgs N sc F ts xs)
  | _, _ => false
end
end Rx
end

section
set_option maxHeartbeats 4000000
/-! Rx: operations over trees are borne out. -/
namespace Rx
open PySem L2
theorem so_inj {a b : String} (h : Str.ofString a = Str.ofString b) : a = b := by
  rw [Str.ofString_eq_toList, Str.ofString_eq_toList] at h
  have h1 : (a.toList.map Char.toNat).toArray = (b.toList.map Char.toNat).toArray := by injection h
  have h2 : a.toList.map Char.toNat = b.toList.map Char.toNat := by simpa using congrArg Array.toList h1
  have inj : ∀ c d : Char, c.toNat = d.toNat → c = d := fun c d e => Char.ext (UInt32.toNat_inj.mp e)
  have h3 : ∀ (x y : List Char), x.map Char.toNat = y.map Char.toNat → x = y := by
    intro x
    induction x with
    | nil => intro y e; cases y <;> simp_all
    | cons c r ih =>
      intro y e
      cases y with
      | nil => simp at e
      | cons d t =>
        simp only [List.map_cons, List.cons.injEq] at e
        rw [inj c d e.1, ih t e.2]
  have h4 := h3 _ _ h2
  exact String.toList_inj.mp h4
theorem so_len (s : String) : (Str.ofString s).length = s.length := by
  rw [Str.ofString_eq_toList]
  unfold Str.length
  simp [String.length_toList]
theorem so_iff (a b : String) : (Str.ofString a = Str.ofString b) = (a = b) := propext ⟨so_inj, fun e => e ▸ rfl⟩
theorem so_beq (a b : String) : (Str.ofString a == Str.ofString b) = decide (a = b) := by
  rw [Bool.eq_iff_iff]; simp [so_iff]
theorem int_beq (a b : Int) : (a == b) = decide (a = b) := by
  rw [Bool.eq_iff_iff]; simp
theorem bl_beq (a b : Bool) : (a == b) = decide (a = b) := by
  rw [Bool.eq_iff_iff]; simp
theorem so_app (s t : String) : Str.ofString s ++ Str.ofString t = Str.ofString (s ++ t) := by
  rw [Str.ofString_eq_toList, Str.ofString_eq_toList, Str.ofString_eq_toList]
  show Str.append _ _ = _
  unfold Str.append
  simp
abbrev gOf (X : Cx) (ca : String → Addr) : Gw := ⟨X.w, ca, X.K⟩
/-- what an operation over values is to hand on -/
def Hands (G : Gw) (H : Hp) (Qa : KV1) (Q : VK) : Prop := ∀ p M' v H', HRep G.w G.ca G.K M' H' → Rep G.K H' p v → Keep H H' → Qa p M' → Q v H'
theorem Hands.mono {G : Gw} {H H1 : Hp} {Qa : KV1} {Q : VK} (h : Hands G H Qa Q) (k : Keep H H1) : Hands G H1 Qa Q := fun p M' v H' a b c d => h p M' v H' a b (k.trans c) d
def lift2 (G : Gw) (r : PV → PV → MM → KV1 → Prop) : R2 := fun v w H Q => ∃ p q M Qa, HRep G.w G.ca G.K M H ∧ Rep G.K H p v ∧ Rep G.K H q w ∧ r p q M Qa ∧ Hands G H Qa Q
def liftC (G : Gw) (r : List PV → MM → KV1 → Prop) : List V → Hp → VK → Prop := fun vs H Q => ∃ ps M Qa, HRep G.w G.ca G.K M H ∧ Reps G.K H ps vs ∧ r ps M Qa ∧ Hands G H Qa Q
def liftM (G : Gw) (r : PV → List PV → MM → KV1 → Prop) : V → List V → Hp → VK → Prop := fun v vs H Q => ∃ p ps M Qa, HRep G.w G.ca G.K M H ∧ Rep G.K H p v ∧ Reps G.K H ps vs ∧ r p ps M Qa ∧ Hands G H Qa Q
/-- a new tuple -/
theorem Hands.tup {G : Gw} {H : Hp} {Qa : KV1} {Q : VK} (h : Hands G H Qa Q) {M : MM} {ps : List PV} {vs : List V} {us : List Value} {n : Nat} {p : Addr} (hM : HRep G.w G.ca G.K M H) (r : Reps G.K H ps vs) (e : H p = none) (q : Qa (.tup ps) M) : Q (.ref p) (upd H p (.frz (tupO us n) (.tup vs))) :=
  h _ M _ _ (hM.new0 e) (.tup (.inl ⟨_, upd_same, rfl, rfl⟩) (r.keep (.new e))) (.new e) q
/-- a new list -/
theorem Hands.lst {G : Gw} {H : Hp} {Qa : KV1} {Q : VK} (h : Hands G H Qa Q) {M : MM} {ps : List PV} {vs : List V} {p : Addr} (hM : HRep G.w G.ca G.K M H) (r : Reps G.K H ps vs) (e : H p = none) (q : newL ps M Qa) : Q (.ref p) (upd H p (.lst vs)) :=
  h _ _ _ _ (hM.new (u := .lst ps) e ⟨vs, upd_same, r.keep (.new e)⟩) (.ref p) (.new e) (q p (hM.fresh e))
/-- a list changed -/
theorem Hands.set {G : Gw} {H : Hp} {Qa : KV1} {Q : VK} (h : Hands G H Qa Q) {M : MM} {qs : List PV} {vs ws : List V} {a : Addr} {p : PV} {v : V} (hM : HRep G.w G.ca G.K M H) (ha : H a = some (.lst vs)) (r : Reps G.K H qs ws) (rp : Rep G.K H p v) (q : Qa p (mput M a (.lst qs))) :
    Q v (upd H a (.lst ws)) :=
  h p _ v _ (hM.set (u := .lst qs) ha rfl ⟨ws, upd_same, r.keep (.set ha rfl)⟩) (rp.keep (.set ha rfl)) (.set ha rfl) q

section
variable {X : Cx} {ca : String → Addr}
mutual
theorem deep_dp {K : PySem.W.Frag} {w : World} {H : Hp} {M : MM} (hM : HRep w ca K M H) : ∀ {p : PV} {d : PyData} {v : V}, Deep M p d → Rep K H p v → Dp K H v d
  | _, _, _, .non, r => by cases r; exact .non
  | _, _, _, .bl b, r => by cases r; exact .bl b
  | _, _, _, .int i, r => by cases r; exact .int i
  | _, _, _, .str s, r => by cases r; exact .str _
  | _, _, _, .tup h, r => by
    cases r with
    | tup t rs => exact .tup t.sq (deep_dpA hM h rs)
  | _, _, _, .lst e h, r => by
    cases r with
    | ref a =>
      obtain ⟨vs, h1, h2⟩ := hM.lst e
      exact .lst (SqL.of h1) (deep_dpA hM h h2)
  | _, _, _, .xl h, r => by
    cases r with
    | xl t rs => exact .lst t.sq (deep_dpA hM h rs)
theorem deep_dpA {K : PySem.W.Frag} {w : World} {H : Hp} {M : MM} (hM : HRep w ca K M H) : ∀ {p : List PV} {d : List PyData} {v : List V}, DeepAll M p d → Reps K H p v → DpAll K H v d
  | _, _, _, .nil, r => by cases r; exact .nil
  | _, _, _, .cons h t, r => by
    cases r with
    | cons a b => exact .cons (deep_dp hM h a) (deep_dpA hM t b)
end
theorem sEq_v {K : PySem.W.Frag} {H : Hp} {p q : PV} {v w : V} {b : Bool} (r1 : Rep K H p v) (r2 : Rep K H q w) (h : sEq p q = some b) : scal v w = true ∧ decide (v = w) = b ∧ eqV v w = b ∧ flatV v = true ∧ flatV w = true := by
  unfold sEq at h
  split at h <;> first
    | cases h
    | skip
  all_goals (cases r1; cases r2)
  all_goals (refine ⟨rfl, ?_, ?_, rfl, rfl⟩ <;> simp_all [eqV, so_iff, so_beq, int_beq, bl_beq])
theorem sMem_v {K : PySem.W.Frag} {H : Hp} {x : PV} {v : V} (rx : Rep K H x v) : ∀ {ps : List PV} {vs : List V} {b : Bool}, Reps K H ps vs → sMem x ps = some b → flatV v = true ∧ vs.all flatV = true ∧ inV v vs = b
  | [], _, b, r, h => by
    cases r
    cases x <;> simp only [sMem] at h <;> first
      | (cases h; cases rx; exact ⟨rfl, rfl, rfl⟩)
      | cases h
  | p :: ps, _, b, r, h => by
    cases r with
    | @cons _ _ u us a t =>
      simp only [sMem] at h
      split at h
      · rename_i c d h1 h2
        obtain ⟨e1, e2, e3⟩ := sMem_v rx t h2
        obtain ⟨s1, s2, s3, s4, s5⟩ := sEq_v a rx h1
        refine ⟨e1, by simp [e2, s4], ?_⟩
        unfold inV at e3 ⊢
        rw [List.any_cons, e3, s3]
        exact Option.some.inj h
      · cases h
end
end Rx
end

section
set_option maxHeartbeats 4000000
/-! Rx: texts as Strings: cut, glued, bare, by a number. -/
namespace Rx
open PySem PySem.Builtin PySem.Builtin.Str L2 TL
theorem nat_inj {c d : Char} (e : c.toNat = d.toNat) : c = d := Char.ext (UInt32.toNat_inj.mp e)
theorem one_so {s : String} {c : Char} (h : s.toList = [c]) : so s = ⟨#[c.toNat]⟩ := by
  show Str.ofString s = _
  rw [Str.ofString_eq_toList, h]; rfl
theorem tl_so (s : String) : tl (so s) = s.toList.map Char.toNat := tl_ofString s
theorem so_ofList (l : List Char) : tl (so (String.ofList l)) = l.map Char.toNat := by
  rw [tl_so, String.toList_ofList]
theorem splC_spl (c : Char) : ∀ (l acc : List Char), spl [c.toNat] 0 (acc.map Char.toNat) (l.map Char.toNat) = (splC c acc l).map (fun z => z.map Char.toNat)
  | [], acc => rfl
  | d :: r, acc => by
    have ih1 := splC_spl c r []
    have ih2 := splC_spl c r (acc ++ [d])
    show (if pre [c.toNat] (d.toNat :: r.map Char.toNat) = true then acc.map Char.toNat :: spl [c.toNat] 0 [] (r.map Char.toNat) else spl [c.toNat] 0 (acc.map Char.toNat ++ [d.toNat]) (r.map Char.toNat)) = _
    have e : pre [c.toNat] (d.toNat :: r.map Char.toNat) = decide (d = c) := by
      unfold pre
      rw [Bool.eq_iff_iff]
      simp only [List.length_singleton, List.take_succ_cons, List.take_zero, beq_iff_eq, List.cons.injEq, and_true, decide_eq_true_eq]
      exact ⟨nat_inj, fun e => e ▸ rfl⟩
    rw [e]
    unfold splC
    by_cases h : d = c
    · rw [decide_eq_true h, if_pos rfl, if_pos h, List.map_cons]
      exact congrArg _ ih1
    · rw [decide_eq_false h, if_neg Bool.false_ne_true, if_neg h, ← ih2, List.map_append]
      rfl
theorem split_so {sep : String} {c : Char} (h : sep.toList = [c]) (hc : c.toNat < 256) (s : String) : Txt.split (so s) (so sep) = (splitS c s).map so := by
  refine map_tl_inj ?_
  have e : tl (so sep) = [c.toNat] := by rw [tl_so, h]; rfl
  rw [split_spl _ _ (by rw [e]; simp) (kind_ok (by rw [one_so h]; simpa using hc)), e, tl_so, List.map_map]
  have k := splC_spl c s.toList []
  rw [List.map_nil] at k
  rw [k]
  unfold splitS
  rw [List.map_map]
  refine List.map_congr_left fun l _ => ?_
  exact (so_ofList l).symm
theorem strip_core (p : Nat → Bool) (x : Str) : tl (Txt.stripBy p true true x) = (((tl x).dropWhile p).reverse.dropWhile p).reverse := by
  have core : ((tl x).drop (stripLo p true x)).take (stripHi p true x (stripLo p true x) - stripLo p true x) = (((tl x).dropWhile p).reverse.dropWhile p).reverse := by
    unfold stripHi stripLo
    simp only [if_true]
    have d : (tl x).drop ((tl x).takeWhile p).length = (tl x).dropWhile p := by
      have t := List.takeWhile_append_dropWhile (p := p) (l := tl x)
      conv => lhs; arg 2; rw [← t]
      rw [List.drop_left]
    rw [d, len_tl]
    generalize hD : (tl x).dropWhile p = D
    have hl : (tl x).length = ((tl x).takeWhile p).length + D.length := by
      conv => lhs; rw [← List.takeWhile_append_dropWhile (p := p) (l := tl x)]
      rw [List.length_append, hD]
    have e : (tl x).length - (D.reverse.takeWhile p).length - ((tl x).takeWhile p).length = D.length - (D.reverse.takeWhile p).length := by omega
    rw [e]
    have t := List.takeWhile_append_dropWhile (p := p) (l := D.reverse)
    have f : D = (D.reverse.dropWhile p).reverse ++ (D.reverse.takeWhile p).reverse := by
      rw [← List.reverse_append, t, List.reverse_reverse]
    have g : D.length - (D.reverse.takeWhile p).length = (D.reverse.dropWhile p).reverse.length := by
      have := congrArg List.length f
      rw [List.length_append, List.length_reverse, List.length_reverse] at this
      rw [List.length_reverse]; omega
    rw [g]
    conv => lhs; arg 2; rw [f]
    rw [List.take_left]
  unfold Txt.stripBy
  split
  · rename_i h
    unfold stripSame at h
    simp only [Bool.and_eq_true, beq_iff_eq] at h
    rw [← core, h.2, h.1, List.drop_zero, Nat.sub_zero, len_tl, List.take_length]
  · rw [← core]
    show tl (strSub x _ _) = _
    rw [tl_strSub]
theorem dropWhile_map' {f : Char → Nat} {p : Nat → Bool} : ∀ l : List Char, (l.map f).dropWhile p = (l.dropWhile (fun c => p (f c))).map f
  | [] => rfl
  | a :: l => by
    rw [List.map_cons, List.dropWhile_cons, List.dropWhile_cons]
    split
    · exact dropWhile_map' l
    · rfl
theorem strip_so {sep : String} {c : Char} (h : sep.toList = [c]) (s : String) : Txt.stripChars (so s) (so sep) = so (stripS c s) := by
  refine ext_tl ?_
  unfold stripS
  rw [so_ofList]
  unfold Txt.stripChars
  rw [strip_core, tl_so, one_so h]
  unfold stripC
  have e : ∀ d : Char, (#[c.toNat] : Array Nat).contains d.toNat = (d == c) := fun d => by
    rw [Bool.eq_iff_iff]
    simp only [Array.contains_eq_mem, List.mem_toArray, decide_eq_true_eq, beq_iff_eq]
    simp only [List.mem_singleton]
    exact ⟨nat_inj, fun e => e ▸ rfl⟩
  rw [dropWhile_map', ← List.map_reverse, dropWhile_map', ← List.map_reverse]
  simp only [e]
theorem join_so (sep : String) : ∀ ss : List String, Str.join (so sep) (ss.map so) = so (joinS sep ss)
  | [] => rfl
  | [_] => rfl
  | x :: y :: r => by
    have ih := join_so sep (y :: r)
    show so x ++ so sep ++ Str.join (so sep) ((y :: r).map so) = so (x ++ (sep ++ joinS sep (y :: r)))
    rw [ih]
    show _ = Str.ofString _
    rw [← so_app, ← so_app]
    show so x ++ so sep ++ so (joinS sep (y :: r)) = so x ++ (so sep ++ so (joinS sep (y :: r)))
    refine ext_tl ?_
    rw [tl_append, tl_append, tl_append, tl_append, List.append_assoc]
theorem join_sum (sep : String) : ∀ ss : List String, (ss.map String.length).sum ≤ (joinS sep ss).length
  | [] => Nat.zero_le _
  | [x] => by simp [joinS]
  | x :: y :: r => by
    have ih := join_sum sep (y :: r)
    rw [List.map_cons, List.sum_cons]
    unfold joinS
    rw [String.length_append, String.length_append]
    omega
theorem mul_so {s : String} {c : Char} (h : s.toList = [c]) (k : Int) : Txt.mul (so s) k = so (String.ofList (List.replicate k.toNat c)) := by
  refine ext_tl ?_
  rw [so_ofList, one_so h]
  show (Txt.mul ⟨#[c.toNat]⟩ k).cps.toList = _
  rw [PyProof.Rows.mul_one_list, List.map_replicate]
theorem mul_ok {s : String} {c : Char} (h : s.toList = [c]) {k : Int} (h0 : 0 ≤ k) (h1 : k ≤ 1000) : MulOk (so s) k := by
  have l : (so s).length = 1 := by rw [one_so h]; rfl
  refine ⟨?_, fun a _ => ?_, fun a _ => ?_⟩
  · have e1 : ¬ k < -(2 ^ 63 : Int) := by omega
    have e2 : ¬ k ≥ 2 ^ 63 := by omega
    rw [decide_eq_false e1, decide_eq_false e2]; rfl
  · rw [l]
    intro z
    have : (1 : Int) ≤ (2 ^ 63 - 1) / k := by
      rw [Int.le_ediv_iff_mul_le (by omega)]
      omega
    omega
  · rw [l, Nat.one_mul]
    unfold tooLong
    have : k.toNat ≤ 1000 := by omega
    simp only [decide_eq_false_iff_not]
    rw [sizeLine_eq]; omega
theorem op_mulS {X : Cx} : OpR X (binaryOp .Mult) (fun x y H Q => ∃ (s : String) (c : Char) (k : Int), x = .str (so s) ∧ y = .int k ∧ s.toList = [c] ∧ 0 ≤ k ∧ k ≤ 1000 ∧ Q (.str (so (String.ofList (List.replicate k.toNat c)))) H) := by
  intro pins s σ H x y v u Q I rx ry ⟨z, c, k, hx, hy, h, h0, h1, q⟩
  subst hx; subst hy
  obtain ⟨t, rfl⟩ := rx
  obtain ⟨t2, rfl⟩ := ry
  refine SB.mul (mul_ok h h0 h1) fun t' tk => ?_
  rw [mul_so h]
  exact ⟨.str _, H, I.tok tk, ⟨t', rfl⟩, q⟩
end Rx
end

section
set_option maxHeartbeats 4000000
/-! Rx: new tuples, told with their objects. -/
namespace Rx
open PySem PySem.Spec PyProof.Rows L2 PySem.W
section
variable {X : Cx} {pins : List (Addr × Obj)} {σ : L2.St} {H : Hp} {s : Shared}
/-- a new tuple laid -/
theorem tup_new (I : L2.Inv X pins σ H s) {xs : List V} {us : List Value} (r : Vals xs us) (hz : xs.length ≤ sizeLine) {t' : Nat} :
    L2.Inv X pins σ (upd H s.heap.objs.size (.frz (tupO us 0) (.tup xs))) { s with heap := s.heap.push { cls := .type "tuple", data := .seq us.toArray }, toks := t' } := by
  refine I.laid (fun b u e => Heap.get?_push_of_some _ e) (Nat.le_refl _) ?_
  exact ⟨Heap.get?_push_size _ rfl, hz, us, r, IsTup.new _ _⟩
theorem tup_fresh (I : L2.Inv X pins σ H s) : H s.heap.objs.size = none := I.hok.fresh (Nat.le_refl _)
/-- t + u -/
def rCatF (K : PySem.W.Frag) : R2 := fun x y H Q => ∃ a b xs ys, x = .ref a ∧ y = .ref b ∧ SqT K H a xs ∧ SqT K H b ys ∧ xs.length + ys.length ≤ sizeLine ∧
  (xs = [] → Q (.ref b) H) ∧ (xs ≠ [] → ys = [] → Q (.ref a) H) ∧ (∀ p us, H p = none → Q (.ref p) (upd H p (.frz (tupO us 0) (.tup (xs ++ ys)))))
theorem op_catF : OpR X (binaryOp .Add) (rCatF X.K) := by
  intro pins s σ H x y v u Q I rx ry h
  obtain ⟨a, b, xs, ys, rfl, rfl, ha, hb, hz, q0, q1, q2⟩ := h
  by_cases hx : xs = []
  · refine op_catA pins s σ H _ _ v u Q I rx ry ⟨a, b, xs, ys, rfl, rfl, ha, hb, hz, q0, fun z => absurd hx z, fun z => absurd hx z⟩
  · cases rx
    cases ry
    obtain ⟨its, r1, p1, _⟩ := I.tuple ha
    obtain ⟨its2, r2, p2, _⟩ := I.tuple hb
    refine HT.cat_tup p1 p2 (fun z => hx (r1.nil_iff.mp z)) (fun z => ⟨.ref a, H, I, rfl, q1 hx (r2.nil_iff.mp z)⟩) (fun z => ?_) (by rw [← r1.length, ← r2.length]; exact hz)
    exact ⟨.ref s.heap.objs.size, _, tup_new (t' := s.toks) I (r1.append r2) (by rw [List.length_append]; exact hz), rfl, q2 _ _ (tup_fresh I)⟩
def rSlF (K : PySem.W.Frag) : V → Option Int → Option Int → Hp → VK → Prop := fun x lo hi H Q => ∃ a xs, x = .ref a ∧ SqT K H a xs ∧
  (HT.sIx xs.length 0 lo = 0 ∧ HT.sIx xs.length xs.length hi = xs.length → Q (.ref a) H) ∧ (∀ p us, H p = none → Q (.ref p) (upd H p (.frz (tupO us 0) (.tup (cutV xs lo hi)))))
theorem sl_tupF : SlR X (rSlF X.K) := by
  intro pins s σ H x v vl vu lo hi sl Q I rx hs pl pu h
  obtain ⟨a, xs, rfl, hx, q1, q2⟩ := h
  cases rx
  obtain ⟨its, r, ht, hz⟩ := I.tuple hx
  have hlen : its.toArray.size = xs.length := by rw [List.size_toArray]; exact r.length.symm
  refine ⟨"tuple", _, PyProof.Rows.slot_tuple_getitem.lookup, ht.typeIs, ?_⟩
  by_cases hw : HT.sIx xs.length 0 lo = 0 ∧ HT.sIx xs.length xs.length hi = xs.length
  · exact getItem_tuple_whole ht hs pl pu (by rw [hlen]; exact hw) ⟨.ref a, H, I, rfl, q1 hw⟩
  · refine HT.getItem_tuple_cut ht hs pl pu (by rw [hlen]; exact hw) ?_ (by rw [hlen]; exact hz)
    rw [hlen]
    refine ⟨.ref s.heap.objs.size, _, tup_new (t' := s.toks) I ((r.drop (HT.sIx xs.length 0 lo)).take (HT.sIx xs.length xs.length hi - HT.sIx xs.length 0 lo)) (Nat.le_trans (cutV_length xs lo hi) hz), rfl, q2 _ _ (tup_fresh I)⟩
def rRepF (K : PySem.W.Frag) : R2 := fun x y H Q => ∃ l k xs, x = .ref l ∧ y = .int k ∧ SqT K H l xs ∧ xs ≠ [] ∧ 2 ≤ k ∧ k ≤ 1000 ∧ xs.length ≤ 1000 ∧ ∀ p us, H p = none → Q (.ref p) (upd H p (.frz (tupO us 0) (.tup (List.replicate k.toNat xs).flatten)))
theorem op_repF : OpR X (binaryOp .Mult) (rRepF X.K) := by
  intro pins s σ H x y v u Q I rx ry ⟨l, k, xs, ex, ey, hT, hne, h1, h2, hz, q⟩
  subst ex; subst ey; cases rx
  obtain ⟨t, et⟩ := ry; subst et
  obtain ⟨its, r, ⟨ob, ho, hc, n, hd⟩, _⟩ := I.tuple hT
  obtain ⟨cl, dd, da, sl⟩ := ob
  dsimp only at hc hd; subst hc; subst hd
  have L : xs.length = its.length := r.length
  have N : its ≠ [] := by
    rintro rfl
    exact hne (List.length_eq_zero_iff.mp L)
  have Emp : its.toArray.isEmpty = false := by simpa using N
  have big : its.length * k.toNat ≤ 1000 * 1000 := Nat.mul_le_mul (by omega) (by omega)
  have bigI : ((its.toArray.size : Nat) : Int) * k ≤ 1000000 := by
    have e : k = ((k.toNat : Nat) : Int) := by omega
    rw [List.size_toArray, e, ← Int.natCast_mul]
    omega
  have SL := sizeLine_eq
  have fl : (List.replicate k.toNat its).flatten.length ≤ sizeLine := by
    rw [PyProof.Rows.lm_len_rep_flat, Nat.mul_comm]; omega
  have k0 : (decide (k < -(2 ^ 63)) || decide (k ≥ 2 ^ 63)) = false := by
    rw [decide_eq_false (by omega), decide_eq_false (by omega)]; rfl
  have k1 : (its.toArray.isEmpty || k == 1) = false := by
    rw [Emp, Bool.false_or]; exact beq_eq_false_iff_ne.mpr (by omega)
  have k2 : (decide (k ≤ 0) || its.toArray.isEmpty) = false := by
    rw [Emp, Bool.or_false]; exact decide_eq_false (by omega)
  have k4 : Builtin.Tuple.tupleTooMany (((its.toArray.size : Nat) : Int) * k) = false := by
    unfold Builtin.Tuple.tupleTooMany
    exact decide_eq_false (by omega)
  have T0 : s.TypeIs (.ref l) "tuple" := ⟨_, ho, rfl⟩
  have inner := tuple_mulW l its.toArray n dd sl k t k0 k1 k2 (by omega) k4 (by rw [size_rep, List.size_toArray]; exact fl)
  refine wpAny_binaryOp_repeat_ref (T := "tuple") (U := "int") (by decide) T0 (fun s' => typeIs_int s' k t) noFill_tuple_mul F.fills_int_mul F.slot_int_rmul repeat_tuple F.slot_int_index.lookup
    (call_meets F.slot_int_rmul (typeIs_int s k t) F.entry_int_rmul (F.args_int_rmul_2 _ _) (int_rmul_tuple k t l its.toArray n dd sl) ⟨ho, rfl, T0, call_meets F.slot_tuple_mul T0 F.entry_tuple_mul (F.args_tuple_mul_2 _ _) inner ⟨ho, ?_⟩⟩)
  rw [size_rep]
  have rr : Vals (List.replicate k.toNat xs).flatten (List.replicate k.toNat its).flatten := r.rep _
  exact ⟨.ref s.heap.objs.size, _, tup_new (t' := s.toks) I rr (by rw [rr.length]; exact fl), rfl, q _ _ (tup_fresh I)⟩
theorem call_tupleF : CallR X (.type "tuple") (fun xs H Q => ∃ p ys, xs = [.ref p] ∧ ((SqL X.K H p ys ∧ ∀ l us, H l = none → Q (.ref l) (upd H l (.frz (tupO us 0) (.tup ys)))) ∨ (SqT X.K H p ys ∧ Q (.ref p) H))) := by
  intro pins s σ H xs us Q I r h
  obtain ⟨p, ys, rfl, h⟩ := h
  obtain ⟨u, rfl, rx⟩ := vals1 r
  cases rx
  rcases h with ⟨hq, q⟩ | ⟨hq, q⟩
  · obtain ⟨its, r', pl, hz⟩ := I.list hq
    have hlen := r'.length
    have hl := line63
    have hs : sizeLine = 16777216 := sizeLine_eq
    refine call_tuple_list pl.isList (fun h' kp => ?_) (by simp only [List.size_toArray] <;> omega)
    have I1 : L2.Inv X pins σ H { s with heap := h' } := I.kept (t' := s.toks) kp
    have I2 := tup_new (t' := s.toks) I1 r' hz
    exact ⟨.ref h'.objs.size, _, I2, rfl, q _ _ (tup_fresh I1)⟩
  · obtain ⟨its, r', pl, hz⟩ := I.tuple hq
    exact call_tuple_same pl ⟨.ref p, H, I, rfl, q⟩
end
end Rx
end

section
set_option maxHeartbeats 4000000
/-! Rx: operations over trees are borne out (2). -/
namespace Rx
open PySem L2
theorem sz_1000000 : (1000000 : Nat) ≤ sizeLine := by rw [sizeLine_eq]; decide
section
variable {X : Cx} {ca : String → Addr}
theorem Hands.int {G : Gw} {H : Hp} {Qa : KV1} {Q : VK} (h : Hands G H Qa Q) {M : MM} (hM : HRep G.w G.ca G.K M H) {i : Int} (q : Qa (.int i) M) : Q (.int i) H := h _ _ _ _ hM (.int i) (.refl H) q
theorem Hands.bl {G : Gw} {H : Hp} {Qa : KV1} {Q : VK} (h : Hands G H Qa Q) {M : MM} (hM : HRep G.w G.ca G.K M H) {i : Bool} (q : Qa (.bl i) M) : Q (.bl i) H := h _ _ _ _ hM (.bl i) (.refl H) q
theorem Hands.same {G : Gw} {H : Hp} {Qa : KV1} {Q : VK} (h : Hands G H Qa Q) {M : MM} (hM : HRep G.w G.ca G.K M H) {p : PV} {v : V} (r : Rep G.K H p v) (q : Qa p M) : Q v H := h _ _ _ _ hM r (.refl H) q

theorem bin_snd (op : Operator) : OpR X (binaryOp op) (lift2 (gOf X ca) (binA op)) := by
  intro pins s σ H x y v u Q I rx ry ⟨p, q, M, Qa, hM, rp, rq, hr, hk⟩
  unfold binA at hr
  split at hr
  · cases rp; cases rq
    exact op_add pins s σ H _ _ v u Q I rx ry ⟨_, _, rfl, rfl, hk.int hM hr⟩
  · cases rp; cases rq
    refine op_add_str pins s σ H _ _ v u Q I rx ry ⟨_, _, rfl, rfl, ?_, ?_⟩
    · rw [so_len, so_len]; exact Nat.le_trans hr.1 sz_1000000
    · rw [so_app]; exact hk.same hM (.str _) hr.2
  · cases rp with
    | tup t1 r1 =>
      cases rq with
      | tup t2 r2 =>
        refine op_catF pins s σ H _ _ v u Q I rx ry ⟨_, _, _, _, rfl, rfl, t1.sq, t2.sq, by rw [← r1.length, ← r2.length]; exact hr.1, fun e => ?_, fun _ e => ?_, fun p us hp => ?_⟩
        · refine hk.same hM (.tup t2 ?_) hr.2
          subst e; cases r1; exact r2
        · refine hk.same hM (.tup t1 ?_) hr.2
          subst e; cases r2; rw [List.append_nil]; exact r1
        · exact hk.tup hM (r1.append r2) hp hr.2
  · cases rp; cases rq
    split at hr
    · rename_i a b xs ys e1 e2
      obtain ⟨vs, h1, r1⟩ := hM.lst e1
      obtain ⟨ws, h2, r2⟩ := hM.lst e2
      exact op_cat pins s σ H _ _ v u Q I rx ry ⟨_, _, _, _, rfl, rfl, h1, h2, by rw [← r1.length, ← r2.length]; exact hr.1, fun p hp => hk.lst hM (r1.append r2) hp hr.2⟩
    · exact hr.elim
  · cases rp; cases rq
    exact op_sub pins s σ H _ _ v u Q I rx ry ⟨_, _, rfl, rfl, hk.int hM hr⟩
  · cases rp; cases rq
    exact op_mul pins s σ H _ _ v u Q I rx ry ⟨_, _, rfl, rfl, hr.1, hk.int hM hr.2⟩
  · cases rq
    cases rp with
    | tup t1 r1 =>
      obtain ⟨h0, h1, h2, h3, h4⟩ := hr
      refine op_repF pins s σ H _ _ v u Q I rx ry ⟨_, _, _, rfl, rfl, t1.sq, ?_, h1, h2, by rw [← r1.length]; exact h3, fun p us hp => hk.tup hM (r1.replicate _) hp h4⟩
      rintro rfl; cases r1; exact h0 rfl
  · cases rp; cases rq
    split at hr
    · rename_i c hc
      exact op_mulS pins s σ H _ _ v u Q I rx ry ⟨_, _, _, rfl, rfl, hc, hr.1, hr.2.1, hk.same hM (.str _) hr.2.2⟩
    · exact hr.elim
  · cases rp; cases rq
    exact op_fdiv pins s σ H _ _ v u Q I rx ry ⟨_, _, rfl, rfl, hr.1, hk.int hM hr.2⟩
  · cases rp; cases rq
    exact op_mod pins s σ H _ _ v u Q I rx ry ⟨_, _, rfl, rfl, hr.1, hk.int hM hr.2⟩
  · cases rp; cases rq
    exact op_pow pins s σ H _ _ v u Q I rx ry ⟨_, _, rfl, rfl, hr.1, hk.int hM hr.2⟩
  · exact hr.elim

/-- comparisons -/
def cmpE (op : CmpOp) (p q : PV) (M : MM) (Q : KV1) : Prop := cmpA op p q M fun r => Q (.bl r) M
end
end Rx
end

section
set_option maxHeartbeats 4000000
/-! Rx: dicts whose keys are texts, numbers, None and tuples of such, side by side. -/
namespace Rx
open PySem
/-- an entry's key is k -/
structure EK (w : World) (h : Heap) (k : NestedKey) (e : DictEntry) : Prop where
  hs : e.hash = k.hash w
  is : NestedIs h k e.key
  dp : k.depth ≤ 8
/-- the entries' keys -/
structure EKs (w : World) (h : Heap) (ks : List NestedKey) (es : Array DictEntry) : Prop where
  len : ks.length = es.size
  at_ : ∀ (j : Nat) k e, ks[j]? = some k → es[j]? = some e → EK w h k e
  nd : ks.Nodup
section
variable {prog : Program} {w : World} {A : Around} {E : Value → Shared → Prop} {s : Shared}
theorem EKs.get {h : Heap} {ks : List NestedKey} {es : Array DictEntry} (x : EKs w h ks es) {j : Nat} {e : DictEntry} (he : es[j]? = some e) : ∃ k, ks[j]? = some k ∧ EK w h k e := by
  have hj : j < es.size := (Array.getElem?_eq_some_iff.mp he).1
  rw [← x.len] at hj
  exact ⟨ks[j], List.getElem?_eq_getElem hj, x.at_ j _ e (List.getElem?_eq_getElem hj) he⟩
theorem EKs.uniq {h : Heap} {ks : List NestedKey} {es : Array DictEntry} (x : EKs w h ks es) {i j : Nat} {k : NestedKey} (hi : ks[i]? = some k) (hj : ks[j]? = some k) : i = j :=
  (List.getElem?_inj (List.getElem?_eq_some_iff.mp hi).1 x.nd).mp (hi.trans hj.symm)

theorem tell_quiet {k : NestedKey} {key : Value} {stored : List Value} {Q : Bool → Shared → Prop} (hk : NestedIs s.heap k key) (hkd : k.depth ≤ 8)
    (hst : ∀ v ∈ stored, ∃ k' : NestedKey, NestedIs s.heap k' v ∧ k'.depth ≤ 8) (h : Q false s) : wpAny (model prog w) A (tableMayTell key stored) Q E s := by
  unfold tableMayTell
  split
  · exact wpAny_pure h
  · refine wpAny_bind (quiet_key k key 8 s hk hkd A E _ ?_)
    simp only [Bool.not_true, Bool.false_eq_true, if_false]
    refine wpAny_bind ?_
    refine wpAny_forIn_list _ (fun rest r s' => s' = s ∧ r = (none, ()) ∧ ∀ v ∈ rest, ∃ k' : NestedKey, NestedIs s.heap k' v ∧ k'.depth ≤ 8) _ ?_ ?_ _ _ ⟨rfl, rfl, hst⟩
    · rintro x rest r s' ⟨rfl, rfl, hr⟩
      obtain ⟨k', hb, hd⟩ := hr x List.mem_cons_self
      refine wpAny_bind (quiet_key k' x 8 _ hb hd A E _ ?_)
      simp only [Bool.not_true, Bool.false_eq_true, if_false]
      exact wpAny_pure ⟨rfl, rfl, fun v hv => hr v (List.mem_cons_of_mem _ hv)⟩
    · rintro r s' ⟨rfl, rfl, _⟩
      exact wpAny_pure h

theorem walkPlain_any {d : Addr} {o : Obj} {es : Array DictEntry} {ep : Nat} {ks : List NestedKey} {k : NestedKey} {key : Value} {Q : Option Nat → Shared → Prop} (hu : A.units + 8 < cLine) (hk : NestedIs s.heap k key) (hkd : k.depth ≤ 8)
    (ho : s.heap.get? d = some o) (hd : o.data = .dict es ep) (X : EKs w s.heap ks es) (hnone : (∀ j : Nat, ks[j]? ≠ some k) → Q none s) (hsome : ∀ j : Nat, ks[j]? = some k → Q (some j) s) :
    wpAny (model prog w) A (dictWalkPlain d key (k.hash w) es (placesWithHash es.size (fun i => es[i]?.map (·.hash)) (k.hash w))) Q E s := by
  have eqb : ∀ {k' : NestedKey} {e : DictEntry} {Q' : Bool → Shared → Prop}, EK w s.heap k' e → Q' (decide (k' = k)) s → wpAny (model prog w) A (eqBool e.key key) Q' E s := fun {k' e Q'} x h =>
    eqAt_key _ _ _ _ _ _ x.is hk (by have := x.dp; omega) _ _ _ _ (by rw [← NestedKey.decide_eq]; exact h)
  have haskey : ∀ j : Nat, ks[j]? = some k → ((es[j]?.map (·.hash)) == some (k.hash w)) = true := by
    intro j hj
    have hl : j < es.size := by rw [← X.len]; exact (List.getElem?_eq_some_iff.mp hj).1
    have q := X.at_ j k _ hj (Array.getElem?_eq_getElem hl)
    rw [Array.getElem?_eq_getElem hl, Option.map_some, q.hs]
    simp
  refine wpAny_bind ?_
  refine wpAny_forIn_list _
    (fun rest b s' => s' = s ∧ b = (none, ()) ∧ ∃ i, rest = (List.range' i (es.size - i)).filter (fun i => (es[i]?.map (·.hash)) == some (k.hash w)) ∧ i ≤ es.size ∧
      ∀ j : Nat, j < i → ks[j]? ≠ some k) _ ?_ ?_ _ _
    ⟨rfl, rfl, 0, by rw [placesWithHash, List.range_eq_range', Nat.sub_zero], Nat.zero_le _, fun _ h => absurd h (Nat.not_lt_zero _)⟩
  · rintro x rest b s' ⟨rfl, rfl, i, hr, hi, hno⟩
    obtain ⟨hix, hxn, hpx, hskip, hrest⟩ := filter_range'_cons _ _ _ _ _ hr.symm
    have hlt : x < es.size := by omega
    have hrest' : rest = (List.range' (x + 1) (es.size - (x + 1))).filter (fun i => (es[i]?.map (·.hash)) == some (k.hash w)) := by rw [hrest]; congr 2; omega
    obtain ⟨k', hk1, hk2⟩ := X.get (Array.getElem?_eq_getElem hlt)
    have hnox : ∀ j : Nat, j < x → ks[j]? ≠ some k := by
      intro j hjx hj
      rcases Nat.lt_or_ge j i with h | h
      · exact hno j h hj
      · have := hskip j h hjx
        rw [haskey j hj] at this
        exact absurd this (by decide)
    have hstay : ¬ k' = k → ∀ j : Nat, j < x + 1 → ks[j]? ≠ some k := by
      intro hne j hjx hj
      rcases Nat.lt_or_ge j x with h | h
      · exact hnox j h hj
      · have hjx' : j = x := by omega
        subst hjx'
        rw [hk1] at hj
        exact hne (Option.some.inj hj)
    rw [Array.getElem?_eq_getElem hlt]
    dsimp only
    by_cases hh : (es[x].hash == k.hash w) = true
    · rw [if_pos hh]
      refine wpAny_bind (wpAny_dictEpoch ho hd (wpAny_bind (eqb hk2 (wpAny_bind (wpAny_dictEpoch ho hd ?_)))))
      show wpAny _ _ (if (ep != ep) = true then _ else _) _ E _
      rw [if_neg (by simp)]
      by_cases hkk : k' = k
      · rw [decide_eq_true hkk]
        subst hkk
        first | rw [if_pos rfl] | skip
        first
          | exact wpAny_bind (wpAny_rule (wpAny_pure (wpAny_pure (hsome x hk1))))
          | exact wpAny_bind (wpAny_rule (wpAny_bind (wpAny_pure (wpAny_pure (hsome x hk1)))))
      · rw [decide_eq_false hkk]
        simp only [Bool.false_eq_true, if_false]
        first
          | exact wpAny_bind (wpAny_rule (wpAny_pure ⟨rfl, rfl, x + 1, hrest', hlt, hstay hkk⟩))
          | exact wpAny_bind (wpAny_rule (wpAny_bind (wpAny_pure (wpAny_pure ⟨rfl, rfl, x + 1, hrest', hlt, hstay hkk⟩))))
    · rw [if_neg hh]
      refine wpAny_pure ⟨rfl, rfl, x + 1, hrest', hlt, hstay ?_⟩
      intro hkk
      rw [hk2.hs, hkk] at hh; simp at hh
  · rintro b s' ⟨rfl, rfl, i, hr, hi, hno⟩
    refine wpAny_pure (hnone fun j hj => ?_)
    rcases Nat.lt_or_ge j i with h | h
    · exact hno j h hj
    · have hl : j < es.size := by rw [← X.len]; exact (List.getElem?_eq_some_iff.mp hj).1
      have := List.filter_eq_nil_iff.mp hr.symm j (List.mem_range'_1.mpr ⟨h, by omega⟩)
      exact absurd (haskey j hj) this

theorem dictFind_any {d : Addr} {o : Obj} {es : Array DictEntry} {ep : Nat} {ks : List NestedKey} {k : NestedKey} {key : Value} {Q : Option Nat → Shared → Prop} (hu : A.units + 8 < cLine) (hk : NestedIs s.heap k key) (hkd : k.depth ≤ 8)
    (ho : s.heap.get? d = some o) (hd : o.data = .dict es ep) (X : EKs w s.heap ks es) (hnone : (∀ j : Nat, ks[j]? ≠ some k) → Q none s) (hsome : ∀ j : Nat, ks[j]? = some k → Q (some j) s) :
    wpAny (model prog w) A (dictFind d key (k.hash w)) Q E s := by
  have eqb : ∀ {k' : NestedKey} {e : DictEntry} {Q' : Bool → Shared → Prop}, EK w s.heap k' e → Q' (decide (k' = k)) s → wpAny (model prog w) A (eqBool e.key key) Q' E s := fun {k' e Q'} x h =>
    eqAt_key _ _ _ _ _ _ x.is hk (by have := x.dp; omega) _ _ _ _ (by rw [← NestedKey.decide_eq]; exact h)
  have haskey : ∀ j : Nat, ks[j]? = some k → ((es[j]?.map (·.hash)) == some (k.hash w)) = true := by
    intro j hj
    have hl : j < es.size := by rw [← X.len]; exact (List.getElem?_eq_some_iff.mp hj).1
    have q := X.at_ j k _ hj (Array.getElem?_eq_getElem hl)
    rw [Array.getElem?_eq_getElem hl, Option.map_some, q.hs]
    simp
  have hany : ∀ a, key = .ref a → ¬ (es.any fun e => e.key == Value.ref a && e.hash != k.hash w) = true := by
    rintro a rfl
    rw [← Array.any_toList, List.any_eq_true]
    rintro ⟨e, hin, hc⟩
    obtain ⟨j, hj⟩ := List.mem_iff_getElem?.mp hin
    rw [Array.getElem?_toList] at hj
    obtain ⟨k', _, q⟩ := X.get hj
    simp only [Bool.and_eq_true, beq_iff_eq, bne_iff_ne, ne_eq] at hc
    have q2 := q.is
    rw [hc.1] at q2
    exact hc.2 (by rw [q.hs, NestedIs.inj _ _ _ q2 hk])
  have hst : ∀ v ∈ (placesWithHash es.size (fun i => es[i]?.map (·.hash)) (k.hash w)).filterMap (fun i => es[i]?.map (·.key)), ∃ k' : NestedKey, NestedIs s.heap k' v ∧ k'.depth ≤ 8 := by
    intro v hv
    obtain ⟨i, _, hi⟩ := List.mem_filterMap.mp hv
    cases hei : es[i]? with
    | none => rw [hei] at hi; cases hi
    | some e =>
      rw [hei] at hi
      obtain rfl : e.key = v := by simpa using hi
      obtain ⟨k', _, q⟩ := X.get hei
      exact ⟨k', q.is, q.dp⟩
  by_cases hstr : ∃ x t, key = Value.str x t ∧ (es.all fun e => isExactStrKey e.key) = true
  · obtain ⟨x, t, rfl, hall⟩ := hstr
    obtain rfl : k = .text x := by cases hk; rfl
    refine PyProof.Rows.KTD.kt_dictFind_strs ho hd hall ?_
    cases hf : es.findIdx? (fun e => e.key.isStr x) with
    | none =>
      refine hnone fun j hj => ?_
      have hl : j < es.size := by rw [← X.len]; exact (List.getElem?_eq_some_iff.mp hj).1
      have q := X.at_ j _ _ hj (Array.getElem?_eq_getElem hl)
      have z := Array.findIdx?_eq_none_iff.mp hf _ (Array.getElem_mem hl)
      have q2 := q.is
      cases hke : es[j].key <;> rw [hke] at q2 <;> cases q2
      rw [hke] at z
      simp [Value.isStr] at z
    | some i =>
      obtain ⟨hlt, hi, _⟩ := Array.findIdx?_eq_some_iff_getElem.mp hf
      obtain ⟨t', hke⟩ := PyProof.Rows.KTD.kt_isStr hi
      obtain ⟨k', h1, h2⟩ := X.get (Array.getElem?_eq_getElem hlt)
      have q2 := h2.is
      rw [hke] at q2
      cases q2
      exact hsome i h1
  · unfold dictFind
    try with_reducible refine wpAny_holding ?_
    refine wpAny_bind (wpAny_dictEntries ho hd ?_)
    dsimp only
    have hns : ∀ x t, key = Value.str x t → ¬ (es.all fun e => isExactStrKey e.key) = true := fun x t e h => hstr ⟨x, t, e, h⟩
    by_cases hcv : ((key :: (placesWithHash es.size (fun i => es[i]?.map (·.hash)) (k.hash w)).filterMap (fun i => es[i]?.map (·.key))).all carriedByValue) = true
    · cases key <;> dsimp only <;> (try rw [if_neg (hns _ _ rfl)]) <;> first
        | (rw [if_pos hcv]; exact walkPlain_any hu hk hkd ho hd X hnone hsome)
        | (cases hk; done)
        | (exfalso; simp [carriedByValue] at hcv; done)
    by_cases hone : (((placesWithHash es.size (fun i => es[i]?.map (·.hash)) (k.hash w)).filterMap (fun i => es[i]?.map (·.key))) == [key]) = true <;>
    cases key <;> dsimp only <;> (try rw [if_neg (hns _ _ rfl)]) <;> (try rw [if_neg hcv]) <;> (try rw [if_neg (hany _ rfl)]) <;> (try (cases hk; done)) <;> (first | rw [if_pos hone] | rw [if_neg hone])
    all_goals
      (first | refine wpAny_bind (wpAny_pure ?_) | refine wpAny_bind (tell_quiet hk hkd hst ?_)) <;> (
      rw [if_neg (by rw [Bool.false_and]; exact Bool.false_ne_true)]
      refine wpAny_bind ?_
      refine wpAny_forIn_list _
        (fun rest b s' => s' = s ∧ ∃ i hit, b = (none, hit) ∧ rest = (List.range' i (es.size - i)).filter (fun i => (es[i]?.map (·.hash)) == some (k.hash w)) ∧ i ≤ es.size ∧
          ((hit = none ∧ ∀ j : Nat, j < i → ks[j]? ≠ some k) ∨ ∃ j : Nat, hit = some j ∧ j < i ∧ ks[j]? = some k)) _ ?_ ?_ _ _
        ⟨rfl, 0, none, rfl, by rw [placesWithHash, List.range_eq_range', Nat.sub_zero], Nat.zero_le _, .inl ⟨rfl, fun _ h => absurd h (Nat.not_lt_zero _)⟩⟩
      · rintro x rest b s' ⟨rfl, i, hit, rfl, hr, hi, hH⟩
        obtain ⟨hix, hxn, hpx, hskip, hrest⟩ := filter_range'_cons _ _ _ _ _ hr.symm
        have hlt : x < es.size := by omega
        have hrest' : rest = (List.range' (x + 1) (es.size - (x + 1))).filter (fun i => (es[i]?.map (·.hash)) == some (k.hash w)) := by rw [hrest]; congr 2; omega
        obtain ⟨k', hk1, hk2⟩ := X.get (Array.getElem?_eq_getElem hlt)
        have hHx : (hit = none ∧ ∀ j : Nat, j < x → ks[j]? ≠ some k) ∨ ∃ j : Nat, hit = some j ∧ j < x ∧ ks[j]? = some k := by
          rcases hH with ⟨h0, hno⟩ | ⟨j, h1, hji, hj⟩
          · refine .inl ⟨h0, fun j hjx hj => ?_⟩
            rcases Nat.lt_or_ge j i with h | h
            · exact hno j h hj
            · have := hskip j h hjx
              rw [haskey j hj] at this
              exact absurd this (by decide)
          · exact .inr ⟨j, h1, by omega, hj⟩
        have hstay : ¬ k' = k → ((hit = none ∧ ∀ j : Nat, j < x + 1 → ks[j]? ≠ some k) ∨ ∃ j : Nat, hit = some j ∧ j < x + 1 ∧ ks[j]? = some k) := by
          intro hne
          rcases hHx with ⟨h0, hno⟩ | ⟨j, h1, hjx, hj⟩
          · refine .inl ⟨h0, fun j hjx hj => ?_⟩
            rcases Nat.lt_or_ge j x with h | h
            · exact hno j h hj
            · have hjx' : j = x := by omega
              subst hjx'
              rw [hk1] at hj
              exact hne (Option.some.inj hj)
          · exact .inr ⟨j, h1, by omega, hj⟩
        rw [Array.getElem?_eq_getElem hlt]
        dsimp only
        by_cases hh : (es[x].hash == k.hash w) = true
        · rw [if_pos hh]
          refine wpAny_bind (wpAny_dictEpoch ho hd (wpAny_bind (eqb hk2 (wpAny_bind (wpAny_dictEpoch ho hd ?_)))))
          show wpAny _ _ (if (ep != ep) = true then _ else _) _ E _
          rw [if_neg (by rw [bne_self_eq_false]; exact Bool.false_ne_true)]
          by_cases hkk : k' = k
          · rw [decide_eq_true hkk]
            subst hkk
            rcases hHx with ⟨rfl, _⟩ | ⟨j, _, hjx, hj⟩
            · first | rw [if_pos rfl] | skip
              simp only [Option.isSome_none, Bool.false_eq_true, if_false]
              first | refine wpAny_bind (wpAny_pure ?_) | skip
              refine wpAny_bind (wpAny_rule ?_)
              by_cases hl2 : ((placesWithHash es.size (fun i => es[i]?.map (·.hash)) (k'.hash w)).filterMap (fun i => es[i]?.map (·.key))).length < 2
              · rw [if_pos hl2]; exact wpAny_pure (wpAny_pure (hsome x hk1))
              · rw [if_neg hl2]; exact wpAny_pure ⟨rfl, x + 1, some x, rfl, hrest', hlt, .inr ⟨x, rfl, Nat.lt_succ_self x, hk1⟩⟩
            · exact absurd (X.uniq hj hk1) (by omega)
          · rw [decide_eq_false hkk]
            simp only [Bool.false_eq_true, if_false]
            refine wpAny_bind (wpAny_rule ?_)
            rw [if_neg (by rw [Bool.false_and]; exact Bool.false_ne_true)]
            first
              | exact wpAny_pure ⟨rfl, x + 1, hit, rfl, hrest', hlt, hstay hkk⟩
              | exact wpAny_bind (wpAny_pure (wpAny_pure ⟨rfl, x + 1, hit, rfl, hrest', hlt, hstay hkk⟩))
        · rw [if_neg hh]
          refine wpAny_pure ⟨rfl, x + 1, hit, rfl, hrest', hlt, hstay ?_⟩
          intro hkk
          rw [hk2.hs, hkk] at hh; exact hh (beq_self_eq_true _)
      · rintro b s' ⟨rfl, i, hit, rfl, hr, hi, hH⟩
        rcases hH with ⟨rfl, hno⟩ | ⟨j, rfl, _, hj⟩
        · refine wpAny_pure (hnone fun j hj => ?_)
          rcases Nat.lt_or_ge j i with h | h
          · exact hno j h hj
          · have hl : j < es.size := by rw [← X.len]; exact (List.getElem?_eq_some_iff.mp hj).1
            have := List.filter_eq_nil_iff.mp hr.symm j (List.mem_range'_1.mpr ⟨h, by omega⟩)
            exact absurd (haskey j hj) this
        · exact wpAny_pure (hsome j hj))
end
end Rx
end

section
set_option maxHeartbeats 4000000
/-! Rx: dicts by keys of any kind: read, stored, asked. -/
namespace Rx
open PySem
section
variable {prog : Program} {w : World} {A : Around} {E : Value → Shared → Prop} {s : Shared} {d : Addr} {o : Obj} {es : Array DictEntry} {ep : Nat} {ks : List NestedKey} {k : NestedKey} {key : Value}
theorem dictGet_any {Q : Option Value → Shared → Prop} (hu : A.units + 8 < cLine) (hk : NestedIs s.heap k key) (hkd : k.depth ≤ 8) (ho : s.heap.get? d = some o) (hd : o.data = .dict es ep) (X : EKs w s.heap ks es)
    (hnone : (∀ j : Nat, ks[j]? ≠ some k) → ∀ t, Q none { s with toks := t }) (hsome : ∀ (j : Nat) e, ks[j]? = some k → es[j]? = some e → ∀ t, Q (some e.val) { s with toks := t }) : wpAny (model prog w) A (dictGet d key) Q E s := by
  unfold dictGet
  try with_reducible refine wpAny_holding ?_
  refine wpAny_bind (pyHash_key k key A s _ hk (by omega) (wpAny_bind (dictFind_any (s := { s with toks := s.toks + k.draws }) hu hk hkd ho hd X (fun hno => wpAny_pure (hnone hno _)) fun j hj => ?_)))
  have hl : j < es.size := by rw [← X.len]; exact (List.getElem?_eq_some_iff.mp hj).1
  refine wpAny_bind (wpAny_dictEntries (s := { s with toks := s.toks + k.draws }) ho hd ?_)
  rw [Array.getElem?_eq_getElem hl]
  exact wpAny_pure (hsome j _ hj (Array.getElem?_eq_getElem hl) _)
theorem dictSet_any {v : Value} {Q : Unit → Shared → Prop} (hu : A.units + 8 < cLine) (hk : NestedIs s.heap k key) (hkd : k.depth ≤ 8) (ho : s.heap.get? d = some o) (hx : o.ExactDict) (hd : o.data = .dict es ep) (X : EKs w s.heap ks es)
    (hsz : es.size ≤ sizeLine)
    (hnew : (∀ j : Nat, ks[j]? ≠ some k) → ∀ h' t o' ep', h'.get? d = some o' → o'.ExactDict → o'.data = .dict (es.push ⟨k.hash w, key, v⟩) ep' → Heap.SameBut d s.heap h' → Q () { s with heap := h', toks := t })
    (hold : ∀ j : Nat, ks[j]? = some k → ∀ h' t o' ep', h'.get? d = some o' → o'.ExactDict → o'.data = .dict (es.modify j fun e => { e with val := v }) ep' → Heap.SameBut d s.heap h' → Q () { s with heap := h', toks := t }) :
    wpAny (model prog w) A (dictSet d key v) Q E s := by
  unfold dictSet
  try with_reducible refine wpAny_holding ?_
  refine wpAny_bind (pyHash_key k key A s _ hk (by omega) ?_)
  unfold dictSetHashed
  try with_reducible refine wpAny_holding ?_
  refine wpAny_bind (dictFind_any (s := { s with toks := s.toks + k.draws }) hu hk hkd ho hd X (fun hno => ?_) fun j hj => ?_)
  · exact wpAny_bind (wpAny_rule (wpAny_updateDictKeys (hz := hsz) (s := { s with toks := s.toks + k.draws }) ho hd
      (hnew hno _ _ _ _ (Heap.get?_update_self _ ho (Obj.isFreed_of_dict (Obj.data_mapDictKeys hd _))) (hx.mapDictKeys _) (Obj.data_mapDictKeys hd _) (Heap.SameBut.update ..))))
  · exact wpAny_bind (wpAny_rule (wpAny_bind (wpAny_updateDict (s := { s with toks := s.toks + k.draws }) ho hd (wpAny_point
      (hold j hj _ _ _ _ (Heap.get?_update_self _ ho (Obj.isFreed_of_dict (Obj.data_mapDict hd _))) (hx.mapDict _) (Obj.data_mapDict hd _) (Heap.SameBut.update ..))))))
theorem dictSetDefault_any {v : Value} {Q : Value → Shared → Prop} (hu : A.units + 8 < cLine) (hk : NestedIs s.heap k key) (hkd : k.depth ≤ 8) (ho : s.heap.get? d = some o) (hx : o.ExactDict) (hd : o.data = .dict es ep) (X : EKs w s.heap ks es)
    (hsz : es.size ≤ sizeLine)
    (hnew : (∀ j : Nat, ks[j]? ≠ some k) → ∀ h' t o' ep', h'.get? d = some o' → o'.ExactDict → o'.data = .dict (es.push ⟨k.hash w, key, v⟩) ep' → Heap.SameBut d s.heap h' → Q v { s with heap := h', toks := t })
    (hold : ∀ (j : Nat) e, ks[j]? = some k → es[j]? = some e → ∀ t, Q e.val { s with toks := t }) :
    wpAny (model prog w) A (dictSetDefault d key v) Q E s := by
  unfold dictSetDefault
  try with_reducible refine wpAny_holding ?_
  refine wpAny_bind (pyHash_key k key A s _ hk (by omega) ?_)
  refine wpAny_bind (dictFind_any (s := { s with toks := s.toks + k.draws }) hu hk hkd ho hd X (fun hno => ?_) fun j hj => ?_)
  · exact wpAny_bind (wpAny_rule (wpAny_bind (wpAny_updateDictKeys (hz := hsz) (s := { s with toks := s.toks + k.draws }) ho hd
      (wpAny_pure (hnew hno _ _ _ _ (Heap.get?_update_self _ ho (Obj.isFreed_of_dict (Obj.data_mapDictKeys hd _))) (hx.mapDictKeys _) (Obj.data_mapDictKeys hd _) (Heap.SameBut.update ..))))))
  · have hl : j < es.size := by rw [← X.len]; exact (List.getElem?_eq_some_iff.mp hj).1
    refine wpAny_bind (wpAny_dictEntries (s := { s with toks := s.toks + k.draws }) ho hd ?_)
    rw [Array.getElem?_eq_getElem hl]
    exact wpAny_bind (wpAny_rule (wpAny_pure (hold j _ hj (Array.getElem?_eq_getElem hl) _)))
theorem ty_dict (ho : s.heap.get? d = some o) (hx : o.ExactDict) : s.TypeIs (.ref d) "dict" := ⟨o, ho, hx.1⟩
theorem contains_any {Q : Bool → Shared → Prop} (hu : A.units + 9 < cLine) (hk : NestedIs s.heap k key) (hkd : k.depth ≤ 8) (hS : (d == sysModules) = false) (ho : s.heap.get? d = some o) (hx : o.ExactDict) (hd : o.data = .dict es ep) (X : EKs w s.heap ks es)
    (h : ∀ t, Q (decide (k ∈ ks)) { s with toks := t }) : wpAny (model prog w) A (contains (.ref d) key) Q E s := by
  have hT := ty_dict ho hx
  unfold contains
  try with_reducible refine wpAny_holding ?_
  refine wpAny_bind (wpAny_specialOf hT slot_dict_contains.lookup ?_)
  show wpAny _ _ (if (some (Value.builtin "dict.__contains__") == some Value.none) = true then _ else _) _ E s
  rw [if_neg (by rw [beq_builtin_none]; exact Bool.false_ne_true)]
  refine wpAny_bind (wpAny_callSpecialUnlessNone?_slot (name := Str.ofString "__contains__") hT slot_dict_contains
    (wpAny_call_entry slot_dict_contains hT entry_dict_contains ?_ (args_dict_contains _ _)))
  show wpAny _ _ (dictGet d key >>= _) _ _ s
  refine wpAny_bind (dictGet_any (by rw [Around.in1_units]; omega) hk hkd ho hd X (fun hno t => ?_) fun j e hj he t => ?_)
  · have hm : decide (k ∈ ks) = false := decide_eq_false fun hm => by
      obtain ⟨j, hj⟩ := List.mem_iff_getElem?.mp hm
      exact hno j hj
    have h' := h t
    rw [hm] at h'
    show wpAny _ _ (Builtin.Dict.pendingKey? d key >>= _) _ _ _
    exact wpAny_bind (wpAny_pendingKey_other hS (wpAny_pure ⟨_, rfl, wpAny_truthy_bool h'⟩))
  · have hm : decide (k ∈ ks) = true := decide_eq_true (List.mem_of_getElem? hj)
    have h' := h t
    rw [hm] at h'
    show wpAny _ _ (ret (.bool true)) _ _ _
    exact wpAny_pure ⟨_, rfl, wpAny_truthy_bool h'⟩
theorem in_any {Q : Value → Shared → Prop} (hu : A.units + 9 < cLine) (hk : NestedIs s.heap k key) (hkd : k.depth ≤ 8) (hS : (d == sysModules) = false) (ho : s.heap.get? d = some o) (hx : o.ExactDict) (hd : o.data = .dict es ep) (X : EKs w s.heap ks es)
    (h : ∀ t, Q (.bool (decide (k ∈ ks))) { s with toks := t }) : wpAny (model prog w) A (compareOp .In key (.ref d)) Q E s := by
  show wpAny _ _ (do return .bool (← contains (.ref d) key)) Q E s
  exact wpAny_bind (contains_any hu hk hkd hS ho hx hd X fun t => wpAny_pure (h t))
theorem notIn_any {Q : Value → Shared → Prop} (hu : A.units + 9 < cLine) (hk : NestedIs s.heap k key) (hkd : k.depth ≤ 8) (hS : (d == sysModules) = false) (ho : s.heap.get? d = some o) (hx : o.ExactDict) (hd : o.data = .dict es ep) (X : EKs w s.heap ks es)
    (h : ∀ t, Q (.bool (!decide (k ∈ ks))) { s with toks := t }) : wpAny (model prog w) A (compareOp .NotIn key (.ref d)) Q E s := by
  show wpAny _ _ (do return .bool (!(← contains (.ref d) key))) Q E s
  exact wpAny_bind (contains_any hu hk hkd hS ho hx hd X fun t => wpAny_pure (h t))
theorem getItem_any {Q : Value → Shared → Prop} (hu : A.units + 9 < cLine) (hk : NestedIs s.heap k key) (hkd : k.depth ≤ 8) (ho : s.heap.get? d = some o) (hx : o.ExactDict) (hd : o.data = .dict es ep) (X : EKs w s.heap ks es)
    {j : Nat} {e : DictEntry} (hj : ks[j]? = some k) (he : es[j]? = some e) (h : ∀ t, Q e.val { s with toks := t }) : wpAny (model prog w) A (getItem (.ref d) key) Q E s := by
  have hT := ty_dict ho hx
  unfold getItem
  try with_reducible refine wpAny_holding ?_
  refine wpAny_bind (wpAny_sequenceKey hT (by decide) ?_)
  refine wpAny_bind (wpAny_callSpecial?_slot (name := Str.ofString "__getitem__") hT slot_dict_getitem
    (wpAny_call_entry slot_dict_getitem hT entry_dict_getitem ?_ (args_dict_getitem _ _)))
  show wpAny _ _ (dictGet d key >>= _) _ _ s
  refine wpAny_bind (dictGet_any (by rw [Around.in1_units]; omega) hk hkd ho hd X (fun hno t => absurd hj (hno j)) fun i e' hi he' t => ?_)
  have := X.uniq hi hj
  subst this
  rw [he] at he'
  cases he'
  exact wpAny_pure ⟨e.val, rfl, wpAny_pure (h t)⟩
theorem setItem_any {v : Value} {Q : Unit → Shared → Prop} (hu : A.units + 9 < cLine) (hk : NestedIs s.heap k key) (hkd : k.depth ≤ 8) (ho : s.heap.get? d = some o) (hx : o.ExactDict) (hd : o.data = .dict es ep) (X : EKs w s.heap ks es)
    (hsz : es.size ≤ sizeLine)
    (hnew : (∀ j : Nat, ks[j]? ≠ some k) → ∀ h' t o' ep', h'.get? d = some o' → o'.ExactDict → o'.data = .dict (es.push ⟨k.hash w, key, v⟩) ep' → Heap.SameBut d s.heap h' → Q () { s with heap := h', toks := t })
    (hold : ∀ j : Nat, ks[j]? = some k → ∀ h' t o' ep', h'.get? d = some o' → o'.ExactDict → o'.data = .dict (es.modify j fun e => { e with val := v }) ep' → Heap.SameBut d s.heap h' → Q () { s with heap := h', toks := t }) :
    wpAny (model prog w) A (setItem (.ref d) key v) Q E s := by
  have hT := ty_dict ho hx
  unfold setItem
  try with_reducible refine wpAny_holding ?_
  refine wpAny_bind (wpAny_sequenceKey hT (by decide) ?_)
  refine wpAny_bind (wpAny_callSpecial?_slot (name := Str.ofString "__setitem__") hT slot_dict_setitem
    (wpAny_call_entry slot_dict_setitem hT entry_dict_setitem ?_ (args_dict_setitem _ _ _)))
  show wpAny _ _ (Builtin.Dict.notOrdered "__setitem__" ⟨[.ref d, key, v], []⟩ >>= _) _ _ s
  refine wpAny_bind (wpAny_notOrdered_dict hT ?_)
  show wpAny _ _ (dictSet d key v >>= _) _ _ s
  exact wpAny_bind (dictSet_any (by rw [Around.in1_units]; omega) hk hkd ho hx hd X hsz (fun hno h' t o' ep' a b c e => wpAny_pure ⟨.none, rfl, wpAny_pure (hnew hno h' t o' ep' a b c e)⟩)
    fun j hj h' t o' ep' a b c e => wpAny_pure ⟨.none, rfl, wpAny_pure (hold j hj h' t o' ep' a b c e)⟩)
end
end Rx
end

section
set_option maxHeartbeats 4000000
/-! Rx: dicts over the layer; in, items, slices, truth. -/
namespace Rx
open PySem L2
/-! ### keys as trees -/
def allK (kvs : List (PV × PV)) : Prop := ∀ q ∈ kvs, ∃ k, keyOf q.1 = some k
theorem keyEq_kk {p q : PV} {a b : NestedKey} (h1 : keyOf p = some a) (h2 : keyOf q = some b) : keyEq p q = decide (a = b) := by unfold keyEq; rw [h1, h2]
theorem dGet_some {k : PV} {a : NestedKey} (hk : keyOf k = some a) : ∀ {kvs : List (PV × PV)} {v : PV}, allK kvs → dGet kvs k = some v → ∃ (j : Nat) (p : PV), kvs[j]? = some (p, v) ∧ (kvs.map fun q => kk q.1)[j]? = some a
  | [], v, _, h => by simp [dGet] at h
  | (p, u) :: r, v, al, h => by
    obtain ⟨b, hb⟩ := al (p, u) List.mem_cons_self
    unfold dGet at h
    rw [keyEq_kk hb hk] at h
    by_cases e : b = a
    · subst e
      rw [decide_eq_true rfl, if_pos rfl] at h
      cases h
      exact ⟨0, p, rfl, by simp [kk, hb]⟩
    · rw [decide_eq_false e, if_neg Bool.false_ne_true] at h
      obtain ⟨j, p', h1, h2⟩ := dGet_some hk (fun q hq => al q (List.mem_cons_of_mem _ hq)) h
      exact ⟨j + 1, p', by simpa using h1, by simpa using h2⟩
theorem dGet_none {k : PV} {a : NestedKey} (hk : keyOf k = some a) : ∀ {kvs : List (PV × PV)}, allK kvs → dGet kvs k = none → a ∉ (kvs.map fun q => kk q.1)
  | [], _, h => by simp
  | (p, u) :: r, al, h => by
    obtain ⟨b, hb⟩ := al (p, u) List.mem_cons_self
    unfold dGet at h
    rw [keyEq_kk hb hk] at h
    by_cases e : b = a
    · rw [decide_eq_true e, if_pos rfl] at h; cases h
    · rw [decide_eq_false e, if_neg Bool.false_ne_true] at h
      have q := dGet_none hk (fun q hq => al q (List.mem_cons_of_mem _ hq)) h
      rw [List.map_cons, List.mem_cons, not_or]
      exact ⟨fun z => e (by simpa [kk, hb] using z.symm), q⟩
theorem dPut_new {k v : PV} {a : NestedKey} (hk : keyOf k = some a) : ∀ {kvs : List (PV × PV)}, allK kvs → a ∉ (kvs.map fun q => kk q.1) → dPut kvs k v = kvs ++ [(k, v)]
  | [], _, _ => rfl
  | (p, u) :: r, al, h => by
    obtain ⟨b, hb⟩ := al (p, u) List.mem_cons_self
    rw [List.map_cons, List.mem_cons, not_or] at h
    unfold dPut
    have e : ¬ b = a := fun z => h.1 (by simp [kk, hb, z])
    rw [keyEq_kk hb hk, decide_eq_false e, if_neg Bool.false_ne_true, dPut_new hk (fun q hq => al q (List.mem_cons_of_mem _ hq)) h.2]
    rfl
theorem dPut_old {k v : PV} {a : NestedKey} (hk : keyOf k = some a) : ∀ {kvs : List (PV × PV)} {j : Nat}, allK kvs → (kvs.map fun q => kk q.1).Nodup → (kvs.map fun q => kk q.1)[j]? = some a → dPut kvs k v = kvs.modify j fun q => (q.1, v)
  | [], j, _, _, h => by simp at h
  | (p, u) :: r, j, al, nd, h => by
    obtain ⟨b, hb⟩ := al (p, u) List.mem_cons_self
    unfold dPut
    rw [keyEq_kk hb hk]
    rw [List.map_cons, List.nodup_cons] at nd
    cases j with
    | zero =>
      simp [kk, hb] at h
      rw [decide_eq_true h, if_pos rfl]
      rfl
    | succ j =>
      rw [List.map_cons, List.getElem?_cons_succ] at h
      have e : ¬ b = a := fun z => nd.1 (by
        have := List.mem_of_getElem? h
        simpa [kk, hb, z] using this)
      rw [decide_eq_false e, if_neg Bool.false_ne_true, dPut_old hk (fun q hq => al q (List.mem_cons_of_mem _ hq)) nd.2 h]
      rfl
theorem dGet_isSome {k : PV} {a : NestedKey} (hk : keyOf k = some a) {kvs : List (PV × PV)} (al : allK kvs) : (dGet kvs k).isSome = decide (a ∈ kvs.map fun q => kk q.1) := by
  cases e : dGet kvs k with
  | none => rw [decide_eq_false (dGet_none hk al e)]; rfl
  | some v =>
    obtain ⟨j, p, _, h2⟩ := dGet_some hk al e
    rw [decide_eq_true (List.mem_of_getElem? h2)]; rfl

section
variable {X : Cx} {ca : String → Addr} {pins : List (Addr × Obj)} {σ : L2.St} {H : Hp} {s : Shared} {M : MM}
mutual
theorem key_is (I : L2.Inv X pins σ H s) : ∀ (p : PV) {v : V} {u : Value} {k : NestedKey}, keyOf p = some k → Rep X.K H p v → RelV v u → NestedIs s.heap k u
  | .non, _, _, _, h, r, q => by cases h; cases r; cases q; exact .none
  | .int i, _, _, _, h, r, q => by cases h; cases r; obtain ⟨t, rfl⟩ := q; exact .int i t
  | .bl b, _, _, _, h, r, q => by cases h; cases r; cases q; exact .bool rfl
  | .str x, _, _, _, h, r, q => by cases h; cases r; obtain ⟨t, rfl⟩ := q; exact .text _ t
  | .tup ps, _, _, _, h, r, q => by
    unfold keyOf at h
    split at h
    · rename_i ks hks
      cases h
      cases r with
      | tup t rs =>
        cases q
        obtain ⟨its, rv, ⟨o, h1, h2, n, h3⟩, _⟩ := I.tuple t.sq
        exact .tup h1 h2 h3 (by simpa using keys_is I ps hks rs rv)
    · cases h
  | .ref _, _, _, _, h, _, _ => by simp [keyOf] at h
  | .kd _, _, _, _, h, _, _ => by simp [keyOf] at h
  | .xl _, _, _, _, h, _, _ => by simp [keyOf] at h
theorem keys_is (I : L2.Inv X pins σ H s) : ∀ (ps : List PV) {vs : List V} {us : List Value} {ks : List NestedKey}, keysOf ps = some ks → Reps X.K H ps vs → Vals vs us → NestedAll s.heap ks us
  | [], _, _, _, h, r, q => by cases h; cases r; cases q; exact .nil
  | p :: ps, _, _, _, h, r, q => by
    unfold keysOf at h
    split at h
    · rename_i k ks h1 h2
      cases h
      cases r with
      | cons a b =>
        cases q with
        | cons c d => exact .cons (key_is I p h1 a c) (keys_is I ps h2 b d)
    · cases h
end
theorem ERep.all {w : World} {K : PySem.W.Frag} {H : Hp} : ∀ {kvs : List (PV × PV)} {es : List DictEntry}, ERep w K H kvs es → allK kvs
  | _, _, .nil => fun q hq => absurd hq (by simp)
  | _, _, .cons h1 _ _ _ _ _ _ t => fun q hq => by
    rcases List.mem_cons.mp hq with e | e
    · subst e; exact ⟨_, h1⟩
    · exact t.all q e
theorem ERep.length {w : World} {K : PySem.W.Frag} {H : Hp} : ∀ {kvs : List (PV × PV)} {es : List DictEntry}, ERep w K H kvs es → kvs.length = es.length
  | _, _, .nil => rfl
  | _, _, .cons _ _ _ _ _ _ _ t => by simp [t.length]
theorem ERep.at_ {w : World} {K : PySem.W.Frag} {H : Hp} : ∀ {kvs : List (PV × PV)} {es : List DictEntry} {j : Nat} {p q : PV} {e : DictEntry}, ERep w K H kvs es → kvs[j]? = some (p, q) → es[j]? = some e →
    ∃ k v u, keyOf p = some k ∧ k.depth ≤ 8 ∧ e.hash = k.hash w ∧ Rep K H p v ∧ RelV v e.key ∧ Rep K H q u ∧ RelV u e.val
  | _, _, _, _, _, _, .nil, h, _ => by simp at h
  | _, _, 0, _, _, _, .cons h1 h2 h3 h4 h5 h6 h7 _, a, b => by
    simp at a b
    obtain ⟨rfl, rfl⟩ := a
    subst b
    exact ⟨_, _, _, h1, h2, h3, h4, h5, h6, h7⟩
  | _, _, j + 1, _, _, _, .cons _ _ _ _ _ _ _ t, a, b => t.at_ (j := j) (by simpa using a) (by simpa using b)
theorem ERep.push {w : World} {K : PySem.W.Frag} {H : Hp} {p q : PV} {k : NestedKey} {e : DictEntry} {v u : V} (h1 : keyOf p = some k) (h2 : k.depth ≤ 8) (h3 : e.hash = k.hash w) (h4 : Rep K H p v) (h5 : RelV v e.key) (h6 : Rep K H q u) (h7 : RelV u e.val) :
    ∀ {kvs : List (PV × PV)} {es : List DictEntry}, ERep w K H kvs es → ERep w K H (kvs ++ [(p, q)]) (es ++ [e])
  | _, _, .nil => .cons h1 h2 h3 h4 h5 h6 h7 .nil
  | _, _, .cons a b c d f g i t => .cons a b c d f g i (t.push h1 h2 h3 h4 h5 h6 h7)
theorem ERep.modify {w : World} {K : PySem.W.Frag} {H : Hp} {q : PV} {u : V} {uv : Value} (h6 : Rep K H q u) (h7 : RelV u uv) :
    ∀ {kvs : List (PV × PV)} {es : List DictEntry} (j : Nat), ERep w K H kvs es → ERep w K H (kvs.modify j fun z => (z.1, q)) (es.modify j fun e => { e with val := uv })
  | _, _, _, .nil => by simpa using .nil
  | _, _, 0, .cons a b c d f g i t => .cons a b c d f h6 h7 t
  | _, _, j + 1, .cons a b c d f g i t => .cons a b c d f g i (t.modify h6 h7 j)
theorem dct_obj (I : L2.Inv X pins σ H s) {a : Addr} {es : Array DictEntry} (h : H a = some (DctO a es)) : ∃ o ep, s.heap.get? a = some o ∧ o.ExactDict ∧ o.data = .dict es ep := (I.hok a _ h).1
theorem dct_keys (I : L2.Inv X pins σ H s) {kvs : List (PV × PV)} {es : Array DictEntry} (r : ERep X.w X.K H kvs es.toList) (nd : (kvs.map fun q => kk q.1).Nodup) : EKs X.w s.heap (kvs.map fun q => kk q.1) es := by
  refine ⟨by rw [List.length_map, r.length, Array.length_toList], fun j k e h1 h2 => ?_, nd⟩
  rw [List.getElem?_map] at h1
  cases hq : kvs[j]? with
  | none => rw [hq] at h1; cases h1
  | some q =>
    rw [hq] at h1
    obtain ⟨p, x⟩ := q
    obtain ⟨k', v, u, g1, g2, g3, g4, g5, _⟩ := r.at_ hq (by rw [Array.getElem?_toList]; exact h2)
    obtain rfl : k' = k := by simpa [kk, g1] using h1
    exact ⟨g3, key_is I p g1 g4 g5, g2⟩
theorem dctO_ok {P : Program} {w : World} {H : Hp} {h : Heap} {a : Addr} {es : Array DictEntry} {o : Obj} {ep : Nat} (h1 : h.get? a = some o) (h2 : o.ExactDict) (h3 : o.data = .dict es ep) : ObjOk P w H h a (DctO a es) :=
  ⟨⟨o, ep, h1, h2, h3⟩, ⟨o, h1⟩, fun h1 h2 ⟨o, ep, e, x, d⟩ k => ⟨o, ep, k o e, x, d⟩⟩
/-- a dict told -/
theorem HRep.dct {w : World} {K : PySem.W.Frag} (h : HRep w ca K M H) {a : Addr} {kvs : List (PV × PV)} (e : M a = some (.dct kvs)) :
    ∃ es : Array DictEntry, H a = some (DctO a es) ∧ ERep w K H kvs es.toList ∧ (kvs.map fun q => kk q.1).Nodup ∧ kvs.length ≤ sizeLine ∧ (a == sysModules) = false := h a _ e
theorem keyOk_iff {p : PV} (h : keyOk p = true) : ∃ k, keyOf p = some k ∧ k.depth ≤ 8 := by
  unfold keyOk at h
  split at h
  · exact ⟨_, by assumption, of_decide_eq_true h⟩
  · cases h
theorem Hands.val {G : Gw} {Qa : KV1} {Q : VK} (h : Hands G H Qa Q) (hM : HRep G.w G.ca G.K M H) {p : PV} {v : V} (r : Rep G.K H p v) (q : Qa p M) : Q v H := h _ _ _ _ hM r (.refl H) q

/-! ### in -/
theorem inSeq {neg : Bool} {x : PV} {ps : List PV} {v : V} {a : Addr} {vs : List V} {Q : Bool → Prop} (rx : Rep X.K H x v) (rs : Reps X.K H ps vs) {b : Bool} (hb : sMem x ps = some b) :
    flatV v = true ∧ vs.all flatV = true ∧ inV v vs = b := sMem_v rx rs hb
theorem so_mem (c : Char) (z : String) : decide (c.toNat ∈ (so z).cps.toList) = z.toList.contains c := by
  have e : (so z).cps.toList = z.toList.map Char.toNat := tl_so z
  rw [e, Bool.eq_iff_iff]
  simp only [decide_eq_true_eq, List.mem_map, List.contains_eq_mem]
  exact ⟨fun ⟨d, h1, h2⟩ => nat_inj h2 ▸ h1, fun h => ⟨c, h, rfl⟩⟩
theorem in_snd (hu : X.A.units + 65 < cLine) : OpR X (compareOp .In) (lift2 (gOf X ca) fun p q M Q => inA p q M fun r => Q (.bl r) M) := by
  intro pins s σ H x y v u Q I rx ry ⟨p, q, M, Qa, hM, rp, rq, hr, hk⟩
  dsimp only at hr
  unfold inA at hr
  split at hr
  · cases rq with
    | @tup a vs _ t rs =>
      split at hr
      · rename_i b hb
        obtain ⟨f1, f2, f3⟩ := sMem_v rp rs hb
        exact op_in_seq pins s σ H _ _ v u Q I rx ry ⟨a, vs, rfl, .inr t.sq, f1, f2, by rw [if_neg Bool.false_ne_true, f3]; exact hk.bl hM hr⟩
      · exact hr.elim
  · cases rq
    split at hr
    · rename_i ps e1
      obtain ⟨vs, h1, rs⟩ := hM.lst e1
      split at hr
      · rename_i b hb
        obtain ⟨f1, f2, f3⟩ := sMem_v rp rs hb
        exact op_in_seq pins s σ H _ _ v u Q I rx ry ⟨_, vs, rfl, .inl (SqL.of h1), f1, f2, by rw [if_neg Bool.false_ne_true, f3]; exact hk.bl hM hr⟩
      · obtain ⟨d, ds, h2, h3, h4, h5, h6⟩ := hr
        exact op_inD hu pins s σ H _ _ v u Q I rx ry ⟨d, ds, deep_dp hM h2 rp, .lst (SqL.of h1) (deep_dpA hM h3 rs), h4, h5, hk.bl hM h6⟩
    · rename_i kvs e1
      obtain ⟨es, h1, h2, h3, h4, h5⟩ := hM.dct e1
      obtain ⟨o, ep, g1, g2, g3⟩ := dct_obj I h1
      obtain ⟨k, hk1, hk2⟩ := keyOk_iff hr.1
      cases ry
      refine in_any (by omega) (key_is I p hk1 rp rx) hk2 h5 g1 g2 g3 (dct_keys I h2 h3) fun t => ?_
      refine ⟨.bl _, H, I.tok t, rfl, ?_⟩
      rw [← dGet_isSome hk1 h2.all]
      exact hk.bl hM hr.2
    · exact hr.elim
  · exact hr.elim
  · cases rq
    split at hr
    · cases rp
      split at hr
      · rename_i c hc
        exact op_in_sign pins s σ H _ _ v u Q I rx ry ⟨c.toNat, so _, by rw [← one_so hc], rfl, by rw [so_mem]; exact hk.bl hM hr⟩
      · exact hr.elim
    · exact hr.elim
  · exact hr.elim
end
end Rx
end

section
set_option maxHeartbeats 4000000
/-! Rx: == of dicts by text keys. -/
namespace Rx
open PySem PySem.Spec PyProof.Rows L2
/-- entries by text keys -/
inductive SRel (K : PySem.W.Frag) (H : Hp) : List (PV × PV) → List (Str × Value) → Prop
  | nil : SRel K H [] []
  | cons {x : String} {v : PV} {u : V} {val : Value} {ka : List (PV × PV)} {kv : List (Str × Value)} : Rep K H v u → RelV u val → SRel K H ka kv → SRel K H ((.str x, v) :: ka) ((so x, val) :: kv)
theorem SRel.length {K : PySem.W.Frag} {H : Hp} : ∀ {ka : List (PV × PV)} {kv : List (Str × Value)}, SRel K H ka kv → ka.length = kv.length
  | _, _, .nil => rfl
  | _, _, .cons _ _ t => by simp [t.length]
theorem srel_of {P : Program} {w : World} {K : PySem.W.Frag} {H : Hp} : ∀ {ka : List (PV × PV)} {es : List DictEntry}, ERep w K H ka es → allS ka = true → ∃ kv, SRel K H ka kv ∧ Pairs (strKind P w) es kv ∧ (∀ e ∈ es, ∃ k, (strKind P w).is k e.key = true ∧ e.hash = (strKind P w).hash k) ∧ kv.map (·.1) = ka.map (fun q => match q.1 with
    | .str x => so x
    | _ => so "")
  | _, _, .nil, _ => ⟨[], .nil, .nil, fun e he => absurd he (by simp), rfl⟩
  | _, _, .cons (p := p) (q := q) (k := k) (e := e) (v := v) (u := u) h1 h2 h3 r1 r2 r3 r4 t, ha => by
    unfold allS at ha
    rw [List.all_cons] at ha
    have a1 := (Bool.and_eq_true_iff.mp ha).1
    have a2 := (Bool.and_eq_true_iff.mp ha).2
    obtain ⟨kv, t1, t2, t3, t4⟩ := srel_of (P := P) (w := w) t a2
    cases p with
    | str x =>
      cases r1
      obtain ⟨tk, ek⟩ := (show ∃ t, e.key = Value.str (so x) t from r2)
      have i1 : (strKind P w).is (so x) e.key = true := by rw [ek]; simp [PySem.strKind, Value.isStrOf]
      have hk : k = .text (so x) := by
        simp only [keyOf, Option.some.injEq] at h1
        exact h1.symm
      refine ⟨(so x, e.val) :: kv, .cons r3 r4 t1, .cons i1 rfl t2, fun z hz => ?_, by rw [List.map_cons, List.map_cons, t4]⟩
      rcases List.mem_cons.mp hz with q | q
      · subst q
        refine ⟨so x, i1, ?_⟩
        rw [h3, hk]; rfl
      · exact t3 z q
    | _ => cases a1
theorem strs_nodup : ∀ {ka : List (PV × PV)}, allS ka = true → (ka.map fun q => kk q.1).Nodup → (ka.map (fun q => match q.1 with
    | .str x => so x
    | _ => so "")).Nodup
  | [], _, _ => List.nodup_nil
  | (p, q) :: r, ha, nd => by
    unfold allS at ha
    rw [List.all_cons] at ha
    have a1 := (Bool.and_eq_true_iff.mp ha).1
    have a2 := (Bool.and_eq_true_iff.mp ha).2
    rw [List.map_cons, List.nodup_cons] at nd ⊢
    refine ⟨fun hm => ?_, strs_nodup a2 nd.2⟩
    cases p with
    | str x =>
      obtain ⟨⟨p', q'⟩, h1, h2⟩ := List.mem_map.mp hm
      have a3 := List.all_eq_true.mp a2 _ h1
      cases p' with
      | str y =>
        have : x = y := so_inj (show so x = so y from h2.symm)
        subst this
        exact nd.1 (List.mem_map.mpr ⟨_, h1, rfl⟩)
      | _ => cases a3
    | _ => cases a1
theorem sget_none {K : PySem.W.Frag} {H : Hp} {k : String} : ∀ {kb : List (PV × PV)} {kv : List (Str × Value)}, SRel K H kb kv → sGet k kb = none → valueAt kv (so k) = none
  | _, _, .nil, _ => rfl
  | _, _, .cons (x := x) _ _ t, h => by
    unfold sGet at h
    split at h
    · cases h
    · rename_i hne
      have := sget_none t h
      unfold valueAt at this ⊢
      rw [List.find?_cons]
      have e : decide (so x = so k) = false := decide_eq_false fun z => hne (so_inj z)
      simp only [e]
      exact this
theorem sget_some {K : PySem.W.Frag} {H : Hp} {k : String} {y : PV} : ∀ {kb : List (PV × PV)} {kv : List (Str × Value)}, SRel K H kb kv → sGet k kb = some y → ∃ u val, valueAt kv (so k) = some val ∧ Rep K H y u ∧ RelV u val
  | _, _, .nil, h => by cases h
  | _, _, .cons (x := x) r1 r2 t, h => by
    unfold sGet at h
    split at h
    · rename_i he
      cases h
      subst he
      refine ⟨_, _, ?_, r1, r2⟩
      unfold valueAt
      rw [List.find?_cons]
      simp
    · rename_i hne
      obtain ⟨u, val, q1, q2, q3⟩ := sget_some t h
      refine ⟨u, val, ?_, q2, q3⟩
      unfold valueAt at q1 ⊢
      rw [List.find?_cons]
      have e : decide (so x = so k) = false := decide_eq_false fun z => hne (so_inj z)
      simp only [e]
      exact q1
theorem deqr_hits {K : PySem.W.Frag} {H : Hp} {A : Around} {s : Shared} {kb : List (PV × PV)} {vb : List (Str × Value)} (tb : SRel K H kb vb) : ∀ {ka : List (PV × PV)} {va : List (Str × Value)} {r : Bool}, SRel K H ka va → dEqR kb ka = some r → PySem.W.KeqHits A s vb va r
  | _, _, _, .nil, h => by cases h; exact .nil
  | _, _, r, .cons (x := x) (v := v) r1 r2 t, h => by
    unfold dEqR at h
    split at h
    · rename_i y hy
      obtain ⟨u, val, q1, q2, q3⟩ := sget_some tb hy
      split at h
      · rename_i e b he hb
        cases h
        obtain ⟨_, _, g3, g4, g5⟩ := sEq_v r1 q2 he
        have z := eqAt_V (A := A) (s := s) r2 q3 g4 g5
        rw [g3] at z
        exact .hit q1 z (deqr_hits tb t hb)
      · cases h
    · rename_i hy
      cases h
      exact .miss (sget_none tb hy)
section
variable {X : Cx} {ca : String → Addr}
theorem dct_of {pins : List (Addr × Obj)} {σ : L2.St} {H : Hp} {s : Shared} {M : MM} (I : L2.Inv X pins σ H s) (hM : HRep X.w ca X.K M H) {a : Addr} {ka : List (PV × PV)} (e : M a = some (.dct ka)) (ha : allS ka = true) :
    ∃ kv, SRel X.K H ka kv ∧ s.heap.DictOf (strKind X.prog X.w) a kv ∧ (a == sysModules) = false := by
  obtain ⟨es, h1, h2, h3, h4, h5⟩ := hM.dct e
  obtain ⟨o, ep, g1, g2, g3⟩ := dct_obj I h1
  obtain ⟨kv, t1, t2, t3, t4⟩ := srel_of (P := X.prog) h2 ha
  refine ⟨kv, t1, ⟨o, es, ep, g1, g2, g3, fun e he => t3 e (by simpa using he), t2, ?_⟩, h5⟩
  rw [t4]; exact strs_nodup ha h3
theorem deq_at (ne : Bool) (hu : X.A.units < cLine) {pins : List (Addr × Obj)} {σ : L2.St} {H : Hp} {s : Shared} {M : MM} {Q : VK} {a b : Addr} {ka kb : List (PV × PV)} {r : Bool} (I : L2.Inv X pins σ H s) (hM : HRep X.w ca X.K M H)
    (ea : M a = some (.dct ka)) (eb : M b = some (.dct kb)) (h : dEq ka kb = some r) (q : Q (.bl (if ne = true then !r else r)) H) :
    wpAny (model X.prog X.w) X.A (compareOp (if ne = true then .NotEq else .Eq) (.ref a) (.ref b)) (EP X pins σ Q) X.xe s := by
  unfold dEq at h
  split at h
  · rename_i hs
    have s1 := (Bool.and_eq_true_iff.mp hs).1
    have s2 := (Bool.and_eq_true_iff.mp hs).2
    obtain ⟨va, a1, a2, a3⟩ := dct_of I hM ea s1
    obtain ⟨vb, b1, b2, b3⟩ := dct_of I hM eb s2
    split at h
    · rename_i r' hr
      cases h
      have hh := deqr_hits (A := X.A.in1) (s := s) b1 a1 hr
      rw [a1.length, b1.length] at q
      cases ne with
      | false => exact PySem.W.keq_eq a3 b3 a2 b2 hu (fun _ => hh) ⟨.bl _, H, I, rfl, q⟩
      | true => exact PySem.W.keq_ne a3 b3 a2 b2 hu (fun _ => hh) ⟨.bl _, H, I, rfl, q⟩
    · cases h
  · cases h
theorem eq_snd (hu : X.A.units + 64 < cLine) : OpR X (compareOp .Eq) (lift2 (gOf X ca) fun p q M Q => eqA p q M fun r => Q (.bl r) M) := by
  intro pins s σ H x y v u Q I rx ry ⟨p, q, M, Qa, hM, rp, rq, hr, hk⟩
  dsimp only at hr
  unfold eqA at hr
  split at hr
  · rename_i b hb
    obtain ⟨h1, h2, _⟩ := sEq_v rp rq hb
    exact op_eq pins s σ H _ _ v u Q I rx ry ⟨h1, by rw [h2]; exact hk.bl hM hr⟩
  · rcases hr with ⟨d, e, h1, h2, h3, h4, h5⟩ | ⟨a, b, ka, kb, r, rfl, rfl, h3, h4, h5, h6⟩
    · exact op_eqD hu pins s σ H _ _ v u Q I rx ry ⟨d, e, deep_dp hM h1 rp, deep_dp hM h2 rq, h3, h4, hk.bl hM h5⟩
    · cases rp; cases rq; cases rx; cases ry
      exact deq_at false (by omega) I hM h3 h4 h5 (hk.bl hM h6)
theorem ne_snd (hu : X.A.units + 64 < cLine) : OpR X (compareOp .NotEq) (lift2 (gOf X ca) fun p q M Q => eqA p q M fun r => Q (.bl (!r)) M) := by
  intro pins s σ H x y v u Q I rx ry ⟨p, q, M, Qa, hM, rp, rq, hr, hk⟩
  dsimp only at hr
  unfold eqA at hr
  split at hr
  · rename_i b hb
    obtain ⟨h1, h2, _⟩ := sEq_v rp rq hb
    exact op_ne pins s σ H _ _ v u Q I rx ry ⟨h1, by rw [h2]; exact hk.bl hM hr⟩
  · rcases hr with ⟨d, e, h1, h2, h3, h4, h5⟩ | ⟨a, b, ka, kb, r, rfl, rfl, h3, h4, h5, h6⟩
    · exact op_neD hu pins s σ H _ _ v u Q I rx ry ⟨d, e, deep_dp hM h1 rp, deep_dp hM h2 rq, h3, h4, hk.bl hM h5⟩
    · cases rp; cases rq; cases rx; cases ry
      exact deq_at true (by omega) I hM h3 h4 h5 (hk.bl hM h6)
end
end Rx
end

section
set_option maxHeartbeats 4000000
/-! Rx: comparisons, items, slices, truth, stores, methods, builtins. -/
namespace Rx
open PySem PySem.Spec PyProof.Rows L2
section
variable {X : Cx} {ca : String → Addr}
theorem notIn_snd (hu : X.A.units + 65 < cLine) : OpR X (compareOp .NotIn) (lift2 (gOf X ca) fun p q M Q => inA p q M fun r => Q (.bl (!r)) M) := by
  intro pins s σ H x y v u Q I rx ry ⟨p, q, M, Qa, hM, rp, rq, hr, hk⟩
  dsimp only at hr
  unfold inA at hr
  split at hr
  · cases rq with
    | @tup a vs _ t rs =>
      split at hr
      · rename_i b hb
        obtain ⟨f1, f2, f3⟩ := sMem_v rp rs hb
        exact op_notIn_seq pins s σ H _ _ v u Q I rx ry ⟨a, vs, rfl, .inr t.sq, f1, f2, by rw [if_pos rfl, f3]; exact hk.bl hM hr⟩
      · exact hr.elim
  · cases rq
    split at hr
    · rename_i ps e1
      obtain ⟨vs, h1, rs⟩ := hM.lst e1
      split at hr
      · rename_i b hb
        obtain ⟨f1, f2, f3⟩ := sMem_v rp rs hb
        exact op_notIn_seq pins s σ H _ _ v u Q I rx ry ⟨_, vs, rfl, .inl (SqL.of h1), f1, f2, by rw [if_pos rfl, f3]; exact hk.bl hM hr⟩
      · obtain ⟨d, ds, h2, h3, h4, h5, h6⟩ := hr
        exact op_notInD hu pins s σ H _ _ v u Q I rx ry ⟨d, ds, deep_dp hM h2 rp, .lst (SqL.of h1) (deep_dpA hM h3 rs), h4, h5, hk.bl hM h6⟩
    · rename_i kvs e1
      obtain ⟨es, h1, h2, h3, h4, h5⟩ := hM.dct e1
      obtain ⟨o, ep, g1, g2, g3⟩ := dct_obj I h1
      obtain ⟨k, hk1, hk2⟩ := keyOk_iff hr.1
      cases ry
      refine notIn_any (by omega) (key_is I p hk1 rp rx) hk2 h5 g1 g2 g3 (dct_keys I h2 h3) fun t => ?_
      refine ⟨.bl _, H, I.tok t, rfl, ?_⟩
      rw [← dGet_isSome hk1 h2.all]
      exact hk.bl hM hr.2
    · exact hr.elim
  · exact hr.elim
  · cases rq
    split at hr
    · cases rp
      split at hr
      · rename_i c hc
        exact op_notIn_sign pins s σ H _ _ v u Q I rx ry ⟨c.toNat, so _, by rw [← one_so hc], rfl, by rw [so_mem]; exact hk.bl hM hr⟩
      · exact hr.elim
    · exact hr.elim
  · exact hr.elim
theorem sLt_v (a b : String) : decide ((Str.ofString a).cps.toList < (Str.ofString b).cps.toList) = sLt a b := rfl
theorem cmp_snd (op : CmpOp) (hu : X.A.units + 65 < cLine) : OpR X (compareOp op) (lift2 (gOf X ca) (cmpE op)) := by
  cases op with
  | Eq => exact eq_snd (by omega)
  | NotEq => exact ne_snd (by omega)
  | In => exact in_snd hu
  | NotIn => exact notIn_snd hu
  | Lt =>
    intro pins s σ H x y v u Q I rx ry ⟨p, q, M, Qa, hM, rp, rq, hr, hk⟩
    unfold cmpE cmpA at hr; dsimp only at hr
    split at hr
    · cases rp; cases rq; exact op_lt pins s σ H _ _ v u Q I rx ry ⟨_, _, rfl, rfl, hk.bl hM hr⟩
    · cases rp; cases rq; exact op_lt_str pins s σ H _ _ v u Q I rx ry ⟨_, _, rfl, rfl, hk.bl hM hr⟩
    · exact hr.elim
  | LtE =>
    intro pins s σ H x y v u Q I rx ry ⟨p, q, M, Qa, hM, rp, rq, hr, hk⟩
    unfold cmpE cmpA at hr; dsimp only at hr
    split at hr
    · cases rp; cases rq; exact op_le pins s σ H _ _ v u Q I rx ry ⟨_, _, rfl, rfl, hk.bl hM hr⟩
    · exact hr.elim
  | Gt =>
    intro pins s σ H x y v u Q I rx ry ⟨p, q, M, Qa, hM, rp, rq, hr, hk⟩
    unfold cmpE cmpA at hr; dsimp only at hr
    split at hr
    · cases rp; cases rq; exact op_gt pins s σ H _ _ v u Q I rx ry ⟨_, _, rfl, rfl, hk.bl hM hr⟩
    · exact hr.elim
  | GtE =>
    intro pins s σ H x y v u Q I rx ry ⟨p, q, M, Qa, hM, rp, rq, hr, hk⟩
    unfold cmpE cmpA at hr; dsimp only at hr
    split at hr
    · cases rp; cases rq; exact op_ge pins s σ H _ _ v u Q I rx ry ⟨_, _, rfl, rfl, hk.bl hM hr⟩
    · exact hr.elim
  | Is =>
    intro pins s σ H x y v u Q I rx ry ⟨p, q, M, Qa, hM, rp, rq, hr, hk⟩
    unfold cmpE cmpA at hr; dsimp only at hr
    split at hr
    · cases rq
      refine op_isN pins s σ H _ _ v u Q I rx ry ⟨rfl, ?_⟩
      split at hr
      · cases rp; rw [decide_eq_true rfl]; exact hk.bl hM hr
      · rename_i hn
        rw [decide_eq_false (fun e => hn (rp.none_iff.mp e))]; exact hk.bl hM hr
    · exact hr.elim
  | IsNot =>
    intro pins s σ H x y v u Q I rx ry ⟨p, q, M, Qa, hM, rp, rq, hr, hk⟩
    unfold cmpE cmpA at hr; dsimp only at hr
    split at hr
    · cases rq
      refine op_notN pins s σ H _ _ v u Q I rx ry ⟨rfl, ?_⟩
      split at hr
      · cases rp; rw [decide_eq_true rfl]; exact hk.bl hM hr
      · rename_i hn
        rw [decide_eq_false (fun e => hn (rp.none_iff.mp e))]; exact hk.bl hM hr
    · exact hr.elim

/-! ### truth -/
def liftTr (G : Gw) (r : PV → MM → (Bool → Prop) → Prop) : V → Hp → (Bool → Hp → Prop) → Prop := fun v H Q => ∃ p M Qa, HRep G.w G.ca G.K M H ∧ Rep G.K H p v ∧ r p M Qa ∧ ∀ b, Qa b → Q b H
theorem Reps.isEmpty {K : PySem.W.Frag} {H : Hp} {ps : List PV} {vs : List V} (r : Reps K H ps vs) : vs.isEmpty = ps.isEmpty := by cases r <;> rfl
theorem so_len0 (s : String) : (((Str.ofString s).length : Int) != 0) = (s.length != 0) := by
  rw [so_len, Bool.eq_iff_iff]; simp
theorem tru_snd : TruR X (liftTr (gOf X ca) truA) := by
  intro pins s σ H x v Q I rx ⟨p, M, Qa, hM, rp, hr, hk⟩
  unfold truA at hr
  split at hr
  · cases rp; exact tru_ok pins s σ H _ v Q I rx ⟨false, rfl, hk _ hr⟩
  · cases rp; exact tru_ok pins s σ H _ v Q I rx ⟨_, rfl, hk _ hr⟩
  · cases rp; exact tru_ok pins s σ H _ v Q I rx ⟨_, rfl, hk _ hr⟩
  · cases rp
    refine tru_ok pins s σ H _ v Q I rx ⟨_, ⟨?_, rfl⟩, ?_⟩
    · rw [so_len]; exact Nat.le_trans hr.1 sz_1000000
    · rw [so_len0]; exact hk _ hr.2
  · cases rp with
    | tup t rs => exact tru_ok pins s σ H _ v Q I rx ⟨_, .inr (.inl ⟨_, t.sq, by rw [rs.isEmpty]⟩), hk _ hr⟩
  · cases rp
    split at hr
    · rename_i ps e1
      obtain ⟨vs, h1, rs⟩ := hM.lst e1
      exact tru_ok pins s σ H _ v Q I rx ⟨_, .inl ⟨_, SqL.of h1, by rw [rs.isEmpty]⟩, hk _ hr⟩
    · exact hr.elim
  · exact hr.elim

/-! ### items -/
theorem atI_rep {K : PySem.W.Frag} {H : Hp} {ps : List PV} {vs : List V} {i : Int} {x : PV} (r : Reps K H ps vs) (h : atI ps i = some x) : ∃ v, atI vs i = some v ∧ Rep K H x v := by
  unfold atI at h ⊢
  rw [← r.length]
  cases e : ixN ps.length i with
  | none => rw [e] at h; cases h
  | some j =>
    rw [e] at h
    exact r.get (show ps[j]? = some x from h)
theorem ix_dct {pins : List (Addr × Obj)} {σ : L2.St} {H : Hp} {s : Shared} {M : MM} {Qa : KV1} {Q : VK} {a : Addr} {kvs : List (PV × PV)} {q x : PV} {y : V} {u : Value} (hu : X.A.units + 65 < cLine) (I : L2.Inv X pins σ H s) (hM : HRep X.w ca X.K M H) (hk : Hands (gOf X ca) H Qa Q)
    (e1 : M a = some (.dct kvs)) (rq : Rep X.K H q y) (ry : RelV y u) (hko : keyOk q = true) (hx : dGet kvs q = some x) (hq : Qa x M) : wpAny (model X.prog X.w) X.A (getItem (.ref a) u) (EP X pins σ Q) X.xe s := by
  obtain ⟨es, h1, h2, h3, h4, h5⟩ := hM.dct e1
  obtain ⟨o, ep, g1, g2, g3⟩ := dct_obj I h1
  obtain ⟨k, hk1, hk2⟩ := keyOk_iff hko
  obtain ⟨j, p, j1, j2⟩ := dGet_some hk1 h2.all hx
  have hl : j < es.size := by
    have := (List.getElem?_eq_some_iff.mp j1).1
    rw [h2.length, Array.length_toList] at this
    exact this
  have he : es[j]? = some es[j] := Array.getElem?_eq_getElem hl
  obtain ⟨_, _, xv, _, _, _, _, _, c6, c7⟩ := h2.at_ j1 (by rw [Array.getElem?_toList]; exact he)
  exact getItem_any (by omega) (key_is I q hk1 rq ry) hk2 g1 g2 g3 (dct_keys I h2 h3) j2 he fun t => ⟨xv, H, I.tok t, c7, hk.val hM c6 hq⟩
theorem kd_strs {K : PySem.W.Frag} {H : Hp} : ∀ {kvs : List (String × PV)} {es : List DictEntry}, KdRep K H kvs es → es.all (fun e => isExactStrKey e.key) = true
  | _, _, .nil => rfl
  | _, _, .cons a _ _ d => by rw [List.all_cons, kd_strs d, a]; rfl
theorem kd_findL {K : PySem.W.Frag} {H : Hp} {s : String} {x : PV} : ∀ {kvs : List (String × PV)} {es : List DictEntry}, KdRep K H kvs es → kvs.lookup s = some x →
    ∃ (j : Nat) (e : DictEntry) (u : V), es.findIdx? (fun e => e.key.isStr (Str.ofString s)) = some j ∧ es[j]? = some e ∧ Rep K H x u ∧ RelV u e.val
  | _, _, .nil, h => by simp at h
  | _, _, .cons (k := k) (t := tk) (e := e) (u := u) a b c d, h => by
    rw [List.findIdx?_cons, a]
    by_cases z : s = k
    · subst z
      rw [List.lookup_cons, beq_self_eq_true] at h
      cases h
      exact ⟨0, e, u, by simp [Value.isStr], rfl, b, c⟩
    · have z' : (s == k) = false := beq_eq_false_iff_ne.mpr z
      rw [List.lookup_cons, z'] at h
      obtain ⟨j, e', u', h1, h2, h3, h4⟩ := kd_findL d h
      have n : (Value.str (Str.ofString k) tk).isStr (Str.ofString s) = false := by
        simp only [Value.isStr, beq_eq_false_iff_ne, ne_eq]
        exact fun q => z (so_inj q).symm
      rw [n, if_neg Bool.false_ne_true, h1]
      exact ⟨j + 1, e', u', rfl, by simpa using h2, h3, h4⟩
theorem kd_find {K : PySem.W.Frag} {H : Hp} {s : String} {x : PV} {kvs : List (String × PV)} {es : Array DictEntry} (r : KdRep K H kvs es.toList) (h : kvs.lookup s = some x) :
    ∃ (j : Nat) (e : DictEntry) (u : V), (es.all fun e => isExactStrKey e.key) = true ∧ es.findIdx? (fun e => e.key.isStr (Str.ofString s)) = some j ∧ es[j]? = some e ∧ Rep K H x u ∧ RelV u e.val := by
  obtain ⟨j, e, u, h1, h2, h3, h4⟩ := kd_findL r h
  refine ⟨j, e, u, by rw [← Array.all_toList]; exact kd_strs r, ?_, by rw [← Array.getElem?_toList]; exact h2, h3, h4⟩
  cases es; simpa using h1
theorem getItem_str_kd {prog : Program} {w : World} {A : Around} {E : Value → Shared → Prop} {s : Shared} {d : Addr} {o : Obj} {es : Array DictEntry} {ep : Nat} {x : Str} {t : Tok} {Q : Value → Shared → Prop} (ho : s.heap.get? d = some o) (hx : o.ExactDict) (hd : o.data = .dict es ep)
    {j : Nat} {e : DictEntry} (hall : (es.all fun e => isExactStrKey e.key) = true) (hf : es.findIdx? (fun e => e.key.isStr x) = some j) (he : es[j]? = some e) (h : ∀ t, Q e.val { s with toks := t }) : wpAny (model prog w) A (getItem (.ref d) (.str x t)) Q E s := by
  have hT := ty_dict ho hx
  unfold getItem
  try with_reducible refine wpAny_holding ?_
  refine wpAny_bind (wpAny_sequenceKey hT (by decide) ?_)
  refine wpAny_bind (wpAny_callSpecial?_slot (name := Str.ofString "__getitem__") hT slot_dict_getitem
    (wpAny_call_entry slot_dict_getitem hT entry_dict_getitem ?_ (args_dict_getitem _ _)))
  show wpAny _ _ (dictGet d (.str x t) >>= _) _ _ s
  refine wpAny_bind ?_
  unfold dictGet
  try with_reducible refine wpAny_holding ?_
  refine wpAny_bind (wpAny_pyHash_str (wpAny_bind (KTD.kt_dictFind_strs (s := { s with toks := s.toks + 1 }) ho hd hall ?_)))
  rw [hf]
  refine wpAny_bind (wpAny_dictEntries (s := { s with toks := s.toks + 1 }) ho hd ?_)
  rw [he]
  exact wpAny_pure (wpAny_pure ⟨e.val, rfl, wpAny_pure (h _)⟩)
theorem sub_snd (hu : X.A.units + 65 < cLine) : IxR X (lift2 (gOf X ca) subA) := by
  intro value slice pins s σ H x y v u Q I rx ry ⟨p, q, M, Qa, hM, rp, rq, hr, hk⟩ hs
  unfold subA at hr
  split at hr
  · cases rq
    cases rp with
    | tup t rs =>
      split at hr
      · rename_i z hz
        obtain ⟨w, h1, h2⟩ := atI_rep rs hz
        exact ix_tup value slice pins s σ H _ _ v u Q I rx ry ⟨_, _, _, w, rfl, rfl, t.sq, h1, hk.val hM h2 hr⟩ hs
      · exact hr.elim
  · cases rq
    cases rp with
    | xl t rs =>
      split at hr
      · rename_i z hz
        obtain ⟨w, h1, h2⟩ := atI_rep rs hz
        exact ix_list value slice pins s σ H _ _ v u Q I rx ry ⟨_, _, _, w, rfl, rfl, t.sq, h1, hk.val hM h2 hr⟩ hs
      · exact hr.elim
  · cases rp
    split at hr
    · rename_i ps e1
      split at hr
      · cases rq
        obtain ⟨vs, h1, rs⟩ := hM.lst e1
        split at hr
        · rename_i z hz
          obtain ⟨w, h3, h2⟩ := atI_rep rs hz
          exact ix_list value slice pins s σ H _ _ v u Q I rx ry ⟨_, _, _, w, rfl, rfl, SqL.of h1, h3, hk.val hM h2 hr⟩ hs
        · exact hr.elim
      · exact hr.elim
    · rename_i kvs e1
      split at hr
      · rename_i z hz
        obtain ⟨es, h1, h2, h3, h4, h5⟩ := hM.dct e1
        obtain ⟨o, ep, g1, g2, g3⟩ := dct_obj I h1
        have w := ix_dct hu I hM hk e1 rq ry hr.1 hz hr.2
        cases rx
        exact tail_any (T := "dict") ⟨o, g1, g2.1⟩ PySem.F.slot_dict_getitem.lookup w hs
      · exact hr.elim
    · exact hr.elim
  · cases rq
    cases rp with
    | @kd a o es ep _ g1 g2 g3 g4 kr =>
      split at hr
      · rename_i z hz
        obtain ⟨j, e, uv, h1, h2, h3, h4, h5⟩ := kd_find kr hz
        cases rx
        obtain ⟨t, rfl⟩ := ry
        refine tail_any (T := "dict") ⟨o, I.kIn _ o g1, g2.1⟩ PySem.F.slot_dict_getitem.lookup (getItem_str_kd (I.kIn _ o g1) g2 g3 h1 h2 h3 fun tk => ?_) hs
        exact ⟨uv, H, I.tok tk, h5, hk.val hM h4 hr⟩
      · exact hr.elim
  · exact hr.elim
/-! ### slices -/
def liftSl (G : Gw) (r : PV → Option Int → Option Int → MM → KV1 → Prop) : V → Option Int → Option Int → Hp → VK → Prop := fun v lo hi H Q => ∃ p M Qa, HRep G.w G.ca G.K M H ∧ Rep G.K H p v ∧ r p lo hi M Qa ∧ Hands G H Qa Q
theorem cut_rep {K : PySem.W.Frag} {H : Hp} {ps : List PV} {vs : List V} (r : Reps K H ps vs) (lo hi : Option Int) : Reps K H (cutP ps lo hi) (cutV vs lo hi) := by
  unfold cutP cutV
  rw [r.length]
  exact (r.drop _).take _
theorem slc_snd : SlR X (liftSl (gOf X ca) slcA) := by
  intro pins s σ H x v vl vu lo hi sl Q I rx hs pl pu ⟨p, M, Qa, hM, rp, hr, hk⟩
  unfold slcA at hr
  split at hr
  · cases rp with
    | @tup a vs ps t rs =>
      refine sl_tupF pins s σ H _ v vl vu lo hi sl Q I rx hs pl pu ⟨_, _, rfl, t.sq, fun hw => ?_, fun p us hp => hk.tup hM (cut_rep rs lo hi) hp hr⟩
      refine hk.val hM (.tup t ?_) hr
      have c := cut_rep rs lo hi
      have e : cutV vs lo hi = vs := by
        unfold cutV
        rw [hw.1, hw.2]; simp
      rwa [e] at c
  · cases rp
    split at hr
    · rename_i ps e1
      obtain ⟨vs, h1, rs⟩ := hM.lst e1
      exact sl_list pins s σ H _ v vl vu lo hi sl Q I rx hs pl pu ⟨_, _, rfl, SqL.of h1, fun p hp => hk.lst hM (cut_rep rs lo hi) hp hr⟩
    · exact hr.elim
  · exact hr.elim
end
end Rx
end

section
set_option maxHeartbeats 4000000
/-! Rx: stores, methods of built-in types. -/
namespace Rx
open PySem PySem.Spec PyProof.Rows L2
section
variable {X : Cx} {ca : String → Addr}
def HandsM (G : Gw) (H : Hp) (k : MM → Prop) (Q : Hp → Prop) : Prop := ∀ M' H', HRep G.w G.ca G.K M' H' → Keep H H' → k M' → Q H'
def lift3 (G : Gw) (r : PV → PV → PV → MM → (MM → Prop) → Prop) : TSet := fun o i v H Q => ∃ p q x M k, HRep G.w G.ca G.K M H ∧ Rep G.K H p o ∧ Rep G.K H q i ∧ Rep G.K H x v ∧ r p q x M k ∧ HandsM G H k Q
theorem mod_nil {α : Type} (f : α → α) : ∀ (l : List α) (j : Nat), (l.modify j f).length = l.length := fun l j => List.length_modify ..
/-- a dict's entries changed -/
theorem dct_write {pins : List (Addr × Obj)} {σ : L2.St} {H : Hp} {s : Shared} {a : Addr} {es es' : Array DictEntry} {h' : Heap} {t : Nat} {o' : Obj} {ep' : Nat} (I : L2.Inv X pins σ H s) (h1 : H a = some (DctO a es))
    (e1 : h'.get? a = some o') (e2 : o'.ExactDict) (e3 : o'.data = .dict es' ep') (sb : Heap.SameBut a s.heap h') : L2.Inv X pins σ (upd H a (DctO a es')) { s with heap := h', toks := t } :=
  I.write (x := a) (e := a) (by rw [h1]; exact True.intro) (.inl rfl) (fun b u hb z => (sb.2 b hb).trans z) ⟨_, e1⟩ (dctO_ok e1 e2 e3)
theorem dct_set {pins : List (Addr × Obj)} {σ : L2.St} {H : Hp} {s : Shared} {M : MM} {a : Addr} {kvs : List (PV × PV)} {q x : PV} {y z : V} {u v : Value} {Q : Unit → Shared → Prop} (hu : X.A.units + 65 < cLine) (I : L2.Inv X pins σ H s) (hM : HRep X.w ca X.K M H)
    (e1 : M a = some (.dct kvs)) (rq : Rep X.K H q y) (ry : RelV y u) (rx : Rep X.K H x z) (rz : RelV z v) (hko : keyOk q = true) (hsz : kvs.length < sizeLine)
    (h : ∀ H' h' t, L2.Inv X pins σ H' { s with heap := h', toks := t } → HRep X.w ca X.K (mput M a (.dct (dPut kvs q x))) H' → Keep H H' → Q () { s with heap := h', toks := t }) :
    wpAny (model X.prog X.w) X.A (setItem (.ref a) u v) Q X.xe s := by
  obtain ⟨es, h1, h2, h3, h4, h5⟩ := hM.dct e1
  obtain ⟨o, ep, g1, g2, g3⟩ := dct_obj I h1
  obtain ⟨k, hk1, hk2⟩ := keyOk_iff hko
  have kp : ∀ es', Keep H (upd H a (DctO a es')) := fun es' => .set h1 rfl
  have ez : es.size = kvs.length := by rw [h2.length, Array.length_toList]
  refine setItem_any (by omega) (key_is I q hk1 rq ry) hk2 g1 g2 g3 (dct_keys I h2 h3) (by omega) (fun hno h' t o' ep' c1 c2 c3 c4 => ?_) fun j hj h' t o' ep' c1 c2 c3 c4 => ?_
  · have hnot : k ∉ kvs.map (fun q => kk q.1) := fun hm => by
      obtain ⟨j, hj⟩ := List.mem_iff_getElem?.mp hm
      exact hno j hj
    refine h _ h' t (dct_write I h1 c1 c2 c3 c4) (hM.set (u := .dct (dPut kvs q x)) h1 rfl ?_) (kp _)
    rw [dPut_new hk1 h2.all hnot]
    refine ⟨_, upd_same, ?_, ?_, by rw [List.length_append, List.length_singleton]; omega, h5⟩
    · rw [Array.toList_push]
      exact (h2.keep (kp _)).push hk1 hk2 rfl (rq.keep (kp _)) ry (rx.keep (kp _)) rz
    · rw [List.map_append, List.nodup_append]
      refine ⟨h3, by simp, fun b hb c hc => ?_⟩
      simp only [List.map_cons, List.map_nil, List.mem_singleton, kk, hk1, Option.getD_some] at hc
      subst hc
      exact fun e => hnot (e ▸ hb)
  · refine h _ h' t (dct_write I h1 c1 c2 c3 c4) (hM.set (u := .dct (dPut kvs q x)) h1 rfl ?_) (kp _)
    rw [dPut_old hk1 h2.all h3 hj]
    refine ⟨_, upd_same, ?_, ?_, by rw [List.length_modify]; omega, h5⟩
    · have e : (es.modify j fun e => { e with val := v }).toList = es.toList.modify j fun e => { e with val := v } := by
        obtain ⟨l⟩ := es
        simp
      rw [e]
      exact (h2.keep (kp _)).modify (rx.keep (kp _)) rz j
    · have e : (kvs.modify j fun q => (q.1, x)).map (fun q => kk q.1) = kvs.map fun q => kk q.1 := by
        apply List.ext_getElem?
        intro i
        rw [List.getElem?_map, List.getElem?_map, List.getElem?_modify]
        cases kvs[i]? with
        | none => rfl
        | some z => by_cases hi : j = i <;> simp [hi]
      rw [e]; exact h3
theorem set_snd (hu : X.A.units + 65 < cLine) : PSet X (lift3 (gOf X ca) setA) := by
  intro pins s σ H o i v ov iv u Q I ro ri rv ⟨p, q, x, M, k, hM, rp, rq, rx, hr, hk⟩
  unfold setA at hr
  split at hr
  · cases rp
    split at hr
    · rename_i ps e1
      split at hr
      · cases rq
        obtain ⟨vs, h1, rs⟩ := hM.lst e1
        split at hr
        · rename_i j hj
          rw [rs.length] at hj
          refine set_list pins s σ H _ _ v ov iv u Q I ro ri rv ⟨_, vs, _, j, rfl, rfl, h1, hj, ?_⟩
          exact hk _ _ (hM.set (u := .lst (ps.set j x)) h1 rfl ⟨_, upd_same, (Reps.set rx j rs).keep (.set h1 rfl)⟩) (.set h1 rfl) hr
        · exact hr.elim
      · exact hr.elim
    · rename_i kvs e1
      cases ro
      exact dct_set hu I hM e1 rq ri rx rv hr.1 hr.2.1 fun H' h' t I' hM' kp => ⟨H', I', hk _ _ hM' kp hr.2.2⟩
    · exact hr.elim
  · exact hr.elim
def liftIn (G : Gw) (r : PV → PV → MM → KV1 → Prop) : V → V → Hp → VK → Prop := lift2 G r
theorem aug_snd (op : Operator) : InOp X op (lift2 (gOf X ca) (augA op)) := by
  intro pins s σ H x y u v Q I rx ry ⟨p, q, M, Qa, hM, rp, rq, hr, hk⟩
  unfold augA at hr
  split at hr
  · cases rp; cases rq
    exact in_add pins s σ H _ _ u v Q I rx ry ⟨_, _, rfl, rfl, hk.int hM hr⟩
  · cases rp; cases rq
    exact in_sub pins s σ H _ _ u v Q I rx ry ⟨_, _, rfl, rfl, hk.int hM hr⟩
  · exact hr.elim
theorem augP_snd (op : Operator) : PIp X op (lift2 (gOf X ca) (augA op)) := fun pins s σ H x y v u Q I rx ry h => aug_snd op pins s σ H x y v u Q I rx ry h

/-! ### methods of built-in types -/
/-- a value is of the type, its object without a dict of its own -/
theorem ty_snd {pins : List (Addr × Obj)} {σ : L2.St} {H : Hp} {s : Shared} {M : MM} {t : String} {p : PV} {v : V} {u : Value} (I : L2.Inv X pins σ H s) (hM : HRep X.w ca X.K M H) (r : Rep X.K H p v) (ru : RelV v u) (h : tyA t p M) :
    s.TypeIs u t ∧ ∀ a, u = .ref a → ∃ ob, s.heap.get? a = some ob ∧ ob.dict = none := by
  unfold tyA at h
  split at h
  · cases r; cases ru
    split at h
    · rename_i ps e1
      subst h
      obtain ⟨vs, h1, rs⟩ := hM.lst e1
      obtain ⟨its, _, pl, _⟩ := I.list (SqL.of h1)
      obtain ⟨o, n, e, c, d, _⟩ := id pl
      exact ⟨pl.isList.typeIs, fun a z => by cases z; exact ⟨o, e, d⟩⟩
    · rename_i kvs e1
      subst h
      obtain ⟨es, h1, h2, h3, h4, h5⟩ := hM.dct e1
      obtain ⟨o, ep, g1, g2, g3⟩ := dct_obj I h1
      exact ⟨⟨o, g1, g2.1⟩, fun a z => by cases z; exact ⟨o, g1, g2.2.1⟩⟩
    · exact h.elim
  · subst h
    cases r with
    | tup t rs =>
      cases ru
      rcases t with ⟨o, h1, h2, h3⟩ | ⟨o, its, n, h1, h2, h3, h4, h5, h6⟩
      · obtain ⟨e, _⟩ := I.hok _ _ h1
        exact ⟨⟨o, e, h2⟩, fun a z => by cases z; exact ⟨o, e, h3⟩⟩
      · exact ⟨⟨o, I.kIn _ _ h1, h2⟩, fun a z => by cases z; exact ⟨o, I.kIn _ _ h1, h3⟩⟩
  · subst h
    cases r
    obtain ⟨t, rfl⟩ := ru
    exact ⟨typeIs_str s _ t, fun _ e => nomatch e⟩
  · exact h.elim
theorem getLast_rep {K : PySem.W.Frag} {H : Hp} {ps : List PV} {vs : List V} {x : PV} (r : Reps K H ps vs) (h : ps[ps.length - 1]? = some x) : ∃ v, vs[vs.length - 1]? = some v ∧ Rep K H x v := by
  rw [← r.length]; exact r.get h
theorem append_snd : MtR X "list.append" (liftM (gOf X ca) (bmA "list" "append")) := by
  intro pins s σ H x xs v us Q I rx rs ⟨p, ps, M, Qa, hM, rp, rps, hr, hk⟩
  unfold bmA at hr
  split at hr <;> first
    | (exfalso; exact hr)
    | skip
  all_goals (try contradiction)
  cases rp
  cases rps with
  | cons r1 r2 =>
    cases r2
    split at hr
    · rename_i ps e1
      obtain ⟨vs, h1, rs'⟩ := hM.lst e1
      exact mt_append pins s σ H _ _ v us Q I rx rs ⟨_, vs, _, rfl, rfl, h1, by rw [← rs'.length]; exact hr.1, hk.set hM h1 (rs'.append (.one r1)) .non hr.2⟩
    · exact hr.elim
theorem extend_snd : MtR X "list.extend" (liftM (gOf X ca) (bmA "list" "extend")) := by
  intro pins s σ H x xs v us Q I rx rs ⟨p, ps, M, Qa, hM, rp, rps, hr, hk⟩
  unfold bmA at hr
  split at hr <;> first
    | (exfalso; exact hr)
    | skip
  all_goals (try contradiction)
  cases rp
  cases rps with
  | cons r1 r2 =>
    cases r2; cases r1
    split at hr
    · rename_i ps qs e1 e2
      obtain ⟨vs, h1, rs1⟩ := hM.lst e1
      obtain ⟨ws, h2, rs2⟩ := hM.lst e2
      exact mt_extend pins s σ H _ _ v us Q I rx rs ⟨_, _, vs, ws, rfl, rfl, h1, h2, by rw [← rs1.length, ← rs2.length]; exact hr.1, hk.set hM h1 (rs1.append rs2) .non hr.2⟩
    · exact hr.elim
theorem reverse_snd : MtR X "list.reverse" (liftM (gOf X ca) (bmA "list" "reverse")) := by
  intro pins s σ H x xs v us Q I rx rs ⟨p, ps, M, Qa, hM, rp, rps, hr, hk⟩
  unfold bmA at hr
  split at hr <;> first
    | (exfalso; exact hr)
    | skip
  all_goals (try contradiction)
  cases rp; cases rps
  split at hr
  · rename_i ps e1
    obtain ⟨vs, h1, rs1⟩ := hM.lst e1
    exact mt_reverse pins s σ H _ _ v us Q I rx rs ⟨_, vs, rfl, rfl, h1, hk.set hM h1 rs1.reverse .non hr⟩
  · exact hr.elim
theorem clear_snd : MtR X "list.clear" (liftM (gOf X ca) (bmA "list" "clear")) := by
  intro pins s σ H x xs v us Q I rx rs ⟨p, ps, M, Qa, hM, rp, rps, hr, hk⟩
  unfold bmA at hr
  split at hr <;> first
    | (exfalso; exact hr)
    | skip
  all_goals (try contradiction)
  cases rp; cases rps
  split at hr
  · rename_i ps e1
    obtain ⟨vs, h1, rs1⟩ := hM.lst e1
    exact mt_clear pins s σ H _ _ v us Q I rx rs ⟨_, vs, rfl, rfl, h1, hk.set hM h1 .nil .non hr⟩
  · exact hr.elim
theorem pop_snd : MtR X "list.pop" (liftM (gOf X ca) (bmA "list" "pop")) := by
  intro pins s σ H x xs v us Q I rx rs ⟨p, ps, M, Qa, hM, rp, rps, hr, hk⟩
  unfold bmA at hr
  split at hr <;> first
    | (exfalso; exact hr)
    | skip
  all_goals (try contradiction)
  cases rp; cases rps
  split at hr
  · rename_i ps e1
    obtain ⟨vs, h1, rs1⟩ := hM.lst e1
    split at hr
    · rename_i z hz
      obtain ⟨w, h2, h3⟩ := getLast_rep rs1 hz
      exact mt_pop pins s σ H _ _ v us Q I rx rs ⟨_, vs, w, rfl, rfl, h1, h2, hk.set hM h1 rs1.dropLast h3 hr⟩
    · exact hr.elim
  · exact hr.elim
theorem strs_rep {K : PySem.W.Frag} {H : Hp} : ∀ {ps : List PV} {ss : List String} {vs : List V}, strsOf ps = some ss → Reps K H ps vs → vs = ss.map fun s => V.str (Str.ofString s)
  | [], ss, vs, h, r => by cases r; cases h; rfl
  | p :: ps, ss, vs, h, r => by
    cases r with
    | cons a b =>
      cases p <;> simp only [strsOf] at h <;> first
        | cases h
        | skip
      split at h
      · rename_i ss' h'
        cases h
        cases a
        rw [List.map_cons, strs_rep h' b]
      · cases h
theorem index_snd : MtR X "tuple.index" (liftM (gOf X ca) (bmA "tuple" "index")) := by
  intro pins s σ H x xs v us Q I rx rs ⟨p, ps, M, Qa, hM, rp, rps, hr, hk⟩
  unfold bmA at hr
  split at hr <;> first
    | (exfalso; exact hr)
    | skip
  all_goals (try contradiction)
  cases rps with
  | cons r1 r2 =>
    cases r2; cases r1
    cases rp with
    | @tup a vs qs t rs1 =>
      split at hr
      · rename_i ss hss
        split at hr
        · rename_i j hj
          have e := strs_rep hss rs1
          have hj2 := List.idxOf?_eq_some_iff.mp hj
          obtain ⟨hl, hj3, hj4⟩ := hj2
          refine mt_tup_index pins s σ H _ _ v us Q I rx rs ⟨a, ss.map Str.ofString, _, j, rfl, rfl, ?_, ?_, ?_, hk.int hM hr⟩
          · rw [List.map_map]
            subst e
            exact t.sq
          · rw [List.getElem?_map, List.getElem?_eq_getElem hl, hj3]; rfl
          · intro m hm q
            rw [List.getElem?_map, List.getElem?_eq_getElem (by omega)] at q
            exact hj4 m hm (so_inj (Option.some.inj q))
        · exact hr.elim
      · exact hr.elim
end
end Rx
end

section
set_option maxHeartbeats 4000000
/-! Rx: builtins. -/
namespace Rx
open PySem PySem.Spec PyProof.Rows L2
section
variable {X : Cx} {ca : String → Addr}
theorem Reps.one_inv {K : PySem.W.Frag} {H : Hp} {p : PV} {vs : List V} (r : Reps K H [p] vs) : ∃ v, vs = [v] ∧ Rep K H p v := by
  cases r with
  | cons a b => cases b; exact ⟨_, rfl, a⟩
theorem Reps.two_inv {K : PySem.W.Frag} {H : Hp} {p q : PV} {vs : List V} (r : Reps K H [p, q] vs) : ∃ v w, vs = [v, w] ∧ Rep K H p v ∧ Rep K H q w := by
  cases r with
  | cons a b =>
    cases b with
    | cons c d => cases d; exact ⟨_, _, rfl, a, c⟩
theorem KdRep.length {K : PySem.W.Frag} {H : Hp} : ∀ {kvs : List (String × PV)} {es : List DictEntry}, KdRep K H kvs es → kvs.length = es.length
  | _, _, .nil => rfl
  | _, _, .cons _ _ _ d => by simp [d.length]
theorem KdRep.size {K : PySem.W.Frag} {H : Hp} {kvs : List (String × PV)} {es : Array DictEntry} (r : KdRep K H kvs es.toList) : es.size = kvs.length := by
  rw [← Array.length_toList]; exact r.length.symm
theorem ERep.size {w : World} {K : PySem.W.Frag} {H : Hp} {kvs : List (PV × PV)} {es : Array DictEntry} (r : ERep w K H kvs es.toList) : es.size = kvs.length := by
  rw [← Array.length_toList]; exact r.length.symm
theorem len_raw {prog : Program} {w : World} {A : Around} {E : Value → Shared → Prop} {s : Shared} {d : Addr} {o : Obj} {es : Array DictEntry} {ep : Nat} {Q : Value → Shared → Prop} (hS : (d == sysModules) = false) (ho : s.heap.get? d = some o) (hx : o.ExactDict) (hd : o.data = .dict es ep) (hz : es.size ≤ sizeLine)
    (h : ∀ t t', Q (.int es.size t) { s with toks := t' }) : wpAny (model prog w) A (call (.builtin "len") [.ref d]) Q E s := by
  rw [sizeLine_eq] at hz
  exact call_len_slot (n := es.size) ⟨o, ho, hx.1⟩ PySem.F.slot_dict_len (fun Q' q => PySem.call_len_raw hS ⟨o, ho, hx, hd⟩ q) (by omega) (by omega) (h _ _)
/-- the keys of a raw dict as a new list -/
theorem list_raw (hc : X.calm = true) {pins : List (Addr × Obj)} {σ : L2.St} {H : Hp} {s : Shared} {d : Addr} {o : Obj} {es : Array DictEntry} {ep : Nat} {vs : List V} {Q : VK} (I : L2.Inv X pins σ H s) (hS : (d == sysModules) = false) (ho : s.heap.get? d = some o) (hx : o.ExactDict)
    (hd : o.data = .dict es ep) (hz : es.size ≤ sizeLine) (rv : Vals vs (es.toList.map (·.key))) (h : ∀ l, H l = none → Q (.ref l) (upd H l (.lst vs))) : wpAny (model X.prog X.w) X.A (call (.type "list") [.ref d]) (EP X pins σ Q) X.xe s := by
  refine PySem.W.kdl_call (kdl_raw hS hx hd) (I.ok.hd hc) ho hz fun h' tk acc c hk hn hi => ?_
  have e : acc.toList = es.toList.map (·.key) := by
    obtain ⟨h1, h2⟩ := hi
    apply List.ext_getElem?
    intro j
    rw [List.getElem?_map, Array.getElem?_toList, Array.getElem?_toList]
    cases q : acc[j]? with
    | some v =>
      obtain ⟨en, g1, g2⟩ := h2 j v q
      rw [g1, g2]; rfl
    | none =>
      have : acc.size ≤ j := by simpa using q
      have : es[j]? = none := by simp; omega
      rw [this]; rfl
  have rv' : Vals vs acc.toList := by rw [e]; exact rv
  refine ⟨.ref s.heap.objs.size, _, I.laid (a := s.heap.objs.size) (o := .lst vs) (t' := tk) hk (Nat.le_refl _) ⟨?_, acc.toList, c, rv', ?_⟩, rfl, h _ (I.hok.fresh (Nat.le_refl _))⟩
  · rw [rv.length, List.length_map, Array.length_toList]; exact hz
  · simpa using hn
theorem erep_keys {w : World} {K : PySem.W.Frag} {H : Hp} : ∀ {kvs : List (PV × PV)} {es : List DictEntry}, ERep w K H kvs es → ∃ vs, Reps K H (kvs.map (·.1)) vs ∧ Vals vs (es.map (·.key))
  | _, _, .nil => ⟨[], .nil, .nil⟩
  | _, _, .cons h1 h2 h3 r1 r2 r3 r4 t => by
    obtain ⟨vs, g1, g2⟩ := erep_keys t
    exact ⟨_ :: vs, .cons r1 g1, .cons r2 g2⟩
theorem kd_keys {K : PySem.W.Frag} {H : Hp} : ∀ {kvs : List (String × PV)} {es : List DictEntry}, KdRep K H kvs es → ∃ vs, Reps K H (kvs.map fun q => .str q.1) vs ∧ Vals vs (es.map (·.key))
  | _, _, .nil => ⟨[], .nil, .nil⟩
  | _, _, .cons (t := tk) h1 r2 r3 t => by
    obtain ⟨vs, g1, g2⟩ := kd_keys t
    exact ⟨_ :: vs, .cons (.str _) g1, .cons ⟨tk, h1⟩ g2⟩
theorem len_snd : CallR X (.builtin "len") (liftC (gOf X ca) (biA "len")) := by
  intro pins s σ H xs us Q I r ⟨ps, M, Qa, hM, rps, hr, hk⟩
  unfold biA at hr
  split at hr <;> first
    | (exfalso; exact hr)
    | skip
  all_goals (try contradiction)
  obtain ⟨v, rfl, rp⟩ := rps.one_inv
  split at hr
  · cases rp
    refine call_len pins s σ H _ us Q I r ⟨_, _, rfl, ⟨?_, rfl⟩, ?_⟩
    · rw [so_len]; exact Nat.le_trans hr.1 sz_1000000
    · rw [so_len]; exact hk.int hM hr.2
  · cases rp with
    | tup t rs => exact call_len pins s σ H _ us Q I r ⟨_, _, rfl, .inr ⟨_, t.sq, rs.length⟩, hk.int hM hr⟩
  · cases rp with
    | xl t rs => exact call_len pins s σ H _ us Q I r ⟨_, _, rfl, .inl ⟨_, t.sq, rs.length⟩, hk.int hM hr⟩
  · cases rp with
    | @kd a o es ep _ g1 g2 g3 g4 kr =>
      obtain ⟨u, rfl, ru⟩ := r.one
      cases ru
      have e := kr.size.symm
      rw [e] at hr
      exact len_raw g4.2 (I.kIn _ _ g1) g2 g3 (by rw [← e, sizeLine_eq]; omega) fun t t' => ⟨.int es.size, H, I.tok t', ⟨t, rfl⟩, hk.int hM hr⟩
  · cases rp
    split at hr
    · rename_i ps e1
      obtain ⟨vs, h1, rs⟩ := hM.lst e1
      exact call_len pins s σ H _ us Q I r ⟨_, _, rfl, .inl ⟨_, SqL.of h1, rs.length⟩, hk.int hM hr⟩
    · rename_i kvs e1
      obtain ⟨es, h1, h2, h3, h4, h5⟩ := hM.dct e1
      obtain ⟨o, ep, g1, g2, g3⟩ := dct_obj I h1
      obtain ⟨u, rfl, ru⟩ := r.one
      cases ru
      have e := h2.size.symm
      rw [e] at hr
      exact len_raw h5 g1 g2 g3 (by rw [← e]; exact h4) fun t t' => ⟨.int es.size, H, I.tok t', ⟨t, rfl⟩, hk.int hM hr⟩
    · exact hr.elim
  · exact hr.elim
theorem list_snd (hc : X.calm = true) : CallR X (.type "list") (liftC (gOf X ca) (biA "list")) := by
  intro pins s σ H xs us Q I r ⟨ps, M, Qa, hM, rps, hr, hk⟩
  unfold biA at hr
  split at hr <;> first
    | (exfalso; exact hr)
    | skip
  all_goals (try contradiction)
  obtain ⟨v, rfl, rp⟩ := rps.one_inv
  split at hr
  · cases rp with
    | tup t rs => exact call_list_of pins s σ H _ us Q I r ⟨_, _, rfl, .inr t.sq, fun l hl => hk.lst hM rs hl hr⟩
  · cases rp with
    | xl t rs => exact call_list_of pins s σ H _ us Q I r ⟨_, _, rfl, .inl t.sq, fun l hl => hk.lst hM rs hl hr⟩
  · cases rp with
    | @kd a o es ep _ g1 g2 g3 g4 kr =>
      obtain ⟨u, rfl, ru⟩ := r.one
      cases ru
      obtain ⟨vs, rv, rk⟩ := kd_keys kr
      exact list_raw hc I g4.2 (I.kIn _ _ g1) g2 g3 (by rw [kr.size, sizeLine_eq]; omega) rk fun l hl => hk.lst hM rv hl hr
  · cases rp
    split at hr
    · rename_i ps e1
      obtain ⟨vs, h1, rs⟩ := hM.lst e1
      exact call_list_of pins s σ H _ us Q I r ⟨_, _, rfl, .inl (SqL.of h1), fun l hl => hk.lst hM rs hl hr⟩
    · rename_i kvs e1
      obtain ⟨es, h1, h2, h3, h4, h5⟩ := hM.dct e1
      obtain ⟨o, ep, g1, g2, g3⟩ := dct_obj I h1
      obtain ⟨u, rfl, ru⟩ := r.one
      cases ru
      obtain ⟨vs, rv, rk⟩ := erep_keys h2
      exact list_raw hc I h5 g1 g2 g3 (by rw [h2.size]; exact h4) rk fun l hl => hk.lst hM rv hl hr
    · exact hr.elim
  · exact hr.elim
theorem tuple_snd : CallR X (.type "tuple") (liftC (gOf X ca) (biA "tuple")) := by
  intro pins s σ H xs us Q I r ⟨ps, M, Qa, hM, rps, hr, hk⟩
  unfold biA at hr
  split at hr <;> first
    | (exfalso; exact hr)
    | skip
  all_goals (try contradiction)
  obtain ⟨v, rfl, rp⟩ := rps.one_inv
  split at hr
  · cases rp with
    | tup t rs => exact call_tupleF pins s σ H _ us Q I r ⟨_, _, rfl, .inr ⟨t.sq, hk.val hM (.tup t rs) hr⟩⟩
  · cases rp
    split at hr
    · rename_i ps e1
      obtain ⟨vs, h1, rs⟩ := hM.lst e1
      exact call_tupleF pins s σ H _ us Q I r ⟨_, _, rfl, .inl ⟨SqL.of h1, fun l us hl => hk.tup hM rs hl hr⟩⟩
    · exact hr.elim
  · exact hr.elim
theorem int_snd : CallR X (.type "int") (liftC (gOf X ca) (biA "int")) := by
  intro pins s σ H xs us Q I r ⟨ps, M, Qa, hM, rps, hr, hk⟩
  unfold biA at hr
  split at hr <;> first
    | (exfalso; exact hr)
    | skip
  all_goals (try contradiction)
  obtain ⟨v, rfl, rp⟩ := rps.one_inv
  split at hr
  · cases rp
    exact call_int1 pins s σ H _ us Q I r (.inl ⟨_, rfl, hk.int hM hr⟩)
  · cases rp
    obtain ⟨hl, n, hn, hq⟩ := hr
    exact call_int_str pins s σ H _ us Q I r ⟨_, n, rfl, hn, by rw [so_len]; exact hl, hk.int hM hq⟩
  · exact hr.elim
theorem min_snd (hc : X.calm = true) : CallR X (.builtin "min") (liftC (gOf X ca) (biA "min")) := by
  intro pins s σ H xs us Q I r ⟨ps, M, Qa, hM, rps, hr, hk⟩
  unfold biA at hr
  split at hr <;> first
    | (exfalso; exact hr)
    | skip
  all_goals (try contradiction)
  obtain ⟨v, w, rfl, rp, rq⟩ := rps.two_inv
  split at hr
  · cases rp; cases rq
    exact call_min2 hc pins s σ H _ us Q I r ⟨_, _, rfl, hk.int hM hr⟩
  · exact hr.elim
theorem max_snd (hc : X.calm = true) : CallR X (.builtin "max") (liftC (gOf X ca) (biA "max")) := by
  intro pins s σ H xs us Q I r ⟨ps, M, Qa, hM, rps, hr, hk⟩
  unfold biA at hr
  split at hr <;> first
    | (exfalso; exact hr)
    | skip
  all_goals (try contradiction)
  obtain ⟨v, w, rfl, rp, rq⟩ := rps.two_inv
  split at hr
  · cases rp; cases rq
    exact call_max2 hc pins s σ H _ us Q I r ⟨_, _, rfl, hk.int hM hr⟩
  · exact hr.elim
theorem bls_rep {K : PySem.W.Frag} {H : Hp} : ∀ {ps : List PV} {bs : List Bool} {vs : List V}, blsOf ps = some bs → Reps K H ps vs → vs = bs.map V.bl
  | [], bs, vs, h, r => by cases r; cases h; rfl
  | p :: ps, bs, vs, h, r => by
    cases r with
    | cons a b =>
      cases p <;> simp only [blsOf] at h <;> first
        | cases h
        | skip
      split at h
      · rename_i bs' h'
        cases h
        cases a
        rw [List.map_cons, bls_rep h' b]
      · cases h
theorem seqA_lst {M : MM} {p : PV} {ps : List PV} {H : Hp} {v : V} (hM : HRep X.w ca X.K M H) (r : Rep X.K H p v) (h : seqA p M = some ps) : ∃ a vs, v = .ref a ∧ (SqL X.K H a vs ∨ SqT X.K H a vs) ∧ Reps X.K H ps vs := by
  unfold seqA at h
  split at h
  · cases h
    cases r with
    | tup t rs => exact ⟨_, _, rfl, .inr t.sq, rs⟩
  · cases h
    cases r with
    | xl t rs => exact ⟨_, _, rfl, .inl t.sq, rs⟩
  · cases r
    split at h
    · rename_i xs e1
      cases h
      obtain ⟨vs, h1, rs⟩ := hM.lst e1
      exact ⟨_, _, rfl, .inl (SqL.of h1), rs⟩
    · cases h
  · cases h
theorem all_snd (hc : X.calm = true) : CallR X (.builtin "all") (liftC (gOf X ca) (biA "all")) := by
  intro pins s σ H xs us Q I r ⟨ps, M, Qa, hM, rps, hr, hk⟩
  unfold biA at hr
  split at hr <;> first
    | (exfalso; exact hr)
    | skip
  all_goals (try contradiction)
  obtain ⟨v, rfl, rp⟩ := rps.one_inv
  split at hr
  · cases rp
    split at hr
    · rename_i ps e1
      split at hr
      · rename_i bs hb
        obtain ⟨vs, h1, rs⟩ := hM.lst e1
        have e := bls_rep hb rs
        subst e
        exact cr_all hc pins s σ H _ us Q I r ⟨_, bs, rfl, SqL.of h1, hk.bl hM hr⟩
      · exact hr.elim
    · exact hr.elim
  · exact hr.elim
theorem any_snd (hc : X.calm = true) : CallR X (.builtin "any") (liftC (gOf X ca) (biA "any")) := by
  intro pins s σ H xs us Q I r ⟨ps, M, Qa, hM, rps, hr, hk⟩
  unfold biA at hr
  split at hr <;> first
    | (exfalso; exact hr)
    | skip
  all_goals (try contradiction)
  obtain ⟨v, rfl, rp⟩ := rps.one_inv
  split at hr
  · cases rp
    split at hr
    · rename_i ps e1
      split at hr
      · rename_i bs hb
        obtain ⟨vs, h1, rs⟩ := hM.lst e1
        have e := bls_rep hb rs
        subst e
        exact cr_any hc pins s σ H _ us Q I r ⟨_, bs, rfl, SqL.of h1, hk.bl hM hr⟩
      · exact hr.elim
    · exact hr.elim
  · exact hr.elim
end
end Rx
end

section
set_option maxHeartbeats 4000000
/-! Rx: methods of texts, str(n), sorted texts. -/
namespace Rx
open PySem PySem.Spec PyProof.Rows L2 TL
theorem reps_strs {K : PySem.W.Frag} {H : Hp} : ∀ ss : List String, Reps K H (ss.map .str) ((ss.map so).map V.str)
  | [] => .nil
  | s :: ss => .cons (.str s) (reps_strs ss)
theorem log_small {n : Nat} (h : n < 1000) : n.log2 < 1920 := by
  by_cases z : n = 0
  · subst z; decide
  · rw [Nat.log2_lt z]
    exact Nat.lt_of_lt_of_le h (Nat.le_trans (by decide : 1000 ≤ 2 ^ 10) (Nat.pow_le_pow_right (by decide) (by decide)))
theorem unso : ∀ {ss : List String} {ys : List Str}, ys.Perm (ss.map so) → ∃ zs : List String, ys = zs.map so ∧ zs.Perm ss := fun {ss ys} h => by
  have key : ∀ {l m : List Str}, l.Perm m → ∀ ss : List String, m = ss.map so → ∃ zs : List String, l = zs.map so ∧ zs.Perm ss := by
    intro l m h
    induction h with
    | nil =>
      intro ss e
      cases ss with
      | nil => exact ⟨[], rfl, .nil⟩
      | cons => cases e
    | cons x _ ih =>
      intro ss e
      cases ss with
      | nil => cases e
      | cons s r =>
        rw [List.map_cons] at e
        injection e with e1 e2
        obtain ⟨zs, h1, h2⟩ := ih r e2
        exact ⟨s :: zs, by rw [List.map_cons, h1, e1], .cons s h2⟩
    | swap x y l =>
      intro ss e
      rcases ss with _ | ⟨a, _ | ⟨b, r⟩⟩
      · cases e
      · cases e
      · rw [List.map_cons, List.map_cons] at e
        injection e with e1 e2
        injection e2 with e2 e3
        exact ⟨b :: a :: r, by rw [List.map_cons, List.map_cons, e1, e2, e3], .swap a b r⟩
    | trans _ _ ih1 ih2 =>
      intro ss e
      obtain ⟨zs, h1, h2⟩ := ih2 ss e
      obtain ⟨ws, h3, h4⟩ := ih1 zs h1
      exact ⟨ws, h3, h4.trans h2⟩
  exact key h ss rfl
section
variable {X : Cx} {ca : String → Addr}
theorem Hands.strs {G : Gw} {H : Hp} {Qa : KV1} {Q : VK} (h : Hands G H Qa Q) {M : MM} (hM : HRep G.w G.ca G.K M H) {ss : List String} (q : newL (ss.map .str) M Qa) : rNewStrs (ss.map so) H Q := fun p hp => h.lst hM (reps_strs ss) hp q
theorem split_snd : MtR X "str.split" (liftM (gOf X ca) (bmA "str" "split")) := by
  intro pins s σ H x xs v us Q I rx rs ⟨p, ps, M, Qa, hM, rp, rps, hr, hk⟩
  unfold bmA at hr
  split at hr <;> first
    | (exfalso; exact hr)
    | skip
  all_goals (try contradiction)
  cases rp
  cases rps with
  | cons r1 r2 =>
    cases r2; cases r1
    split at hr
    · rename_i c hc
      refine mt_split pins s σ H _ _ v us Q I rx rs ⟨_, _, rfl, rfl, ?_, ?_, ?_⟩
      · rw [so_len, ← String.length_toList, hc]; rfl
      · rw [so_len]; have := hr.2.1; rw [sizeLine_eq]; omega
      · rw [split_so hc hr.1]; exact hk.strs hM hr.2.2
    · exact hr.elim
theorem strip_snd : MtR X "str.strip" (liftM (gOf X ca) (bmA "str" "strip")) := by
  intro pins s σ H x xs v us Q I rx rs ⟨p, ps, M, Qa, hM, rp, rps, hr, hk⟩
  unfold bmA at hr
  split at hr <;> first
    | (exfalso; exact hr)
    | skip
  all_goals (try contradiction)
  cases rp
  cases rps with
  | cons r1 r2 =>
    cases r2; cases r1
    split at hr
    · rename_i c hc
      refine mt_stripChars pins s σ H _ _ v us Q I rx rs ⟨_, _, rfl, rfl, ?_, ?_⟩
      · rw [so_len]; exact Nat.le_trans hr.1 sz_1000000
      · rw [strip_so hc]; exact hk.val hM (.str _) hr.2
    · exact hr.elim
theorem join_snd : MtR X "str.join" (liftM (gOf X ca) (bmA "str" "join")) := by
  intro pins s σ H x xs v us Q I rx rs ⟨p, ps, M, Qa, hM, rp, rps, hr, hk⟩
  unfold bmA at hr
  split at hr <;> first
    | (exfalso; exact hr)
    | skip
  all_goals (try contradiction)
  cases rp
  cases rps with
  | cons r1 r2 =>
    cases r2
    split at hr
    · rename_i qs hq
      split at hr
      · rename_i ss hss
        obtain ⟨a, vs, rfl, ha, rs1⟩ := seqA_lst hM r1 hq
        have e := strs_rep hss rs1
        have key : ∀ sep : String, sep.length ≤ 1000 → (joinS sep ss).length ≤ 100000 → ss.length ≤ 1000 → ((ss.map so).map (·.length)).sum + (ss.map so).length * (so sep).length ≤ 16777216 := fun sep h2 h3 h4 => by
          have h1 := join_sum sep ss
          have e1 : (ss.map so).map (·.length) = ss.map String.length := by
            rw [List.map_map]
            exact List.map_congr_left fun z _ => so_len z
          rw [e1, List.length_map, so_len]
          have h5 : ss.length * sep.length ≤ 1000 * 1000 := Nat.mul_le_mul h4 h2
          omega
        refine mt_join pins s σ H _ _ v us Q I rx rs ⟨_, a, ss.map so, rfl, rfl, ?_, ?_, ?_⟩
        · rw [List.map_map]
          subst e
          exact ha
        · exact key _ hr.1 hr.2.1 hr.2.2.1
        · rw [join_eq, join_so]; exact hk.val hM (.str _) hr.2.2.2
      · exact hr.elim
    · exact hr.elim
theorem str_snd : CallR X (.type "str") (liftC (gOf X ca) (biA "str")) := by
  intro pins s σ H xs us Q I r ⟨ps, M, Qa, hM, rps, hr, hk⟩
  unfold biA at hr
  split at hr <;> first
    | (exfalso; exact hr)
    | skip
  all_goals (try contradiction)
  obtain ⟨v, rfl, rp⟩ := rps.one_inv
  split at hr
  · cases rp
    exact call_str_int pins s σ H _ us Q I r ⟨_, rfl, log_small hr.1, hk.val hM (.str _) hr.2⟩
  · exact hr.elim
/-- sorted(xs) of texts in a tuple -/
theorem cr_sortedTS : CallR X (.builtin "sorted") (fun vs H Q => ∃ (a : Addr) (xs : List Str), vs = [V.ref a] ∧ SqT X.K H a (xs.map V.str) ∧ xs.length < 64 ∧
  ∀ (ys : List Str) (p : Addr), ys.Perm xs → sortedS ys = true → H p = none → Q (.ref p) (upd H p (.lst (ys.map V.str)))) := by
  intro pins s σ H xs us Q I r q
  obtain ⟨a, ks, ex, hd, h64, q⟩ := q
  subst ex
  obtain ⟨u, eu, rx⟩ := vals1 r
  subst eu
  cases rx
  obtain ⟨its, rv, ⟨o, ho, hc, n, hdt⟩, hz⟩ := I.tuple hd
  have hlen0 := rv.length
  rw [List.length_map] at hlen0
  refine Calls.call_function_entry PyProof.Rows.kind_sorted PyProof.Rows.plain_sorted PyProof.Rows.entry_sorted (PyProof.Rows.args_sorted1 _) ?_
  unfold Builtin.«sorted»
  refine wpAny_bind (m := checkCount "sorted" 1 1 _) (wpAny_pure ?_)
  refine wpAny_bind (wpAny_collect_seq a (T := "tuple") (.inr rfl) ho hc hdt (fun h' hk => ?_) (by rw [List.size_toArray]; rw [sizeLine_eq]; omega))
  rw [List.toList_toArray]
  have hS : StrsAre its ks := rv.strs
  have I1 : L2.Inv X pins σ H { s with heap := h' } := I.kept (t' := s.toks) hk
  refine wpAny_bind (wpAny_newList ?_ (by rw [sizeLine_eq]; omega))
  have hoL : (h'.push (seqObj "list" its.toArray 0)).get? h'.objs.size = some (seqObj "list" its.toArray 0) := Heap.get?_push_size _ rfl
  show wpAny _ _ _ _ _ { s with heap := h'.push (seqObj "list" its.toArray 0) }
  refine wpAny_bind (wpAny_holding (wpAny_call_entry PyProof.Rows.slot_list_sort ⟨_, hoL, rfl⟩ PyProof.Rows.entry_list_sort
    (list_sort_treeK strKind_oneLt (s := { s with heap := h'.push (seqObj "list" its.toArray 0) }) hoL hS.keysOf (fun v₁ v₂ rest e => keyKind_strs (by rw [← e]; exact hS)) (by omega) fun st' hp hs => ⟨_, rfl, ?_⟩)
    (PyProof.Rows.args_list_sort _)))
  obtain ⟨ys, g1, g2, g3⟩ := sorted_out_str hS hp hs
  obtain ⟨e', he'⟩ := PyProof.Rows.sortedHeap_at (vs := its) (out := (arrOf st').map (·.2)) hoL
  have hlen : (ys.map V.str).length ≤ sizeLine := by
    rw [List.length_map, g2.length_eq]
    exact Nat.le_trans (Nat.le_of_lt h64) (by decide)
  refine wpAny_pure ⟨_, rfl, .ref h'.objs.size, upd H h'.objs.size (.lst (ys.map V.str)), I1.laid (t' := s.toks) (fun b u e => ?_) (Nat.le_refl _)
    (show ObjOk X.prog X.w _ _ _ (.lst (ys.map V.str)) from ⟨hlen, ((arrOf st').map (·.2)).toList, e', vals_of_strs g1, by rw [Array.toArray_toList]; exact he'⟩), rfl, q ys _ g2 g3 (I1.hok.fresh (Nat.le_refl _))⟩
  have hb : b < h'.objs.size := Heap.lt_size e
  rw [PyProof.Rows.sortedHeap_old (Nat.ne_of_lt hb) (by rw [size_push']; exact Nat.lt_succ_of_lt hb)]
  exact Heap.get?_push_of_some _ e
theorem sorted_snd : CallR X (.builtin "sorted") (liftC (gOf X ca) (biA "sorted")) := by
  intro pins s σ H xs us Q I r ⟨ps, M, Qa, hM, rps, hr, hk⟩
  unfold biA at hr
  split at hr <;> first
    | (exfalso; exact hr)
    | skip
  all_goals (try contradiction)
  obtain ⟨v, rfl, rp⟩ := rps.one_inv
  split at hr
  · rename_i qs hq
    split at hr
    · rename_i ss hss
      obtain ⟨a, vs, rfl, ha, rs1⟩ := seqA_lst hM rp hq
      have e := strs_rep hss rs1
      have e2 : vs = (ss.map so).map V.str := by rw [e, List.map_map]; rfl
      have fin : ∀ (ys : List Str) (p : Addr), ys.Perm (ss.map so) → sortedS ys = true → H p = none → Q (.ref p) (upd H p (.lst (ys.map V.str))) := fun ys p hp hs hn => by
        obtain ⟨zs, rfl, hz⟩ := unso hp
        exact hk.strs hM (hr.2 zs hz hs) p hn
      rcases ha with ha | ha
      · exact cr_sortedS pins s σ H _ us Q I r ⟨a, ss.map so, rfl, e2 ▸ ha, by rw [List.length_map]; exact hr.1, fin⟩
      · exact cr_sortedTS pins s σ H _ us Q I r ⟨a, ss.map so, rfl, e2 ▸ ha, by rw [List.length_map]; exact hr.1, fin⟩
    · exact hr.elim
  · exact hr.elim
end
end Rx
end

section
set_option maxHeartbeats 4000000
/-! Rx: what is known around a def's body. -/
namespace Rx
open PySem PySem.Spec PyProof.Rows L2

/-- an error stands for its tree -/
def XRep (G : Gw) (H : Hp) (x : XV) (cls : Value) (d : Option Addr) : Prop :=
  cls = .ref (G.ca x.c) ∧ ((x.fs = [] ∧ d = none) ∨ ∃ dx gs, d = some dx ∧ H dx = some (.xd gs) ∧ FRep G.K H x.fs gs)
def HandsX (G : Gw) (H : Hp) (Ea : XK1) (E : XK) : Prop := ∀ x M' cls d H', HRep G.w G.ca G.K M' H' → XRep G H' x cls d → Keep H H' → Ea x M' → E cls d H'
/-- a contract as a promise -/
def spOf (G : Gw) (n : Nat) (con : Con) : Sp := fun vs H Q E => vs.length = n ∧ ∃ ps M Qa Ea, HRep G.w G.ca G.K M H ∧ Reps G.K H ps vs ∧ con ps M Qa Ea ∧ Hands G H Qa Q ∧ HandsX G H Ea E
/-- what is wished of errors, with the slots -/
def Wish (G : Gw) (xk : XW) : WX := fun cls d σ H => ∃ x g M, Rel G σ H g M ∧ XRep G H x cls d ∧ xk x g M

/-- an own class, for isinstance and == -/
structure OwnCls (K : PySem.W.Frag) (mg : Str → Option Value) (C : Addr) (c : String) : Prop where
  mg : mg (so c) = some (.ref C)
  hg : PySem.W.plainGet K C "__class__" = true
  hd : PySem.W.hasDictIn K C = true
  ha : PySem.W.findIn K (.ref C) "__class__" = some (some (.builtin "object.__class__"))
  hn : PySem.W.specialIn K (.builtin "object.__class__") "__get__" = some (some (.builtin "getset_descriptor.__get__"))
  tk : PySem.W.takesIn K (.builtin "object.__class__") = some true
  mr : PySem.W.mroIn K C (.type "object") = some true
  kit : ∀ t ∈ (["NoneType", "bool", "int", "str", "tuple", "list", "dict"] : List String), PySem.W.kitOne K (.type t) (.ref C) = some false
  nf : PySem.W.notFirst K C (.type "dict") = true ∧ PySem.W.notFirst K C (.type "list") = true
/-- what is known of the defs and classes -/
structure Kn (Γ : Gm) (ca : String → Addr) (X : Cx) : Prop where
  fn : ∀ f n con, Γ.fn f = some (n, con) → ∃ k a fd ps, FnOk X.prog X.w X.K X.mg X.base (L2.CX X.prog X.w) k a fd ps (spOf (gOf X ca) n con) ∧ Room k X.A ∧ X.mg (so f) = some (.ref a) ∧ PySem.W.keepIn X.K (.ref a) = true ∧ Binds X.K fd ps []
  mkc : ∀ c n con, Γ.mkc c = some (n, con) → ∃ k a fd ps, FnOk X.prog X.w X.K X.mg X.base (L2.CX X.prog X.w) k a fd ps (spOf (gOf X ca) n con) ∧ Room (k + 1) X.A ∧ Mk X.K (ca c) a ∧ X.mg (so c) = some (.ref (ca c)) ∧ Binds X.K fd ps [] ∧ ClsOk X.K (ca c) c
  mt : ∀ c m n con, Γ.mt c m = some (n, con) → ∃ k a fd ps, FnOk X.prog X.w X.K X.mg X.base (L2.CX X.prog X.w) k a fd ps (spOf (gOf X ca) n con) ∧ Room k X.A ∧ Meth X.K (ca c) (so m) a ∧ Binds X.K fd ps []
  pr : ∀ c f n con, Γ.pr c f = some (n, con) → ∃ k p a fd ps, FnOk X.prog X.w X.K X.mg X.base (L2.CX X.prog X.w) k a fd ps (spOf (gOf X ca) n con) ∧ Room (k + 1) X.A ∧ PropOf X.K (ca c) (so f) p a ∧ Binds X.K fd ps []
  co : ∀ x p, Γ.co x = some p → ∃ u v, X.mg (so x) = some u ∧ RelV v u ∧ ∀ H, Rep X.K H p v
  bi : ∀ f ∈ biNames, X.mg (so f) = none
  cl : ∀ c, Γ.cl.contains c = true → OwnCls X.K X.mg (ca c) c ∧ ∀ d, Γ.cl.contains d = true → PySem.W.kitOne X.K (.ref (ca d)) (.ref (ca c)) = some (decide (d = c))
  un : X.A.units + 65 < cLine
/-- what is known of a body -/
structure XOk (Γ : Gm) (ca : String → Addr) (xk : XW) (N : List Str) (sc : Scope) (F : Str → Bool) (X : Cx) : Prop where
  kn : Kn Γ ca X
  calm : X.calm = true
  nd : X.N.Nodup
  eN : X.N = N
  eS : X.env.scope = sc
  fn : ∀ x, F x = true → X.fn x = true
  tk : Takes X (Wish (gOf X ca) xk)

theorem takes_no {X : Cx} {ca : String → Addr} : Takes X (Wish (gOf X ca) noX) := fun u s' ⟨a, B, sI, pins, σ, H, cls, d, e, I, nb, up, sky, na, os, ag, x, g, M, h1, h2, h3⟩ => h3.elim
section
variable {Γ : Gm} {ca : String → Addr} {xk : XW} {N : List Str} {sc : Scope} {F : Str → Bool} {X : Cx}
theorem Kn.blk (k : Kn Γ ca X) {s : Shared} {H : Hp} {scope : Scope} {cenv : Env} {fp : List Addr} : Kn Γ ca (X.blk s H scope cenv fp) := ⟨k.fn, k.mkc, k.mt, k.pr, k.co, k.bi, k.cl, k.un⟩
theorem XOk.blk (k : XOk Γ ca xk N sc F X) {s : Shared} {H : Hp} {scope : Scope} {C : Addr} {cl : List (Str × Addr)} {fp : List Addr} :
    XOk Γ ca noX N (relS scope sc) (blkF scope) (X.blk s H scope (compEnvC scope cl C X.env) fp) :=
  ⟨k.kn.blk, k.calm, k.nd, k.eN, by rw [← k.eS]; rfl, fun x h => h, takes_no⟩
theorem XOk.noX (k : XOk Γ ca xk N sc F X) : XOk Γ ca noX N sc F X := ⟨k.kn, k.calm, k.nd, k.eN, k.eS, k.fn, takes_no⟩
end

/-! ### the text's forms -/
theorem and1 {a b : Bool} (h : (a && b) = true) : a = true := by cases a <;> simp_all
theorem and2 {a b : Bool} (h : (a && b) = true) : b = true := by cases a <;> simp_all
theorem base_ok {o : Expr} {name : Str} {env : Env} {w : Sem Value} (h : plainO o = true) : attributeBase o name env w = w := by
  unfold attributeBase
  split
  · cases h
  · rfl
theorem star_ok {e : Expr} {es : List Expr} (h : notStar e = true) (env : Env) : starEach (e :: es) env = (false, eval e env) :: starEach es env := by
  cases e <;> first | rfl | cases h
theorem stars_ok : ∀ {es : List Expr}, es.all notStar = true → ∀ (env : Env) (pos : Pos), (backTo pos (starEach es env)).any (·.1) = false
  | [], _, _, _ => rfl
  | e :: es, h, env, pos => by
    rw [List.all_cons] at h
    rw [star_ok (and1 h)]
    show ((false : Bool) || (backTo pos (starEach es env)).any (·.1)) = false
    rw [stars_ok (and2 h)]; rfl
theorem stars_all : ∀ {es : List Expr}, es.all notStar = true → ∀ (env : Env) (pos : Pos), (backTo pos (starEach es env)).all (fun x => !x.1) = true
  | [], _, _, _ => rfl
  | e :: es, h, env, pos => by
    rw [List.all_cons] at h
    rw [star_ok (and1 h)]
    show ((true : Bool) && (backTo pos (starEach es env)).all (fun x => !x.1)) = true
    rw [stars_all (and2 h)]; rfl
theorem behind_ok {op : CmpOp} {e : Expr} (h : notSet e = true) : behindInMarks op e = false := by
  cases e <;> first | rfl | cases h
theorem fset_ok {e : Expr} (h : notSet e = true) (env : Env) (x : Value) : foldedSetIterable e env x = pure x := by
  cases e <;> first | rfl | cases h
theorem plain_ix {e : Expr} (h : notSlice e = true) : PlainIx e := fun o i => by
  cases e <;> first | rfl | cases h
theorem asgn_ok {e : Expr} {es : List Expr} (h : notStar e = true) (env : Env) : (assignEach (e :: es) env).map (·.2) = assign e env :: (assignEach es env).map (·.2) := by
  cases e <;> first | rfl | cases h
theorem asgn_len : ∀ (es : List Expr) (env : Env), (assignEach es env).length = es.length
  | [], _ => rfl
  | e :: es, env => by
    have ih := asgn_len es env
    cases e <;> (show (assignEach es env).length + 1 = es.length + 1; rw [ih])
theorem asgn_no : ∀ {es : List Expr}, es.all notStar = true → ∀ env : Env, (assignEach es env).findIdx? (·.1) = none
  | [], _, _ => rfl
  | e :: es, h, env => by
    rw [List.all_cons] at h
    have ih := asgn_no (and2 h) env
    have h1 := and1 h
    have key : ∀ t, (assignEach (e :: es) env) = (false, t) :: assignEach es env → (assignEach (e :: es) env).findIdx? (·.1) = none := fun t q => by
      rw [q, List.findIdx?_cons, ih]; rfl
    cases e <;> first
      | exact key _ rfl
      | cases h1
theorem sub_assign {o i : Expr} {pos : Pos} {env : Env} (h : notSlice i = true) : ∀ v, assign (.Subscript o i pos) env v = (do
      let ov ← holding [v] (eval o env)
      let iv ← holding [v, ov] (eval i env)
      standAt pos
      holding [v, ov, iv] (setItem ov iv v)
      release [v, ov, iv] []) := fun v => by
  cases i <;> first | rfl | cases h
theorem gl_ok {X : Cx} {sc : Scope} (e : X.env.scope = sc) {x : Str} (h : glb sc x = true) : Gl X x := by
  show X.env.scope.names.lookup x = _
  rw [e]; exact of_decide_eq_true h
theorem nm_dbg {x : Str} (h : nmOk x = true) : (x == ("__debug__" : Str)) = false := by
  unfold nmOk at h
  have := and1 (and1 h)
  simpa using this
theorem nm_cd {x : Str} (h : nmOk x = true) : (x == ("__classdict__" : Str)) = false := by
  unfold nmOk at h
  have := and2 (and1 h)
  simpa using this
theorem nm_name {x : Str} (h : nmOk x = true) : x ≠ "__name__" := by
  unfold nmOk at h
  have := and2 h
  simpa using this
theorem vis_ok {X : Cx} {sc : Scope} (e : X.env.scope = sc) {x : Str} (h : visB sc x = true) : Vis X.env.scope x := by
  rw [e]
  unfold visB at h
  split at h
  · exact .inl (by assumption)
  · exact .inr (.inl (by assumption))
  · exact .inr (.inr (by assumption))
  · cases h
/-- a method call as it is run -/
def plOf (o : Expr) (env : Env) : Sem Bool := do return (← importBound o env).getD true
theorem meth_form {o : Expr} {m : Str} {ap pos : Pos} {es : List Expr} {env : Env} (h1 : plainO o = true) (h2 : ap.endLine = pos.line) (h3 : es.length < 29) (h4 : es.all notStar = true) :
    eval (.Call (.Attribute o m ap) es [] pos) env = (do
      let ov ← eval o env
      standAt ap.atName
      let (f, first) ← holding [ov] (getMethod ov m (plOf o env))
      callWith pos f first (backTo pos (starEach es env)) (backToKw pos (keywordEach [] env))) := by
  rw [arm_eval_Call, base_ok h1]
  have hform : methodCallForm (es.length + ([] : List Keyword).length) (backTo pos (starEach es env)) (backToKw pos (keywordEach [] env)) = true := by
    unfold methodCallForm
    rw [stars_all h4]
    simp [backToKw, keywordEach]
    omega
  have hpos : methodCallPos true o env ap pos = pure pos := by unfold methodCallPos; simp [h2]
  unfold methodCall calleeOf
  rw [hform]
  simp only [hpos, if_true, pure_bind]
  rfl
theorem few_ok {es : List Expr} {env : Env} {pos : Pos} (h3 : es.length < 29) (h4 : es.all notStar = true) : ((backTo pos (starEach es env)).all (fun x => !x.1) && (backToKw pos (keywordEach [] env)).all (fun x => x.1.isSome)
      && decide (es.length + ([] : List Keyword).length + (if ([] : List Keyword).isEmpty then 0 else 1) < 30)) = true := by
  rw [stars_all h4]
  simp [backToKw, keywordEach]
  omega
end Rx
end

section
set_option maxHeartbeats 4000000
/-! Rx: the readings of expressions, rule by rule. -/
namespace Rx
open PySem PySem.Spec PyProof.Rows L2
section
variable {X : Cx} {ca : String → Addr} {a b c : Expr} {ra rb rc : RE} {pos : Pos}
theorem lift_run {G : Gw} {σ : L2.St} {H : Hp} {r : RE} {Qa : KV1} {g : Sg} {M : MM} {Q : VK} (rel : Rel G σ H g M) (run : r g M Qa)
    (h : ∀ p M' v H', Rel G σ H' g M' → Rep G.K H' p v → Keep H H' → Qa p M' → Q v H') : liftE G r σ H Q :=
  ⟨g, M, Qa, rel, run, fun p M' v H' hM rp k q => h p M' v H' (rel.go k hM) rp k q⟩
theorem liftT_run {G : Gw} {σ : L2.St} {H : Hp} {r : RT} {Qa : Bool → MM → Prop} {g : Sg} {M : MM} {Q : Bool → Hp → Prop} (rel : Rel G σ H g M) (run : r g M Qa)
    (h : ∀ b M' H', Rel G σ H' g M' → Keep H H' → Qa b M' → Q b H') : liftT G r σ H Q :=
  ⟨g, M, Qa, rel, run, fun p M' H' hM k q => h p M' H' (rel.go k hM) k q⟩
theorem liftA_run {G : Gw} {σ : L2.St} {H : Hp} {r : RA} {Qa : List PV → MM → Prop} {g : Sg} {M : MM} {Q : List V → Hp → Prop} (rel : Rel G σ H g M) (run : r g M Qa)
    (h : ∀ p M' v H', Rel G σ H' g M' → Reps G.K H' p v → Keep H H' → Qa p M' → Q v H') : liftA G r σ H Q :=
  ⟨g, M, Qa, rel, run, fun p M' v H' hM rp k q => h p M' v H' (rel.go k hM) rp k q⟩
theorem hands_of {G : Gw} {H H1 : Hp} {Qa : KV1} {Q : VK} (hk : ∀ p M' v H', HRep G.w G.ca G.K M' H' → Rep G.K H' p v → Keep H H' → Qa p M' → Q v H') (k : Keep H H1) : Hands G H1 Qa Q := fun p M' v H' a b c d => hk p M' v H' a b (k.trans c) d

/-- two operands -/
theorem e_op {f : Value → Value → Sem Value} {r : PV → PV → MM → KV1 → Prop} {σ : L2.St} {H : Hp} {Q : VK}
    (h : liftE (gOf X ca) (fun g M Q => ra g M fun p M1 => rb g M1 fun q M2 => r p q M2 Q) σ H Q) : tOp (lift2 (gOf X ca) r) (liftE (gOf X ca) ra) (liftE (gOf X ca) rb) σ H Q := by
  obtain ⟨g, M, Qa, rel, run, hk⟩ := h
  exact lift_run rel run fun p M1 v H1 rel1 rp k1 q1 => lift_run rel1 q1 fun q M2 w H2 rel2 rq k2 q2 => ⟨p, q, M2, Qa, rel2.h, rp.keep k2, rq, q2, hands_of hk (k1.trans k2)⟩
theorem e_bin (op : Operator) (ha : PE X a (liftE (gOf X ca) ra)) (hb : PE X b (liftE (gOf X ca) rb)) :
    PE X (.BinOp a op b pos) (liftE (gOf X ca) fun g M Q => ra g M fun p M1 => rb g M1 fun q M2 => binA op p q M2 Q) :=
  PE.imp (pe_op (bin_snd op) ha hb) fun σ H Q h => e_op (f := binaryOp op) h
theorem e_neg (ha : PE X a (liftE (gOf X ca) ra)) : PE X (.UnaryOp .USub a pos) (liftE (gOf X ca) fun g M Q => ra g M fun p M1 => match p with
    | .int i => Q (.int (-i)) M1
    | _ => False) :=
  PE.imp (pe_un un_neg ha) fun σ H Q h => by
    obtain ⟨g, M, Qa, rel, run, hk⟩ := h
    refine lift_run rel run fun p M1 v H1 rel1 rp k1 q1 => ?_
    split at q1
    · cases rp
      exact ⟨_, rfl, (hands_of hk k1).int rel1.h q1⟩
    · exact q1.elim
theorem e_cmp (op : CmpOp) (hu : X.A.units + 65 < cLine) (hm : behindInMarks op b = false) (ha : PE X a (liftE (gOf X ca) ra)) (hb : PE X b (liftE (gOf X ca) rb)) :
    PE X (.Compare a [op] [b] pos) (liftE (gOf X ca) fun g M Q => ra g M fun p M1 => rb g M1 fun q M2 => cmpA op p q M2 fun r => Q (.bl r) M2) :=
  PE.imp (pe_cmpR (cmp_snd op hu) ha hb hm) fun σ H Q h => e_op (f := compareOp op) h
/-- a wish of truths as one of values -/
def qB (Q : Bool → MM → Prop) : KV1 := fun p M => match p with
  | .bl b => Q b M
  | _ => False
theorem qB_hand {G : Gw} {H : Hp} {Qa : Bool → MM → Prop} {Q : Bool → Hp → Prop} (hk : ∀ b M' H', HRep G.w G.ca G.K M' H' → Keep H H' → Qa b M' → Q b H') :
    ∀ p M' v H', HRep G.w G.ca G.K M' H' → Rep G.K H' p v → Keep H H' → qB Qa p M' → ∃ k, v = .bl k ∧ Q k H' := fun p M' v H' hM rp k q => by
  unfold qB at q
  split at q
  · cases rp
    exact ⟨_, rfl, hk _ _ _ hM k q⟩
  · exact q.elim
theorem t_cmp (op : CmpOp) (hu : X.A.units + 65 < cLine) (hm : behindInMarks op b = false) (ha : PE X a (liftE (gOf X ca) ra)) (hb : PE X b (liftE (gOf X ca) rb)) :
    PT X (.Compare a [op] [b] pos) (liftT (gOf X ca) fun g M Q => ra g M fun p M1 => rb g M1 fun q M2 => cmpA op p q M2 fun r => Q r M2) :=
  PT.imp (pt_cmpR (cmp_snd op hu) ha hb hm) fun σ H Q h => by
    obtain ⟨g, M, Qa, rel, run, hk⟩ := h
    exact e_op (f := compareOp op) (r := cmpE op) ⟨g, M, qB Qa, rel, run, qB_hand hk⟩
theorem last_ok {o1 o2 : CmpOp} {b c : Expr} (h : behindInMarks o2 c = false) : lastMarks [o1, o2] [b, c] = false := by
  unfold lastMarks
  exact h
theorem e_chain' (o1 o2 : CmpOp) {rc : RE} {σ : L2.St} {H : Hp} {Q : VK}
    (h : liftE (gOf X ca) (fun g M Q => ra g M fun p M1 => rb g M1 fun q M2 => cmpA o1 p q M2 fun r => if r = true then rc g M2 fun s M3 => cmpA o2 q s M3 fun r => Q (.bl r) M3 else Q (.bl false) M2) σ H Q) :
    tChain (lift2 (gOf X ca) (cmpE o1)) (lift2 (gOf X ca) (cmpE o2)) (liftE (gOf X ca) ra) (liftE (gOf X ca) rb) (liftE (gOf X ca) rc) σ H Q := by
  obtain ⟨g, M, Qa, rel, run, hk⟩ := h
  refine lift_run rel run fun p M1 v H1 rel1 rp k1 q1 => lift_run rel1 q1 fun q M2 w H2 rel2 rq k2 q2 => ?_
  refine ⟨p, q, M2, qB fun r M2 => if r = true then rc g M2 fun s M3 => cmpA o2 q s M3 fun r => Qa (.bl r) M3 else Qa (.bl false) M2, rel2.h, rp.keep k2, rq, q2, fun p' M' v' H' hM rp' k3 q3 => ?_⟩
  unfold qB at q3
  split at q3
  · rename_i r
    cases rp'
    have k13 := (k1.trans k2).trans k3
    refine ⟨_, rfl, ?_⟩
    cases r with
    | true =>
      simp only [if_true] at q3 ⊢
      exact lift_run (rel2.go k3 hM) q3 fun s M4 u H4 rel4 rs k4 q4 => ⟨q, s, M4, Qa, rel4.h, (rq.keep k3).keep k4, rs, q4, hands_of hk (k13.trans k4)⟩
    | false =>
      simp only [Bool.false_eq_true, if_false] at q3 ⊢
      exact (hands_of hk k13).bl hM q3
  · exact q3.elim
theorem e_chain (o1 o2 : CmpOp) (hu : X.A.units + 65 < cLine) (hm : behindInMarks o2 c = false) (ha : PE X a (liftE (gOf X ca) ra)) (hb : PE X b (liftE (gOf X ca) rb)) (hc : PE X c (liftE (gOf X ca) rc)) :
    PE X (.Compare a [o1, o2] [b, c] pos) (liftE (gOf X ca) fun g M Q => ra g M fun p M1 => rb g M1 fun q M2 => cmpA o1 p q M2 fun r =>
      if r = true then rc g M2 fun s M3 => cmpA o2 q s M3 fun r => Q (.bl r) M3 else Q (.bl false) M2) :=
  PE.imp (pe_chain (cmp_snd o1 hu) (cmp_snd o2 hu) ha hb hc (last_ok hm)) fun σ H Q h => e_chain' o1 o2 h
theorem t_chain (o1 o2 : CmpOp) (hu : X.A.units + 65 < cLine) (hm : behindInMarks o2 c = false) (ha : PE X a (liftE (gOf X ca) ra)) (hb : PE X b (liftE (gOf X ca) rb)) (hc : PE X c (liftE (gOf X ca) rc)) :
    PT X (.Compare a [o1, o2] [b, c] pos) (liftT (gOf X ca) fun g M Q => ra g M fun p M1 => rb g M1 fun q M2 => cmpA o1 p q M2 fun r =>
      if r = true then rc g M2 fun s M3 => cmpA o2 q s M3 fun r => Q r M3 else Q false M2) :=
  PT.imp (pt_chain (cmp_snd o1 hu) (cmp_snd o2 hu) ha hb hc (last_ok hm)) fun σ H Q h => by
    obtain ⟨g, M, Qa, rel, run, hk⟩ := h
    exact e_chain' o1 o2 ⟨g, M, qB Qa, rel, run, qB_hand hk⟩
/-- a value's truth -/
theorem e_tru {σ : L2.St} {H : Hp} {Q : Bool → Hp → Prop} (h : liftT (gOf X ca) (fun g M Q => ra g M fun p M1 => truA p M1 fun b => Q b M1) σ H Q) :
    liftE (gOf X ca) ra σ H fun x H' => liftTr (gOf X ca) truA x H' Q := by
  obtain ⟨g, M, Qa, rel, run, hk⟩ := h
  exact lift_run rel run fun p M1 v H1 rel1 rp k1 q1 => ⟨p, M1, fun b => Qa b M1, rel1.h, rp, q1, fun b q => hk b M1 H1 rel1.h k1 q⟩
theorem t_val (ha : PE X a (liftE (gOf X ca) ra)) (he : ∀ whole, isTrue a X.env whole = (do let v ← whole; standAt a.pos; holding [v] (truthy v))) :
    PT X a (liftT (gOf X ca) fun g M Q => ra g M fun p M1 => truA p M1 fun b => Q b M1) :=
  PT.imp (pt_truthR ha tru_snd he) fun σ H Q h => e_tru h
theorem e_not (ha : PE X a (liftE (gOf X ca) ra)) : PE X (.UnaryOp .Not a pos) (liftE (gOf X ca) fun g M Q => ra g M fun p M1 => truA p M1 fun b => Q (.bl (!b)) M1) := by
  refine ⟨fun pins s σ H Q I h => ?_⟩
  obtain ⟨g, M, Qa, rel, run, hk⟩ := h
  refine UnaryOp_ (thn (ha.run pins s σ H _ I (lift_run (Q := fun v H1 => liftTr (gOf X ca) truA v H1 fun b H2 => Q (.bl (!b)) H2) rel run fun p M1 v H1 rel1 rp k1 q1 =>
    ⟨p, M1, fun b => Qa (.bl (!b)) M1, rel1.h, rp, q1, fun b q => (hands_of hk k1).bl rel1.h q⟩)) fun v s1 ⟨x, H1, I1, r1, q1⟩ => ?_)
  exact not_of (thn (tru_snd pins s1 σ H1 x v _ I1 r1 q1) fun c s2 ⟨H2, I2, q2⟩ => ⟨.bl (!c), H2, I2, rfl, q2⟩)
theorem t_not {r : RT} (ha : PT X a (liftT (gOf X ca) r)) : PT X (.UnaryOp .Not a pos) (liftT (gOf X ca) fun g M Q => r g M fun b M1 => Q (!b) M1) :=
  PT.imp (pt_not ha) fun σ H Q h => by
    obtain ⟨g, M, Qa, rel, run, hk⟩ := h
    exact liftT_run rel run fun b M1 H1 rel1 k1 q1 => hk _ _ _ rel1.h k1 q1
theorem e_and {rest : List Expr} (ha : PE X a (liftE (gOf X ca) ra)) (hb : PE X (.BoolOp .And (b :: rest) pos) (liftE (gOf X ca) rb)) :
    PE X (.BoolOp .And (a :: b :: rest) pos) (liftE (gOf X ca) fun g M Q => ra g M fun p M1 => match p with
    | .bl c => if c = true then rb g M1 Q else Q (.bl false) M1
    | _ => False) :=
  PE.imp (pe_and ha hb) fun σ H Q h => by
    obtain ⟨g, M, Qa, rel, run, hk⟩ := h
    refine lift_run rel run fun p M1 v H1 rel1 rp k1 q1 => ?_
    split at q1
    · rename_i c
      cases rp
      refine ⟨c, rfl, ?_⟩
      cases c with
      | true =>
        simp only [if_true] at q1 ⊢
        exact ⟨g, M1, Qa, rel1, q1, hands_of hk k1⟩
      | false =>
        simp only [Bool.false_eq_true, if_false] at q1 ⊢
        exact (hands_of hk k1).bl rel1.h q1
    · exact q1.elim
theorem e_or {rest : List Expr} (ha : PE X a (liftE (gOf X ca) ra)) (hb : PE X (.BoolOp .Or (b :: rest) pos) (liftE (gOf X ca) rb)) :
    PE X (.BoolOp .Or (a :: b :: rest) pos) (liftE (gOf X ca) fun g M Q => ra g M fun p M1 => match p with
    | .bl c => if c = true then Q (.bl true) M1 else rb g M1 Q
    | _ => False) :=
  PE.imp (pe_or ha hb) fun σ H Q h => by
    obtain ⟨g, M, Qa, rel, run, hk⟩ := h
    refine lift_run rel run fun p M1 v H1 rel1 rp k1 q1 => ?_
    split at q1
    · rename_i c
      cases rp
      refine ⟨c, rfl, ?_⟩
      cases c with
      | true =>
        simp only [if_true] at q1 ⊢
        exact (hands_of hk k1).bl rel1.h q1
      | false =>
        simp only [Bool.false_eq_true, if_false] at q1 ⊢
        exact ⟨g, M1, Qa, rel1, q1, hands_of hk k1⟩
    · exact q1.elim
theorem w_and {rest : List Expr} {r r' : RT} (ha : PT X a (liftT (gOf X ca) r)) (hb : PW X (.BoolOp .And (b :: rest) pos) (liftT (gOf X ca) r')) :
    PW X (.BoolOp .And (a :: b :: rest) pos) (liftT (gOf X ca) fun g M Q => r g M fun c M1 => if c = true then r' g M1 Q else Q false M1) :=
  PW.imp (pw_and ha hb) fun σ H Q h => by
    obtain ⟨g, M, Qa, rel, run, hk⟩ := h
    refine liftT_run rel run fun c M1 H1 rel1 k1 q1 => ?_
    cases c with
    | true =>
      simp only [if_true] at q1 ⊢
      exact ⟨g, M1, Qa, rel1, q1, fun b M' H' hM k q => hk b M' H' hM (k1.trans k) q⟩
    | false =>
      simp only [Bool.false_eq_true, if_false] at q1 ⊢
      exact hk _ _ _ rel1.h k1 q1
theorem w_or {rest : List Expr} {r r' : RT} (ha : PT X a (liftT (gOf X ca) r)) (hb : PW X (.BoolOp .Or (b :: rest) pos) (liftT (gOf X ca) r')) :
    PW X (.BoolOp .Or (a :: b :: rest) pos) (liftT (gOf X ca) fun g M Q => r g M fun c M1 => if c = true then Q true M1 else r' g M1 Q) :=
  PW.imp (pw_or ha hb) fun σ H Q h => by
    obtain ⟨g, M, Qa, rel, run, hk⟩ := h
    refine liftT_run rel run fun c M1 H1 rel1 k1 q1 => ?_
    cases c with
    | true =>
      simp only [if_true] at q1 ⊢
      exact hk _ _ _ rel1.h k1 q1
    | false =>
      simp only [Bool.false_eq_true, if_false] at q1 ⊢
      exact ⟨g, M1, Qa, rel1, q1, fun b M' H' hM k q => hk b M' H' hM (k1.trans k) q⟩
theorem e_ite {r : RT} (hc : PT X c (liftT (gOf X ca) r)) (ha : PE X a (liftE (gOf X ca) ra)) (hb : PE X b (liftE (gOf X ca) rb)) :
    PE X (.IfExp c a b pos) (liftE (gOf X ca) fun g M Q => r g M fun d M1 => if d = true then ra g M1 Q else rb g M1 Q) :=
  PE.imp (pe_ifExp hc ha hb) fun σ H Q h => by
    obtain ⟨g, M, Qa, rel, run, hk⟩ := h
    refine liftT_run rel run fun c M1 H1 rel1 k1 q1 => ?_
    cases c with
    | true =>
      simp only [if_true] at q1 ⊢
      exact ⟨g, M1, Qa, rel1, q1, hands_of hk k1⟩
    | false =>
      simp only [Bool.false_eq_true, if_false] at q1 ⊢
      exact ⟨g, M1, Qa, rel1, q1, hands_of hk k1⟩
/-- names, constants -/
theorem e_const {v : V} {p : PV} (h : PE X a (tC v)) (r : ∀ H, Rep X.K H p v) : PE X a (liftE (gOf X ca) fun _ M Q => Q p M) :=
  PE.imp h fun σ H Q ⟨g, M, Qa, rel, run, hk⟩ => hk p M v H rel.h (r H) (.refl H) run
theorem e_var {i : Nat} {x : Str} (hN : X.N[i]? = some x) (hv : Vis X.env.scope x) (hd : (x == ("__debug__" : Str)) = false) (hcd : (x == ("__classdict__" : Str)) = false) :
    PE X (.Name x pos) (liftE (gOf X ca) fun g M Q => match g[i]? with
    | some (some p) => Q p M
    | _ => False) :=
  PE.imp (pe_var hN hv hd hcd) fun σ H Q h => by
    obtain ⟨g, M, Qa, rel, run, hk⟩ := h
    split at run
    · rename_i p e
      obtain ⟨v, h1, h2⟩ := rel.s.at_ i p e
      exact ⟨v, h1, hk p M v H rel.h h2 (.refl H) run⟩
    · exact run.elim
/-- argument lists -/
theorem a_nil : PA X [] (liftA (gOf X ca) fun _ M Q => Q [] M) := PA.imp pa_nil fun σ H Q ⟨g, M, Qa, rel, run, hk⟩ => hk [] M [] H rel.h .nil (.refl H) run
theorem a_cons {es : List Expr} {r : RA} (ha : PE X a (liftE (gOf X ca) ra)) (hr : PA X es (liftA (gOf X ca) r)) (hs : notStar a = true) :
    PA X (a :: es) (liftA (gOf X ca) fun g M Q => ra g M fun p M1 => r g M1 fun ps M2 => Q (p :: ps) M2) :=
  PA.imp (pa_cons ha hr (star_ok hs _)) fun σ H Q h => by
    obtain ⟨g, M, Qa, rel, run, hk⟩ := h
    exact lift_run rel run fun p M1 v H1 rel1 rp k1 q1 => liftA_run rel1 q1 fun q M2 w H2 rel2 rq k2 q2 => hk _ _ _ _ rel2.h (.cons (rp.keep k2) rq) (k1.trans k2) q2
/-- subscripts -/
theorem e_sub (hu : X.A.units + 65 < cLine) (hs : notSlice b = true) (ha : PE X a (liftE (gOf X ca) ra)) (hb : PE X b (liftE (gOf X ca) rb)) :
    PE X (.Subscript a b pos) (liftE (gOf X ca) fun g M Q => ra g M fun p M1 => rb g M1 fun q M2 => subA p q M2 Q) :=
  PE.imp (pe_ix (sub_snd hu) ha hb (plain_ix hs)) fun σ H Q h => e_op (f := getItem) h
def liftO (G : Gw) (r : Sg → MM → (Option Int → MM → Prop) → Prop) : TO := fun σ H Q => ∃ g M Qa, Rel G σ H g M ∧ r g M Qa ∧ ∀ o M' H', HRep G.w G.ca G.K M' H' → Keep H H' → Qa o M' → Q o H'
theorem PO.imp {e : Option Expr} {t t' : TO} (h : PO X e t) (i : ∀ σ H Q, t' σ H Q → t σ H Q) : PO X e t' := ⟨fun pins s σ H Q I q => h.run pins s σ H Q I (i σ H Q q)⟩
theorem o_none : PO X none (liftO (gOf X ca) fun _ M Q => Q none M) := PO.imp po_none fun σ H Q ⟨g, M, Qa, rel, run, hk⟩ => hk none M H rel.h (.refl H) run
theorem o_some (ha : PE X a (liftE (gOf X ca) ra)) : PO X (some a) (liftO (gOf X ca) fun g M Q => ra g M fun p M1 => match p with
    | .int i => Q (some i) M1
    | _ => False) :=
  PO.imp (po_some ha) fun σ H Q h => by
    obtain ⟨g, M, Qa, rel, run, hk⟩ := h
    refine lift_run rel run fun p M1 v H1 rel1 rp k1 q1 => ?_
    split at q1
    · cases rp
      exact ⟨_, rfl, hk _ _ _ rel1.h k1 q1⟩
    · exact q1.elim
theorem e_slc {lo hi : Option Expr} {p2 : Pos} {rl rh : Sg → MM → (Option Int → MM → Prop) → Prop} (ha : PE X a (liftE (gOf X ca) ra)) (hl : PO X lo (liftO (gOf X ca) rl)) (hh : PO X hi (liftO (gOf X ca) rh)) :
    PE X (.Subscript a (.Slice lo hi none p2) pos) (liftE (gOf X ca) fun g M Q => ra g M fun p M1 => rl g M1 fun l M2 => rh g M2 fun h M3 => slcA p l h M3 Q) :=
  PE.imp (pe_slice slc_snd ha hl hh) fun σ H Q h => by
    obtain ⟨g, M, Qa, rel, run, hk⟩ := h
    exact lift_run rel run fun p M1 v H1 rel1 rp k1 q1 => ⟨g, M1, _, rel1, q1, fun l M2 H2 hM2 k2 q2 => ⟨g, M2, _, rel1.go k2 hM2, q2, fun h M3 H3 hM3 k3 q3 => ⟨p, M3, Qa, hM3, (rp.keep k2).keep k3, q3, hands_of hk ((k1.trans k2).trans k3)⟩⟩⟩
end
end Rx
end

section
set_option maxHeartbeats 4000000
/-! Rx: displays, fields, calls. -/
namespace Rx
open PySem PySem.Spec PyProof.Rows L2
section
variable {Γ : Gm} {ca : String → Addr} {xk : XW} {N : List Str} {sc : Scope} {F : Str → Bool} {X : Cx} {a b c : Expr} {es : List Expr} {ra rb rc : RE} {r : RA} {pos ap : Pos}
/-! ### displays -/
theorem e_tup {k : Nat} (ha : PA X es (liftA (gOf X ca) r)) : PE X (.Tuple es k pos) (liftE (gOf X ca) fun g M Q => r g M fun ps M1 => ps.length ≤ sizeLine ∧ Q (.tup ps) M1) := by
  refine ⟨fun pins s σ H Q I h => ?_⟩
  obtain ⟨g, M, Qa, rel, run, hk⟩ := h
  refine wpAny_Tuple_spliced (thn (ha.run pos pins s σ H (fun vs H1 => vs.length ≤ sizeLine ∧ ∀ p us, H1 p = none → Q (.ref p) (upd H1 p (.frz (tupO us 0) (.tup vs)))) I (liftA_run rel run fun ps M1 vs H1 rel1 rp k1 q1 => ?_))
    fun us s1 ⟨vs, H1, I1, r1, z1, q1⟩ => ⟨by rw [← r1.length]; exact z1, .ref s1.heap.objs.size, _, tup_new (t' := s1.toks) I1 r1 z1, rfl, q1 _ us (tup_fresh I1)⟩)
  exact ⟨by rw [← rp.length]; exact q1.1, fun p us hp => (hands_of hk k1).tup rel1.h rp hp q1.2⟩
theorem e_lst (ha : PA X es (liftA (gOf X ca) r)) : PE X (.List es pos) (liftE (gOf X ca) fun g M Q => r g M fun ps M1 => ps.length ≤ sizeLine ∧ newL ps M1 Q) :=
  PE.imp (pe_lst ha) fun σ H Q h => by
    obtain ⟨g, M, Qa, rel, run, hk⟩ := h
    exact liftA_run rel run fun ps M1 vs H1 rel1 rp k1 q1 => ⟨by rw [← rp.length]; exact q1.1, fun p hp => (hands_of hk k1).lst rel1.h rp hp q1.2⟩
/-- *e in a display -/
theorem a_star {p : Pos} (ha : PE X a (liftE (gOf X ca) ra)) (hr : PA X es (liftA (gOf X ca) r)) :
    PA X (.Starred a p :: es) (liftA (gOf X ca) fun g M Q => ra g M fun p M1 => match seqA p M1 with
    | some qs => r g M1 fun ps M2 => Q (qs ++ ps) M2
    | none => False) := by
  refine ⟨fun po pins s σ H Q I h => ?_⟩
  obtain ⟨g, M, Qa, rel, run, hk⟩ := h
  show wpAny _ _ (spliced ((true, (do let v ← eval a X.env; standAt po; pure v)) :: backTo po (starEach es X.env))) _ _ s
  refine PySem.W.ks_spliced (thn (ha.run pins s σ H (fun v H1 => ∃ b vs, v = .ref b ∧ (SqL X.K H1 b vs ∨ SqT X.K H1 b vs) ∧ liftA (gOf X ca) r σ H1 fun ws H2 => Q (vs ++ ws) H2) I (lift_run rel run fun p M1 v H1 rel1 rp k1 q1 => ?_)) fun v s1 h1 => ?_)
  · split at q1
    · rename_i qs hq
      obtain ⟨b, vs, rfl, sq, rs⟩ := seqA_lst rel1.h rp hq
      exact ⟨b, vs, rfl, sq, liftA_run rel1 q1 fun ps M2 ws H2 rel2 rq k2 q2 => hk _ _ _ _ rel2.h ((rs.keep k2).append rq) (k1.trans k2) q2⟩
    · exact q1.elim
  · obtain ⟨x, H1, I1, r1, b, vs, rfl, sq, q1⟩ := h1
    cases r1
    refine StX.star_any I1 sq.symm fun us s2 I2 r2 => ?_
    exact thn (hr.run po pins s2 σ H1 _ I2 q1) fun ws s3 ⟨ys, H3, I3, r3, q3⟩ => ⟨vs ++ ys, H3, I3, r2.append r3, q3⟩
/-! ### fields -/
theorem FRep.lookup {K : PySem.W.Frag} {H : Hp} {f : String} {p : PV} : ∀ {fs : List (String × PV)} {gs : List (Str × V)}, FRep K H fs gs → fs.lookup f = some p → ∃ v, gs.lookup (so f) = some v ∧ Rep K H p v
  | _, _, .nil, h => by simp at h
  | _, _, .cons (f := f') (p := p') rp t, h => by
    rw [List.lookup_cons] at h
    rw [List.lookup_cons]
    by_cases e : f = f'
    · subst e
      simp only [beq_self_eq_true] at h ⊢
      cases h
      exact ⟨_, rfl, rp⟩
    · have e1 : (f == f') = false := by simpa using e
      have e2 : (so f == Str.ofString f') = false := by
        have : so f ≠ Str.ofString f' := fun z => e (so_inj z)
        simpa using this
      rw [e1] at h
      rw [e2]
      exact FRep.lookup t h
theorem FRep.lookup_none {K : PySem.W.Frag} {H : Hp} {f : String} : ∀ {fs : List (String × PV)} {gs : List (Str × V)}, FRep K H fs gs → fs.lookup f = none → gs.lookup (so f) = none
  | _, _, .nil, h => rfl
  | _, _, .cons (f := f') (p := p') rp t, h => by
    rw [List.lookup_cons] at h
    rw [List.lookup_cons]
    by_cases e : f = f'
    · subst e
      simp only [beq_self_eq_true] at h
      cases h
    · have e1 : (f == f') = false := by simpa using e
      have e2 : (so f == Str.ofString f') = false := by
        have : so f ≠ Str.ofString f' := fun z => e (so_inj z)
        simpa using this
      rw [e1] at h
      rw [e2]
      exact FRep.lookup_none t h
theorem e_fld {f : String} (hp : plainO a = true) (ha : PE X a (liftE (gOf X ca) ra)) :
    PE X (.Attribute a (so f) pos) (liftE (gOf X ca) fun g M Q => ra g M fun p M1 => match p with
    | .ref a => match M1 a with
      | some (.ins c fs) => match fs.lookup f with
        | some v => fieldOf c f = true ∧ Q v M1
        | none => False
      | _ => False
    | _ => False) :=
  PE.imp (pe_fld ha (base_ok hp)) fun σ H Q h => by
    obtain ⟨g, M, Qa, rel, run, hk⟩ := h
    refine lift_run rel run fun p M1 v H1 rel1 rp k1 q1 => ?_
    split at q1
    · rename_i x
      split at q1
      · rename_i c fs e1
        split at q1
        · rename_i y hy
          cases rp
          obtain ⟨dx, gs, h1, h2, _, h4⟩ := rel1.h x _ e1
          obtain ⟨w, h5, h6⟩ := h2.lookup hy
          exact ⟨x, _, dx, gs, w, rfl, h1, h4.cl, h4.no f q1.1, h5, (hands_of hk k1).val rel1.h h6 q1.2⟩
        · exact q1.elim
      · exact q1.elim
    · exact q1.elim
/-! ### calls -/
theorem passX {X : Cx} {ca : String → Addr} {xk : XW} (tk : Takes X (Wish (gOf X ca) xk)) (σ : L2.St) : PassesAt (L2.CX X.prog X.w) X σ (WE (Wish (gOf X ca) xk) σ) := passAt tk σ
/-- arguments, then a contract -/
theorem sp_of {n : Nat} {con : Con} {σ : L2.St} {H : Hp} {M : MM} {g : Sg} {vs : List V} {ps : List PV} {Q : VK} {Qa : KV1} (rel : Rel (gOf X ca) σ H g M) (rs : Reps X.K H ps vs) (hl : ps.length = n) (h : con ps M Qa fun x M2 => xk x g M2) (hk : Hands (gOf X ca) H Qa Q) :
    spOf (gOf X ca) n con vs H Q (WE (Wish (gOf X ca) xk) σ) :=
  ⟨by rw [← rs.length]; exact hl, ps, M, Qa, _, rel.h, rs, h, hk, fun x M' cls d H' hM xr k hx => ⟨x, g, M', rel.go k hM, xr, hx⟩⟩
theorem args_at {f : Value} {t : TA} {P : Args → Shared → Prop} {Q : List V → Hp → Prop} {pins : List (Addr × Obj)} {s : Shared} {σ : L2.St} {H : Hp} (ha : PA X es t) (hs : es.all notStar = true) (I : L2.Inv X pins σ H s) (h : t σ H Q)
    (hq : ∀ us s1 vs H1, L2.Inv X pins σ H1 s1 → Vals vs us → Q vs H1 → P ⟨us, []⟩ s1) : wpAny (model X.prog X.w) X.A (evalArgs f true (backTo pos (starEach es X.env)) (backToKw pos (keywordEach [] X.env))) P X.xe s := by
  have z := ha.run pos pins s σ H Q I h
  cases es with
  | nil =>
    have z2 : wpAny (model X.prog X.w) X.A (spliced []) (AP X pins σ Q) X.xe s := z
    show wpAny _ _ (evalArgs f true [] []) _ _ _
    unfold evalArgs
    refine wpAny_bind (thn z2 fun us s1 ⟨vs, H1, I1, r1, q1⟩ => wpAny_holding (wpAny_bind (wpAny_pure (wpAny_bind (wpAny_pure (wpAny_pure (hq us s1 vs H1 I1 r1 q1)))))))
  | cons e es =>
    rw [List.all_cons] at hs
    rw [star_ok (and1 hs)] at z ⊢
    exact Calls.evalArgs_plain (thn z fun us s1 ⟨vs, H1, I1, r1, q1⟩ => hq us s1 vs H1 I1 r1 q1)
theorem call_at {k : Nat} {f : Addr} {fd : FuncData} {ps : List Str} {sp : Sp} {x : Str} {p : Pos} {E : L2.St → XK} {t : TA} (F : FnOk X.prog X.w X.K X.mg X.base (L2.CX X.prog X.w) k f fd ps sp) (hr : Room k X.A) (hg : Gl X x) (hm : X.mg x = some (.ref f))
    (hk : PySem.W.keepIn X.K (.ref f) = true) (hb : Binds X.K fd ps []) (hx : ∀ σ, PassesAt (L2.CX X.prog X.w) X σ (E σ)) (ha : PA X es t) (hdb : (x == ("__debug__" : Str)) = false) (hs : es.all notStar = true) :
    PE X (.Call (.Name x p) es [] pos) (fun σ H Q => t σ H fun vs H1 => sp vs H1 Q (E σ)) := by
  cases es with
  | nil =>
    refine ⟨fun pins s σ H Q I h => wpAny_Call_Name_kw (ld_glob I hg hm ?_ hdb)⟩
    exact PySem.W.callWith_of rfl (PySem.W.keeps_K hk) (args_at ha rfl I h fun us s1 vs H1 I1 r1 q1 => ⟨I1.kIn, run_fnS F hr hb (hx σ) I1 r1 q1⟩)
  | cons e es =>
    rw [List.all_cons] at hs
    exact pe_callS F hr hg hm hk hb hx ha hdb (star_ok (and1 hs) _) (stars_ok (and2 hs) _ _)
theorem e_call (K : XOk Γ ca xk N sc F X) {f : String} {p : Pos} (hg : glb sc (so f) = true) (hn : nmOk (so f) = true) (hs : es.all notStar = true) (ha : PA X es (liftA (gOf X ca) r)) :
    PE X (.Call (.Name (so f) p) es [] pos) (liftE (gOf X ca) fun g M Q => match Γ.fn f with
    | some (n, k) => r g M fun ps M1 => ps.length = n ∧ k ps M1 Q fun x M2 => xk x g M2
    | none => False) := by
  cases hf : Γ.fn f with
  | none => exact ⟨fun pins s σ H Q I ⟨g, M, Qa, rel, run, hk⟩ => run.elim⟩
  | some z =>
    obtain ⟨n, con⟩ := z
    obtain ⟨k, f', fd, ps, Fn, hr, hm, hk, hb⟩ := K.kn.fn f n con hf
    refine PE.imp (call_at Fn hr (gl_ok K.eS hg) hm hk hb (passX K.tk) ha (nm_dbg hn) hs) fun σ H Q h => ?_
    obtain ⟨g, M, Qa, rel, run, hkk⟩ := h
    exact liftA_run rel run fun ps M1 vs H1 rel1 rp k1 q1 => sp_of rel1 rp q1.1 q1.2 (hands_of hkk k1)
/-- a new instance -/
theorem make_at {k : Nat} {f C : Addr} {fd : FuncData} {ps : List Str} {sp : Sp} {E : XK} {pins : List (Addr × Obj)} {σ : L2.St} {H : Hp} {s : Shared} {Q : VK} {us : List Value} {vs : List V} (Mc : Mk X.K C f)
    (Fn : FnOk X.prog X.w X.K X.mg X.base (L2.CX X.prog X.w) k f fd ps sp) (hr : Room (k + 1) X.A) (hb : Binds X.K fd ps []) (hx : PassesAt (L2.CX X.prog X.w) X σ E) (I : L2.Inv X pins σ H s) (rv : Vals vs us)
    (h : ∀ x dx, H x = none → H dx = none → dx ≠ x → sp (.ref x :: vs) (upd (upd H dx (.own x)) x (.ins C dx [])) (fun v H2 => v = .non ∧ Q (.ref x) H2) E) :
    wpAny (model X.prog X.w) X.A (call (.ref C) us) (EP X pins σ Q) X.xe s := by
  obtain ⟨d, ed⟩ : ∃ d, d = s.heap.objs.size := ⟨_, rfl⟩
  have n1 : H (d + 1) = none := I.hok.fresh (by rw [ed]; exact Nat.le_succ _)
  have n2 : H d = none := I.hok.fresh (by rw [ed]; exact Nat.le_refl _)
  have hsp := h (d + 1) d n1 n2 (Nat.ne_of_lt (Nat.lt_succ_self d))
  have I2 := Inv.made (C := C) I
  rw [← ed] at I2
  have r2 : Vals (V.ref (d + 1) :: vs) (Value.ref (d + 1) :: us) := .cons rfl rv
  have hl : (Value.ref (d + 1) :: us).length = ps.length := r2.length.symm.trans (Fn.len _ _ _ _ hsp)
  have hb2 := hb _ (Value.ref (d + 1) :: us) I2.kIn (by rw [List.append_nil]; exact hl)
  rw [List.append_nil] at hb2
  refine wpAny_call (make_map (f := f) I.kIn Mc.makes Mc.init (beq_iff_eq.mp Mc.fn) ?_)
  rw [← ed]
  refine codeAny_mono (Fn.run _ X.stack _ _ ⟨Value.ref (d + 1) :: us, []⟩ _ _ _ E (hr.make C us []) (I2.env0.make C us []) hb2 r2 hsp) fun o s' ho => ?_
  rcases o with e | fl
  · exact hx pins _ _ e s' I2 ho
  · rcases fl with _ | _ | _ | u
    · exact False.elim ho
    · exact False.elim ho
    · exact False.elim ho
    · obtain ⟨v, H', I3, rv3, ev, q3⟩ := I2.after ho
      subst ev
      exact ⟨rv3, .ref (d + 1), H', I3, rfl, q3⟩
theorem ins_new {G : Gw} {M : MM} {H : Hp} {c : String} {x dx : Addr} (hM : HRep G.w G.ca G.K M H) (cl : ClsOk G.K (G.ca c) c) (h1 : H x = none) (h2 : H dx = none) (h3 : dx ≠ x) :
    HRep G.w G.ca G.K (mput M x (.ins c [])) (upd (upd H dx (.own x)) x (.ins (G.ca c) dx [])) ∧ Keep H (upd (upd H dx (.own x)) x (.ins (G.ca c) dx [])) := by
  have n : (upd H dx (.own x)) x = none := by rw [upd_ne (Ne.symm h3)]; exact h1
  exact ⟨(hM.new0 h2).new n ⟨dx, [], upd_same, .nil, Nat.zero_le _, cl⟩, (Keep.new h2).trans (Keep.new n)⟩
theorem e_mk (K : XOk Γ ca xk N sc F X) {c : String} {p : Pos} (hg : glb sc (so c) = true) (hn : nmOk (so c) = true) (hs : es.all notStar = true) (ha : PA X es (liftA (gOf X ca) r)) :
    PE X (.Call (.Name (so c) p) es [] pos) (liftE (gOf X ca) fun g M Q => match Γ.mkc c with
    | some (n, k) => r g M fun ps M1 => ps.length + 1 = n ∧ ∀ a, M1 a = none → k (.ref a :: ps) (mput M1 a (.ins c [])) (fun v M2 => v = .non ∧ Q (.ref a) M2) fun x M2 => xk x g M2
    | none => False) := by
  cases hf : Γ.mkc c with
  | none => exact ⟨fun pins s σ H Q I ⟨g, M, Qa, rel, run, hk⟩ => run.elim⟩
  | some z =>
    obtain ⟨n, con⟩ := z
    obtain ⟨k, f', fd, ps, Fn, hr, Mc, hm, hb, cl⟩ := K.kn.mkc c n con hf
    refine ⟨fun pins s σ H Q I h => wpAny_Call_Name_kw (ld_glob I (gl_ok K.eS hg) hm ?_ (nm_dbg hn))⟩
    obtain ⟨g, M, Qa, rel, run, hk⟩ := h
    have hA : liftA (gOf X ca) r σ H (fun vs H1 => ∀ x dx, H1 x = none → H1 dx = none → dx ≠ x → spOf (gOf X ca) n con (.ref x :: vs) (upd (upd H1 dx (.own x)) x (.ins (ca c) dx [])) (fun v H2 => v = .non ∧ Q (.ref x) H2) (WE (Wish (gOf X ca) xk) σ)) :=
      (liftA_run rel run fun ps M1 vs H1 rel1 rp k1 q1 => fun x dx h1 h2 h3 => by
        obtain ⟨hM2, k2⟩ := ins_new rel1.h cl h1 h2 h3
        refine sp_of (rel1.go k2 hM2) (.cons (.ref x) (rp.keep k2)) (by rw [List.length_cons]; exact q1.1) (q1.2 x (rel1.h.fresh h1)) fun p' M' v' H' hM rp' k3 ⟨e3, q3⟩ => ?_
        subst e3
        cases rp'
        exact ⟨rfl, hk _ _ _ _ hM (.ref x) ((k1.trans k2).trans k3) q3⟩)
    have hany : (backTo pos (starEach es X.env)).any (·.1) = false := stars_ok hs _ _
    refine PySem.W.callWith_of (by show ((backTo pos (starEach es X.env)).any (·.1) || false) = false; rw [hany]; rfl) (PySem.W.keeps_K Mc.kp) (args_at ha hs I hA fun us s1 vs H1 I1 r1 q1 => ⟨I1.kIn, make_at Mc Fn hr hb (passX K.tk σ) I1 r1 q1⟩)
/-- a method of a class of the program -/
theorem e_meth (K : XOk Γ ca xk N sc F X) {m : String} (h1 : plainO a = true) (h2 : ap.endLine = pos.line) (h3 : es.length < 29) (hs : es.all notStar = true) (ho : PE X a (liftE (gOf X ca) ra)) (ha : PA X es (liftA (gOf X ca) r)) :
    PE X (.Call (.Attribute a (so m) ap) es [] pos) (liftE (gOf X ca) fun g M Q => ra g M fun p M1 => match p with
    | .ref a => match M1 a with
      | some (.ins c fs) => fs.lookup m = none ∧ match Γ.mt c m with
        | some (n, k) => r g M1 fun ps M2 => ps.length + 1 = n ∧ k (.ref a :: ps) M2 Q fun x M3 => xk x g M3
        | none => False
      | _ => False
    | _ => False) := by
  refine ⟨fun pins s σ H Q I h => PySem.W.methodCall_KW (pl := plOf a X.env) ?_ (meth_form h1 h2 h3 hs)⟩
  obtain ⟨g, M, Qa, rel, run, hk⟩ := h
  have hO := ho.run pins s σ H (fun v H1 => ∃ x c dx gs n con, v = .ref x ∧ H1 x = some (.ins (ca c) dx gs) ∧ Cls X.K (ca c) ∧ gs.lookup (so m) = none ∧ Γ.mt c m = some (n, con) ∧
    liftA (gOf X ca) r σ H1 fun vs H2 => spOf (gOf X ca) n con (.ref x :: vs) H2 Q (WE (Wish (gOf X ca) xk) σ)) I (lift_run rel run fun p M1 v H1 rel1 rp k1 q1 => by
      split at q1
      · rename_i x
        split at q1
        · rename_i c fs e1
          obtain ⟨hl, q1⟩ := q1
          split at q1
          · rename_i n con hf
            cases rp
            obtain ⟨dx, gs, g1, g2, _, g4⟩ := rel1.h x _ e1
            refine ⟨x, c, dx, gs, n, con, rfl, g1, g4.cl, g2.lookup_none hl, hf, liftA_run rel1 q1 fun ps M2 vs H2 rel2 rs k2 q2 => ?_⟩
            exact sp_of rel2 (.cons (.ref x) rs) (by rw [List.length_cons]; exact q2.1) q2.2 (hands_of hk (k1.trans k2))
          · exact q1.elim
        · exact q1.elim
      · exact q1.elim)
  refine thn hO fun u s1 ⟨v, H1, I1, rv, x, c, dx, gs, n, con, ev, g1, gc, gl, hf, q1⟩ => ?_
  subst ev
  cases rv
  obtain ⟨k, f, fd, ps, Fn, hr, hm, hb⟩ := K.kn.mt c m n con hf
  refine getmeth_ok I1 g1 gc hm gl ?_
  have hany : (backTo pos (starEach es X.env)).any (·.1) = false := stars_ok hs _ _
  refine PySem.W.callWith_of (by show ((backTo pos (starEach es X.env)).any (·.1) || false) = false; rw [hany]; rfl) (PySem.W.keeps_K hm.kp) (args_at ha hs I1 q1 fun us s2 vs H2 I2 r2 q2 => ⟨I2.kIn, run_fnS (us := .ref x :: us) (vs := .ref x :: vs) Fn hr hb (passX K.tk σ) I2 (.cons rfl r2) q2⟩)
/-- a property -/
theorem passes_none {E : XK} (h : ∀ c d H, ¬ E c d H) : Passes (L2.CX X.prog X.w) X.nox E := fun pins σ H s e s' I ⟨a, B, H', cls, d, _, _, _, _, _, _, _, w⟩ => (h _ _ _ w).elim
theorem e_prop (K : XOk Γ ca xk N sc F X) {f : String} (hp : plainO a = true) (ha : PE X a (liftE (gOf X ca) ra)) :
    PE X (.Attribute a (so f) pos) (liftE (gOf X ca) fun g M Q => ra g M fun p M1 => match p with
    | .ref a => match M1 a with
      | some (.ins c _) => match Γ.pr c f with
        | some (n, k) => n = 1 ∧ k [.ref a] M1 Q fun _ _ => False
        | none => False
      | _ => False
    | _ => False) := by
  refine ⟨fun pins s σ H Q I h => attr_of (base_ok hp) ?_⟩
  obtain ⟨g, M, Qa, rel, run, hk⟩ := h
  have hO := ha.run pins s σ H (fun v H1 => ∃ x c dx gs n con, v = .ref x ∧ H1 x = some (.ins (ca c) dx gs) ∧ Cls X.K (ca c) ∧ Γ.pr c f = some (n, con) ∧ spOf (gOf X ca) n con [.ref x] H1 Q fun _ _ _ => False) I
    (lift_run rel run fun p M1 v H1 rel1 rp k1 q1 => by
      split at q1
      · rename_i x
        split at q1
        · rename_i c fs e1
          split at q1
          · rename_i n con hf
            cases rp
            obtain ⟨dx, gs, g1, g2, _, g4⟩ := rel1.h x _ e1
            exact ⟨x, c, dx, gs, n, con, rfl, g1, g4.cl, hf, q1.1.symm, [.ref x], M1, Qa, _, rel1.h, .one (.ref x), q1.2, hands_of hk k1, fun _ _ _ _ _ _ _ _ z => z⟩
          · exact q1.elim
        · exact q1.elim
      · exact q1.elim)
  refine thn hO fun u s1 ⟨v, H1, I1, rv, x, c, dx, gs, n, con, ev, g1, gc, hf, q1⟩ => ?_
  subst ev
  cases rv
  obtain ⟨k, p, f', fd, ps, Fn, hr, hpo, hb⟩ := K.kn.pr c f n con hf
  exact getprop_ok I1 g1 gc hpo Fn hr hb .nil (passes_none fun _ _ _ z => z) q1
end
end Rx
end

section
set_option maxHeartbeats 4000000
/-! Rx: what a loop walks. -/
namespace Rx
open PySem PySem.Spec PyProof.Rows L2
/-! ### a raw dict's keys and pairs -/
/-- the object at d is o whenever p holds -/
def ObjAt (K : PySem.W.Frag) (p : Hp → Prop) (d : Addr) (o : Obj) : Prop := ∀ (X : Cx) (pins : List (Addr × Obj)) (σ : L2.St) (H : Hp) (s : Shared), X.K = K → L2.Inv X pins σ H s → p H → s.heap.get? d = some o
def ItK (p : Hp → Prop) (ks : List V) : L2.It := ⟨fun i H => p H ∧ i < ks.length, fun i H x H' => H' = H ∧ ks[i]? = some x, fun i H => p H ∧ ks.length ≤ i⟩
def ItP (p : Hp → Prop) (ks us : List V) : L2.It := ⟨fun i H => p H ∧ i < ks.length, fun i H x H' => ∃ T y z, ks[i]? = some y ∧ us[i]? = some z ∧ x = .ref T ∧ H T = none ∧ H' = upd H T (.tup [y, z]), fun i H => p H ∧ ks.length ≤ i⟩
section
variable {P : Program} {w : World} {K : PySem.W.Frag} {tg : Expr} {d it : Addr} {o : Obj} {es : Array DictEntry} {ep : Nat} {p : Hp → Prop} {ks us : List V}
theorem turn_K (oa : ObjAt K p d o) (hx : o.ExactDict) (hd : o.data = .dict es ep) (rk : Vals ks (es.toList.map (·.key))) : Turn P w K tg (ItK p ks) [it] it (fun i h => h.IsKeyIter it d i es.size ep) := by
  have hsz : ks.length = es.size := by rw [rk.length, List.length_map, Array.length_toList]
  refine ⟨by simp, fun i h st b hb => ?_, fun i h h2 st kp => st.at fun ob e => kp it (by simp) ob e, ?_, ?_, fun A i s Q E st h => wpAny_pyIter_keyiter st h⟩
  · obtain ⟨oi, e, _, dd⟩ := st
    rw [List.mem_singleton.mp hb]
    exact ⟨oi, e, fun v z => by rw [dd] at z; cases z⟩
  · intro Y e1 e2 e3 cm n pn s τ G Ex J ff sx gx
    subst e1 e2 e3
    have ho := oa Y pn τ G s rfl J gx.1
    obtain ⟨f0, f1, _, f3, f4, f5⟩ := ff it (by simp)
    have hi : n < es.size := by rw [← hsz]; exact gx.2
    obtain ⟨y, hy⟩ : ∃ y, ks[n]? = some y := ⟨_, List.getElem?_eq_getElem gx.2⟩
    obtain ⟨u, hu, ru⟩ := rk.get hy
    have eu : u = es[n].key := by
      rw [List.getElem?_map, Array.getElem?_toList, Array.getElem?_eq_getElem hi] at hu
      exact (Option.some.inj hu).symm
    subst eu
    refine wpAny_pyNext_keys_item_raw sx ⟨o, ho, hx, hd⟩ hi fun h2 sx2 sb => ?_
    have J2 : L2.Inv Y pn τ G { s with heap := h2 } := J.turned (t' := s.toks) (fun b ob hb e => (sb.2 b hb).trans e) f0 f1 f3 f4 f5
    obtain ⟨oi, ei, ec, ed⟩ := id sx2
    exact ⟨_, rfl, go_of (s := { s with heap := h2 }) ei ec ed (by decide) ⟨y, G, J2, ru, ⟨rfl, hy⟩, sx2, fun b hb => (ff b hb).1⟩⟩
  · intro Y e1 e2 e3 cm n pn s τ G Ex J ff sx gx
    subst e1 e2 e3
    have ho := oa Y pn τ G s rfl J gx.1
    obtain ⟨f0, f1, _, f3, f4, f5⟩ := ff it (by simp)
    exact wpAny_pyNext_keys_end_raw (J.ok.hd cm) sx ⟨o, ho, hx, hd⟩ (by rw [← hsz]; exact gx.2) fun h2 eb => ⟨rfl, J.turned (t' := s.toks) (fun b ob hb e => eb b ob hb e) f0 f1 f3 f4 f5⟩
theorem turn_P {elts : List Expr} {kk : Nat} {tpos : Pos} (oa : ObjAt K p d o) (hx : o.ExactDict) (hd : o.data = .dict es ep) (rk : Vals ks (es.toList.map (·.key))) (ru : Vals us (es.toList.map (·.val))) :
    Turn P w K (.Tuple elts kk tpos) (ItP p ks us) [it] it (fun i h => ∃ y z, IsItemIter h it d i es.size ep y z) := by
  have hsz : ks.length = es.size := by rw [rk.length, List.length_map, Array.length_toList]
  have hsz2 : us.length = es.size := by rw [ru.length, List.length_map, Array.length_toList]
  refine ⟨by simp, fun i h st b hb => ?_, fun i h h2 st kp => let ⟨y, z, e⟩ := st; ⟨y, z, kp it (by simp) _ e⟩, ?_, ?_, fun A i s Q E st h => let ⟨_, _, e⟩ := st; PySem.W.kcp_self e h⟩
  · obtain ⟨y, z, e⟩ := st
    rw [List.mem_singleton.mp hb]
    exact ⟨_, e, fun v z => nomatch z⟩
  · intro Y e1 e2 e3 cm n pn s τ G Ex J ff sx gx
    subst e1 e2 e3
    have ho := oa Y pn τ G s rfl J gx.1
    have hi : n < es.size := by rw [← hsz]; exact gx.2
    obtain ⟨y, hy⟩ : ∃ y, ks[n]? = some y := ⟨_, List.getElem?_eq_getElem gx.2⟩
    obtain ⟨z, hz⟩ : ∃ z, us[n]? = some z := ⟨us[n]'(by omega), List.getElem?_eq_getElem (by omega)⟩
    obtain ⟨u, hu, r1⟩ := rk.get hy
    obtain ⟨u', hu', r2⟩ := ru.get hz
    have eu : u = es[n].key := by
      rw [List.getElem?_map, Array.getElem?_toList, Array.getElem?_eq_getElem hi] at hu
      exact (Option.some.inj hu).symm
    have eu' : u' = es[n].val := by
      rw [List.getElem?_map, Array.getElem?_toList, Array.getElem?_eq_getElem hi] at hu'
      exact (Option.some.inj hu').symm
    subst eu eu'
    obtain ⟨ok, ov, he⟩ := sx
    have hlt : it < s.heap.objs.size := Heap.lt_size he
    refine wpAny_pyNext_items_item_raw he ⟨o, ho, hx, hd⟩ hi fun h2 out hT _ kp => ⟨_, rfl, wpAny_letOwnedTupleGo_items (s := { s with heap := h2 }) out fun h3 he3 sb => ?_⟩
    have hT3 : h3.get? s.heap.objs.size = some { cls := .type "tuple", data := .seq #[es[n].key, es[n].val] } := (sb.2 _ (Nat.ne_of_gt hlt)).trans hT
    have nw : ObjOk Y.prog Y.w (upd G s.heap.objs.size (.tup [y, z])) h3 s.heap.objs.size (.tup [y, z]) := ⟨by show 2 ≤ sizeLine; decide, [es[n].key, es[n].val], .cons r1 (.cons r2 .nil), ⟨_, hT3, rfl, _, rfl⟩⟩
    have J2 : L2.Inv Y pn τ (upd G s.heap.objs.size (.tup [y, z])) { s with heap := h3 } :=
      J.turnedNew (t' := s.toks) (ch := [it]) (fun b ob hb e => (sb.2 b (fun q => hb (by simp [q]))).trans (kp b ob (fun q => hb (by simp [q])) e)) ff (Nat.le_refl _) nw
    refine ⟨.ref s.heap.objs.size, _, J2, rfl, ⟨_, y, z, hy, hz, rfl, J.hok.fresh (Nat.le_refl _), rfl⟩, ⟨_, _, he3⟩, fun b hb => ?_⟩
    rw [List.mem_singleton.mp hb, upd_ne (Nat.ne_of_lt hlt)]
    exact (ff it (by simp)).1
  · intro Y e1 e2 e3 cm n pn s τ G Ex J ff sx gx
    subst e1 e2 e3
    have ho := oa Y pn τ G s rfl J gx.1
    obtain ⟨ok, ov, he⟩ := sx
    obtain ⟨f0, f1, _, f3, f4, f5⟩ := ff it (by simp)
    exact wpAny_pyNext_items_end_raw (J.ok.hd cm) he ⟨o, ho, hx, hd⟩ (by rw [← hsz]; exact gx.2) fun h2 eb => ⟨rfl, J.turned (t' := s.toks) (fun b ob hb e => eb b ob hb e) f0 f1 f3 f4 f5⟩
end

/-! ### the walk of a loop, by trees -/
/-- an item for the target: the new pair that comes at each turn need not be told with its object -/
def RepT (t : Tg) (K : PySem.W.Frag) (H : Hp) (p : PV) (v : V) : Prop := Rep K H p v ∨ ∃ ts ps a vs, t = .tup ts ∧ p = .tup ps ∧ v = .ref a ∧ SqT K H a vs ∧ Reps K H ps vs
theorem RepT.keep {t : Tg} {K : PySem.W.Frag} {H H' : Hp} {p : PV} {v : V} (r : RepT t K H p v) (k : Keep H H') : RepT t K H' p v := by
  rcases r with r | ⟨ts, ps, a, vs, e1, e2, e3, sq, rs⟩
  · exact .inl (r.keep k)
  · refine .inr ⟨ts, ps, a, vs, e1, e2, e3, ?_, rs.keep k⟩
    rcases sq with (sq | ⟨o, sq⟩) | sq
    · exact .inl (.inl (k.tup _ _ sq))
    · exact .inl (.inr ⟨o, k.frz _ _ _ sq⟩)
    · exact .inr sq
structure Walk (X : Cx) (ca : String → Addr) (t : Tg) (J : L2.It) (H0 H1 : Hp) (xs : List PV) (st : MM → Prop) (un : MM → MM) : Prop where
  go : ∀ i H M, HRep X.w ca X.K M H → Keep H1 H → st M → i < xs.length → J.go i H
  stop : ∀ H M, HRep X.w ca X.K M H → Keep H1 H → st M → J.stop xs.length H
  yld : ∀ i H M v H', HRep X.w ca X.K M H → Keep H1 H → st M → i < xs.length → J.yld i H v H' → ∃ p, xs[i]? = some p ∧ RepT t X.K H' p v ∧ Keep H H' ∧ HRep X.w ca X.K M H'
  fin2 : ∀ H M, HRep X.w ca X.K M H → Keep H1 H → ∃ H', (∀ pins σ s, L2.Inv X pins σ H s → L2.Inv X pins σ H' s) ∧ HRep X.w ca X.K (un M) H' ∧ Keep H0 H' ∧ KeepW H H'
theorem Walk.fin {X : Cx} {ca : String → Addr} {t : Tg} {J : L2.It} {H0 H1 : Hp} {xs : List PV} {st : MM → Prop} {un : MM → MM} (k : Walk X ca t J H0 H1 xs st un) : ∀ H M, HRep X.w ca X.K M H → Keep H1 H → ∃ H', (∀ pins σ s, L2.Inv X pins σ H s → L2.Inv X pins σ H' s) ∧ HRep X.w ca X.K (un M) H' ∧ Keep H0 H' :=
  fun H M a b => let ⟨H', c, d, e, _⟩ := k.fin2 H M a b; ⟨H', c, d, e⟩
/-- what the iterable's reading tells -/
def liftI (X : Cx) (ca : String → Addr) (t : Tg) (r : Sg → MM → RI → Prop) : TI := fun σ H R => ∃ g M Ra, Rel (gOf X ca) σ H g M ∧ r g M Ra ∧ ∀ xs st un M' J H0 H', HRep X.w ca X.K M' H' → Keep H H0 → Keep H H' → Walk X ca t J H0 H' xs st un → Ra xs st un M' → R J H'
section
variable {X : Cx} {ca : String → Addr} {t : Tg} {tg e e2 : Expr} {re re2 : RE} {p pos ap : Pos}
theorem fin_id {H0 H1 : Hp} (k : Keep H0 H1) : ∀ H M, HRep X.w ca X.K M H → Keep H1 H → ∃ H', (∀ pins σ s, L2.Inv X pins σ H s → L2.Inv X pins σ H' s) ∧ HRep X.w ca X.K (id M) H' ∧ Keep H0 H' ∧ KeepW H H' :=
  fun H M hM k1 => ⟨H, fun _ _ _ I => I, hM, k.trans k1, (Keep.refl H).w⟩
theorem walk_lst {M : MM} {H : Hp} {a : Addr} {ps : List PV} (e : M a = some (.lst ps)) : Walk X ca t (Itl X.K a) H H ps (fun M' => M' a = some (.lst ps)) id := by
  refine ⟨fun i H2 M2 hM k st hi => ?_, fun H2 M2 hM k st => ?_, fun i H2 M2 v H3 hM k st hi y => ?_, fin_id (.refl H)⟩
  · obtain ⟨vs, h1, rs⟩ := hM.lst st
    exact ⟨vs, vs[i]'(by rw [← rs.length]; exact hi), SqL.of h1, List.getElem?_eq_getElem _⟩
  · obtain ⟨vs, h1, rs⟩ := hM.lst st
    exact ⟨vs, SqL.of h1, by rw [rs.length]; exact Nat.le_refl _⟩
  · obtain ⟨vs, h1, rs⟩ := hM.lst st
    obtain ⟨rfl, y⟩ := y
    obtain ⟨q, hq, rq⟩ := rs.get' (y vs (SqL.of h1))
    exact ⟨q, hq, .inl rq, .refl _, hM⟩
theorem walk_seq {H : Hp} {ps : List PV} {vs : List V} {J : L2.It} (rs : Reps X.K H ps vs) (hgo : ∀ i H2, Keep H H2 → i < vs.length → J.go i H2) (hst : ∀ H2, Keep H H2 → J.stop vs.length H2) (hy : ∀ i H2 v H3, Keep H H2 → i < vs.length → J.yld i H2 v H3 → H3 = H2 ∧ vs[i]? = some v) :
    Walk X ca t J H H ps (fun _ => True) id := by
  refine ⟨fun i H2 M2 hM k _ hi => hgo i H2 k (by rw [← rs.length]; exact hi), fun H2 M2 hM k _ => by rw [rs.length]; exact hst H2 k, fun i H2 M2 v H3 hM k _ hi y => ?_, fin_id (.refl H)⟩
  obtain ⟨rfl, y2⟩ := hy i H2 v H3 k (by rw [← rs.length]; exact hi) y
  obtain ⟨q, hq, rq⟩ := (rs.keep k).get' y2
  exact ⟨q, hq, .inl rq, .refl _, hM⟩
theorem SqT.keep {K : PySem.W.Frag} {H H' : Hp} {a : Addr} {xs : List V} (k : Keep H H') (h : SqT K H a xs) : SqT K H' a xs := by
  rcases h with (h | ⟨o, h⟩) | h
  · exact .inl (.inl (k.tup _ _ h))
  · exact .inl (.inr ⟨o, k.frz _ _ _ h⟩)
  · exact .inr h
theorem XlAt.sqk {K : PySem.W.Frag} {H H' : Hp} {a : Addr} {xs : List V} (k : Keep H H') (h : XlAt K H a xs) : SqL K H' a xs := (h.keep k).sq
theorem so_chr (c : Char) : Str.ofString (String.singleton c) = ⟨#[c.toNat]⟩ := by
  rw [Str.ofString_eq_toList]
  simp
theorem so_get (s : String) (i : Nat) : (Str.ofString s).cps[i]? = (s.toList[i]?).map Char.toNat := by
  rw [Str.ofString_eq_toList]
  simp
theorem so_size (s : String) : (Str.ofString s).cps.size = s.toList.length := by
  rw [Str.ofString_eq_toList]
  simp
theorem chars_rep {K : PySem.W.Frag} {H : Hp} : ∀ cs : List Char, Reps K H (cs.map fun c => .str (String.singleton c)) (cs.map fun c => V.str ⟨#[c.toNat]⟩)
  | [] => .nil
  | c :: cs => .cons (by have r := Rep.str (K := K) (H := H) (String.singleton c); rw [so_chr] at r; exact r) (chars_rep cs)
/-- a dict is locked while a loop walks it -/
theorem dct_lock {pins : List (Addr × Obj)} {σ : L2.St} {H : Hp} {s : Shared} {M : MM} {a : Addr} {kvs : List (PV × PV)} (I : L2.Inv X pins σ H s) (hM : HRep X.w ca X.K M H) (e : M a = some (.dct kvs)) :
    ∃ (o : Obj) (es : Array DictEntry) (ep : Nat) (ks us : List V), s.heap.get? a = some o ∧ o.ExactDict ∧ o.data = .dict es ep ∧ (a == sysModules) = false ∧ L2.Inv X pins σ (upd H a (.frz o (DctO a es))) s ∧ HRep X.w ca X.K (mdel M a) (upd H a (.frz o (DctO a es))) ∧
      Keep H (upd H a (.frz o (DctO a es))) ∧ Reps X.K H (kvs.map (·.1)) ks ∧ Reps X.K H (kvs.map (·.2)) us ∧ Vals ks (es.toList.map (·.key)) ∧ Vals us (es.toList.map (·.val)) ∧ ObjAt X.K (fun G => G a = some (.frz o (DctO a es))) a o ∧
      ∀ H2 M2, HRep X.w ca X.K M2 H2 → Keep (upd H a (.frz o (DctO a es))) H2 → ∃ H3, (∀ pins σ s, L2.Inv X pins σ H2 s → L2.Inv X pins σ H3 s) ∧ HRep X.w ca X.K (mput M2 a (.dct kvs)) H3 ∧ Keep H H3 ∧ KeepW H2 H3 := by
  obtain ⟨es, h1, h2, h3, h4, h5⟩ := hM.dct e
  obtain ⟨o, ep, g1, g2, g3⟩ := dct_obj I h1
  have kp : Keep H (upd H a (.frz o (DctO a es))) := .set h1 rfl
  have nf := I.nofrz h1 True.intro
  have pairs : ∀ {kvs : List (PV × PV)} {l : List DictEntry}, ERep X.w X.K H kvs l → ∃ ks us, Reps X.K H (kvs.map (·.1)) ks ∧ Reps X.K H (kvs.map (·.2)) us ∧ Vals ks (l.map (·.key)) ∧ Vals us (l.map (·.val)) := by
    intro kvs l r
    induction r with
    | nil => exact ⟨[], [], .nil, .nil, .nil, .nil⟩
    | cons q1 q2 q3 r1 r2 r3 r4 _ ih =>
      obtain ⟨ks, us, a1, a2, a3, a4⟩ := ih
      exact ⟨_ :: ks, _ :: us, .cons r1 a1, .cons r3 a2, .cons r2 a3, .cons r4 a4⟩
  obtain ⟨ks, us, a1, a2, a3, a4⟩ := pairs h2
  refine ⟨o, es, ep, ks, us, g1, g2, g3, h5, ?_, ?_, kp, a1, a2, a3, a4, fun Y pn τ G t e0 J q => (J.hok a _ q).1, fun H2 M2 hM2 k2 => ?_⟩
  · exact I.write (x := a) (e := a) (t' := s.toks) (h' := s.heap) (by rw [h1]; exact True.intro) (.inl rfl) (fun b v _ q => q) ⟨o, g1⟩ ⟨g1, dctO_ok g1 g2 g3⟩
  · intro b u q
    by_cases z : b = a
    · subst z; unfold mdel at q; rw [mput_same] at q; cases q; exact ⟨o, _, upd_same⟩
    · unfold mdel at q; rw [mput_ne z] at q
      exact (hM b u q).keep kp (upd_ne z)
  · have f2 : H2 a = some (.frz o (DctO a es)) := k2.frz _ _ _ upd_same
    have k3 : Keep H (upd H2 a (DctO a es)) := by
      refine ⟨fun b xs q => ?_, fun b o2 u q => ?_⟩
      · have z : b ≠ a := by rintro rfl; rw [h1] at q; cases q
        rw [upd_ne z]; exact (kp.trans k2).tup _ _ q
      · have z : b ≠ a := by rintro rfl; rw [h1] at q; cases q
        rw [upd_ne z]; exact (kp.trans k2).frz _ _ _ q
    have kw : KeepW H2 (upd H2 a (DctO a es)) := by
      refine ⟨fun c o2 xs y => ?_, fun c o2 xs y => ?_⟩
      · have z2 : c ≠ a := by rintro rfl; rw [f2] at y; cases y
        rw [upd_ne z2]; exact y
      · have z2 : c ≠ a := by rintro rfl; rw [f2] at y; cases y
        rw [upd_ne z2]; exact y
    refine ⟨upd H2 a (DctO a es), fun pn τ s2 J => J.unlock f2 nf, fun b u q => ?_, k3, kw⟩
    by_cases z : b = a
    · subst z
      rw [mput_same] at q; cases q
      exact ⟨es, upd_same, h2.keep k3, h3, h4, h5⟩
    · rw [mput_ne z] at q
      exact (hM2 b u q).keepW kw (upd_ne z)
end
end Rx
end

section
set_option maxHeartbeats 4000000
/-! Rx: the iterables' readings. -/
namespace Rx
open PySem PySem.Spec PyProof.Rows L2
section
variable {X : Cx} {ca : String → Addr} {t : Tg} {tg e e2 : Expr} {re re2 : RE} {p pos ap : Pos}
/-- an iterator is handed on: where the heap is as it was -/
theorem pie_one {pins : List (Addr × Obj)} {σ : L2.St} {H : Hp} {s : Shared} {R : L2.It → Hp → Prop} {J : L2.It} {tn : Nat → Heap → Prop} {tk : Nat} (I : L2.Inv X pins σ H s) (o : Obj)
    (T : Turn X.prog X.w X.K tg J [s.heap.objs.size] s.heap.objs.size tn) (st : tn 0 (s.heap.push o)) (q : R J H) : PIE X pins σ tg R (.ref s.heap.objs.size) { s with heap := s.heap.push o, toks := tk } := pi_one I o T st q
theorem i_val (he : PE X e (liftE (gOf X ca) re)) : PI X tg e (liftI X ca t fun g M R => re g M fun p M1 => itA p M1 R) := by
  refine ⟨fun pins s σ H R I h => ?_⟩
  obtain ⟨g, M, Ra, rel, run, hk⟩ := h
  refine thn (he.run pins s σ H (fun v H1 => ∃ p M1, HRep X.w ca X.K M1 H1 ∧ Rep X.K H1 p v ∧ Keep H H1 ∧ itA p M1 Ra) I (lift_run rel run fun p M1 v H1 rel1 rp k1 q1 => ⟨p, M1, rel1.h, rp, k1, q1⟩)) fun u s1 ⟨v, H1, I1, ru, p, M1, hM, rp, k1, q⟩ => ?_
  unfold itA at q
  split at q
  · cases rp with
    | @tup a vs ps tt rs =>
      cases ru
      obtain ⟨its, rv, pl, hz⟩ := I1.tuple tt.sq
      refine wpAny_pyIter_tuple (show s1.heap.IsTuple a its.toArray from pl) (pie_one (tk := s1.toks) I1 _ (turn_tuple a _) ⟨_, Heap.get?_push_size _ rfl, rfl, rfl⟩ ?_)
      refine hk _ _ _ _ _ _ _ hM k1 k1 (walk_seq rs (fun i H2 k hi => ⟨vs, vs[i], (tt.keep k).sq, List.getElem?_eq_getElem hi⟩) (fun H2 k => ⟨vs, (tt.keep k).sq, Nat.le_refl _⟩) fun i H2 v H3 k hi y => ⟨y.1, y.2 vs (tt.keep k).sq⟩) q
  · cases rp with
    | @xl a vs ps tt rs =>
      cases ru
      obtain ⟨its, rv, pl, hz⟩ := I1.list tt.sq
      refine wpAny_pyIter_list pl.isList (pie_one (tk := s1.toks) I1 _ (turn_list a _) ⟨_, Heap.get?_push_size _ rfl, rfl, rfl⟩ ?_)
      exact hk _ _ _ _ _ _ _ hM k1 k1 (walk_seq rs (fun i H2 k hi => ⟨vs, vs[i], tt.sqk k, List.getElem?_eq_getElem hi⟩) (fun H2 k => ⟨vs, tt.sqk k, Nat.le_refl _⟩) fun i H2 v H3 k hi y => ⟨y.1, y.2 vs (tt.sqk k)⟩) q
  · rename_i x
    cases rp
    obtain ⟨tt, rfl⟩ := ru
    have wk : Walk X ca t (Its (Str.ofString x)) H1 H1 (x.toList.map fun c => .str (String.singleton c)) (fun _ => True) id := by
      refine walk_seq (chars_rep x.toList) (fun i H2 k hi => ?_) (fun H2 k => ?_) fun i H2 v H3 k hi y => ⟨y.1, ?_⟩
      · rw [List.length_map] at hi
        show i < (Str.ofString x).cps.size
        rw [so_size]; exact hi
      · show (Str.ofString x).cps.size ≤ _
        rw [so_size, List.length_map]; exact Nat.le_refl _
      · obtain ⟨_, c, hc, rfl⟩ := y
        rw [so_get] at hc
        rw [List.getElem?_map]
        cases q2 : x.toList[i]? with
        | none => rw [q2] at hc; cases hc
        | some ch => rw [q2] at hc; cases hc; rfl
    have fin := hk _ _ _ _ _ _ _ hM k1 k1 wk q
    cases ha : (Str.ofString x).cps.all (· < 128)
    · exact wpAny_pyIter_wide ha (pie_one (tk := s1.toks) I1 _ (turn_str _ _ tt "str_iterator" (.inr rfl)) ⟨_, Heap.get?_push_size _ rfl, rfl, rfl⟩ fin)
    · exact wpAny_pyIter_ascii ha (pie_one (tk := s1.toks) I1 _ (turn_str _ _ tt "str_ascii_iterator" (.inl rfl)) ⟨_, Heap.get?_push_size _ rfl, rfl, rfl⟩ fin)
  · rename_i kvs
    cases rp with
    | @kd a o es ep _ g1 g2 g3 g4 kr =>
      cases ru
      obtain ⟨ks, rk, rv⟩ := kd_keys kr
      have oa : ObjAt X.K (fun _ => True) a o := fun Y pn τ G s2 eK J _ => J.kIn _ _ (by rw [eK]; exact g1)
      refine iter_keys g4.2 (I1.kIn _ _ g1) g2 g3 (pie_one (tk := s1.toks) I1 _ (turn_K oa g2 g3 rv) ⟨_, Heap.get?_push_size _ rfl, rfl, rfl⟩ ?_)
      exact hk _ _ _ _ _ _ _ hM k1 k1 (walk_seq rk (fun i H2 k hi => ⟨True.intro, hi⟩) (fun H2 k => ⟨True.intro, Nat.le_refl _⟩) fun i H2 v H3 k hi y => y) q
  · rename_i a
    cases rp
    cases ru
    split at q
    · rename_i ps e1
      obtain ⟨vs, h1, rs⟩ := hM.lst e1
      obtain ⟨its, rv, pl, hz⟩ := I1.list (SqL.of h1)
      refine wpAny_pyIter_list pl.isList (pie_one (tk := s1.toks) I1 _ (turn_list a _) ⟨_, Heap.get?_push_size _ rfl, rfl, rfl⟩ ?_)
      exact hk _ _ _ _ _ _ _ hM k1 k1 (walk_lst e1) q
    · rename_i kvs e1
      obtain ⟨o, es, ep, ks, us, g1, g2, g3, g5, I2, hM2, kp, rk, ru, vk, vu, oa, fin⟩ := dct_lock I1 hM e1
      refine iter_keys g5 g1 g2 g3 (pie_one (tk := s1.toks) I2 _ (turn_K oa g2 g3 vk) ⟨_, Heap.get?_push_size _ rfl, rfl, rfl⟩ ?_)
      refine hk _ _ _ _ _ H1 _ hM2 k1 (k1.trans kp) ⟨fun i H2 M2 hM' k _ hi => ⟨k.frz _ _ _ upd_same, by rw [← rk.length]; exact hi⟩, fun H2 M2 hM' k _ => ⟨k.frz _ _ _ upd_same, by rw [rk.length]; exact Nat.le_refl _⟩, fun i H2 M2 v H3 hM' k _ hi y => ?_, fin⟩ q
      obtain ⟨rfl, y⟩ := y
      obtain ⟨z, hz, rz⟩ := ((rk.keep kp).keep k).get' y
      exact ⟨z, hz, .inl rz, .refl _, hM'⟩
    · exact q.elim
  · exact q.elim
/-- range(n) -/
theorem range_rep {K : PySem.W.Frag} {H : Hp} : ∀ l : List Nat, Reps K H (l.map fun (i : Nat) => PV.int i) (l.map fun (i : Nat) => V.int i)
  | [] => .nil
  | _ :: l => .cons (.int _) (range_rep l)
theorem i_rng1 (hg : Gl X "range") (hm : X.mg "range" = none) (hs : notStar e = true) (he : PE X e (liftE (gOf X ca) re)) : PI X tg (.Call (.Name "range" p) [e] [] pos) (liftI X ca t fun g M R => re g M fun p M1 => match p with
    | .int n => n ≤ 1000000000 ∧ -1000000000 ≤ n ∧ R ((List.range n.toNat).map fun (i : Nat) => PV.int i) (fun _ => True) id M1
    | _ => False) := by
  have z := pi_range1 (tg := tg) (p := p) (pos := pos) hg hm (pa_cons he pa_nil (star_ok hs _)) (star_ok hs _)
  refine ⟨fun pins s σ H R I h => z.run pins s σ H R I ?_⟩
  obtain ⟨g, M, Ra, rel, run, hk⟩ := h
  refine lift_run rel run fun p M1 v H1 rel1 rp k1 q1 => ?_
  split at q1
  · rename_i n
    cases rp
    refine ⟨n, rfl, by omega, by omega, hk _ _ _ _ _ _ _ rel1.h k1 k1 (walk_seq (range_rep _) (fun i H2 k hi => ?_) (fun H2 k => ?_) fun i H2 v H3 k hi y => ⟨y.1, ?_⟩) q1.2.2⟩
    · show i < n.toNat
      simpa using hi
    · show n.toNat ≤ _
      simp
    · obtain ⟨_, rfl⟩ := y
      simp only [List.length_map, List.length_range] at hi
      rw [List.getElem?_map, List.getElem?_range hi]
      simp
  · exact q1.elim
theorem zip_get {α : Type} (xs : List α) : ∀ (i : Nat) {x : α}, xs[i]? = some x → xs.zipIdx[i]? = some (x, i) := fun i x h => by
  rw [List.getElem?_zipIdx, h]; simp
theorem i_enum {ts : Tgs} {tpos : Pos} {elts : List Expr} {kk : Nat} (ht : t = .tup ts) (hg : Gl X "enumerate") (hm : X.mg "enumerate" = none) (hs : notStar e = true) (he : PE X e (liftE (gOf X ca) re)) :
    PI X (.Tuple elts kk tpos) (.Call (.Name "enumerate" p) [e] [] pos) (liftI X ca t fun g M R => re g M fun p M1 => match p with
    | .ref a => match M1 a with
      | some (.lst xs) => R (xs.zipIdx.map fun (x, i) => .tup [.int i, x]) (fun M' => M' a = some (.lst xs)) id M1
      | _ => False
    | _ => False) := by
  have z := pi_enum (X := X) (elts := elts) (kk := kk) (tpos := tpos) (p := p) (pos := pos) hg hm (pa_cons he pa_nil (star_ok hs _)) (star_ok hs _)
  refine ⟨fun pins s σ H R I h => z.run pins s σ H R I ?_⟩
  obtain ⟨g, M, Ra, rel, run, hk⟩ := h
  refine lift_run rel run fun p M1 v H1 rel1 rp k1 q1 => ?_
  split at q1
  · rename_i a
    cases rp
    split at q1
    · rename_i ps e1
      obtain ⟨vs, h1, rs⟩ := rel1.h.lst e1
      refine ⟨a, vs, rfl, SqL.of h1, hk _ _ _ _ _ _ _ rel1.h k1 k1 ⟨fun i H2 M2 hM k st hi => ?_, fun H2 M2 hM k st => ?_, fun i H2 M2 v H3 hM k st hi y => ?_, fin_id (.refl H1)⟩ q1⟩
      · obtain ⟨vs2, h2, rs2⟩ := hM.lst st
        exact ⟨vs2, vs2[i]'(by rw [← rs2.length]; simpa using hi), SqL.of h2, List.getElem?_eq_getElem _⟩
      · obtain ⟨vs2, h2, rs2⟩ := hM.lst st
        exact ⟨vs2, SqL.of h2, by rw [← rs2.length]; simp⟩
      · obtain ⟨vs2, h2, rs2⟩ := hM.lst st
        obtain ⟨T, x, rfl, hT, rfl, y⟩ := y
        obtain ⟨q, hq, rq⟩ := rs2.get' (y vs2 (SqL.of h2))
        refine ⟨.tup [.int i, q], by rw [List.getElem?_map, zip_get _ _ hq]; rfl, .inr ⟨ts, _, T, _, ht, rfl, rfl, .inl (.inl upd_same), .cons (.int _) (.one (rq.keep (.new hT)))⟩, .new hT, hM.new0 hT⟩
    · exact q1.elim
  · exact q1.elim
theorem i_zip {ts : Tgs} {tpos : Pos} {elts : List Expr} {kk : Nat} (ht : t = .tup ts) (hg : Gl X "zip") (hm : X.mg "zip" = none) (hs : notStar e = true) (hs2 : notStar e2 = true) (he : PE X e (liftE (gOf X ca) re)) (he2 : PE X e2 (liftE (gOf X ca) re2)) :
    PI X (.Tuple elts kk tpos) (.Call (.Name "zip" p) [e, e2] [] pos) (liftI X ca t fun g M R => re g M fun p M1 => re2 g M1 fun q M2 => match p, q with
    | .tup xs, .tup ys => R ((xs.zip ys).map fun z => .tup [z.1, z.2]) (fun _ => True) id M2
    | _, _ => False) := by
  have z := RZ.pi_zipA (X := X) (elts := elts) (kk := kk) (tpos := tpos) (p := p) (pos := pos) hg hm (pa_cons he (pa_cons he2 pa_nil (star_ok hs2 _)) (star_ok hs _)) (star_ok hs _) (stars_ok (by simp [hs2]) _ _)
  refine ⟨fun pins s σ H R I h => z.run pins s σ H R I ?_⟩
  obtain ⟨g, M, Ra, rel, run, hk⟩ := h
  refine lift_run rel run fun p M1 v H1 rel1 rp k1 q1 => lift_run rel1 q1 fun q M2 w H2 rel2 rq k2 q2 => ?_
  split at q2
  · cases rp with
    | @tup a vs xs t1 r1 =>
      cases rq with
      | @tup b ws ys t2 r2 =>
        have t1 := t1.keep k2
        have r1 := r1.keep k2
        have l1 := r1.length
        have l2 := r2.length
        refine ⟨a, b, vs, ws, rfl, .inr ⟨t1.sq, t2.sq, hk _ _ _ _ _ _ _ rel2.h (k1.trans k2) (k1.trans k2) ⟨fun i H2 M2 hM k st hi => ?_, fun H2 M2 hM k st => ?_, fun i H2 M2 v H3 hM k st hi y => ?_, fin_id (.refl _)⟩ q2⟩⟩
        · simp only [List.length_map, List.length_zip] at hi
          exact ⟨vs, ws, vs[i]'(by omega), ws[i]'(by omega), (t1.keep k).sq, (t2.keep k).sq, List.getElem?_eq_getElem _, List.getElem?_eq_getElem _⟩
        · exact ⟨vs, ws, (t1.keep k).sq, (t2.keep k).sq, by simp only [List.length_map, List.length_zip]; omega⟩
        · obtain ⟨T, x, y', rfl, hT, rfl, y1, y2⟩ := y
          obtain ⟨q, hq, rq⟩ := (r1.keep k).get' (y1 vs (t1.keep k).sq)
          obtain ⟨q', hq', rq'⟩ := (r2.keep k).get' (y2 ws (t2.keep k).sq)
          refine ⟨.tup [q, q'], ?_, .inr ⟨ts, _, T, _, ht, rfl, rfl, .inl (.inl upd_same), .cons (rq.keep (.new hT)) (.one (rq'.keep (.new hT)))⟩, .new hT, hM.new0 hT⟩
          rw [List.getElem?_map, (List.getElem?_zip_eq_some (z := (q, q'))).mpr ⟨hq, hq'⟩]
          rfl
  · exact q2.elim
/-- d.items() -/
theorem i_items {ts : Tgs} {tpos : Pos} {elts : List Expr} {kk : Nat} (ht : t = .tup ts) (hp : plainO e = true) (hl : ap.endLine = pos.line) (he : PE X e (liftE (gOf X ca) re)) :
    PI X (.Tuple elts kk tpos) (.Call (.Attribute e "items" ap) [] [] pos) (liftI X ca t fun g M R => re g M fun p M1 => match p with
    | .ref a => match M1 a with
      | some (.dct kvs) => R (kvs.map fun q => .tup [q.1, q.2]) (fun _ => True) (fun M' => mput M' a (.dct kvs)) (mdel M1 a)
      | _ => False
    | _ => False) := by
  refine ⟨fun pins s σ H R I h => ?_⟩
  obtain ⟨g, M, Ra, rel, run, hk⟩ := h
  refine wpAny_Call_method (T := "dict") (id := "dict.items") (base_ok hp) rfl (by simpa using hl) PySem.F.plainAttrs_dict PySem.F.slot_dict_items PySem.F.type_dict_items (thn (he.run pins s σ H (fun v H1 => ∃ a kvs M1, v = .ref a ∧ HRep X.w ca X.K M1 H1 ∧ Keep H H1 ∧ M1 a = some (.dct kvs) ∧ Ra (kvs.map fun q => .tup [q.1, q.2]) (fun _ => True) (fun M' => mput M' a (.dct kvs)) (mdel M1 a)) I
    (lift_run rel run fun p M1 v H1 rel1 rp k1 q1 => ?_)) fun u s1 ⟨v, H1, I1, ru, a, kvs, M1, ev, hM, k1, e1, q⟩ => ?_)
  · split at q1
    · rename_i a
      cases rp
      split at q1
      · rename_i kvs e1
        exact ⟨a, kvs, M1, rfl, rel1.h, k1, e1, q1⟩
      · exact q1.elim
    · exact q1.elim
  · subst ev
    cases ru
    obtain ⟨o, es, ep, ks, us, g1, g2, g3, g5, I2, hM2, kp, rk, ru, vk, vu, oa, fin⟩ := dct_lock I1 hM e1
    refine ⟨⟨o, g1, g2.1⟩, fun b z => by cases z; exact ⟨o, g1, g2.2.1⟩, ?_⟩
    have I3 : L2.Inv X pins σ (upd H1 a (.frz o (DctO a es))) { s1 with heap := s1.heap.push { cls := .type "dict_items", data := .fields #[.ref a] } } := I2.kept (t' := s1.toks) fun b ob q => Heap.get?_push_of_some _ q
    have g1' : (s1.heap.push { cls := .type "dict_items", data := .fields #[.ref a] }).get? a = some o := Heap.get?_push_of_some _ g1
    have fin2 : wpAny (model X.prog X.w) X.A (pyIter (.ref s1.heap.objs.size)) (PIE X pins σ (.Tuple elts kk tpos) R) X.xe { s1 with heap := s1.heap.push { cls := .type "dict_items", data := .fields #[.ref a] } } := by
      refine wpAny_pyIter_items_raw (d := a) ⟨_, Heap.get?_push_size _ rfl, rfl, rfl⟩ ⟨o, g1', g2, g3⟩ (pie_one (tk := s1.toks) I3 _ (turn_P oa g2 g3 vk vu) ⟨.none, .none, Heap.get?_push_size _ rfl⟩ ?_)
      have hlen : us.length = ks.length := by rw [vu.length, vk.length]; simp
      refine hk _ _ _ _ _ H1 _ hM2 k1 (k1.trans kp) ⟨fun i H2 M2 hM' k _ hi => ⟨k.frz _ _ _ upd_same, by rw [← rk.length]; simpa using hi⟩, fun H2 M2 hM' k _ => ⟨k.frz _ _ _ upd_same, by rw [← rk.length]; simp⟩, fun i H2 M2 v H3 hM' k _ hi y => ?_, fin⟩ q
      obtain ⟨T, y, z, hy, hz, rfl, hT, rfl⟩ := y
      obtain ⟨q1, hq1, r1⟩ := ((rk.keep kp).keep k).get' hy
      obtain ⟨q2, hq2, r2⟩ := ((ru.keep kp).keep k).get' hz
      rw [List.getElem?_map] at hq1 hq2
      cases hx : kvs[i]? with
      | none => rw [hx] at hq1; cases hq1
      | some c =>
        rw [hx] at hq1 hq2
        cases hq1; cases hq2
        exact ⟨.tup [c.1, c.2], by rw [List.getElem?_map, hx]; rfl, .inr ⟨ts, _, T, _, ht, rfl, rfl, .inl (.inl upd_same), .cons (r1.keep (.new hT)) (.one (r2.keep (.new hT)))⟩, .new hT, hM'.new0 hT⟩
    exact method_meetsIn PySem.F.slot_dict_items PySem.F.entry_dict_items rfl (PySem.evalArgs_none ⟨rfl, ⟨o, g1, g2.1⟩, PySem.F.args_dict_items_1 _, _, meets_dict_items_raw a g5, ⟨es, ep, o, g1, g2, g3⟩, fin2⟩)
end
end Rx
end

section
set_option maxHeartbeats 4000000
/-! Rx: targets, comprehensions. -/
namespace Rx
open PySem PySem.Spec PyProof.Rows L2
/-- but for some slots the names are as they were -/
def Same (l : List Nat) (σ σ' : L2.St) : Prop := σ'.length = σ.length ∧ ∀ j, j ∉ l → σ'[j]? = σ[j]?
theorem Same.refl (l : List Nat) (σ : L2.St) : Same l σ σ := ⟨rfl, fun _ _ => rfl⟩
theorem Same.trans {l l' : List Nat} {a b c : L2.St} (x : Same l a b) (y : Same l' b c) : Same (l ++ l') a c :=
  ⟨y.1.trans x.1, fun j h => by
    have h1 : j ∉ l := fun z => h (List.mem_append_left _ z)
    have h2 : j ∉ l' := fun z => h (List.mem_append_right _ z)
    rw [y.2 j h2, x.2 j h1]⟩
theorem wipe_get (σ : L2.St) (j : Nat) : ∀ vs : List Nat, (L2.wipe σ vs)[j]? = if j ∈ vs then (σ[j]?).map (fun _ => none) else σ[j]?
  | [] => by simp [L2.wipe]
  | v :: vs => by
    have ih := wipe_get σ j vs
    have hl := wipe_length σ vs
    unfold L2.wipe
    by_cases h : v = j
    · subst h
      by_cases hv : v < σ.length
      · rw [List.getElem?_set_self (by rw [hl]; exact hv)]
        simp [hv]
      · rw [List.getElem?_eq_none (by rw [List.length_set, hl]; omega)]
        rw [List.getElem?_eq_none (by omega)]
        simp
    · rw [List.getElem?_set_ne h, ih]
      have : j ∈ v :: vs ↔ j ∈ vs := by
        rw [List.mem_cons]
        exact ⟨fun z => z.elim (fun q => absurd q.symm h) id, .inr⟩
      simp only [this]
theorem wipe_same {σ σ2 : L2.St} {l vs : List Nat} (h : Same l (L2.wipe σ vs) σ2) (hl : ∀ i ∈ l, i ∈ vs) : L2.wipe σ2 vs = L2.wipe σ vs := by
  apply List.ext_getElem?
  intro j
  rw [wipe_get, wipe_get]
  by_cases hj : j ∈ vs
  · rw [if_pos hj, if_pos hj]
    have h1 := h.1
    rw [wipe_length] at h1
    by_cases hz : j < σ.length
    · rw [List.getElem?_eq_getElem hz, List.getElem?_eq_getElem (by omega)]; rfl
    · rw [List.getElem?_eq_none (by omega), List.getElem?_eq_none (by omega)]
  · rw [if_neg hj, if_neg hj, h.2 j fun z => hj (hl j z), wipe_get, if_neg hj]
/-- a store's reading -/
def liftG (X : Cx) (ca : String → Addr) (t : Tg) (r : PV → Sg → MM → (Sg → MM → Prop) → Prop) : TG := fun v σ H Q => ∃ p g M k, Rel (gOf X ca) σ H g M ∧ RepT t X.K H p v ∧ r p g M k ∧ ∀ g' M' σ' H', Rel (gOf X ca) σ' H' g' M' → Keep H H' → Same (tgSl t) σ σ' → k g' M' → Q σ' H'
def liftGs (X : Cx) (ca : String → Addr) (ts : Tgs) (r : List PV → Sg → MM → (Sg → MM → Prop) → Prop) : TGs := fun vs σ H Q => ∃ ps g M k, Rel (gOf X ca) σ H g M ∧ Reps X.K H ps vs ∧ r ps g M k ∧ ∀ g' M' σ' H', Rel (gOf X ca) σ' H' g' M' → Keep H H' → Same (tgsSl ts) σ σ' → k g' M' → Q σ' H'
section
variable {X : Cx} {ca : String → Addr} {t : Tg} {tg e e2 o i elt : Expr} {ro ri : RE} {p pos ap : Pos}
theorem PG.imp {e : Expr} {t t' : TG} (h : PG X e t) (i : ∀ v σ H Q, t' v σ H Q → t v σ H Q) : PG X e t' := ⟨fun pins s σ H v u Q I r q => h.run pins s σ H v u Q I r (i v σ H Q q)⟩
theorem PGs.imp {e : List Expr} {t t' : TGs} (h : PGs X e t) (i : ∀ v σ H Q, t' v σ H Q → t v σ H Q) : PGs X e t' := ⟨fun pins s σ H v u Q I r q => h.run pins s σ H v u Q I r (i v σ H Q q)⟩
theorem RepT.name {i : Nat} {K : PySem.W.Frag} {H : Hp} {p : PV} {v : V} (r : RepT (.name i) K H p v) : Rep K H p v := by
  rcases r with r | ⟨ts, ps, a, vs, e, _⟩
  · exact r
  · cases e
theorem RepT.sub {o i : E} {K : PySem.W.Frag} {H : Hp} {p : PV} {v : V} (r : RepT (.sub o i) K H p v) : Rep K H p v := by
  rcases r with r | ⟨ts, ps, a, vs, e, _⟩
  · exact r
  · cases e
theorem g_name {i : Nat} {x : Str} (hN : X.N.Nodup) (hi : X.N[i]? = some x) (hx : Loc X.env.scope x) (hf : X.fn x = true ∨ X.env.scope.names.lookup x = some .local) : PG X (.Name x pos) (liftG X ca (.name i) fun p g M k => k (g.set i (some p)) M) :=
  PG.imp (pg_name hN hi hx hf) fun v σ H Q ⟨p, g, M, k, rel, rp, q, hk⟩ => hk _ _ _ _ ⟨rel.s.set i rp.name, rel.h⟩ (.refl H) ⟨List.length_set .., fun j hj => List.getElem?_set_ne (fun z => hj (by simp [tgSl, z]))⟩ q
theorem gs_nil : PGs X [] (liftGs X ca .nil fun ps g M k => match ps with
    | [] => k g M
    | _ => False) :=
  PGs.imp pgs_nil fun v σ H Q ⟨ps, g, M, k, rel, rp, q, hk⟩ => by
    dsimp only at q
    split at q
    · cases rp; exact ⟨rfl, hk _ _ _ _ rel (.refl H) (.refl _ _) q⟩
    · exact q.elim
theorem gs_cons {es : List Expr} {ts : Tgs} {r : PV → Sg → MM → (Sg → MM → Prop) → Prop} {r2 : List PV → Sg → MM → (Sg → MM → Prop) → Prop} (hs : notStar e = true) (h1 : PG X e (liftG X ca t r)) (h2 : PGs X es (liftGs X ca ts r2)) :
    PGs X (e :: es) (liftGs X ca (.cons t ts) fun ps g M k => match ps with
    | p :: ps => r p g M fun g1 M1 => r2 ps g1 M1 k
    | _ => False) :=
  PGs.imp (pgs_cons h1 h2 (asgn_ok hs _)) fun v σ H Q ⟨ps, g, M, k, rel, rp, q, hk⟩ => by
    dsimp only at q
    split at q
    · cases rp with
      | cons a b => exact ⟨_, _, rfl, _, g, M, _, rel, .inl a, q, fun g1 M1 σ1 H1 rel1 k1 s1 q1 => ⟨_, g1, M1, k, rel1, b.keep k1, q1, fun g2 M2 σ2 H2 rel2 k2 s2 q2 => hk _ _ _ _ rel2 (k1.trans k2) (s1.trans s2) q2⟩⟩
    · exact q.elim
theorem g_tup {es : List Expr} {k : Nat} {ts : Tgs} {r : List PV → Sg → MM → (Sg → MM → Prop) → Prop} (hc : X.calm = true) (hs : es.all notStar = true) (hl : tgsLen ts = es.length) (h : PGs X es (liftGs X ca ts r)) :
    PG X (.Tuple es k pos) (liftG X ca (.tup ts) fun p g M k => match p with
    | .tup ps => ps.length = tgsLen ts ∧ r ps g M k
    | _ => False) :=
  PG.imp (pg_tup hc h (asgn_len es _) (asgn_no hs _)) fun v σ H Q ⟨p, g, M, k, rel, rp, q, hk⟩ => by
    dsimp only at q
    split at q
    · rename_i ps
      have z : ∃ a vs, v = .ref a ∧ SqT X.K H a vs ∧ Reps X.K H ps vs := by
        rcases rp with rp | ⟨ts2, ps2, a, vs, e1, e2, e3, e4, e5⟩
        · cases rp with
          | tup tt rs => exact ⟨_, _, rfl, tt.sq, rs⟩
        · cases e2
          exact ⟨a, vs, e3, e4, e5⟩
      obtain ⟨a, vs, rfl, sq, rs⟩ := z
      exact ⟨a, vs, rfl, sq, by rw [← rs.length, q.1, hl], _, g, M, k, rel, rs, q.2, hk⟩
    · exact q.elim
theorem g_sub {rp ri : RE} (hu : X.A.units + 65 < cLine) (hs : notSlice i = true) (ho : PE X o (liftE (gOf X ca) rp)) (hi : PE X i (liftE (gOf X ca) ri)) {oE iE : E} :
    PG X (.Subscript o i pos) (liftG X ca (.sub oE iE) fun p g M k => rp g M fun q M1 => ri g M1 fun r M2 => setA q r p M2 fun M3 => k g M3) :=
  PG.imp (pg_sub ho hi (set_snd hu) (sub_assign hs)) fun v σ H Q ⟨p, g, M, k, rel, rp, q, hk⟩ =>
    lift_run rel q fun po M1 vo H1 rel1 ro k1 q1 => lift_run rel1 q1 fun pi M2 vi H2 rel2 ri k2 q2 =>
      ⟨po, pi, p, M2, _, rel2.h, ro.keep k2, ri, (rp.sub.keep k1).keep k2, q2, fun M3 H3 hM3 k3 q3 => hk _ _ _ _ (rel2.go k3 hM3) ((k1.trans k2).trans k3) (.refl _ _) q3⟩
/-! ### comprehensions -/
theorem ep_unl {pins : List (Addr × Obj)} {σ : L2.St} {Q : VK} {u : Value} {s : Shared} (h : EP X pins σ (fun v H2 => ∃ H3, (∀ pins σ s, L2.Inv X pins σ H2 s → L2.Inv X pins σ H3 s) ∧ Q v H3) u s) : EP X pins σ Q u s := by
  obtain ⟨v, H2, I, r, H3, c, q⟩ := h
  exact ⟨v, H3, c _ _ _ I, r, q⟩
theorem ts_none : PTs X [] (liftT (gOf X ca) fun _ M Q => Q true M) := ⟨fun pins s σ H Q I ⟨g, M, Qa, rel, run, hk⟩ => pts_nil.run pins s σ H Q I (hk true M H rel.h (.refl H) run)⟩
theorem ts_some {r : RT} (h : PT X e (liftT (gOf X ca) r)) : PTs X [e] (liftT (gOf X ca) r) := pts_one h
/-- the turns -/
theorem lc_turns {rI : Sg → MM → RI → Prop} {rG : PV → Sg → MM → (Sg → MM → Prop) → Prop} {rT : RT} {rE : RE} {vs : List Nat} {σ : L2.St} {H : Hp} {Q : VK} (hsl : ∀ i ∈ tgSl t, i ∈ vs)
    (h : liftE (gOf X ca) (fun g M Q => rI g M fun xs st un M1 => ∀ D, M1 D = none → lcF st rG (wipeG g vs) rT rE D (fun M2 => Q (.ref D) (un M2)) xs [] (mput M1 D (.lst []))) σ H Q) :
    tLc (liftI X ca t rI) (liftG X ca t rG) (liftT (gOf X ca) rT) (liftE (gOf X ca) rE) vs σ H (fun v H2 => ∃ H3, (∀ pins σ s, L2.Inv X pins σ H2 s → L2.Inv X pins σ H3 s) ∧ Q v H3) := by
  obtain ⟨g, M, Qa, rel, run, hk⟩ := h
  refine ⟨g, M, _, rel, run, fun xs st un M1 J H0 H1 hM1 k0 k1 wk q => fun D hD => ?_⟩
  have q := q D (hM1.fresh hD)
  have kD : Keep H1 (upd H1 D (.lst [])) := .new hD
  refine ⟨fun i m H' => m = xs.length - i ∧ i ≤ xs.length ∧ ∃ acc M2, HRep X.w ca X.K M2 H' ∧ Keep H1 H' ∧ lcF st rG (wipeG g vs) rT rE D (fun M2 => Qa (.ref D) (un M2)) (xs.drop i) acc M2, ⟨xs.length, rfl, Nat.zero_le _, [], _, hM1.new (u := .lst []) hD ⟨[], upd_same, .nil⟩, kD, q⟩, ?_⟩
  rintro i m H2 ⟨rfl, hi, acc, M2, hM2, k2, q2⟩
  by_cases hlt : i < xs.length
  · rw [List.drop_eq_getElem_cons hlt] at q2
    unfold lcF at q2
    obtain ⟨hst, q2⟩ := q2
    refine .inr ⟨wk.go i H2 M2 hM2 k2 hst hlt, fun H' => ∃ acc M2, HRep X.w ca X.K M2 H' ∧ Keep H1 H' ∧ lcF st rG (wipeG g vs) rT rE D (fun M2 => Qa (.ref D) (un M2)) (xs.drop (i + 1)) acc M2, fun H' n => ⟨xs.length - (i + 1), by omega, rfl, hlt, n⟩, fun v H3 y => ?_⟩
    obtain ⟨p, hp, rp, k3, hM3⟩ := wk.yld i H2 M2 v H3 hM2 k2 hst hlt y
    rw [List.getElem?_eq_getElem hlt] at hp
    cases hp
    have k23 : Keep H H3 := (k1.trans k2).trans k3
    refine ⟨_, wipeG g vs, M2, _, ⟨(rel.s.keep k23).wipe vs, hM3⟩, rp, q2, fun g4 M4 σ4 H4 rel4 k4 s4 q4 => ⟨wipe_same s4 hsl, liftT_run rel4 q4 fun b M5 H5 rel5 k5 q5 => ?_⟩⟩
    have kk : Keep H1 H5 := ((k2.trans k3).trans k4).trans k5
    cases b with
    | true =>
      simp only [if_true] at q5 ⊢
      refine lift_run rel5 q5 fun y M6 vy H6 rel6 ry k6 ⟨e6, z6, q6⟩ => ?_
      obtain ⟨ws, h6, rs6⟩ := rel6.h.lst e6
      exact ⟨ws, h6, by rw [← rs6.length]; exact z6, acc ++ [y], _, rel6.h.set (u := .lst (acc ++ [y])) h6 rfl ⟨_, upd_same, ((rs6.append (.one ry))).keep (.set h6 rfl)⟩, (kk.trans k6).trans (.set h6 rfl), q6⟩
    | false =>
      simp only [Bool.false_eq_true, if_false] at q5 ⊢
      exact ⟨acc, M5, rel5.h, kk, q5.2⟩
  · have e : i = xs.length := by omega
    subst e
    rw [List.drop_length] at q2
    unfold lcF at q2
    refine .inl ⟨wk.stop H2 M2 hM2 k2 q2.1, ?_⟩
    obtain ⟨H3, c, hM3, k3⟩ := wk.fin H2 M2 hM2 k2
    exact ⟨H3, c, hk _ _ _ _ hM3 (.ref D) (k0.trans k3) q2.2⟩
theorem e_lc {ifs : List Expr} {scope : Scope} {own : List (Str × Nat)} {rI : Sg → MM → RI → Prop} {rG : PV → Sg → MM → (Sg → MM → Prop) → Prop} {rT : RT} {rE : RE} (hc : X.calm = true) (hN : X.N.Nodup) (hi : PI X tg e (liftI X ca t rI)) (ok : BlkOk X.N X.env.scope scope own)
    (hsl : ∀ i ∈ tgSl t, i ∈ own.map (·.2)) (hg : ∀ (s : Shared) (H : Hp) (C : Addr) (cl : List (Str × Addr)) (fp : List Addr), PG (X.blk s H scope (compEnvC scope cl C X.env) fp) tg (liftG X ca t rG))
    (ht : ∀ (s : Shared) (H : Hp) (C : Addr) (cl : List (Str × Addr)) (fp : List Addr), PTs (X.blk s H scope (compEnvC scope cl C X.env) fp) ifs (liftT (gOf X ca) rT))
    (he : ∀ (s : Shared) (H : Hp) (C : Addr) (cl : List (Str × Addr)) (fp : List Addr), PE (X.blk s H scope (compEnvC scope cl C X.env) fp) elt (liftE (gOf X ca) rE)) (hs : ∀ x, foldedSetIterable e X.env x = pure x) :
    PE X (.ListComp elt [⟨tg, e, ifs, 0⟩] scope pos) (liftE (gOf X ca) fun g M Q => rI g M fun xs st un M1 => ∀ D, M1 D = none → lcF st rG (wipeG g (own.map (·.2))) rT rE D (fun M2 => Q (.ref D) (un M2)) xs [] (mput M1 D (.lst []))) :=
  ⟨fun pins s σ H Q I h => thn ((pe_lc hc hN hi ok hg ht he hs).run pins s σ H _ I (lc_turns hsl h)) fun _ _ q => ep_unl q⟩
end
end Rx
end

section
set_option maxHeartbeats 4000000
/-! Rx: dict comprehensions, dict displays: keys texts and numbers. -/
namespace Rx
open PySem PySem.Spec PyProof.Rows L2
theorem kpv_of {p : PV} (h : simK p = true) : ∃ k, kpv p = some k := by
  cases p <;> first | exact ⟨_, rfl⟩ | cases h
theorem kpv_inv {p : PV} {k : Key} (h : kpv p = some k) : (∃ s, p = .str s ∧ k = .inr (Str.ofString s)) ∨ ∃ i, p = .int i ∧ k = .inl i := by
  cases p with
  | str s => cases h; exact .inl ⟨s, rfl, rfl⟩
  | int i => cases h; exact .inr ⟨i, rfl, rfl⟩
  | _ => cases h
theorem kpv_rep {K : PySem.W.Frag} {H : Hp} {p : PV} {v : V} {k : Key} (h : kpv p = some k) (r : Rep K H p v) : v = kV k := by
  rcases kpv_inv h with ⟨s, rfl, rfl⟩ | ⟨i, rfl, rfl⟩ <;> (cases r; rfl)
theorem kpv_key {p : PV} {k : Key} (h : kpv p = some k) : keyOf p = some (match k with | .inr x => .text x | .inl i => .num i) := by
  rcases kpv_inv h with ⟨s, rfl, rfl⟩ | ⟨i, rfl, rfl⟩ <;> rfl
theorem kpv_eq {p q : PV} {k l : Key} (h1 : kpv p = some k) (h2 : kpv q = some l) : keyEq p q = decide (k = l) := by
  unfold keyEq
  rw [kpv_key h1, kpv_key h2]
  rcases k with a | a <;> rcases l with b | b <;> simp
theorem DRel.length {K : PySem.W.Frag} {H : Hp} : ∀ {ps : List (PV × PV)} {kvs : List (Key × V)}, DRel K H ps kvs → ps.length = kvs.length
  | _, _, .nil => rfl
  | _, _, .cons _ _ c => by simp [c.length]
theorem putK_ne {k0 k : Key} {v0 v : V} {r : List (Key × V)} (h : k0 ≠ k) : putK ((k0, v0) :: r) k v = (k0, v0) :: putK r k v := by
  unfold putK
  have e : decide (k0 = k) = false := decide_eq_false h
  simp only [List.any_cons, e, Bool.false_or]
  split
  · simp [h]
  · rfl
theorem putK_eq {k : Key} {v0 v : V} {r : List (Key × V)} (h : k ∉ r.map (·.1)) : putK ((k, v0) :: r) k v = (k, v) :: r := by
  unfold putK
  simp only [List.any_cons, decide_true, Bool.true_or, if_true, List.map_cons]
  congr 1
  have : ∀ kv ∈ r, (if kv.1 = k then (kv.1, v) else kv) = kv := fun kv hm => by
    rw [if_neg]
    intro e
    exact h (List.mem_map.mpr ⟨kv, hm, e⟩)
  rw [List.map_congr_left this, List.map_id']
theorem DRel.put {K : PySem.W.Frag} {H : Hp} {y z : PV} {k : Key} {v : V} (hk : kpv y = some k) (rz : Rep K H z v) : ∀ {ps : List (PV × PV)} {kvs : List (Key × V)}, DRel K H ps kvs → (kvs.map (·.1)).Nodup → DRel K H (dPut ps y z) (putK kvs k v)
  | _, _, .nil, _ => .cons hk rz .nil
  | _, _, .cons (p := p) (k := k0) h1 h2 h3, nd => by
    rw [List.map_cons, List.nodup_cons] at nd
    unfold dPut
    rw [kpv_eq h1 hk]
    by_cases e : k0 = k
    · subst e
      rw [putK_eq nd.1, if_pos (by simp)]
      exact .cons h1 rz h3
    · rw [putK_ne e, if_neg (by simp [e])]
      exact .cons h1 h2 (h3.put hk rz nd.2)
theorem putK_keys {k : Key} {v : V} (kvs : List (Key × V)) (nd : (kvs.map (·.1)).Nodup) : ((putK kvs k v).map (·.1)).Nodup := by
  unfold putK
  split
  · have e : ∀ l : List (Key × V), (l.map fun kv => if kv.1 = k then (kv.1, v) else kv).map (·.1) = l.map (·.1) := fun l => by
      rw [List.map_map]
      apply List.map_congr_left
      intro x _
      show (if x.1 = k then (x.1, v) else x).1 = x.1
      split <;> rfl
    rw [e]; exact nd
  · rename_i h
    rw [List.map_append, List.nodup_append]
    refine ⟨nd, by simp, fun a ha b hb => ?_⟩
    simp only [List.map_cons, List.map_nil, List.mem_singleton] at hb
    subst hb
    rintro rfl
    obtain ⟨x, hx, ex⟩ := List.mem_map.mp ha
    exact h (List.any_eq_true.mpr ⟨x, hx, by simp [ex]⟩)
theorem dPut_length {y z : PV} : ∀ l : List (PV × PV), (dPut l y z).length ≤ l.length + 1
  | [] => by simp [dPut]
  | (p, u) :: r => by
    unfold dPut
    split
    · simp
    · have := dPut_length (y := y) (z := z) r
      simp only [List.length_cons]
      omega
/-- the made dict, told raw -/
theorem made_raw {X : Cx} {ca : String → Addr} {pins : List (Addr × Obj)} {σ : L2.St} {H : Hp} {s : Shared} {D : Addr} {M : MM} {acc : List (PV × PV)} (I : L2.Inv X pins σ H s) (hM : HRep X.w ca X.K M H) (hm : M D = some (.kdc acc)) (hz : acc.length ≤ sizeLine) :
    ∃ es, L2.Inv X pins σ (upd H D (DctO D es)) s ∧ HRep X.w ca X.K (mput M D (.dct acc)) (upd H D (DctO D es)) ∧ Keep H (upd H D (DctO D es)) := by
  obtain ⟨kvs, hD, r, _⟩ := hM D _ hm
  obtain ⟨_, hs, vs, kv, o, es, ep, g1, g2, g3, ko, pr, nd⟩ := (show ObjOk X.prog X.w H s.heap D (.dK kvs) from I.hok D _ hD)
  have kp : Keep H (upd H D (DctO D es)) := .set hD rfl
  have I2 : L2.Inv X pins σ (upd H D (DctO D es)) s := I.write (x := D) (e := D) (t' := s.toks) (h' := s.heap) (by rw [hD]; exact True.intro) (.inl rfl) (fun b v _ q => q) ⟨o, g1⟩ (dctO_ok g1 g2 g3)
  have key : ∀ {acc : List (PV × PV)} {kvs : List (Key × V)} {vs : List (Key × Value)} {l : List DictEntry}, DRel X.K H acc kvs → KV kvs vs → Pairs (mixKind X.prog X.w) l vs → (∀ e ∈ l, ∃ k, (mixKind X.prog X.w).is k e.key = true ∧ e.hash = (mixKind X.prog X.w).hash k) →
      ERep X.w X.K H acc l ∧ acc.map (fun q => kpv q.1) = vs.map (fun q => some q.1) := by
    intro acc kvs vs l r0
    induction r0 generalizing vs l with
    | nil => intro kv pr _; cases kv; cases pr; exact ⟨.nil, rfl⟩
    | @cons p q k v ps kvs h1 h2 h3 ih =>
      intro kv pr hko
      cases kv with
      | @cons a b as bs hab t =>
        cases pr with
        | @cons e' kv' es' kvs' i1 i2 pr =>
          obtain ⟨k2, j1, j2⟩ := hko e' (by simp)
          obtain ⟨ih1, ih2⟩ := ih t pr fun x hx => hko x (List.mem_cons_of_mem _ hx)
          have ek : k = b.1 := hab.1
          have e2 : k2 = b.1 := (mixKind X.prog X.w).inj _ _ _ j1 i1
          subst e2
          rw [← ek] at i1 j2
          have i1' : keyIs k e'.key = true := i1
          have j2' : e'.hash = keyH X.w k := j2
          refine ⟨?_, by rw [List.map_cons, List.map_cons, ih2, h1, ek]⟩
          have ru : RelV v e'.val := by rw [i2]; exact hab.2
          rcases kpv_inv h1 with ⟨x, rfl, rfl⟩ | ⟨x, rfl, rfl⟩
          · exact .cons (k := .text _) (v := .str _) rfl (Nat.zero_le _) (by rw [j2']; rfl) (.str _) (relV_key i1') h2 ru ih1
          · exact .cons (k := .num _) (v := .int _) rfl (Nat.zero_le _) (by rw [j2']; rfl) (.int _) (relV_key i1') h2 ru ih1
  have hko : ∀ e ∈ es.toList, ∃ k, (mixKind X.prog X.w).is k e.key = true ∧ e.hash = (mixKind X.prog X.w).hash k := fun e he => ko e (by simpa using he)
  obtain ⟨er, ek⟩ := key r kv pr hko
  have hnd : (acc.map fun q => kk q.1).Nodup := by
    have inj : ∀ {p q : PV} {k l : Key}, kpv p = some k → kpv q = some l → kk p = kk q → k = l := by
      intro p q k l h1 h2 h3
      unfold kk at h3
      rw [kpv_key h1, kpv_key h2] at h3
      rcases k with a | a <;> rcases l with b | b <;> simp_all
    have gen : ∀ {acc : List (PV × PV)} {ks : List Key}, acc.map (fun q => kpv q.1) = ks.map some → ks.Nodup → (acc.map fun q => kk q.1).Nodup := by
      intro acc
      induction acc with
      | nil => intro ks _ _; exact List.nodup_nil
      | cons a r ih =>
        intro ks e nd
        cases ks with
        | nil => simp at e
        | cons k ks =>
          simp only [List.map_cons, List.cons.injEq] at e
          rw [List.nodup_cons] at nd
          rw [List.map_cons, List.nodup_cons]
          refine ⟨fun hm => ?_, ih e.2 nd.2⟩
          obtain ⟨b, hb, eb⟩ := List.mem_map.mp hm
          have hb2 : kpv b.1 ∈ r.map (fun q => kpv q.1) := List.mem_map.mpr ⟨b, hb, rfl⟩
          rw [e.2] at hb2
          obtain ⟨l, hl, el⟩ := List.mem_map.mp hb2
          have := inj el.symm e.1 eb
          subst this
          exact nd.1 hl
    refine gen (ks := vs.map (·.1)) (by rw [ek, List.map_map]; rfl) nd
  refine ⟨es, I2, fun b u q => ?_, kp⟩
  by_cases z : b = D
  · subst z
    rw [mput_same] at q; cases q
    exact ⟨es, upd_same, er.keep kp, hnd, hz, hs⟩
  · rw [mput_ne z] at q
    exact (hM b u q).keep kp (upd_ne z)
theorem DRel.putNd {ps : List (PV × PV)} {kvs : List (Key × V)} (nd : (kvs.map (·.1)).Nodup) (k : Key) (v : V) : ((putK kvs k v).map (·.1)).Nodup := putK_keys kvs nd
section
variable {X : Cx} {ca : String → Addr} {t : Tg} {tg e kx vx : Expr} {pos : Pos}
theorem ep_unl2 {pins : List (Addr × Obj)} {σ : L2.St} {Q : VK} {u : Value} {s : Shared} (h : EP X pins σ (fun v H2 => ∀ pins σ s, L2.Inv X pins σ H2 s → ∃ H3, L2.Inv X pins σ H3 s ∧ Q v H3) u s) : EP X pins σ Q u s := by
  obtain ⟨v, H2, I, r, c⟩ := h
  obtain ⟨H3, I3, q⟩ := c _ _ _ I
  exact ⟨v, H3, I3, r, q⟩
theorem dc_turns {rI : Sg → MM → RI → Prop} {rG : PV → Sg → MM → (Sg → MM → Prop) → Prop} {rT : RT} {rK rV : RE} {vs : List Nat} {σ : L2.St} {H : Hp} {Q : VK} (hsl : ∀ i ∈ tgSl t, i ∈ vs)
    (h : liftE (gOf X ca) (fun g M Q => rI g M fun xs st un M1 => ∀ D, M1 D = none → dcF st rG (wipeG g vs) rT rK rV D (fun kvs M2 => ∃ M3, un M2 = M3 ∧ M3 D = some (.kdc kvs) ∧ Q (.ref D) (mput M3 D (.dct kvs))) xs [] (mput M1 D (.kdc []))) σ H Q) :
    tDc (liftI X ca t rI) (liftG X ca t rG) (liftT (gOf X ca) rT) (liftE (gOf X ca) rK) (liftE (gOf X ca) rV) vs σ H (fun v H2 => ∀ pins σ s, L2.Inv X pins σ H2 s → ∃ H3, L2.Inv X pins σ H3 s ∧ Q v H3) := by
  obtain ⟨g, M, Qa, rel, run, hk⟩ := h
  refine ⟨g, M, _, rel, run, fun xs st un M1 J H0 H1 hM1 k0 k1 wk q => fun D hD => ?_⟩
  have q := q D (hM1.fresh hD)
  have kD : Keep H1 (upd H1 D (.dK [])) := .new hD
  let fn : List (PV × PV) → MM → Prop := fun kvs M2 => ∃ M3, un M2 = M3 ∧ M3 D = some (.kdc kvs) ∧ Qa (.ref D) (mput M3 D (.dct kvs))
  refine ⟨fun i m H' => m = xs.length - i ∧ i ≤ xs.length ∧ ∃ acc M2, HRep X.w ca X.K M2 H' ∧ Keep H1 H' ∧ acc.length ≤ 1000 ∧ dcF st rG (wipeG g vs) rT rK rV D fn (xs.drop i) acc M2, ⟨xs.length, rfl, Nat.zero_le _, [], _, hM1.new (u := .kdc []) hD ⟨[], upd_same, .nil, List.nodup_nil⟩, kD, Nat.zero_le _, q⟩, ?_⟩
  rintro i m H2 ⟨rfl, hi, acc, M2, hM2, k2, hz, q2⟩
  by_cases hlt : i < xs.length
  · rw [List.drop_eq_getElem_cons hlt] at q2
    unfold dcF at q2
    obtain ⟨hst, q2⟩ := q2
    refine .inr ⟨wk.go i H2 M2 hM2 k2 hst hlt, fun H' => ∃ acc M2, HRep X.w ca X.K M2 H' ∧ Keep H1 H' ∧ acc.length ≤ 1000 ∧ dcF st rG (wipeG g vs) rT rK rV D fn (xs.drop (i + 1)) acc M2, fun H' n => ⟨xs.length - (i + 1), by omega, rfl, hlt, n⟩, fun v H3 y => ?_⟩
    obtain ⟨p, hp, rp, k3, hM3⟩ := wk.yld i H2 M2 v H3 hM2 k2 hst hlt y
    rw [List.getElem?_eq_getElem hlt] at hp
    cases hp
    have k23 : Keep H H3 := (k1.trans k2).trans k3
    refine ⟨_, wipeG g vs, M2, _, ⟨(rel.s.keep k23).wipe vs, hM3⟩, rp, q2, fun g4 M4 σ4 H4 rel4 k4 s4 q4 => ⟨wipe_same s4 hsl, liftT_run rel4 q4 fun b M5 H5 rel5 k5 q5 => ?_⟩⟩
    have kk : Keep H1 H5 := ((k2.trans k3).trans k4).trans k5
    cases b with
    | true =>
      simp only [if_true] at q5 ⊢
      refine lift_run rel5 q5 fun y M6 vy H6 rel6 ry k6 q6 => lift_run rel6 q6 fun z M7 vz H7 rel7 rz k7 ⟨e1, e2, e3, q7⟩ => ?_
      obtain ⟨kvs, h7, dr, nd⟩ := rel7.h D _ e3
      obtain ⟨ky, hky⟩ := kpv_of e1
      have kp : Keep H7 (upd H7 D (.dK (putK kvs ky vz))) := .set h7 rfl
      have hl := dr.length
      refine ⟨kvs, ky, kpv_rep hky ry, h7, by rw [← hl, sizeLine_eq]; omega, _, _, rel7.h.set (u := .kdc (dPut acc y z)) h7 rfl ⟨_, upd_same, (dr.put hky rz nd).keep kp, putK_keys kvs nd⟩, ((kk.trans k6).trans k7).trans kp, ?_, q7⟩
      have := dPut_length (y := y) (z := z) acc
      omega
    | false =>
      simp only [Bool.false_eq_true, if_false] at q5 ⊢
      exact ⟨acc, M5, rel5.h, kk, hz, q5.2⟩
  · have e : i = xs.length := by omega
    subst e
    rw [List.drop_length] at q2
    unfold dcF at q2
    refine .inl ⟨wk.stop H2 M2 hM2 k2 q2.1, fun pn τ s2 I2 => ?_⟩
    obtain ⟨H3, c, hM3, k3⟩ := wk.fin H2 M2 hM2 k2
    obtain ⟨M3, eM, e3, q3⟩ := q2.2
    subst eM
    obtain ⟨es, I4, hM4, k4⟩ := made_raw (c _ _ _ I2) hM3 e3 (by rw [sizeLine_eq]; omega)
    exact ⟨_, I4, hk _ _ _ _ hM4 (.ref D) ((k0.trans k3).trans k4) q3⟩
theorem e_dc {ifs : List Expr} {scope : Scope} {own : List (Str × Nat)} {rI : Sg → MM → RI → Prop} {rG : PV → Sg → MM → (Sg → MM → Prop) → Prop} {rT : RT} {rK rV : RE} (hc : X.calm = true) (hN : X.N.Nodup) (hi : PI X tg e (liftI X ca t rI)) (ok : BlkOk X.N X.env.scope scope own)
    (hsl : ∀ i ∈ tgSl t, i ∈ own.map (·.2)) (hg : ∀ (s : Shared) (H : Hp) (C : Addr) (cl : List (Str × Addr)) (fp : List Addr), PG (X.blk s H scope (compEnvC scope cl C X.env) fp) tg (liftG X ca t rG))
    (ht : ∀ (s : Shared) (H : Hp) (C : Addr) (cl : List (Str × Addr)) (fp : List Addr), PTs (X.blk s H scope (compEnvC scope cl C X.env) fp) ifs (liftT (gOf X ca) rT))
    (hkk : ∀ (s : Shared) (H : Hp) (C : Addr) (cl : List (Str × Addr)) (fp : List Addr), PE (X.blk s H scope (compEnvC scope cl C X.env) fp) kx (liftE (gOf X ca) rK))
    (he : ∀ (s : Shared) (H : Hp) (C : Addr) (cl : List (Str × Addr)) (fp : List Addr), PE (X.blk s H scope (compEnvC scope cl C X.env) fp) vx (liftE (gOf X ca) rV)) (hs : ∀ x, foldedSetIterable e X.env x = pure x) :
    PE X (.DictComp kx vx [⟨tg, e, ifs, 0⟩] scope pos) (liftE (gOf X ca) fun g M Q => rI g M fun xs st un M1 => ∀ D, M1 D = none → dcF st rG (wipeG g (own.map (·.2))) rT rK rV D (fun kvs M2 => ∃ M3, un M2 = M3 ∧ M3 D = some (.kdc kvs) ∧ Q (.ref D) (mput M3 D (.dct kvs))) xs [] (mput M1 D (.kdc []))) :=
  ⟨fun pins s σ H Q I h => thn ((pe_dc hc hN hi ok hg ht hkk he hs).run pins s σ H _ I (dc_turns hsl h)) fun _ _ q => ep_unl2 q⟩
end
end Rx
end

section
set_option maxHeartbeats 4000000
/-! Rx: calls of built-in functions, methods of built-in types, isinstance, dict displays. -/
namespace Rx
open PySem PySem.Spec PyProof.Rows L2
section
variable {Γ : Gm} {ca : String → Addr} {xk : XW} {N : List Str} {sc : Scope} {F : Str → Bool} {X : Cx} {a e : Expr} {es : List Expr} {ra : RE} {r : RA} {pos ap p : Pos}
theorem cb_of {rr : List PV → MM → KV1 → Prop} {σ : L2.St} {H : Hp} {Q : VK} (h : liftE (gOf X ca) (fun g M Q => r g M fun ps M1 => rr ps M1 Q) σ H Q) : tCB (liftC (gOf X ca) rr) (liftA (gOf X ca) r) σ H Q := by
  obtain ⟨g, M, Qa, rel, run, hk⟩ := h
  exact liftA_run rel run fun ps M1 vs H1 rel1 rp k1 q1 => ⟨ps, M1, Qa, rel1.h, rp, q1, hands_of hk k1⟩
theorem e_biB {f : String} (hc : CallR X (.builtin f) (liftC (gOf X ca) (biA f))) (hg : Gl X (so f)) (hm : X.mg (so f) = none) (hv : bootBuiltins (so f) = some (.builtin f)) (hn : nmOk (so f) = true) (hs : es.all notStar = true) (he : es.isEmpty = false) (ha : PA X es (liftA (gOf X ca) r)) :
    PE X (.Call (.Name (so f) p) es [] pos) (liftE (gOf X ca) fun g M Q => r g M fun ps M1 => biA f ps M1 Q) := by
  cases es with
  | nil => cases he
  | cons e es =>
    rw [List.all_cons] at hs
    exact PE.imp (pe_callB hc hg hm hv ha (nm_name hn) (nm_dbg hn) (star_ok (and1 hs) _) (stars_ok (and2 hs) _ _)) fun σ H Q h => cb_of h
theorem e_biT {f : String} (hc : CallR X (.type f) (liftC (gOf X ca) (biA f))) (hg : Gl X (so f)) (hm : X.mg (so f) = none) (hv : bootBuiltins (so f) = some (.type f)) (hn : nmOk (so f) = true) (hs : es.all notStar = true) (he : es.isEmpty = false) (ha : PA X es (liftA (gOf X ca) r)) :
    PE X (.Call (.Name (so f) p) es [] pos) (liftE (gOf X ca) fun g M Q => r g M fun ps M1 => biA f ps M1 Q) := by
  cases es with
  | nil => cases he
  | cons e es =>
    rw [List.all_cons] at hs
    exact PE.imp (pe_callTy hc hg hm hv ha (nm_name hn) (nm_dbg hn) (star_ok (and1 hs) _) (stars_ok (and2 hs) _ _)) fun σ H Q h => cb_of h
theorem biCalls_sub : ∀ f ∈ biCalls, f ∈ biNames := by decide
theorem e_bi (K : XOk Γ ca xk N sc F X) {f : String} (hf : biCalls.contains f = true) (hg : glb sc (so f) = true) (hn : nmOk (so f) = true) (hs : es.all notStar = true) (he : es.isEmpty = false) (ha : PA X es (liftA (gOf X ca) r)) :
    PE X (.Call (.Name (so f) p) es [] pos) (liftE (gOf X ca) fun g M Q => r g M fun ps M1 => biA f ps M1 Q) := by
  have hmem : f ∈ biCalls := by simpa using hf
  have hm := K.kn.bi f (biCalls_sub f hmem)
  have g := gl_ok K.eS hg
  simp only [biCalls, List.mem_cons, List.not_mem_nil, or_false] at hmem
  rcases hmem with rfl | rfl | rfl | rfl | rfl | rfl | rfl | rfl | rfl | rfl
  · exact e_biB len_snd g hm (by decide +kernel) hn hs he ha
  · exact e_biT (list_snd K.calm) g hm (by decide +kernel) hn hs he ha
  · exact e_biT tuple_snd g hm (by decide +kernel) hn hs he ha
  · exact e_biT int_snd g hm (by decide +kernel) hn hs he ha
  · exact e_biB (min_snd K.calm) g hm (by decide +kernel) hn hs he ha
  · exact e_biB (max_snd K.calm) g hm (by decide +kernel) hn hs he ha
  · exact e_biB (all_snd K.calm) g hm (by decide +kernel) hn hs he ha
  · exact e_biB (any_snd K.calm) g hm (by decide +kernel) hn hs he ha
  · exact e_biB sorted_snd g hm (by decide +kernel) hn hs he ha
  · exact e_biT str_snd g hm (by decide +kernel) hn hs he ha
/-! ### methods of built-in types -/
theorem bm_at {T id : String} {m : Str} {rr : PV → List PV → MM → KV1 → Prop} (pa : PlainAttrs T) (slot : Slot T m id) (hty : typeOf (.builtin id) = pure (.type "method_descriptor")) (hmt : MtR X id (liftM (gOf X ca) rr))
    (h1 : plainO a = true) (h2 : ap.endLine = pos.line) (h3 : es.length < 29) (hs : es.all notStar = true) (ho : PE X a (liftE (gOf X ca) ra)) (ha : PA X es (liftA (gOf X ca) r)) :
    PE X (.Call (.Attribute a m ap) es [] pos) (liftE (gOf X ca) fun g M Q => ra g M fun p M1 => tyA T p M1 ∧ r g M1 fun ps M2 => rr p ps M2 Q) := by
  refine ⟨fun pins s σ H Q I h => wpAny_Call_method_late (base_ok h1) (few_ok h3 hs) (by simpa using h2) rfl ?_⟩
  obtain ⟨g, M, Qa, rel, run, hk⟩ := h
  refine thn (ho.run pins s σ H (fun v H1 => ∃ p M1, Rel (gOf X ca) σ H1 g M1 ∧ Rep X.K H1 p v ∧ Keep H H1 ∧ tyA T p M1 ∧ r g M1 fun ps M2 => rr p ps M2 Qa) I (lift_run rel run fun p M1 v H1 rel1 rp k1 q1 => ⟨p, M1, rel1, rp, k1, q1⟩)) fun u s1 ⟨v, H1, I1, ru, p, M1, rel1, rp, k1, ty, q1⟩ => ?_
  obtain ⟨t1, t2⟩ := ty_snd I1 rel1.h rp ru ty
  refine ⟨T, id, pa, slot, hty, t1, t2, Calls.callWith_builtin (stars_ok hs _ _) ?_⟩
  refine args_at (Q := fun vs H2 => liftM (gOf X ca) rr v vs H2 Q) ha hs I1 (liftA_run rel1 q1 fun ps M2 vs H2 rel2 rs k2 q2 => ⟨p, ps, M2, Qa, rel2.h, rp.keep k2, rs, q2, hands_of hk (k1.trans k2)⟩) fun us s2 vs H2 I2 rv q2 => ?_
  exact hmt pins s2 σ H2 v vs u us Q I2 ru rv q2
theorem e_bm {T m : String} (hf : bmCalls.contains (T, m) = true) (h1 : plainO a = true) (h2 : ap.endLine = pos.line) (h3 : es.length < 29) (hs : es.all notStar = true) (ho : PE X a (liftE (gOf X ca) ra)) (ha : PA X es (liftA (gOf X ca) r)) :
    PE X (.Call (.Attribute a (so m) ap) es [] pos) (liftE (gOf X ca) fun g M Q => ra g M fun p M1 => tyA T p M1 ∧ r g M1 fun ps M2 => bmA T m p ps M2 Q) := by
  have hmem : (T, m) ∈ bmCalls := by simpa using hf
  simp only [bmCalls, List.mem_cons, List.not_mem_nil, or_false, Prod.mk.injEq] at hmem
  rcases hmem with ⟨rfl, rfl⟩ | ⟨rfl, rfl⟩ | ⟨rfl, rfl⟩ | ⟨rfl, rfl⟩ | ⟨rfl, rfl⟩ | ⟨rfl, rfl⟩ | ⟨rfl, rfl⟩ | ⟨rfl, rfl⟩ | ⟨rfl, rfl⟩
  · exact bm_at PySem.F.plainAttrs_list PySem.F.slot_list_append PySem.F.type_list_append append_snd h1 h2 h3 hs ho ha
  · exact bm_at PySem.F.plainAttrs_list PySem.F.slot_list_extend PySem.F.type_list_extend extend_snd h1 h2 h3 hs ho ha
  · exact bm_at PySem.F.plainAttrs_list PySem.F.slot_list_reverse PySem.F.type_list_reverse reverse_snd h1 h2 h3 hs ho ha
  · exact bm_at PySem.F.plainAttrs_list PySem.F.slot_list_clear PySem.F.type_list_clear clear_snd h1 h2 h3 hs ho ha
  · exact bm_at PySem.F.plainAttrs_list PySem.F.slot_list_pop PySem.F.type_list_pop pop_snd h1 h2 h3 hs ho ha
  · exact bm_at PySem.F.plainAttrs_tuple PySem.F.slot_tuple_index PySem.F.type_tuple_index index_snd h1 h2 h3 hs ho ha
  · exact bm_at PySem.F.plainAttrs_str PySem.F.slot_str_split PySem.F.type_str_split split_snd h1 h2 h3 hs ho ha
  · exact bm_at PySem.F.plainAttrs_str PySem.F.slot_str_strip PySem.F.type_str_strip strip_snd h1 h2 h3 hs ho ha
  · exact bm_at PySem.F.plainAttrs_str PySem.F.slot_str_join PySem.F.type_str_join join_snd h1 h2 h3 hs ho ha
/-! ### isinstance -/
def isiB (a t : String) : Bool := (a == t) || (a == "bool" && t == "int")
theorem isi_kit : ∀ t ∈ isiT, ∀ a ∈ (["NoneType", "bool", "int", "str", "tuple", "list", "dict"] : List String), kitB a t = some (isiB a t) := by decide +kernel
theorem isi_tab : ∀ t ∈ isiT, false = isiB "NoneType" t ∧ (decide (t = "bool") || decide (t = "int")) = isiB "bool" t ∧ decide (t = "int") = isiB "int" t ∧ decide (t = "str") = isiB "str" t ∧ decide (t = "tuple") = isiB "tuple" t ∧ decide (t = "list") = isiB "list" t ∧ decide (t = "dict") = isiB "dict" t := by decide
theorem isi_snd {t : String} (ht : isiT.contains t = true) {pins : List (Addr × Obj)} {σ : L2.St} {H : Hp} {s : Shared} {M : MM} {q : PV} {v : V} {u : Value} {Qa : Bool → Prop} {Q : VK} (I : L2.Inv X pins σ H s) (hM : HRep X.w ca X.K M H) (rp : Rep X.K H q v) (ru : RelV v u) (h : isiA t q M Qa)
    (hk : ∀ b, Qa b → Q (.bl b) H) : wpAny (model X.prog X.w) X.A (call (.builtin "isinstance") [u, .type t]) (EP X pins σ Q) X.xe s := by
  have hmem : t ∈ isiT := by simpa using ht
  have fin : ∀ {T : String} {P : Heap → Prop}, T ∈ (["NoneType", "bool", "int", "str", "tuple", "list", "dict"] : List String) → PySem.W.KitX X.K u (.type T) P → P s.heap → u ≠ .builtin "__main__.__loader__#opaque" → Qa (isiB T t) → wpAny (model X.prog X.w) X.A (call (.builtin "isinstance") [u, .type t]) (EP X pins σ Q) X.xe s :=
    fun hT Z p hx q => PySem.W.kia_one Z I.kIn p (kit_ty (isi_kit t hmem _ hT)) hx fun tk => ⟨.bl (isiB _ t), H, I.tok tk, rfl, hk _ q⟩
  have nt : ∀ a, (Value.ref a) ≠ .builtin "__main__.__loader__#opaque" := fun a z => nomatch z
  have key : ∀ {b : Bool} {T : String}, T ∈ (["NoneType", "bool", "int", "str", "tuple", "list", "dict"] : List String) → Qa b → b = isiB T t → Qa (isiB T t) := fun _ q e => e ▸ q
  obtain ⟨e1, e2, e3, e4, e5, e6, e7⟩ := isi_tab t hmem
  unfold isiA at h
  split at h
  · cases rp; cases (show u = Value.none from ru)
    exact fin (by decide) PySem.W.kitx_none True.intro (fun z => nomatch z) (e1 ▸ h)
  · cases rp; cases (show u = Value.bool _ from ru)
    exact fin (by decide) PySem.W.kitx_bool True.intro (fun z => nomatch z) (e2 ▸ h)
  · cases rp; obtain ⟨k, rfl⟩ := (show ∃ k, u = Value.int _ k from ru)
    exact fin (by decide) PySem.W.kitx_int True.intro (fun z => nomatch z) (e3 ▸ h)
  · cases rp; obtain ⟨k, rfl⟩ := (show ∃ k, u = Value.str _ k from ru)
    exact fin (by decide) PySem.W.kitx_str True.intro (fun z => nomatch z) (e4 ▸ h)
  · cases rp with
    | tup tt rs =>
      have tx := (ty_snd (t := "tuple") I hM (.tup tt rs) ru rfl).1
      cases (show u = Value.ref _ from ru)
      exact fin (by decide) PySem.W.kitx_tuple tx (nt _) (e5 ▸ h)
  · cases rp with
    | kd g1 g2 g3 g4 kr =>
      cases (show u = Value.ref _ from ru)
      exact fin (by decide) PySem.W.kitx_dict ⟨_, I.kIn _ _ g1, g2.1⟩ (nt _) (e7 ▸ h)
  · cases rp with
    | xl tt rs =>
      cases (show u = Value.ref _ from ru)
      obtain ⟨its, _, pl, _⟩ := I.list tt.sq
      exact fin (by decide) PySem.W.kitx_list pl.isList.typeIs (nt _) (e6 ▸ h)
  · cases rp
    cases (show u = Value.ref _ from ru)
    split at h
    · rename_i ps e1
      obtain ⟨vs, h1, rs⟩ := hM.lst e1
      obtain ⟨its, _, pl, _⟩ := I.list (SqL.of h1)
      exact fin (by decide) PySem.W.kitx_list pl.isList.typeIs (nt _) (e6 ▸ h)
    · rename_i kvs e1
      obtain ⟨es, h1, h2, h3, h4, h5⟩ := hM.dct e1
      obtain ⟨o, ep, g1, g2, g3⟩ := dct_obj I h1
      exact fin (by decide) PySem.W.kitx_dict ⟨o, g1, g2.1⟩ (nt _) (e7 ▸ h)
    · exact h.elim
theorem isiT_boot : ∀ t ∈ isiT, bootBuiltins (so t) = some (.type t) ∧ t ∈ biNames := by decide +kernel
theorem e_isi (K : XOk Γ ca xk N sc F X) {t : String} {p2 : Pos} (ht : isiT.contains t = true) (hg : glb sc (so "isinstance") = true) (hgt : glb sc (so t) = true) (hn : nmOk (so t) = true) (hs : notStar a = true) (ha : PE X a (liftE (gOf X ca) ra)) :
    PE X (.Call (.Name (so "isinstance") p) [a, .Name (so t) p2] [] pos) (liftE (gOf X ca) fun g M Q => ra g M fun p M1 => isiA t p M1 fun b => Q (.bl b) M1) := by
  have hb := isiT_boot t (by simpa using ht)
  have hz : PE X (.Name (so t) p2) (tC (.ty t)) := pe_bltn (gl_ok K.eS hgt) (K.kn.bi t hb.2) hb.1 rfl (nm_name hn) (nm_dbg hn)
  let rr : List V → Hp → VK → Prop := fun vs H Q => ∃ q v M Qa, vs = [v, .ty t] ∧ HRep X.w ca X.K M H ∧ Rep X.K H q v ∧ isiA t q M Qa ∧ ∀ b, Qa b → Q (.bl b) H
  have hc : CallR X (.builtin "isinstance") rr := by
    intro pins s σ H xs us Q I r h
    obtain ⟨q, v, M, Qa, rfl, hM, rp, h, hk⟩ := h
    obtain ⟨u1, u2, rfl, r1, r2⟩ := vals2 r
    cases (show u2 = Value.type t from r2)
    exact isi_snd ht I hM rp r1 h hk
  refine PE.imp (pe_callB hc (gl_ok K.eS hg) (K.kn.bi "isinstance" (by decide)) PyProof.Rows.boot_isinstance (pa_cons ha (pa_cons hz pa_nil rfl) (star_ok hs _)) (by decide) (by decide) (star_ok hs _) rfl) fun σ H Q h => ?_
  obtain ⟨g, M, Qa, rel, run, hk⟩ := h
  exact lift_run rel run fun q M1 v H1 rel1 rp k1 q1 => ⟨q, v, M1, _, rfl, rel1.h, rp, q1, fun b hq => (hands_of hk k1).bl rel1.h hq⟩
/-! ### isinstance of an own class -/
theorem isc_snd (K : XOk Γ ca xk N sc F X) {c : String} (hc : Γ.cl.contains c = true) {pins : List (Addr × Obj)} {σ : L2.St} {H : Hp} {s : Shared} {M : MM} {q : PV} {v : V} {u : Value} {Qa : Bool → Prop} {Q : VK} (I : L2.Inv X pins σ H s) (hM : HRep X.w ca X.K M H) (rp : Rep X.K H q v) (ru : RelV v u) (h : iscA Γ c q M Qa)
    (hk : ∀ b, Qa b → Q (.bl b) H) : wpAny (model X.prog X.w) X.A (call (.builtin "isinstance") [u, .ref (ca c)]) (EP X pins σ Q) X.xe s := by
  obtain ⟨C, D⟩ := K.kn.cl c hc
  have fin : ∀ {T : String} {P : Heap → Prop}, T ∈ (["NoneType", "bool", "int", "str", "tuple", "list", "dict"] : List String) → PySem.W.KitX X.K u (.type T) P → P s.heap → u ≠ .builtin "__main__.__loader__#opaque" → Qa false → wpAny (model X.prog X.w) X.A (call (.builtin "isinstance") [u, .ref (ca c)]) (EP X pins σ Q) X.xe s :=
    fun hT Z p hx q => PySem.W.kia_one Z I.kIn p (C.kit _ hT) hx fun tk => ⟨.bl false, H, I.tok tk, rfl, hk _ q⟩
  have nt : ∀ a, (Value.ref a) ≠ .builtin "__main__.__loader__#opaque" := fun a z => nomatch z
  unfold iscA at h
  split at h
  · cases rp; cases (show u = Value.none from ru)
    exact fin (by decide) PySem.W.kitx_none True.intro (fun z => nomatch z) h
  · cases rp; cases (show u = Value.bool _ from ru)
    exact fin (by decide) PySem.W.kitx_bool True.intro (fun z => nomatch z) h
  · cases rp; obtain ⟨k, rfl⟩ := (show ∃ k, u = Value.int _ k from ru)
    exact fin (by decide) PySem.W.kitx_int True.intro (fun z => nomatch z) h
  · cases rp; obtain ⟨k, rfl⟩ := (show ∃ k, u = Value.str _ k from ru)
    exact fin (by decide) PySem.W.kitx_str True.intro (fun z => nomatch z) h
  · cases rp with
    | tup tt rs =>
      have tx := (ty_snd (t := "tuple") I hM (.tup tt rs) ru rfl).1
      cases (show u = Value.ref _ from ru)
      exact fin (by decide) PySem.W.kitx_tuple tx (nt _) h
  · cases rp
    cases (show u = Value.ref _ from ru)
    split at h
    · rename_i ps e1
      obtain ⟨vs, h1, rs⟩ := hM.lst e1
      obtain ⟨its, _, pl, _⟩ := I.list (SqL.of h1)
      exact fin (by decide) PySem.W.kitx_list pl.isList.typeIs (nt _) h
    · rename_i kvs e1
      obtain ⟨es, h1, h2, h3, h4, h5⟩ := hM.dct e1
      obtain ⟨o, ep, g1, g2, g3⟩ := dct_obj I h1
      exact fin (by decide) PySem.W.kitx_dict ⟨o, g1, g2.1⟩ (nt _) h
    · rename_i d fs e1
      obtain ⟨hd, h⟩ := h
      obtain ⟨E, _⟩ := K.kn.cl d hd
      obtain ⟨dx, gs, hH, _⟩ := hM _ _ e1
      obtain ⟨mA, J, _⟩ := ins_get I.hok hH
      obtain ⟨od, J, _⟩ := J.look
      exact PySem.W.kia_one (PySem.W.kitx_own E.hg E.hd E.ha E.hn E.tk E.mr) I.kIn J (D d hd) (nt _) fun tk => ⟨.bl _, H, I.tok tk, rfl, hk _ h⟩
    · exact h.elim
  · exact h.elim
theorem e_isc (K : XOk Γ ca xk N sc F X) {t : String} {p2 : Pos} (hg : glb sc (so "isinstance") = true) (hgt : glb sc (so t) = true) (hn : nmOk (so t) = true) (hs : notStar a = true) (ha : PE X a (liftE (gOf X ca) ra)) :
    PE X (.Call (.Name (so "isinstance") p) [a, .Name (so t) p2] [] pos) (liftE (gOf X ca) fun g M Q => Γ.cl.contains t = true ∧ ra g M fun p M1 => iscA Γ t p M1 fun b => Q (.bl b) M1) := by
  by_cases hc : Γ.cl.contains t = true
  · have C := (K.kn.cl t hc).1
    have hz : PE X (.Name (so t) p2) (tC (.ref (ca t))) := pe_glob (gl_ok K.eS hgt) C.mg rfl (nm_dbg hn)
    let rr : List V → Hp → VK → Prop := fun vs H Q => ∃ q v M Qa, vs = [v, .ref (ca t)] ∧ HRep X.w ca X.K M H ∧ Rep X.K H q v ∧ iscA Γ t q M Qa ∧ ∀ b, Qa b → Q (.bl b) H
    have hcr : CallR X (.builtin "isinstance") rr := by
      intro pins s σ H xs us Q I r h
      obtain ⟨q, v, M, Qa, rfl, hM, rp, h, hk⟩ := h
      obtain ⟨u1, u2, rfl, r1, r2⟩ := vals2 r
      cases (show u2 = Value.ref _ from r2)
      exact isc_snd K hc I hM rp r1 h hk
    refine PE.imp (pe_callB hcr (gl_ok K.eS hg) (K.kn.bi "isinstance" (by decide)) PyProof.Rows.boot_isinstance (pa_cons ha (pa_cons hz pa_nil rfl) (star_ok hs _)) (by decide) (by decide) (star_ok hs _) rfl) fun σ H Q h => ?_
    obtain ⟨g, M, Qa, rel, run, hk⟩ := h
    exact lift_run rel run.2 fun q M1 v H1 rel1 rp k1 q1 => ⟨q, v, M1, _, rfl, rel1.h, rp, q1, fun b hq => (hands_of hk k1).bl rel1.h hq⟩
  · exact ⟨fun pins s σ H Q I ⟨g, M, Qa, rel, run, hk⟩ => absurd run.1 hc⟩
/-! ### == by an own __eq__ -/
theorem passes_none2 {E : XK} (h : ∀ c d H, ¬ E c d H) : Passes (L2.CX X.prog X.w) X E := fun pins σ H s e s' I ⟨a, B, H', cls, d, _, _, _, _, _, _, _, w⟩ => (h _ _ _ w).elim
theorem eqO_snd (K : XOk Γ ca xk N sc F X) : OpR X (compareOp .Eq) (lift2 (gOf X ca) (eqOA Γ)) := by
  intro pins s σ H x y v u Q I rx ry ⟨p, q, M, Qa, hM, rp, rq, hr, hk⟩
  unfold eqOA at hr
  split at hr
  · rename_i a0
    split at hr
    · rename_i c fs e1
      obtain ⟨hc, hq, hm⟩ := hr
      obtain ⟨C, _⟩ := K.kn.cl c hc
      split at hm
      · rename_i n k e2
        obtain ⟨hn, run⟩ := hm
        obtain ⟨j, f, fd, ps, Fn, hroom, mt, hb⟩ := K.kn.mt c "__eq__" n k e2
        cases rp
        cases rx
        obtain ⟨dx, gs, hH, _⟩ := hM _ _ e1
        obtain ⟨mA, J, _⟩ := ins_get I.hok hH
        obtain ⟨od, J, _⟩ := J.look
        obtain ⟨m, hF⟩ := I.fr
        have tb : ∃ tb, PySem.W.Looks (model X.prog X.w) s.heap (typeOf u) tb ∧ PySem.W.notFirst X.K (ca c) tb = true := by
          split at hq
          · cases rq
            cases ry
            split at hq
            · rename_i d fs2 e3
              subst hq
              obtain ⟨dx2, gs2, hH2, _⟩ := hM _ _ e3
              obtain ⟨mA2, J2, _⟩ := ins_get I.hok hH2
              obtain ⟨od2, J2, _⟩ := J2.look
              exact ⟨_, J2.type, by simp [PySem.W.notFirst]⟩
            · rename_i kvs e3
              obtain ⟨es, h1, h2, h3, h4, h5⟩ := hM.dct e3
              obtain ⟨o, ep, g1, g2, g3⟩ := dct_obj I h1
              exact ⟨_, PySem.W.kitAt_ty _ _ ⟨o, g1, g2.1⟩, C.nf.1⟩
            · rename_i ps3 e3
              obtain ⟨vs, h1, rs⟩ := hM.lst e3
              obtain ⟨its, _, pl, _⟩ := I.list (SqL.of h1)
              exact ⟨_, PySem.W.kitAt_ty _ _ pl.isList.typeIs, C.nf.2⟩
            · exact hq.elim
          · exact hq.elim
        obtain ⟨tb, t1, t2⟩ := tb
        show wpAny (model X.prog X.w) X.A (richCompare .Eq (.ref a0) u) (EP X pins σ Q) X.xe s
        refine PySem.W.cmp_K (op := .Eq) hroom.units0 hF I.ok.mod.kin J t1 t2 mt.at_ mt.fn ?_
        have hsp : spOf (gOf X ca) n k [.ref a0, y] H (fun z H' => ∃ b, z = .bl b ∧ Q (.bl b) H') (fun _ _ _ => False) :=
          ⟨by rw [hn]; rfl, [.ref a0, q], M, _, _, hM, .cons (.ref a0) (.one rq), run, fun p' M' v' H' hM' rp' k' q' => by
            dsimp only at q'
            split at q'
            · cases rp'
              exact ⟨_, rfl, hk _ _ _ _ hM' (.bl _) k' q'⟩
            · exact q'.elim, fun _ _ _ _ _ _ _ _ z => z⟩
        have e0 := I.env0
        have hl := Fn.len _ _ _ _ hsp
        have r2 : Vals [V.ref a0, y] [Value.ref a0, u] := .cons rfl (.cons ry .nil)
        refine wpAny_call (codeAny_mono (Fn.run X.A X.stack s H ⟨[.ref a0, u], []⟩ _ _ _ _ hroom e0 (by
          have := hb s [.ref a0, u] I.kIn (by simpa using hl)
          simpa using this) r2 hsp) fun r s' hq' => ?_)
        cases r with
        | error e => exact (passes_none2 (X := X) fun _ _ _ z => z) pins σ H s e s' I hq'
        | ok fl =>
          cases fl with
          | ret w =>
            obtain ⟨z, H', I', rz, ⟨b, ez, qb⟩⟩ := I.after hq'
            subst ez
            cases rz
            exact ⟨.bl b, H', I', rfl, qb⟩
          | next => exact False.elim hq'
          | brk => exact False.elim hq'
          | cont => exact False.elim hq'
      · exact hm.elim
    · exact hr.elim
  · exact hr.elim
theorem e_eqO {b : Expr} {rb : RE} (K : XOk Γ ca xk N sc F X) (hm : behindInMarks .Eq b = false) (ha : PE X a (liftE (gOf X ca) ra)) (hb : PE X b (liftE (gOf X ca) rb)) :
    PE X (.Compare a [.Eq] [b] pos) (liftE (gOf X ca) fun g M Q => ra g M fun p M1 => rb g M1 fun q M2 => eqOA Γ p q M2 Q) :=
  PE.imp (pe_cmpR (eqO_snd K) ha hb hm) fun σ H Q h => e_op (f := compareOp .Eq) h
theorem eqOA_mono {p q : PV} {M : MM} {Q Q' : KV1} (e : Q = Q') (h : eqOA Γ p q M Q) : eqOA Γ p q M Q' := e ▸ h
theorem t_eqO {b : Expr} {rb : RE} (K : XOk Γ ca xk N sc F X) (hm : behindInMarks .Eq b = false) (ha : PE X a (liftE (gOf X ca) ra)) (hb : PE X b (liftE (gOf X ca) rb)) :
    PT X (.Compare a [.Eq] [b] pos) (liftT (gOf X ca) fun g M Q => ra g M fun p M1 => rb g M1 fun q M2 => eqOA Γ p q M2 (qT Q)) :=
  PT.imp (pt_cmpR (eqO_snd K) ha hb hm) fun σ H Q h => by
    obtain ⟨g, M, Qa, rel, run, hk⟩ := h
    exact e_op (f := compareOp .Eq) (r := eqOA Γ) ⟨g, M, qT Qa, rel, run, qB_hand hk⟩
/-! ### dict displays -/
/-- the pairs of a display -/
structure PDs (X : Cx) (ca : String → Addr) (pos : Pos) (ks : List (Option Expr)) (vs : List Expr) (rp : Sg → MM → (List (PV × PV) → MM → Prop) → Prop) : Prop where
  len : ks.length = vs.length
  som : ks.all (·.isSome) = true
  run : ∃ trs : List (TE × TE), trs.length = ks.length ∧ PPs X pos ks vs trs ∧ ∀ σ H Q, (∃ g M Qa, Rel (gOf X ca) σ H g M ∧ rp g M Qa ∧ ∀ kvs M' zs H', Rel (gOf X ca) σ H' g M' → Keep H H' → Paired (fun (a : PV × PV) (b : V × V) => Rep X.K H' a.1 b.1 ∧ Rep X.K H' a.2 b.2) kvs zs → Qa kvs M' → Q zs H') → tPairs trs σ H Q
theorem d_nil : PDs X ca pos [] [] (fun _ M Q => Q [] M) := ⟨rfl, rfl, [], rfl, pps_nil, fun σ H Q ⟨g, M, Qa, rel, run, hk⟩ => hk [] M [] H rel (.refl H) .nil run⟩
theorem d_cons {k v : Expr} {ks : List (Option Expr)} {vs : List Expr} {rk rv : RE} {rp : Sg → MM → (List (PV × PV) → MM → Prop) → Prop} (hk : PE X k (liftE (gOf X ca) rk)) (hv : PE X v (liftE (gOf X ca) rv)) (hp : PDs X ca pos ks vs rp) :
    PDs X ca pos (some k :: ks) (v :: vs) (fun g M Q => rk g M fun p M1 => rv g M1 fun q M2 => rp g M2 fun r M3 => Q ((p, q) :: r) M3) := by
  obtain ⟨l, so, trs, lt, pp, f⟩ := hp
  refine ⟨by simp [l], by simp [so], (_, _) :: trs, by simp [lt], pps_cons hk hv pp, fun σ H Q ⟨g, M, Qa, rel, run, hh⟩ => ?_⟩
  refine lift_run rel run fun p M1 x H1 rel1 rp1 k1 q1 => lift_run rel1 q1 fun q M2 y H2 rel2 rq k2 q2 => ?_
  exact f σ H2 _ ⟨g, M2, _, rel2, q2, fun kvs M3 zs H3 rel3 k3 pr q3 => hh _ _ _ _ rel3 ((k1.trans k2).trans k3) (.cons ⟨(rp1.keep k2).keep k3, rq.keep k3⟩ pr) q3⟩
theorem drel_of {K : PySem.W.Frag} {H : Hp} : ∀ {kvs : List (PV × PV)} {zs : List (V × V)}, Paired (fun (a : PV × PV) (b : V × V) => Rep K H a.1 b.1 ∧ Rep K H a.2 b.2) kvs zs → kvs.all (fun q => simK q.1) = true → ∃ ls : List (Key × V), zs = ls.map (fun kv => (kV kv.1, kv.2)) ∧ ls.length = kvs.length ∧
    ∀ {acc : List (PV × PV)} {as : List (Key × V)}, DRel K H acc as → (as.map (·.1)).Nodup → DRel K H (kvs.foldl (fun d q => dPut d q.1 q.2) acc) (mergeK as ls) ∧ ((mergeK as ls).map (·.1)).Nodup
  | [], _, .nil, _ => ⟨[], rfl, rfl, fun r nd => ⟨r, nd⟩⟩
  | (p, q) :: kvs, _, .cons (b := b) h t, hs => by
    rw [List.all_cons] at hs
    obtain ⟨k, hk⟩ := kpv_of (and1 hs)
    obtain ⟨ls, e, l, f⟩ := drel_of t (and2 hs)
    obtain ⟨b1, b2⟩ := b
    have eb : b1 = kV k := kpv_rep hk h.1
    refine ⟨(k, b2) :: ls, by rw [e, eb]; rfl, by simp [l], fun r nd => ?_⟩
    exact f (r.put hk h.2 nd) (putK_keys _ nd)
theorem e_dct {ks : List (Option Expr)} {vs : List Expr} {rp : Sg → MM → (List (PV × PV) → MM → Prop) → Prop} (hp : PDs X ca pos ks vs rp) (h15 : ks.length ≤ 15) :
    PE X (.Dict ks vs pos) (liftE (gOf X ca) fun g M Q => ∀ a, M a = none → rp g (mput M a (.kdc [])) fun kvs M1 => kvs.length ≤ 15 ∧ kvs.all (fun q => simK q.1) = true ∧ M1 a = some (.kdc []) ∧ Q (.ref a) (mput M1 a (.dct (kvs.foldl (fun d q => dPut d q.1 q.2) [])))) := by
  refine ⟨fun pins s σ H Q I h => ?_⟩
  obtain ⟨len, som, trs, lt, pp, f⟩ := hp
  obtain ⟨g, M, Qa, rel, run, hk⟩ := h
  -- the dict made, told raw
  have fin : ∀ {H1 : Hp} {a : Addr} {M1 : MM} {kvs : List (PV × PV)} {zs : List (V × V)}, HRep X.w ca X.K M1 H1 → Keep H H1 → Paired (fun (a : PV × PV) (b : V × V) => Rep X.K H1 a.1 b.1 ∧ Rep X.K H1 a.2 b.2) kvs zs → kvs.length ≤ 15 → kvs.all (fun q => simK q.1) = true → M1 a = some (.kdc []) →
      Qa (.ref a) (mput M1 a (.dct (kvs.foldl (fun d q => dPut d q.1 q.2) []))) → ∃ ls : List (Key × V), zs = ls.map (fun kv => (kV kv.1, kv.2)) ∧ ls.length ≤ 15 ∧ ∀ pn τ s2, L2.Inv X pn τ (upd H1 a (.dK (mergeK [] ls))) s2 → ∃ H3, L2.Inv X pn τ H3 s2 ∧ Q (.ref a) H3 := by
    intro H1 a M1 kvs zs hM1 k1 pr l15 hs ha q
    obtain ⟨ls, e, l, g2⟩ := drel_of pr hs
    obtain ⟨dr, nd⟩ := g2 (as := []) .nil List.nodup_nil
    refine ⟨ls, e, by omega, fun pn τ s2 I2 => ?_⟩
    obtain ⟨k0, hD, _, _⟩ := hM1 a _ ha
    have kp : Keep H1 (upd H1 a (.dK (mergeK [] ls))) := .set hD rfl
    have hl : (kvs.foldl (fun d q => dPut d q.1 q.2) ([] : List (PV × PV))).length ≤ kvs.length := by
      have gen : ∀ (l acc : List (PV × PV)), (l.foldl (fun d q => dPut d q.1 q.2) acc).length ≤ acc.length + l.length := by
        intro l
        induction l with
        | nil => intro acc; simp
        | cons x r ih =>
          intro acc
          have := ih (dPut acc x.1 x.2)
          have := dPut_length (y := x.1) (z := x.2) acc
          simp only [List.foldl_cons, List.length_cons]
          omega
      simpa using gen kvs []
    have hM2 := hM1.set (u := .kdc (kvs.foldl (fun d q => dPut d q.1 q.2) [])) hD rfl ⟨_, upd_same, dr.keep kp, nd⟩
    obtain ⟨es, I3, hM3, k3⟩ := made_raw I2 hM2 mput_same (by rw [sizeLine_eq]; omega)
    rw [mput_mput] at hM3
    exact ⟨_, I3, hk _ _ _ _ hM3 (.ref a) ((k1.trans kp).trans k3) q⟩
  have start : ∀ a, H a = none → Rel (gOf X ca) σ (upd H a (.dK [])) g (mput M a (.kdc [])) ∧ Keep H (upd H a (.dK [])) := fun a ha =>
    ⟨⟨rel.s.keep (.new ha), rel.h.new ha ⟨[], upd_same, .nil, List.nodup_nil⟩⟩, .new ha⟩
  cases ks with
  | nil =>
    cases vs with
    | cons => simp at len
    | nil =>
      have et : trs = [] := by simpa using lt
      subst et
      refine thn (pe_dnewK.run pins s σ H (fun v H2 => ∀ pins σ s, L2.Inv X pins σ H2 s → ∃ H3, L2.Inv X pins σ H3 s ∧ Q v H3) I fun p hp => ?_) fun _ _ q => ep_unl2 q
      obtain ⟨r0, k0⟩ := start p hp
      have z := f σ _ (fun zs H1 => zs = [] ∧ H1 = upd H p (.dK []) → ∀ pn τ s2, L2.Inv X pn τ H1 s2 → ∃ H3, L2.Inv X pn τ H3 s2 ∧ Q (.ref p) H3) ⟨g, _, _, r0, run p (rel.h.fresh hp), fun kvs M1 zs H1 rel1 k1 pr ⟨l15, hs, ha, q⟩ ⟨e1, e2⟩ => by
        subst e1
        obtain ⟨ls, el, _, fn⟩ := fin rel1.h (k0.trans k1) pr l15 hs ha q
        cases ls with
        | cons => simp at el
        | nil =>
          intro pn τ s2 I2
          refine fn pn τ s2 ?_
          have : upd H1 p (.dK (mergeK [] [])) = H1 := by
            rw [e2]
            funext b
            unfold upd
            split <;> rfl
          rw [this]; exact I2⟩
      exact z ⟨rfl, rfl⟩
  | cons k0 ks0 =>
    refine thn ((pe_disp pp som len (by simp) h15).run pins s σ H (fun v H2 => ∀ pins σ s, L2.Inv X pins σ H2 s → ∃ H3, L2.Inv X pins σ H3 s ∧ Q v H3) I fun p hp => ?_) fun _ _ q => ep_unl2 q
    obtain ⟨r0, kp0⟩ := start p hp
    refine f σ _ _ ⟨g, _, _, r0, run p (rel.h.fresh hp), fun kvs M1 zs H1 rel1 k1 pr ⟨l15, hs, ha, q⟩ => ?_⟩
    obtain ⟨ls, el, l2, fn⟩ := fin rel1.h (kp0.trans k1) pr l15 hs ha q
    obtain ⟨kk0, hD, dr0, _⟩ := rel1.h p _ ha
    cases dr0
    exact ⟨hD, ls, el, l2, fn⟩
end
end Rx
end

section
set_option maxHeartbeats 4000000
/-! Rx: every text that is matched is borne out. -/
namespace Rx
open PySem PySem.Spec PyProof.Rows L2
variable {Γ : Gm} {ca : String → Addr}
def isBo : E → Bool
  | .one _ => true
  | .andE _ _ => true
  | .orE _ _ => true
  | _ => false
theorem reE {X : Cx} {pe : Expr} {r r' : RE} (h : PE X pe (liftE (gOf X ca) r)) (i : ∀ g M Q, r' g M Q → r g M Q) : PE X pe (liftE (gOf X ca) r') := PE.imp h fun σ H Q ⟨g, M, Qa, rel, run, hk⟩ => ⟨g, M, Qa, rel, i _ _ _ run, hk⟩
theorem reT {X : Cx} {pe : Expr} {r r' : RT} (h : PT X pe (liftT (gOf X ca) r)) (i : ∀ g M Q, r' g M Q → r g M Q) : PT X pe (liftT (gOf X ca) r') := PT.imp h fun σ H Q ⟨g, M, Qa, rel, run, hk⟩ => ⟨g, M, Qa, rel, i _ _ _ run, hk⟩
theorem reW {X : Cx} {pe : Expr} {r r' : RT} (h : PW X pe (liftT (gOf X ca) r)) (i : ∀ g M Q, r' g M Q → r g M Q) : PW X pe (liftT (gOf X ca) r') := PW.imp h fun σ H Q ⟨g, M, Qa, rel, run, hk⟩ => ⟨g, M, Qa, rel, i _ _ _ run, hk⟩
theorem reA {X : Cx} {pe : List Expr} {r r' : RA} (h : PA X pe (liftA (gOf X ca) r)) (i : ∀ g M Q, r' g M Q → r g M Q) : PA X pe (liftA (gOf X ca) r') := PA.imp h fun σ H Q ⟨g, M, Qa, rel, run, hk⟩ => ⟨g, M, Qa, rel, i _ _ _ run, hk⟩
theorem reO {X : Cx} {pe : Option Expr} {r r' : Sg → MM → (Option Int → MM → Prop) → Prop} (h : PO X pe (liftO (gOf X ca) r)) (i : ∀ g M Q, r' g M Q → r g M Q) : PO X pe (liftO (gOf X ca) r') := PO.imp h fun σ H Q ⟨g, M, Qa, rel, run, hk⟩ => ⟨g, M, Qa, rel, i _ _ _ run, hk⟩
theorem reC {X : Cx} {pe : List Expr} {r r' : RT} (h : PTs X pe (liftT (gOf X ca) r)) (i : ∀ g M Q, r' g M Q → r g M Q) : PTs X pe (liftT (gOf X ca) r') := ⟨fun pins s σ H Q I ⟨g, M, Qa, rel, run, hk⟩ => h.run pins s σ H Q I ⟨g, M, Qa, rel, i _ _ _ run, hk⟩⟩
theorem reI {X : Cx} {t : Tg} {tg pe : Expr} {r r' : Sg → MM → RI → Prop} (h : PI X tg pe (liftI X ca t r)) (i : ∀ g M Q, r' g M Q → r g M Q) : PI X tg pe (liftI X ca t r') := ⟨fun pins s σ H R I ⟨g, M, Qa, rel, run, hk⟩ => h.run pins s σ H R I ⟨g, M, Qa, rel, i _ _ _ run, hk⟩⟩
theorem reG {X : Cx} {t : Tg} {tg : Expr} {r r' : PV → Sg → MM → (Sg → MM → Prop) → Prop} (h : PG X tg (liftG X ca t r)) (i : ∀ p g M k, r' p g M k → r p g M k) : PG X tg (liftG X ca t r') := PG.imp h fun v σ H Q ⟨p, g, M, k, rel, rp, run, hk⟩ => ⟨p, g, M, k, rel, rp, i _ _ _ _ run, hk⟩
theorem reGs {X : Cx} {t : Tgs} {tg : List Expr} {r r' : List PV → Sg → MM → (Sg → MM → Prop) → Prop} (h : PGs X tg (liftGs X ca t r)) (i : ∀ p g M k, r' p g M k → r p g M k) : PGs X tg (liftGs X ca t r') := PGs.imp h fun v σ H Q ⟨p, g, M, k, rel, rp, run, hk⟩ => ⟨p, g, M, k, rel, rp, i _ _ _ _ run, hk⟩
theorem reD {X : Cx} {pos : Pos} {ks : List (Option Expr)} {vs : List Expr} {r r' : Sg → MM → (List (PV × PV) → MM → Prop) → Prop} (h : PDs X ca pos ks vs r) (i : ∀ g M Q, r' g M Q → r g M Q) : PDs X ca pos ks vs r' :=
  ⟨h.len, h.som, let ⟨trs, a, b, c⟩ := h.run; ⟨trs, a, b, fun σ H Q ⟨g, M, Qa, rel, run, hk⟩ => c σ H Q ⟨g, M, Qa, rel, i _ _ _ run, hk⟩⟩⟩
theorem tgs_len {N : List Str} {sc : Scope} {F : Str → Bool} : ∀ {ts : Tgs} {xs : List Expr}, okTgs N sc F ts xs = true → True := fun _ => True.intro
theorem un_ok {X : Cx} (k : Kn Γ ca X) : X.A.units + 65 < cLine := k.un
theorem isT_plain {e : Expr} (h : isPl e = true) {env : Env} : ∀ whole, isTrue e env whole = (do let v ← whole; standAt e.pos; holding [v] (truthy v)) := by
  intro whole
  cases e with
  | UnaryOp op x p => cases op <;> first | rfl | cases h
  | BoolOp => cases h
  | IfExp => cases h
  | Compare => cases h
  | _ => rfl
theorem okI_fset {N : List Str} {sc : Scope} {F : Str → Bool} {it : It} {t : Tg} {tg pe : Expr} {env : Env} (h : okI N sc F it t tg pe = true) : ∀ x, foldedSetIterable pe env x = pure x := fun x => by
  refine fset_ok (e := pe) ?_ env x
  cases pe with
  | Set a b c =>
    cases it with
    | val e => exact absurd (show false = true from and1 (show (notSet (.Set a b c) && okE N sc F e (.Set a b c)) = true from h)) Bool.false_ne_true
    | enum e => cases t <;> cases tg <;> cases h
    | zip a b => cases t <;> cases tg <;> cases h
    | items e => cases t <;> cases tg <;> cases h
    | _ => cases h
  | _ => rfl
theorem e_never {X : Cx} {pe : Expr} : PE X pe (liftE (gOf X ca) fun _ _ _ => False) := ⟨fun pins s σ H Q I ⟨g, M, Qa, rel, run, hk⟩ => run.elim⟩
theorem t_never {X : Cx} {pe : Expr} : PT X pe (liftT (gOf X ca) fun _ _ _ => False) := ⟨fun pins s σ H Q I ⟨g, M, Qa, rel, run, hk⟩ => run.elim⟩
theorem i_never {X : Cx} {tg pe : Expr} {t : Tg} : PI X tg pe (liftI X ca t fun _ _ _ => False) := ⟨fun pins s σ H Q I ⟨g, M, Qa, rel, run, hk⟩ => run.elim⟩
theorem loc_ok {X : Cx} {sc : Scope} {F : Str → Bool} {x : Str} (e : X.env.scope = sc) (hf : ∀ x, F x = true → X.fn x = true) (h : (decide (sc.names.lookup x = some .local) || (decide (sc.names.lookup x = some .cell) && F x)) = true) : Loc X.env.scope x ∧ (X.fn x = true ∨ X.env.scope.names.lookup x = some .local) := by
  rw [e]
  rcases Bool.or_eq_true_iff.mp h with z | z
  · have := of_decide_eq_true z
    exact ⟨.inl this, .inr this⟩
  · exact ⟨.inr (of_decide_eq_true (and1 z)), .inl (hf x (and2 z))⟩
mutual
theorem sndE : ∀ (e : E) ⦃xk : XW⦄ ⦃N : List Str⦄ ⦃sc : Scope⦄ ⦃F : Str → Bool⦄ ⦃X : Cx⦄ ⦃pe : Expr⦄, XOk Γ ca xk N sc F X → okE N sc F e pe = true → PE X pe (liftE (gOf X ca) (runE Γ e xk))
  | .var i => by
    intro xk N sc F X pe K h
    cases pe with
    | Name x p =>
      have h : ((decide (N[i]? = some x) && visB sc x) && nmOk x) = true := h
      exact reE (e_var (by rw [K.eN]; exact of_decide_eq_true (and1 (and1 h))) (vis_ok K.eS (and2 (and1 h))) (nm_dbg (and2 h)) (nm_cd (and2 h))) fun _ _ _ h => h
    | _ => cases h
  | .glo x => by
    intro xk N sc F X pe K h
    cases pe with
    | Name y p =>
      have h : ((decide (y = so x) && glb sc y) && nmOk y) = true := h
      cases of_decide_eq_true (and1 (and1 h))
      cases hc : Γ.co x with
      | none =>
        refine reE e_never fun g M Q q => ?_
        have q : (match Γ.co x with | some p => Q p M | none => False) := q
        rw [hc] at q; exact q
      | some q =>
        obtain ⟨u, v, h1, h2, h3⟩ := K.kn.co x q hc
        refine reE (e_const (pe_glob (gl_ok K.eS (and2 (and1 h))) h1 h2 (nm_dbg (and2 h))) h3) fun g M Q z => ?_
        have z : (match Γ.co x with | some p => Q p M | none => False) := z
        rw [hc] at z; exact z
    | _ => cases h
  | .int i => by
    intro xk N sc F X pe K h
    cases pe with
    | Constant c k p =>
      cases c with
      | int j =>
        cases of_decide_eq_true (show decide (i = j) = true from h)
        exact reE (e_const pe_int fun _ => .int i) fun _ _ _ h => h
      | _ => cases h
    | _ => cases h
  | .str x => by
    intro xk N sc F X pe K h
    cases pe with
    | Constant c k p =>
      cases c with
      | str y =>
        cases of_decide_eq_true (show decide (so x = y) = true from h)
        exact reE (e_const pe_str fun _ => .str x) fun _ _ _ h => h
      | _ => cases h
    | _ => cases h
  | .bl x => by
    intro xk N sc F X pe K h
    cases pe with
    | Constant c k p =>
      cases c with
      | bool y =>
        cases of_decide_eq_true (show decide (x = y) = true from h)
        exact reE (e_const pe_bl fun _ => .bl x) fun _ _ _ h => h
      | _ => cases h
    | _ => cases h
  | .non => by
    intro xk N sc F X pe K h
    cases pe with
    | Constant c k p =>
      cases c with
      | none => exact reE (e_const pe_non fun _ => .non) fun _ _ _ h => h
      | _ => cases h
    | _ => cases h
  | .bin op a b => by
    intro xk N sc F X pe K h
    cases pe with
    | BinOp x o y p =>
      have h : (decide (op = o) && (okE N sc F a x && okE N sc F b y)) = true := h
      cases of_decide_eq_true (and1 h)
      exact reE (e_bin _ (sndE a K (and1 (and2 h))) (sndE b K (and2 (and2 h)))) fun _ _ _ h => h
    | _ => cases h
  | .neg a => by
    intro xk N sc F X pe K h
    cases pe with
    | UnaryOp o x p =>
      cases o with
      | USub => exact reE (e_neg (sndE a K h)) fun _ _ _ h => h
      | _ => cases h
    | _ => cases h
  | .cmp op a b => by
    intro xk N sc F X pe K h
    cases pe with
    | Compare x os ys p =>
      cases os with
      | nil => cases h
      | cons o os =>
        cases os with
        | cons => cases ys with
          | nil => cases h
          | cons y ys => cases h
        | nil =>
          cases ys with
          | nil => cases h
          | cons y ys =>
            cases ys with
            | cons => cases h
            | nil =>
              have h : ((decide (op = o) && notSet y) && (okE N sc F a x && okE N sc F b y)) = true := h
              cases of_decide_eq_true (and1 (and1 h))
              exact reE (e_cmp _ K.kn.un (behind_ok (and2 (and1 h))) (sndE a K (and1 (and2 h))) (sndE b K (and2 (and2 h)))) fun _ _ _ h => h
    | _ => cases h
  | .chain o1 o2 a b c => by
    intro xk N sc F X pe K h
    cases pe with
    | Compare x os ys p =>
      match os, ys, h with
      | [p1, p2], [y, z], h =>
        have h : (((decide (o1 = p1) && decide (o2 = p2)) && (notSet y && notSet z)) && (okE N sc F a x && (okE N sc F b y && okE N sc F c z))) = true := h
        cases of_decide_eq_true (and1 (and1 (and1 h)))
        cases of_decide_eq_true (and2 (and1 (and1 h)))
        exact reE (e_chain _ _ K.kn.un (behind_ok (and2 (and2 (and1 h)))) (sndE a K (and1 (and2 h))) (sndE b K (and1 (and2 (and2 h)))) (sndE c K (and2 (and2 (and2 h))))) fun _ _ _ h => h
    | _ => cases h
  | .notE a => by
    intro xk N sc F X pe K h
    cases pe with
    | UnaryOp o x p =>
      cases o with
      | Not => exact reE (e_not (sndE a K h)) fun _ _ _ h => h
      | _ => cases h
    | _ => cases h
  | .andE a b => by
    intro xk N sc F X pe K h
    cases pe with
    | BoolOp o xs p =>
      match o, xs, h with
      | .And, x :: y :: r, h =>
        have h : (okE N sc F a x && okE N sc F b (.BoolOp .And (y :: r) p)) = true := h
        exact reE (e_and (sndE a K (and1 h)) (sndE b K (and2 h))) fun _ _ _ h => h
    | _ => cases h
  | .orE a b => by
    intro xk N sc F X pe K h
    cases pe with
    | BoolOp o xs p =>
      match o, xs, h with
      | .Or, x :: y :: r, h =>
        have h : (okE N sc F a x && okE N sc F b (.BoolOp .Or (y :: r) p)) = true := h
        exact reE (e_or (sndE a K (and1 h)) (sndE b K (and2 h))) fun _ _ _ h => h
    | _ => cases h
  | .one a => by
    intro xk N sc F X pe K h
    cases pe with
    | BoolOp o xs p =>
      match xs, h with
      | [x], h => exact reE (PE.imp (pe_one (sndE a K h)) fun _ _ _ q => q) fun _ _ _ h => h
    | _ => cases h
  | .ite c a b => by
    intro xk N sc F X pe K h
    cases pe with
    | IfExp x y z p =>
      have h : (okE N sc F c x && (okE N sc F a y && okE N sc F b z)) = true := h
      exact reE (e_ite (sndT c K (and1 h)) (sndE a K (and1 (and2 h))) (sndE b K (and2 (and2 h)))) fun _ _ _ h => h
    | _ => cases h
  | .tup es => by
    intro xk N sc F X pe K h
    cases pe with
    | Tuple xs k p => exact reE (e_tup (sndEs es K h)) fun _ _ _ h => h
    | _ => cases h
  | .lst es => by
    intro xk N sc F X pe K h
    cases pe with
    | List xs p => exact reE (e_lst (sndEs es K h)) fun _ _ _ h => h
    | _ => cases h
  | .dct ps => by
    intro xk N sc F X pe K h
    cases pe with
    | Dict ks vs p =>
      have h : (decide (ks.length ≤ 15) && okPs N sc F ps ks vs) = true := h
      exact reE (e_dct (sndPs ps K (and2 h)) (of_decide_eq_true (and1 h))) fun _ _ _ h => h
    | _ => cases h
  | .fld o f => by
    intro xk N sc F X pe K h
    cases pe with
    | Attribute x y p =>
      have h : ((decide (y = so f) && plainO x) && okE N sc F o x) = true := h
      cases of_decide_eq_true (and1 (and1 h))
      exact reE (e_fld (and2 (and1 h)) (sndE o K (and2 h))) fun _ _ _ h => h
    | _ => cases h
  | .prop o f => by
    intro xk N sc F X pe K h
    cases pe with
    | Attribute x y p =>
      have h : ((decide (y = so f) && plainO x) && okE N sc F o x) = true := h
      cases of_decide_eq_true (and1 (and1 h))
      exact reE (e_prop K (and2 (and1 h)) (sndE o K (and2 h))) fun _ _ _ h => h
    | _ => cases h
  | .sub a i => by
    intro xk N sc F X pe K h
    cases pe with
    | Subscript x y p =>
      have h : (notSlice y && (okE N sc F a x && okE N sc F i y)) = true := h
      exact reE (e_sub K.kn.un (and1 h) (sndE a K (and1 (and2 h))) (sndE i K (and2 (and2 h)))) fun _ _ _ h => h
    | _ => cases h
  | .slc a lo hi => by
    intro xk N sc F X pe K h
    cases pe with
    | Subscript x y p =>
      cases y with
      | Slice l r st q =>
        cases st with
        | some => cases h
        | none =>
          have h : (okE N sc F a x && (okO N sc F lo l && okO N sc F hi r)) = true := h
          exact reE (e_slc (sndE a K (and1 h)) (sndO lo K (and1 (and2 h))) (sndO hi K (and2 (and2 h)))) fun _ _ _ h => h
      | _ => cases h
    | _ => cases h
  | .call f as => by
    intro xk N sc F X pe K h
    cases pe with
    | Call g xs kw p =>
      match g, kw, h with
      | .Name y q, [], h =>
        have h : (((decide (y = so f) && glb sc y) && (nmOk y && xs.all notStar)) && okEs N sc F as xs) = true := h
        cases of_decide_eq_true (and1 (and1 (and1 h)))
        exact reE (e_call K (and2 (and1 (and1 h))) (and1 (and2 (and1 h))) (and2 (and2 (and1 h))) (sndEs as K (and2 h))) fun _ _ _ h => h
    | _ => cases h
  | .mk f as => by
    intro xk N sc F X pe K h
    cases pe with
    | Call g xs kw p =>
      match g, kw, h with
      | .Name y q, [], h =>
        have h : (((decide (y = so f) && glb sc y) && (nmOk y && xs.all notStar)) && okEs N sc F as xs) = true := h
        cases of_decide_eq_true (and1 (and1 (and1 h)))
        exact reE (e_mk K (and2 (and1 (and1 h))) (and1 (and2 (and1 h))) (and2 (and2 (and1 h))) (sndEs as K (and2 h))) fun _ _ _ h => h
    | _ => cases h
  | .bi f as => by
    intro xk N sc F X pe K h
    cases pe with
    | Call g xs kw p =>
      match g, kw, h with
      | .Name y q, [], h =>
        have h : (((decide (y = so f) && glb sc y) && ((nmOk y && xs.all notStar) && (biCalls.contains f && !xs.isEmpty))) && okEs N sc F as xs) = true := h
        cases of_decide_eq_true (and1 (and1 (and1 h)))
        have z := and2 (and1 h)
        exact reE (e_bi K (and1 (and2 z)) (and2 (and1 (and1 h))) (and1 (and1 z)) (and2 (and1 z)) (by simpa using and2 (and2 z)) (sndEs as K (and2 h))) fun _ _ _ h => h
    | _ => cases h
  | .isi x t => by
    intro xk N sc F X pe K h
    cases pe with
    | Call g xs kw p =>
      match g, xs, kw, h with
      | .Name y q, [e, .Name z q2], [], h =>
        have h : ((((decide (y = so "isinstance") && glb sc y) && (decide (z = so t) && glb sc z)) && ((nmOk z && notStar e) && isiT.contains t)) && okE N sc F x e) = true := h
        cases of_decide_eq_true (and1 (and1 (and1 (and1 h))))
        cases of_decide_eq_true (and1 (and2 (and1 (and1 h))))
        have z := and2 (and1 h)
        exact reE (e_isi K (and2 z) (and2 (and1 (and1 (and1 h)))) (and2 (and2 (and1 (and1 h)))) (and1 (and1 z)) (and2 (and1 z)) (sndE x K (and2 h))) fun _ _ _ h => h
    | _ => cases h
  | .isc x t => by
    intro xk N sc F X pe K h
    cases pe with
    | Call g xs kw p =>
      match g, xs, kw, h with
      | .Name y q, [e, .Name z q2], [], h =>
        have h : ((((decide (y = so "isinstance") && glb sc y) && (decide (z = so t) && glb sc z)) && (nmOk z && notStar e)) && okE N sc F x e) = true := h
        cases of_decide_eq_true (and1 (and1 (and1 (and1 h))))
        cases of_decide_eq_true (and1 (and2 (and1 (and1 h))))
        have z := and2 (and1 h)
        exact reE (e_isc K (and2 (and1 (and1 (and1 h)))) (and2 (and2 (and1 (and1 h)))) (and1 z) (and2 z) (sndE x K (and2 h))) fun _ _ _ h => h
    | _ => cases h
  | .eqO a b => by
    intro xk N sc F X pe K h
    cases pe with
    | Compare x os ys p =>
      match os, ys, h with
      | [o], [y], h =>
        have h : ((decide (o = .Eq) && notSet y) && (okE N sc F a x && okE N sc F b y)) = true := h
        cases of_decide_eq_true (and1 (and1 h))
        exact reE (e_eqO K (behind_ok (and2 (and1 h))) (sndE a K (and1 (and2 h))) (sndE b K (and2 (and2 h)))) fun _ _ _ h => h
    | _ => cases h
  | .meth o m as => by
    intro xk N sc F X pe K h
    cases pe with
    | Call g xs kw p =>
      match g, kw, h with
      | .Attribute x y ap, [], h =>
        have h : (((decide (y = so m) && plainO x) && ((decide (ap.endLine = p.line) && decide (xs.length < 29)) && xs.all notStar)) && (okE N sc F o x && okEs N sc F as xs)) = true := h
        cases of_decide_eq_true (and1 (and1 (and1 h)))
        have z := and2 (and1 h)
        exact reE (e_meth K (and2 (and1 (and1 h))) (of_decide_eq_true (and1 (and1 z))) (of_decide_eq_true (and2 (and1 z))) (and2 z) (sndE o K (and1 (and2 h))) (sndEs as K (and2 (and2 h)))) fun _ _ _ h => h
    | _ => cases h
  | .bm t o m as => by
    intro xk N sc F X pe K h
    cases pe with
    | Call g xs kw p =>
      match g, kw, h with
      | .Attribute x y ap, [], h =>
        have h : ((((decide (y = so m) && bmCalls.contains (t, m)) && plainO x) && ((decide (ap.endLine = p.line) && decide (xs.length < 29)) && xs.all notStar)) && (okE N sc F o x && okEs N sc F as xs)) = true := h
        cases of_decide_eq_true (and1 (and1 (and1 (and1 h))))
        have z := and2 (and1 h)
        exact reE (e_bm (and2 (and1 (and1 (and1 h)))) (and2 (and1 (and1 h))) (of_decide_eq_true (and1 (and1 z))) (of_decide_eq_true (and2 (and1 z))) (and2 z) (sndE o K (and1 (and2 h))) (sndEs as K (and2 (and2 h)))) fun _ _ _ h => h
    | _ => cases h
  | .lc elt x it c own => by
    intro xk N sc F X pe K h
    cases pe with
    | ListComp e gs scope p =>
      match gs, h with
      | [⟨t, i, ifs, 0⟩], h =>
        have h : ((((blkC N sc scope (own.map fun p => (so p.1, p.2)) && (tgSl x).all fun i => (own.map (·.2)).contains i) && (okI N sc F it x t i && okTg N (relS scope sc) (blkF scope) x t)) && (okC N (relS scope sc) (blkF scope) c ifs && okE N (relS scope sc) (blkF scope) elt e))) = true := h
        have b := blkOk_by (and1 (and1 (and1 h)))
        have hsl : ∀ j ∈ tgSl x, j ∈ own.map (·.2) := fun j hj => by simpa using (List.all_eq_true.mp (and2 (and1 (and1 h)))) j hj
        have eo : (own.map fun p => (so p.1, p.2)).map (·.2) = own.map (·.2) := by rw [List.map_map]; rfl
        have z := e_lc (X := X) (ca := ca) (t := x) (pos := p) (elt := e) (own := own.map fun p => (so p.1, p.2)) K.calm K.nd (sndI it (t := x) K (and1 (and2 (and1 h)))) (by rw [K.eN, K.eS]; exact b) (by rw [eo]; exact hsl)
          (fun s H C cl fp => sndTg x K.blk (and2 (and2 (and1 h)))) (fun s H C cl fp => sndC c K.blk (and1 (and2 h))) (fun s H C cl fp => sndE elt K.blk (and2 (and2 h))) (okI_fset (and1 (and2 (and1 h))))
        rw [eo] at z
        exact reE z fun _ _ _ h => h
    | _ => cases h
  | .lc2 elt x it x1 it1 c1 own vs1 => by
    intro xk N sc F X pe K h
    exact reE e_never fun _ _ _ h => h
  | .dc k v x it c own => by
    intro xk N sc F X pe K h
    cases pe with
    | DictComp ke ve gs scope p =>
      match gs, h with
      | [⟨t, i, ifs, 0⟩], h =>
        have h : ((((blkC N sc scope (own.map fun p => (so p.1, p.2)) && (tgSl x).all fun i => (own.map (·.2)).contains i) && (okI N sc F it x t i && okTg N (relS scope sc) (blkF scope) x t)) && okC N (relS scope sc) (blkF scope) c ifs) && (okE N (relS scope sc) (blkF scope) k ke && okE N (relS scope sc) (blkF scope) v ve)) = true := h
        have h1 := and1 (and1 h)
        have b := blkOk_by (and1 (and1 h1))
        have hsl : ∀ j ∈ tgSl x, j ∈ own.map (·.2) := fun j hj => by simpa using (List.all_eq_true.mp (and2 (and1 h1))) j hj
        have eo : (own.map fun p => (so p.1, p.2)).map (·.2) = own.map (·.2) := by rw [List.map_map]; rfl
        have z := e_dc (X := X) (ca := ca) (t := x) (pos := p) (kx := ke) (vx := ve) (own := own.map fun p => (so p.1, p.2)) K.calm K.nd (sndI it (t := x) K (and1 (and2 h1))) (by rw [K.eN, K.eS]; exact b) (by rw [eo]; exact hsl)
          (fun s H C cl fp => sndTg x K.blk (and2 (and2 h1))) (fun s H C cl fp => sndC c K.blk (and2 (and1 h))) (fun s H C cl fp => sndE k K.blk (and1 (and2 h))) (fun s H C cl fp => sndE v K.blk (and2 (and2 h))) (okI_fset (and1 (and2 h1)))
        rw [eo] at z
        exact reE z fun _ _ _ h => h
    | _ => cases h
  | .srt e f => by
    intro xk N sc F X pe K h
    exact reE e_never fun _ _ _ h => h
  | .tv a => by
    intro xk N sc F X pe K h
    exact reE e_never fun _ _ _ h => h
  | .never => by
    intro xk N sc F X pe K h
    exact reE e_never fun _ _ _ h => h
theorem sndW : ∀ (e : E) ⦃xk : XW⦄ ⦃N : List Str⦄ ⦃sc : Scope⦄ ⦃F : Str → Bool⦄ ⦃X : Cx⦄ ⦃o : BoolOp⦄ ⦃xs : List Expr⦄ ⦃p : Pos⦄, XOk Γ ca xk N sc F X → okE N sc F e (.BoolOp o xs p) = true → PW X (.BoolOp o xs p) (liftT (gOf X ca) (runT Γ e xk))
  | .andE a b => by
    intro xk N sc F X o xs p K h
    match o, xs, h with
    | .And, x :: y :: r, h =>
      have h : (okE N sc F a x && okE N sc F b (.BoolOp .And (y :: r) p)) = true := h
      exact reW (w_and (sndT a K (and1 h)) (sndW b K (and2 h))) fun _ _ _ h => h
  | .orE a b => by
    intro xk N sc F X o xs p K h
    match o, xs, h with
    | .Or, x :: y :: r, h =>
      have h : (okE N sc F a x && okE N sc F b (.BoolOp .Or (y :: r) p)) = true := h
      exact reW (w_or (sndT a K (and1 h)) (sndW b K (and2 h))) fun _ _ _ h => h
  | .one a => by
    intro xk N sc F X o xs p K h
    match o, xs, h with
    | .And, [x], h => exact reW (PW.imp (pw_and1 (sndT a K h)) fun _ _ _ q => q) fun _ _ _ h => h
    | .Or, [x], h => exact reW (PW.imp (pw_or1 (sndT a K h)) fun _ _ _ q => q) fun _ _ _ h => h
  | .var i => by
    intro xk N sc F X o xs p K h
    cases h
  | .glo x => by
    intro xk N sc F X o xs p K h
    cases h
  | .int i => by
    intro xk N sc F X o xs p K h
    cases h
  | .str x => by
    intro xk N sc F X o xs p K h
    cases h
  | .bl x => by
    intro xk N sc F X o xs p K h
    cases h
  | .non => by
    intro xk N sc F X o xs p K h
    cases h
  | .bin op a b => by
    intro xk N sc F X o xs p K h
    cases h
  | .neg a => by
    intro xk N sc F X o xs p K h
    cases h
  | .cmp op a b => by
    intro xk N sc F X o xs p K h
    cases h
  | .chain o1 o2 a b c => by
    intro xk N sc F X o xs p K h
    cases h
  | .notE a => by
    intro xk N sc F X o xs p K h
    cases h
  | .ite c a b => by
    intro xk N sc F X o xs p K h
    cases h
  | .tup es => by
    intro xk N sc F X o xs p K h
    cases h
  | .lst es => by
    intro xk N sc F X o xs p K h
    cases h
  | .dct ps => by
    intro xk N sc F X o xs p K h
    cases h
  | .fld o f => by
    intro xk N sc F X o xs p K h
    cases h
  | .prop o f => by
    intro xk N sc F X o xs p K h
    cases h
  | .sub a i => by
    intro xk N sc F X o xs p K h
    cases h
  | .slc a lo hi => by
    intro xk N sc F X o xs p K h
    cases h
  | .call f as => by
    intro xk N sc F X o xs p K h
    cases h
  | .mk f as => by
    intro xk N sc F X o xs p K h
    cases h
  | .bi f as => by
    intro xk N sc F X o xs p K h
    cases h
  | .isi x t => by
    intro xk N sc F X o xs p K h
    cases h
  | .isc x t => by
    intro xk N sc F X o xs p K h
    cases h
  | .eqO a b => by
    intro xk N sc F X o xs p K h
    cases h
  | .meth o m as => by
    intro xk N sc F X o xs p K h
    cases h
  | .bm t o m as => by
    intro xk N sc F X o xs p K h
    cases h
  | .lc elt x it c own => by
    intro xk N sc F X o xs p K h
    cases h
  | .lc2 elt x it x1 it1 c1 own vs1 => by
    intro xk N sc F X o xs p K h
    cases h
  | .dc k v x it c own => by
    intro xk N sc F X o xs p K h
    cases h
  | .srt e f => by
    intro xk N sc F X o xs p K h
    cases h
  | .tv a => by
    intro xk N sc F X o xs p K h
    exact absurd (show false = true from h) Bool.false_ne_true
  | .never => by
    intro xk N sc F X o xs p K h
    exact ⟨fun wh pins s σ H Q I ⟨g, M, Qa, rel, run, hk⟩ => False.elim run⟩
theorem sndT : ∀ (e : E) ⦃xk : XW⦄ ⦃N : List Str⦄ ⦃sc : Scope⦄ ⦃F : Str → Bool⦄ ⦃X : Cx⦄ ⦃pe : Expr⦄, XOk Γ ca xk N sc F X → okE N sc F e pe = true → PT X pe (liftT (gOf X ca) (runT Γ e xk))
  | .notE a => by
    intro xk N sc F X pe K h
    cases pe with
    | UnaryOp o x p =>
      cases o with
      | Not => exact reT (t_not (sndT a K h)) fun _ _ _ h => h
      | _ => cases h
    | _ => cases h
  | .andE a b => by
    intro xk N sc F X pe K h
    cases pe with
    | BoolOp o xs p =>
      match o, xs, h with
      | .And, x :: y :: r, h =>
        have h : (okE N sc F a x && okE N sc F b (.BoolOp .And (y :: r) p)) = true := h
        exact reT (w_and (sndT a K (and1 h)) (sndW b K (and2 h))).pt fun _ _ _ h => h
    | _ => cases h
  | .orE a b => by
    intro xk N sc F X pe K h
    cases pe with
    | BoolOp o xs p =>
      match o, xs, h with
      | .Or, x :: y :: r, h =>
        have h : (okE N sc F a x && okE N sc F b (.BoolOp .Or (y :: r) p)) = true := h
        exact reT (w_or (sndT a K (and1 h)) (sndW b K (and2 h))).pt fun _ _ _ h => h
    | _ => cases h
  | .cmp op a b => by
    intro xk N sc F X pe K h
    cases pe with
    | Compare x os ys p =>
      match os, ys, h with
      | [o], [y], h =>
        have h : ((decide (op = o) && notSet y) && (okE N sc F a x && okE N sc F b y)) = true := h
        cases of_decide_eq_true (and1 (and1 h))
        exact reT (t_cmp _ K.kn.un (behind_ok (and2 (and1 h))) (sndE a K (and1 (and2 h))) (sndE b K (and2 (and2 h)))) fun _ _ _ h => h
    | _ => cases h
  | .chain o1 o2 a b c => by
    intro xk N sc F X pe K h
    cases pe with
    | Compare x os ys p =>
      match os, ys, h with
      | [p1, p2], [y, z], h =>
        have h : (((decide (o1 = p1) && decide (o2 = p2)) && (notSet y && notSet z)) && (okE N sc F a x && (okE N sc F b y && okE N sc F c z))) = true := h
        cases of_decide_eq_true (and1 (and1 (and1 h)))
        cases of_decide_eq_true (and2 (and1 (and1 h)))
        exact reT (t_chain _ _ K.kn.un (behind_ok (and2 (and2 (and1 h)))) (sndE a K (and1 (and2 h))) (sndE b K (and1 (and2 (and2 h)))) (sndE c K (and2 (and2 (and2 h))))) fun _ _ _ h => h
    | _ => cases h

  | .one a => by
    intro xk N sc F X pe K h
    cases pe with
    | BoolOp o xs p =>
      match o, xs, h with
      | .And, [x], h => exact reT (PW.imp (pw_and1 (sndT a K h)) fun _ _ _ q => q).pt fun _ _ _ h => h
      | .Or, [x], h => exact reT (PW.imp (pw_or1 (sndT a K h)) fun _ _ _ q => q).pt fun _ _ _ h => h
    | _ => cases h
  | .var i => by
    intro xk N sc F X pe K h
    exact reT t_never fun _ _ _ h => h
  | .call f as => by
    intro xk N sc F X pe K h
    exact reT t_never fun _ _ _ h => h
  | .meth o m as => by
    intro xk N sc F X pe K h
    exact reT t_never fun _ _ _ h => h
  | .bi f as => by
    intro xk N sc F X pe K h
    exact reT t_never fun _ _ _ h => h
  | .isi x t => by
    intro xk N sc F X pe K h
    exact reT t_never fun _ _ _ h => h
  | .isc x t => by
    intro xk N sc F X pe K h
    exact reT t_never fun _ _ _ h => h
  | .eqO a b => by
    intro xk N sc F X pe K h
    cases pe with
    | Compare x os ys p =>
      match os, ys, h with
      | [o], [y], h =>
        have h : ((decide (o = .Eq) && notSet y) && (okE N sc F a x && okE N sc F b y)) = true := h
        cases of_decide_eq_true (and1 (and1 h))
        exact reT (t_eqO K (behind_ok (and2 (and1 h))) (sndE a K (and1 (and2 h))) (sndE b K (and2 (and2 h)))) fun _ _ _ h => h
    | _ => cases h
  | .fld o f => by
    intro xk N sc F X pe K h
    exact reT t_never fun _ _ _ h => h
  | .glo x => by
    intro xk N sc F X pe K h
    exact reT t_never fun _ _ _ h => h
  | .int i => by
    intro xk N sc F X pe K h
    exact reT t_never fun _ _ _ h => h
  | .str x => by
    intro xk N sc F X pe K h
    exact reT t_never fun _ _ _ h => h
  | .bl x => by
    intro xk N sc F X pe K h
    exact reT t_never fun _ _ _ h => h
  | .non => by
    intro xk N sc F X pe K h
    exact reT t_never fun _ _ _ h => h
  | .bin op a b => by
    intro xk N sc F X pe K h
    exact reT t_never fun _ _ _ h => h
  | .neg a => by
    intro xk N sc F X pe K h
    exact reT t_never fun _ _ _ h => h
  | .ite c a b => by
    intro xk N sc F X pe K h
    exact reT t_never fun _ _ _ h => h
  | .tup es => by
    intro xk N sc F X pe K h
    exact reT t_never fun _ _ _ h => h
  | .lst es => by
    intro xk N sc F X pe K h
    exact reT t_never fun _ _ _ h => h
  | .dct ps => by
    intro xk N sc F X pe K h
    exact reT t_never fun _ _ _ h => h
  | .prop o f => by
    intro xk N sc F X pe K h
    exact reT t_never fun _ _ _ h => h
  | .sub a i => by
    intro xk N sc F X pe K h
    exact reT t_never fun _ _ _ h => h
  | .slc a lo hi => by
    intro xk N sc F X pe K h
    exact reT t_never fun _ _ _ h => h
  | .mk f as => by
    intro xk N sc F X pe K h
    exact reT t_never fun _ _ _ h => h
  | .bm t o m as => by
    intro xk N sc F X pe K h
    exact reT t_never fun _ _ _ h => h
  | .lc elt x it c own => by
    intro xk N sc F X pe K h
    exact reT t_never fun _ _ _ h => h
  | .lc2 elt x it x1 it1 c1 own vs1 => by
    intro xk N sc F X pe K h
    exact reT t_never fun _ _ _ h => h
  | .dc k v x it c own => by
    intro xk N sc F X pe K h
    exact reT t_never fun _ _ _ h => h
  | .srt e f => by
    intro xk N sc F X pe K h
    exact reT t_never fun _ _ _ h => h
  | .never => by
    intro xk N sc F X pe K h
    exact reT t_never fun _ _ _ h => h
  | .tv a => by
    intro xk N sc F X pe K h
    have h : (isPl pe && okE N sc F a pe) = true := h
    exact reT (t_val (sndE a K (and2 h)) (isT_plain (and1 h))) fun _ _ _ h => h
theorem sndEs : ∀ (e : Es) ⦃xk : XW⦄ ⦃N : List Str⦄ ⦃sc : Scope⦄ ⦃F : Str → Bool⦄ ⦃X : Cx⦄ ⦃pe : List Expr⦄, XOk Γ ca xk N sc F X → okEs N sc F e pe = true → PA X pe (liftA (gOf X ca) (runEs Γ e xk))
  | .nil => by
    intro xk N sc F X pe K h
    cases pe with
    | nil => exact reA a_nil fun _ _ _ h => h
    | cons => cases h
  | .cons e es => by
    intro xk N sc F X pe K h
    cases pe with
    | nil => cases h
    | cons x xs =>
      have h : (notStar x && (okE N sc F e x && okEs N sc F es xs)) = true := h
      exact reA (a_cons (sndE e K (and1 (and2 h))) (sndEs es K (and2 (and2 h))) (and1 h)) fun _ _ _ h => h
  | .star e es => by
    intro xk N sc F X pe K h
    cases pe with
    | nil => cases h
    | cons x xs =>
      cases x with
      | Starred x p =>
        have h : (okE N sc F e x && okEs N sc F es xs) = true := h
        exact reA (a_star (sndE e K (and1 h)) (sndEs es K (and2 h))) fun _ _ _ h => h
      | _ => cases h
theorem sndPs : ∀ (e : Ps) ⦃xk : XW⦄ ⦃N : List Str⦄ ⦃sc : Scope⦄ ⦃F : Str → Bool⦄ ⦃X : Cx⦄ ⦃pos : Pos⦄ ⦃ks : List (Option Expr)⦄ ⦃vs : List Expr⦄, XOk Γ ca xk N sc F X → okPs N sc F e ks vs = true → PDs X ca pos ks vs (runPs Γ e xk)
  | .nil => by
    intro xk N sc F X pos ks vs K h
    match ks, vs, h with
    | [], [], h => exact reD d_nil fun _ _ _ h => h
  | .cons k v ps => by
    intro xk N sc F X pos ks vs K h
    match ks, vs, h with
    | some x :: ks, y :: vs, h =>
      have h : (okE N sc F k x && (okE N sc F v y && okPs N sc F ps ks vs)) = true := h
      exact reD (d_cons (sndE k K (and1 h)) (sndE v K (and1 (and2 h))) (sndPs ps K (and2 (and2 h)))) fun _ _ _ h => h
  | .star d ps => by
    intro xk N sc F X pos ks vs K h
    match ks, vs, h with
    | [], [], h => cases h
theorem sndO : ∀ (e : Oe) ⦃xk : XW⦄ ⦃N : List Str⦄ ⦃sc : Scope⦄ ⦃F : Str → Bool⦄ ⦃X : Cx⦄ ⦃pe : Option Expr⦄, XOk Γ ca xk N sc F X → okO N sc F e pe = true → PO X pe (liftO (gOf X ca) (runO Γ e xk))
  | .none => by
    intro xk N sc F X pe K h
    cases pe with
    | none => exact reO o_none fun _ _ _ h => h
    | some => cases h
  | .some e => by
    intro xk N sc F X pe K h
    cases pe with
    | none => cases h
    | some x => exact reO (o_some (sndE e K h)) fun _ _ _ h => h
theorem sndC : ∀ (e : Oe) ⦃xk : XW⦄ ⦃N : List Str⦄ ⦃sc : Scope⦄ ⦃F : Str → Bool⦄ ⦃X : Cx⦄ ⦃pe : List Expr⦄, XOk Γ ca xk N sc F X → okC N sc F e pe = true → PTs X pe (liftT (gOf X ca) (runC Γ e xk))
  | .none => by
    intro xk N sc F X pe K h
    cases pe with
    | nil => exact reC ts_none fun _ _ _ h => h
    | cons => cases h
  | .some e => by
    intro xk N sc F X pe K h
    match pe, h with
    | [x], h => exact reC (ts_some (sndT e K h)) fun _ _ _ h => h
theorem sndI : ∀ (e : It) ⦃t : Tg⦄ ⦃xk : XW⦄ ⦃N : List Str⦄ ⦃sc : Scope⦄ ⦃F : Str → Bool⦄ ⦃X : Cx⦄ ⦃tg pe : Expr⦄, XOk Γ ca xk N sc F X → okI N sc F e t tg pe = true → PI X tg pe (liftI X ca t (runI Γ e xk))
  | .val e => by
    intro t xk N sc F X tg pe K h
    have h : (notSet pe && okE N sc F e pe) = true := h
    exact reI (i_val (sndE e K (and2 h))) fun _ _ _ h => h
  | .rng1 a => by
    intro t xk N sc F X tg pe K h
    match pe, h with
    | .Call (.Name y p) [x] [] q, h =>
      have h : ((decide (y = so "range") && glb sc y) && (notStar x && okE N sc F a x)) = true := h
      cases of_decide_eq_true (and1 (and1 h))
      exact reI (i_rng1 (gl_ok K.eS (and2 (and1 h))) (K.kn.bi "range" (by decide)) (and1 (and2 h)) (sndE a K (and2 (and2 h)))) fun _ _ _ h => h
  | .rng2 a b => by
    intro t xk N sc F X tg pe K h
    exact reI i_never fun _ _ _ h => h
  | .enum a => by
    intro t xk N sc F X tg pe K h
    match t, tg, pe, h with
    | .tup ts, .Tuple es k tp, .Call (.Name y p) [x] [] q, h =>
      have h : ((decide (y = so "enumerate") && glb sc y) && (notStar x && okE N sc F a x)) = true := h
      cases of_decide_eq_true (and1 (and1 h))
      exact reI (i_enum rfl (gl_ok K.eS (and2 (and1 h))) (K.kn.bi "enumerate" (by decide)) (and1 (and2 h)) (sndE a K (and2 (and2 h)))) fun _ _ _ h => h
  | .zip a b => by
    intro t xk N sc F X tg pe K h
    match t, tg, pe, h with
    | .tup ts, .Tuple es k tp, .Call (.Name y p) [x, z] [] q, h =>
      have h : (((decide (y = so "zip") && glb sc y) && (notStar x && notStar z)) && (okE N sc F a x && okE N sc F b z)) = true := h
      cases of_decide_eq_true (and1 (and1 (and1 h)))
      exact reI (i_zip rfl (gl_ok K.eS (and2 (and1 (and1 h)))) (K.kn.bi "zip" (by decide)) (and1 (and2 (and1 h))) (and2 (and2 (and1 h))) (sndE a K (and1 (and2 h))) (sndE b K (and2 (and2 h)))) fun _ _ _ h => h
  | .items e => by
    intro t xk N sc F X tg pe K h
    match t, tg, pe, h with
    | .tup ts, .Tuple es k tp, .Call (.Attribute x y ap) [] [] p, h =>
      have h : (((decide (y = so "items") && plainO x) && decide (ap.endLine = p.line)) && okE N sc F e x) = true := h
      cases of_decide_eq_true (and1 (and1 (and1 h)))
      exact reI (i_items rfl (and2 (and1 (and1 h))) (of_decide_eq_true (and2 (and1 h))) (sndE e K (and2 h))) fun _ _ _ h => h
theorem sndTg : ∀ (t : Tg) ⦃xk : XW⦄ ⦃N : List Str⦄ ⦃sc : Scope⦄ ⦃F : Str → Bool⦄ ⦃X : Cx⦄ ⦃pe : Expr⦄, XOk Γ ca xk N sc F X → okTg N sc F t pe = true → PG X pe (liftG X ca t (runTg Γ t xk))
  | .name i => by
    intro xk N sc F X pe K h
    cases pe with
    | Name x p =>
      have h : (decide (N[i]? = some x) && (decide (sc.names.lookup x = some .local) || (decide (sc.names.lookup x = some .cell) && F x))) = true := h
      have z := loc_ok K.eS K.fn (and2 h)
      exact reG (g_name K.nd (by rw [K.eN]; exact of_decide_eq_true (and1 h)) z.1 z.2) fun _ _ _ _ h => h
    | _ => cases h
  | .tup ts => by
    intro xk N sc F X pe K h
    cases pe with
    | Tuple xs k p =>
      have h : ((decide (tgsLen ts = xs.length) && xs.all notStar) && okTgs N sc F ts xs) = true := h
      exact reG (g_tup K.calm (and2 (and1 h)) (of_decide_eq_true (and1 (and1 h))) (sndTgs ts K (and2 h))) fun _ _ _ _ h => h
    | _ => cases h
  | .sub o i => by
    intro xk N sc F X pe K h
    cases pe with
    | Subscript x y p =>
      have h : (notSlice y && (okE N sc F o x && okE N sc F i y)) = true := h
      exact reG (g_sub K.kn.un (and1 h) (sndE o K (and1 (and2 h))) (sndE i K (and2 (and2 h)))) fun _ _ _ _ h => h
    | _ => cases h
theorem sndTgs : ∀ (t : Tgs) ⦃xk : XW⦄ ⦃N : List Str⦄ ⦃sc : Scope⦄ ⦃F : Str → Bool⦄ ⦃X : Cx⦄ ⦃pe : List Expr⦄, XOk Γ ca xk N sc F X → okTgs N sc F t pe = true → PGs X pe (liftGs X ca t (runTgs Γ t xk))
  | .nil => by
    intro xk N sc F X pe K h
    cases pe with
    | nil => exact reGs gs_nil fun _ _ _ _ h => h
    | cons => cases h
  | .cons t ts => by
    intro xk N sc F X pe K h
    cases pe with
    | nil => cases h
    | cons x xs =>
      have h : (notStar x && (okTg N sc F t x && okTgs N sc F ts xs)) = true := h
      exact reGs (gs_cons (and1 h) (sndTg t K (and1 (and2 h))) (sndTgs ts K (and2 (and2 h)))) fun _ _ _ _ h => h
end
end Rx
end

section
set_option maxHeartbeats 4000000
/-! Rx: the readings of statements, rule by rule. -/
namespace Rx
open PySem PySem.Spec PyProof.Rows L2
/-- the ends by trees give the ends by values -/
structure EndsOk (X : Cx) (ca : String → Addr) (H : Hp) (Da : DD) (D : Ends) : Prop where
  nx : ∀ g M σ H', Rel (gOf X ca) σ H' g M → Keep H H' → Da.nx g M → D.nx σ H'
  rt : ∀ p M v H', HRep X.w ca X.K M H' → Rep X.K H' p v → Keep H H' → Da.rt p M → D.rt v H'
  bk : ∀ g M σ H', Rel (gOf X ca) σ H' g M → Keep H H' → Da.bk g M → D.bk σ H'
  ct : ∀ g M σ H', Rel (gOf X ca) σ H' g M → Keep H H' → Da.ct g M → D.ct σ H'
theorem EndsOk.keep {X : Cx} {ca : String → Addr} {H H1 : Hp} {Da : DD} {D : Ends} (e : EndsOk X ca H Da D) (k : Keep H H1) : EndsOk X ca H1 Da D :=
  ⟨fun g M σ H' r k2 => e.nx g M σ H' r (k.trans k2), fun p M v H' a b k2 => e.rt p M v H' a b (k.trans k2), fun g M σ H' r k2 => e.bk g M σ H' r (k.trans k2), fun g M σ H' r k2 => e.ct g M σ H' r (k.trans k2)⟩
def liftS (X : Cx) (ca : String → Addr) (r : DD → Sg → MM → Prop) : TS := fun D σ H => ∃ g M Da, Rel (gOf X ca) σ H g M ∧ r Da g M ∧ EndsOk X ca H Da D
section
variable {X : Cx} {ca : String → Addr} {e : Expr} {re : RE} {pos : Pos} {st : Stmt} {sts : List Stmt} {rs rss rs2 : DD → Sg → MM → Prop}
theorem reS {r r' : DD → Sg → MM → Prop} (h : PS X st (liftS X ca r)) (i : ∀ D g M, r' D g M → r D g M) : PS X st (liftS X ca r') := PS.imp h fun D σ H ⟨g, M, Da, rel, run, hk⟩ => ⟨g, M, Da, rel, i _ _ _ run, hk⟩
theorem reSs {r r' : DD → Sg → MM → Prop} (h : PSs X sts (liftS X ca r)) (i : ∀ D g M, r' D g M → r D g M) : PSs X sts (liftS X ca r') := PSs.imp h fun D σ H ⟨g, M, Da, rel, run, hk⟩ => ⟨g, M, Da, rel, i _ _ _ run, hk⟩
theorem s_never : PS X st (liftS X ca fun _ _ _ => False) := PS.imp ps_never fun D σ H ⟨g, M, Da, rel, run, hk⟩ => run
theorem s_pass : PS X (.Pass pos) (liftS X ca fun D g M => D.nx g M) := PS.imp ps_pass fun D σ H ⟨g, M, Da, rel, run, hk⟩ => hk.nx g M σ H rel (.refl H) run
theorem s_brk : PS X (.Break pos) (liftS X ca fun D g M => D.bk g M) := PS.imp ps_break fun D σ H ⟨g, M, Da, rel, run, hk⟩ => hk.bk g M σ H rel (.refl H) run
theorem s_cont : PS X (.Continue pos) (liftS X ca fun D g M => D.ct g M) := PS.imp ps_continue fun D σ H ⟨g, M, Da, rel, run, hk⟩ => hk.ct g M σ H rel (.refl H) run
theorem s_retN : PS X (.Return none pos) (liftS X ca fun D g M => D.rt .non M) := PS.imp ps_retN fun D σ H ⟨g, M, Da, rel, run, hk⟩ => hk.rt .non M .non H rel.h .non (.refl H) run
theorem s_ret (he : PE X e (liftE (gOf X ca) re)) : PS X (.Return (some e) pos) (liftS X ca fun D g M => re g M fun p M1 => D.rt p M1) :=
  PS.imp (ps_ret he) fun D σ H ⟨g, M, Da, rel, run, hk⟩ => lift_run rel run fun p M1 v H1 rel1 rp k1 q1 => hk.rt p M1 v H1 rel1.h rp k1 q1
theorem swaps_no {e : Expr} {tg : Option Expr} {l : Nat} {env : Env} (h : notComp e = true) : swapsWith e tg l env = pure false := by
  cases e <;> first | rfl | cases h
theorem s_expr (hn : notComp e = true) (he : PE X e (liftE (gOf X ca) re)) : PS X (.Expr e pos) (liftS X ca fun D g M => re g M fun _ M1 => D.nx g M1) :=
  PS.imp (ps_expr he (swaps_no hn)) fun D σ H ⟨g, M, Da, rel, run, hk⟩ => lift_run rel run fun p M1 v H1 rel1 rp k1 q1 => hk.nx g M1 σ H1 rel1 k1 q1
theorem s_if {c : Expr} {a b : List Stmt} {rc : RT} (hc : PT X c (liftT (gOf X ca) rc)) (ha : PSs X a (liftS X ca rs)) (hb : PSs X b (liftS X ca rs2)) : PS X (.If c a b pos) (liftS X ca fun D g M => rc g M fun d M1 => if d = true then rs D g M1 else rs2 D g M1) :=
  PS.imp (ps_if hc ha hb) fun D σ H ⟨g, M, Da, rel, run, hk⟩ => liftT_run rel run fun d M1 H1 rel1 k1 q1 => by
    cases d with
    | true =>
      simp only [if_true] at q1 ⊢
      exact ⟨g, M1, Da, rel1, q1, hk.keep k1⟩
    | false =>
      simp only [Bool.false_eq_true, if_false] at q1 ⊢
      exact ⟨g, M1, Da, rel1, q1, hk.keep k1⟩
theorem ss_nil : PSs X [] (liftS X ca fun D g M => D.nx g M) := PSs.imp pss_nil fun D σ H ⟨g, M, Da, rel, run, hk⟩ => hk.nx g M σ H rel (.refl H) run
theorem ss_cons (h1 : PS X st (liftS X ca rs)) (h2 : PSs X sts (liftS X ca rss)) : PSs X (st :: sts) (liftS X ca fun D g M => rs { D with nx := fun g' M' => rss D g' M' } g M) :=
  PSs.imp (pss_cons h1 h2) fun D σ H ⟨g, M, Da, rel, run, hk⟩ => ⟨g, M, _, rel, run, ⟨fun g1 M1 σ1 H1 rel1 k1 q1 => ⟨g1, M1, Da, rel1, q1, hk.keep k1⟩, hk.rt, hk.bk, hk.ct⟩⟩
/-- target = e -/
theorem s_asg {tg : Expr} {t : Tg} {rg : PV → Sg → MM → (Sg → MM → Prop) → Prop} (hs : swapsWith e (some tg) pos.line X.env = pure false) (hw : swappedStores [tg] e X.env = pure none) (hn : notStar tg = true)
    (he : PE X e (liftE (gOf X ca) re)) (hg : PG X tg (liftG X ca t rg)) : PS X (.Assign [tg] e pos) (liftS X ca fun D g M => re g M fun p M1 => rg p g M1 D.nx) :=
  PS.imp (ps_asg he hg hs hw (asgn_ok hn _)) fun D σ H ⟨g, M, Da, rel, run, hk⟩ => lift_run rel run fun p M1 v H1 rel1 rp k1 q1 =>
    ⟨p, g, M1, _, rel1, .inl rp, q1, fun g2 M2 σ2 H2 rel2 k2 _ q2 => hk.nx g2 M2 σ2 H2 rel2 (k1.trans k2) q2⟩
/-- a, b = x, y -/
theorem s_par2 {i j : Nat} {x y : Str} {a b : Expr} {px py pt pt2 : Pos} {kt k2 : Nat} {ra rb : RE} (hc : X.calm = true) (hN : X.N.Nodup) (hi : X.N[i]? = some x) (hj : X.N[j]? = some y) (hij : i ≠ j)
    (hx : X.env.scope.names.lookup x = some .local) (hy : X.env.scope.names.lookup y = some .local) (sa : notStar a = true) (sb : notStar b = true) (ha : PE X a (liftE (gOf X ca) ra)) (hb : PE X b (liftE (gOf X ca) rb))
    (hw : swappedStores [.Tuple [.Name x px, .Name y py] kt pt] (.Tuple [a, b] k2 pt2) X.env = pure (some [x, y])) :
    PS X (.Assign [.Tuple [.Name x px, .Name y py] kt pt] (.Tuple [a, b] k2 pt2) pos) (liftS X ca fun D g M => ra g M fun p M1 => rb g M1 fun q M2 => D.nx ((g.set i (some p)).set j (some q)) M2) :=
  PS.imp (ps_par hc hN hi hj hij hx hy (pa_cons ha (pa_cons hb pa_nil (star_ok sb _)) (star_ok sa _)) hw) fun D σ H ⟨g, M, Da, rel, run, hk⟩ =>
    lift_run rel run fun p M1 v H1 rel1 rp k1 q1 => lift_run rel1 q1 fun q M2 w H2 rel2 rq k2 q2 =>
      ⟨v, w, rfl, hk.nx _ M2 _ H2 ⟨(rel2.s.set i (rp.keep k2)).set j rq, rel2.h⟩ (k1.trans k2) q2⟩
theorem s_par3 {i j l : Nat} {x y z : Str} {a b c : Expr} {px py pz pt pt2 : Pos} {kt k2 : Nat} {ra rb rc : RE} (hc : X.calm = true) (hN : X.N.Nodup) (hi : X.N[i]? = some x) (hj : X.N[j]? = some y) (hl : X.N[l]? = some z) (hij : i ≠ j) (hil : i ≠ l) (hjl : j ≠ l)
    (hx : X.env.scope.names.lookup x = some .local) (hy : X.env.scope.names.lookup y = some .local) (hz : X.env.scope.names.lookup z = some .local) (sa : notStar a = true) (sb : notStar b = true) (sc : notStar c = true)
    (ha : PE X a (liftE (gOf X ca) ra)) (hb : PE X b (liftE (gOf X ca) rb)) (hcc : PE X c (liftE (gOf X ca) rc))
    (hw : swappedStores [.Tuple [.Name x px, .Name y py, .Name z pz] kt pt] (.Tuple [a, b, c] k2 pt2) X.env = pure (some [x, y, z])) :
    PS X (.Assign [.Tuple [.Name x px, .Name y py, .Name z pz] kt pt] (.Tuple [a, b, c] k2 pt2) pos) (liftS X ca fun D g M => ra g M fun p M1 => rb g M1 fun q M2 => rc g M2 fun r M3 => D.nx (((g.set i (some p)).set j (some q)).set l (some r)) M3) :=
  PS.imp (ps_par3 hc hN hi hj hl hij hil hjl hx hy hz (pa_cons ha (pa_cons hb (pa_cons hcc pa_nil (star_ok sc _)) (star_ok sb _)) (star_ok sa _)) hw) fun D σ H ⟨g, M, Da, rel, run, hk⟩ =>
    lift_run rel run fun p M1 v H1 rel1 rp k1 q1 => lift_run rel1 q1 fun q M2 w H2 rel2 rq k2 q2 => lift_run rel2 q2 fun r M3 u H3 rel3 rr k3 q3 =>
      ⟨v, w, u, rfl, hk.nx _ M3 _ H3 ⟨((rel3.s.set i ((rp.keep k2).keep k3)).set j (rq.keep k3)).set l rr, rel3.h⟩ ((k1.trans k2).trans k3) q3⟩
/-- name op= e -/
theorem s_aug {i : Nat} {x : Str} {op : Operator} {p' : Pos} (hN : X.N.Nodup) (hi : X.N[i]? = some x) (hx : Loc X.env.scope x) (hf : X.fn x = true ∨ X.env.scope.names.lookup x = some .local) (he : PE X e (liftE (gOf X ca) re)) :
    PS X (.AugAssign (.Name x p') op e pos) (liftS X ca fun D g M => match g[i]? with
    | some (some p) => re g M fun q M1 => augA op p q M1 fun r M2 => D.nx (g.set i (some r)) M2
    | _ => False) :=
  PS.imp (ps_aug hN hi hx he (augP_snd op) hf) fun D σ H ⟨g, M, Da, rel, run, hk⟩ => by
    dsimp only at run
    split at run
    · rename_i p hp
      obtain ⟨v, h1, rp⟩ := rel.s.at_ i p hp
      refine ⟨v, h1, lift_run rel run fun q M1 w H1 rel1 rq k1 q1 => ⟨p, q, M1, _, rel1.h, rp.keep k1, rq, q1, fun r M2 z H2 hM2 rr k2 q2 => ?_⟩⟩
      exact hk.nx _ M2 _ H2 ⟨(rel1.s.keep k2).set i rr, hM2⟩ (k1.trans k2) q2
    · exact run.elim
/-- while -/
theorem s_while {c : Expr} {body : List Stmt} {rc : RT} (hp : PassesOwn (model X.prog X.w) X.A X.env X.xe) (hc : PT X c (liftT (gOf X ca) rc)) (hb : PSs X body (liftS X ca rs)) :
    PS X (.While c body [] pos) (liftS X ca fun D g M => ∃ W : Nat → Sg → MM → Prop, (∃ m, W m g M) ∧ ∀ m g M, W m g M → rc g M fun r M1 =>
      if r = true then rs { D with nx := weakS fun g' M' => ∃ m', m' < m ∧ W m' g' M', ct := weakS fun g' M' => ∃ m', m' < m ∧ W m' g' M', bk := D.nx } g M1 else D.nx g M1) :=
  PS.imp (ps_while hp hc hb) fun D σ H ⟨g, M, Da, rel, ⟨W, ⟨m0, w0⟩, turn⟩, hk⟩ => by
    refine ⟨fun m σ' H' => ∃ g M, Rel (gOf X ca) σ' H' g M ∧ Keep H H' ∧ W m g M, ⟨m0, g, M, rel, .refl H, w0⟩, ?_⟩
    rintro m σ1 H1 ⟨g1, M1, rel1, k1, w1⟩
    refine liftT_run rel1 (turn m g1 M1 w1) fun r M2 H2 rel2 k2 q2 => ?_
    have weak : ∀ {P : Sg → MM → Prop} {g3 M3 σ3 H3}, Rel (gOf X ca) σ3 H3 g3 M3 → weakS P g3 M3 → ∃ g M, Rel (gOf X ca) σ3 H3 g M ∧ P g M := fun rel3 ⟨g', M', s1, s2, q⟩ => ⟨g', M', ⟨rel3.s.sub s1, rel3.h.sub s2⟩, q⟩
    cases r with
    | true =>
      simp only [if_true] at q2 ⊢
      refine ⟨fun σ3 H3 => ∃ m', m' < m ∧ ∃ g M, Rel (gOf X ca) σ3 H3 g M ∧ Keep H H3 ∧ W m' g M, fun σ3 H3 ⟨m', h1, h2⟩ => ⟨m', h1, h2⟩, g1, M2, _, rel2, q2, ⟨fun g3 M3 σ3 H3 rel3 k3 q3 => ?_, (hk.keep (k1.trans k2)).rt, (hk.keep (k1.trans k2)).nx, fun g3 M3 σ3 H3 rel3 k3 q3 => ?_⟩⟩
      all_goals
        obtain ⟨g4, M4, rel4, m', h1, h2⟩ := weak rel3 q3
        exact ⟨m', h1, g4, M4, rel4, (k1.trans k2).trans k3, h2⟩
    | false =>
      simp only [Bool.false_eq_true, if_false] at q2 ⊢
      exact hk.nx g1 M2 σ1 H2 rel2 (k1.trans k2) q2
end
end Rx
end

section
set_option maxHeartbeats 4000000
/-! Rx: the readings of statements (2): for, name = [..]. -/
namespace Rx
open PySem PySem.Spec PyProof.Rows L2
section
variable {X : Cx} {ca : String → Addr} {e tg elt : Expr} {t : Tg} {re : RE} {pos : Pos} {st : Stmt} {sts : List Stmt} {rs : DD → Sg → MM → Prop}
def unlD (X : Cx) (D : Ends) : Ends := ⟨fun σ H => ∃ H3, (∀ pins σ s, L2.Inv X pins σ H s → L2.Inv X pins σ H3 s) ∧ D.nx σ H3, fun v H => ∃ H3, (∀ pins σ s, L2.Inv X pins σ H s → L2.Inv X pins σ H3 s) ∧ D.rt v H3, fun σ H => ∃ H3, (∀ pins σ s, L2.Inv X pins σ H s → L2.Inv X pins σ H3 s) ∧ D.bk σ H3, fun σ H => ∃ H3, (∀ pins σ s, L2.Inv X pins σ H s → L2.Inv X pins σ H3 s) ∧ D.ct σ H3⟩
theorem sp_unl {pins : List (Addr × Obj)} {D : Ends} {f : Flow} {s : Shared} (h : SP X pins (unlD X D) f s) : SP X pins D f s := by
  cases f with
  | next => obtain ⟨σ, H, I, H3, c, q⟩ := h; exact ⟨σ, H3, c _ _ _ I, q⟩
  | brk => obtain ⟨σ, H, I, H3, c, q⟩ := h; exact ⟨σ, H3, c _ _ _ I, q⟩
  | cont => obtain ⟨σ, H, I, H3, c, q⟩ := h; exact ⟨σ, H3, c _ _ _ I, q⟩
  | ret u => obtain ⟨v, σ, H, I, r, H3, c, q⟩ := h; exact ⟨v, σ, H3, c _ _ _ I, r, q⟩
theorem s_for {body : List Stmt} {rI : Sg → MM → RI → Prop} {rG : PV → Sg → MM → (Sg → MM → Prop) → Prop} (hp : PassesOwn (model X.prog X.w) X.A X.env X.xe) (hc : X.calm = true) (hi : PI X tg e (liftI X ca t rI)) (hg : PG X tg (liftG X ca t rG)) (hb : PSs X body (liftS X ca rs))
    (hs : ∀ x, foldedSetIterable e X.env x = pure x) : PS X (.For tg e body [] pos) (liftS X ca fun D g M => rI g M fun xs st un M1 => forF st un rG rs D xs g M1) := by
  refine ⟨fun pins s σ H D I h => thn ((ps_for hp hc hi hg hb hs).run pins s σ H (unlD X D) I ?_) fun f s2 q => sp_unl q⟩
  obtain ⟨g, M, Da, rel, run, hk⟩ := h
  refine ⟨g, M, _, rel, run, fun xs st un M1 J H0 H1 hM1 k0 k1 wk q => ?_⟩
  refine ⟨fun i m σ' H' => m = xs.length - i ∧ i ≤ xs.length ∧ ∃ g2 M2, Rel (gOf X ca) σ' H' g2 M2 ∧ Keep H1 H' ∧ forF st un rG rs Da (xs.drop i) g2 M2, ⟨xs.length, rfl, Nat.zero_le _, g, M1, ⟨rel.s.keep k1, hM1⟩, .refl H1, q⟩, ?_⟩
  rintro i m σ2 H2 ⟨rfl, hi, g2, M2, rel2, k2, q2⟩
  by_cases hlt : i < xs.length
  · rw [List.drop_eq_getElem_cons hlt] at q2
    unfold forF at q2
    obtain ⟨hst, q2⟩ := q2
    refine .inr ⟨wk.go i H2 M2 rel2.h k2 hst hlt, fun σ' H' => ∃ g2 M2, Rel (gOf X ca) σ' H' g2 M2 ∧ Keep H1 H' ∧ forF st un rG rs Da (xs.drop (i + 1)) g2 M2, fun σ' H' n => ⟨xs.length - (i + 1), by omega, rfl, hlt, n⟩, fun v H3 y => ?_⟩
    obtain ⟨p, hp, rp, k3, hM3⟩ := wk.yld i H2 M2 v H3 rel2.h k2 hst hlt y
    rw [List.getElem?_eq_getElem hlt] at hp
    cases hp
    refine ⟨_, g2, M2, _, ⟨rel2.s.keep k3, hM3⟩, rp, q2, fun g4 M4 σ4 H4 rel4 k4 _ q4 => ⟨g4, M4, _, rel4, q4, ?_⟩⟩
    have kk : Keep H1 H4 := (k2.trans k3).trans k4
    refine ⟨fun g5 M5 σ5 H5 rel5 k5 ⟨g6, M6, s1, s2, q6⟩ => ⟨g6, M6, ⟨rel5.s.sub s1, rel5.h.sub s2⟩, kk.trans k5, q6⟩, fun p5 M5 v5 H5 hM5 rp5 k5 q5 => ?_, fun g5 M5 σ5 H5 rel5 k5 q5 => ?_, fun g5 M5 σ5 H5 rel5 k5 ⟨g6, M6, s1, s2, q6⟩ => ⟨g6, M6, ⟨rel5.s.sub s1, rel5.h.sub s2⟩, kk.trans k5, q6⟩⟩
    · obtain ⟨H6, c, hM6, k6, kw⟩ := wk.fin2 H5 M5 hM5 (kk.trans k5)
      exact ⟨H6, c, hk.rt p5 _ v5 H6 hM6 (rp5.keepW kw) (k0.trans k6) q5⟩
    · obtain ⟨H6, c, hM6, k6, kw⟩ := wk.fin2 H5 M5 rel5.h (kk.trans k5)
      exact ⟨H6, c, hk.nx g5 _ σ5 H6 ⟨rel5.s.keepW kw, hM6⟩ (k0.trans k6) q5⟩
  · have e : i = xs.length := by omega
    subst e
    rw [List.drop_length] at q2
    unfold forF at q2
    obtain ⟨H6, c, hM6, k6, kw⟩ := wk.fin2 H2 M2 rel2.h k2
    exact .inl ⟨wk.stop H2 M2 rel2.h k2 q2.1, H6, c, hk.nx g2 _ σ2 H6 ⟨rel2.s.keepW kw, hM6⟩ (k0.trans k6) q2.2⟩
theorem FRep.put {K : PySem.W.Frag} {H : Hp} {f : String} {p : PV} {v : V} (r : Rep K H p v) : ∀ {fs : List (String × PV)} {gs : List (Str × V)}, FRep K H fs gs → FRep K H (putP f p fs) (putF (so f) v gs)
  | _, _, .nil => .cons r .nil
  | _, _, .cons (f := f') rp t => by
    unfold putP putF
    by_cases e : f' = f
    · subst e
      rw [if_pos rfl, if_pos rfl]
      exact .cons r t
    · rw [if_neg e, if_neg fun z => e (so_inj z)]
      exact .cons rp (FRep.put r t)
theorem FRep.len {K : PySem.W.Frag} {H : Hp} : ∀ {fs : List (String × PV)} {gs : List (Str × V)}, FRep K H fs gs → fs.length = gs.length
  | _, _, .nil => rfl
  | _, _, .cons _ t => by simp [t.len]
theorem putP_len (f : String) (v : PV) : ∀ fs : List (String × PV), (putP f v fs).length ≤ fs.length + 1
  | [] => by simp [putP]
  | (g, x) :: r => by
    unfold putP
    split
    · simp
    · have := putP_len f v r
      simp only [List.length_cons]; omega
theorem ins_set {M : MM} {H : Hp} {a : Addr} {c f : String} {fs : List (String × PV)} {dx : Addr} {gs : List (Str × V)} {p : PV} {v : V} (hM : HRep X.w ca X.K M H) (h1 : H a = some (.ins (ca c) dx gs)) (h2 : FRep X.K H fs gs) (h3 : fs.length < 900) (h4 : ClsOk X.K (ca c) c) (r : Rep X.K H p v) :
    HRep X.w ca X.K (mput M a (.ins c (putP f p fs))) (upd H a (.ins (ca c) dx (putF (so f) v gs))) ∧ Keep H (upd H a (.ins (ca c) dx (putF (so f) v gs))) := by
  have kp : Keep H (upd H a (.ins (ca c) dx (putF (so f) v gs))) := .set h1 rfl
  have := putP_len f p fs
  exact ⟨hM.set (u := .ins c (putP f p fs)) h1 rfl ⟨dx, _, upd_same, (h2.put r).keep kp, by omega, h4⟩, kp⟩
theorem swaps_attr {o : Expr} {f : Str} {p : Pos} {l : Nat} {env : Env} : ∀ e : Expr, swapsWith e (some (.Attribute o f p)) l env = pure false := fun e => by cases e <;> rfl
theorem swaps_sub {o i : Expr} {p : Pos} {l : Nat} {env : Env} : ∀ e : Expr, swapsWith e (some (.Subscript o i p)) l env = pure false := fun e => by cases e <;> rfl
theorem swaps_tup {es : List Expr} {k : Nat} {p : Pos} {l : Nat} {env : Env} : ∀ e : Expr, swapsWith e (some (.Tuple es k p)) l env = pure false := fun e => by cases e <;> rfl
theorem s_fld {o : Expr} {f : String} {p' : Pos} {ro : RE} (ho : PE X o (liftE (gOf X ca) ro)) (he : PE X e (liftE (gOf X ca) re)) :
    PS X (.Assign [.Attribute o (so f) p'] e pos) (liftS X ca fun D g M => re g M fun v M1 => ro g M1 fun p M2 => match p with
    | .ref a => match M2 a with
      | some (.ins c fs) => fs.length < 900 ∧ fieldOf c f = true ∧ D.nx g (mput M2 a (.ins c (putP f v fs)))
      | _ => False
    | _ => False) :=
  PS.imp (ps_fld ho he (swaps_attr e)) fun D σ H ⟨g, M, Da, rel, run, hk⟩ => lift_run rel run fun v M1 vv H1 rel1 rv k1 q1 => lift_run rel1 q1 fun p M2 vp H2 rel2 rp k2 q2 => by
    split at q2
    · rename_i a
      split at q2
      · rename_i c fs e1
        cases rp
        obtain ⟨dx, gs, h1, h2, h3, h4⟩ := rel2.h a _ e1
        obtain ⟨hM3, k3⟩ := ins_set (f := f) rel2.h h1 h2 q2.1 h4 (rv.keep k2)
        refine ⟨a, _, dx, gs, rfl, h1, h4.cl, h4.no f q2.2.1, ?_, hk.nx g _ σ _ (rel2.go k3 hM3) ((k1.trans k2).trans k3) q2.2.2⟩
        have := q2.1
        rw [← h2.len]; omega
      · exact q2.elim
    · exact q2.elim
theorem s_augF {o : Expr} {f : String} {op : Operator} {p' : Pos} {ro : RE} (ho : PE X o (liftE (gOf X ca) ro)) (he : PE X e (liftE (gOf X ca) re)) :
    PS X (.AugAssign (.Attribute o (so f) p') op e pos) (liftS X ca fun D g M => ro g M fun p M1 => match p with
    | .ref a => match M1 a with
      | some (.ins c fs) => match fs.lookup f with
        | some v => fieldOf c f = true ∧ re g M1 fun q M2 => augA op v q M2 fun r M3 => match M3 a with
          | some (.ins c' fs') => c' = c ∧ fs'.length < 900 ∧ D.nx g (mput M3 a (.ins c (putP f r fs')))
          | _ => False
        | none => False
      | _ => False
    | _ => False) :=
  PS.imp (ps_fldaug ho he (aug_snd op)) fun D σ H ⟨g, M, Da, rel, run, hk⟩ => lift_run rel run fun p M1 vp H1 rel1 rp k1 q1 => by
    split at q1
    · rename_i a
      split at q1
      · rename_i c fs e1
        split at q1
        · rename_i v hv
          cases rp
          obtain ⟨dx, gs, h1, h2, h3, h4⟩ := rel1.h a _ e1
          obtain ⟨w, hw, rw1⟩ := h2.lookup hv
          refine ⟨a, _, dx, gs, w, rfl, h1, h4.cl, h4.no f q1.1, hw, lift_run rel1 q1.2 fun q M2 vq H2 rel2 rq k2 q2 => ⟨v, q, M2, _, rel2.h, rw1.keep k2, rq, q2, fun r M3 vr H3 hM3 rr k3 q3 => ?_⟩⟩
          split at q3
          · rename_i c' fs' e3
            obtain ⟨ec, hl, q3⟩ := q3
            subst ec
            obtain ⟨dx', gs', g1, g2, g3, g4⟩ := hM3 a _ e3
            obtain ⟨hM4, k4⟩ := ins_set (f := f) hM3 g1 g2 hl g4 rr
            refine ⟨dx', gs', g1, by rw [← g2.len]; omega, hk.nx g _ σ _ ⟨((rel2.s.keep k3).keep k4), hM4⟩ (((k1.trans k2).trans k3).trans k4) q3⟩
          · exact q3.elim
        · exact q1.elim
      · exact q1.elim
    · exact q1.elim
end
end Rx
end

section
set_option maxHeartbeats 4000000
/-! Rx: that a body is a syntax without places; it is borne out. -/
namespace Rx
open PySem PySem.Spec PyProof.Rows L2
def notLoc (sc : Scope) : Expr → Bool
  | .Name id _ => !(sc.names.lookup id == some .local)
  | _ => true
def swNo (sc : Scope) (x v : Expr) : Bool := notComp v || match x with
  | .Attribute _ _ _ => true
  | .Subscript _ _ _ => true
  | .Tuple _ _ _ => true
  | .Name id _ => !(sc.names.lookup id == some .local)
  | _ => false
def swpNone (sc : Scope) (x v : Expr) : Bool := match x, v with
  | .Tuple ts _ _, .Tuple _ _ _ => ts.any (notLoc sc)
  | .List _ _, _ => false
  | _, _ => true
section
variable {env : Env} {sc : Scope}
theorem sw_no {x v : Expr} {l : Nat} (e : env.scope = sc) (h : swNo sc x v = true) : swapsWith v (some x) l env = pure false := by
  unfold swNo at h
  rcases Bool.or_eq_true_iff.mp h with z | z
  · exact swaps_no z
  · cases x with
    | Attribute => exact swaps_attr v
    | Subscript => exact swaps_sub v
    | Tuple => exact swaps_tup v
    | Name id p =>
      have k : (env.kindOf id == some .local) = false := by
        show (env.scope.names.lookup id == some .local) = false
        rw [e]; simpa using z
      cases v <;> first
        | rfl
        | (unfold swapsWith; simp only [k, Bool.and_false, Bool.false_and]; done)
        | (unfold swapsWith; simp only [k, Bool.and_false, Bool.false_and]; rfl)
    | _ => cases z
theorem swp_none {x v : Expr} (e : env.scope = sc) (h : swpNone sc x v = true) : swappedStores [x] v env = pure none := by
  have key : ∀ (ts : List Expr) (line : Nat), ts.any (notLoc sc) = true → (ts.filterMap fun
    | .Name id pos => if env.kindOf id == some .local && pos.line == line then some id else none
    | _ => none).length < ts.length := by
    intro ts line
    induction ts with
    | nil => intro q; cases q
    | cons a r ih =>
      intro q
      have le : (r.filterMap fun
        | .Name id pos => if env.kindOf id == some .local && pos.line == line then some id else none
        | _ => none).length ≤ r.length := List.length_filterMap_le _ _
      rw [List.any_cons] at q
      rw [List.filterMap_cons]
      cases a with
      | Name id p =>
        dsimp only
        by_cases c : (env.kindOf id == some NameKind.local && p.line == line) = true
        · have k : env.scope.names.lookup id = some .local := by
            have := and1 c
            simpa [Env.kindOf] using this
          have n0 : notLoc sc (.Name id p) = false := by
            show (!(sc.names.lookup id == some .local)) = false
            rw [← e, k]; rfl
          rw [n0, Bool.false_or] at q
          rw [if_pos c]
          have := ih q
          simp only [List.length_cons]; omega
        · rw [if_neg c]
          simp only [List.length_cons]; omega
      | _ =>
        dsimp only
        simp only [List.length_cons]; omega
  unfold swpNone at h
  cases x with
  | Tuple ts k p =>
    cases v with
    | Tuple vs k2 p2 =>
      have z := key ts ((ts.head?.map (·.pos.line)).getD 0) h
      unfold swappedStores
      dsimp only
      split
      · rfl
      · split
        · rfl
        · split
          · rfl
          · rename_i c
            exact absurd (Bool.or_eq_true_iff.mpr (.inl (bne_iff_ne.mpr (Nat.ne_of_lt z)))) c
    | _ => rfl
  | List => cases h
  | _ => rfl
end
end Rx
end

section
set_option maxHeartbeats 4000000
/-! Rx: bodies are borne out. -/
namespace Rx
open PySem PySem.Spec PyProof.Rows L2
theorem star_any : ∀ a : Expr, (match a with | .Starred .. => true | _ => false) = false ∨ notStar a = false := fun a => by cases a <;> first | exact .inl rfl | exact .inr rfl
theorem star_no {a : Expr} {b : Bool} (h : b = false ∨ notStar a = false) (s : notStar a = true) : b = false := h.elim id fun z => by rw [s] at z; cases z
section
variable {env : Env} {x y z : Str} {a b c : Expr} {px py pz pt pt2 : Pos} {kt k2 : Nat}
theorem par2_ok (hb : env.blockKind = .function) (hx : env.kindOf x = some .local) (hy : env.kindOf y = some .local) (hl : py.line = px.line) (hne : x ≠ y) (sa : notStar a = true) (sb : notStar b = true)
    (hf : [a, b].all (foldedForSure 8) = false) (hc : [a, b].all (constantsAlone 8) = false) : swappedStores [.Tuple [.Name x px, .Name y py] kt pt] (.Tuple [a, b] k2 pt2) env = pure (some [x, y]) := by
  have e1 := star_no (star_any a) sa
  have e2 := star_no (star_any b) sb
  have ed : ([x, y] : List Str).eraseDups.length = 2 := by
    have : (y == x) = false := by simpa using Ne.symm hne
    simp [List.eraseDups_cons, this]
  unfold swappedStores
  dsimp only
  simp only [hb, hx, hy, hl, hf, hc, List.any_cons, List.any_nil, List.filterMap_cons, List.filterMap_nil, List.head?_cons, Option.map_some, Option.getD_some, Expr.pos, beq_self_eq_true, Bool.and_self, Bool.true_and, if_true, ed, List.length_cons, List.length_nil]
  simp
  intro h
  rcases h with h | h
  · exact absurd (e1.symm.trans h) Bool.false_ne_true
  · exact absurd (e2.symm.trans h) Bool.false_ne_true
theorem par3_ok (hb : env.blockKind = .function) (hx : env.kindOf x = some .local) (hy : env.kindOf y = some .local) (hz : env.kindOf z = some .local) (hl : py.line = px.line) (hl2 : pz.line = px.line) (hne : x ≠ y) (hne2 : x ≠ z) (hne3 : y ≠ z) (sa : notStar a = true) (sb : notStar b = true) (sc : notStar c = true)
    (hf : [a, b, c].all (foldedForSure 8) = false) (hc : [a, b, c].all (constantsAlone 8) = false) : swappedStores [.Tuple [.Name x px, .Name y py, .Name z pz] kt pt] (.Tuple [a, b, c] k2 pt2) env = pure (some [x, y, z]) := by
  have e1 := star_no (star_any a) sa
  have e2 := star_no (star_any b) sb
  have e3 := star_no (star_any c) sc
  have ed : ([x, y, z] : List Str).eraseDups.length = 3 := by
    have h1 : (y == x) = false := by simpa using Ne.symm hne
    have h2 : (z == x) = false := by simpa using Ne.symm hne2
    have h3 : (z == y) = false := by simpa using Ne.symm hne3
    simp [List.eraseDups_cons, h1, h2, h3]
  unfold swappedStores
  dsimp only
  simp only [hb, hx, hy, hz, hl, hl2, hf, hc, List.any_cons, List.any_nil, List.filterMap_cons, List.filterMap_nil, List.head?_cons, Option.map_some, Option.getD_some, Expr.pos, beq_self_eq_true, Bool.and_self, Bool.true_and, if_true, ed, List.length_cons, List.length_nil]
  simp
  intro h
  rcases h with h | h | h
  · exact absurd (e1.symm.trans h) Bool.false_ne_true
  · exact absurd (e2.symm.trans h) Bool.false_ne_true
  · exact absurd (e3.symm.trans h) Bool.false_ne_true
end
end Rx
end

section
set_option maxHeartbeats 4000000
/-! Rx: bodies are borne out. -/
namespace Rx
open PySem PySem.Spec PyProof.Rows L2
abbrev FT : Str → Bool := fun _ => true
def locN (N : List Str) (sc : Scope) (i : Nat) (x : Str) : Bool := decide (N[i]? = some x) && decide (sc.names.lookup x = some .local)
mutual
def okS (N : List Str) (sc : Scope) : S → Stmt → Bool
  | .setl i elt x it c own, .Assign [.Name y py] (.ListComp e gs scope lp) p => (locN N sc i y && ((py.line == lp.line) && !(scope.names.any fun (n, k) => n == y && (k == .local || k == .cell)))) && okE N sc FT (.lc elt x it c own) (.ListComp e gs scope lp)
  | .setd i k v x it c own, .Assign [.Name y py] (.DictComp ke ve gs scope lp) p => (locN N sc i y && ((py.line == lp.line) && !(scope.names.any fun (n, k) => n == y && (k == .local || k == .cell)))) && okE N sc FT (.dc k v x it c own) (.DictComp ke ve gs scope lp)
  | .asg t e, .Assign [x] v p => ((swNo sc x v && swpNone sc x v) && notStar x) && (okTg N sc FT t x && okE N sc FT e v)
  | .fld o f e, .Assign [.Attribute x y p'] v p => decide (y = so f) && (okE N sc FT o x && okE N sc FT e v)
  | .par2 i j a b, .Assign [.Tuple [.Name x px, .Name y py] _ _] (.Tuple [ea, eb] _ _) p => ((locN N sc i x && locN N sc j y) && ((decide (py.line = px.line) && decide (x ≠ y)) && (notStar ea && notStar eb))) &&
      (((![ea, eb].all (foldedForSure 8)) && !([ea, eb].all (constantsAlone 8))) && (okE N sc FT a ea && okE N sc FT b eb))
  | .par3 i j l a b c, .Assign [.Tuple [.Name x px, .Name y py, .Name z pz] _ _] (.Tuple [ea, eb, ec] _ _) p => ((locN N sc i x && (locN N sc j y && locN N sc l z)) && (((decide (py.line = px.line) && decide (pz.line = px.line)) && (decide (x ≠ y) && (decide (x ≠ z) && decide (y ≠ z)))) && (notStar ea && (notStar eb && notStar ec)))) &&
      (((![ea, eb, ec].all (foldedForSure 8)) && !([ea, eb, ec].all (constantsAlone 8))) && (okE N sc FT a ea && (okE N sc FT b eb && okE N sc FT c ec)))
  | .aug i op e, .AugAssign (.Name x _) o v p => (decide (op = o) && (decide (N[i]? = some x) && (decide (sc.names.lookup x = some .local) || (decide (sc.names.lookup x = some .cell) && FT x)))) && okE N sc FT e v
  | .augF o f op e, .AugAssign (.Attribute x y _) o' v p => (decide (op = o') && decide (y = so f)) && (okE N sc FT o x && okE N sc FT e v)
  | .expr e, .Expr v p => notComp v && okE N sc FT e v
  | .ret e, .Return (some v) p => okE N sc FT e v
  | .retN, .Return none p => true
  | .ifS c t f, .If x a b p => okE N sc FT c x && (okSs N sc t a && okSs N sc f b)
  | .whileS c b, .While x body [] p => okE N sc FT c x && okSs N sc b body
  | .forS x it b, .For t i body [] p => (okI N sc FT it x t i && okTg N sc FT x t) && okSs N sc b body
  | .pass, .Pass _ => true
  | .cont, .Continue _ => true
  | .brk, .Break _ => true
  | .never, _ => true
  | _, _ => false
def okSs (N : List Str) (sc : Scope) : Ss → List Stmt → Bool
  | .nil, [] => true
  | .cons s ss, x :: xs => okS N sc s x && okSs N sc ss xs
  | _, _ => false
end
structure SOk (Γ : Gm) (ca : String → Addr) (xk : XW) (N : List Str) (sc : Scope) (X : Cx) : Prop where
  x : XOk Γ ca xk N sc FT X
  own : PassesOwn (model X.prog X.w) X.A X.env X.xe
  fk : X.env.scope.kind = .function
variable {Γ : Gm} {ca : String → Addr}
theorem loc_n {X : Cx} {xk : XW} {N : List Str} {sc : Scope} {i : Nat} {x : Str} (K : SOk Γ ca xk N sc X) (h : locN N sc i x = true) : X.N[i]? = some x ∧ X.env.scope.names.lookup x = some .local := by
  unfold locN at h
  rw [K.x.eN, K.x.eS]
  exact ⟨of_decide_eq_true (and1 h), of_decide_eq_true (and2 h)⟩
theorem ne_ix {X : Cx} {i j : Nat} {x y : Str} (h1 : X.N[i]? = some x) (h2 : X.N[j]? = some y) (h : x ≠ y) : i ≠ j := by
  rintro rfl; rw [h1] at h2; exact h (Option.some.inj h2)
theorem not_t {b : Bool} (h : (!b) = true) : b = false := by cases b <;> simp_all
theorem bk_fn {X : Cx} (h : X.env.scope.kind = .function) : X.env.blockKind = .function := by unfold Env.blockKind; rw [h]; rfl
theorem s_setl {X : Cx} {xk : XW} {N : List Str} {sc : Scope} {i : Nat} {elt : E} {x : Tg} {it : It} {c : Oe} {own : List (String × Nat)} {y : Str} {py lp p : Pos} {e : Expr} {gs : List Comprehension} {scope : Scope} (K : SOk Γ ca xk N sc X)
    (hn : locN N sc i y = true) (hl : (py.line == lp.line) = true) (ha : (scope.names.any fun (n, k) => n == y && (k == .local || k == .cell)) = false) (h : okE N sc FT (.lc elt x it c own) (.ListComp e gs scope lp) = true) :
    PS X (.Assign [.Name y py] (.ListComp e gs scope lp) p) (liftS X ca fun D g M => runE Γ (.lc elt x it c own) xk g M fun q M1 => D.nx (g.set i (some q)) M1) := by
  obtain ⟨n1, n2⟩ := loc_n K hn
  match gs, h, ha with
  | [⟨t, j, ifs, 0⟩], h, ha =>
    have h : ((((blkC N sc scope (own.map fun p => (so p.1, p.2)) && (tgSl x).all fun i => (own.map (·.2)).contains i) && (okI N sc FT it x t j && okTg N (relS scope sc) (blkF scope) x t)) && (okC N (relS scope sc) (blkF scope) c ifs && okE N (relS scope sc) (blkF scope) elt e))) = true := h
    have b := blkOk_by (and1 (and1 (and1 h)))
    have hsl : ∀ j ∈ tgSl x, j ∈ own.map (·.2) := fun j hj => by simpa using (List.all_eq_true.mp (and2 (and1 (and1 h)))) j hj
    have eo : (own.map fun p => (so p.1, p.2)).map (·.2) = own.map (·.2) := by rw [List.map_map]; rfl
    have z := ps_setLc (X := X) (te := liftE (gOf X ca) (runE Γ elt noX)) (tt := liftT (gOf X ca) (runC Γ c noX)) (g := liftG X ca x (runTg Γ x noX)) (wi := liftI X ca x (runI Γ it xk)) (py := py) (spos := p) (pos := lp) (elt := e) (own := own.map fun p => (so p.1, p.2)) K.x.calm K.x.nd n1 n2 (sw_true K.fk n2 hl ha) (sndI it (t := x) K.x (and1 (and2 (and1 h)))) (by rw [K.x.eN, K.x.eS]; exact b)
      (fun s H C cl fp => sndTg x K.x.blk (and2 (and2 (and1 h)))) (fun s H C cl fp => sndC c K.x.blk (and1 (and2 h))) (fun s H C cl fp => sndE elt K.x.blk (and2 (and2 h))) (okI_fset (and1 (and2 (and1 h))))
    rw [eo] at z
    refine ⟨fun pins s σ H D I hh => thn (z.run pins s σ H (unlD X D) I ?_) fun f s2 q => sp_unl q⟩
    obtain ⟨g, M, Da, rel, run, hk⟩ := hh
    exact lc_turns (Q := fun v H1 => D.nx (σ.set i (some v)) H1) hsl ⟨g, M, fun q M1 => Da.nx (g.set i (some q)) M1, rel, run, fun q M1 v H1 hM rq k q1 => hk.nx _ M1 _ H1 ⟨(rel.s.keep k).set i rq, hM⟩ k q1⟩
/-- name = {..} on one line, the name a local -/
theorem ps_setDc {X : Cx} {i : Nat} {y : Str} {py : Pos} {kx vx tg iter : Expr} {ifs : List Expr} {scope : Scope} {own : List (Str × Nat)} {pos spos : Pos} {wi : TI} {g : TG} {tt : TT} {tk tv : TE} (hc : X.calm = true) (hN : X.N.Nodup) (hy : X.N[i]? = some y) (hyl : X.env.scope.names.lookup y = some .local)
    (hsw : swapsWith (.DictComp kx vx [⟨tg, iter, ifs, 0⟩] scope pos) (some (.Name y py)) spos.line X.env = pure true) (hi : PI X tg iter wi) (ok : BlkOk X.N X.env.scope scope own)
    (hg : ∀ (s : Shared) (H : Hp) (C : Addr) (cl : List (Str × Addr)) (fp : List Addr), PG (X.blk s H scope (compEnvC scope cl C X.env) fp) tg g) (ht : ∀ (s : Shared) (H : Hp) (C : Addr) (cl : List (Str × Addr)) (fp : List Addr), PTs (X.blk s H scope (compEnvC scope cl C X.env) fp) ifs tt)
    (hk : ∀ (s : Shared) (H : Hp) (C : Addr) (cl : List (Str × Addr)) (fp : List Addr), PE (X.blk s H scope (compEnvC scope cl C X.env) fp) kx tk)
    (he : ∀ (s : Shared) (H : Hp) (C : Addr) (cl : List (Str × Addr)) (fp : List Addr), PE (X.blk s H scope (compEnvC scope cl C X.env) fp) vx tv) (hs : ∀ x, foldedSetIterable iter X.env x = pure x) :
    PS X (.Assign [.Name y py] (.DictComp kx vx [⟨tg, iter, ifs, 0⟩] scope pos) spos) (tAsg (tDc wi g tt tk tv (own.map (·.2))) (gName i)) := by
  refine ⟨fun pins s σ H D I h => ?_⟩
  rw [exec_Assign_Name_used _ _ _ _ hsw]
  refine wpAny_bind (wpAny_standAt (wpAny_bind ?_))
  have h : tDc wi g tt tk tv (own.map (·.2)) σ H (fun x H1 => gName i x σ H1 D.nx) := h
  refine wpAny_bind (thn (dc_core (Qf := fun _ s' => SP X pins D .next s') hc hN I hi ok hg ht hk he hs h fun L C s' m H' I' q hn f => ?_) fun _ s' hq => wpAny_pure (wpAny_pure hq))
  show wpAny _ _ (assign (.Name y py) X.env (.ref L)) _ _ _
  refine wpAny_assign_Name (store_ok2 (v := V.ref L) I' hN hy (.inl hyl) rfl (fun s2 I2 ⟨a, sb, ha⟩ => ?_) (.inr hyl))
  obtain ⟨f0, f1, f2, f3, f4, f5⟩ := f
  have haC : C ≠ a := by
    rcases ha with z | z
    · rw [z]; exact f1
    · exact fun e => f4 y a z e.symm
  refine ⟨m, hn.sameBut sb haC, fun h3 sb3 => ?_⟩
  exact ⟨_, H', I2.turned (t' := s2.toks) (fun b o hb e => (sb3.2 b hb).trans e) f0 f1 f3 f4 f5, q⟩
theorem swd_true {kx vx : Expr} {gs : List Comprehension} {scope : Scope} {pos py : Pos} {y : Str} {l : Nat} {env : Env} (hk : env.scope.kind = .function) (hy : env.scope.names.lookup y = some .local) (hl : (py.line == pos.line) = true)
    (ha : (scope.names.any fun (n, k) => n == y && (k == .local || k == .cell)) = false) : swapsWith (.DictComp kx vx gs scope pos) (some (.Name y py)) l env = pure true := by
  have ky : env.kindOf y = some .local := hy
  have hb : env.blockKind = .function := by unfold Env.blockKind; rw [hk]; rfl
  unfold swapsWith
  simp only [hb, ky, ha, Expr.pos, hl]
  rfl
def unlE (X : Cx) (D : Ends) : Ends := { D with nx := fun τ H2 => ∀ pins σ s, L2.Inv X pins σ H2 s → ∃ H3, L2.Inv X pins σ H3 s ∧ D.nx τ H3 }
theorem sp_unlE {X : Cx} {pins : List (Addr × Obj)} {D : Ends} {f : Flow} {s : Shared} (h : SP X pins (unlE X D) f s) : SP X pins D f s := by
  cases f with
  | next => obtain ⟨σ, H, I, c⟩ := h; obtain ⟨H3, I3, q⟩ := c _ _ _ I; exact ⟨σ, H3, I3, q⟩
  | brk => exact h
  | cont => exact h
  | ret u => exact h
theorem s_setd {X : Cx} {xk : XW} {N : List Str} {sc : Scope} {i : Nat} {ek ev : E} {x : Tg} {it : It} {c : Oe} {own : List (String × Nat)} {y : Str} {py lp p : Pos} {kx vx : Expr} {gs : List Comprehension} {scope : Scope} (K : SOk Γ ca xk N sc X)
    (hn : locN N sc i y = true) (hl : (py.line == lp.line) = true) (ha : (scope.names.any fun (n, k) => n == y && (k == .local || k == .cell)) = false) (h : okE N sc FT (.dc ek ev x it c own) (.DictComp kx vx gs scope lp) = true) :
    PS X (.Assign [.Name y py] (.DictComp kx vx gs scope lp) p) (liftS X ca fun D g M => runE Γ (.dc ek ev x it c own) xk g M fun q M1 => D.nx (g.set i (some q)) M1) := by
  obtain ⟨n1, n2⟩ := loc_n K hn
  match gs, h, ha with
  | [⟨t, j, ifs, 0⟩], h, ha =>
    have h : ((((blkC N sc scope (own.map fun p => (so p.1, p.2)) && (tgSl x).all fun i => (own.map (·.2)).contains i) && (okI N sc FT it x t j && okTg N (relS scope sc) (blkF scope) x t)) && okC N (relS scope sc) (blkF scope) c ifs) && (okE N (relS scope sc) (blkF scope) ek kx && okE N (relS scope sc) (blkF scope) ev vx)) = true := h
    have h0 := and1 (and1 h)
    have b := blkOk_by (and1 (and1 h0))
    have hsl : ∀ j ∈ tgSl x, j ∈ own.map (·.2) := fun j hj => by simpa using (List.all_eq_true.mp (and2 (and1 h0))) j hj
    have eo : (own.map fun p => (so p.1, p.2)).map (·.2) = own.map (·.2) := by rw [List.map_map]; rfl
    have z := ps_setDc (X := X) (tk := liftE (gOf X ca) (runE Γ ek noX)) (tv := liftE (gOf X ca) (runE Γ ev noX)) (tt := liftT (gOf X ca) (runC Γ c noX)) (g := liftG X ca x (runTg Γ x noX)) (wi := liftI X ca x (runI Γ it xk)) (py := py) (spos := p) (pos := lp) (kx := kx) (vx := vx) (own := own.map fun p => (so p.1, p.2)) K.x.calm K.x.nd n1 n2 (swd_true K.fk n2 hl ha) (sndI it (t := x) K.x (and1 (and2 h0))) (by rw [K.x.eN, K.x.eS]; exact b)
      (fun s H C cl fp => sndTg x K.x.blk (and2 (and2 h0))) (fun s H C cl fp => sndC c K.x.blk (and2 (and1 h))) (fun s H C cl fp => sndE ek K.x.blk (and1 (and2 h))) (fun s H C cl fp => sndE ev K.x.blk (and2 (and2 h))) (okI_fset (and1 (and2 h0)))
    rw [eo] at z
    refine ⟨fun pins s σ H D I hh => thn (z.run pins s σ H (unlE X D) I ?_) fun f s2 q => sp_unlE q⟩
    obtain ⟨g, M, Da, rel, run, hk⟩ := hh
    exact dc_turns (Q := fun v H1 => D.nx (σ.set i (some v)) H1) hsl ⟨g, M, fun q M1 => Da.nx (g.set i (some q)) M1, rel, run, fun q M1 v H1 hM rq k q1 => hk.nx _ M1 _ H1 ⟨(rel.s.keep k).set i rq, hM⟩ k q1⟩
end Rx
end

section
set_option maxHeartbeats 4000000
/-! Rx: bodies are borne out (2). -/
namespace Rx
open PySem PySem.Spec PyProof.Rows L2
variable {Γ : Gm} {ca : String → Addr}
theorem okSetl {xk : XW} {N : List Str} {sc : Scope} {X : Cx} {i : Nat} {elt : E} {x : Tg} {it : It} {c : Oe} {own : List (String × Nat)} {y : Str} {py lp p : Pos} {e : Expr} {gs : List Comprehension} {scope : Scope} (K : SOk Γ ca xk N sc X)
    (h : okS N sc (.setl i elt x it c own) (.Assign [.Name y py] (.ListComp e gs scope lp) p) = true) : PS X (.Assign [.Name y py] (.ListComp e gs scope lp) p) (liftS X ca (runS Γ xk (.setl i elt x it c own))) := by
  have h : ((locN N sc i y && ((py.line == lp.line) && !(scope.names.any fun (n, k) => n == y && (k == .local || k == .cell)))) && okE N sc FT (.lc elt x it c own) (.ListComp e gs scope lp)) = true := h
  exact reS (s_setl K (and1 (and1 h)) (and1 (and2 (and1 h))) (not_t (and2 (and2 (and1 h)))) (and2 h)) fun _ _ _ h => h
theorem okSetd {xk : XW} {N : List Str} {sc : Scope} {X : Cx} {i : Nat} {ek ev : E} {x : Tg} {it : It} {c : Oe} {own : List (String × Nat)} {y : Str} {py lp p : Pos} {kx vx : Expr} {gs : List Comprehension} {scope : Scope} (K : SOk Γ ca xk N sc X)
    (h : okS N sc (.setd i ek ev x it c own) (.Assign [.Name y py] (.DictComp kx vx gs scope lp) p) = true) : PS X (.Assign [.Name y py] (.DictComp kx vx gs scope lp) p) (liftS X ca (runS Γ xk (.setd i ek ev x it c own))) := by
  have h : ((locN N sc i y && ((py.line == lp.line) && !(scope.names.any fun (n, k) => n == y && (k == .local || k == .cell)))) && okE N sc FT (.dc ek ev x it c own) (.DictComp kx vx gs scope lp)) = true := h
  exact reS (s_setd K (and1 (and1 h)) (and1 (and2 (and1 h))) (not_t (and2 (and2 (and1 h)))) (and2 h)) fun _ _ _ h => h
theorem okPar2 {xk : XW} {N : List Str} {sc : Scope} {X : Cx} {i j : Nat} {a b : E} {x y : Str} {px py pt pt2 p : Pos} {ea eb : Expr} {k1 k2 : Nat} (K : SOk Γ ca xk N sc X)
    (h : okS N sc (.par2 i j a b) (.Assign [.Tuple [.Name x px, .Name y py] k1 pt] (.Tuple [ea, eb] k2 pt2) p) = true) : PS X (.Assign [.Tuple [.Name x px, .Name y py] k1 pt] (.Tuple [ea, eb] k2 pt2) p) (liftS X ca (runS Γ xk (.par2 i j a b))) := by
  have h : (((locN N sc i x && locN N sc j y) && ((decide (py.line = px.line) && decide (x ≠ y)) && (notStar ea && notStar eb))) &&
    (((![ea, eb].all (foldedForSure 8)) && !([ea, eb].all (constantsAlone 8))) && (okE N sc FT a ea && okE N sc FT b eb))) = true := h
  have h1 := and1 h
  have h2 := and2 h
  obtain ⟨n1, n2⟩ := loc_n K (and1 (and1 h1))
  obtain ⟨m1, m2⟩ := loc_n K (and2 (and1 h1))
  have hne := of_decide_eq_true (and2 (and1 (and2 h1)))
  exact reS (s_par2 K.x.calm K.x.nd n1 m1 (ne_ix n1 m1 hne) n2 m2 (and1 (and2 (and2 h1))) (and2 (and2 (and2 h1))) (sndE a K.x (and1 (and2 h2))) (sndE b K.x (and2 (and2 h2)))
    (par2_ok (bk_fn K.fk) n2 m2 (of_decide_eq_true (and1 (and1 (and2 h1)))) hne (and1 (and2 (and2 h1))) (and2 (and2 (and2 h1))) (not_t (and1 (and1 h2))) (not_t (and2 (and1 h2))))) fun _ _ _ h => h
theorem okPar3 {xk : XW} {N : List Str} {sc : Scope} {X : Cx} {i j l : Nat} {a b c : E} {x y z : Str} {px py pz pt pt2 p : Pos} {ea eb ec : Expr} {k1 k2 : Nat} (K : SOk Γ ca xk N sc X)
    (h : okS N sc (.par3 i j l a b c) (.Assign [.Tuple [.Name x px, .Name y py, .Name z pz] k1 pt] (.Tuple [ea, eb, ec] k2 pt2) p) = true) : PS X (.Assign [.Tuple [.Name x px, .Name y py, .Name z pz] k1 pt] (.Tuple [ea, eb, ec] k2 pt2) p) (liftS X ca (runS Γ xk (.par3 i j l a b c))) := by
  have h : (((locN N sc i x && (locN N sc j y && locN N sc l z)) && (((decide (py.line = px.line) && decide (pz.line = px.line)) && (decide (x ≠ y) && (decide (x ≠ z) && decide (y ≠ z)))) && (notStar ea && (notStar eb && notStar ec)))) &&
    (((![ea, eb, ec].all (foldedForSure 8)) && !([ea, eb, ec].all (constantsAlone 8))) && (okE N sc FT a ea && (okE N sc FT b eb && okE N sc FT c ec)))) = true := h
  have h1 := and1 h
  have h2 := and2 h
  obtain ⟨n1, n2⟩ := loc_n K (and1 (and1 h1))
  obtain ⟨m1, m2⟩ := loc_n K (and1 (and2 (and1 h1)))
  obtain ⟨l1, l2⟩ := loc_n K (and2 (and2 (and1 h1)))
  have q := and1 (and2 h1)
  have s := and2 (and2 h1)
  have e1 := of_decide_eq_true (and1 (and2 q))
  have e2 := of_decide_eq_true (and1 (and2 (and2 q)))
  have e3 := of_decide_eq_true (and2 (and2 (and2 q)))
  exact reS (s_par3 K.x.calm K.x.nd n1 m1 l1 (ne_ix n1 m1 e1) (ne_ix n1 l1 e2) (ne_ix m1 l1 e3) n2 m2 l2 (and1 s) (and1 (and2 s)) (and2 (and2 s)) (sndE a K.x (and1 (and2 h2))) (sndE b K.x (and1 (and2 (and2 h2)))) (sndE c K.x (and2 (and2 (and2 h2))))
    (par3_ok (bk_fn K.fk) n2 m2 l2 (of_decide_eq_true (and1 (and1 q))) (of_decide_eq_true (and2 (and1 q))) e1 e2 e3 (and1 s) (and1 (and2 s)) (and2 (and2 s)) (not_t (and1 (and1 h2))) (not_t (and2 (and1 h2))))) fun _ _ _ h => h
mutual
theorem sndS : ∀ (s : S) ⦃xk : XW⦄ ⦃N : List Str⦄ ⦃sc : Scope⦄ ⦃X : Cx⦄ ⦃st : Stmt⦄, SOk Γ ca xk N sc X → okS N sc s st = true → PS X st (liftS X ca (runS Γ xk s))
  | .setl i elt x it c own => by
    intro xk N sc X st K h
    cases st with
    | Assign ts v p =>
     cases ts with
     | nil => cases h
     | cons tg r =>
      cases tg with
      | Name y py =>
       cases r with
       | cons => cases h
       | nil =>
        cases v with
        | ListComp e gs scope lp => exact okSetl K h
        | _ => cases h
      | _ => cases h
    | _ => cases h
  | .setd i ek ev x it c own => by
    intro xk N sc X st K h
    cases st with
    | Assign ts v p =>
     cases ts with
     | nil => cases h
     | cons tg r =>
      cases tg with
      | Name y py =>
       cases r with
       | cons => cases h
       | nil =>
        cases v with
        | DictComp ke ve gs scope lp => exact okSetd K h
        | _ => cases h
      | _ => cases h
    | _ => cases h
  | .asg t e => by
    intro xk N sc X st K h
    cases st with
    | Assign ts v p =>
     cases ts with
     | nil => cases h
     | cons x r =>
      cases r with
      | cons => cases h
      | nil =>
      have h : (((swNo sc x v && swpNone sc x v) && notStar x) && (okTg N sc FT t x && okE N sc FT e v)) = true := h
      exact reS (s_asg (sw_no K.x.eS (and1 (and1 (and1 h)))) (swp_none K.x.eS (and2 (and1 (and1 h)))) (and2 (and1 h)) (sndE e K.x (and2 (and2 h))) (sndTg t K.x (and1 (and2 h)))) fun _ _ _ h => h
    | _ => cases h
  | .fld o f e => by
    intro xk N sc X st K h
    cases st with
    | Assign ts v p =>
     cases ts with
     | nil => cases h
     | cons tg r =>
      cases tg with
      | Attribute x y p' =>
       cases r with
       | cons => cases h
       | nil =>
      have h : (decide (y = so f) && (okE N sc FT o x && okE N sc FT e v)) = true := h
      cases of_decide_eq_true (and1 h)
      exact reS (s_fld (sndE o K.x (and1 (and2 h))) (sndE e K.x (and2 (and2 h)))) fun _ _ _ h => h
      | _ => cases h
    | _ => cases h
  | .aug i op e => by
    intro xk N sc X st K h
    cases st with
    | AugAssign tg o v p =>
     cases tg with
     | Name x p' =>
      have h : ((decide (op = o) && (decide (N[i]? = some x) && (decide (sc.names.lookup x = some .local) || (decide (sc.names.lookup x = some .cell) && FT x)))) && okE N sc FT e v) = true := h
      cases of_decide_eq_true (and1 (and1 h))
      have z := loc_ok K.x.eS K.x.fn (and2 (and2 (and1 h)))
      exact reS (s_aug K.x.nd (by rw [K.x.eN]; exact of_decide_eq_true (and1 (and2 (and1 h)))) z.1 z.2 (sndE e K.x (and2 h))) fun _ _ _ h => h
     | _ => cases h
    | _ => cases h
  | .augF o f op e => by
    intro xk N sc X st K h
    cases st with
    | AugAssign tg o' v p =>
     cases tg with
     | Attribute x y p' =>
      have h : ((decide (op = o') && decide (y = so f)) && (okE N sc FT o x && okE N sc FT e v)) = true := h
      cases of_decide_eq_true (and1 (and1 h))
      cases of_decide_eq_true (and2 (and1 h))
      exact reS (s_augF (sndE o K.x (and1 (and2 h))) (sndE e K.x (and2 (and2 h)))) fun _ _ _ h => h
     | _ => cases h
    | _ => cases h
  | .expr e => by
    intro xk N sc X st K h
    cases st with
    | Expr v p =>
      have h : (notComp v && okE N sc FT e v) = true := h
      exact reS (s_expr (and1 h) (sndE e K.x (and2 h))) fun _ _ _ h => h
    | _ => cases h
  | .ret e => by
    intro xk N sc X st K h
    cases st with
    | Return v p =>
      cases v with
      | some v => exact reS (s_ret (sndE e K.x h)) fun _ _ _ h => h
      | none => cases h
    | _ => cases h
  | .retN => by
    intro xk N sc X st K h
    cases st with
    | Return v p =>
      cases v with
      | some v => cases h
      | none => exact reS s_retN fun _ _ _ h => h
    | _ => cases h
  | .ifS c t f => by
    intro xk N sc X st K h
    cases st with
    | If x a b p =>
      have h : (okE N sc FT c x && (okSs N sc t a && okSs N sc f b)) = true := h
      exact reS (s_if (sndT c K.x (and1 h)) (sndSs t K (and1 (and2 h))) (sndSs f K (and2 (and2 h)))) fun _ _ _ h => h
    | _ => cases h
  | .whileS c b => by
    intro xk N sc X st K h
    cases st with
    | While x body oe p =>
     cases oe with
     | cons => cases h
     | nil =>
      have h : (okE N sc FT c x && okSs N sc b body) = true := h
      exact reS (s_while K.own (sndT c K.x (and1 h)) (sndSs b K (and2 h))) fun _ _ _ h => h
    | _ => cases h
  | .forS x it b => by
    intro xk N sc X st K h
    cases st with
    | For t i body oe p =>
     cases oe with
     | cons => cases h
     | nil =>
      have h : ((okI N sc FT it x t i && okTg N sc FT x t) && okSs N sc b body) = true := h
      exact reS (s_for K.own K.x.calm (sndI it (t := x) K.x (and1 (and1 h))) (sndTg x K.x (and2 (and1 h))) (sndSs b K (and2 h)) (okI_fset (and1 (and1 h)))) fun _ _ _ h => h
    | _ => cases h
  | .pass => by
    intro xk N sc X st K h
    cases st with
    | Pass p => exact reS s_pass fun _ _ _ h => h
    | _ => cases h
  | .cont => by
    intro xk N sc X st K h
    cases st with
    | Continue p => exact reS s_cont fun _ _ _ h => h
    | _ => cases h
  | .brk => by
    intro xk N sc X st K h
    cases st with
    | Break p => exact reS s_brk fun _ _ _ h => h
    | _ => cases h
  | .never => by
    intro xk N sc X st K h
    exact reS s_never fun _ _ _ h => h
  | .raise c as => by
    intro xk N sc X st K h
    exact reS s_never fun _ _ _ h => h
  | .matchS e cs => by
    intro xk N sc X st K h
    cases st <;> cases h
  | .par2 i j a b => by
    intro xk N sc X st K h
    cases st with
    | Assign ts v p =>
     rcases ts with _ | ⟨tg, _ | ⟨_, _⟩⟩
     · cases h
     · cases tg with
       | Tuple xs k1 pt =>
         rcases xs with _ | ⟨x1, _ | ⟨x2, _ | ⟨_, _⟩⟩⟩
         · cases h
         · cases x1 <;> cases h
         · cases x1 with
           | Name x px =>
             cases x2 with
             | Name y py =>
               cases v with
               | Tuple vs k2 pt2 =>
                 rcases vs with _ | ⟨ea, _ | ⟨eb, _ | ⟨_, _⟩⟩⟩
                 · cases h
                 · cases h
                 · exact okPar2 K h
                 · cases h
               | _ => cases h
             | _ => cases h
           | _ => cases h
         · cases x1 <;> first | cases h | (cases x2 <;> cases h)
       | _ => cases h
     · cases tg <;> first
         | cases h
         | (rename_i xs _ _; rcases xs with _ | ⟨x1, _ | ⟨x2, _ | ⟨_, _⟩⟩⟩ <;> first
             | cases h
             | (cases x1 <;> first | cases h | (cases x2 <;> first | cases h | (cases v <;> first | cases h | skip))))
    | _ => cases h
  | .par3 i j l a b c => by
    intro xk N sc X st K h
    cases st with
    | Assign ts v p =>
     rcases ts with _ | ⟨tg, _ | ⟨_, _⟩⟩
     · cases h
     · cases tg with
       | Tuple xs k1 pt =>
         rcases xs with _ | ⟨x1, _ | ⟨x2, _ | ⟨x3, _ | ⟨_, _⟩⟩⟩⟩
         · cases h
         · cases x1 <;> cases h
         · cases x1 <;> first | cases h | (cases x2 <;> cases h)
         · cases x1 with
           | Name x px =>
             cases x2 with
             | Name y py =>
               cases x3 with
               | Name z pz =>
                 cases v with
                 | Tuple vs k2 pt2 =>
                   rcases vs with _ | ⟨ea, _ | ⟨eb, _ | ⟨ec, _ | ⟨_, _⟩⟩⟩⟩
                   · cases h
                   · cases h
                   · cases h
                   · exact okPar3 K h
                   · cases h
                 | _ => cases h
               | _ => cases h
             | _ => cases h
           | _ => cases h
         · cases x1 <;> first | cases h | (cases x2 <;> first | cases h | (cases x3 <;> cases h))
       | _ => cases h
     · cases tg <;> first
         | cases h
         | (rename_i xs _ _; rcases xs with _ | ⟨x1, _ | ⟨x2, _ | ⟨x3, _ | ⟨_, _⟩⟩⟩⟩ <;> first
             | cases h
             | (cases x1 <;> first | cases h | (cases x2 <;> first | cases h | (cases x3 <;> first | cases h | skip))))
    | _ => cases h
theorem sndSs : ∀ (s : Ss) ⦃xk : XW⦄ ⦃N : List Str⦄ ⦃sc : Scope⦄ ⦃X : Cx⦄ ⦃st : List Stmt⦄, SOk Γ ca xk N sc X → okSs N sc s st = true → PSs X st (liftS X ca (runSs Γ xk s))
  | .nil => by
    intro xk N sc X st K h
    cases st with
    | nil => exact reSs ss_nil fun _ _ _ h => h
    | cons => cases h
  | .cons s ss => by
    intro xk N sc X st K h
    cases st with
    | nil => cases h
    | cons x xs =>
      have h : (okS N sc s x && okSs N sc ss xs) = true := h
      exact reSs (ss_cons (sndS s K (and1 h)) (sndSs ss K (and2 h))) fun _ _ _ h => h
end
end Rx
end

section
set_option maxHeartbeats 4000000
/-! Rx: a def's body checked gives its promise. -/
namespace Rx
open PySem PySem.Spec PyProof.Rows L2
/-- what is known of the defs below -/
structure Lib (Γ : Gm) (ca : String → Addr) (P : Program) (w : World) (K : PySem.W.Frag) (mg : Str → Option Value) (base : Heap) (k : Nat) : Prop where
  fn : ∀ f n con, Γ.fn f = some (n, con) → ∃ j a fd ps, j ≤ k ∧ FnOk P w K mg base (L2.CX P w) j a fd ps (spOf ⟨w, ca, K⟩ n con) ∧ mg (so f) = some (.ref a) ∧ PySem.W.keepIn K (.ref a) = true ∧ Binds K fd ps []
  mkc : ∀ c n con, Γ.mkc c = some (n, con) → ∃ j a fd ps, j ≤ k ∧ FnOk P w K mg base (L2.CX P w) j a fd ps (spOf ⟨w, ca, K⟩ n con) ∧ Mk K (ca c) a ∧ mg (so c) = some (.ref (ca c)) ∧ Binds K fd ps [] ∧ ClsOk K (ca c) c
  mt : ∀ c m n con, Γ.mt c m = some (n, con) → ∃ j a fd ps, j ≤ k ∧ FnOk P w K mg base (L2.CX P w) j a fd ps (spOf ⟨w, ca, K⟩ n con) ∧ Meth K (ca c) (so m) a ∧ Binds K fd ps []
  pr : ∀ c f n con, Γ.pr c f = some (n, con) → ∃ j p a fd ps, j ≤ k ∧ FnOk P w K mg base (L2.CX P w) j a fd ps (spOf ⟨w, ca, K⟩ n con) ∧ PropOf K (ca c) (so f) p a ∧ Binds K fd ps []
  co : ∀ x p, Γ.co x = some p → ∃ u v, mg (so x) = some u ∧ RelV v u ∧ ∀ H, Rep K H p v
  bi : ∀ f ∈ biNames, mg (so f) = none
  cl : ∀ c, Γ.cl.contains c = true → OwnCls K mg (ca c) c ∧ ∀ d, Γ.cl.contains d = true → PySem.W.kitOne K (.ref (ca d)) (.ref (ca c)) = some (decide (d = c))
section
variable {Γ : Gm} {ca : String → Addr} {P : Program} {w : World} {K : PySem.W.Frag} {mg : Str → Option Value} {base : Heap} {k : Nat}
theorem start_rep {K : PySem.W.Frag} {H : Hp} : ∀ {as : List PV} {vs : List V} (n : Nat), Reps K H as vs → SRep K H (vs.map some ++ List.replicate n none) (as.map some ++ List.replicate n none) := fun {as vs} n r => by
  refine ⟨by simp [r.length], fun i p e => ?_⟩
  by_cases hl : i < as.length
  · rw [List.getElem?_append_left (by simpa using hl), List.getElem?_map] at e
    cases q : as[i]? with
    | none => rw [q] at e; cases e
    | some x =>
      rw [q] at e
      have e2 : x = p := by simpa using e
      subst e2
      obtain ⟨v, h1, h2⟩ := r.get q
      refine ⟨v, ?_, h2⟩
      rw [List.getElem?_append_left (by rw [List.length_map, ← r.length]; exact hl), List.getElem?_map, h1]; rfl
  · rw [List.getElem?_append_right (by simpa using Nat.le_of_not_lt hl), List.getElem?_replicate] at e
    split at e <;> cases e
theorem def_ok (L : Lib Γ ca P w K mg base k) {x qual : Str} {params : Arguments} {body : List Stmt} {scope : Scope} {f : Addr} {fd : FuncData} {N ps : List Str} {ss : Ss} {con : Con}
    (F : FunD K x qual params body scope [] [] f fd) (S : FnScope N ps scope) (hok : okSs N scope ss body = true)
    (run : ∀ as M Qa Ea, con as M Qa Ea → as.length = ps.length → runSs Γ (fun x _ M => Ea x M) ss { nx := fun _ M => Qa .non M, rt := Qa } (as.map some ++ List.replicate (N.length - as.length) none) M) :
    FnOk P w K mg base (L2.CX P w) (k + 2) f fd ps (spOf ⟨w, ca, K⟩ ps.length con) := by
  refine F.ok S (fun vs H Q E h => h.1) fun cdv A outer s H vs Q E hr h => ?_
  obtain ⟨hlen, as, M, Qa, Ea, hM, hrep, hcon, hQ, hE⟩ := h
  let X := cxOf (L2.CX P w) P w K mg base N qual scope f cdv A outer s H E
  have tk0 : Takes X (fun cls d _ H => E cls d H) := takes_of rfl rfl rfl rfl
  have kp : ∀ {pins : List (Addr × Obj)} {σ : L2.St} {H' : Hp} {s' : Shared}, L2.Inv X pins σ H' s' → Keep H H' := fun I => ⟨I.base.tups, I.base.frzs⟩
  have tk : Takes X (Wish (gOf X ca) (fun x _ M => Ea x M)) := fun u s' ⟨a, B, sI, pins, σ, H1, cls, d, e, I, nb, up, sky, na, os, ag, z⟩ => by
    obtain ⟨xv, g, M1, h1, h2, h3⟩ := z
    exact tk0 u s' ⟨a, B, sI, pins, σ, H1, cls, d, e, I, nb, up, sky, na, os, ag, hE xv M1 cls d H1 h1.h h2 (kp I) h3⟩
  have kn : Kn Γ ca X := by
    refine ⟨fun f n con h => ?_, fun c n con h => ?_, fun c m n con h => ?_, fun c f n con h => ?_, L.co, L.bi, L.cl, ?_⟩
    · obtain ⟨j, a, fd, ps, hj, h1, h2⟩ := L.fn f n con h
      exact ⟨j, a, fd, ps, h1, hr.mono (by omega), h2⟩
    · obtain ⟨j, a, fd, ps, hj, h1, h2⟩ := L.mkc c n con h
      exact ⟨j, a, fd, ps, h1, hr.mono (by omega), h2⟩
    · obtain ⟨j, a, fd, ps, hj, h1, h2⟩ := L.mt c m n con h
      exact ⟨j, a, fd, ps, h1, hr.mono (by omega), h2⟩
    · obtain ⟨j, p, a, fd, ps, hj, h1, h2⟩ := L.pr c f n con h
      exact ⟨j, p, a, fd, ps, h1, hr.mono (by omega), h2⟩
    · have := hr.un
      show X.A.units + 65 < cLine
      show (A.deeper _).units + 65 < cLine
      omega
  have xok : XOk Γ ca (fun x _ M => Ea x M) N scope FT X := ⟨kn, rfl, S.nd, rfl, rfl, fun _ _ => rfl, tk⟩
  have sok : SOk Γ ca (fun x _ M => Ea x M) N scope X := ⟨xok, passes_of rfl, S.kind⟩
  refine ⟨_, sndSs ss sok hok, ?_⟩
  have hlas : as.length = ps.length := hrep.length.trans hlen
  have e : L2.start N vs = vs.map some ++ List.replicate (N.length - as.length) none := by unfold L2.start; rw [hrep.length]
  refine ⟨as.map some ++ List.replicate (N.length - as.length) none, M, { nx := fun _ M => Qa .non M, rt := Qa }, ⟨?_, hM⟩, run as M Qa Ea hcon hlas, ?_⟩
  · rw [e]; exact start_rep _ hrep
  · exact { nx := fun g M' σ' H' rel kk q => hQ .non M' .non H' rel.h .non kk q, rt := fun p M' v H' hM' rp kk q => hQ p M' v H' hM' rp kk q, bk := fun _ _ _ _ _ _ q => q, ct := fun _ _ _ _ _ _ q => q }
end
end Rx
end

section
set_option maxHeartbeats 4000000
/-! Rx: what a head tells: constants, classes. -/
namespace Rx
open PySem PySem.Spec PyProof.Rows L2 He
def strsB : List String → List Value → Bool
  | [], [] => true
  | s :: ss, .str x _ :: vs => decide (so s = x) && strsB ss vs
  | _, _ => false
/-- a written tuple of texts -/
def tupSB (K : PySem.W.Frag) (ss : List String) (v : Value) : Bool := match v with
  | .ref a => (match K.lookup a with
    | some ⟨.type c, none, .seq its _, _⟩ => decide (c = "tuple") && (decide (its.size ≤ sizeLine) && strsB ss its.toList)
    | _ => false)
  | _ => false
def kdsB (K : PySem.W.Frag) : List (String × List String) → List DictEntry → Bool
  | [], [] => true
  | (k, ss) :: r, ⟨_, .str x _, v⟩ :: es => decide (so k = x) && (tupSB K ss v && kdsB K r es)
  | _, _ => false
/-- a written dict of such -/
def kdB (K : PySem.W.Frag) (x : Str) (kvs : List (String × List String)) : Bool := match K.lookup (ga K x) with
  | some ⟨.type c, none, .dict es _, sl⟩ => decide (c = "dict") && (decide (sl.size = 0) && (decide (kvs.length ≤ 1000) && (!(ga K x == sysModules) && kdsB K kvs es.toList)))
  | _ => false
def tupB1 (K : PySem.W.Frag) (x : Str) (ss : List String) : Bool := tupSB K ss (.ref (ga K x))
theorem strsB_ok {K : PySem.W.Frag} {H : Hp} : ∀ {ss : List String} {vs : List Value}, strsB ss vs = true → ∃ us, Vals us vs ∧ Reps K H (ss.map .str) us
  | [], [], _ => ⟨[], .nil, .nil⟩
  | s :: ss, v :: vs, h => by
    cases v with
    | str x t =>
      have h : (decide (so s = x) && strsB ss vs) = true := h
      obtain ⟨us, h1, h2⟩ := strsB_ok (K := K) (H := H) (and2 h)
      have e := of_decide_eq_true (and1 h)
      exact ⟨.str (so s) :: us, .cons ⟨t, by rw [e]⟩ h1, .cons (.str s) h2⟩
    | _ => cases h
  | [], _ :: _, h => by cases h
  | _ :: _, [], h => by cases h
theorem tupSB_ok {K : PySem.W.Frag} {ss : List String} {v : Value} (h : tupSB K ss v = true) : ∃ a, v = .ref a ∧ ∀ H, Rep K H (.tup (ss.map .str)) (.ref a) := by
  cases v with
  | ref a =>
    refine ⟨a, rfl, fun H => ?_⟩
    unfold tupSB at h
    dsimp only at h
    cases q : K.lookup a with
    | none => rw [q] at h; cases h
    | some o =>
      obtain ⟨oc, od, dt, osl⟩ := o
      rw [q] at h
      cases oc with
      | type c =>
        cases od with
        | none =>
          cases dt with
          | seq its n =>
            have h : (decide (c = "tuple") && (decide (its.size ≤ sizeLine) && strsB ss its.toList)) = true := h
            obtain ⟨us, h1, h2⟩ := strsB_ok (K := K) (H := H) (and2 (and2 h))
            exact .tup (.inr ⟨_, its, n, q, congrArg Value.type (of_decide_eq_true (and1 h)), rfl, rfl, of_decide_eq_true (and1 (and2 h)), h1⟩) h2
          | _ => cases h
        | some a => cases dt <;> cases h
      | _ => cases od <;> cases dt <;> cases h
  | _ => cases h
theorem kdsB_ok {K : PySem.W.Frag} {H : Hp} : ∀ {kvs : List (String × List String)} {es : List DictEntry}, kdsB K kvs es = true → KdRep K H (kvs.map fun q => (q.1, .tup (q.2.map .str))) es
  | [], [], _ => .nil
  | (k, ss) :: r, ⟨hs, key, v⟩ :: es, h => by
    cases key with
    | str x t =>
      have h : (decide (so k = x) && (tupSB K ss v && kdsB K r es)) = true := h
      have e := of_decide_eq_true (and1 h)
      obtain ⟨a, e2, hr⟩ := tupSB_ok (and1 (and2 h))
      subst e2
      exact .cons (t := t) (u := .ref a) (by show Value.str x t = Value.str (so k) t; rw [e]) (hr H) rfl (kdsB_ok (and2 (and2 h)))
    | _ => cases h
  | [], _ :: _, h => by cases h
  | _ :: _, [], h => by cases h
theorem kdB_ok {K : PySem.W.Frag} {x : Str} {kvs : List (String × List String)} (h : kdB K x kvs = true) (H : Hp) : Rep K H (.kd (kvs.map fun q => (q.1, .tup (q.2.map .str)))) (.ref (ga K x)) := by
  unfold kdB at h
  cases q : K.lookup (ga K x) with
  | none => rw [q] at h; cases h
  | some o =>
    obtain ⟨oc, od, dt, osl⟩ := o
    rw [q] at h
    cases oc with
    | type c =>
      cases od with
      | none =>
        cases dt with
        | dict es n =>
          have h : (decide (c = "dict") && (decide (osl.size = 0) && (decide (kvs.length ≤ 1000) && (!(ga K x == sysModules) && kdsB K kvs es.toList)))) = true := h
          have h1 := and2 h
          have h2 := and2 h1
          have h3 := and2 h2
          refine .kd q ⟨congrArg Value.type (of_decide_eq_true (and1 h)), rfl, ?_⟩ rfl ⟨by rw [List.length_map]; exact of_decide_eq_true (and1 h2), by simpa using and1 h3⟩ (kdsB_ok (and2 h3))
          exact Array.eq_empty_of_size_eq_zero (of_decide_eq_true (and1 h1))
        | _ => cases h
      | some a => cases dt <;> cases h
    | _ => cases od <;> cases dt <;> cases h
def kinds7 : List String := ["NoneType", "bool", "int", "str", "tuple", "list", "dict"]
def ownB (K : PySem.W.Frag) (C : Addr) (all : List (String × Addr)) (c : String) : Bool :=
  PySem.W.plainGet K C "__class__" && (PySem.W.hasDictIn K C && (eqO (PySem.W.findIn K (.ref C) "__class__") (some (some (.builtin "object.__class__"))) &&
    (eqO (PySem.W.specialIn K (.builtin "object.__class__") "__get__") (some (some (.builtin "getset_descriptor.__get__"))) && (decide (PySem.W.takesIn K (.builtin "object.__class__") = some true) &&
      (decide (PySem.W.mroIn K C (.type "object") = some true) && ((kinds7.all fun t => decide (PySem.W.kitOne K (.type t) (.ref C) = some false)) &&
        (PySem.W.notFirst K C (.type "dict") && (PySem.W.notFirst K C (.type "list") && all.all fun d => decide (PySem.W.kitOne K (.ref d.2) (.ref C) = some (decide (d.1 = c)))))))))))
theorem ownB_ok {K : PySem.W.Frag} {C : Addr} {all : List (String × Addr)} {c : String} {mg : Str → Option Value} (hm : mg (so c) = some (.ref C)) (h : ownB K C all c = true) :
    OwnCls K mg C c ∧ ∀ d ∈ all, PySem.W.kitOne K (.ref d.2) (.ref C) = some (decide (d.1 = c)) := by
  unfold ownB at h
  have h1 := and2 h
  have h2 := and2 h1
  have h3 := and2 h2
  have h4 := and2 h3
  have h5 := and2 h4
  have h6 := and2 h5
  have h7 := and2 h6
  have h8 := and2 h7
  exact ⟨⟨hm, and1 h, and1 h1, eqO_ok (and1 h2), eqO_ok (and1 h3), of_decide_eq_true (and1 h4), of_decide_eq_true (and1 h5), fun t ht => of_decide_eq_true (List.all_eq_true.mp (and1 h6) t ht), and1 h7, and1 h8⟩, fun d hd => of_decide_eq_true (List.all_eq_true.mp (and2 h8) d hd)⟩
end Rx
end

section
set_option maxHeartbeats 4000000
/-! Rx: readings of loops and comprehensions, in plain Lean. -/
namespace Rx
open PySem L2
/-- a def's text does what its contract says -/
def Does (Γ : Gm) (N P : List Str) (S : Ss) (C : Con) : Prop := ∀ as M Qa Ea, C as M Qa Ea → as.length = P.length → runSs Γ (fun x _ M => Ea x M) S { nx := fun _ M => Qa .non M, rt := Qa } (as.map some ++ List.replicate (N.length - as.length) none) M
theorem sz6 : 1000000 ≤ sizeLine := sz_1000000
theorem Sub.put {Mb M : MM} {D : Addr} {o : MO} (h : Sub Mb M) (hD : Mb D = none) : Sub Mb (mput M D o) := fun a u e => by
  rw [mput_ne (fun z => by rw [z, hD] at e; cases e)]
  exact h a u e
theorem Sub.fresh {Mb M : MM} {D : Addr} (h : Sub Mb M) (hD : M D = none) : Mb D = none := by
  cases e : Mb D with
  | none => rfl
  | some o => rw [h D o e] at hD; cases hD
/-- a list comprehension whose turns only add to the store: f x the item, none if it is left out -/
theorem lcF_go {st : MM → Prop} {bind : PV → Sg → MM → (Sg → MM → Prop) → Prop} {g : Sg} {test : RT} {elt : RE} {D : Addr} {k : MM → Prop} {Mb : MM} {f : PV → Option PV} (hDb : Mb D = none) (hst : ∀ M', Sub Mb M' → st M') :
    ∀ {xs : List PV} {acc : List PV} {M : MM}, M D = some (.lst acc) → Sub Mb M → acc.length + xs.length ≤ 1000000 →
    (∀ x ∈ xs, ∀ M', Sub Mb M' → ∀ (Kt : PV → MM → Prop) (Kf : MM → Prop), (∀ y, f x = some y → ∀ M'', Sub M' M'' → Kt y M'') → (f x = none → ∀ M'', Sub M' M'' → Kf M'') →
      bind x g M' fun g2 M2 => test g2 M2 fun b M3 => if b = true then elt g2 M3 fun y M4 => Kt y M4 else Kf M3) →
    (∀ M', Sub Mb M' → M' D = some (.lst (acc ++ xs.filterMap f)) → k M') → lcF st bind g test elt D k xs acc M
  | [], acc, M, hD, hM, _, _, hk => ⟨hst M hM, hk M hM (by simpa using hD)⟩
  | x :: r, acc, M, hD, hM, hl, hs, hk => by
    have hl2 : acc.length + (r.length + 1) ≤ 1000000 := hl
    have h6 := sz6
    refine ⟨hst M hM, hs x List.mem_cons_self M hM (fun y M4 => M4 D = some (.lst acc) ∧ acc.length < sizeLine ∧ lcF st bind g test elt D k r (acc ++ [y]) (mput M4 D (.lst (acc ++ [y])))) (fun M3 => M3 D = some (.lst acc) ∧ lcF st bind g test elt D k r acc M3) (fun y hy M4 s4 => ?_) (fun hy M3 s3 => ?_)⟩
    · refine ⟨s4 _ _ hD, by omega, lcF_go hDb hst mput_same ((hM.trans s4).put hDb) (by simp; omega) (fun z hz => hs z (List.mem_cons_of_mem _ hz)) fun M' h1 h2 => hk M' h1 ?_⟩
      rw [h2, List.filterMap_cons, hy]; simp
    · refine ⟨s3 _ _ hD, lcF_go hDb hst (s3 _ _ hD) (hM.trans s3) (by omega) (fun z hz => hs z (List.mem_cons_of_mem _ hz)) fun M' h1 h2 => hk M' h1 ?_⟩
      rw [h2, List.filterMap_cons, hy]
/-- the same where every turn gives an item -/
theorem lcF_map {st : MM → Prop} {bind : PV → Sg → MM → (Sg → MM → Prop) → Prop} {g : Sg} {test : RT} {elt : RE} {D : Addr} {k : MM → Prop} {Mb : MM} {f : PV → PV} {xs : List PV} {M : MM} (hDb : Mb D = none) (hst : ∀ M', Sub Mb M' → st M')
    (hD : M D = some (.lst [])) (hM : Sub Mb M) (hl : xs.length ≤ 1000000)
    (hs : ∀ x ∈ xs, ∀ M', Sub Mb M' → ∀ (Kt : PV → MM → Prop) (Kf : MM → Prop), (∀ M'', Sub M' M'' → Kt (f x) M'') →
      bind x g M' fun g2 M2 => test g2 M2 fun b M3 => if b = true then elt g2 M3 fun y M4 => Kt y M4 else Kf M3)
    (hk : ∀ M', Sub Mb M' → M' D = some (.lst (xs.map f)) → k M') : lcF st bind g test elt D k xs [] M :=
  lcF_go (f := fun x => some (f x)) hDb hst hD hM (by simpa using hl) (fun x hx M' h1 Kt Kf h2 h3 => hs x hx M' h1 Kt Kf (h2 _ rfl)) fun M' h1 h2 => hk M' h1 (by rw [h2, List.filterMap_eq_map']; simp)
theorem blsOf_map : ∀ bs : List Bool, blsOf (bs.map .bl) = some bs
  | [] => rfl
  | b :: bs => by simp [blsOf, blsOf_map bs]
theorem strsOf_map : ∀ bs : List String, strsOf (bs.map .str) = some bs
  | [] => rfl
  | b :: bs => by simp [strsOf, strsOf_map bs]
theorem sMem_str (x : String) : ∀ ss : List String, sMem (.str x) (ss.map .str) = some (ss.contains x)
  | [] => rfl
  | s :: ss => by
    rw [List.map_cons]
    have e : sMem (.str x) (.str s :: ss.map .str) = match sEq (.str s) (.str x), sMem (.str x) (ss.map .str) with
      | some b, some c => some (b || c)
      | _, _ => none := rfl
    rw [e, sMem_str x ss]
    show some (decide (s = x) || ss.contains x) = some ((s :: ss).contains x)
    rw [List.contains_cons]
    have : decide (s = x) = (x == s) := by
      by_cases h : s = x
      · subst h; rw [decide_eq_true rfl, beq_self_eq_true]
      · rw [decide_eq_false h, beq_eq_false_iff_ne.mpr (Ne.symm h)]
    rw [this]
theorem keyEq_str (a b : String) : keyEq (.str a) (.str b) = decide (a = b) := by
  have e : keyEq (.str a) (.str b) = decide ((NestedKey.text (Str.ofString a)) = NestedKey.text (Str.ofString b)) := rfl
  rw [e]
  by_cases h : a = b
  · subst h; rw [decide_eq_true rfl, decide_eq_true rfl]
  · rw [decide_eq_false h, decide_eq_false]
    intro z
    injection z with z
    exact h (so_inj z)
theorem dGet_str {a b : String} {v : PV} {r : List (PV × PV)} : dGet ((.str a, v) :: r) (.str b) = if a = b then some v else dGet r (.str b) := by
  show (if keyEq (.str a) (.str b) = true then some v else dGet r (.str b)) = _
  rw [keyEq_str]
  by_cases h : a = b
  · rw [if_pos h, decide_eq_true h, if_pos rfl]
  · rw [if_neg h, decide_eq_false h, if_neg Bool.false_ne_true]
theorem dGet_nil {b : PV} : dGet [] b = none := rfl
theorem dPut_nil {k v : PV} : dPut [] k v = [(k, v)] := rfl
theorem dPut_str {a b : String} {v u : PV} {r : List (PV × PV)} : dPut ((.str a, v) :: r) (.str b) u = if a = b then (.str a, u) :: r else (.str a, v) :: dPut r (.str b) u := by
  show (if keyEq (.str a) (.str b) = true then (.str a, u) :: r else (.str a, v) :: dPut r (.str b) u) = _
  rw [keyEq_str]
  by_cases h : a = b
  · rw [if_pos h, decide_eq_true h, if_pos rfl]
  · rw [if_neg h, decide_eq_false h, if_neg Bool.false_ne_true]
theorem keyOk_str (a : String) : keyOk (.str a) = true := rfl
/-- a dict comprehension whose turns only add to the store -/
theorem dcF_go {st : MM → Prop} {bind : PV → Sg → MM → (Sg → MM → Prop) → Prop} {g : Sg} {test : RT} {ek ev : RE} {D : Addr} {k : List (PV × PV) → MM → Prop} {Mb : MM} {f : PV → PV × PV} (hDb : Mb D = none) (hst : ∀ M', Sub Mb M' → st M') :
    ∀ {xs : List PV} {acc : List (PV × PV)} {M : MM}, M D = some (.kdc acc) → Sub Mb M → acc.length + xs.length ≤ 900 → (∀ x ∈ xs, simK (f x).1 = true) →
    (∀ x ∈ xs, ∀ M', Sub Mb M' → ∀ (Kt : PV → PV → MM → Prop) (Kf : MM → Prop), (∀ M'', Sub M' M'' → Kt (f x).1 (f x).2 M'') →
      bind x g M' fun g2 M2 => test g2 M2 fun b M3 => if b = true then ek g2 M3 fun y M4 => ev g2 M4 fun z M5 => Kt y z M5 else Kf M3) →
    (∀ M', Sub Mb M' → M' D = some (.kdc (xs.foldl (fun a x => dPut a (f x).1 (f x).2) acc)) → k (xs.foldl (fun a x => dPut a (f x).1 (f x).2) acc) M') → dcF st bind g test ek ev D k xs acc M
  | [], acc, M, hD, hM, _, _, _, hk => ⟨hst M hM, hk M hM hD⟩
  | x :: r, acc, M, hD, hM, hl, hsm, hs, hk => by
    have hl2 : acc.length + (r.length + 1) ≤ 900 := hl
    refine ⟨hst M hM, hs x List.mem_cons_self M hM (fun y z M5 => simK y = true ∧ acc.length < 1000 ∧ M5 D = some (.kdc acc) ∧ dcF st bind g test ek ev D k r (dPut acc y z) (mput M5 D (.kdc (dPut acc y z)))) (fun M3 => M3 D = some (.kdc acc) ∧ dcF st bind g test ek ev D k r acc M3) fun M5 s5 => ?_⟩
    have := dPut_length (y := (f x).1) (z := (f x).2) acc
    exact ⟨hsm x List.mem_cons_self, by omega, s5 _ _ hD, dcF_go hDb hst mput_same ((hM.trans s5).put hDb) (by omega) (fun z hz => hsm z (List.mem_cons_of_mem _ hz)) (fun z hz => hs z (List.mem_cons_of_mem _ hz)) hk⟩
theorem put_strs {h : String → PV} : ∀ (ss : List String) (acc : List String), (acc ++ ss).Nodup → (ss.map PV.str).foldl (fun a x => dPut a x (match x with | .str s => h s | _ => .non)) (acc.map fun s => (PV.str s, h s)) = (acc ++ ss).map fun s => (PV.str s, h s)
  | [], acc, _ => by simp
  | s :: r, acc, nd => by
    rw [List.map_cons, List.foldl_cons]
    have e : ∀ acc : List String, s ∉ acc → dPut (acc.map fun s => (PV.str s, h s)) (.str s) (h s) = (acc ++ [s]).map fun s => (PV.str s, h s) := by
      intro acc
      induction acc with
      | nil => intro _; rfl
      | cons a t ih =>
        intro hn
        rw [List.mem_cons, not_or] at hn
        rw [List.map_cons, dPut_str, if_neg (Ne.symm hn.1), ih hn.2]
        rfl
    have hn : s ∉ acc := fun hm => by
      have := (List.nodup_append.mp nd).2.2 s hm s List.mem_cons_self
      exact this rfl
    rw [e acc hn, put_strs r (acc ++ [s]) (by rw [List.append_assoc]; exact nd), List.append_assoc]
    rfl
/-- a for, by an invariant -/
theorem forF_inv {st : MM → Prop} {un : MM → MM} {bind : PV → Sg → MM → (Sg → MM → Prop) → Prop} {body : DD → Sg → MM → Prop} {D : DD} (W : List PV → Sg → MM → Prop)
    (hst : ∀ xs g M, W xs g M → st M) (hend : ∀ g M, W [] g M → D.nx g (un M))
    (hstep : ∀ x xs g M, W (x :: xs) g M → ∀ Dn : DD, (∀ g M, W xs g M → Dn.nx g M) → (∀ g M, W xs g M → Dn.ct g M) → (∀ g M, D.nx g (un M) → Dn.bk g M) → (∀ v M, D.rt v (un M) → Dn.rt v M) → bind x g M fun g2 M2 => body Dn g2 M2) :
    ∀ {xs : List PV} {g : Sg} {M : MM}, W xs g M → forF st un bind body D xs g M
  | [], g, M, h => ⟨hst _ g M h, hend g M h⟩
  | x :: xs, g, M, h => ⟨hst _ g M h, hstep x xs g M h _ (fun g M w => ⟨g, M, SSub.refl g, Sub.refl M, forF_inv W hst hend hstep w⟩) (fun g M w => ⟨g, M, SSub.refl g, Sub.refl M, forF_inv W hst hend hstep w⟩) (fun g M q => q) fun v M q => q⟩
theorem strOk_so (s : String) : PyData.strOk (so s) = true := by
  show (Str.ofString s).cps.all (· < 0x110000) = true
  rw [Str.ofString_eq_toList, Array.all_eq_true']
  intro x hx
  have hx : x ∈ s.toList.map Char.toNat := by simpa using hx
  obtain ⟨c, _, rfl⟩ := List.mem_map.mp hx
  have := c.valid
  have h : c.toNat < 0x110000 := by
    rcases this with h | h
    · exact Nat.lt_trans (show c.toNat < 0xd800 from h) (by decide)
    · exact h.2
  exact decide_eq_true h
theorem canAll_strs : ∀ ss : List String, PyData.canLayAll0 (ss.map fun s => PyData.str (so s)) = true
  | [] => by simp [PyData.canLayAll0]
  | s :: ss => by simp [PyData.canLayAll0, PyData.canLay0, canAll_strs ss, strOk_so s]
theorem depthAll_strs : ∀ ss : List String, PyData.depthAll (ss.map fun s => PyData.str (so s)) ≤ 1
  | [] => by simp [PyData.depthAll]
  | s :: ss => by
    have := depthAll_strs ss
    simp only [List.map_cons, PyData.depthAll, PyData.depth]
    omega
theorem shaped_strs (ss : List String) : SeqAt.shaped (.tuple (ss.map fun s => PyData.str (so s))) = true := by
  have h1 := depthAll_strs ss
  have h2 : PyData.depth (.tuple (ss.map fun s => PyData.str (so s))) ≤ 64 := by simp only [PyData.depth]; omega
  show (PyData.canLay0 (.tuple (ss.map fun s => PyData.str (so s))) && decide (PyData.depth (.tuple (ss.map fun s => PyData.str (so s))) ≤ 64)) = true
  rw [Bool.and_eq_true]
  exact ⟨by simp only [PyData.canLay0]; exact canAll_strs ss, decide_eq_true h2⟩
theorem eqvAll_strs : ∀ xs ys : List String, PyData.eqvAll (xs.map fun s => PyData.str (so s)) (ys.map fun s => PyData.str (so s)) = decide (xs = ys)
  | [], [] => by simp [PyData.eqvAll]
  | [], _ :: _ => by simp [PyData.eqvAll]
  | _ :: _, [] => by simp [PyData.eqvAll]
  | x :: xs, y :: ys => by
    simp only [List.map_cons, PyData.eqvAll, PyData.eqv, eqvAll_strs xs ys, so_beq]
    by_cases h : x = y <;> simp [h]
theorem deep_strs (M : MM) : ∀ ss : List String, DeepAll M (ss.map PV.str) (ss.map fun s => PyData.str (so s))
  | [] => .nil
  | s :: ss => .cons (.str s) (deep_strs M ss)
theorem eqA_strs {M : MM} {xs ys : List String} {Q : Bool → Prop} (h : Q (decide (xs = ys))) : eqA (.tup (xs.map .str)) (.tup (ys.map .str)) M Q := by
  show (∃ d e, Deep M (.tup (xs.map .str)) d ∧ Deep M (.tup (ys.map .str)) e ∧ SeqAt.shaped d = true ∧ SeqAt.shaped e = true ∧ Q (PyData.eqv d e)) ∨ _
  refine .inl ⟨_, _, .tup (deep_strs M xs), .tup (deep_strs M ys), shaped_strs xs, shaped_strs ys, ?_⟩
  simp only [PyData.eqv, eqvAll_strs]
  exact h
/-- all but one thing stays -/
def Rest (M M' : MM) (a : Addr) : Prop := ∀ x o, x ≠ a → M x = some o → M' x = some o
theorem Rest.refl (M : MM) (a : Addr) : Rest M M a := fun _ _ _ h => h
theorem Rest.of_sub {M M' : MM} {a : Addr} (h : Sub M M') : Rest M M' a := fun x o _ e => h x o e
theorem Rest.sub {M M1 M2 : MM} {a : Addr} (h : Rest M M1 a) (s : Sub M1 M2) : Rest M M2 a := fun x o n e => s x o (h x o n e)
theorem Rest.trans {M M1 M2 : MM} {a : Addr} (h : Rest M M1 a) (s : Rest M1 M2 a) : Rest M M2 a := fun x o n e => s x o n (h x o n e)
theorem Rest.put {M M1 : MM} {a : Addr} {o : MO} (h : Rest M M1 a) : Rest M (mput M1 a o) a := fun x u n e => by rw [mput_ne n]; exact h x u n e
theorem Rest.new {M M1 : MM} {a p : Addr} {o : MO} (h : Rest M M1 a) (e : M1 p = none) : Rest M (mput M1 p o) a := h.sub (Sub.new e)
/-- a new thing of a store changed at another place -/
theorem Rest.to_sub {M M' : MM} {a : Addr} (h : Rest M M' a) (e : M a = none) : Sub M M' := fun x o q => h x o (fun z => by rw [z, e] at q; cases q) q
theorem cut_from {xs : List PV} {k : Nat} : cutP xs (some (k : Int)) none = xs.drop k := by
  unfold cutP
  rw [HT.sIx_nat]
  show (xs.drop (min k xs.length)).take (xs.length - min k xs.length) = _
  rcases Nat.le_total k xs.length with h | h
  · rw [Nat.min_eq_left h, List.take_of_length_le (by simp)]
  · rw [Nat.min_eq_right h, List.drop_length, List.drop_of_length_le h]; simp
theorem cut_to {xs : List PV} {k : Nat} : cutP xs none (some (k : Int)) = xs.take k := by
  unfold cutP
  rw [HT.sIx_nat]
  show (xs.drop 0).take (min k xs.length - 0) = _
  rw [List.drop_zero, Nat.sub_zero]
  rcases Nat.le_total k xs.length with h | h
  · rw [Nat.min_eq_left h]
  · rw [Nat.min_eq_right h, List.take_length, List.take_of_length_le h]
theorem lookup_put_same {f : String} {v : PV} : ∀ fs : List (String × PV), (putP f v fs).lookup f = some v
  | [] => by simp [putP]
  | (g, x) :: r => by
    unfold putP
    split
    · rename_i h; subst h; simp
    · rename_i h
      have h' : (f == g) = false := beq_eq_false_iff_ne.mpr (Ne.symm h)
      rw [List.lookup_cons, h']
      exact lookup_put_same r
inductive All2 (R : PV → PV → Prop) : List PV → List PV → Prop
  | nil : All2 R [] []
  | cons {x y : PV} {xs ys : List PV} : R x y → All2 R xs ys → All2 R (x :: xs) (y :: ys)
theorem All2.imp {R R' : PV → PV → Prop} (h : ∀ x y, R x y → R' x y) : ∀ {xs ys : List PV}, All2 R xs ys → All2 R' xs ys
  | _, _, .nil => .nil
  | _, _, .cons a b => .cons (h _ _ a) (b.imp h)
theorem All2.snoc {R : PV → PV → Prop} {x y : PV} (h : R x y) : ∀ {xs ys : List PV}, All2 R xs ys → All2 R (xs ++ [x]) (ys ++ [y])
  | _, _, .nil => .cons h .nil
  | _, _, .cons a b => .cons a (b.snoc h)
theorem All2.length {R : PV → PV → Prop} : ∀ {xs ys : List PV}, All2 R xs ys → xs.length = ys.length
  | _, _, .nil => rfl
  | _, _, .cons _ b => by simp [b.length]
/-- a list comprehension whose items are new things -/
theorem lcF_rel {st : MM → Prop} {bind : PV → Sg → MM → (Sg → MM → Prop) → Prop} {g : Sg} {test : RT} {elt : RE} {D : Addr} {k : MM → Prop} {Mb : MM} {R : MM → PV → PV → Prop} (hDb : Mb D = none) (hst : ∀ M', Sub Mb M' → st M')
    (mono : ∀ M M' x y, Rest M M' D → R M x y → R M' x y) :
    ∀ {xs pre : List PV} {acc : List PV} {M : MM}, M D = some (.lst acc) → Sub Mb M → acc.length + xs.length ≤ 1000000 → All2 (R M) pre acc →
    (∀ x ∈ xs, ∀ M' acc', Sub Mb M' → M' D = some (.lst acc') → ∀ (Kt : PV → MM → Prop) (Kf : MM → Prop), (∀ y M'', Sub M' M'' → R M'' x y → Kt y M'') →
      bind x g M' fun g2 M2 => test g2 M2 fun b M3 => if b = true then elt g2 M3 fun y M4 => Kt y M4 else Kf M3) →
    (∀ M' ys, Sub Mb M' → All2 (R M') (pre ++ xs) ys → M' D = some (.lst ys) → k M') → lcF st bind g test elt D k xs acc M
  | [], pre, acc, M, hD, hM, _, ha, _, hk => ⟨hst M hM, hk M acc hM (by simpa using ha) hD⟩
  | x :: r, pre, acc, M, hD, hM, hl, ha, hs, hk => by
    have hl2 : acc.length + (r.length + 1) ≤ 1000000 := hl
    have h6 := sz6
    refine ⟨hst M hM, hs x List.mem_cons_self M acc hM hD (fun y M4 => M4 D = some (.lst acc) ∧ acc.length < sizeLine ∧ lcF st bind g test elt D k r (acc ++ [y]) (mput M4 D (.lst (acc ++ [y])))) (fun M3 => M3 D = some (.lst acc) ∧ lcF st bind g test elt D k r acc M3) fun y M4 s4 hr => ?_⟩
    have rr : Rest M4 (mput M4 D (.lst (acc ++ [y]))) D := (Rest.refl M4 D).put
    refine ⟨s4 _ _ hD, by omega, lcF_rel (pre := pre ++ [x]) hDb hst mono mput_same ((hM.trans s4).put hDb) (by simp; omega) ?_ (fun z hz => hs z (List.mem_cons_of_mem _ hz)) fun M' ys h1 h2 h3 => hk M' ys h1 (by simpa using h2) h3⟩
    exact ((ha.imp fun a b q => mono _ _ a b ((Rest.of_sub s4).trans rr) q).snoc (mono _ _ _ _ rr hr))
theorem joinS_len (sep : String) {B : Nat} : ∀ {ss : List String}, (∀ s ∈ ss, s.length ≤ B) → (joinS sep ss).length ≤ ss.length * (B + sep.length)
  | [], _ => by simp [joinS]
  | [x], h => by
    have := h x List.mem_cons_self
    simp [joinS]; omega
  | x :: y :: r, h => by
    have h1 := h x List.mem_cons_self
    have ih := joinS_len sep (ss := y :: r) fun s hs => h s (List.mem_cons_of_mem _ hs)
    unfold joinS
    rw [String.length_append, String.length_append, List.length_cons, Nat.add_mul]
    omega
/-- comprehensions, by an invariant -/
theorem lcF_inv {st : MM → Prop} {bind : PV → Sg → MM → (Sg → MM → Prop) → Prop} {g : Sg} {test : RT} {elt : RE} {D : Addr} {k : MM → Prop} (W : List PV → List PV → MM → Prop) (hst : ∀ xs acc M, W xs acc M → st M) (hlen : ∀ xs acc M, W xs acc M → acc.length < 1000000) (hend : ∀ acc M, W [] acc M → k M)
    (hstep : ∀ x xs acc M, W (x :: xs) acc M → ∀ (Kt : PV → MM → Prop) (Kf : MM → Prop), (∀ y M4, M4 D = some (.lst acc) → W xs (acc ++ [y]) (mput M4 D (.lst (acc ++ [y]))) → Kt y M4) → (∀ M3, M3 D = some (.lst acc) → W xs acc M3 → Kf M3) →
      bind x g M fun g2 M2 => test g2 M2 fun b M3 => if b = true then elt g2 M3 fun y M4 => Kt y M4 else Kf M3) :
    ∀ {xs acc : List PV} {M : MM}, W xs acc M → lcF st bind g test elt D k xs acc M
  | [], acc, M, w => ⟨hst _ _ _ w, hend _ _ w⟩
  | x :: xs, acc, M, w => ⟨hst _ _ _ w, hstep x xs acc M w (fun y M4 => M4 D = some (.lst acc) ∧ acc.length < sizeLine ∧ lcF st bind g test elt D k xs (acc ++ [y]) (mput M4 D (.lst (acc ++ [y])))) (fun M3 => M3 D = some (.lst acc) ∧ lcF st bind g test elt D k xs acc M3)
      (fun y M4 h1 h2 => ⟨h1, Nat.lt_of_lt_of_le (hlen _ _ _ w) sz6, lcF_inv W hst hlen hend hstep h2⟩) fun M3 h1 h2 => ⟨h1, lcF_inv W hst hlen hend hstep h2⟩⟩
theorem dcF_inv {st : MM → Prop} {bind : PV → Sg → MM → (Sg → MM → Prop) → Prop} {g : Sg} {test : RT} {ek ev : RE} {D : Addr} {k : List (PV × PV) → MM → Prop} (W : List PV → List (PV × PV) → MM → Prop) (hst : ∀ xs acc M, W xs acc M → st M) (hlen : ∀ xs acc M, W xs acc M → acc.length < 1000) (hend : ∀ acc M, W [] acc M → k acc M)
    (hstep : ∀ x xs acc M, W (x :: xs) acc M → ∀ (Kt : PV → PV → MM → Prop) (Kf : MM → Prop), (∀ y z M5, simK y = true → M5 D = some (.kdc acc) → W xs (dPut acc y z) (mput M5 D (.kdc (dPut acc y z))) → Kt y z M5) →
      bind x g M fun g2 M2 => test g2 M2 fun b M3 => if b = true then ek g2 M3 fun y M4 => ev g2 M4 fun z M5 => Kt y z M5 else Kf M3) :
    ∀ {xs : List PV} {acc : List (PV × PV)} {M : MM}, W xs acc M → dcF st bind g test ek ev D k xs acc M
  | [], acc, M, w => ⟨hst _ _ _ w, hend _ _ w⟩
  | x :: xs, acc, M, w => ⟨hst _ _ _ w, hstep x xs acc M w (fun y z M5 => simK y = true ∧ acc.length < 1000 ∧ M5 D = some (.kdc acc) ∧ dcF st bind g test ek ev D k xs (dPut acc y z) (mput M5 D (.kdc (dPut acc y z)))) (fun M3 => M3 D = some (.kdc acc) ∧ dcF st bind g test ek ev D k xs acc M3)
      (fun y z M5 h0 h1 h2 => ⟨h0, hlen _ _ _ w, h1, dcF_inv W hst hlen hend hstep h2⟩)⟩
theorem atI_nat' {xs : List PV} {k : Nat} {x : PV} (h : xs[k]? = some x) : atI xs (k : Int) = some x := by
  have hl := (List.getElem?_eq_some_iff.mp h).1
  unfold atI ixN
  have e1 : ¬ ((k : Int) < 0) := by omega
  have e2 : (k : Int) < (xs.length : Int) := by omega
  simp [hl]
  exact (List.getElem?_eq_some_iff.mp h).2
end Rx
end

section
set_option maxHeartbeats 4000000
/-! Rx: the known defs grow one by one. -/
namespace Rx
open PySem PySem.Spec PyProof.Rows L2 He
def Gm.addF (Γ : Gm) (f : String) (n : Nat) (con : Con) : Gm := { Γ with fn := fun g => if g = f then some (n, con) else Γ.fn g }
def Gm.addC (Γ : Gm) (c : String) (n : Nat) (con : Con) : Gm := { Γ with mkc := fun g => if g = c then some (n, con) else Γ.mkc g }
def Gm.addM (Γ : Gm) (c m : String) (n : Nat) (con : Con) : Gm := { Γ with mt := fun d k => if d = c then (if k = m then some (n, con) else Γ.mt d k) else Γ.mt d k }
section
variable {Γ : Gm} {ca : String → Addr} {P : Program} {w : World} {K : PySem.W.Frag} {mg : Str → Option Value} {base : Heap} {k k' n : Nat} {con : Con} {a : Addr} {fd : FuncData} {ps : List Str}
theorem Lib.addF (L : Lib Γ ca P w K mg base k) {f : String} (hk : k ≤ k') (F : FnOk P w K mg base (L2.CX P w) k' a fd ps (spOf ⟨w, ca, K⟩ n con)) (hm : mg (so f) = some (.ref a)) (kp : PySem.W.keepIn K (.ref a) = true) (hb : Binds K fd ps []) : Lib (Γ.addF f n con) ca P w K mg base k' := by
  refine ⟨fun g n' con' h => ?_, fun c n' con' h => ?_, fun c m n' con' h => ?_, fun c f n' con' h => ?_, L.co, L.bi, L.cl⟩
  · have h : (if g = f then some (n, con) else Γ.fn g) = some (n', con') := h
    split at h
    · rename_i e
      cases h
      subst e
      exact ⟨k', a, fd, ps, Nat.le_refl _, F, hm, kp, hb⟩
    · obtain ⟨j, a, fd, ps, hj, r⟩ := L.fn g n' con' h
      exact ⟨j, a, fd, ps, Nat.le_trans hj hk, r⟩
  · obtain ⟨j, a, fd, ps, hj, r⟩ := L.mkc c n' con' h
    exact ⟨j, a, fd, ps, Nat.le_trans hj hk, r⟩
  · obtain ⟨j, a, fd, ps, hj, r⟩ := L.mt c m n' con' h
    exact ⟨j, a, fd, ps, Nat.le_trans hj hk, r⟩
  · obtain ⟨j, p, a, fd, ps, hj, r⟩ := L.pr c f n' con' h
    exact ⟨j, p, a, fd, ps, Nat.le_trans hj hk, r⟩
theorem Lib.addC (L : Lib Γ ca P w K mg base k) {c : String} (hk : k ≤ k') (F : FnOk P w K mg base (L2.CX P w) k' a fd ps (spOf ⟨w, ca, K⟩ n con)) (mk : Mk K (ca c) a) (hm : mg (so c) = some (.ref (ca c))) (hb : Binds K fd ps []) (cl : ClsOk K (ca c) c) : Lib (Γ.addC c n con) ca P w K mg base k' := by
  refine ⟨fun g n' con' h => ?_, fun d n' con' h => ?_, fun c m n' con' h => ?_, fun c f n' con' h => ?_, L.co, L.bi, L.cl⟩
  · obtain ⟨j, a, fd, ps, hj, r⟩ := L.fn g n' con' h
    exact ⟨j, a, fd, ps, Nat.le_trans hj hk, r⟩
  · have h : (if d = c then some (n, con) else Γ.mkc d) = some (n', con') := h
    split at h
    · rename_i e
      cases h
      subst e
      exact ⟨k', a, fd, ps, Nat.le_refl _, F, mk, hm, hb, cl⟩
    · obtain ⟨j, a, fd, ps, hj, r⟩ := L.mkc d n' con' h
      exact ⟨j, a, fd, ps, Nat.le_trans hj hk, r⟩
  · obtain ⟨j, a, fd, ps, hj, r⟩ := L.mt c m n' con' h
    exact ⟨j, a, fd, ps, Nat.le_trans hj hk, r⟩
  · obtain ⟨j, p, a, fd, ps, hj, r⟩ := L.pr c f n' con' h
    exact ⟨j, p, a, fd, ps, Nat.le_trans hj hk, r⟩
theorem Lib.addM (L : Lib Γ ca P w K mg base k) {c m : String} (hk : k ≤ k') (F : FnOk P w K mg base (L2.CX P w) k' a fd ps (spOf ⟨w, ca, K⟩ n con)) (mt : Meth K (ca c) (so m) a) (hb : Binds K fd ps []) : Lib (Γ.addM c m n con) ca P w K mg base k' := by
  refine ⟨fun g n' con' h => ?_, fun d n' con' h => ?_, fun d m' n' con' h => ?_, fun c f n' con' h => ?_, L.co, L.bi, L.cl⟩
  · obtain ⟨j, a, fd, ps, hj, r⟩ := L.fn g n' con' h
    exact ⟨j, a, fd, ps, Nat.le_trans hj hk, r⟩
  · obtain ⟨j, a, fd, ps, hj, r⟩ := L.mkc d n' con' h
    exact ⟨j, a, fd, ps, Nat.le_trans hj hk, r⟩
  · have h : (if d = c then (if m' = m then some (n, con) else Γ.mt d m') else Γ.mt d m') = some (n', con') := h
    split at h
    · rename_i e
      split at h
      · rename_i e2
        cases h
        subst e; subst e2
        exact ⟨k', a, fd, ps, Nat.le_refl _, F, mt, hb⟩
      · obtain ⟨j, a, fd, ps, hj, r⟩ := L.mt d m' n' con' h
        exact ⟨j, a, fd, ps, Nat.le_trans hj hk, r⟩
    · obtain ⟨j, a, fd, ps, hj, r⟩ := L.mt d m' n' con' h
      exact ⟨j, a, fd, ps, Nat.le_trans hj hk, r⟩
  · obtain ⟨j, p, a, fd, ps, hj, r⟩ := L.pr c f n' con' h
    exact ⟨j, p, a, fd, ps, Nat.le_trans hj hk, r⟩
theorem def_ok0 (L : Lib Γ ca P w K mg base k) {x qual : Str} {params : Arguments} {body : List Stmt} {scope : Scope} {f : Addr} {N : List Str} {ss : Ss}
    (F : FunD K x qual params body scope [] [] f fd) (S : FnScope N ps scope) (hok : okSs N scope ss body = true) (hE : ∀ as M Qa Ea Ea', con as M Qa Ea → con as M Qa Ea')
    (run : Does Γ N ps ss con) : FnOk P w K mg base CX0 (k + 2) f fd ps (spOf ⟨w, ca, K⟩ ps.length con) := by
  refine F.ok S (fun vs H Q E h => h.1) fun cdv A outer s H vs Q E hr h => ?_
  obtain ⟨hlen, as, M, Qa, Ea, hM, hrep, hcon, hQ, _⟩ := h
  let X := cxOf CX0 P w K mg base N qual scope f cdv A outer s H E
  have kn : Kn Γ ca X := by
    refine ⟨fun f n con h => ?_, fun c n con h => ?_, fun c m n con h => ?_, fun c f n con h => ?_, L.co, L.bi, L.cl, ?_⟩
    · obtain ⟨j, a, fd, ps, hj, h1, h2⟩ := L.fn f n con h
      exact ⟨j, a, fd, ps, h1, hr.mono (by omega), h2⟩
    · obtain ⟨j, a, fd, ps, hj, h1, h2⟩ := L.mkc c n con h
      exact ⟨j, a, fd, ps, h1, hr.mono (by omega), h2⟩
    · obtain ⟨j, a, fd, ps, hj, h1, h2⟩ := L.mt c m n con h
      exact ⟨j, a, fd, ps, h1, hr.mono (by omega), h2⟩
    · obtain ⟨j, p, a, fd, ps, hj, h1, h2⟩ := L.pr c f n con h
      exact ⟨j, p, a, fd, ps, h1, hr.mono (by omega), h2⟩
    · have := hr.un
      show (A.deeper _).units + 65 < cLine
      omega
  have xok : XOk Γ ca noX N scope FT X := ⟨kn, rfl, S.nd, rfl, rfl, fun _ _ => rfl, takes_no⟩
  have sok : SOk Γ ca noX N scope X := ⟨xok, passes_of rfl, S.kind⟩
  refine ⟨_, sndSs ss sok hok, ?_⟩
  have hlas : as.length = ps.length := hrep.length.trans hlen
  have e : L2.start N vs = vs.map some ++ List.replicate (N.length - as.length) none := by unfold L2.start; rw [hrep.length]
  refine ⟨as.map some ++ List.replicate (N.length - as.length) none, M, { nx := fun _ M => Qa .non M, rt := Qa }, ⟨?_, hM⟩, run as M Qa (fun _ _ => False) (hE _ _ _ _ _ hcon) hlas, ?_⟩
  · rw [e]; exact start_rep _ hrep
  · exact { nx := fun g M' σ' H' rel kk q => hQ .non M' .non H' rel.h .non kk q, rt := fun p M' v H' hM' rp kk q => hQ p M' v H' hM' rp kk q, bk := fun _ _ _ _ _ _ q => q, ct := fun _ _ _ _ _ _ q => q }
/-- the script -/
theorem xl_script {K : PySem.W.Frag} {H : Hp} {a : Addr} {ns : List Int} (ho : Only H) (h : SqL K H a (ns.map V.int)) : Rep K H (.xl (ns.map .int)) (.ref a) := by
  have reps : ∀ ns : List Int, Reps K H (ns.map .int) (ns.map V.int) := by
    intro ns
    induction ns with
    | nil => exact .nil
    | cons n r ih => exact .cons (.int n) ih
  refine .xl ?_ (reps ns)
  rcases h with (h | ⟨o, h⟩) | h
  · rcases ho a with e | ⟨o, xs, e⟩
    · rw [e] at h; cases h
    · rw [e] at h; cases h
  · exact .inl ⟨o, h⟩
  · exact .inr h
end
end Rx
end

section
set_option maxHeartbeats 4000000
/-! the law's defs as syntax, checked. -/
namespace Law
open PySem PySem.Spec PyProof.Rows L2 Rx
def top (i : Nat) : Stmt := PySem.Challenge.pw_dutieslent_k18_texts_there_and_back.main.body.getD i (.Pass ⟨0, 0, 0, 0⟩)
def mem (i j : Nat) : Stmt := match top i with
  | .ClassDef _ _ _ body _ _ _ _ _ _ _ => body.getD j (.Pass ⟨0, 0, 0, 0⟩)
  | _ => .Pass ⟨0, 0, 0, 0⟩
def N_is_integer : List Str := [so "value"]
def P_is_integer : List Str := [so "value"]

def S_is_integer : Ss := (.cons (.ret (.andE (.isi (.var 0) "int") (.one (.notE (.isi (.var 0) "bool")))))
    .nil)
def N_is_from : List Str := [so "value", so "low", so "high"]
def P_is_from : List Str := [so "value", so "low", so "high"]

def S_is_from : Ss := (.cons (.ret (.andE (.call "is_integer" (.cons (.var 0) .nil)) (.one (.chain .LtE .LtE (.var 1) (.var 0) (.var 2)))))
    .nil)
def N_is_name : List Str := [so "value", so "letter"]
def P_is_name : List Str := [so "value"]

def E1_is_name : E := (.cmp .In (.var 1) (.glo "LETTERS"))
def S_is_name : Ss := (.cons (.ifS (.orE (.notE (.tv (.isi (.var 0) "str"))) (.one (.notE (.chain .LtE .LtE (.int 1) (.bi "len" (.cons (.var 0) .nil)) (.glo "LONGEST"))))) (.cons (.ret (.bl false))
    .nil) .nil)
    (.cons (.ret (.bi "all" (.cons (.lc E1_is_name (.name 1) (.val (.var 0)) .none [("letter", 1)]) .nil)))
    .nil))
def N_is_one_of : List Str := [so "value", so "some"]
def P_is_one_of : List Str := [so "value", so "some"]

def S_is_one_of : Ss := (.cons (.ret (.andE (.isi (.var 0) "str") (.one (.cmp .In (.var 0) (.var 1)))))
    .nil)
def N_are_people : List Str := [so "value", so "name"]
def P_are_people : List Str := [so "value"]

def E1_are_people : E := (.call "is_name" (.cons (.var 1) .nil))
def S_are_people : Ss := (.cons (.ifS (.orE (.notE (.tv (.isi (.var 0) "tuple"))) (.orE (.notE (.chain .LtE .LtE (.int 2) (.bi "len" (.cons (.var 0) .nil)) (.int 3))) (.one (.notE (.tv (.bi "all" (.cons (.lc E1_are_people (.name 1) (.val (.var 0)) .none [("name", 1)]) .nil))))))) (.cons (.ret (.bl false))
    .nil) .nil)
    (.cons (.ret (.cmp .Eq (.bi "len" (.cons (.dc (.var 1) (.bl true) (.name 1) (.val (.var 0)) .none [("name", 1)]) .nil)) (.bi "len" (.cons (.var 0) .nil))))
    .nil))
def N_check_rule : List Str := [so "rule", so "part"]
def P_check_rule : List Str := [so "rule"]

def B1_check_rule : Ss := (.cons (.ifS (.notE (.tv (.call "is_one_of" (.cons (.sub (.var 0) (.var 1)) (.cons (.sub (.glo "RULES") (.var 1)) .nil))))) (.cons .never
    .nil) .nil)
    .nil)
def E2_check_rule : E := (.call "is_one_of" (.cons (.var 1) (.cons (.bi "list" (.cons (.glo "RULES") .nil)) .nil)))
def S_check_rule : Ss := (.cons (.ifS (.orE (.notE (.tv (.isi (.var 0) "dict"))) (.orE (.notE (.tv (.bi "all" (.cons (.lc E2_check_rule (.name 1) (.val (.var 0)) .none [("part", 1)]) .nil)))) (.one (.cmp .Lt (.bi "len" (.cons (.var 0) .nil)) (.bi "len" (.cons (.glo "RULES") .nil)))))) (.cons .never
    .nil) .nil)
    (.cons (.forS (.name 1) (.val (.glo "RULES")) B1_check_rule)
    .nil))
def N_are_words : List Str := [so "value", so "word", so "one", so "other"]
def P_are_words : List Str := [so "value"]

def E1_are_words : E := (.cmp .Lt (.var 2) (.var 3))
def E2_are_words : E := (.call "is_one_of" (.cons (.var 1) (.cons (.glo "WORDS") .nil)))
def S_are_words : Ss := (.cons (.ifS (.orE (.notE (.tv (.isi (.var 0) "tuple"))) (.one (.notE (.tv (.bi "all" (.cons (.lc E2_are_words (.name 1) (.val (.var 0)) .none [("word", 1)]) .nil)))))) (.cons (.ret (.bl false))
    .nil) .nil)
    (.cons (.ret (.bi "all" (.cons (.lc E1_are_words (.tup (.cons (.name 2) (.cons (.name 3) .nil))) (.zip (.var 0) (.slc (.var 0) (.some (.int 1)) .none)) .none [("one", 2), ("other", 3)]) .nil)))
    .nil))
def N_Book_init : List Str := [so "self", so "people", so "longest", so "most", so "rule", so "words", so "part"]
def P_Book_init : List Str := [so "self", so "people", so "longest", so "most", so "rule", so "words"]

def s1_Book_init : S := (.ifS (.notE (.tv (.call "are_people" (.cons (.var 1) .nil)))) (.cons .never
    .nil) .nil)
def s2_Book_init : S := (.ifS (.orE (.notE (.tv (.call "is_from" (.cons (.var 2) (.cons (.int 0) (.cons (.glo "MOST") .nil)))))) (.one (.notE (.tv (.call "is_from" (.cons (.var 3) (.cons (.int 0) (.cons (.glo "MOST") .nil)))))))) (.cons .never
    .nil) .nil)
def s3_Book_init : S := (.expr (.call "check_rule" (.cons (.var 4) .nil)))
def s4_Book_init : S := (.ifS (.notE (.tv (.call "are_words" (.cons (.var 5) .nil)))) (.cons .never
    .nil) .nil)
def s5_Book_init : S := (.fld (.var 0) "turns" (.var 1))
def s6_Book_init : S := (.fld (.var 0) "names" (.bi "tuple" (.cons (.bi "sorted" (.cons (.var 1) .nil)) .nil)))
def s7_Book_init : S := (.fld (.var 0) "open_days" (.var 2))
def s8_Book_init : S := (.fld (.var 0) "cap" (.var 3))
def E1_Book_init : E := (.sub (.var 4) (.var 6))
def s9_Book_init : S := (.fld (.var 0) "parts" (.dc (.var 6) E1_Book_init (.name 6) (.val (.glo "RULES")) .none [("part", 6)]))
def s10_Book_init : S := (.fld (.var 0) "told_words" (.var 5))
def S_Book_init : Ss := (.cons s1_Book_init (.cons s2_Book_init (.cons s3_Book_init (.cons s4_Book_init (.cons s5_Book_init (.cons s6_Book_init (.cons s7_Book_init (.cons s8_Book_init (.cons s9_Book_init (.cons s10_Book_init .nil))))))))))
def N_Book_eq : List Str := [so "self", so "other"]
def P_Book_eq : List Str := [so "self", so "other"]

def S_Book_eq : Ss := (.cons (.ifS (.orE (.notE (.tv (.isc (.var 1) "Book"))) (.orE (.cmp .NotEq (.fld (.var 0) "turns") (.fld (.var 1) "turns")) (.one (.cmp .NotEq (.fld (.var 0) "told_words") (.fld (.var 1) "told_words"))))) (.cons (.ret (.bl false))
    .nil) .nil)
    (.cons (.ret (.andE (.cmp .Eq (.fld (.var 0) "open_days") (.fld (.var 1) "open_days")) (.andE (.cmp .Eq (.fld (.var 0) "cap") (.fld (.var 1) "cap")) (.one (.cmp .Eq (.fld (.var 0) "parts") (.fld (.var 1) "parts"))))))
    .nil))
def N_write : List Str := [so "book", so "rows", so "part", so "word", so "row"]
def P_write : List Str := [so "book"]

def s1_write : S := (.asg (.name 1) (.lst (.cons (.lst (.cons (.str "people") (.star (.fld (.var 0) "turns") .nil))) (.cons (.lst (.cons (.str "longest") (.cons (.bi "str" (.cons (.fld (.var 0) "open_days") .nil)) .nil))) (.cons (.lst (.cons (.str "most") (.cons (.bi "str" (.cons (.fld (.var 0) "cap") .nil)) .nil))) .nil)))))
def E1_write : E := (.lst (.cons (.var 2) (.cons (.var 3) .nil)))
def s2_write : S := (.expr (.bm "list" (.var 1) "extend" (.cons (.lc E1_write (.tup (.cons (.name 2) (.cons (.name 3) .nil))) (.items (.fld (.var 0) "parts")) .none [("part", 2), ("word", 3)]) .nil)))
def s3_write : S := (.expr (.bm "list" (.var 1) "append" (.cons (.lst (.cons (.str "words") (.star (.fld (.var 0) "told_words") .nil))) .nil)))
def E2_write : E := (.bm "str" (.str " ") "join" (.cons (.var 4) .nil))
def s4_write : S := (.ret (.bm "str" (.str "\n") "join" (.cons (.lc E2_write (.name 4) (.val (.var 1)) .none [("row", 4)]) .nil)))
def S_write : Ss := (.cons s1_write (.cons s2_write (.cons s3_write (.cons s4_write .nil))))
def N_Line_init : List Str := [so "self", so "text", so "number", so "word"]
def P_Line_init : List Str := [so "self", so "text", so "number"]

def T1_Line_init : E := (.cmp .NotEq (.var 3) (.str ""))
def s1_Line_init : S := (.fld (.var 0) "parts" (.lc (.var 3) (.name 3) (.val (.bm "str" (.var 1) "split" (.cons (.str " ") .nil))) (.some T1_Line_init) [("word", 3)]))
def s2_Line_init : S := (.fld (.var 0) "number" (.var 2))
def s3_Line_init : S := (.fld (.var 0) "spot" (.int 0))
def S_Line_init : Ss := (.cons s1_Line_init (.cons s2_Line_init (.cons s3_Line_init .nil)))
def N_Line_now : List Str := [so "self"]
def P_Line_now : List Str := [so "self"]

def S_Line_now : Ss := (.cons (.ret (.ite (.cmp .Lt (.fld (.var 0) "spot") (.bi "len" (.cons (.fld (.var 0) "parts") .nil))) (.sub (.fld (.var 0) "parts") (.fld (.var 0) "spot")) (.str "")))
    .nil)
def N_Line_take : List Str := [so "self", so "is_good", so "word"]
def P_Line_take : List Str := [so "self", so "is_good"]

def s1_Line_take : S := (.asg (.name 2) (.meth (.var 0) "now" .nil))
def s2_Line_take : S := (.ifS (.orE (.cmp .Eq (.var 2) (.str "")) (.one (.notE (.tv (.var 1))))) (.cons .never
    .nil) .nil)
def s3_Line_take : S := (.augF (.var 0) "spot" .Add (.int 1))
def s4_Line_take : S := (.ret (.var 2))
def S_Line_take : Ss := (.cons s1_Line_take (.cons s2_Line_take (.cons s3_Line_take (.cons s4_Line_take .nil))))
def N_Line_one_of : List Str := [so "self", so "some"]
def P_Line_one_of : List Str := [so "self", so "some"]

def S_Line_one_of : Ss := (.cons (.ret (.meth (.var 0) "take" (.cons (.cmp .In (.meth (.var 0) "now" .nil) (.var 1)) .nil)))
    .nil)
def N_Line_take_name : List Str := [so "self"]
def P_Line_take_name : List Str := [so "self"]

def S_Line_take_name : Ss := (.cons (.ret (.meth (.var 0) "take" (.cons (.call "is_name" (.cons (.meth (.var 0) "now" .nil) .nil)) .nil)))
    .nil)
def N_Line_finish : List Str := [so "self"]
def P_Line_finish : List Str := [so "self"]

def S_Line_finish : Ss := (.cons (.ifS (.cmp .Lt (.fld (.var 0) "spot") (.bi "len" (.cons (.fld (.var 0) "parts") .nil))) (.cons .never
    .nil) .nil)
    .nil)
def N_Reader_init : List Str := [so "self", so "text"]
def P_Reader_init : List Str := [so "self", so "text"]

def S_Reader_init : Ss := (.cons (.fld (.var 0) "rows" (.bm "str" (.var 1) "split" (.cons (.str "\n") .nil)))
    (.cons (.fld (.var 0) "at" (.int 0))
    .nil))
def N_Reader_next_line : List Str := [so "self", so "head", so "found"]
def P_Reader_next_line : List Str := [so "self", so "head"]

def s1_Reader_next_line : S := (.ifS (.cmp .Eq (.fld (.var 0) "at") (.bi "len" (.cons (.fld (.var 0) "rows") .nil))) (.cons .never
    .nil) .nil)
def s2_Reader_next_line : S := (.asg (.name 2) (.mk "Line" (.cons (.sub (.fld (.var 0) "rows") (.fld (.var 0) "at")) (.cons (.bin .Add (.fld (.var 0) "at") (.int 1)) .nil))))
def s3_Reader_next_line : S := (.expr (.meth (.var 2) "one_of" (.cons (.tup (.cons (.var 1) .nil)) .nil)))
def s4_Reader_next_line : S := (.augF (.var 0) "at" .Add (.int 1))
def s5_Reader_next_line : S := (.ret (.var 2))
def S_Reader_next_line : Ss := (.cons s1_Reader_next_line (.cons s2_Reader_next_line (.cons s3_Reader_next_line (.cons s4_Reader_next_line (.cons s5_Reader_next_line .nil)))))
def N_Reader_one_word : List Str := [so "self", so "head", so "some", so "line", so "word"]
def P_Reader_one_word : List Str := [so "self", so "head", so "some"]

def s1_Reader_one_word : S := (.asg (.name 3) (.meth (.var 0) "next_line" (.cons (.var 1) .nil)))
def s2_Reader_one_word : S := (.asg (.name 4) (.meth (.var 3) "one_of" (.cons (.var 2) .nil)))
def s3_Reader_one_word : S := (.expr (.meth (.var 3) "finish" .nil))
def s4_Reader_one_word : S := (.ret (.var 4))
def S_Reader_one_word : Ss := (.cons s1_Reader_one_word (.cons s2_Reader_one_word (.cons s3_Reader_one_word (.cons s4_Reader_one_word .nil))))
def N_read_people : List Str := [so "line", so "found"]
def P_read_people : List Str := [so "line"]

def s1_read_people : S := (.asg (.name 1) (.lst (.cons (.meth (.var 0) "take_name" .nil) (.cons (.meth (.var 0) "take_name" .nil) .nil))))
def s2_read_people : S := (.ifS (.cmp .NotEq (.meth (.var 0) "now" .nil) (.str "")) (.cons (.expr (.bm "list" (.var 1) "append" (.cons (.meth (.var 0) "take_name" .nil) .nil)))
    .nil) .nil)
def s3_read_people : S := (.expr (.meth (.var 0) "finish" .nil))
def s4_read_people : S := (.ret (.bi "tuple" (.cons (.var 1) .nil)))
def S_read_people : Ss := (.cons s1_read_people (.cons s2_read_people (.cons s3_read_people (.cons s4_read_people .nil))))
def N_read_words : List Str := [so "line", so "found"]
def P_read_words : List Str := [so "line"]

def s1_read_words : S := (.asg (.name 1) (.lst .nil))
def T1_read_words : E := (.cmp .NotEq (.meth (.var 0) "now" .nil) (.str ""))
def B2_read_words : Ss := (.cons (.expr (.bm "list" (.var 1) "append" (.cons (.meth (.var 0) "one_of" (.cons (.glo "WORDS") .nil)) .nil)))
    .nil)
def s2_read_words : S := (.whileS T1_read_words B2_read_words)
def s3_read_words : S := (.ret (.bi "tuple" (.cons (.var 1) .nil)))
def S_read_words : Ss := (.cons s1_read_words (.cons s2_read_words (.cons s3_read_words .nil)))
def N_read : List Str := [so "text", so "reader", so "people", so "longest", so "most", so "rule", so "words", so "part"]
def P_read : List Str := [so "text"]

def s1_read : S := (.asg (.name 1) (.mk "Reader" (.cons (.var 0) .nil)))
def s2_read : S := (.asg (.name 2) (.call "read_people" (.cons (.meth (.var 1) "next_line" (.cons (.str "people") .nil)) .nil)))
def s3_read : S := (.par2 3 4 (.bi "int" (.cons (.meth (.var 1) "one_word" (.cons (.str "longest") (.cons (.glo "DIGITS") .nil))) .nil)) (.bi "int" (.cons (.meth (.var 1) "one_word" (.cons (.str "most") (.cons (.glo "DIGITS") .nil))) .nil)))
def E1_read : E := (.meth (.var 1) "one_word" (.cons (.var 7) (.cons (.sub (.glo "RULES") (.var 7)) .nil)))
def s4_read : S := (.setd 5 (.var 7) E1_read (.name 7) (.val (.glo "RULES")) .none [("part", 7)])
def s5_read : S := (.asg (.name 6) (.call "read_words" (.cons (.meth (.var 1) "next_line" (.cons (.str "words") .nil)) .nil)))
def s6_read : S := (.ifS (.cmp .Lt (.fld (.var 1) "at") (.bi "len" (.cons (.fld (.var 1) "rows") .nil))) (.cons .never
    .nil) .nil)
def s7_read : S := (.ret (.mk "Book" (.cons (.var 2) (.cons (.var 3) (.cons (.var 4) (.cons (.var 5) (.cons (.var 6) .nil)))))))
def S_read : Ss := (.cons s1_read (.cons s2_read (.cons s3_read (.cons s4_read (.cons s5_read (.cons s6_read (.cons s7_read .nil)))))))
def N_law_draws : List Str := [so "_law_script"]
def P_law_draws : List Str := [so "_law_script"]

def S_law_draws : Ss := (.cons (.ret (.lst (.cons (.bi "list" (.cons (.var 0) .nil)) (.cons (.int 0) (.cons (.int 0) (.cons (.int 7) .nil))))))
    .nil)
def N_law_pick : List Str := [so "_law_row", so "_law_many", so "_law_cell", so "_law_found"]
def P_law_pick : List Str := [so "_law_row", so "_law_many"]

def s1_law_pick : S := (.ifS (.cmp .Eq (.sub (.var 0) (.int 2)) (.int 0)) (.cons (.ifS (.cmp .Lt (.sub (.var 0) (.int 1)) (.bi "len" (.cons (.sub (.var 0) (.int 0)) .nil))) (.cons (.asg (.name 2) (.sub (.sub (.var 0) (.int 0)) (.sub (.var 0) (.int 1))))
    (.cons (.asg (.sub (.var 0) (.int 1)) (.bin .Add (.sub (.var 0) (.int 1)) (.int 1)))
    (.cons (.ifS (.cmp .GtE (.var 2) (.bin .Pow (.int 10) (.int 18))) (.cons (.asg (.sub (.var 0) (.int 2)) (.var 2))
    .nil) (.cons (.asg (.sub (.var 0) (.int 3)) (.bin .Mod (.bi "int" (.cons (.bin .Add (.bin .Add (.bin .Mult (.sub (.var 0) (.int 3)) (.int 48271)) (.bin .Mult (.var 2) (.int 69621))) (.int 11)) .nil)) (.int 2147483647)))
    .nil))
    .nil))) (.cons (.asg (.sub (.var 0) (.int 3)) (.bin .Mod (.bi "int" (.cons (.bin .Add (.bin .Mult (.sub (.var 0) (.int 3)) (.int 48271)) (.int 7)) .nil)) (.int 2147483647)))
    .nil))
    .nil) .nil)
def s2_law_pick : S := (.ifS (.cmp .Gt (.sub (.var 0) (.int 2)) (.int 0)) (.cons (.asg (.name 3) (.bin .Mod (.bi "int" (.cons (.sub (.var 0) (.int 2)) .nil)) (.var 1)))
    (.cons (.asg (.sub (.var 0) (.int 2)) (.bin .FloorDiv (.sub (.var 0) (.int 2)) (.var 1)))
    (.cons (.ret (.var 3))
    .nil))) .nil)
def s3_law_pick : S := (.ret (.bin .Mod (.bin .Mod (.bi "int" (.cons (.bin .Mult (.sub (.var 0) (.int 3)) (.int 16807)) .nil)) (.int 2147483629)) (.var 1)))
def S_law_pick : Ss := (.cons s1_law_pick (.cons s2_law_pick (.cons s3_law_pick .nil)))
def N_law_parts : List Str := [so "_law_found"]
def P_law_parts : List Str := []

def S_law_parts : Ss := (.cons (.asg (.name 0) (.lst (.cons (.tup (.cons (.str "back") (.cons (.lst (.cons (.str "both") (.cons (.str "ends") (.cons (.str "stays") .nil)))) .nil))) (.cons (.tup (.cons (.str "count") (.cons (.lst (.cons (.str "all") (.cons (.str "direct") (.cons (.str "handed") .nil)))) .nil))) .nil))))
    (.cons (.ret (.bin .Add (.var 0) (.lst (.cons (.tup (.cons (.str "end") (.cons (.lst (.cons (.str "falls") (.cons (.str "stays") .nil))) .nil))) (.cons (.tup (.cons (.str "gap") (.cons (.lst (.cons (.str "next") (.cons (.str "none") (.cons (.str "owner") .nil)))) .nil))) .nil)))))
    .nil))
def N_law_rule : List Str := [so "_law_row", so "_law_found", so "_law_part", so "_law_words"]
def P_law_rule : List Str := [so "_law_row"]

def s1_law_rule : S := (.asg (.name 1) (.dct .nil))
def B1_law_rule : Ss := (.cons (.asg (.sub (.var 1) (.var 2)) (.sub (.var 3) (.call "_law_pick" (.cons (.var 0) (.cons (.bi "len" (.cons (.var 3) .nil)) .nil)))))
    .nil)
def s2_law_rule : S := (.forS (.tup (.cons (.name 2) (.cons (.name 3) .nil))) (.val (.call "_law_parts" .nil)) B1_law_rule)
def s3_law_rule : S := (.ret (.var 1))
def S_law_rule : Ss := (.cons s1_law_rule (.cons s2_law_rule (.cons s3_law_rule .nil)))
def N_law_people : List Str := [so "_law_row", so "_law_many", so "_law_names"]
def P_law_people : List Str := [so "_law_row", so "_law_many"]

def s1_law_people : S := (.asg (.name 2) (.slc (.lst (.cons (.str "ann") (.cons (.str "bo") (.cons (.str "cy") .nil)))) .none (.some (.var 1))))
def s2_law_people : S := (.ifS (.cmp .Eq (.call "_law_pick" (.cons (.var 0) (.cons (.int 2) .nil))) (.int 0)) (.cons (.expr (.bm "list" (.var 2) "reverse" .nil))
    .nil) .nil)
def s3_law_people : S := (.ifS (.cmp .Eq (.call "_law_pick" (.cons (.var 0) (.cons (.int 2) .nil))) (.int 0)) (.cons (.asg (.name 2) (.bin .Add (.slc (.var 2) (.some (.int 1)) .none) (.slc (.var 2) .none (.some (.int 1)))))
    .nil) .nil)
def s4_law_people : S := (.ret (.bi "tuple" (.cons (.var 2) .nil)))
def S_law_people : Ss := (.cons s1_law_people (.cons s2_law_people (.cons s3_law_people (.cons s4_law_people .nil))))
def N_law_drawn : List Str := [so "_law_row", so "_law_many", so "_law_longest", so "_law_most", so "_law_t", so "_law_word"]
def P_law_drawn : List Str := [so "_law_row", so "_law_many", so "_law_longest", so "_law_most"]

def s1_law_drawn : S := (.asg (.name 4) (.dct (.cons (.str "people") (.call "_law_people" (.cons (.var 0) (.cons (.bin .Add (.int 2) (.call "_law_pick" (.cons (.var 0) (.cons (.bin .Sub (.var 1) (.int 1)) .nil)))) .nil))) (.cons (.str "longest") (.call "_law_pick" (.cons (.var 0) (.cons (.bin .Add (.var 2) (.int 1)) .nil))) .nil))))
def s2_law_drawn : S := (.asg (.tup (.cons (.sub (.var 4) (.str "most")) (.cons (.sub (.var 4) (.str "rule")) .nil))) (.tup (.cons (.call "_law_pick" (.cons (.var 0) (.cons (.bin .Add (.var 3) (.int 1)) .nil))) (.cons (.call "_law_rule" (.cons (.var 0) .nil)) .nil))))
def T1_law_drawn : E := (.cmp .Gt (.call "_law_pick" (.cons (.var 0) (.cons (.int 4) .nil))) (.int 0))
def s3_law_drawn : S := (.asg (.sub (.var 4) (.str "words")) (.bi "tuple" (.cons (.lc (.var 5) (.name 5) (.val (.lst (.cons (.str "away") (.cons (.str "hand") (.cons (.str "refuse") (.cons (.str "swap") (.cons (.str "take") .nil))))))) (.some T1_law_drawn) [("_law_word", 5)]) .nil)))
def s4_law_drawn : S := (.ret (.var 4))
def S_law_drawn : Ss := (.cons s1_law_drawn (.cons s2_law_drawn (.cons s3_law_drawn (.cons s4_law_drawn .nil))))
def N_law_made : List Str := [so "_law_t"]
def P_law_made : List Str := [so "_law_t"]

def S_law_made : Ss := (.cons (.ret (.mk "Book" (.cons (.sub (.var 0) (.str "people")) (.cons (.sub (.var 0) (.str "longest")) (.cons (.sub (.var 0) (.str "most")) (.cons (.sub (.var 0) (.str "rule")) (.cons (.sub (.var 0) (.str "words")) .nil)))))))
    .nil)
def N_law_lines : List Str := [so "_law_t", so "_law_found", so "_law_part", so "_law_words"]
def P_law_lines : List Str := [so "_law_t"]

def s1_law_lines : S := (.asg (.name 1) (.lst (.cons (.bm "str" (.str " ") "join" (.cons (.bin .Add (.lst (.cons (.str "people") .nil)) (.bi "list" (.cons (.sub (.var 0) (.str "people")) .nil))) .nil)) (.cons (.bin .Add (.str "longest ") (.bi "str" (.cons (.sub (.var 0) (.str "longest")) .nil))) (.cons (.bin .Add (.str "most ") (.bi "str" (.cons (.sub (.var 0) (.str "most")) .nil))) .nil)))))
def B1_law_lines : Ss := (.cons (.expr (.bm "list" (.var 1) "append" (.cons (.bin .Add (.bin .Add (.var 2) (.str " ")) (.sub (.sub (.var 0) (.str "rule")) (.var 2))) .nil)))
    .nil)
def s2_law_lines : S := (.forS (.tup (.cons (.name 2) (.cons (.name 3) .nil))) (.val (.call "_law_parts" .nil)) B1_law_lines)
def s3_law_lines : S := (.ret (.bin .Add (.var 1) (.lst (.cons (.bm "str" (.str " ") "join" (.cons (.bin .Add (.lst (.cons (.str "words") .nil)) (.bi "list" (.cons (.sub (.var 0) (.str "words")) .nil))) .nil)) .nil))))
def S_law_lines : Ss := (.cons s1_law_lines (.cons s2_law_lines (.cons s3_law_lines .nil)))
def N_law_loose : List Str := [so "_law_row", so "_law_line", so "_law_found", so "_law_word"]
def P_law_loose : List Str := [so "_law_row", so "_law_line"]

def s1_law_loose : S := (.asg (.name 2) (.bin .Mult (.str " ") (.call "_law_pick" (.cons (.var 0) (.cons (.int 3) .nil)))))
def B1_law_loose : Ss := (.cons (.asg (.name 2) (.bin .Add (.bin .Add (.var 2) (.var 3)) (.bin .Mult (.str " ") (.bin .Add (.int 1) (.call "_law_pick" (.cons (.var 0) (.cons (.int 3) .nil)))))))
    .nil)
def s2_law_loose : S := (.forS (.name 3) (.val (.bm "str" (.var 1) "split" (.cons (.str " ") .nil))) B1_law_loose)
def s3_law_loose : S := (.ret (.ite (.cmp .Eq (.call "_law_pick" (.cons (.var 0) (.cons (.int 2) .nil))) (.int 0)) (.var 2) (.bm "str" (.var 2) "strip" (.cons (.str " ") .nil))))
def S_law_loose : Ss := (.cons s1_law_loose (.cons s2_law_loose (.cons s3_law_loose .nil)))
def N_law : List Str := [so "_law_script", so "_law_row", so "_law_turn", so "_law_t", so "_law_book", so "_law_lines_here", so "_law_line"]
def P_law : List Str := [so "_law_script"]

def s1_law : S := (.asg (.name 1) (.call "_law_draws" (.cons (.var 0) .nil)))
def s3_law : S := (.asg (.name 3) (.call "_law_drawn" (.cons (.var 1) (.cons (.int 3) (.cons (.int 2) (.cons (.int 2) .nil))))))
def s4_law : S := (.par2 4 5 (.call "_law_made" (.cons (.var 3) .nil)) (.call "_law_lines" (.cons (.var 3) .nil)))
def s5_law : S := (.ifS (.orE (.cmp .NotEq (.call "write" (.cons (.var 4) .nil)) (.bm "str" (.str "\n") "join" (.cons (.var 5) .nil))) (.one (.notE (.eqO (.call "read" (.cons (.bm "str" (.str "\n") "join" (.cons (.var 5) .nil)) .nil)) (.var 4))))) (.cons (.ret (.bl false))
    .nil) .nil)
def E1_law : E := (.call "_law_loose" (.cons (.var 1) (.cons (.var 6) .nil)))
def s6_law : S := (.ifS (.notE (.eqO (.call "read" (.cons (.bm "str" (.str "\n") "join" (.cons (.lc E1_law (.name 6) (.val (.var 5)) .none [("_law_line", 6)]) .nil)) .nil)) (.var 4))) (.cons (.ret (.bl false))
    .nil) .nil)
def B2_law : Ss := (.cons s3_law (.cons s4_law (.cons s5_law (.cons s6_law .nil))))
def s2_law : S := (.forS (.name 2) (.rng1 (.int 6)) B2_law)
def s7_law : S := (.ret (.bl true))
def S_law : Ss := (.cons s1_law (.cons s2_law (.cons s7_law .nil)))
theorem ok_is_integer : okSs N_is_integer (defScope (top 14)) S_is_integer (defBody (top 14)) = true := by decide +kernel
theorem sc_is_integer : FnScope N_is_integer P_is_integer (defScope (top 14)) := ⟨rfl, rfl, rfl, by decide +kernel, rfl, by decide +kernel, by decide +kernel⟩
theorem ok_is_from : okSs N_is_from (defScope (top 15)) S_is_from (defBody (top 15)) = true := by decide +kernel
theorem sc_is_from : FnScope N_is_from P_is_from (defScope (top 15)) := ⟨rfl, rfl, rfl, by decide +kernel, rfl, by decide +kernel, by decide +kernel⟩
theorem ok_is_name : okSs N_is_name (defScope (top 16)) S_is_name (defBody (top 16)) = true := by decide +kernel
theorem sc_is_name : FnScope N_is_name P_is_name (defScope (top 16)) := ⟨rfl, rfl, rfl, by decide +kernel, rfl, by decide +kernel, by decide +kernel⟩
theorem ok_is_one_of : okSs N_is_one_of (defScope (top 17)) S_is_one_of (defBody (top 17)) = true := by decide +kernel
theorem sc_is_one_of : FnScope N_is_one_of P_is_one_of (defScope (top 17)) := ⟨rfl, rfl, rfl, by decide +kernel, rfl, by decide +kernel, by decide +kernel⟩
theorem ok_are_people : okSs N_are_people (defScope (top 18)) S_are_people (defBody (top 18)) = true := by decide +kernel
theorem sc_are_people : FnScope N_are_people P_are_people (defScope (top 18)) := ⟨rfl, rfl, rfl, by decide +kernel, rfl, by decide +kernel, by decide +kernel⟩
theorem ok_check_rule : okSs N_check_rule (defScope (top 19)) S_check_rule (defBody (top 19)) = true := by decide +kernel
theorem sc_check_rule : FnScope N_check_rule P_check_rule (defScope (top 19)) := ⟨rfl, rfl, rfl, by decide +kernel, rfl, by decide +kernel, by decide +kernel⟩
theorem ok_are_words : okSs N_are_words (defScope (top 20)) S_are_words (defBody (top 20)) = true := by decide +kernel
theorem sc_are_words : FnScope N_are_words P_are_words (defScope (top 20)) := ⟨rfl, rfl, rfl, by decide +kernel, rfl, by decide +kernel, by decide +kernel⟩
theorem ok_Book_init : okSs N_Book_init (defScope (mem 21 0)) S_Book_init (defBody (mem 21 0)) = true := by decide +kernel
theorem sc_Book_init : FnScope N_Book_init P_Book_init (defScope (mem 21 0)) := ⟨rfl, rfl, rfl, by decide +kernel, rfl, by decide +kernel, by decide +kernel⟩
theorem ok_Book_eq : okSs N_Book_eq (defScope (mem 21 6)) S_Book_eq (defBody (mem 21 6)) = true := by decide +kernel
theorem sc_Book_eq : FnScope N_Book_eq P_Book_eq (defScope (mem 21 6)) := ⟨rfl, rfl, rfl, by decide +kernel, rfl, by decide +kernel, by decide +kernel⟩
theorem ok_write : okSs N_write (defScope (top 24)) S_write (defBody (top 24)) = true := by decide +kernel
theorem sc_write : FnScope N_write P_write (defScope (top 24)) := ⟨rfl, rfl, rfl, by decide +kernel, rfl, by decide +kernel, by decide +kernel⟩
theorem ok_Line_init : okSs N_Line_init (defScope (mem 25 0)) S_Line_init (defBody (mem 25 0)) = true := by decide +kernel
theorem sc_Line_init : FnScope N_Line_init P_Line_init (defScope (mem 25 0)) := ⟨rfl, rfl, rfl, by decide +kernel, rfl, by decide +kernel, by decide +kernel⟩
theorem ok_Line_now : okSs N_Line_now (defScope (mem 25 1)) S_Line_now (defBody (mem 25 1)) = true := by decide +kernel
theorem sc_Line_now : FnScope N_Line_now P_Line_now (defScope (mem 25 1)) := ⟨rfl, rfl, rfl, by decide +kernel, rfl, by decide +kernel, by decide +kernel⟩
theorem ok_Line_take : okSs N_Line_take (defScope (mem 25 2)) S_Line_take (defBody (mem 25 2)) = true := by decide +kernel
theorem sc_Line_take : FnScope N_Line_take P_Line_take (defScope (mem 25 2)) := ⟨rfl, rfl, rfl, by decide +kernel, rfl, by decide +kernel, by decide +kernel⟩
theorem ok_Line_one_of : okSs N_Line_one_of (defScope (mem 25 3)) S_Line_one_of (defBody (mem 25 3)) = true := by decide +kernel
theorem sc_Line_one_of : FnScope N_Line_one_of P_Line_one_of (defScope (mem 25 3)) := ⟨rfl, rfl, rfl, by decide +kernel, rfl, by decide +kernel, by decide +kernel⟩
theorem ok_Line_take_name : okSs N_Line_take_name (defScope (mem 25 4)) S_Line_take_name (defBody (mem 25 4)) = true := by decide +kernel
theorem sc_Line_take_name : FnScope N_Line_take_name P_Line_take_name (defScope (mem 25 4)) := ⟨rfl, rfl, rfl, by decide +kernel, rfl, by decide +kernel, by decide +kernel⟩
theorem ok_Line_finish : okSs N_Line_finish (defScope (mem 25 5)) S_Line_finish (defBody (mem 25 5)) = true := by decide +kernel
theorem sc_Line_finish : FnScope N_Line_finish P_Line_finish (defScope (mem 25 5)) := ⟨rfl, rfl, rfl, by decide +kernel, rfl, by decide +kernel, by decide +kernel⟩
theorem ok_Reader_init : okSs N_Reader_init (defScope (mem 26 0)) S_Reader_init (defBody (mem 26 0)) = true := by decide +kernel
theorem sc_Reader_init : FnScope N_Reader_init P_Reader_init (defScope (mem 26 0)) := ⟨rfl, rfl, rfl, by decide +kernel, rfl, by decide +kernel, by decide +kernel⟩
theorem ok_Reader_next_line : okSs N_Reader_next_line (defScope (mem 26 1)) S_Reader_next_line (defBody (mem 26 1)) = true := by decide +kernel
theorem sc_Reader_next_line : FnScope N_Reader_next_line P_Reader_next_line (defScope (mem 26 1)) := ⟨rfl, rfl, rfl, by decide +kernel, rfl, by decide +kernel, by decide +kernel⟩
theorem ok_Reader_one_word : okSs N_Reader_one_word (defScope (mem 26 2)) S_Reader_one_word (defBody (mem 26 2)) = true := by decide +kernel
theorem sc_Reader_one_word : FnScope N_Reader_one_word P_Reader_one_word (defScope (mem 26 2)) := ⟨rfl, rfl, rfl, by decide +kernel, rfl, by decide +kernel, by decide +kernel⟩
theorem ok_read_people : okSs N_read_people (defScope (top 27)) S_read_people (defBody (top 27)) = true := by decide +kernel
theorem sc_read_people : FnScope N_read_people P_read_people (defScope (top 27)) := ⟨rfl, rfl, rfl, by decide +kernel, rfl, by decide +kernel, by decide +kernel⟩
theorem ok_read_words : okSs N_read_words (defScope (top 28)) S_read_words (defBody (top 28)) = true := by decide +kernel
theorem sc_read_words : FnScope N_read_words P_read_words (defScope (top 28)) := ⟨rfl, rfl, rfl, by decide +kernel, rfl, by decide +kernel, by decide +kernel⟩
theorem ok_read : okSs N_read (defScope (top 29)) S_read (defBody (top 29)) = true := by decide +kernel
theorem sc_read : FnScope N_read P_read (defScope (top 29)) := ⟨rfl, rfl, rfl, by decide +kernel, rfl, by decide +kernel, by decide +kernel⟩
theorem ok_law_draws : okSs N_law_draws (defScope (top 31)) S_law_draws (defBody (top 31)) = true := by decide +kernel
theorem sc_law_draws : FnScope N_law_draws P_law_draws (defScope (top 31)) := ⟨rfl, rfl, rfl, by decide +kernel, rfl, by decide +kernel, by decide +kernel⟩
theorem ok_law_pick : okSs N_law_pick (defScope (top 32)) S_law_pick (defBody (top 32)) = true := by decide +kernel
theorem sc_law_pick : FnScope N_law_pick P_law_pick (defScope (top 32)) := ⟨rfl, rfl, rfl, by decide +kernel, rfl, by decide +kernel, by decide +kernel⟩
theorem ok_law_parts : okSs N_law_parts (defScope (top 33)) S_law_parts (defBody (top 33)) = true := by decide +kernel
theorem sc_law_parts : FnScope N_law_parts P_law_parts (defScope (top 33)) := ⟨rfl, rfl, rfl, by decide +kernel, rfl, by decide +kernel, by decide +kernel⟩
theorem ok_law_rule : okSs N_law_rule (defScope (top 34)) S_law_rule (defBody (top 34)) = true := by decide +kernel
theorem sc_law_rule : FnScope N_law_rule P_law_rule (defScope (top 34)) := ⟨rfl, rfl, rfl, by decide +kernel, rfl, by decide +kernel, by decide +kernel⟩
theorem ok_law_people : okSs N_law_people (defScope (top 35)) S_law_people (defBody (top 35)) = true := by decide +kernel
theorem sc_law_people : FnScope N_law_people P_law_people (defScope (top 35)) := ⟨rfl, rfl, rfl, by decide +kernel, rfl, by decide +kernel, by decide +kernel⟩
theorem ok_law_drawn : okSs N_law_drawn (defScope (top 36)) S_law_drawn (defBody (top 36)) = true := by decide +kernel
theorem sc_law_drawn : FnScope N_law_drawn P_law_drawn (defScope (top 36)) := ⟨rfl, rfl, rfl, by decide +kernel, rfl, by decide +kernel, by decide +kernel⟩
theorem ok_law_made : okSs N_law_made (defScope (top 37)) S_law_made (defBody (top 37)) = true := by decide +kernel
theorem sc_law_made : FnScope N_law_made P_law_made (defScope (top 37)) := ⟨rfl, rfl, rfl, by decide +kernel, rfl, by decide +kernel, by decide +kernel⟩
theorem ok_law_lines : okSs N_law_lines (defScope (top 38)) S_law_lines (defBody (top 38)) = true := by decide +kernel
theorem sc_law_lines : FnScope N_law_lines P_law_lines (defScope (top 38)) := ⟨rfl, rfl, rfl, by decide +kernel, rfl, by decide +kernel, by decide +kernel⟩
theorem ok_law_loose : okSs N_law_loose (defScope (top 39)) S_law_loose (defBody (top 39)) = true := by decide +kernel
theorem sc_law_loose : FnScope N_law_loose P_law_loose (defScope (top 39)) := ⟨rfl, rfl, rfl, by decide +kernel, rfl, by decide +kernel, by decide +kernel⟩
theorem ok_law : okSs N_law (defScope (top 40)) S_law (defBody (top 40)) = true := by decide +kernel
theorem sc_law : FnScope N_law P_law (defScope (top 40)) := ⟨rfl, rfl, rfl, by decide +kernel, rfl, by decide +kernel, by decide +kernel⟩
end Law
end

section
set_option maxHeartbeats 4000000
/-! contracts of the books' small defs. -/
namespace Law
open PySem L2 Rx
def LETTERS : String := "abcdefghijklmnopqrstuvwxyz"
def RULES : List (String × List String) := [("back", ["both", "ends", "stays"]), ("count", ["all", "direct", "handed"]), ("end", ["falls", "stays"]), ("gap", ["next", "none", "owner"])]
def WORDS : List String := ["away", "hand", "refuse", "swap", "take"]
def DIGITS : List String := ["0", "1", "2"]
def strsP (ss : List String) : PV := .tup (ss.map .str)
def rulesP : PV := .kd (RULES.map fun q => (q.1, strsP q.2))
/-- the constants -/
structure Consts (Γ : Gm) : Prop where
  letters : Γ.co "LETTERS" = some (.str LETTERS)
  longest : Γ.co "LONGEST" = some (.int 8)
  most : Γ.co "MOST" = some (.int 2)
  rules : Γ.co "RULES" = some rulesP
  words : Γ.co "WORDS" = some (strsP WORDS)
  digits : Γ.co "DIGITS" = some (strsP DIGITS)
def flatP : PV → Bool
  | .non => true
  | .bl _ => true
  | .int _ => true
  | .str _ => true
  | _ => false
def isInt : PV → Bool
  | .int _ => true
  | _ => false
def fromB (p : PV) (lo hi : Int) : Bool := match p with
  | .int i => decide (lo ≤ i) && decide (i ≤ hi)
  | _ => false
def nameB (s : String) : Bool := decide (1 ≤ s.length) && (decide (s.length ≤ 8) && s.toList.all fun c => LETTERS.toList.contains c)
def C_is_integer : Con := fun as M Q _ => ∃ p, as = [p] ∧ flatP p = true ∧ Q (.bl (isInt p)) M
def C_is_from : Con := fun as M Q _ => ∃ p lo hi, as = [p, .int lo, .int hi] ∧ flatP p = true ∧ Q (.bl (fromB p lo hi)) M
def C_is_name : Con := fun as M Q _ => ∃ s : String, as = [.str s] ∧ s.length ≤ 1000000 ∧ ∀ M', Sub M M' → Q (.bl (nameB s)) M'
def C_is_one_of : Con := fun as M Q _ => ∃ (s : String) (ss : List String) (q : PV), as = [.str s, q] ∧ (q = strsP ss ∨ ∃ a, q = .ref a ∧ M a = some (.lst (ss.map .str))) ∧ Q (.bl (ss.contains s)) M
theorem run_is_integer {Γ : Gm} : Does Γ N_is_integer P_is_integer S_is_integer C_is_integer := by
  rintro as M Qa Ea ⟨p, rfl, hp, q⟩ -
  cases p <;> simp [flatP] at hp <;> simpa [S_is_integer, N_is_integer, runSs, runS, runE, isiA, truA, isInt] using q
theorem run_is_from {Γ : Gm} (h1 : Γ.fn "is_integer" = some (1, C_is_integer)) : Does Γ N_is_from P_is_from S_is_from C_is_from := by
  rintro as M Qa Ea ⟨p, lo, hi, rfl, hp, q⟩ -
  cases p <;> simp [flatP] at hp
  all_goals simp [S_is_from, N_is_from, runSs, runS, runE, runEs, h1, C_is_integer, flatP, isInt, cmpA]
  all_goals simp only [fromB] at q
  case int i =>
    split
    · rename_i h; simpa [h] using q
    · rename_i h; simpa [h] using q
  all_goals exact q
theorem single_list (c : Char) : (String.singleton c).toList = [c] := by simp
theorem run_is_name {Γ : Gm} (K : Consts Γ) : Does Γ N_is_name P_is_name S_is_name C_is_name := by
  rintro as M Qa Ea ⟨s, rfl, hl, q⟩ -
  simp [S_is_name, N_is_name, E1_is_name, runSs, runS, runT, runE, runEs, runI, isiA, truA, biA, cmpA, K.longest, hl, itA]
  have key : nameB s = (decide (1 ≤ s.length) && (decide (s.length ≤ 8) && s.toList.all fun c => LETTERS.toList.contains c)) := rfl
  by_cases h1 : 1 ≤ s.length
  · rw [if_pos (by omega)]
    by_cases h2 : s.length ≤ 8
    · rw [if_neg (by omega)]
      intro D hD
      refine lcF_map (Mb := M) (f := fun x => match x with | .str z => (match z.toList with | [c] => .bl (LETTERS.toList.contains c) | _ => .non) | _ => .non) hD (fun _ _ => True.intro) mput_same ((Sub.refl M).put hD) (by simp; exact hl) ?_ ?_
      · intro x hx M' h3 Kt Kf h4
        obtain ⟨c, hc, rfl⟩ := List.mem_map.mp hx
        simp [runTg, runC, E1_is_name, runE, wipeG, K.letters, cmpA, inA]
        have := h4 M' (Sub.refl M')
        simpa using this
      · intro M' h3 h4
        have e : (s.toList.map fun c => PV.str (String.singleton c)).map (fun x => match x with | .str z => (match z.toList with | [c] => .bl (LETTERS.toList.contains c) | _ => .non) | _ => .non) = (s.toList.map fun c => LETTERS.toList.contains c).map PV.bl := by
          rw [List.map_map, List.map_map]
          exact List.map_congr_left fun c _ => by simp
        rw [e] at h4
        simp only [id, h4, blsOf_map]
        have q' := q M' h3
        rw [key, decide_eq_true h1, decide_eq_true h2] at q'
        simpa [List.all_map] using q'
    · have q' := q M (Sub.refl M)
      rw [key, decide_eq_false h2] at q'
      rw [if_pos (by omega)]
      simpa using q'
  · have q' := q M (Sub.refl M)
    rw [key, decide_eq_false h1] at q'
    rw [if_neg (by omega)]
    simpa using q'
theorem run_is_one_of {Γ : Gm} : Does Γ N_is_one_of P_is_one_of S_is_one_of C_is_one_of := by
  rintro as M Qa Ea ⟨s, ss, q, rfl, hq, z⟩ -
  simp [S_is_one_of, N_is_one_of, runSs, runS, runE, isiA, cmpA]
  rcases hq with rfl | ⟨a, rfl, h⟩
  · simpa [inA, strsP, sMem_str] using z
  · simpa [inA, h, sMem_str] using z
end Law
end

section
set_option maxHeartbeats 4000000
/-! contracts of books. -/
namespace Law
open PySem L2 Rx
def PeopleOk (ss : List String) : Prop := 2 ≤ ss.length ∧ ss.length ≤ 3 ∧ (∀ s ∈ ss, nameB s = true) ∧ ss.Nodup
theorem name_len {s : String} (h : nameB s = true) : s.length ≤ 8 := by
  unfold nameB at h
  have := (Bool.and_eq_true_iff.mp (Bool.and_eq_true_iff.mp h).2).1
  exact of_decide_eq_true this
def C_are_people : Con := fun as M Q _ => ∃ ss : List String, as = [strsP ss] ∧ PeopleOk ss ∧ ∀ M', Sub M M' → Q (.bl true) M'
theorem run_are_people {Γ : Gm} (h1 : Γ.fn "is_name" = some (1, C_is_name)) : Does Γ N_are_people P_are_people S_are_people C_are_people := by
  rintro as M Qa Ea ⟨ss, rfl, ⟨p1, p2, p3, p4⟩, q⟩ -
  simp [S_are_people, N_are_people, strsP, runSs, runS, runT, runE, runEs, runI, isiA, truA, biA, cmpA, itA, h1]
  rw [if_pos (by omega), if_neg (by omega)]
  intro D hD
  refine lcF_map (Mb := M) (f := fun x => match x with | .str z => .bl (nameB z) | _ => .non) hD (fun _ _ => True.intro) mput_same ((Sub.refl M).put hD) (by simp; omega) ?_ ?_
  · intro x hx M' h3 Kt Kf h4
    obtain ⟨c, hc, rfl⟩ := List.mem_map.mp hx
    simp [runTg, runC, E1_are_people, runE, runEs, wipeG, h1, C_is_name]
    have := name_len (p3 c hc)
    exact ⟨by omega, fun M'' s => h4 _ s⟩
  · intro M' h3 h4
    have e : (ss.map PV.str).map (fun x => match x with | .str z => PV.bl (nameB z) | _ => .non) = (ss.map fun c => nameB c).map PV.bl := by
      rw [List.map_map, List.map_map]
      exact List.map_congr_left fun c _ => rfl
    rw [e] at h4
    simp only [id, h4, blsOf_map]
    simp
    rw [if_neg (by rintro ⟨c, h1, h2⟩; rw [p3 c h1] at h2; cases h2)]
    intro D2 hD2
    refine dcF_go (Mb := M') (f := fun x => (x, .bl true)) hD2 (fun _ _ => True.intro) mput_same ((Sub.refl M').put hD2) (by simp; omega) ?_ ?_ ?_
    · intro x hx
      obtain ⟨c, hc, rfl⟩ := List.mem_map.mp hx
      rfl
    · intro x hx M2 h5 Kt Kf h6
      simp [runTg, runC, wipeG]
      exact h6 _ (Sub.refl _)
    · intro M2 h5 h6
      have e2 := put_strs (h := fun _ => .bl true) ss [] (by simpa using p4)
      have e3 : (ss.map PV.str).foldl (fun a x => dPut a x (.bl true)) [] = (ss.map PV.str).foldl (fun a x => dPut a x (match x with | .str s => .bl true | _ => .non)) [] := by
        have : ∀ (l : List String) (acc : List (PV × PV)), (l.map PV.str).foldl (fun a x => dPut a x (.bl true)) acc = (l.map PV.str).foldl (fun a x => dPut a x (match x with | .str s => .bl true | _ => .non)) acc := by
          intro l
          induction l with
          | nil => intro acc; rfl
          | cons a r ih => intro acc; exact ih _
        exact this ss []
      refine ⟨h6, ?_⟩
      simp only [mput_same]
      rw [show (ss.map PV.str).foldl (fun a x => dPut a x (PV.bl true)) [] = (ss.map fun s => (PV.str s, PV.bl true)) by rw [e3]; exact e2]
      simp [eqA, sEq]
      exact q _ ((h3.trans h5).put (h3.fresh hD2))
/-- a book -/
structure Bk where
  people : List String
  longest : Nat
  most : Nat
  r1 : String
  r2 : String
  r3 : String
  r4 : String
  words : List String
  deriving DecidableEq
def Bk.rule (b : Bk) : List (PV × PV) := [(.str "back", .str b.r1), (.str "count", .str b.r2), (.str "end", .str b.r3), (.str "gap", .str b.r4)]
structure RuleOk (b : Bk) : Prop where
  m1 : b.r1 ∈ ["both", "ends", "stays"]
  m2 : b.r2 ∈ ["all", "direct", "handed"]
  m3 : b.r3 ∈ ["falls", "stays"]
  m4 : b.r4 ∈ ["next", "none", "owner"]
def WordsOk (ws : List String) : Prop := ws.length ≤ 5 ∧ (∀ w ∈ ws, w ∈ WORDS) ∧ (ws.zip (ws.drop 1)).all (fun p => sLt p.1 p.2) = true
structure BkOk (b : Bk) : Prop where
  people : PeopleOk b.people
  l : b.longest ≤ 2
  m : b.most ≤ 2
  rule : RuleOk b
  words : WordsOk b.words
def C_check_rule : Con := fun as M Q _ => ∃ (a : Addr) (b : Bk), as = [.ref a] ∧ M a = some (.dct b.rule) ∧ RuleOk b ∧ ∀ M', Sub M M' → Q .non M'
theorem rulesP_eq : rulesP = .kd [("back", strsP ["both", "ends", "stays"]), ("count", strsP ["all", "direct", "handed"]), ("end", strsP ["falls", "stays"]), ("gap", strsP ["next", "none", "owner"])] := rfl
/-- a locked dict told again -/
theorem Sub.unl {M M' : MM} {a : Addr} {o : MO} (h : M a = some o) (s : Sub (mdel M a) M') : Sub M (mput M' a o) := fun b u e => by
  by_cases z : b = a
  · subst z; rw [mput_same, ← h, e]
  · rw [mput_ne z]; exact s b u (by unfold mdel; rw [mput_ne z]; exact e)
def PARTS : List String := ["back", "count", "end", "gap"]
theorem rule_keys (b : Bk) : b.rule.map (·.1) = PARTS.map PV.str := rfl
theorem rule_len (b : Bk) : b.rule.length = 4 := rfl
theorem rules_keys : (RULES.map fun q => (q.1, strsP q.2)).map (fun q => PV.str q.1) = PARTS.map PV.str := rfl
theorem rules_len : (RULES.map fun q => (q.1, strsP q.2)).length = 4 := rfl
theorem rule_back (b : Bk) : dGet b.rule (.str "back") = some (.str b.r1) := rfl
theorem rule_count (b : Bk) : dGet b.rule (.str "count") = some (.str b.r2) := by simp [Bk.rule, dGet_str]
theorem rule_end (b : Bk) : dGet b.rule (.str "end") = some (.str b.r3) := by simp [Bk.rule, dGet_str]
theorem rule_gap (b : Bk) : dGet b.rule (.str "gap") = some (.str b.r4) := by simp [Bk.rule, dGet_str]
def wordsOf : String → List String
  | "back" => ["both", "ends", "stays"]
  | "count" => ["all", "direct", "handed"]
  | "end" => ["falls", "stays"]
  | "gap" => ["next", "none", "owner"]
  | _ => []
def Bk.at (b : Bk) : String → String
  | "back" => b.r1
  | "count" => b.r2
  | "end" => b.r3
  | "gap" => b.r4
  | _ => ""
theorem rule_at (b : Bk) {p : String} (h : p ∈ PARTS) : dGet b.rule (.str p) = some (.str (b.at p)) := by
  simp [PARTS] at h
  rcases h with rfl | rfl | rfl | rfl
  · exact rule_back b
  · exact rule_count b
  · exact rule_end b
  · exact rule_gap b
theorem rules_at {p : String} (h : p ∈ PARTS) : (RULES.map fun q => (q.1, strsP q.2)).lookup p = some (strsP (wordsOf p)) := by
  simp [PARTS] at h
  rcases h with rfl | rfl | rfl | rfl <;> simp [RULES, wordsOf, List.lookup]
theorem RuleOk.at {b : Bk} (r : RuleOk b) {p : String} (h : p ∈ PARTS) : b.at p ∈ wordsOf p := by
  simp [PARTS] at h
  rcases h with rfl | rfl | rfl | rfl
  · exact r.m1
  · exact r.m2
  · exact r.m3
  · exact r.m4
theorem mem_map_str {x : PV} {ss : List String} (h : x ∈ ss.map PV.str) : ∃ s ∈ ss, x = .str s := by
  obtain ⟨s, h1, h2⟩ := List.mem_map.mp h
  exact ⟨s, h1, h2.symm⟩
theorem run_check_rule {Γ : Gm} (K : Consts Γ) (h1 : Γ.fn "is_one_of" = some (2, C_is_one_of)) : Does Γ N_check_rule P_check_rule S_check_rule C_check_rule := by
  rintro as M Qa Ea ⟨a, b, rfl, ha, ro, q⟩ -
  simp [S_check_rule, N_check_rule, runSs, runS, runT, runE, runEs, runI, isiA, truA, biA, cmpA, itA, ha]
  intro D hD
  have hDa : D ≠ a := fun z => by rw [z] at hD; unfold mdel at hD; rw [mput_same] at hD; cases hD
  have ek : b.rule.map (fun x => x.1) = PARTS.map PV.str := rfl
  rw [ek]
  refine lcF_map (Mb := mdel M a) (f := fun x => match x with | .str z => .bl (PARTS.contains z) | _ => .non) hD (fun _ _ => True.intro) mput_same ((Sub.refl _).put hD) (by simp [PARTS]) ?_ ?_
  · intro x hx M' h3 Kt Kf h4
    obtain ⟨z, hz, rfl⟩ := mem_map_str hx
    simp [runTg, runC, E2_check_rule, runE, runEs, wipeG, K.rules, rulesP, biA, newL, h1]
    intro p hp
    refine ⟨z, PARTS, .ref p, rfl, .inr ⟨p, rfl, ?_⟩, ?_⟩
    · rw [mput_same]; rfl
    · exact h4 _ (Sub.new hp)
  · intro M' h3 h4
    have e : (PARTS.map PV.str).map (fun x => match x with | .str z => PV.bl (PARTS.contains z) | _ => .non) = [.bl true, .bl true, .bl true, .bl true] := by simp [PARTS]
    rw [e] at h4
    have h5 : (mput M' a (.dct b.rule)) D = some (.lst [.bl true, .bl true, .bl true, .bl true]) := by rw [mput_ne hDa]; exact h4
    rw [h5]
    simp [blsOf, K.rules, rulesP, mput_same, rule_len, rules_len]
    have hs0 : Sub M (mput M' a (.dct b.rule)) := Sub.unl ha h3
    have ek2 : RULES.map ((fun q => PV.str q.1) ∘ fun q => (q.1, strsP q.2)) = PARTS.map PV.str := rfl
    rw [ek2]
    refine ⟨by decide, ?_⟩
    refine forF_inv (fun xs g M2 => Sub (mput M' a (.dct b.rule)) M2 ∧ (∃ g1, g = [some (.ref a), g1]) ∧ ∀ x ∈ xs, x ∈ PARTS.map PV.str) ?_ ?_ ?_ ?_
    · intro _ _ _ _; exact True.intro
    · intro g M2 w; exact q M2 (hs0.trans w.1)
    rotate_left
    · exact ⟨Sub.refl _, ⟨_, rfl⟩, fun x hx => hx⟩
    rintro x xs g M2 ⟨w1, ⟨g1, rfl⟩, w3⟩ Dn d1 d2 d3 d4
    obtain ⟨z, hz, rfl⟩ := mem_map_str (w3 x List.mem_cons_self)
    have ha2 : M2 a = some (.dct b.rule) := w1 _ _ mput_same
    simp [runTg, B1_check_rule, runSs, runS, runT, runE, runEs, K.rules, rulesP, subA, ha2, rule_at b hz, keyOk_str, h1, rules_at hz]
    refine ⟨_, _, _, rfl, .inl rfl, ?_⟩
    have := ro.at hz
    simp [truA, this]
    exact d1 _ _ ⟨w1, ⟨_, rfl⟩, fun y hy => w3 y (List.mem_cons_of_mem _ hy)⟩
def C_are_words : Con := fun as M Q _ => ∃ ws : List String, as = [strsP ws] ∧ WordsOk ws ∧ ∀ M', Sub M M' → Q (.bl true) M'
theorem run_are_words {Γ : Gm} (K : Consts Γ) (h1 : Γ.fn "is_one_of" = some (2, C_is_one_of)) : Does Γ N_are_words P_are_words S_are_words C_are_words := by
  rintro as M Qa Ea ⟨ws, rfl, ⟨p1, p2, p3⟩, q⟩ -
  simp [S_are_words, N_are_words, strsP, runSs, runS, runT, runE, runEs, runI, runO, isiA, truA, biA, itA]
  intro D hD
  refine lcF_map (Mb := M) (f := fun x => match x with | .str z => .bl (WORDS.contains z) | _ => .non) hD (fun _ _ => True.intro) mput_same ((Sub.refl M).put hD) (by simp; omega) ?_ ?_
  · intro x hx M' h3 Kt Kf h4
    obtain ⟨c, hc, rfl⟩ := mem_map_str hx
    simp [runTg, runC, wipeG, E2_are_words, runE, runEs, h1, K.words]
    exact ⟨c, WORDS, _, rfl, .inl rfl, h4 _ (Sub.refl _)⟩
  · intro M' h3 h4
    have e : (ws.map PV.str).map (fun x => match x with | .str z => PV.bl (WORDS.contains z) | _ => .non) = (ws.map fun c => WORDS.contains c).map PV.bl := by
      rw [List.map_map, List.map_map]
      exact List.map_congr_left fun c _ => rfl
    rw [e] at h4
    rw [h4]
    have e2 : ((ws.map fun c => WORDS.contains c).all id) = true := by
      rw [List.all_map, List.all_eq_true]
      intro w hw
      simpa using p2 w hw
    simp only [blsOf_map, e2]
    simp [slcA]
    rw [if_neg (by rintro ⟨c, g1, g2⟩; exact g2 (p2 c g1))]
    intro D2 hD2
    have ec : cutP (ws.map PV.str) (some 1) none = (ws.drop 1).map PV.str := by
      have := cut_from (xs := ws.map PV.str) (k := 1)
      rw [List.map_drop]; exact this
    rw [ec]
    refine lcF_map (Mb := M') (f := fun x => match x with | .tup [.str y, .str z] => .bl (sLt y z) | _ => .non) hD2 (fun _ _ => True.intro) mput_same ((Sub.refl M').put hD2) (by simp; omega) ?_ ?_
    · intro x hx M2 h5 Kt Kf h6
      obtain ⟨⟨y, z⟩, h7, rfl⟩ := List.mem_map.mp hx
      obtain ⟨y, hy, rfl⟩ := mem_map_str (List.of_mem_zip h7).1
      obtain ⟨z, hz, rfl⟩ := mem_map_str (List.of_mem_zip h7).2
      simp [runTg, runTgs, tgsLen, runC, wipeG, E1_are_words, runE, cmpA]
      exact h6 _ (Sub.refl _)
    · intro M2 h5 h6
      have e3 : (List.map (fun z => PV.tup [z.fst, z.snd]) ((ws.map PV.str).zip ((ws.drop 1).map PV.str))).map (fun x => match x with | .tup [.str y, .str z] => PV.bl (sLt y z) | _ => .non) = ((ws.zip (ws.drop 1)).map fun p => sLt p.1 p.2).map PV.bl := by
        rw [List.zip_map, List.map_map, List.map_map, List.map_map]
        exact List.map_congr_left fun c _ => rfl
      rw [e3] at h6
      simp only [id, h6, blsOf_map]
      have e4 : ((ws.zip (ws.drop 1)).map fun p => sLt p.1 p.2).all id = true := by
        rw [List.all_map]; exact p3
      rw [e4]
      exact q _ (h3.trans h5)
end Law
end

section
set_option maxHeartbeats 4000000
/-! contracts of Book. -/
namespace Law
open PySem L2 Rx
def flds (b : Bk) (zs : List String) (d : Addr) : List (String × PV) := [("turns", strsP b.people), ("names", strsP zs), ("open_days", .int b.longest), ("cap", .int b.most), ("parts", .ref d), ("told_words", strsP b.words)]
def BookAt (M : MM) (a : Addr) (b : Bk) : Prop := ∃ d zs, zs.Perm b.people ∧ sortedT zs = true ∧ M a = some (.ins "Book" (flds b zs d)) ∧ M d = some (.dct b.rule)
theorem BookAt.sub {M M' : MM} {a : Addr} {b : Bk} (h : BookAt M a b) (s : Sub M M') : BookAt M' a b := by
  obtain ⟨d, zs, h1, h2, h3, h4⟩ := h
  exact ⟨d, zs, h1, h2, s _ _ h3, s _ _ h4⟩
def C_Book_init : Con := fun as M Q _ => ∃ (self rd : Addr) (b : Bk), as = [.ref self, strsP b.people, .int b.longest, .int b.most, .ref rd, strsP b.words] ∧ BkOk b ∧ M self = some (.ins "Book" []) ∧ M rd = some (.dct b.rule) ∧
  ∀ M', BookAt M' self b → Rest M M' self → Q .non M'
theorem fo_book : fieldOf "Book" "turns" = true ∧ fieldOf "Book" "names" = true ∧ fieldOf "Book" "open_days" = true ∧ fieldOf "Book" "cap" = true ∧ fieldOf "Book" "parts" = true ∧ fieldOf "Book" "told_words" = true := by decide
theorem run_Book_init {Γ : Gm} (K : Consts Γ) (h1 : Γ.fn "are_people" = some (1, C_are_people)) (h2 : Γ.fn "is_from" = some (3, C_is_from)) (h3 : Γ.fn "check_rule" = some (1, C_check_rule)) (h4 : Γ.fn "are_words" = some (1, C_are_words)) : Does Γ N_Book_init P_Book_init S_Book_init C_Book_init := by
  rintro as M Qa Ea ⟨self, rd, b, rfl, ok, hs, hr, q⟩ -
  obtain ⟨f1, f2, f3, f4, f5, f6⟩ := fo_book
  have g1 : fromB (.int b.longest) 0 2 = true := by have := ok.l; simp [fromB]; omega
  have g2 : fromB (.int b.most) 0 2 = true := by have := ok.m; simp [fromB]; omega
  simp [S_Book_init, N_Book_init, runSs]
  simp [s1_Book_init, runS, runT, runE, runEs, h1, C_are_people, truA, runSs]
  refine ⟨_, rfl, ok.people, fun M1 s1 => ?_⟩
  simp [s2_Book_init, runS, runT, runE, runEs, K.most, h2, C_is_from, flatP, g1, g2, truA, runSs]
  refine ⟨_, _, _, ⟨rfl, rfl, rfl⟩, rfl, g1, _, _, _, ⟨rfl, rfl, rfl⟩, rfl, g2, ?_⟩
  simp [s3_Book_init, runS, runE, runEs, h3, C_check_rule]
  refine ⟨b, s1 _ _ hr, ok.rule, fun M2 s2 => ?_⟩
  simp [s4_Book_init, runS, runT, runE, runEs, h4, C_are_words, truA, runSs]
  refine ⟨_, rfl, ok.words, fun M3 s3 => ?_⟩
  have s13 := (s1.trans s2).trans s3
  have hs3 := s13 _ _ hs
  simp [s5_Book_init, runS, runE, hs3, f1, putP]
  generalize hM4 : mput M3 self (.ins "Book" [("turns", strsP b.people)]) = M4
  have r4 : Rest M M4 self := by rw [← hM4]; exact (Rest.of_sub s13).put
  have hs4 : M4 self = some (.ins "Book" [("turns", strsP b.people)]) := by rw [← hM4]; exact mput_same
  simp [s6_Book_init, runS, runE, runEs, biA, seqA, strsP, strsOf_map, newL, mput_same]
  refine ⟨by have := ok.people.2.1; omega, fun zs hz hzs p hp => ?_⟩
  have hps : self ≠ p := fun z => by rw [← z, hs4] at hp; cases hp
  rw [mput_ne hps, hs4]
  simp [f2, putP]
  generalize hM5 : mput (mput M4 p (.lst (zs.map PV.str))) self (.ins "Book" [("turns", strsP b.people), ("names", .tup (zs.map PV.str))]) = M5
  have r5 : Rest M M5 self := by rw [← hM5]; exact (r4.new hp).put
  have hs5 : M5 self = some (.ins "Book" [("turns", strsP b.people), ("names", strsP zs)]) := by rw [← hM5]; exact mput_same
  simp [s7_Book_init, s8_Book_init, runS, runE, hs5, f3, f4, putP, mput_same, mput_mput]
  generalize hM6 : mput M5 self (.ins "Book" [("turns", strsP b.people), ("names", strsP zs), ("open_days", .int b.longest), ("cap", .int b.most)]) = M6
  have r6 : Rest M M6 self := by rw [← hM6]; exact r5.put
  have hs6 : M6 self = some (.ins "Book" [("turns", strsP b.people), ("names", strsP zs), ("open_days", .int b.longest), ("cap", .int b.most)]) := by rw [← hM6]; exact mput_same
  simp [s9_Book_init, runS, runE, runI, itA, K.rules, rulesP]
  intro D hD
  have hne : rd ≠ self := fun z => by rw [z, hs] at hr; cases hr
  have hr6 : M6 rd = some (.dct b.rule) := r6 _ _ hne hr
  have ek2 : RULES.map ((fun q => PV.str q.1) ∘ fun q => (q.1, strsP q.2)) = PARTS.map PV.str := rfl
  rw [ek2]
  refine dcF_go (Mb := M6) (f := fun x => (x, match x with | .str z => .str (b.at z) | _ => .non)) hD (fun _ _ => True.intro) mput_same ((Sub.refl _).put hD) (by simp [PARTS]) ?_ ?_ ?_
  · intro x hx
    obtain ⟨z, hz, rfl⟩ := mem_map_str hx
    rfl
  · intro x hx M' h5 Kt Kf h6
    obtain ⟨z, hz, rfl⟩ := mem_map_str hx
    simp [runTg, runC, wipeG, E1_Book_init, runE, subA, h5 _ _ hr6, rule_at b hz, keyOk_str]
    exact h6 _ (Sub.refl _)
  · intro M7 h5 h6
    have er : (PARTS.map PV.str).foldl (fun a x => dPut a x (match x with | .str z => .str (b.at z) | _ => .non)) [] = b.rule := by
      simp [PARTS, dPut_str, dPut_nil, Bk.at, Bk.rule]
    have er2 : (PARTS.map PV.str).foldl (fun a x => dPut a ((fun x => (x, match x with | .str z => PV.str (b.at z) | _ => PV.non)) x).1 ((fun x => (x, match x with | .str z => PV.str (b.at z) | _ => PV.non)) x).2) [] = b.rule := er
    rw [er2] at h6 ⊢
    have hDs : self ≠ D := fun z => by rw [← z, hs6] at hD; cases hD
    refine ⟨h6, ?_⟩
    have hs7 : mput M7 D (.dct b.rule) self = some (.ins "Book" [("turns", strsP b.people), ("names", strsP zs), ("open_days", .int b.longest), ("cap", .int b.most)]) := by
      rw [mput_ne hDs]; exact h5 _ _ hs6
    rw [hs7]
    simp [f5, putP]
    simp [s10_Book_init, runS, runE, f6, putP, mput_same, mput_mput]
    refine q _ ⟨D, zs, hz, hzs, mput_same, ?_⟩ ?_
    · rw [mput_ne (Ne.symm hDs)]; exact mput_same
    · exact ((r6.sub (h5.put hD))).put
end Law
end

section
set_option maxHeartbeats 4000000
/-! contracts: == of books, write. -/
namespace Law
open PySem L2 Rx
theorem dEq_rule (x y : Bk) : dEq x.rule y.rule = some (decide (x.r1 = y.r1) && (decide (x.r2 = y.r2) && (decide (x.r3 = y.r3) && decide (x.r4 = y.r4)))) := by
  simp [dEq, Bk.rule, allS, dEqR, sGet, sEq]
def C_Book_eq : Con := fun as M Q _ => ∃ (a a' : Addr) (x y : Bk), as = [.ref a, .ref a'] ∧ BookAt M a x ∧ BookAt M a' y ∧ Q (.bl (decide (x = y))) M
theorem bk_eq (x y : Bk) : decide (x = y) = (decide (x.people = y.people) && (decide (x.words = y.words) && (decide (x.longest = y.longest) && (decide (x.most = y.most) && (decide (x.r1 = y.r1) && (decide (x.r2 = y.r2) && (decide (x.r3 = y.r3) && decide (x.r4 = y.r4)))))))) := by
  rw [Bool.eq_iff_iff]
  cases x; cases y
  simp only [decide_eq_true_eq, Bool.and_eq_true, Bk.mk.injEq]
  constructor
  · rintro ⟨a, b, c, d, e, f, g, h⟩; exact ⟨a, h, b, c, d, e, f, g⟩
  · rintro ⟨a, h, b, c, d, e, f, g⟩; exact ⟨a, b, c, d, e, f, g, h⟩
theorem run_Book_eq {Γ : Gm} (hcl : Γ.cl.contains "Book" = true) : Does Γ N_Book_eq P_Book_eq S_Book_eq C_Book_eq := by
  rintro as M Qa Ea ⟨a, a', x, y, rfl, ⟨d, zs, _, _, h1, h2⟩, ⟨d', zs', _, _, h3, h4⟩, q⟩ -
  obtain ⟨f1, f2, f3, f4, f5, f6⟩ := fo_book
  rw [bk_eq] at q
  have hm : "Book" ∈ Γ.cl := by simpa using hcl
  simp [S_Book_eq, N_Book_eq, runSs, runS, runT, runE, iscA, hm, h1, h3, truA, flds, f1, f3, f4, f5, f6, cmpA, List.lookup]
  refine eqA_strs ?_
  by_cases e1 : x.people = y.people
  · simp [e1]
    refine eqA_strs ?_
    by_cases e2 : x.words = y.words
    · simp [e1, e2] at q ⊢
      simp only [eqA, sEq]
      by_cases e3 : x.longest = y.longest
      · simp [e3] at q ⊢
        by_cases e4 : x.most = y.most
        · simp [e4] at q ⊢
          refine .inr ⟨_, h2, _, h4, ?_⟩
          rw [dEq_rule]
          generalize hr : (decide (x.r1 = y.r1) && (decide (x.r2 = y.r2) && (decide (x.r3 = y.r3) && decide (x.r4 = y.r4)))) = r
          have q2 : Qa (.bl r) M := by rw [← hr]; simpa using q
          cases r
          · exact .inl ⟨rfl, q2⟩
          · exact .inr ⟨rfl, q2⟩
        · simp [e4] at q
          rw [if_neg (by omega)]; exact q
      · simp [e3] at q
        rw [decide_eq_false (show ¬ ((x.longest : Int) = (y.longest : Int)) by omega), if_neg Bool.false_ne_true]; exact q
    · simp [e1, e2] at q ⊢; exact q
  · simp [e1] at q ⊢; exact q
def rows (b : Bk) : List (List String) := ["people" :: b.people, ["longest", (b.longest : Int).repr], ["most", (b.most : Int).repr], ["back", b.r1], ["count", b.r2], ["end", b.r3], ["gap", b.r4], "words" :: b.words]
def lines (b : Bk) : List String := (rows b).map (joinS " ")
def textOf (b : Bk) : String := joinS "\n" (lines b)
theorem num_len {n : Nat} (h : n ≤ 2) : ((n : Int).repr).length ≤ 8 ∧ (n : Int).repr ∈ DIGITS := by
  have : n = 0 ∨ n = 1 ∨ n = 2 := by omega
  rcases this with rfl | rfl | rfl <;> decide
theorem rows_ok {b : Bk} (h : BkOk b) : ∀ r ∈ rows b, r.length ≤ 6 ∧ ∀ w ∈ r, w.length ≤ 8 := by
  obtain ⟨hp, hl, hm, hr, hw⟩ := h
  have hn := fun s (hs : s ∈ b.people) => name_len (hp.2.2.1 s hs)
  have hww : ∀ w ∈ b.words, w.length ≤ 8 := fun w hw' => by
    have := hw.2.1 w hw'
    revert this
    have : ∀ w ∈ WORDS, w.length ≤ 8 := by decide
    exact this w
  obtain ⟨m1, m2, m3, m4⟩ := hr
  have k1 : b.r1.length ≤ 8 := (by decide : ∀ w ∈ (["both", "ends", "stays"] : List String), w.length ≤ 8) _ m1
  have k2 : b.r2.length ≤ 8 := (by decide : ∀ w ∈ (["all", "direct", "handed"] : List String), w.length ≤ 8) _ m2
  have k3 : b.r3.length ≤ 8 := (by decide : ∀ w ∈ (["falls", "stays"] : List String), w.length ≤ 8) _ m3
  have k4 : b.r4.length ≤ 8 := (by decide : ∀ w ∈ (["next", "none", "owner"] : List String), w.length ≤ 8) _ m4
  have n1 := (num_len hl).1
  have n2 := (num_len hm).1
  have l1 := hp.2.1
  have l2 := hw.1
  intro r hr
  simp only [rows, List.mem_cons, List.not_mem_nil, or_false] at hr
  have c : ∀ s : String, s ∈ (["people", "longest", "most", "back", "count", "end", "gap", "words"] : List String) → s.length ≤ 8 := by decide
  rcases hr with rfl | rfl | rfl | rfl | rfl | rfl | rfl | rfl
  · refine ⟨by simp; omega, fun w hw => ?_⟩
    rcases List.mem_cons.mp hw with rfl | hw
    · decide
    · exact hn w hw
  · refine ⟨by simp, fun w hw => ?_⟩
    simp only [List.mem_cons, List.not_mem_nil, or_false] at hw
    rcases hw with rfl | rfl
    · decide
    · exact n1
  · refine ⟨by simp, fun w hw => ?_⟩
    simp only [List.mem_cons, List.not_mem_nil, or_false] at hw
    rcases hw with rfl | rfl
    · decide
    · exact n2
  · refine ⟨by simp, fun w hw => ?_⟩
    simp only [List.mem_cons, List.not_mem_nil, or_false] at hw
    rcases hw with rfl | rfl
    · decide
    · exact k1
  · refine ⟨by simp, fun w hw => ?_⟩
    simp only [List.mem_cons, List.not_mem_nil, or_false] at hw
    rcases hw with rfl | rfl
    · decide
    · exact k2
  · refine ⟨by simp, fun w hw => ?_⟩
    simp only [List.mem_cons, List.not_mem_nil, or_false] at hw
    rcases hw with rfl | rfl
    · decide
    · exact k3
  · refine ⟨by simp, fun w hw => ?_⟩
    simp only [List.mem_cons, List.not_mem_nil, or_false] at hw
    rcases hw with rfl | rfl
    · decide
    · exact k4
  · refine ⟨by simp; omega, fun w hw' => ?_⟩
    rcases List.mem_cons.mp hw' with rfl | hw'
    · decide
    · exact hww w hw'
theorem row_len {r : List String} (h : r.length ≤ 6 ∧ ∀ w ∈ r, w.length ≤ 8) : (joinS " " r).length ≤ 54 := by
  have h1 := joinS_len " " h.2
  have h2 : r.length * (8 + (" " : String).length) ≤ 6 * 9 := Nat.mul_le_mul h.1 (by decide)
  omega
theorem lines_len {b : Bk} (h : BkOk b) : ∀ l ∈ lines b, l.length ≤ 54 := fun l hl => by
  obtain ⟨r, hr, rfl⟩ := List.mem_map.mp hl
  exact row_len (rows_ok h r hr)
theorem text_len {b : Bk} (h : BkOk b) : (textOf b).length ≤ 440 := by
  have h1 := joinS_len "\n" (lines_len h)
  have h2 : (lines b).length = 8 := rfl
  rw [h2] at h1
  exact h1
def C_write : Con := fun as M Q _ => ∃ (a : Addr) (b : Bk), as = [.ref a] ∧ BookAt M a b ∧ BkOk b ∧ ∀ M', Sub M M' → Q (.str (textOf b)) M'
end Law
end

section
set_option maxHeartbeats 4000000
/-! write. -/
namespace Law
open PySem L2 Rx
/-- a new thing named -/
theorem fresh_put {M : MM} {p : Addr} {o : MO} (h : M p = none) : ∃ M', mput M p o = M' ∧ Sub M M' ∧ M' p = some o := ⟨_, rfl, Sub.new h, mput_same⟩
theorem fresh_put2 {M : MM} {p : Addr} {o : MO} {P : MM → Prop} (h : M p = none) (k : ∀ M', Sub M M' → M' p = some o → P M') : P (mput M p o) := k _ (Sub.new h) mput_same
/-- an item: a list of two texts -/
def pairR (D : Addr) (M : MM) (x y : PV) : Prop := ∃ (u v : String) (p : Addr), x = .tup [.str u, .str v] ∧ y = .ref p ∧ p ≠ D ∧ M p = some (.lst [.str u, .str v])
def rowOf (M : MM) (x : PV) : PV := match x with
  | .ref p => (match M p with
    | some (.lst ps) => (match strsOf ps with
      | some ss => .str (joinS " " ss)
      | none => .non)
    | _ => .non)
  | _ => .non
theorem rowOf_eq {M : MM} {p : Addr} {ss : List String} (h : M p = some (.lst (ss.map .str))) : rowOf M (.ref p) = .str (joinS " " ss) := by simp [rowOf, h, strsOf_map]
theorem run_write {Γ : Gm} : Does Γ N_write P_write S_write C_write := by
  rintro as M Qa Ea ⟨a, b, rfl, ⟨d, zs, g1, g2, ha, hd⟩, ok, q⟩ -
  obtain ⟨f1, f2, f3, f4, f5, f6⟩ := fo_book
  have pl := ok.people.2.1
  have wl := ok.words.1
  have bl := ok.l
  have bm := ok.m
  have h6 := sz6
  simp [S_write, N_write, runSs]
  simp [s1_write, runS, runE, runEs, runTg, ha, flds, List.lookup, f1, f3, f4, strsP, seqA, newL, biA]
  refine ⟨by omega, fun p1 e1 => ?_⟩
  obtain ⟨M1, hM1, t1, hp1⟩ := fresh_put (o := .lst (.str "people" :: b.people.map PV.str)) e1
  rw [hM1]
  have ha1 := t1 _ _ ha
  simp [ha1, flds, List.lookup, f3, f4]
  refine ⟨by omega, by omega, fun p2 e2 => ?_⟩
  obtain ⟨M2, hM2, t2, hp2⟩ := fresh_put (o := .lst [.str "longest", .str (b.longest : Int).repr]) e2
  rw [hM2]
  have ha2 := t2 _ _ ha1
  simp [ha2, flds, List.lookup, f4]
  refine ⟨by omega, by omega, fun p3 e3 => ?_⟩
  obtain ⟨M3, hM3, t3, hp3⟩ := fresh_put (o := .lst [.str "most", .str (b.most : Int).repr]) e3
  rw [hM3]
  refine ⟨by omega, fun l e4 => ?_⟩
  obtain ⟨M4, hM4, t4, hl4⟩ := fresh_put (o := .lst [.ref p1, .ref p2, .ref p3]) e4
  rw [hM4]
  have t14 : Sub M M4 := ((t1.trans t2).trans t3).trans t4
  have ha4 := t14 _ _ ha
  have hd4 := t14 _ _ hd
  simp [s2_write, runS, runE, runEs, runI, tyA, hl4, ha4, flds, List.lookup, f5, hd4]
  intro D hD
  have hDl : D ≠ l := fun z => by unfold mdel at hD; rw [z, mput_ne (fun w => by rw [w, hd4] at hl4; cases hl4), hl4] at hD; cases hD
  have hDd : D ≠ d := fun z => by unfold mdel at hD; rw [z, mput_same] at hD; cases hD
  refine lcF_rel (Mb := mdel M4 d) (R := pairR D) (pre := []) hD (fun _ _ => True.intro) ?_ mput_same ((Sub.refl _).put hD) (by simp [rule_len]) .nil ?_ ?_
  · rintro M M' x y s ⟨u, v, p, rfl, rfl, hp, hm⟩
    exact ⟨u, v, p, rfl, rfl, hp, s _ _ hp hm⟩
  · intro x hx M' acc' h3 hDM Kt Kf h4
    have hx' : ∃ u v, x = .tup [.str u, .str v] := by
      simp [Bk.rule] at hx
      rcases hx with rfl | rfl | rfl | rfl <;> exact ⟨_, _, rfl⟩
    obtain ⟨u, v, rfl⟩ := hx'
    simp [runTg, runTgs, tgsLen, runC, wipeG, E1_write, runE, runEs, newL]
    refine ⟨by omega, fun p hp => h4 _ _ (Sub.new hp) ⟨u, v, p, rfl, rfl, ?_, mput_same⟩⟩
    rintro rfl
    rw [hDM] at hp; cases hp
  · intro M5 ys h3 h4 h5
    simp only [List.nil_append] at h4
    have s5 : Sub M4 (mput M5 d (.dct b.rule)) := Sub.unl hd4 h3
    have hD6 : mput M5 d (.dct b.rule) D = some (.lst ys) := by rw [mput_ne hDd]; exact h5
    have hl6 := s5 _ _ hl4
    simp [bmA, hD6, hl6]
    rcases h4 with _ | ⟨⟨u1, v1, q1, x1, rfl, _, k1⟩, h4⟩
    rcases h4 with _ | ⟨⟨u2, v2, q2, x2, rfl, _, k2⟩, h4⟩
    rcases h4 with _ | ⟨⟨u3, v3, q3, x3, rfl, _, k3⟩, h4⟩
    rcases h4 with _ | ⟨⟨u4, v4, q4, x4, rfl, _, k4⟩, h4⟩
    cases h4
    simp at x1 x2 x3 x4
    obtain ⟨rfl, rfl⟩ := x1
    obtain ⟨rfl, rfl⟩ := x2
    obtain ⟨rfl, rfl⟩ := x3
    obtain ⟨rfl, rfl⟩ := x4
    have hdl : M5 d = some .lck := h3 _ _ (by unfold mdel; exact mput_same)
    generalize hM6 : mput M5 d (.dct b.rule) = M6 at s5 hD6 hl6 ⊢
    have un : ∀ {q : Addr} {ps : List PV}, M5 q = some (.lst ps) → M6 q = some (.lst ps) := fun {q ps} h => by
      rw [← hM6, mput_ne (fun z => by rw [z, hdl] at h; cases h)]; exact h
    have k1 := un k1
    have k2 := un k2
    have k3 := un k3
    have k4 := un k4
    have kp1 := s5 _ _ ((t2.trans (t3.trans t4)) _ _ hp1)
    have kp2 := s5 _ _ ((t3.trans t4) _ _ hp2)
    have kp3 := s5 _ _ (t4 _ _ hp3)
    refine ⟨by simp; omega, ?_⟩
    have nl : ∀ {q : Addr} {s : String} {ps : List PV}, M6 q = some (.lst (.str s :: ps)) → ∀ {o : MO}, mput M6 l o q = some (.lst (.str s :: ps)) := fun {q s ps} h {o} => by
      rw [mput_ne (fun z => by rw [z, hl6] at h; simp at h)]; exact h
    have ha7 : ∀ {o : MO}, mput M6 l o a = some (.ins "Book" (flds b zs d)) := fun {o} => by
      rw [mput_ne (fun z => by have h := s5 _ _ ha4; rw [z, hl6] at h; cases h)]; exact s5 _ _ ha4
    have r7 : Sub M (mput M6 l (.lst [.ref p1, .ref p2, .ref p3, .ref q1, .ref q2, .ref q3, .ref q4])) := fun x o e => by
      have h := s5 _ _ (t14 _ _ e)
      rw [mput_ne (fun z => by
        subst z
        have := ((t1.trans t2).trans t3) _ _ e
        rw [e4] at this; cases this)]
      exact h
    have k1 := nl k1 (o := .lst [.ref p1, .ref p2, .ref p3, .ref q1, .ref q2, .ref q3, .ref q4])
    have k2 := nl k2 (o := .lst [.ref p1, .ref p2, .ref p3, .ref q1, .ref q2, .ref q3, .ref q4])
    have k3 := nl k3 (o := .lst [.ref p1, .ref p2, .ref p3, .ref q1, .ref q2, .ref q3, .ref q4])
    have k4 := nl k4 (o := .lst [.ref p1, .ref p2, .ref p3, .ref q1, .ref q2, .ref q3, .ref q4])
    have kp1 := nl kp1 (o := .lst [.ref p1, .ref p2, .ref p3, .ref q1, .ref q2, .ref q3, .ref q4])
    have kp2 := nl kp2 (o := .lst [.ref p1, .ref p2, .ref p3, .ref q1, .ref q2, .ref q3, .ref q4])
    have kp3 := nl kp3 (o := .lst [.ref p1, .ref p2, .ref p3, .ref q1, .ref q2, .ref q3, .ref q4])
    have ha7 := ha7 (o := .lst [.ref p1, .ref p2, .ref p3, .ref q1, .ref q2, .ref q3, .ref q4])
    have hl7 : mput M6 l (.lst [.ref p1, .ref p2, .ref p3, .ref q1, .ref q2, .ref q3, .ref q4]) l = _ := mput_same
    generalize mput M6 l (.lst [.ref p1, .ref p2, .ref p3, .ref q1, .ref q2, .ref q3, .ref q4]) = M7 at r7 k1 k2 k3 k4 kp1 kp2 kp3 ha7 hl7 ⊢
    simp [s3_write, runS, runE, runEs, tyA, hl7, ha7, flds, List.lookup, f6, strsP, seqA, newL]
    refine ⟨by omega, fun q5 e5 => ?_⟩
    obtain ⟨M8, hM8, t8, k5⟩ := fresh_put (o := .lst (.str "words" :: b.words.map PV.str)) e5
    rw [hM8]
    have hl8 := t8 _ _ hl7
    simp [bmA, hl8]
    refine ⟨by omega, ?_⟩
    have nl8 : ∀ {q : Addr} {s : String} {ps : List PV}, M8 q = some (.lst (.str s :: ps)) → ∀ {o : MO}, mput M8 l o q = some (.lst (.str s :: ps)) := fun {q s ps} h {o} => by
      rw [mput_ne (fun z => by rw [z, hl8] at h; simp at h)]; exact h
    have hlM : M l = none := by
      cases h : M l with
      | none => rfl
      | some o => have := ((t1.trans t2).trans t3) _ _ h; rw [e4] at this; cases this
    have r9 : Sub M (mput M8 l (.lst [.ref p1, .ref p2, .ref p3, .ref q1, .ref q2, .ref q3, .ref q4, .ref q5])) := (r7.trans t8).put hlM
    have k1 := nl8 (t8 _ _ k1) (o := .lst [.ref p1, .ref p2, .ref p3, .ref q1, .ref q2, .ref q3, .ref q4, .ref q5])
    have k2 := nl8 (t8 _ _ k2) (o := .lst [.ref p1, .ref p2, .ref p3, .ref q1, .ref q2, .ref q3, .ref q4, .ref q5])
    have k3 := nl8 (t8 _ _ k3) (o := .lst [.ref p1, .ref p2, .ref p3, .ref q1, .ref q2, .ref q3, .ref q4, .ref q5])
    have k4 := nl8 (t8 _ _ k4) (o := .lst [.ref p1, .ref p2, .ref p3, .ref q1, .ref q2, .ref q3, .ref q4, .ref q5])
    have k5 := nl8 k5 (o := .lst [.ref p1, .ref p2, .ref p3, .ref q1, .ref q2, .ref q3, .ref q4, .ref q5])
    have kp1 := nl8 (t8 _ _ kp1) (o := .lst [.ref p1, .ref p2, .ref p3, .ref q1, .ref q2, .ref q3, .ref q4, .ref q5])
    have kp2 := nl8 (t8 _ _ kp2) (o := .lst [.ref p1, .ref p2, .ref p3, .ref q1, .ref q2, .ref q3, .ref q4, .ref q5])
    have kp3 := nl8 (t8 _ _ kp3) (o := .lst [.ref p1, .ref p2, .ref p3, .ref q1, .ref q2, .ref q3, .ref q4, .ref q5])
    have hl9 : mput M8 l (.lst [.ref p1, .ref p2, .ref p3, .ref q1, .ref q2, .ref q3, .ref q4, .ref q5]) l = _ := mput_same
    generalize mput M8 l (.lst [.ref p1, .ref p2, .ref p3, .ref q1, .ref q2, .ref q3, .ref q4, .ref q5]) = M9 at r9 k1 k2 k3 k4 k5 kp1 kp2 kp3 hl9 ⊢
    -- the rows joined
    have all : ∀ x ∈ ([.ref p1, .ref p2, .ref p3, .ref q1, .ref q2, .ref q3, .ref q4, .ref q5] : List PV), ∃ p r, x = .ref p ∧ r ∈ rows b ∧ M9 p = some (.lst (r.map .str)) := by
      intro x hx
      simp only [List.mem_cons, List.not_mem_nil, or_false] at hx
      rcases hx with rfl | rfl | rfl | rfl | rfl | rfl | rfl | rfl
      · exact ⟨_, "people" :: b.people, rfl, by simp [rows], kp1⟩
      · exact ⟨_, ["longest", (b.longest : Int).repr], rfl, by simp [rows], kp2⟩
      · exact ⟨_, ["most", (b.most : Int).repr], rfl, by simp [rows], kp3⟩
      · exact ⟨_, ["back", b.r1], rfl, by simp [rows], k1⟩
      · exact ⟨_, ["count", b.r2], rfl, by simp [rows], k2⟩
      · exact ⟨_, ["end", b.r3], rfl, by simp [rows], k3⟩
      · exact ⟨_, ["gap", b.r4], rfl, by simp [rows], k4⟩
      · exact ⟨_, "words" :: b.words, rfl, by simp [rows], k5⟩
    simp [s4_write, runS, runE, runEs, tyA, runI, itA, hl9]
    intro D2 hD2
    refine lcF_map (Mb := M9) (f := rowOf M9) hD2 (fun M' s => s _ _ hl9) mput_same ((Sub.refl _).put hD2) (by simp) ?_ ?_
    · intro x hx M' h7 Kt Kf h8
      obtain ⟨p, r, rfl, hr, hp⟩ := all x hx
      have ro := rows_ok ok r hr
      have rl := row_len ro
      have hp' := h7 _ _ hp
      simp [runTg, runC, wipeG, E2_write, runE, runEs, tyA, bmA, seqA, hp', strsOf_map]
      refine ⟨by decide, by omega, by omega, ?_⟩
      have := h8 M' (Sub.refl M')
      rwa [rowOf_eq hp] at this
    · intro M10 h7 h8
      have e : ([.ref p1, .ref p2, .ref p3, .ref q1, .ref q2, .ref q3, .ref q4, .ref q5] : List PV).map (rowOf M9) = (lines b).map .str := by
        simp only [List.map_cons, List.map_nil]
        rw [rowOf_eq (ss := "people" :: b.people) kp1, rowOf_eq (ss := ["longest", (b.longest : Int).repr]) kp2, rowOf_eq (ss := ["most", (b.most : Int).repr]) kp3, rowOf_eq (ss := ["back", b.r1]) k1, rowOf_eq (ss := ["count", b.r2]) k2, rowOf_eq (ss := ["end", b.r3]) k3, rowOf_eq (ss := ["gap", b.r4]) k4, rowOf_eq (ss := "words" :: b.words) k5]
        rfl
      rw [e] at h8
      have tl := text_len ok
      have ll : (lines b).length = 8 := rfl
      simp [bmA, seqA, h8, strsOf_map]
      refine ⟨by decide, ?_, by omega, ?_⟩
      · show (textOf b).length ≤ _; omega
      · exact q _ (r9.trans h7)
end Law
end

section
set_option maxHeartbeats 4000000
/-! Line. -/
namespace Law
open PySem L2 Rx
def wordsS (t : String) : List String := (splitS ' ' t).filter (fun w => w != "")
def lineF (p : Addr) (n k : Nat) : List (String × PV) := [("parts", .ref p), ("number", .int n), ("spot", .int k)]
def LineAt (M : MM) (a : Addr) (ws : List String) (n k : Nat) : Prop := ∃ p, M a = some (.ins "Line" (lineF p n k)) ∧ M p = some (.lst (ws.map .str))
theorem fo_line : fieldOf "Line" "parts" = true ∧ fieldOf "Line" "number" = true ∧ fieldOf "Line" "spot" = true := by decide
def C_Line_init : Con := fun as M Q _ => ∃ (self : Addr) (t : String) (n : Nat), as = [.ref self, .str t, .int n] ∧ t.length ≤ 1000000 ∧ (splitS ' ' t).length ≤ 1000000 ∧ M self = some (.ins "Line" []) ∧ ∀ M', LineAt M' self (wordsS t) n 0 → Rest M M' self → Q .non M'
theorem run_Line_init {Γ : Gm} : Does Γ N_Line_init P_Line_init S_Line_init C_Line_init := by
  rintro as M Qa Ea ⟨self, t, n, rfl, hl, hl2, hs, q⟩ -
  obtain ⟨f1, f2, f3⟩ := fo_line
  simp [S_Line_init, N_Line_init, runSs]
  simp [s1_Line_init, runS, runE, runEs, runI, tyA, bmA, newL]
  refine ⟨hl, fun p0 e0 => ?_⟩
  obtain ⟨M1, hM1, t1, hp1⟩ := fresh_put (o := .lst ((splitS ' ' t).map PV.str)) e0
  rw [hM1]
  simp [itA, hp1]
  intro D hD
  refine lcF_go (Mb := M1) (f := fun x => match x with | .str s => if s = "" then none else some (.str s) | _ => none) hD (fun M' s => s _ _ hp1) mput_same ((Sub.refl _).put hD) (by simpa using hl2) ?_ ?_
  · intro x hx M' h3 Kt Kf h4 h5
    obtain ⟨z, hz, rfl⟩ := mem_map_str hx
    simp [runTg, runC, wipeG, T1_Line_init, runT, runE, cmpA, eqA, sEq]
    by_cases e : z = ""
    · rw [if_pos e]; exact h5 (by simp [e]) _ (Sub.refl _)
    · rw [if_neg e]; exact h4 _ (by simp [e]) _ (Sub.refl _)
  · intro M2 h3 h4
    have e : ([] : List PV) ++ ((splitS ' ' t).map PV.str).filterMap (fun x => match x with | .str s => if s = "" then none else some (.str s) | _ => none) = (wordsS t).map .str := by
      unfold wordsS
      rw [List.nil_append]
      induction splitS ' ' t with
      | nil => rfl
      | cons a r ih =>
        rw [List.map_cons, List.filterMap_cons, List.filter_cons]
        by_cases ea : a = ""
        · simp [ea]; simpa using ih
        · simp [ea]; simpa using ih
    rw [e] at h4
    have hs2 := h3 _ _ (t1 _ _ hs)
    have hDs : D ≠ self := fun z => by rw [z, t1 _ _ hs] at hD; cases hD
    simp [hs2, f1, putP]
    simp [s2_Line_init, runS, runE, mput_same, f2, putP, mput_mput]
    simp [s3_Line_init, runS, runE, mput_same, f3, putP, mput_mput]
    exact q _ ⟨D, mput_same, by rw [mput_ne hDs]; exact h4⟩ (((Rest.of_sub (t1.trans h3))).put)
def C_Line_now : Con := fun as M Q _ => ∃ (a : Addr) (ws : List String) (n k : Nat), as = [.ref a] ∧ LineAt M a ws n k ∧ Q (.str (ws[k]?.getD "")) M
theorem run_Line_now {Γ : Gm} : Does Γ N_Line_now P_Line_now S_Line_now C_Line_now := by
  rintro as M Qa Ea ⟨a, ws, n, k, rfl, ⟨p, h1, h2⟩, q⟩ -
  obtain ⟨f1, f2, f3⟩ := fo_line
  simp [S_Line_now, N_Line_now, runSs, runS, runE, runT, runEs, h1, lineF, List.lookup, f1, f3, biA, h2, cmpA]
  by_cases hk : k < ws.length
  · rw [if_pos hk]
    have e : atI (ws.map PV.str) (k : Int) = some (.str ws[k]) := atI_nat' (by simp [hk])
    simp [subA, h2, e]
    rw [List.getElem?_eq_getElem hk] at q
    exact q
  · rw [if_neg hk]
    rw [List.getElem?_eq_none (by omega)] at q
    exact q
/-- a word taken -/
def Took (M : MM) (a : Addr) (ws : List String) (n k : Nat) (Q : MM → Prop) : Prop := ∀ M', LineAt M' a ws n (k + 1) → Rest M M' a → Q M'
def C_Line_take : Con := fun as M Q _ => ∃ (a : Addr) (ws : List String) (n k : Nat) (w : String), as = [.ref a, .bl true] ∧ LineAt M a ws n k ∧ ws[k]? = some w ∧ w ≠ "" ∧ Took M a ws n k (Q (.str w))
theorem run_Line_take {Γ : Gm} (h1 : Γ.mt "Line" "now" = some (1, C_Line_now)) : Does Γ N_Line_take P_Line_take S_Line_take C_Line_take := by
  rintro as M Qa Ea ⟨a, ws, n, k, w, rfl, ⟨p, g1, g2⟩, hw, hne, q⟩ -
  obtain ⟨f1, f2, f3⟩ := fo_line
  have hpa : p ≠ a := fun z => by rw [z, g1] at g2; cases g2
  simp [S_Line_take, N_Line_take, runSs]
  simp [s1_Line_take, runS, runE, runTg, runEs, g1, lineF, List.lookup, h1]
  refine ⟨a, ws, n, k, rfl, ⟨p, g1, g2⟩, ?_⟩
  simp [hw, s2_Line_take, runS, runT, runE, cmpA, eqA, sEq, hne, truA, runSs]
  simp [s3_Line_take, runS, runE, g1, lineF, List.lookup, f3, augA, putP]
  simp [s4_Line_take, runS, runE]
  refine q _ ⟨p, ?_, ?_⟩ (Rest.refl M a).put
  · rw [mput_same]; rfl
  · rw [mput_ne hpa]; exact g2
def C_Line_one_of : Con := fun as M Q _ => ∃ (a : Addr) (ss ws : List String) (n k : Nat) (w : String), as = [.ref a, strsP ss] ∧ LineAt M a ws n k ∧ ws[k]? = some w ∧ w ≠ "" ∧ w ∈ ss ∧ Took M a ws n k (Q (.str w))
theorem run_Line_one_of {Γ : Gm} (h1 : Γ.mt "Line" "now" = some (1, C_Line_now)) (h2 : Γ.mt "Line" "take" = some (2, C_Line_take)) : Does Γ N_Line_one_of P_Line_one_of S_Line_one_of C_Line_one_of := by
  rintro as M Qa Ea ⟨a, ss, ws, n, k, w, rfl, ⟨p, g1, g2⟩, hw, hne, hin, q⟩ -
  simp [S_Line_one_of, N_Line_one_of, runSs, runS, runE, runEs, g1, lineF, List.lookup, h1, h2]
  refine ⟨a, ws, n, k, rfl, ⟨p, g1, g2⟩, ?_⟩
  simp [hw, cmpA, inA, strsP, sMem_str, hin]
  exact ⟨a, ws, n, k, w, rfl, ⟨p, g1, g2⟩, hw, hne, q⟩
def C_Line_take_name : Con := fun as M Q _ => ∃ (a : Addr) (ws : List String) (n k : Nat) (w : String), as = [.ref a] ∧ LineAt M a ws n k ∧ ws[k]? = some w ∧ nameB w = true ∧ Took M a ws n k (Q (.str w))
theorem name_ne {w : String} (h : nameB w = true) : w ≠ "" := by
  rintro rfl
  revert h; decide
theorem LineAt.sub {M M' : MM} {a : Addr} {ws : List String} {n k : Nat} (h : LineAt M a ws n k) (s : Sub M M') : LineAt M' a ws n k := by
  obtain ⟨p, h1, h2⟩ := h
  exact ⟨p, s _ _ h1, s _ _ h2⟩
theorem run_Line_take_name {Γ : Gm} (h1 : Γ.mt "Line" "now" = some (1, C_Line_now)) (h2 : Γ.mt "Line" "take" = some (2, C_Line_take)) (h3 : Γ.fn "is_name" = some (1, C_is_name)) : Does Γ N_Line_take_name P_Line_take_name S_Line_take_name C_Line_take_name := by
  rintro as M Qa Ea ⟨a, ws, n, k, w, rfl, ⟨p, g1, g2⟩, hw, hn, q⟩ -
  simp [S_Line_take_name, N_Line_take_name, runSs, runS, runE, runEs, g1, lineF, List.lookup, h1, h2, h3]
  refine ⟨a, ws, n, k, rfl, ⟨p, g1, g2⟩, ?_⟩
  simp [hw]
  refine ⟨w, rfl, by have := name_len hn; omega, fun M1 s1 => ?_⟩
  rw [hn]
  exact ⟨a, ws, n, k, w, rfl, ⟨p, s1 _ _ g1, s1 _ _ g2⟩, hw, name_ne hn, fun M' l r => q M' l ((Rest.of_sub s1).trans r)⟩
def C_Line_finish : Con := fun as M Q _ => ∃ (a : Addr) (ws : List String) (n : Nat), as = [.ref a] ∧ LineAt M a ws n ws.length ∧ Q .non M
theorem run_Line_finish {Γ : Gm} : Does Γ N_Line_finish P_Line_finish S_Line_finish C_Line_finish := by
  rintro as M Qa Ea ⟨a, ws, n, rfl, ⟨p, g1, g2⟩, q⟩ -
  obtain ⟨f1, f2, f3⟩ := fo_line
  simp [S_Line_finish, N_Line_finish, runSs, runS, runT, runE, runEs, g1, lineF, List.lookup, f1, f3, biA, g2, cmpA]
  exact q
end Law
end

section
set_option maxHeartbeats 4000000
/-! Reader, read_people, read_words. -/
namespace Law
open PySem L2 Rx
def readF (p : Addr) (k : Nat) : List (String × PV) := [("rows", .ref p), ("at", .int k)]
def ReaderAt (M : MM) (a : Addr) (ls : List String) (k : Nat) : Prop := ∃ p, M a = some (.ins "Reader" (readF p k)) ∧ M p = some (.lst (ls.map .str))
theorem ll_no {p : Addr} {n k : Nat} : (lineF p n k).lookup "now" = none ∧ (lineF p n k).lookup "take" = none ∧ (lineF p n k).lookup "one_of" = none ∧ (lineF p n k).lookup "take_name" = none ∧ (lineF p n k).lookup "finish" = none := ⟨rfl, rfl, rfl, rfl, rfl⟩
theorem rl_no {p : Addr} {k : Nat} : (readF p k).lookup "next_line" = none ∧ (readF p k).lookup "one_word" = none ∧ (readF p k).lookup "rows" = some (.ref p) ∧ (readF p k).lookup "at" = some (.int k) := ⟨rfl, rfl, rfl, rfl⟩
theorem fo_reader : fieldOf "Reader" "rows" = true ∧ fieldOf "Reader" "at" = true := by decide
def C_Reader_init : Con := fun as M Q _ => ∃ (self : Addr) (t : String), as = [.ref self, .str t] ∧ t.length ≤ 1000000 ∧ M self = some (.ins "Reader" []) ∧ ∀ M', ReaderAt M' self (splitS '\n' t) 0 → Rest M M' self → Q .non M'
theorem run_Reader_init {Γ : Gm} : Does Γ N_Reader_init P_Reader_init S_Reader_init C_Reader_init := by
  rintro as M Qa Ea ⟨self, t, rfl, hl, hs, q⟩ -
  obtain ⟨f1, f2⟩ := fo_reader
  simp [S_Reader_init, N_Reader_init, runSs, runS, runE, runEs, tyA, bmA, newL]
  refine ⟨hl, fun p e0 => ?_⟩
  have hps : self ≠ p := fun z => by rw [← z, hs] at e0; cases e0
  simp [mput_ne hps, hs, f1, f2, putP, mput_same, mput_mput]
  refine q _ ⟨p, mput_same, ?_⟩ (((Rest.refl M self).new e0).put)
  rw [mput_ne (Ne.symm hps)]; exact mput_same
def C_next_line : Con := fun as M Q _ => ∃ (a : Addr) (head : String) (ls rest : List String) (k : Nat) (line : String), as = [.ref a, .str head] ∧ ReaderAt M a ls k ∧ ls[k]? = some line ∧ line.length ≤ 1000000 ∧ (splitS ' ' line).length ≤ 1000000 ∧ wordsS line = head :: rest ∧ head ≠ "" ∧
  ∀ ln M', LineAt M' ln (head :: rest) (k + 1) 1 → ReaderAt M' a ls (k + 1) → M ln = none → Rest M M' a → Q (.ref ln) M'
theorem run_Reader_next_line {Γ : Gm} (h1 : Γ.mkc "Line" = some (3, C_Line_init)) (h2 : Γ.mt "Line" "one_of" = some (2, C_Line_one_of)) : Does Γ N_Reader_next_line P_Reader_next_line S_Reader_next_line C_next_line := by
  rintro as M Qa Ea ⟨a, head, ls, rest, k, line, rfl, ⟨p, g1, g2⟩, hk, hl1, hl2, hw, hne, q⟩ -
  obtain ⟨f1, f2⟩ := fo_reader
  have hlt := (List.getElem?_eq_some_iff.mp hk).1
  have hpa : p ≠ a := fun z => by rw [z, g1] at g2; cases g2
  simp [S_Reader_next_line, N_Reader_next_line, runSs]
  simp [s1_Reader_next_line, runS, runT, runE, runEs, g1, rl_no, f1, f2, biA, g2, cmpA, eqA, sEq, runSs]
  refine ⟨by omega, ?_⟩
  have e : atI (ls.map PV.str) (k : Int) = some (.str line) := atI_nat' (by simp [hk])
  simp [s2_Reader_next_line, runS, runE, runEs, runTg, h1, g1, rl_no, f1, f2, subA, g2, e, binA]
  intro x ex
  have hxa : x ≠ a := fun z => by rw [z, g1] at ex; cases ex
  refine ⟨x, line, k + 1, by simp, hl1, hl2, mput_same, fun M1 l1 r1 => ?_⟩
  simp
  have r1' : Sub M M1 := fun y o ey => by
    have hy : y ≠ x := fun z => by rw [z, ex] at ey; cases ey
    refine r1 y o hy ?_
    rw [mput_ne hy]; exact ey
  rw [hw] at l1
  obtain ⟨p1, w1, w2⟩ := id l1
  simp [s3_Reader_next_line, runS, runE, runEs, w1, ll_no, h2]
  refine ⟨by have := sz6; omega, x, [head], head :: rest, k + 1, 0, head, rfl, l1, rfl, hne, by simp, fun M2 l2 r2 => ?_⟩
  have g1' := r2 _ _ (Ne.symm hxa) (r1' _ _ g1)
  have hpx : p ≠ x := fun z => by rw [z, ex] at g2; cases g2
  have g2' := r2 _ _ hpx (r1' _ _ g2)
  simp [s4_Reader_next_line, runS, runE, g1', rl_no, f2, augA, readF, putP]
  simp [s5_Reader_next_line, runS, runE]
  obtain ⟨p2, v1, v2⟩ := l2
  have hp2a : p2 ≠ a := fun z => by rw [z, g1'] at v2; cases v2
  refine q x _ ⟨p2, ?_, ?_⟩ ⟨p, ?_, ?_⟩ ex ?_
  · rw [mput_ne hxa]; exact v1
  · rw [mput_ne hp2a]; exact v2
  · rw [mput_same]; rfl
  · rw [mput_ne hpa]; exact g2'
  · refine Rest.put fun y o hy ey => r2 y o (fun z => by rw [z, ex] at ey; cases ey) (r1' y o ey)
/-- a line changed beside the reader -/
theorem ReaderAt.rest {M M' : MM} {a x : Addr} {ls ws : List String} {k n j : Nat} (h : ReaderAt M a ls k) (l : LineAt M x ws n j) (r : Rest M M' x) : ReaderAt M' a ls k := by
  obtain ⟨p, h1, h2⟩ := h
  obtain ⟨p1, l1, _⟩ := l
  refine ⟨p, r _ _ (fun z => ?_) h1, r _ _ (fun z => ?_) h2⟩
  · rw [z, l1] at h1; simp at h1
  · rw [z, l1] at h2; cases h2
def C_one_word : Con := fun as M Q _ => ∃ (a : Addr) (head w : String) (ls ss : List String) (k : Nat) (line : String), as = [.ref a, .str head, strsP ss] ∧ ReaderAt M a ls k ∧ ls[k]? = some line ∧ line.length ≤ 1000000 ∧ (splitS ' ' line).length ≤ 1000000 ∧ wordsS line = [head, w] ∧ head ≠ "" ∧ w ≠ "" ∧ w ∈ ss ∧
  ∀ M', ReaderAt M' a ls (k + 1) → Rest M M' a → Q (.str w) M'
theorem run_Reader_one_word {Γ : Gm} (h1 : Γ.mt "Reader" "next_line" = some (2, C_next_line)) (h2 : Γ.mt "Line" "one_of" = some (2, C_Line_one_of)) (h3 : Γ.mt "Line" "finish" = some (1, C_Line_finish)) : Does Γ N_Reader_one_word P_Reader_one_word S_Reader_one_word C_one_word := by
  rintro as M Qa Ea ⟨a, head, w, ls, ss, k, line, rfl, ra, hk, hl1, hl2, hw, hne, hwe, hin, q⟩ -
  obtain ⟨p, g1, g2⟩ := id ra
  simp [S_Reader_one_word, N_Reader_one_word, runSs]
  simp [s1_Reader_one_word, runS, runE, runEs, runTg, g1, rl_no, h1]
  refine ⟨a, head, ls, [w], k, line, rfl, ra, hk, hl1, hl2, hw, hne, fun x M1 l1 ra1 ex r1 => ?_⟩
  obtain ⟨p1, w1, w2⟩ := id l1
  simp [s2_Reader_one_word, runS, runE, runEs, runTg, w1, ll_no, h2]
  refine ⟨x, ss, [head, w], k + 1, 1, w, rfl, l1, rfl, hwe, hin, fun M2 l2 r2 => ?_⟩
  obtain ⟨p2, v1, v2⟩ := id l2
  simp [s3_Reader_one_word, runS, runE, runEs, v1, ll_no, h3]
  refine ⟨x, [head, w], k + 1, rfl, l2, ?_⟩
  simp [s4_Reader_one_word, runS, runE]
  refine q _ (ra1.rest l1 r2) fun y o hy ey => r2 y o (fun z => by rw [z, ex] at ey; cases ey) (r1 y o hy ey)
def C_read_people : Con := fun as M Q _ => ∃ (ln : Addr) (ns : List String) (n : Nat), as = [.ref ln] ∧ LineAt M ln ("people" :: ns) n 1 ∧ 2 ≤ ns.length ∧ ns.length ≤ 3 ∧ (∀ s ∈ ns, nameB s = true) ∧ ∀ M', Rest M M' ln → Q (strsP ns) M'
theorem run_read_people {Γ : Gm} (h1 : Γ.mt "Line" "take_name" = some (1, C_Line_take_name)) (h2 : Γ.mt "Line" "now" = some (1, C_Line_now)) (h3 : Γ.mt "Line" "finish" = some (1, C_Line_finish)) : Does Γ N_read_people P_read_people S_read_people C_read_people := by
  rintro as M Qa Ea ⟨ln, ns, n, rfl, l0, n2, n3, hn, q⟩ -
  have h6 := sz6
  obtain ⟨x, y, r, rfl⟩ : ∃ x y r, ns = x :: y :: r := by
    rcases ns with _ | ⟨x, _ | ⟨y, r⟩⟩
    · simp at n2
    · simp at n2
    · exact ⟨x, y, r, rfl⟩
  obtain ⟨p, g1, g2⟩ := id l0
  simp [S_read_people, N_read_people, runSs]
  simp [s1_read_people, runS, runE, runEs, runTg, g1, ll_no, h1, newL]
  refine ⟨ln, _, n, 1, x, rfl, l0, rfl, hn x (by simp), fun M1 l1 r1 => ?_⟩
  obtain ⟨p1, w1, w2⟩ := id l1
  simp [w1, ll_no, h1]
  refine ⟨by intro a b h; simp [lineF] at h; rcases h with ⟨rfl, _⟩ | ⟨rfl, _⟩ | ⟨rfl, _⟩ <;> decide, ln, _, n, 2, y, rfl, l1, rfl, hn y (by simp), fun M2 l2 r2 => ?_⟩
  refine ⟨by omega, fun l el => ?_⟩
  obtain ⟨M3, hM3, t3, hl3⟩ := fresh_put (o := .lst [.str x, .str y]) el
  rw [hM3]
  have l3 := l2.sub t3
  have r3 : Rest M M3 ln := ((r1.trans r2).sub t3)
  obtain ⟨p3, v1, v2⟩ := id l3
  simp [s2_read_people, runS, runT, runE, runEs, v1, ll_no, h2, runSs]
  refine ⟨ln, _, n, 3, rfl, l3, ?_⟩
  rcases r with _ | ⟨z, _ | ⟨_, _⟩⟩
  · simp [cmpA, eqA, sEq]
    simp [s3_read_people, runS, runE, runEs, v1, ll_no, h3]
    refine ⟨ln, _, n, rfl, l3, ?_⟩
    simp [s4_read_people, runS, runE, runEs, biA, hl3]
    exact q _ r3
  · have hz := name_ne (hn z (by simp))
    have hlne : l ≠ ln := fun w => by obtain ⟨p', u1, _⟩ := l2; rw [w, u1] at el; cases el
    simp [cmpA, eqA, sEq, hz, tyA, hl3, v1, ll_no, h1]
    refine ⟨by intro a b h; simp [lineF] at h; rcases h with ⟨rfl, _⟩ | ⟨rfl, _⟩ | ⟨rfl, _⟩ <;> decide, ln, _, n, 3, z, rfl, l3, rfl, hn z (by simp), fun M4 l4 r4 => ?_⟩
    have hl4 := r4 _ _ hlne hl3
    simp [bmA, hl4]
    refine ⟨by omega, ?_⟩
    obtain ⟨p4, u1, u2⟩ := id l4
    have hl4l : l ≠ p4 := fun w => by rw [← w, hl4] at u2; simp at u2
    have u1' : mput M4 l (.lst [.str x, .str y, .str z]) ln = _ := (mput_ne (Ne.symm hlne)).trans u1
    have l5 : LineAt (mput M4 l (.lst [.str x, .str y, .str z])) ln ["people", x, y, z] n 4 := ⟨p4, u1', by rw [mput_ne (Ne.symm hl4l)]; exact u2⟩
    simp [s3_read_people, runS, runE, runEs, u1', ll_no, h3]
    refine ⟨ln, _, n, rfl, l5, ?_⟩
    simp [s4_read_people, runS, runE, runEs, biA, mput_same]
    refine q _ fun b o hb eb => ?_
    have e3 := r4 b o hb (r3 b o hb eb)
    rw [mput_ne (fun w => by
      subst w
      have := (r1.trans r2) _ _ hb eb
      rw [el] at this; cases this)]
    exact e3
  · simp at n3
def C_read_words : Con := fun as M Q _ => ∃ (ln : Addr) (ws : List String) (n : Nat), as = [.ref ln] ∧ LineAt M ln ("words" :: ws) n 1 ∧ ws.length ≤ 5 ∧ (∀ s ∈ ws, s ∈ WORDS) ∧ ∀ M', Rest M M' ln → Q (strsP ws) M'
theorem words_ne {w : String} (h : w ∈ WORDS) : w ≠ "" := by
  rintro rfl
  revert h; decide
theorem run_read_words {Γ : Gm} (K : Consts Γ) (h1 : Γ.mt "Line" "one_of" = some (2, C_Line_one_of)) (h2 : Γ.mt "Line" "now" = some (1, C_Line_now)) : Does Γ N_read_words P_read_words S_read_words C_read_words := by
  rintro as M Qa Ea ⟨ln, ws, n, rfl, l0, n5, hn, q⟩ -
  have h6 := sz6
  simp [S_read_words, N_read_words, runSs]
  simp [s1_read_words, runS, runE, runEs, runTg, newL]
  intro l el
  obtain ⟨M1, hM1, t1, hl1⟩ := fresh_put (o := .lst []) el
  rw [hM1]
  have hlne : l ≠ ln := fun w => by obtain ⟨p', u1, _⟩ := l0; rw [w, u1] at el; cases el
  simp [s2_read_words, runS]
  refine ⟨fun m g M2 => ∃ k, m + k = ws.length ∧ g = [some (.ref ln), some (.ref l)] ∧ LineAt M2 ln ("words" :: ws) n (k + 1) ∧ M2 l = some (.lst ((ws.take k).map .str)) ∧ Rest M M2 ln, ⟨ws.length, 0, by omega, rfl, l0.sub t1, by simpa using hl1, Rest.of_sub t1⟩, ?_⟩
  rintro m g M2 ⟨k, hk, rfl, l2, hl2, r2⟩
  obtain ⟨p2, v1, v2⟩ := id l2
  simp [T1_read_words, runT, runE, runEs, v1, ll_no, h2]
  refine ⟨ln, _, n, k + 1, rfl, l2, ?_⟩
  by_cases hlt : k < ws.length
  · have hw : ws[k]? = some ws[k] := List.getElem?_eq_getElem hlt
    have hin := hn ws[k] (List.getElem_mem hlt)
    have hwe := words_ne hin
    simp [hw, cmpA, eqA, sEq, hwe]
    simp [B2_read_words, runSs, runS, runE, runEs, tyA, hl2, v1, ll_no, h1, K.words]
    refine ⟨ln, WORDS, _, n, k + 1, ws[k], rfl, l2, by simp [hw], hwe, hin, fun M3 l3 r3 => ?_⟩
    have hl3 := r3 _ _ hlne hl2
    simp [bmA, hl3]
    refine ⟨by omega, ?_⟩
    obtain ⟨p3, u1, u2⟩ := id l3
    have hl3l : p3 ≠ l := fun w => by
      rw [w, hl3] at u2
      have := congrArg List.length (MO.lst.inj (Option.some.inj u2))
      simp at this; omega
    refine ⟨_, _, SSub.refl _, Sub.refl _, m - 1, by omega, k + 1, by omega, rfl, ⟨p3, ?_, ?_⟩, ?_, ?_⟩
    · rw [mput_ne (Ne.symm hlne)]; exact u1
    · rw [mput_ne hl3l]; exact u2
    · have et : ws.take (k + 1) = ws.take k ++ [ws[k]] := by rw [List.take_succ, hw]; rfl
      have et2 := congrArg (List.map PV.str) et
      rw [List.map_append, List.map_take, List.map_take] at et2
      rw [mput_same, et2]; simp
    · intro b o hb eb
      rw [mput_ne (fun w => by subst w; rw [el] at eb; cases eb)]
      exact r3 b o hb (r2 b o hb eb)
  · have hw : ws[k]? = none := List.getElem?_eq_none (by omega)
    simp [hw, cmpA, eqA, sEq]
    simp [s3_read_words, runS, runE, runEs, biA, hl2]
    have e : ws.take k = ws := List.take_of_length_le (by omega)
    have eq : ws.map PV.str = List.take k (ws.map PV.str) := by rw [← List.map_take, e]
    have := q _ r2
    unfold strsP at this
    rw [eq] at this
    exact this
end Law
end

section
set_option maxHeartbeats 4000000
/-! read. -/
namespace Law
open PySem L2 Rx
def C_read : Con := fun as M Q _ => ∃ (t : String) (b : Bk), as = [.str t] ∧ t.length ≤ 1000000 ∧ (splitS '\n' t).map wordsS = rows b ∧ (∀ l ∈ splitS '\n' t, l.length ≤ 1000000 ∧ (splitS ' ' l).length ≤ 1000000) ∧ BkOk b ∧
  ∀ a M', BookAt M' a b → Sub M M' → Q (.ref a) M'
theorem int_text {n : Nat} (h : n ≤ 2) : PySem.intText? (Str.ofString (n : Int).repr) = some (n : Int) := by
  have : n = 0 ∨ n = 1 ∨ n = 2 := by omega
  rcases this with rfl | rfl | rfl <;> decide +kernel
theorem Rest.via {M1 M2 M3 : MM} {x ln : Addr} (e : M1 ln = none) (r2 : Rest M1 M2 x) (r3 : Rest M2 M3 ln) : Rest M1 M3 x := fun y o hy ey => r3 y o (fun z => by rw [z, e] at ey; cases ey) (r2 y o hy ey)
theorem eight {ls : List String} {b : Bk} (h : ls.map wordsS = rows b) : ∃ l0 l1 l2 l3 l4 l5 l6 l7, ls = [l0, l1, l2, l3, l4, l5, l6, l7] ∧ wordsS l0 = "people" :: b.people ∧ wordsS l1 = ["longest", (b.longest : Int).repr] ∧ wordsS l2 = ["most", (b.most : Int).repr] ∧
    wordsS l3 = ["back", b.r1] ∧ wordsS l4 = ["count", b.r2] ∧ wordsS l5 = ["end", b.r3] ∧ wordsS l6 = ["gap", b.r4] ∧ wordsS l7 = "words" :: b.words := by
  have hlen := congrArg List.length h
  unfold rows at h hlen
  rcases ls with _ | ⟨l0, _ | ⟨l1, _ | ⟨l2, _ | ⟨l3, _ | ⟨l4, _ | ⟨l5, _ | ⟨l6, _ | ⟨l7, ls⟩⟩⟩⟩⟩⟩⟩⟩
  all_goals first
    | (simp at hlen; done)
    | skip
  simp only [List.map_cons, List.cons.injEq, List.map_eq_nil_iff] at h
  obtain ⟨h0, h1, h2, h3, h4, h5, h6, h7, rfl⟩ := h
  exact ⟨l0, l1, l2, l3, l4, l5, l6, l7, rfl, h0, h1, h2, h3, h4, h5, h6, h7⟩
theorem at_ne {b : Bk} (r : RuleOk b) {p : String} (h : p ∈ PARTS) : b.at p ≠ "" := by
  have h1 := r.at h
  simp [PARTS] at h
  rcases h with rfl | rfl | rfl | rfl <;> (intro z; rw [z] at h1; revert h1; decide)
theorem run_read {Γ : Gm} (K : Consts Γ) (h1 : Γ.mkc "Reader" = some (2, C_Reader_init)) (h2 : Γ.mt "Reader" "next_line" = some (2, C_next_line)) (h3 : Γ.fn "read_people" = some (1, C_read_people)) (h4 : Γ.mt "Reader" "one_word" = some (3, C_one_word))
    (h5 : Γ.fn "read_words" = some (1, C_read_words)) (h6 : Γ.mkc "Book" = some (6, C_Book_init)) : Does Γ N_read P_read S_read C_read := by
  rintro as M Qa Ea ⟨t, b, rfl, hl, hls, hll, ok, q⟩ -
  obtain ⟨f1, f2⟩ := fo_reader
  obtain ⟨l0, l1, l2, l3, l4, l5, l6, l7, els, k0, k1, k2, k3, k4, k5, k6, k7⟩ := eight hls
  generalize hL : splitS '\n' t = ls at hls hll els
  have hb : ∀ {i : Nat} {l : String}, ls[i]? = some l → l.length ≤ 1000000 ∧ (splitS ' ' l).length ≤ 1000000 := fun h => hll _ (List.mem_of_getElem? h)
  simp [S_read, N_read, runSs]
  simp [s1_read, runS, runE, runEs, runTg, h1]
  intro x ex
  refine ⟨x, t, rfl, hl, mput_same, fun M1 ra1 r1 => ?_⟩
  rw [hL] at ra1
  simp
  have u1 : Sub M M1 := fun y o ey => r1 y o (fun z => by rw [z, ex] at ey; cases ey) ((Sub.new ex) y o ey)
  obtain ⟨p1, v1, w1⟩ := id ra1
  simp [s2_read, runS, runE, runEs, runTg, v1, rl_no, h2, h3]
  have i0 : ls[0]? = some l0 := by rw [els]; rfl
  refine ⟨x, "people", ls, b.people, 0, l0, rfl, ra1, i0, (hb i0).1, (hb i0).2, k0, by decide, fun n2 M2 a2 ra2 e2 r2 => ?_⟩
  refine ⟨n2, b.people, 1, rfl, a2, ok.people.1, ok.people.2.1, ok.people.2.2.1, fun M3 r3 => ?_⟩
  have ra3 := ra2.rest a2 r3
  have r13 := Rest.via e2 r2 r3
  obtain ⟨p3, v3, w3⟩ := id ra3
  simp [s3_read, runS, runE, runEs, v3, rl_no, h4, K.digits]
  have i1 : ls[1]? = some l1 := by rw [els]; rfl
  have nl := num_len ok.l
  have nm := num_len ok.m
  have ne_dig : ∀ {s : String}, s ∈ DIGITS → s ≠ "" := fun {s} h => by rintro rfl; revert h; decide
  refine ⟨x, "longest", (b.longest : Int).repr, ls, DIGITS, 1, l1, rfl, ra3, i1, (hb i1).1, (hb i1).2, k1, by decide, ne_dig nl.2, nl.2, fun M4 ra4 r4 => ?_⟩
  obtain ⟨p4, v4, w4⟩ := id ra4
  simp [biA, int_text ok.l, v4, rl_no, h4]
  refine ⟨by omega, ?_⟩
  have i2 : ls[2]? = some l2 := by rw [els]; rfl
  refine ⟨by intro a b h; simp [readF] at h; rcases h with ⟨rfl, _⟩ | ⟨rfl, _⟩ <;> decide, x, "most", (b.most : Int).repr, ls, DIGITS, 2, l2, rfl, ra4, i2, (hb i2).1, (hb i2).2, k2, by decide, ne_dig nm.2, nm.2, fun M5 ra5 r5 => ?_⟩
  simp [int_text ok.m]
  refine ⟨by omega, ?_⟩
  have r15 : Rest M1 M5 x := (r13.trans r4).trans r5
  simp [s4_read, runS, runE, runI, itA, K.rules, rulesP]
  intro D hD
  have hDx : D ≠ x := fun z => by obtain ⟨p5, v5, _⟩ := ra5; rw [z, v5] at hD; cases hD
  have ek2 : RULES.map ((fun q => PV.str q.1) ∘ fun q => (q.1, strsP q.2)) = PARTS.map PV.str := rfl
  rw [ek2]
  refine dcF_inv (fun xs acc M' => ∃ j, j ≤ 4 ∧ xs = (PARTS.drop j).map PV.str ∧ acc = b.rule.take j ∧ M' D = some (.kdc acc) ∧ ReaderAt M' x ls (3 + j) ∧ Rest M5 M' x) ?_ ?_ ?_ ?_ ?_
  · intro _ _ _ _; exact True.intro
  · rintro xs acc M' ⟨j, hj, -, rfl, -⟩
    simp [rule_len]; omega
  · rintro acc M6 ⟨j, hj, hx, rfl, hD6, ra6, r6⟩
    have ej : j = 4 := by
      have := congrArg List.length hx
      simp [PARTS] at this; omega
    subst ej
    have e4 : b.rule.take 4 = b.rule := rfl
    rw [e4] at hD6 ⊢
    refine ⟨hD6, ?_⟩
    obtain ⟨M7, hM7, v7⟩ : ∃ M7, mput M6 D (.dct b.rule) = M7 ∧ M7 D = some (.dct b.rule) := ⟨_, rfl, mput_same⟩
    rw [hM7]
    have r7 : Rest M5 M7 x := fun y o hy ey => by
      rw [← hM7, mput_ne (fun z => by rw [z, hD] at ey; cases ey)]
      exact r6 y o hy ey
    have ra7 : ReaderAt M7 x ls 7 := by
      obtain ⟨p, c1, c2⟩ := ra6
      have hpD : p ≠ D := fun z => by rw [z, hD6] at c2; cases c2
      exact ⟨p, by rw [← hM7, mput_ne (Ne.symm hDx)]; exact c1, by rw [← hM7, mput_ne hpD]; exact c2⟩
    obtain ⟨p7, c1, c2⟩ := id ra7
    simp [s5_read, runS, runE, runEs, runTg, c1, rl_no, h2, h5]
    have i7 : ls[7]? = some l7 := by rw [els]; rfl
    refine ⟨x, "words", ls, b.words, 7, l7, rfl, ra7, i7, (hb i7).1, (hb i7).2, k7, by decide, fun n8 M8 a8 ra8 e8 r8 => ?_⟩
    refine ⟨n8, b.words, 8, rfl, a8, ok.words.1, ok.words.2.1, fun M9 r9 => ?_⟩
    have ra9 := ra8.rest a8 r9
    have r79 := Rest.via e8 r8 r9
    obtain ⟨p9, d1, d2⟩ := id ra9
    simp [s6_read, runS, runT, runE, runEs, d1, rl_no, f1, f2, biA, d2, cmpA, els, runSs]
    simp [s7_read, runS, runE, runEs, h6]
    intro a ea
    have hD9 : M9 D = some (.dct b.rule) := r79 _ _ hDx v7
    have hDa : D ≠ a := fun z => by rw [← z, hD9] at ea; cases ea
    refine ⟨a, D, b, rfl, ok, mput_same, by rw [mput_ne hDa]; exact hD9, fun M10 bk r10 => ?_⟩
    simp
    refine q a M10 bk ?_
    have rr : Rest M1 M9 x := ((r15.trans r7).trans r79)
    intro y o ey
    have hyx : y ≠ x := fun z => by rw [z, ex] at ey; cases ey
    have e9 := rr y o hyx (u1 y o ey)
    have hya : y ≠ a := fun z => by rw [z, ea] at e9; cases e9
    exact r10 y o hya (by rw [mput_ne hya]; exact e9)
  · rintro z0 xs acc M' ⟨j, hj, hx, rfl, hDm, ram, rm⟩ Kt Kf hK
    obtain ⟨pm, c1, c2⟩ := id ram
    have main : ∀ (z : String) (l : String) (hz : z ∈ PARTS), z0 = .str z → xs = (PARTS.drop (j + 1)).map PV.str → j + 1 ≤ 4 → ls[3 + j]? = some l → wordsS l = [z, b.at z] → dPut (b.rule.take j) (.str z) (.str (b.at z)) = b.rule.take (j + 1) →
        runTg Γ (Tg.name 7) noX z0 (wipeG [some (.str t), some (.ref x), some (strsP b.people), some (.int b.longest), some (.int b.most), none, none, none] [7]) M' fun g2 M2 => runC Γ Oe.none noX g2 M2 fun b M3 => if b = true then runE Γ (E.var 7) noX g2 M3 fun y M4 => runE Γ E1_read noX g2 M4 fun z M5 => Kt y z M5 else Kf M3 := by
      intro z l hz e1 e2 e3 e4 e5 e6
      subst e1
      simp [runTg, runC, wipeG, E1_read, runE, runEs, c1, rl_no, h4, K.rules, rulesP, subA, rules_at hz]
      have hzne : z ≠ "" := by rintro rfl; revert hz; decide
      refine ⟨x, z, b.at z, ls, wordsOf z, 3 + j, l, rfl, ram, e4, (hb e4).1, (hb e4).2, e5, hzne, at_ne ok.rule hz, ok.rule.at hz, fun M6 ra6 r6 => ?_⟩
      have hD6 := r6 _ _ hDx hDm
      refine hK _ _ _ rfl hD6 ⟨j + 1, e3, e2, e6, ?_, ?_, ?_⟩
      · rw [mput_same, e6]
      · obtain ⟨p, g1, g2⟩ := ra6
        have hpD : p ≠ D := fun w => by rw [w, hD6] at g2; cases g2
        exact ⟨p, by rw [mput_ne (Ne.symm hDx)]; exact g1, by rw [mput_ne hpD]; exact g2⟩
      · intro y o hy ey
        rw [mput_ne (fun w => by rw [w, hD] at ey; cases ey)]
        exact r6 y o hy (rm y o hy ey)
    have hj4 : j < 4 := by
      have := congrArg List.length hx
      simp [PARTS] at this; omega
    have hj' : j = 0 ∨ j = 1 ∨ j = 2 ∨ j = 3 := by omega
    rcases hj' with rfl | rfl | rfl | rfl
    · have hx2 : z0 = .str "back" ∧ xs = [.str "count", .str "end", .str "gap"] := by simpa [PARTS] using hx
      exact main "back" l3 (by decide) hx2.1 hx2.2 (by omega) (by rw [els]; rfl) k3 (by simp [Bk.rule, Bk.at, dPut_nil])
    · have hx2 : z0 = .str "count" ∧ xs = [.str "end", .str "gap"] := by simpa [PARTS] using hx
      exact main "count" l4 (by decide) hx2.1 hx2.2 (by omega) (by rw [els]; rfl) k4 (by simp [Bk.rule, Bk.at, dPut_nil, dPut_str])
    · have hx2 : z0 = .str "end" ∧ xs = [.str "gap"] := by simpa [PARTS] using hx
      exact main "end" l5 (by decide) hx2.1 hx2.2 (by omega) (by rw [els]; rfl) k5 (by simp [Bk.rule, Bk.at, dPut_nil, dPut_str])
    · have hx2 : z0 = .str "gap" ∧ xs = [] := by simpa [PARTS] using hx
      exact main "gap" l6 (by decide) hx2.1 hx2.2 (by omega) (by rw [els]; rfl) k6 (by simp [Bk.rule, Bk.at, dPut_nil, dPut_str])
  · refine ⟨0, by omega, rfl, rfl, mput_same, ?_, (Rest.refl M5 x).new hD⟩
    obtain ⟨p, g1, g2⟩ := ra5
    have hpD : p ≠ D := fun w => by rw [w, hD] at g2; cases g2
    exact ⟨p, by rw [mput_ne (Ne.symm hDx)]; exact g1, by rw [mput_ne hpD]; exact g2⟩
end Law
end

section
set_option maxHeartbeats 4000000
/-! the law's draws. -/
namespace Law
open PySem L2 Rx
def rowL (c : Addr) (i x y : Int) : MO := .lst [.ref c, .int i, .int x, .int y]
def RowAt (M : MM) (r : Addr) : Prop := ∃ c ns i x y, M r = some (rowL c i x y) ∧ M c = some (.lst ((ns : List Int).map .int)) ∧ 0 ≤ i ∧ 0 ≤ x
theorem RowAt.sub {M M' : MM} {r : Addr} (h : RowAt M r) (s : Sub M M') : RowAt M' r := by
  obtain ⟨c, ns, i, x, y, h1, h2, h3⟩ := h
  exact ⟨c, ns, i, x, y, s _ _ h1, s _ _ h2, h3⟩
def C_draws : Con := fun as M Q _ => ∃ (p : PV) (ns : List Int), as = [p] ∧ ns.length ≤ 1000 ∧ seqA p M = some (ns.map .int) ∧ ∀ r M', RowAt M' r → Sub M M' → M r = none → Q (.ref r) M'
theorem ix40 {α : Type} (a b c d : α) : atI [a, b, c, d] (0 : Int) = some a ∧ atI [a, b, c, d] (1 : Int) = some b ∧ atI [a, b, c, d] (2 : Int) = some c ∧ atI [a, b, c, d] (3 : Int) = some d := ⟨rfl, rfl, rfl, rfl⟩
theorem ix4s : ixN 4 0 = some 0 ∧ ixN 4 1 = some 1 ∧ ixN 4 2 = some 2 ∧ ixN 4 3 = some 3 := ⟨rfl, rfl, rfl, rfl⟩
theorem run_draws {Γ : Gm} : Does Γ N_law_draws P_law_draws S_law_draws C_draws := by
  rintro as M Qa Ea ⟨p, ns, rfl, hl, hp, q⟩ -
  have h6 := sz6
  simp [S_law_draws, N_law_draws, runSs, runS, runE, runEs]
  have main : newL (ns.map PV.int) M fun p M1 => 4 ≤ sizeLine ∧ newL [p, .int 0, .int 0, .int 7] M1 Qa := by
    intro c ec
    obtain ⟨M1, hM1, t1, hc⟩ := fresh_put (o := .lst (ns.map PV.int)) ec
    rw [hM1]
    refine ⟨by omega, fun r er => ?_⟩
    refine q r _ ⟨c, ns, 0, 0, 7, mput_same, ?_, by omega, by omega⟩ (t1.trans (Sub.new er)) (t1.fresh er)
    exact (Sub.new er) _ _ hc
  unfold seqA at hp
  split at hp
  · cases hp; exact main
  · cases hp; exact main
  · split at hp
    · rename_i h; cases hp; simpa [biA, h] using main
    · cases hp
  · cases hp
def Cell (M : MM) (r c : Addr) : Prop := ∃ i x y, M r = some (rowL c i x y)
def C_pick : Con := fun as M Q _ => ∃ (r : Addr) (n : Int), as = [.ref r, .int n] ∧ 1 ≤ n ∧ n ≤ 100 ∧ RowAt M r ∧ ∀ (v : Nat) M', (v : Int) < n → RowAt M' r → (∀ c, Cell M r c → Cell M' r c) → Rest M M' r → Q (.int v) M'
theorem cmul_r {i j : Int} (h1 : -(2 ^ 64) < j) (h2 : j < 2 ^ 64) : CMul i j := .inr ⟨h1, h2⟩
theorem run_pick {Γ : Gm} : Does Γ N_law_pick P_law_pick S_law_pick C_pick := by
  rintro as M Qa Ea ⟨r, n, rfl, n1, n2, ⟨c, ns, i, x, y, hr, hc, hi, hx⟩, q⟩ -
  have hcr : c ≠ r := fun z => by
    rw [z, hr] at hc
    cases ns with
    | nil => simp [rowL] at hc
    | cons a t => simp [rowL] at hc
  have one : ∀ c', Cell M r c' → c' = c := fun c' ⟨i', x', y', h⟩ => by
    rw [hr] at h; simp [rowL] at h; exact h.1.symm
  simp [S_law_pick, N_law_pick, runSs]
  -- behind the first statement
  have tail : ∀ (g2 : Option PV) (M1 : MM) (i x y : Int), M1 r = some (rowL c i x y) → M1 c = some (.lst (ns.map .int)) → 0 ≤ i → 0 ≤ x → Rest M M1 r →
      runS Γ (fun x x_1 M => Ea x M) s2_law_pick { nx := fun g' M' => runS Γ (fun x x_1 M => Ea x M) s3_law_pick { nx := fun x M => Qa PV.non M, rt := Qa } g' M', rt := Qa } [some (.ref r), some (.int n), g2, none] M1 := by
    intro g2 M1 i x y hr hc hi hx rest
    simp [s2_law_pick, runS, runT, runE, runEs, runSs, subA, hr, rowL, ix40, cmpA, biA, binA, runTg, setA, ix4s]
    by_cases h0 : 0 < x
    · rw [if_pos h0]
      have hd : CDiv x n := ⟨by omega, by omega⟩
      have hv : 0 ≤ x % n := Int.emod_nonneg _ (by omega)
      have hv2 : x % n < n := Int.emod_lt_of_pos _ (by omega)
      refine ⟨by omega, hd, ?_⟩
      have := q (x % n).toNat (mput M1 r (rowL c i (x / n) y)) (by omega) ⟨c, ns, i, x / n, y, mput_same, by rw [mput_ne hcr]; exact hc, hi, Int.ediv_nonneg hx (by omega)⟩ (fun c' h => by rw [one c' h]; exact ⟨_, _, _, mput_same⟩) rest.put
      rw [Int.toNat_of_nonneg hv] at this
      exact this
    · rw [if_neg h0]
      simp [s3_law_pick, runS, runE, runEs, subA, hr, rowL, ix40, biA, binA]
      have hv : 0 ≤ y * 16807 % 2147483629 % n := Int.emod_nonneg _ (by omega)
      have hv2 : y * 16807 % 2147483629 % n < n := Int.emod_lt_of_pos _ (by omega)
      refine ⟨cmul_r (by omega) (by omega), by omega, ?_⟩
      have := q (y * 16807 % 2147483629 % n).toNat M1 (by omega) ⟨c, ns, i, x, y, hr, hc, hi, hx⟩ (fun c' h => by rw [one c' h]; exact ⟨_, _, _, hr⟩) rest
      rw [Int.toNat_of_nonneg hv] at this
      exact this
  simp [s1_law_pick, runS, runT, runE, runEs, runSs, subA, hr, rowL, ix40, cmpA, eqA, sEq, biA, hc, binA, runTg, setA, ix4s, mput_same]
  by_cases hx0 : x = 0
  · rw [if_pos hx0]
    subst hx0
    by_cases hil : i < (ns.length : Int)
    · rw [if_pos hil]
      have hlt : i.toNat < ns.length := by omega
      have e : atI (ns.map PV.int) i = some (.int ns[i.toNat]) := by
        have := atI_nat' (xs := ns.map PV.int) (k := i.toNat) (x := .int ns[i.toNat]) (by simp [hlt])
        rwa [Int.toNat_of_nonneg hi] at this
      simp [e, mput_mput]
      refine ⟨⟨by omega, by omega, by decide⟩, ?_⟩
      have hc' : ∀ o, mput M r o c = some (.lst (ns.map .int)) := fun o => by rw [mput_ne hcr]; exact hc
      by_cases hbig : (1000000000000000000 : Int) ≤ ns[i.toNat]
      · rw [if_pos hbig]
        exact tail _ _ (i + 1) _ _ mput_same (hc' _) (by omega) (by omega) (Rest.refl M r).put
      · rw [if_neg hbig]
        refine ⟨cmul_r (by omega) (by omega), cmul_r (by omega) (by omega), ?_⟩
        exact tail _ _ (i + 1) _ _ mput_same (hc' _) (by omega) (by omega) (Rest.refl M r).put
    · rw [if_neg hil]
      refine ⟨cmul_r (by omega) (by omega), ?_⟩
      exact tail _ _ i _ _ mput_same (by rw [mput_ne hcr]; exact hc) (by omega) (by omega) (Rest.refl M r).put
  · rw [if_neg hx0]
    exact tail _ _ i _ _ hr hc hi hx (Rest.refl M r)
/-- the parts and their words -/
def PartsAt (M : MM) (p : Addr) : Prop := ∃ l1 l2 l3 l4, M p = some (.lst [.tup [.str "back", .ref l1], .tup [.str "count", .ref l2], .tup [.str "end", .ref l3], .tup [.str "gap", .ref l4]]) ∧
  M l1 = some (.lst [.str "both", .str "ends", .str "stays"]) ∧ M l2 = some (.lst [.str "all", .str "direct", .str "handed"]) ∧ M l3 = some (.lst [.str "falls", .str "stays"]) ∧ M l4 = some (.lst [.str "next", .str "none", .str "owner"])
def C_parts : Con := fun as M Q _ => as = [] ∧ ∀ p M', PartsAt M' p → Sub M M' → M p = none → Q (.ref p) M'
theorem run_parts {Γ : Gm} : Does Γ N_law_parts P_law_parts S_law_parts C_parts := by
  rintro as M Qa Ea ⟨rfl, q⟩ -
  have h6 := sz6
  have z2 : 2 ≤ sizeLine := by omega
  have z3 : 3 ≤ sizeLine := by omega
  simp [S_law_parts, N_law_parts, runSs, runS, runE, runEs, runTg, newL, z2, z3]
  intro l1 e1
  obtain ⟨M1, hM1, t1, k1⟩ := fresh_put (o := .lst [.str "both", .str "ends", .str "stays"]) e1
  rw [hM1]
  intro l2 e2
  obtain ⟨M2, hM2, t2, k2⟩ := fresh_put (o := .lst [.str "all", .str "direct", .str "handed"]) e2
  rw [hM2]
  intro p e3
  obtain ⟨M3, hM3, t3, k3⟩ := fresh_put (o := .lst [.tup [.str "back", .ref l1], .tup [.str "count", .ref l2]]) e3
  rw [hM3]
  intro l3 e4
  obtain ⟨M4, hM4, t4, k4⟩ := fresh_put (o := .lst [.str "falls", .str "stays"]) e4
  rw [hM4]
  intro l4 e5
  obtain ⟨M5, hM5, t5, k5⟩ := fresh_put (o := .lst [.str "next", .str "none", .str "owner"]) e5
  rw [hM5]
  intro p2 e6
  obtain ⟨M6, hM6, t6, k6⟩ := fresh_put (o := .lst [.tup [.str "end", .ref l3], .tup [.str "gap", .ref l4]]) e6
  rw [hM6]
  have k3' := t6 _ _ (t5 _ _ (t4 _ _ k3))
  simp [binA, k6, k3']
  refine ⟨by omega, fun p3 e7 => ?_⟩
  have t7 := Sub.new (o := .lst [.tup [.str "back", .ref l1], .tup [.str "count", .ref l2], .tup [.str "end", .ref l3], .tup [.str "gap", .ref l4]]) e7
  have tt := ((((t1.trans t2).trans t3).trans t4).trans t5).trans t6
  refine q p3 _ ⟨l1, l2, l3, l4, mput_same, ?_, ?_, ?_, ?_⟩ (tt.trans t7) (tt.fresh e7)
  · exact t7 _ _ (t6 _ _ (t5 _ _ (t4 _ _ (t3 _ _ (t2 _ _ k1)))))
  · exact t7 _ _ (t6 _ _ (t5 _ _ (t4 _ _ (t3 _ _ k2))))
  · exact t7 _ _ (t6 _ _ (t5 _ _ k4))
  · exact t7 _ _ (t6 _ _ k5)
end Law
end

section
set_option maxHeartbeats 4000000
/-! the drawn rule, people. -/
namespace Law
open PySem L2 Rx
def kvOf (ws : List String) : List (PV × PV) := (PARTS.zip ws).map fun q => (.str q.1, .str q.2)
def WsOk (ws : List String) : Prop := ∀ (i : Nat) (w : String), ws[i]? = some w → ∃ z, PARTS[i]? = some z ∧ w ∈ wordsOf z
def itemsL (l1 l2 l3 l4 : Addr) : List PV := [.tup [.str "back", .ref l1], .tup [.str "count", .ref l2], .tup [.str "end", .ref l3], .tup [.str "gap", .ref l4]]
def C_law_rule : Con := fun as M Q _ => ∃ r : Addr, as = [.ref r] ∧ RowAt M r ∧ ∀ d M' (b : Bk), RuleOk b → M' d = some (.dct b.rule) → RowAt M' r → Rest M M' r → M d = none → Q (.ref d) M'
theorem wsok_snoc {ws : List String} {z w : String} (h : WsOk ws) (hz : PARTS[ws.length]? = some z) (hw : w ∈ wordsOf z) : WsOk (ws ++ [w]) := fun i u hu => by
  by_cases hi : i < ws.length
  · rw [List.getElem?_append_left hi] at hu; exact h i u hu
  · have hi2 : i = ws.length := by
      have := (List.getElem?_eq_some_iff.mp hu).1
      simp at this; omega
    subst hi2
    simp at hu
    subst hu
    exact ⟨z, hz, hw⟩
theorem run_law_rule {Γ : Gm} (h1 : Γ.fn "_law_parts" = some (0, C_parts)) (h2 : Γ.fn "_law_pick" = some (2, C_pick)) : Does Γ N_law_rule P_law_rule S_law_rule C_law_rule := by
  rintro as M Qa Ea ⟨r, rfl, hr, q⟩ -
  have h6 := sz6
  simp [S_law_rule, N_law_rule, runSs]
  simp [s1_law_rule, runS, runE, runPs, runTg, mput_same, mput_mput]
  intro f ef
  obtain ⟨M1, hM1, t1, hf1⟩ := fresh_put (o := .dct []) ef
  rw [hM1]
  have hrf : r ≠ f := fun z => by obtain ⟨c, ns, i, x, y, g1, _⟩ := hr; rw [z, ef] at g1; cases g1
  simp [s2_law_rule, runS, runE, runEs, runI, h1, C_parts]
  intro p M2 pa2 t2 ep
  obtain ⟨l1, l2, l3, l4, hp, k1, k2, k3, k4⟩ := pa2
  simp [itA, hp]
  have hrow2 := (hr.sub t1).sub t2
  have hf2 := t2 _ _ hf1
  have rowne : ∀ {x : Addr} {s : String} {ps : List PV}, M2 x = some (.lst (.str s :: ps)) → x ≠ r := fun {x s ps} h z => by
    obtain ⟨c, ns, i, x', y, g1, _⟩ := hrow2
    rw [z, g1] at h; simp [rowL] at h
  have lf : ∀ {x : Addr} {ps : List PV}, M2 x = some (.lst ps) → x ≠ f := fun {x ps} h z => by rw [z, hf2] at h; cases h
  have pne : p ≠ r := fun z => by
    obtain ⟨c, ns, i, x', y, g1, _⟩ := hrow2
    rw [z, g1] at hp; simp [rowL] at hp
  refine forF_inv (fun xs g M' => ∃ ws : List String, ws.length ≤ 4 ∧ xs = (itemsL l1 l2 l3 l4).drop ws.length ∧ (∃ a b, g = [some (.ref r), some (.ref f), a, b]) ∧ M' f = some (.dct (kvOf ws)) ∧ RowAt M' r ∧ WsOk ws ∧ ∀ x o, x ≠ r → x ≠ f → M2 x = some o → M' x = some o) ?_ ?_ ?_ ?_
  · rintro xs g M' ⟨ws, _, _, _, _, _, _, w⟩
    exact w p _ pne (lf hp) hp
  · rintro g M' ⟨ws, w1, w2, ⟨a, b, rfl⟩, w4, w5, w6, w7⟩
    have hl : ws.length = 4 := by
      have := congrArg List.length w2
      simp [itemsL] at this; omega
    obtain ⟨x1, x2, x3, x4, rfl⟩ : ∃ x1 x2 x3 x4, ws = [x1, x2, x3, x4] := by
      rcases ws with _ | ⟨x1, _ | ⟨x2, _ | ⟨x3, _ | ⟨x4, _ | ⟨x5, r⟩⟩⟩⟩⟩
      · cases hl
      · cases hl
      · cases hl
      · cases hl
      · exact ⟨x1, x2, x3, x4, rfl⟩
      · simp at hl
    have m1 : x1 ∈ wordsOf "back" := by obtain ⟨z, a1, a2⟩ := w6 0 x1 rfl; cases a1; exact a2
    have m2 : x2 ∈ wordsOf "count" := by obtain ⟨z, a1, a2⟩ := w6 1 x2 rfl; cases a1; exact a2
    have m3 : x3 ∈ wordsOf "end" := by obtain ⟨z, a1, a2⟩ := w6 2 x3 rfl; cases a1; exact a2
    have m4 : x4 ∈ wordsOf "gap" := by obtain ⟨z, a1, a2⟩ := w6 3 x4 rfl; cases a1; exact a2
    simp [s3_law_rule, runS, runE]
    refine q f M' ⟨[], 0, 0, x1, x2, x3, x4, []⟩ ⟨m1, m2, m3, m4⟩ w4 w5 (fun x o hx e => ?_) ef
    exact w7 x o hx (fun z => by rw [z, ef] at e; cases e) (t2 _ _ (t1 _ _ e))
  rotate_left
  · exact ⟨[], by simp, rfl, ⟨_, _, rfl⟩, hf2, hrow2, fun i w h => by simp at h, fun x o _ _ e => e⟩
  · rintro x xs g M' ⟨ws, w1, w2, ⟨a, b, rfl⟩, w4, w5, w6, w7⟩ Dn d1 d2 d3 d4
    have main : ∀ (z : String) (l : Addr), PARTS[ws.length]? = some z → x = .tup [.str z, .ref l] → xs = (itemsL l1 l2 l3 l4).drop (ws.length + 1) → ws.length + 1 ≤ 4 → M' l = some (.lst ((wordsOf z).map .str)) → 1 ≤ (wordsOf z).length → (wordsOf z).length ≤ 100 →
        (∀ w, dPut (kvOf ws) (.str z) (.str w) = kvOf (ws ++ [w])) →
        runTg Γ (Tg.tup (Tgs.cons (Tg.name 2) (Tgs.cons (Tg.name 3) Tgs.nil))) (fun x x_1 M => Ea x M) x [some (.ref r), some (.ref f), a, b] M' fun g2 M2 => runSs Γ (fun x x_1 M => Ea x M) B1_law_rule Dn g2 M2 := by
      intro z l e1 e2 e3 e4 e5 e6 e7 e8
      subst e2
      simp [runTg, runTgs, tgsLen, B1_law_rule, runSs, runS, runE, runEs, biA, e5, h2]
      refine ⟨r, ((wordsOf z).length : Int), rfl, by omega, by omega, w5, fun v M3 hv hr3 _ r3 => ?_⟩
      have hlr : l ≠ r := fun w => by
        obtain ⟨c, ns, i, x', y, g1, _⟩ := w5
        rw [w, g1] at e5
        cases hz : wordsOf z with
        | nil => rw [hz] at e6; simp at e6
        | cons u t => rw [hz] at e5; simp [rowL] at e5
      have e5' := r3 _ _ hlr e5
      have hvl : v < (wordsOf z).length := by omega
      have ea : atI ((wordsOf z).map PV.str) (v : Int) = some (.str (wordsOf z)[v]) := atI_nat' (by simp [hvl])
      have hf3 := r3 _ _ (Ne.symm hrf) w4
      simp [subA, e5', ea, setA, hf3, keyOk_str, e8]
      have hk : (kvOf ws).length ≤ 4 := by simp [kvOf, PARTS]; omega
      refine ⟨by omega, d1 _ _ ⟨ws ++ [(wordsOf z)[v]], by simp; omega, by simpa using e3, ⟨_, _, rfl⟩, mput_same, ?_, wsok_snoc w6 e1 (List.getElem_mem hvl), fun x o hx hf e => ?_⟩⟩
      · obtain ⟨c, ns, i, x', y, g1, g2, g3⟩ := hr3
        have hcf : c ≠ f := fun w => by rw [w, hf3] at g2; cases g2
        exact ⟨c, ns, i, x', y, by rw [mput_ne hrf]; exact g1, by rw [mput_ne hcf]; exact g2, g3⟩
      · rw [mput_ne hf]; exact r3 x o hx (w7 x o hx hf e)
    have hl4 : ws.length < 4 := by
      have := congrArg List.length w2
      simp [itemsL] at this; omega
    have hl' : ws.length = 0 ∨ ws.length = 1 ∨ ws.length = 2 ∨ ws.length = 3 := by omega
    rcases hl' with hl | hl | hl | hl
    · obtain rfl : ws = [] := List.eq_nil_of_length_eq_zero hl
      have e : x = .tup [.str "back", .ref l1] ∧ xs = (itemsL l1 l2 l3 l4).drop 1 := by simpa [itemsL] using w2
      exact main "back" l1 rfl e.1 e.2 (by omega) (w7 _ _ (rowne k1) (lf k1) k1) (by decide) (by decide) (fun w => by simp [kvOf, PARTS, dPut_nil])
    · obtain ⟨u1, rfl⟩ : ∃ u1, ws = [u1] := List.length_eq_one_iff.mp hl
      have e : x = .tup [.str "count", .ref l2] ∧ xs = (itemsL l1 l2 l3 l4).drop 2 := by simpa [itemsL] using w2
      exact main "count" l2 rfl e.1 e.2 (by omega) (w7 _ _ (rowne k2) (lf k2) k2) (by decide) (by decide) (fun w => by simp [kvOf, PARTS, dPut_nil, dPut_str])
    · obtain ⟨u1, u2, rfl⟩ : ∃ u1 u2, ws = [u1, u2] := by
        rcases ws with _ | ⟨u1, _ | ⟨u2, _ | ⟨u3, t⟩⟩⟩
        · cases hl
        · cases hl
        · exact ⟨u1, u2, rfl⟩
        · simp at hl
      have e : x = .tup [.str "end", .ref l3] ∧ xs = (itemsL l1 l2 l3 l4).drop 3 := by simpa [itemsL] using w2
      exact main "end" l3 rfl e.1 e.2 (by omega) (w7 _ _ (rowne k3) (lf k3) k3) (by decide) (by decide) (fun w => by simp [kvOf, PARTS, dPut_nil, dPut_str])
    · obtain ⟨u1, u2, u3, rfl⟩ : ∃ u1 u2 u3, ws = [u1, u2, u3] := by
        rcases ws with _ | ⟨u1, _ | ⟨u2, _ | ⟨u3, _ | ⟨u4, t⟩⟩⟩⟩
        · cases hl
        · cases hl
        · cases hl
        · exact ⟨u1, u2, u3, rfl⟩
        · simp at hl
      have e : x = .tup [.str "gap", .ref l4] ∧ xs = (itemsL l1 l2 l3 l4).drop 4 := by simpa [itemsL] using w2
      exact main "gap" l4 rfl e.1 e.2 (by omega) (w7 _ _ (rowne k4) (lf k4) k4) (by decide) (by decide) (fun w => by simp [kvOf, PARTS, dPut_nil, dPut_str])
theorem PeopleOk.perm {a b : List String} (h : PeopleOk a) (p : b.Perm a) : PeopleOk b :=
  ⟨by rw [p.length_eq]; exact h.1, by rw [p.length_eq]; exact h.2.1, fun s hs => h.2.2.1 s (p.mem_iff.mp hs), p.nodup_iff.mpr h.2.2.2⟩
def C_law_people : Con := fun as M Q _ => ∃ (r : Addr) (n : Nat), as = [.ref r, .int n] ∧ 2 ≤ n ∧ n ≤ 3 ∧ RowAt M r ∧ ∀ (ss : List String) M', PeopleOk ss → RowAt M' r → Rest M M' r → Q (strsP ss) M'
theorem names_ok {n : Nat} (h2 : 2 ≤ n) (h3 : n ≤ 3) : PeopleOk (["ann", "bo", "cy"].take n) := by
  have : n = 2 ∨ n = 3 := by omega
  rcases this with rfl | rfl
  · exact ⟨by decide, by decide, by decide, by decide⟩
  · exact ⟨by decide, by decide, by decide, by decide⟩
theorem run_law_people {Γ : Gm} (h2 : Γ.fn "_law_pick" = some (2, C_pick)) : Does Γ N_law_people P_law_people S_law_people C_law_people := by
  rintro as M Qa Ea ⟨r, n, rfl, n2, n3, hr, q⟩ -
  have h6 := sz6
  have z3 : 3 ≤ sizeLine := by omega
  simp [S_law_people, N_law_people, runSs]
  simp [s1_law_people, runS, runE, runEs, runO, runTg, newL, z3]
  intro p0 e0
  obtain ⟨M1, hM1, t1, k1⟩ := fresh_put (o := .lst [.str "ann", .str "bo", .str "cy"]) e0
  rw [hM1]
  simp [slcA, k1, cut_to]
  intro p e
  obtain ⟨M2, hM2, t2, k2⟩ := fresh_put (o := .lst (List.take n [PV.str "ann", .str "bo", .str "cy"])) e
  rw [hM2]
  have ek : List.take n [PV.str "ann", .str "bo", .str "cy"] = (["ann", "bo", "cy"].take n).map PV.str := by rw [List.map_take]; rfl
  rw [ek] at k2
  have po := names_ok n2 n3
  generalize ["ann", "bo", "cy"].take n = ss0 at k2 po
  have hr2 := (hr.sub t1).sub t2
  have hrp : p ≠ r := fun z => by obtain ⟨c, ns, i, x, y, g1, _⟩ := hr.sub t1; rw [z, g1] at e; cases e
  have hpM : M p = none := t1.fresh e
  simp [s2_law_people, runS, runT, runE, runEs, h2, runSs]
  refine ⟨r, 2, rfl, by omega, by omega, hr2, fun v M3 hv hr3 _ r3 => ?_⟩
  -- the second half
  have rowp : ∀ {M : MM} {o : MO} {ps : List PV}, RowAt M r → M p = some (.lst ps) → (∀ a t, ps = a :: t → ∃ s, a = .str s) → ps ≠ [] → RowAt (mput M p o) r := fun {M o ps} hr hp hs hne => by
    obtain ⟨c, ns, i, x, y, g1, g2, g3⟩ := hr
    have hcp : c ≠ p := fun w => by
      rw [w, hp] at g2
      cases ps with
      | nil => exact hne rfl
      | cons a t =>
        obtain ⟨s, rfl⟩ := hs a t rfl
        cases ns <;> simp at g2
    exact ⟨c, ns, i, x, y, by rw [mput_ne (Ne.symm hrp)]; exact g1, by rw [mput_ne hcp]; exact g2, g3⟩
  have half : ∀ (ss : List String) (M3 : MM), PeopleOk ss → M3 p = some (.lst (ss.map .str)) → RowAt M3 r → Rest M M3 r →
      runS Γ (fun x x_1 M => Ea x M) s3_law_people { nx := fun g' M' => runS Γ (fun x x_1 M => Ea x M) s4_law_people { nx := fun x M => Qa PV.non M, rt := Qa } g' M', rt := Qa } [some (.ref r), some (.int n), some (.ref p)] M3 := by
    intro ss M3 po k3 hr3 r3
    simp [s3_law_people, runS, runT, runE, runEs, h2, runSs]
    refine ⟨r, 2, rfl, by omega, by omega, hr3, fun v M4 hv hr4 _ r4 => ?_⟩
    have k4 := r4 _ _ hrp k3
    simp [cmpA, eqA, sEq]
    by_cases h0 : v = 0
    · rw [if_pos h0]
      have ec : cutP (ss.map PV.str) (some 1) none = (ss.drop 1).map PV.str := by
        have := cut_from (xs := ss.map PV.str) (k := 1)
        rw [List.map_drop]; exact this
      have ec2 : cutP (ss.map PV.str) none (some 1) = (ss.take 1).map PV.str := by
        have := cut_to (xs := ss.map PV.str) (k := 1)
        rw [List.map_take]; exact this
      simp only [runO, runE, List.getElem?_cons_succ, List.getElem?_cons_zero, slcA, k4, ec]
      intro p1 e1
      obtain ⟨M5, hM5, t5, k5⟩ := fresh_put (o := .lst ((ss.drop 1).map PV.str)) e1
      rw [hM5]
      have k45 := t5 _ _ k4
      simp only [k45, ec2]
      intro p2 e2
      obtain ⟨M6, hM6, t6, k6⟩ := fresh_put (o := .lst ((ss.take 1).map PV.str)) e2
      rw [hM6]
      have k56 := t6 _ _ k5
      have hl : ss.length ≤ 3 := po.2.1
      simp only [binA, k6, k56]
      refine ⟨by simp; omega, fun p3 e3 => ?_⟩
      have ee : (ss.drop 1).map PV.str ++ (ss.take 1).map PV.str = (ss.drop 1 ++ ss.take 1).map PV.str := by rw [List.map_append]
      rw [ee]
      have t7 := Sub.new (o := .lst ((ss.drop 1 ++ ss.take 1).map PV.str)) e3
      have tt := (t5.trans t6).trans t7
      simp only [runTg, s4_law_people, runS, runE, runEs, biA, List.set, List.getElem?_cons_succ, List.getElem?_cons_zero, mput_same]
      refine q _ _ (po.perm ?_) (hr4.sub tt) ((r3.trans r4).sub tt)
      have := List.perm_append_comm (l₁ := ss.drop 1) (l₂ := ss.take 1)
      rwa [List.take_append_drop] at this
    · rw [if_neg h0]
      simp [s4_law_people, runS, runE, runEs, biA, k4]
      exact q ss M4 po hr4 (r3.trans r4)
  simp [cmpA, eqA, sEq]
  have k3 := r3 _ _ hrp k2
  have rM3 : Rest M M3 r := (Rest.of_sub (t1.trans t2)).trans r3
  by_cases h0 : v = 0
  · rw [if_pos h0]
    simp [tyA, k3, bmA]
    rw [← List.map_reverse]
    refine half ss0.reverse _ (po.perm (List.reverse_perm ss0)) mput_same (rowp hr3 k3 ?_ ?_) ?_
    · intro a t e
      cases ss0 with
      | nil => cases e
      | cons u w => simp at e; exact ⟨u, e.1.symm⟩
    · intro z
      have := po.1
      have e2 := congrArg List.length z
      simp at e2; rw [e2] at this; simp at this
    · intro x o hx ex
      rw [mput_ne (fun w => by rw [w, hpM] at ex; cases ex)]
      exact rM3 x o hx ex
  · rw [if_neg h0]
    exact half ss0 M3 po k3 hr3 rM3
end Law
end

section
set_option maxHeartbeats 4000000
/-! the drawn parts of a book, made. -/
namespace Law
open PySem L2 Rx
def tabL (b : Bk) (d : Addr) : List (PV × PV) := [(.str "people", strsP b.people), (.str "longest", .int b.longest), (.str "most", .int b.most), (.str "rule", .ref d), (.str "words", strsP b.words)]
def TAt (M : MM) (t : Addr) (b : Bk) : Prop := ∃ d, M t = some (.dct (tabL b d)) ∧ M d = some (.dct b.rule)
def subsOf : List String → List (List String)
  | [] => [[]]
  | x :: l => subsOf l ++ (subsOf l).map (x :: ·)
theorem mem_subs : ∀ {l ws : List String}, ws.Sublist l → ws ∈ subsOf l
  | _, _, .slnil => by simp [subsOf]
  | _, _, .cons a h => by
    unfold subsOf
    exact List.mem_append_left _ (mem_subs h)
  | _, _, .cons₂ a h => by
    unfold subsOf
    exact List.mem_append_right _ (List.mem_map.mpr ⟨_, mem_subs h, rfl⟩)
def wordsOkB (ws : List String) : Bool := decide (ws.length ≤ 5) && (ws.all (fun w => WORDS.contains w) && (ws.zip (ws.drop 1)).all (fun p => sLt p.1 p.2))
theorem subs_ok : (subsOf WORDS).all wordsOkB = true := by decide +kernel
theorem words_sub {ws : List String} (h : ws.Sublist WORDS) : WordsOk ws := by
  have h1 := List.all_eq_true.mp subs_ok ws (mem_subs h)
  unfold wordsOkB at h1
  have a := (Bool.and_eq_true_iff.mp h1).1
  have b := Bool.and_eq_true_iff.mp (Bool.and_eq_true_iff.mp h1).2
  exact ⟨of_decide_eq_true a, fun w hw => by simpa using List.all_eq_true.mp b.1 w hw, b.2⟩
def C_drawn : Con := fun as M Q _ => ∃ (r : Addr) (a lo mo : Nat), as = [.ref r, .int a, .int lo, .int mo] ∧ 2 ≤ a ∧ a ≤ 3 ∧ lo ≤ 2 ∧ mo ≤ 2 ∧ RowAt M r ∧ ∀ t M' (b : Bk), BkOk b → TAt M' t b → RowAt M' r → Rest M M' r → M t = none → Q (.ref t) M'
theorem run_drawn {Γ : Gm} (h1 : Γ.fn "_law_pick" = some (2, C_pick)) (h2 : Γ.fn "_law_people" = some (2, C_law_people)) (h3 : Γ.fn "_law_rule" = some (1, C_law_rule)) : Does Γ N_law_drawn P_law_drawn S_law_drawn C_drawn := by
  rintro as M Qa Ea ⟨r, a, lo, mo, rfl, a2, a3, l2, m2, hr, q⟩ -
  have h6 := sz6
  have z2 : 2 ≤ sizeLine := by omega
  have z5 : 5 ≤ sizeLine := by omega
  simp [S_law_drawn, N_law_drawn, runSs]
  simp [s1_law_drawn, runS, runE, runEs, runPs, runTg, h1, h2, binA]
  intro t et
  obtain ⟨M1, hM1, t1, k1⟩ := fresh_put (o := .kdc []) et
  rw [hM1]
  have hr1 := hr.sub t1
  have htr : t ≠ r := fun z => by obtain ⟨c, ns, i, x, y, g1, _⟩ := hr; rw [z, g1] at et; cases et
  refine ⟨r, (a : Int) - 1, rfl, by omega, by omega, hr1, fun v M2 hv hr2 _ r2 => ?_⟩
  refine ⟨r, 2 + v, by simp, by omega, by omega, hr2, fun ss M3 po hr3 r3 => ?_⟩
  refine ⟨r, (lo : Int) + 1, rfl, by omega, by omega, hr3, fun v2 M4 hv2 hr4 _ r4 => ?_⟩
  have k4 : M4 t = some (.kdc []) := r4 _ _ htr (r3 _ _ htr (r2 _ _ htr k1))
  simp [simK, k4, dPut_nil, dPut_str]
  obtain ⟨M5, hM5, k5⟩ : ∃ M5, mput M4 t (.dct [(.str "people", strsP ss), (.str "longest", .int v2)]) = M5 ∧ M5 t = some (.dct [(.str "people", strsP ss), (.str "longest", .int v2)]) := ⟨_, rfl, mput_same⟩
  rw [hM5]
  have rowt : ∀ {M' M'' : MM} {o : MO}, RowAt M' r → (∀ x, M' t = some (.lst x) → False) → mput M' t o = M'' → RowAt M'' r := fun {M' M'' o} hr hn e => by
    obtain ⟨c, ns, i, x, y, g1, g2, g3⟩ := hr
    have hct : c ≠ t := fun w => by rw [w] at g2; exact hn _ g2
    subst e
    exact ⟨c, ns, i, x, y, by rw [mput_ne (Ne.symm htr)]; exact g1, by rw [mput_ne hct]; exact g2, g3⟩
  have hr5 : RowAt M5 r := rowt hr4 (fun x e => by rw [k4] at e; cases e) hM5
  have r15 : Rest M M5 r := fun x o hx e => by
    rw [← hM5, mput_ne (fun w => by rw [w, et] at e; cases e)]
    exact r4 x o hx (r3 x o hx (r2 x o hx (t1 x o e)))
  simp [s2_law_drawn, runS, runE, runEs, runTg, runTgs, tgsLen, h1, h3, binA]
  refine ⟨r, (mo : Int) + 1, rfl, by omega, by omega, hr5, fun v3 M6 hv3 hr6 _ r6 => ?_⟩
  refine ⟨r, rfl, hr6, fun d M7 b0 ro hd hr7 r7 ed => ?_⟩
  have k7 := r7 _ _ htr (r6 _ _ htr k5)
  have hdt : d ≠ t := fun w => by rw [w, r6 _ _ htr k5] at ed; cases ed
  simp [z2, setA, k7, keyOk_str, dPut_str, dPut_nil, mput_same, mput_mput]
  refine ⟨by omega, by omega, ?_⟩
  obtain ⟨M8, hM8, k8⟩ : ∃ M8, mput M7 t (.dct [(.str "people", strsP ss), (.str "longest", .int v2), (.str "most", .int v3), (.str "rule", .ref d)]) = M8 ∧ M8 t = some (.dct [(.str "people", strsP ss), (.str "longest", .int v2), (.str "most", .int v3), (.str "rule", .ref d)]) := ⟨_, rfl, mput_same⟩
  rw [hM8]
  have hr8 : RowAt M8 r := rowt hr7 (fun x e => by rw [k7] at e; cases e) hM8
  have hd8 : M8 d = some (.dct b0.rule) := by rw [← hM8, mput_ne hdt]; exact hd
  have r18 : Rest M M8 r := fun x o hx e => by
    rw [← hM8, mput_ne (fun w => by rw [w, et] at e; cases e)]
    exact r7 x o hx (r6 x o hx (r15 x o hx e))
  simp [s3_law_drawn, runS, runE, runEs, runI, runTg, newL, z5]
  intro p ep
  obtain ⟨M9, hM9, t9, k9⟩ := fresh_put (o := .lst (WORDS.map PV.str)) ep
  have hM9' : mput M8 p (.lst [.str "away", .str "hand", .str "refuse", .str "swap", .str "take"]) = M9 := hM9
  rw [hM9']
  have k9' : M9 p = some (.lst [.str "away", .str "hand", .str "refuse", .str "swap", .str "take"]) := k9
  simp [itA, k9']
  intro D eD
  have hr9 := hr8.sub t9
  have hDr : D ≠ r := fun z => by obtain ⟨c, ns, i, x, y, g1, _⟩ := hr9; rw [z, g1] at eD; cases eD
  have hpr : p ≠ r := fun z => by obtain ⟨c, ns, i, x, y, g1, _⟩ := hr8; rw [z, g1] at ep; cases ep
  have hDp : p ≠ D := fun z => by rw [← z, k9] at eD; cases eD
  have hDt : t ≠ D := fun z => by rw [← z, t9 _ _ k8] at eD; cases eD
  have hDd : d ≠ D := fun z => by rw [← z, t9 _ _ hd8] at eD; cases eD
  have rowD : ∀ {M' : MM} {ps : List PV} {o : MO}, RowAt M' r → M' D = some (.lst (ps.map id)) → (∀ c ns i x y, M' r = some (rowL c i x y) → M' c = some (.lst ((ns : List Int).map .int)) → c ≠ D) → RowAt (mput M' D o) r := fun {M' ps o} hr hD hc => by
    obtain ⟨c, ns, i, x, y, g1, g2, g3⟩ := hr
    exact ⟨c, ns, i, x, y, by rw [mput_ne (Ne.symm hDr)]; exact g1, by rw [mput_ne (hc c ns i x y g1 g2)]; exact g2, g3⟩
  -- which cells the row has is kept beside D
  have row9 := hr9
  refine lcF_inv (fun xs acc M' => ∃ (ws : List String) (j : Nat), j ≤ 5 ∧ xs = (WORDS.drop j).map PV.str ∧ acc = ws.map PV.str ∧ ws.Sublist (WORDS.take j) ∧ M' D = some (.lst acc) ∧ (∃ c ns i x y, c ≠ D ∧ M' r = some (rowL c i x y) ∧ M' c = some (.lst ((ns : List Int).map .int)) ∧ 0 ≤ i ∧ 0 ≤ x) ∧ ∀ x o, x ≠ r → x ≠ D → M9 x = some o → M' x = some o) ?_ ?_ ?_ ?_ ?_
  · rintro xs acc M' ⟨ws, j, _, _, _, _, _, _, w⟩
    exact w p _ hpr hDp k9
  · rintro xs acc M' ⟨ws, j, w1, _, rfl, w4, _⟩
    have := w4.length_le
    simp [WORDS] at this
    simp; omega
  · rintro acc M' ⟨ws, j, w1, w2, rfl, w4, w5, w6, w7⟩
    have ej : j = 5 := by
      have := congrArg List.length w2
      simp [WORDS] at this; omega
    subst ej
    have wsub : ws.Sublist WORDS := w4
    have wok := words_sub wsub
    have kt := w7 _ _ htr hDt (t9 _ _ k8)
    simp [id, biA, w5, setA, kt, keyOk_str, dPut_str, dPut_nil]
    refine ⟨by omega, ?_⟩
    simp [s4_law_drawn, runS, runE]
    have hdr : d ≠ r := fun z => by obtain ⟨c, ns, i, x, y, g1, _⟩ := hr8; rw [z, g1] at hd8; cases hd8
    refine q t _ ⟨ss, v2, v3, b0.r1, b0.r2, b0.r3, b0.r4, ws⟩ ⟨po, by show v2 ≤ 2; omega, by show v3 ≤ 2; omega, ⟨ro.m1, ro.m2, ro.m3, ro.m4⟩, wok⟩ ⟨d, mput_same, ?_⟩ ?_ (fun x o hx e => ?_) et
    · rw [mput_ne hdt]; exact w7 _ _ hdr hDd (t9 _ _ hd8)
    · obtain ⟨c, ns, i, x, y, hcD, g1, g2, g3⟩ := w6
      exact rowt ⟨c, ns, i, x, y, g1, g2, g3⟩ (fun x e => by rw [kt] at e; cases e) rfl
    · rw [mput_ne (fun w => by rw [w, et] at e; cases e)]
      have e9 := t9 _ _ (r18 x o hx e)
      exact w7 x o hx (fun w => by rw [w, eD] at e9; cases e9) e9
  · rintro x xs acc M' ⟨ws, j, w1, w2, rfl, w4, w5, ⟨c, ns, i, x', y, hcD, g1, g2, g3, g4⟩, w7⟩ Kt Kf hK1 hK2
    have hj : j < 5 := by
      have := congrArg List.length w2
      simp [WORDS] at this; omega
    have hw : WORDS[j]? = some WORDS[j] := List.getElem?_eq_getElem hj
    have w2' : (WORDS.drop j).map PV.str = .str WORDS[j] :: (WORDS.drop (j + 1)).map PV.str := by
      rw [List.drop_eq_getElem_cons hj]; rfl
    rw [w2'] at w2
    obtain ⟨rfl, rfl⟩ := List.cons.inj w2
    simp [runTg, runC, wipeG, T1_law_drawn, runT, runE, runEs, h1]
    refine ⟨r, 4, rfl, by omega, by omega, ⟨c, ns, i, x', y, g1, g2, g3, g4⟩, fun v M2' hv hrm cm rm => ?_⟩
    have hD2 := rm _ _ hDr w5
    have cells : ∃ c ns i x y, c ≠ D ∧ M2' r = some (rowL c i x y) ∧ M2' c = some (.lst ((ns : List Int).map .int)) ∧ 0 ≤ i ∧ 0 ≤ x := by
      obtain ⟨c2, ns2, i2, x2, y2, e1, e2, e3⟩ := hrm
      obtain ⟨i3, x3, y3, e4⟩ := cm c ⟨i, x', y, g1⟩
      have : c2 = c := by rw [e1] at e4; simp [rowL] at e4; exact e4.1
      subst this
      exact ⟨c2, ns2, i2, x2, y2, hcD, e1, e2, e3⟩
    have et' : WORDS.take (j + 1) = WORDS.take j ++ [WORDS[j]] := by rw [List.take_succ, hw]; rfl
    simp [cmpA]
    by_cases h0 : 0 < v
    · rw [if_pos h0]
      refine hK1 _ _ hD2 ⟨ws ++ [WORDS[j]], j + 1, by omega, rfl, by simp, ?_, mput_same, ?_, fun x o hx hxD e => ?_⟩
      · rw [et']; exact w4.append (List.Sublist.refl _)
      · obtain ⟨c, ns, i, x, y, hcD, g1, g2, g3⟩ := cells
        exact ⟨c, ns, i, x, y, hcD, by rw [mput_ne (Ne.symm hDr)]; exact g1, by rw [mput_ne hcD]; exact g2, g3⟩
      · rw [mput_ne hxD]; exact rm x o hx (w7 x o hx hxD e)
    · rw [if_neg h0]
      refine hK2 _ hD2 ⟨ws, j + 1, by omega, rfl, rfl, ?_, hD2, cells, fun x o hx hxD e => rm x o hx (w7 x o hx hxD e)⟩
      rw [et']; exact w4.trans (List.sublist_append_left _ _)
  · obtain ⟨c, ns, i, x, y, g1, g2, g3, g4⟩ := hr9
    have hcD : c ≠ D := fun w => by rw [w, eD] at g2; cases g2
    exact ⟨[], 0, by omega, rfl, rfl, List.Sublist.refl _, mput_same, ⟨c, ns, i, x, y, hcD, by rw [mput_ne (Ne.symm hDr)]; exact g1, by rw [mput_ne hcD]; exact g2, g3, g4⟩, fun x o _ hxD e => by rw [mput_ne hxD]; exact e⟩
end Law
end

section
set_option maxHeartbeats 4000000
/-! texts cut and glued: the plain law. -/
namespace Law
open PySem L2 Rx
def wordsC (l : List Char) : List (List Char) := (splC ' ' [] l).filter (fun w => !w.isEmpty)
theorem splC_app {c : Char} : ∀ {p acc rest : List Char}, c ∉ p → splC c acc (p ++ c :: rest) = (acc ++ p) :: splC c [] rest
  | [], acc, rest, _ => by simp [splC]
  | d :: p, acc, rest, h => by
    rw [List.mem_cons, not_or] at h
    rw [List.cons_append]
    show (if d = c then acc :: splC c [] (p ++ c :: rest) else splC c (acc ++ [d]) (p ++ c :: rest)) = _
    rw [if_neg (Ne.symm h.1), splC_app h.2, List.append_assoc]
    rfl
theorem splC_last {c : Char} : ∀ {p acc : List Char}, c ∉ p → splC c acc p = [acc ++ p]
  | [], acc, _ => by simp [splC]
  | d :: p, acc, h => by
    rw [List.mem_cons, not_or] at h
    unfold splC
    rw [if_neg (Ne.symm h.1), splC_last h.2, List.append_assoc]
    rfl
theorem splC_snoc {c : Char} : ∀ {l acc : List Char}, splC c acc (l ++ [c]) = splC c acc l ++ [[]]
  | [], acc => by simp [splC]
  | d :: l, acc => by
    rw [List.cons_append]
    unfold splC
    split
    · rw [splC_snoc]; rfl
    · exact splC_snoc
theorem wordsC_sp (l : List Char) : wordsC (' ' :: l) = wordsC l := by
  unfold wordsC
  rw [show splC ' ' [] (' ' :: l) = [] :: splC ' ' [] l from by simp [splC]]
  rfl
theorem wordsC_snoc (l : List Char) : wordsC (l ++ [' ']) = wordsC l := by
  unfold wordsC
  rw [splC_snoc, List.filter_append]
  simp
theorem wordsC_reps (l : List Char) : ∀ k : Nat, wordsC (List.replicate k ' ' ++ l) = wordsC l
  | 0 => rfl
  | k + 1 => by
    rw [List.replicate_succ, List.cons_append, wordsC_sp, wordsC_reps l k]
theorem wordsC_word {w l : List Char} (h : ' ' ∉ w) (hn : w ≠ []) : wordsC (w ++ ' ' :: l) = w :: wordsC l := by
  unfold wordsC
  rw [splC_app h, List.nil_append, List.filter_cons]
  have : (!w.isEmpty) = true := by cases w <;> simp_all
  rw [if_pos this]
theorem wordsC_nil : wordsC [] = [] := by simp [wordsC, splC]
theorem wordsC_drop : ∀ l : List Char, wordsC (l.dropWhile (· == ' ')) = wordsC l
  | [] => rfl
  | d :: l => by
    rw [List.dropWhile_cons]
    split
    · rename_i h
      have e : d = ' ' := by simpa using h
      rw [e, wordsC_sp, wordsC_drop l]
    · rfl
theorem wordsC_dropR : ∀ m : List Char, wordsC ((m.dropWhile (· == ' ')).reverse) = wordsC m.reverse
  | [] => rfl
  | d :: m => by
    rw [List.dropWhile_cons]
    split
    · rename_i h
      have e : d = ' ' := by simpa using h
      rw [wordsC_dropR m, List.reverse_cons, e, wordsC_snoc]
    · rfl
theorem wordsC_strip (l : List Char) : wordsC (stripC ' ' l) = wordsC l := by
  unfold stripC
  rw [wordsC_dropR, List.reverse_reverse, wordsC_drop]
theorem ofList_ne (l : List Char) : (String.ofList l != "") = !l.isEmpty := by
  cases l with
  | nil => rfl
  | cons a r =>
    have : String.ofList (a :: r) ≠ "" := fun h => by
      have := congrArg String.toList h
      rw [String.toList_ofList] at this
      simp at this
    simp [this]
theorem wordsS_eq (s : String) : wordsS s = (wordsC s.toList).map String.ofList := by
  unfold wordsS splitS wordsC
  induction splC ' ' [] s.toList with
  | nil => rfl
  | cons a r ih =>
    rw [List.map_cons, List.filter_cons, ofList_ne, List.filter_cons]
    split
    · rw [List.map_cons, ih]
    · exact ih
theorem ofList_toList (s : String) : String.ofList s.toList = s := by simp
theorem joinS_list (sep : String) (x y : String) (r : List String) : (joinS sep (x :: y :: r)).toList = x.toList ++ (sep.toList ++ (joinS sep (y :: r)).toList) := by
  show (x ++ (sep ++ joinS sep (y :: r))).toList = _
  rw [String.toList_append, String.toList_append]
theorem split_join {c : Char} {sep : String} (hs : sep.toList = [c]) : ∀ {ls : List String}, ls ≠ [] → (∀ l ∈ ls, c ∉ l.toList) → splitS c (joinS sep ls) = ls
  | [], h, _ => absurd rfl h
  | [x], _, h => by
    unfold splitS
    show (splC c [] x.toList).map String.ofList = [x]
    rw [splC_last (h x (by simp))]
    simp
  | x :: y :: r, _, h => by
    have ih := split_join hs (ls := y :: r) (by simp) fun l hl => h l (List.mem_cons_of_mem _ hl)
    unfold splitS at ih ⊢
    rw [joinS_list, hs]
    show (splC c [] (x.toList ++ (c :: (joinS sep (y :: r)).toList))).map String.ofList = _
    rw [splC_app (h x (by simp)), List.map_cons, ih]
    simp
theorem words_join {row : List String} (hne : row ≠ []) (h : ∀ w ∈ row, ' ' ∉ w.toList ∧ w ≠ "") : splitS ' ' (joinS " " row) = row ∧ wordsS (joinS " " row) = row := by
  have e := split_join (sep := " ") (c := ' ') (by decide) hne fun w hw => (h w hw).1
  refine ⟨e, ?_⟩
  unfold wordsS
  rw [e, List.filter_eq_self]
  intro w hw
  simpa using (h w hw).2
/-- no sign within the words -/
def Bare (w : String) : Prop := w.length ≤ 8 ∧ w ≠ "" ∧ ' ' ∉ w.toList ∧ '\n' ∉ w.toList
def bareB (w : String) : Bool := decide (w.length ≤ 8) && (decide (w ≠ "") && (!w.toList.contains ' ' && !w.toList.contains '\n'))
theorem bareB_ok {w : String} (h : bareB w = true) : Bare w := by
  unfold bareB at h
  simp only [Bool.and_eq_true, decide_eq_true_eq, Bool.not_eq_true', List.contains_eq_mem, decide_eq_false_iff_not] at h
  exact ⟨h.1, h.2.1, h.2.2.1, h.2.2.2⟩
theorem bare_name {w : String} (h : nameB w = true) : Bare w := by
  have hl := name_len h
  have hne := name_ne h
  unfold nameB at h
  have ha := (Bool.and_eq_true_iff.mp (Bool.and_eq_true_iff.mp h).2).2
  rw [List.all_eq_true] at ha
  refine ⟨hl, hne, fun hm => ?_, fun hm => ?_⟩
  · have := ha _ hm
    revert this; decide
  · have := ha _ hm
    revert this; decide
theorem rows_bare {b : Bk} (h : BkOk b) : ∀ r ∈ rows b, r ≠ [] ∧ r.length ≤ 6 ∧ ∀ w ∈ r, Bare w := by
  obtain ⟨hp, hl, hm, ⟨m1, m2, m3, m4⟩, hw⟩ := h
  have c : ∀ s ∈ (["people", "longest", "most", "back", "count", "end", "gap", "words"] : List String), bareB s = true := by decide
  have k1 := bareB_ok ((by decide : ∀ w ∈ (["both", "ends", "stays"] : List String), bareB w = true) _ m1)
  have k2 := bareB_ok ((by decide : ∀ w ∈ (["all", "direct", "handed"] : List String), bareB w = true) _ m2)
  have k3 := bareB_ok ((by decide : ∀ w ∈ (["falls", "stays"] : List String), bareB w = true) _ m3)
  have k4 := bareB_ok ((by decide : ∀ w ∈ (["next", "none", "owner"] : List String), bareB w = true) _ m4)
  have dg : ∀ w ∈ DIGITS, bareB w = true := by decide
  have n1 := bareB_ok (dg _ (num_len hl).2)
  have n2 := bareB_ok (dg _ (num_len hm).2)
  have ww : ∀ w ∈ WORDS, bareB w = true := by decide
  intro r hr
  simp only [rows, List.mem_cons, List.not_mem_nil, or_false] at hr
  have l1 := hp.2.1
  have l2 := hw.1
  rcases hr with rfl | rfl | rfl | rfl | rfl | rfl | rfl | rfl
  · refine ⟨by simp, by simp; omega, fun w hw' => ?_⟩
    rcases List.mem_cons.mp hw' with rfl | hw'
    · exact bareB_ok (c _ (by simp))
    · exact bare_name (hp.2.2.1 w hw')
  all_goals first
    | (refine ⟨by simp, by simp, fun w hw' => ?_⟩
       simp only [List.mem_cons, List.not_mem_nil, or_false] at hw'
       rcases hw' with rfl | rfl
       · exact bareB_ok (c _ (by simp))
       · first | exact k1 | exact k2 | exact k3 | exact k4 | exact n1 | exact n2)
    | skip
  · refine ⟨by simp, by simp; omega, fun w hw' => ?_⟩
    rcases List.mem_cons.mp hw' with rfl | hw'
    · exact bareB_ok (c _ (by simp))
    · exact bareB_ok (ww w (hw.2.1 w hw'))
theorem join_no_nl : ∀ {row : List String}, (∀ w ∈ row, Bare w) → '\n' ∉ (joinS " " row).toList
  | [], _ => by simp [joinS]
  | [x], h => (h x (by simp)).2.2.2
  | x :: y :: r, h => by
    have ih := join_no_nl (row := y :: r) fun w hw => h w (List.mem_cons_of_mem _ hw)
    rw [joinS_list]
    intro hm
    rcases List.mem_append.mp hm with hm | hm
    · exact (h x (by simp)).2.2.2 hm
    · rcases List.mem_append.mp hm with hm | hm
      · revert hm; decide
      · exact ih hm
theorem lines_split {b : Bk} (h : BkOk b) : splitS '\n' (textOf b) = lines b := by
  refine split_join (by decide) (by simp [lines, rows]) fun l hl => ?_
  obtain ⟨r, hr, rfl⟩ := List.mem_map.mp hl
  exact join_no_nl (rows_bare h r hr).2.2
theorem lines_words {b : Bk} (h : BkOk b) : (lines b).map wordsS = rows b := by
  unfold lines
  rw [List.map_map]
  conv => rhs; rw [← List.map_id (rows b)]
  refine List.map_congr_left fun r hr => ?_
  have := rows_bare h r hr
  exact (words_join this.1 fun w hw => ⟨(this.2.2 w hw).2.2.1, (this.2.2 w hw).2.1⟩).2
theorem splC_len (c : Char) : ∀ (l acc : List Char), (splC c acc l).length ≤ l.length + 1
  | [], acc => by simp [splC]
  | d :: l, acc => by
    unfold splC
    split
    · have := splC_len c l []
      simp; omega
    · have := splC_len c l (acc ++ [d])
      simp; omega
theorem splitS_len (c : Char) (s : String) : (splitS c s).length ≤ s.length + 1 := by
  unfold splitS
  rw [List.length_map]
  have := splC_len c s.toList []
  rwa [String.length_toList] at this
end Law
end

section
set_option maxHeartbeats 4000000
/-! made, lines, loose. -/
namespace Law
open PySem L2 Rx
theorem TAt.sub {M M' : MM} {t : Addr} {b : Bk} (h : TAt M t b) (s : Sub M M') : TAt M' t b := by
  obtain ⟨d, h1, h2⟩ := h
  exact ⟨d, s _ _ h1, s _ _ h2⟩
theorem tab_at (b : Bk) (d : Addr) : dGet (tabL b d) (.str "people") = some (strsP b.people) ∧ dGet (tabL b d) (.str "longest") = some (.int b.longest) ∧ dGet (tabL b d) (.str "most") = some (.int b.most) ∧ dGet (tabL b d) (.str "rule") = some (.ref d) ∧ dGet (tabL b d) (.str "words") = some (strsP b.words) := by
  simp [tabL, dGet_str]
def C_made : Con := fun as M Q _ => ∃ (t : Addr) (b : Bk), as = [.ref t] ∧ TAt M t b ∧ BkOk b ∧ ∀ a M', BookAt M' a b → Sub M M' → Q (.ref a) M'
theorem run_made {Γ : Gm} (h1 : Γ.mkc "Book" = some (6, C_Book_init)) : Does Γ N_law_made P_law_made S_law_made C_made := by
  rintro as M Qa Ea ⟨t, b, rfl, ⟨d, g1, g2⟩, ok, q⟩ -
  obtain ⟨a1, a2, a3, a4, a5⟩ := tab_at b d
  simp [S_law_made, N_law_made, runSs, runS, runE, runEs, subA, g1, a1, a2, a3, a4, a5, keyOk_str, h1]
  intro a ea
  have hda : d ≠ a := fun z => by rw [z, ea] at g2; cases g2
  refine ⟨a, d, b, rfl, ok, mput_same, by rw [mput_ne hda]; exact g2, fun M' bk r => ?_⟩
  simp
  refine q a M' bk fun x o e => ?_
  have hxa : x ≠ a := fun z => by rw [z, ea] at e; cases e
  exact r x o hxa (by rw [mput_ne hxa]; exact e)
def C_lines : Con := fun as M Q _ => ∃ (t : Addr) (b : Bk), as = [.ref t] ∧ TAt M t b ∧ BkOk b ∧ ∀ l M', M' l = some (.lst ((lines b).map .str)) → Sub M M' → Q (.ref l) M'
def rlines (b : Bk) : List String := [joinS " " ["back", b.r1], joinS " " ["count", b.r2], joinS " " ["end", b.r3], joinS " " ["gap", b.r4]]
def hlines (b : Bk) : List String := [joinS " " ("people" :: b.people), joinS " " ["longest", (b.longest : Int).repr], joinS " " ["most", (b.most : Int).repr]]
theorem lines_eq (b : Bk) : hlines b ++ rlines b ++ [joinS " " ("words" :: b.words)] = lines b := rfl
theorem glue (x y z : String) : x ++ y ++ z = x ++ (y ++ z) := String.append_assoc ..
theorem run_lines {Γ : Gm} (h1 : Γ.fn "_law_parts" = some (0, C_parts)) : Does Γ N_law_lines P_law_lines S_law_lines C_lines := by
  rintro as M Qa Ea ⟨t, b, rfl, tt, ok, q⟩ -
  have h6 := sz6
  have z1 : 1 ≤ sizeLine := by omega
  have z3 : 3 ≤ sizeLine := by omega
  obtain ⟨d, g1, g2⟩ := id tt
  obtain ⟨a1, a2, a3, a4, a5⟩ := tab_at b d
  have rb := rows_ok ok
  have jl1 := row_len (rb ("people" :: b.people) (by simp [rows]))
  have jl2 := row_len (rb ("words" :: b.words) (by simp [rows]))
  have pl := ok.people.2.1
  have wl := ok.words.1
  have nl := (num_len ok.l).1
  have nm := (num_len ok.m).1
  have bl := ok.l
  have bm := ok.m
  have le1 : (" " : String).length = 1 := rfl
  have le2 : ("longest " : String).length = 8 := rfl
  have le3 : ("most " : String).length = 5 := rfl
  simp [S_law_lines, N_law_lines, runSs]
  simp [s1_law_lines, runS, runE, runEs, runTg, tyA, newL, z1, z3, subA, g1]
  intro p1 e1
  obtain ⟨M1, hM1, t1, k1⟩ := fresh_put (o := .lst [.str "people"]) e1
  rw [hM1]
  have g1' := t1 _ _ g1
  simp [g1', a1, keyOk_str, biA, strsP, newL]
  intro p2 e2
  obtain ⟨M2, hM2, t2, k2⟩ := fresh_put (o := .lst (b.people.map PV.str)) e2
  rw [hM2]
  have k12 := t2 _ _ k1
  simp [binA, k2, k12]
  refine ⟨by omega, fun p3 e3 => ?_⟩
  obtain ⟨M3, hM3, t3, k3⟩ := fresh_put (o := .lst (.str "people" :: b.people.map PV.str)) e3
  rw [hM3]
  have t13 := (t1.trans t2).trans t3
  have g13 := t13 _ _ g1
  have es : strsOf (.str "people" :: b.people.map PV.str) = some ("people" :: b.people) := strsOf_map ("people" :: b.people)
  simp [bmA, seqA, k3, es, g13, a2, a3, keyOk_str]
  refine ⟨by omega, by omega, by omega, by omega, by omega, by omega, by omega, fun f ef => ?_⟩
  have hl1 : "longest " ++ (b.longest : Int).repr = joinS " " ["longest", (b.longest : Int).repr] := glue "longest" " " _
  have hl2 : "most " ++ (b.most : Int).repr = joinS " " ["most", (b.most : Int).repr] := glue "most" " " _
  rw [hl1, hl2]
  obtain ⟨M4, hM4, t4, k4⟩ := fresh_put (o := .lst ((hlines b).map PV.str)) ef
  have hM4' : mput M3 f (.lst [.str (joinS " " ("people" :: b.people)), .str (joinS " " ["longest", (b.longest : Int).repr]), .str (joinS " " ["most", (b.most : Int).repr])]) = M4 := hM4
  rw [hM4']
  have t14 := t13.trans t4
  simp [s2_law_lines, runS, runE, runEs, runI, h1, C_parts]
  intro p M5 pa5 t5 ep
  obtain ⟨l1, l2, l3, l4, hp, j1, j2, j3, j4⟩ := pa5
  simp [itA, hp]
  have k5 := t5 _ _ k4
  have hpf : p ≠ f := fun z => by rw [z, k5] at hp; simp [hlines] at hp
  have htf : t ≠ f := fun z => by rw [z] at g1; have := t13 _ _ g1; rw [ef] at this; cases this
  have hdf : d ≠ f := fun z => by rw [z] at g2; have := t13 _ _ g2; rw [ef] at this; cases this
  have hfM : M f = none := t13.fresh ef
  refine forF_inv (fun xs g M' => ∃ j, j ≤ 4 ∧ xs = (itemsL l1 l2 l3 l4).drop j ∧ (∃ a c, g = [some (.ref t), some (.ref f), a, c]) ∧ M' f = some (.lst ((hlines b ++ (rlines b).take j).map .str)) ∧ ∀ x o, x ≠ f → M5 x = some o → M' x = some o) ?_ ?_ ?_ ?_
  · rintro xs g M' ⟨j, _, _, _, _, w⟩
    exact w p _ hpf hp
  · rintro g M' ⟨j, w1, w2, ⟨a, c, rfl⟩, w4, w5⟩
    have ej : j = 4 := by
      have := congrArg List.length w2
      simp [itemsL] at this; omega
    subst ej
    have g1M := w5 _ _ htf (t5 _ _ (t14 _ _ g1))
    have e7 : (rlines b).take 4 = rlines b := rfl
    rw [e7] at w4
    simp only [id]
    simp [s3_law_lines, runS, runE, runEs, tyA, newL, z1, subA, g1M]
    intro q1 e1
    obtain ⟨M6, hM6, t6, k6⟩ := fresh_put (o := .lst [.str "words"]) e1
    rw [hM6]
    have g1M6 := t6 _ _ g1M
    simp [g1M6, a5, keyOk_str, biA, strsP, newL]
    intro q2 e2
    obtain ⟨M7, hM7, t7, k7⟩ := fresh_put (o := .lst (b.words.map PV.str)) e2
    rw [hM7]
    have k67 := t7 _ _ k6
    simp [binA, k7, k67]
    refine ⟨by omega, fun q3 e3 => ?_⟩
    obtain ⟨M8, hM8, t8, k8⟩ := fresh_put (o := .lst (.str "words" :: b.words.map PV.str)) e3
    rw [hM8]
    have es2 : strsOf (.str "words" :: b.words.map PV.str) = some ("words" :: b.words) := strsOf_map ("words" :: b.words)
    simp [bmA, seqA, k8, es2]
    refine ⟨by omega, by omega, by omega, fun q4 e4 => ?_⟩
    obtain ⟨M9, hM9, t9, k9⟩ := fresh_put (o := .lst [.str (joinS " " ("words" :: b.words))]) e4
    rw [hM9]
    have t69 := ((t6.trans t7).trans t8).trans t9
    have w9 := t69 _ _ w4
    simp only [k9, w9]
    refine ⟨by simp [hlines, rlines]; omega, fun l el => ?_⟩
    have ee : (hlines b ++ rlines b).map PV.str ++ [.str (joinS " " ("words" :: b.words))] = (lines b).map .str := rfl
    rw [ee]
    refine q l _ mput_same fun x o e => ?_
    refine (Sub.new el) _ _ (t69 _ _ (w5 x o (fun z => by rw [z, hfM] at e; cases e) (t5 _ _ (t14 _ _ e))))
  rotate_left
  · exact ⟨0, by omega, rfl, ⟨_, _, rfl⟩, by simpa using k5, fun x o _ e => e⟩
  · rintro x xs g M' ⟨j, w1, w2, ⟨a, c, rfl⟩, w4, w5⟩ Dn d1 d2 d3 d4
    have g1M := w5 _ _ htf (t5 _ _ (t14 _ _ g1))
    have g2M := w5 _ _ hdf (t5 _ _ (t14 _ _ g2))
    have main : ∀ (z : String) (l : Addr), z ∈ PARTS → x = .tup [.str z, .ref l] → xs = (itemsL l1 l2 l3 l4).drop (j + 1) → j + 1 ≤ 4 → (rlines b).take (j + 1) = (rlines b).take j ++ [joinS " " [z, b.at z]] → z.length ≤ 8 → (b.at z).length ≤ 8 →
        runTg Γ (Tg.tup (Tgs.cons (Tg.name 2) (Tgs.cons (Tg.name 3) Tgs.nil))) (fun x x_1 M => Ea x M) x [some (.ref t), some (.ref f), a, c] M' fun g2 M2 => runSs Γ (fun x x_1 M => Ea x M) B1_law_lines Dn g2 M2 := by
      intro z l hz e2 e3 e4 e5 e6 e7
      subst e2
      have hj : z ++ " " ++ b.at z = joinS " " [z, b.at z] := glue z " " _
      simp only [runTg, runTgs, tgsLen, List.length_cons, List.length_nil, List.set, B1_law_lines, runSs, runS, runE, runEs, List.getElem?_cons_succ, List.getElem?_cons_zero, tyA, w4, binA, subA, g1M, a4, g2M, rule_at b hz, keyOk_str, hj, bmA, true_and]
      have e8 : (" " : String).length = 1 := rfl
      refine ⟨by omega, by rw [String.length_append, e8]; omega, ?_, ?_⟩
      · simp [hlines, rlines]; omega
      · refine d1 _ _ ⟨j + 1, e4, e3, ⟨_, _, rfl⟩, ?_, fun y o hy e => ?_⟩
        · rw [mput_same, e5]; simp
        · rw [mput_ne hy]; exact w5 y o hy e
    have hj4 : j < 4 := by
      have := congrArg List.length w2
      simp [itemsL] at this; omega
    have hl' : j = 0 ∨ j = 1 ∨ j = 2 ∨ j = 3 := by omega
    have rb := rows_ok ok
    have n1 : b.r1.length ≤ 8 := (rb ["back", b.r1] (by simp [rows])).2 _ (by simp)
    have n2 : b.r2.length ≤ 8 := (rb ["count", b.r2] (by simp [rows])).2 _ (by simp)
    have n3 : b.r3.length ≤ 8 := (rb ["end", b.r3] (by simp [rows])).2 _ (by simp)
    have n4 : b.r4.length ≤ 8 := (rb ["gap", b.r4] (by simp [rows])).2 _ (by simp)
    rcases hl' with rfl | rfl | rfl | rfl
    · have e : x = .tup [.str "back", .ref l1] ∧ xs = (itemsL l1 l2 l3 l4).drop 1 := by simpa [itemsL] using w2
      exact main "back" l1 (by decide) e.1 e.2 (by omega) rfl (by decide) n1
    · have e : x = .tup [.str "count", .ref l2] ∧ xs = (itemsL l1 l2 l3 l4).drop 2 := by simpa [itemsL] using w2
      exact main "count" l2 (by decide) e.1 e.2 (by omega) rfl (by decide) n2
    · have e : x = .tup [.str "end", .ref l3] ∧ xs = (itemsL l1 l2 l3 l4).drop 3 := by simpa [itemsL] using w2
      exact main "end" l3 (by decide) e.1 e.2 (by omega) rfl (by decide) n3
    · have e : x = .tup [.str "gap", .ref l4] ∧ xs = (itemsL l1 l2 l3 l4).drop 4 := by simpa [itemsL] using w2
      exact main "gap" l4 (by decide) e.1 e.2 (by omega) rfl (by decide) n4
end Law
end

section
set_option maxHeartbeats 4000000
/-! a line with further spaces. -/
namespace Law
open PySem L2 Rx
def C_loose : Con := fun as M Q _ => ∃ (r : Addr) (line : String) (row : List String), as = [.ref r, .str line] ∧ RowAt M r ∧ splitS ' ' line = row ∧ (∀ w ∈ row, Bare w) ∧ row.length ≤ 6 ∧ line.length ≤ 1000 ∧
  ∀ (s : String) M', wordsS s = row → '\n' ∉ s.toList → s.length ≤ 1000 → RowAt M' r → (∀ c, Cell M r c → Cell M' r c) → Rest M M' r → Q (.str s) M'
theorem sp_list : (" " : String).toList = [' '] := by decide
theorem strip_sub (l : List Char) : (stripC ' ' l).Sublist l := by
  unfold stripC
  have h1 := List.dropWhile_sublist (l := l) (fun c => c == ' ')
  have h2 := List.dropWhile_sublist (l := (l.dropWhile (· == ' ')).reverse) (fun c => c == ' ')
  have h3 := h2.reverse
  rw [List.reverse_reverse] at h3
  exact h3.trans h1
theorem run_loose {Γ : Gm} (h1 : Γ.fn "_law_pick" = some (2, C_pick)) : Does Γ N_law_loose P_law_loose S_law_loose C_loose := by
  rintro as M Qa Ea ⟨r, line, row, rfl, hr, hrow, hb, h6, hll, q⟩ -
  simp [S_law_loose, N_law_loose, runSs]
  simp [s1_law_loose, runS, runE, runEs, runTg, h1]
  refine ⟨r, 3, rfl, by omega, by omega, hr, fun v M1 hv hr1 c1 r1 => ?_⟩
  simp [binA, sp_list]
  refine ⟨by omega, ?_⟩
  simp [s2_law_loose, runS, runE, runEs, runI, tyA, bmA, sp_list, newL]
  refine ⟨by omega, ?_⟩
  rw [hrow]
  intro p ep
  obtain ⟨M2, hM2, t2, k2⟩ := fresh_put (o := .lst (row.map PV.str)) ep
  rw [hM2]
  simp [itA, k2]
  have hpr : p ≠ r := fun z => by obtain ⟨c, ns, i, x, y, g1, _⟩ := hr1; rw [z, g1] at ep; cases ep
  have c12 : ∀ c, Cell M r c → Cell M2 r c := fun c h => by
    obtain ⟨i, x, y, h⟩ := c1 c h
    exact ⟨i, x, y, t2 _ _ h⟩
  refine forF_inv (fun xs g M' => ∃ (done rest : List String) (f : String), row = done ++ rest ∧ xs = rest.map PV.str ∧ (∃ a, g = [some (.ref r), some (.str line), some (.str f), a]) ∧ (∀ l, wordsC (f.toList ++ l) = done.map String.toList ++ wordsC l) ∧ '\n' ∉ f.toList ∧ f.length ≤ 2 + done.length * 11 ∧
    RowAt M' r ∧ (∀ c, Cell M r c → Cell M' r c) ∧ Rest M2 M' r) ?_ ?_ ?_ ?_
  · rintro xs g M' ⟨_, _, _, _, _, _, _, _, _, _, _, w⟩
    exact w _ _ hpr k2
  · rintro g M' ⟨done, rest, f, w1, w2, ⟨a, rfl⟩, w4, w5, w6, w7, w8, w9⟩
    have er : rest = [] := by cases rest with
      | nil => rfl
      | cons a b => cases w2
    subst er
    rw [List.append_nil] at w1
    subst w1
    have wf : wordsC f.toList = row.map String.toList := by
      have := w4 []
      rwa [List.append_nil, wordsC_nil, List.append_nil] at this
    have back : (row.map String.toList).map String.ofList = row := by
      rw [List.map_map]
      conv => rhs; rw [← List.map_id row]
      exact List.map_congr_left fun s _ => ofList_toList s
    have fl : f.length ≤ 1000 := by omega
    simp only [id]
    simp [s3_law_loose, runS, runE, runT, runEs, h1]
    refine ⟨r, 2, rfl, by omega, by omega, w7, fun v2 M3 hv2 hr3 c3 r3 => ?_⟩
    have rr : Rest M M3 r := ((r1.sub t2).trans w9).trans r3
    have cc : ∀ c, Cell M r c → Cell M3 r c := fun c h => c3 c (w8 c h)
    simp [cmpA, eqA, sEq]
    by_cases h0 : v2 = 0
    · rw [if_pos h0]
      refine q f M3 ?_ w5 fl hr3 cc rr
      rw [wordsS_eq, wf, back]
    · rw [if_neg h0]
      simp [tyA, bmA, sp_list]
      refine ⟨by omega, ?_⟩
      have sl : (stripS ' ' f).toList = stripC ' ' f.toList := by unfold stripS; rw [String.toList_ofList]
      refine q (stripS ' ' f) M3 ?_ (fun hm => ?_) ?_ hr3 cc rr
      · rw [wordsS_eq, sl, wordsC_strip, wf, back]
      · rw [sl] at hm
        exact w5 ((strip_sub _).subset hm)
      · have := (strip_sub f.toList).length_le
        rw [← sl, String.length_toList, String.length_toList] at this
        omega
  rotate_left
  · refine ⟨[], row, _, rfl, rfl, ⟨_, rfl⟩, fun l => ?_, ?_, ?_, hr1.sub t2, c12, Rest.refl M2 r⟩
    · rw [String.toList_ofList, wordsC_reps]; rfl
    · rw [String.toList_ofList]
      intro hm
      have := (List.mem_replicate.mp hm).2
      revert this; decide
    · rw [← String.length_toList, String.toList_ofList, List.length_replicate]
      simp; omega
  · rintro x xs g M' ⟨done, rest, f, w1, w2, ⟨a, rfl⟩, w4, w5, w6, w7, w8, w9⟩ Dn d1 d2 d3 d4
    rcases rest with _ | ⟨w, rest⟩
    · cases w2
    obtain ⟨rfl, rfl⟩ := List.cons.inj w2
    have hw := hb w (by rw [w1]; simp)
    obtain ⟨b1, b2, b3, b4⟩ := hw
    have dl : done.length ≤ 6 := by
      have := congrArg List.length w1
      simp at this; omega
    simp [runTg, B1_law_loose, runSs, runS, runE, runEs, binA, h1]
    refine ⟨by omega, r, 3, rfl, by omega, by omega, w7, fun v2 M3 hv2 hr3 c3 r3 => ?_⟩
    simp [sp_list]
    have en : (1 + (v2 : Int)).toNat = v2 + 1 := by omega
    rw [en]
    have ol : (String.ofList (List.replicate (v2 + 1) ' ')).length = v2 + 1 := by
      rw [← String.length_toList, String.toList_ofList, List.length_replicate]
    refine ⟨by omega, by omega, ?_, ?_⟩
    · omega
    · refine d1 _ _ ⟨done ++ [w], rest, _, by rw [w1]; simp, rfl, ⟨_, rfl⟩, fun l => ?_, ?_, ?_, hr3, fun c h => c3 c (w8 c h), w9.trans r3⟩
      · rw [String.toList_append, String.toList_append, String.toList_ofList, List.append_assoc, List.append_assoc, w4, List.replicate_succ, List.cons_append]
        rw [wordsC_word b3 (fun z => b2 (by rw [← ofList_toList w, z])), wordsC_reps]
        simp
      · rw [String.toList_append, String.toList_append, String.toList_ofList]
        intro hm
        rcases List.mem_append.mp hm with hm | hm
        · rcases List.mem_append.mp hm with hm | hm
          · exact w5 hm
          · exact b4 hm
        · have := (List.mem_replicate.mp hm).2
          revert this; decide
      · rw [String.length_append, String.length_append, ol, List.length_append]
        simp; omega
end Law
end

section
set_option maxHeartbeats 4000000
/-! the law. -/
namespace Law
open PySem L2 Rx
def C_law : Con := fun as M Q _ => ∃ (p : PV) (ns : List Int), as = [p] ∧ ns.length ≤ 1000 ∧ seqA p M = some (ns.map .int) ∧ ∀ M', Q (.bl true) M'
theorem eqOA_book {Γ : Gm} (hcl : Γ.cl.contains "Book" = true) (h : Γ.mt "Book" "__eq__" = some (2, C_Book_eq)) {M : MM} {a a' : Addr} {x y : Bk} {Q : KV1} (h1 : BookAt M a x) (h2 : BookAt M a' y) (q : Q (.bl (decide (x = y))) M) : eqOA Γ (.ref a) (.ref a') M Q := by
  obtain ⟨d, zs, _, _, g1, _⟩ := id h1
  obtain ⟨d', zs', _, _, g2, _⟩ := id h2
  unfold eqOA
  simp only [g1, g2, h]
  exact ⟨hcl, trivial, trivial, a, a', x, y, rfl, h1, h2, q⟩
structure LawΓ (Γ : Gm) : Prop where
  cl : Γ.cl.contains "Book" = true
  eq : Γ.mt "Book" "__eq__" = some (2, C_Book_eq)
  draws : Γ.fn "_law_draws" = some (1, C_draws)
  drawn : Γ.fn "_law_drawn" = some (4, C_drawn)
  made : Γ.fn "_law_made" = some (1, C_made)
  lines : Γ.fn "_law_lines" = some (1, C_lines)
  loose : Γ.fn "_law_loose" = some (2, C_loose)
  write : Γ.fn "write" = some (1, C_write)
  read : Γ.fn "read" = some (1, C_read)
theorem nl_list : ("\n" : String).toList = ['\n'] := by decide
theorem run_law {Γ : Gm} (G : LawΓ Γ) : Does Γ N_law P_law S_law C_law := by
  rintro as M Qa Ea ⟨p, ns, rfl, hl, hp, q⟩ -
  simp [S_law, N_law, runSs]
  simp [s1_law, runS, runE, runEs, runTg, G.draws]
  refine ⟨p, ns, rfl, hl, hp, fun r M1 hr1 _ _ => ?_⟩
  simp [s2_law, runS, runE, runI]
  refine forF_inv (fun xs g M' => (∃ a b c d e, g = [some p, some (.ref r), a, b, c, d, e]) ∧ RowAt M' r) ?_ ?_ ?_ ?_
  · intro _ _ _ _; exact True.intro
  · intro g M' _
    simp [s7_law, runS, runE]
    exact q _
  rotate_left
  · exact ⟨⟨_, _, _, _, _, rfl⟩, hr1⟩
  rintro x xs g M1 ⟨⟨a0, b0, c0, d0, e0, rfl⟩, hr1⟩ Dn d1 d2 d3 d4
  simp [runTg, B2_law, runSs]
  simp [s3_law, runS, runE, runEs, runTg, G.drawn]
  refine ⟨r, 3, 2, 2, rfl, by omega, by omega, by omega, by omega, hr1, fun t M2 b ok tt hr2 _ _ => ?_⟩
  simp [s4_law, runS, runE, runEs, G.made, G.lines]
  refine ⟨t, b, rfl, tt, ok, fun a1 M3 bk3 s3 => ?_⟩
  refine ⟨t, b, rfl, tt.sub s3, ok, fun l M4 hl4 s4 => ?_⟩
  have bk4 := bk3.sub s4
  have hr4 := (hr2.sub s3).sub s4
  have tl := text_len ok
  have ll : (lines b).length = 8 := rfl
  have el : joinS "\n" (lines b) = textOf b := rfl
  have e1 : ("\n" : String).length = 1 := rfl
  simp [s5_law, runS, runT, runE, runEs, runSs, G.write, G.read]
  refine ⟨a1, b, rfl, bk4, ok, fun M5 s5 => ?_⟩
  have hl5 := s5 _ _ hl4
  simp [tyA, bmA, seqA, hl5, strsOf_map, el, cmpA, eqA, sEq]
  refine ⟨by omega, by omega, by omega, by omega, by omega, by omega, ?_⟩
  have lb : ∀ s ∈ lines b, s.length ≤ 1000000 ∧ (splitS ' ' s).length ≤ 1000000 := fun s hs => by
    have h1 := lines_len ok s hs
    have h2 := splitS_len ' ' s
    omega
  refine ⟨textOf b, b, rfl, by omega, by rw [lines_split ok]; exact lines_words ok, by rw [lines_split ok]; exact lb, ok, fun a2 M6 bk6 s6 => ?_⟩
  have s46 := s5.trans s6
  refine eqOA_book G.cl G.eq bk6 ((bk4.sub s5).sub s6) ?_
  simp [qT]
  -- the loose lines
  have hl6 := s46 _ _ hl4
  have hr6 := hr4.sub s46
  simp [s6_law, runS, runT, runE, runEs, runSs, runI, tyA, itA, hl6, G.read]
  intro D eD
  have hlr : l ≠ r := fun z => by
    obtain ⟨c, ns, i, x, y, g1, _⟩ := hr6
    rw [z, g1] at hl6
    simp [rowL, lines, rows] at hl6
  have hDr : D ≠ r := fun z => by obtain ⟨c, ns, i, x, y, g1, _⟩ := hr6; rw [z, g1] at eD; cases eD
  have hDl : l ≠ D := fun z => by rw [← z, hl6] at eD; cases eD
  refine lcF_inv (fun xs acc M' => ∃ ss : List String, ss.length ≤ 8 ∧ xs = ((lines b).drop ss.length).map PV.str ∧ acc = ss.map PV.str ∧ ss.map wordsS = (rows b).take ss.length ∧ (∀ s ∈ ss, '\n' ∉ s.toList ∧ s.length ≤ 1000) ∧ M' D = some (.lst acc) ∧
    (∃ c ns i x y, c ≠ D ∧ M' r = some (rowL c i x y) ∧ M' c = some (.lst ((ns : List Int).map .int)) ∧ 0 ≤ i ∧ 0 ≤ x) ∧ ∀ x o, x ≠ r → x ≠ D → M6 x = some o → M' x = some o) ?_ ?_ ?_ ?_ ?_
  · rintro xs acc M' ⟨ss, _, _, _, _, _, _, _, w⟩
    exact w l _ hlr hDl hl6
  · rintro xs acc M' ⟨ss, w1, _, rfl, _⟩
    simp; omega
  · rintro acc M' ⟨ss, w1, w2, rfl, w4, w5, w6, w7, w8⟩
    have e8 : ss.length = 8 := by
      have := congrArg List.length w2
      simp [ll] at this; omega
    rw [e8] at w4
    have w4' : ss.map wordsS = rows b := w4
    have sne : ss ≠ [] := fun z => by rw [z] at e8; cases e8
    have jl : (joinS "\n" ss).length ≤ 8 * 1001 := by
      have := joinS_len "\n" (B := 1000) fun s hs => (w5 s hs).2
      rw [e8] at this
      exact this
    have sp : splitS '\n' (joinS "\n" ss) = ss := split_join nl_list sne fun s hs => (w5 s hs).1
    simp [bmA, seqA, w6, strsOf_map]
    refine ⟨by omega, by omega, by omega, ?_⟩
    have sb : ∀ s ∈ ss, s.length ≤ 1000000 ∧ (splitS ' ' s).length ≤ 1000000 := fun s hs => by
      have h1 := (w5 s hs).2
      have h2 := splitS_len ' ' s
      omega
    refine ⟨joinS "\n" ss, b, rfl, by omega, by rw [sp]; exact w4', by rw [sp]; exact sb, ok, fun a3 M7 bk7 s7 => ?_⟩
    have bk6' := (bk4.sub s46)
    have bkM' : BookAt M' a1 b := by
      obtain ⟨d, zs, z1, z2, z3, z4⟩ := bk6'
      have n1 : a1 ≠ r := fun z => by obtain ⟨c, ns, i, x, y, g1, _⟩ := hr6; rw [z, g1] at z3; cases z3
      have n2 : d ≠ r := fun z => by obtain ⟨c, ns, i, x, y, g1, _⟩ := hr6; rw [z, g1] at z4; cases z4
      have n3 : a1 ≠ D := fun z => by rw [z, eD] at z3; cases z3
      have n4 : d ≠ D := fun z => by rw [z, eD] at z4; cases z4
      exact ⟨d, zs, z1, z2, w8 _ _ n1 n3 z3, w8 _ _ n2 n4 z4⟩
    refine eqOA_book G.cl G.eq bk7 (bkM'.sub s7) ?_
    simp [qT]
    refine d1 _ _ ⟨⟨_, _, _, _, _, rfl⟩, ?_⟩
    obtain ⟨c, ns, i, x, y, _, g1, g2, g3⟩ := w7
    exact RowAt.sub ⟨c, ns, i, x, y, g1, g2, g3⟩ s7
  · rintro x xs acc M' ⟨ss, w1, w2, rfl, w4, w5, w6, ⟨c, ns, i, x', y, hcD, g1, g2, g3, g4⟩, w8⟩ Kt Kf hK1 hK2
    have hj : ss.length < (lines b).length := by
      have := congrArg List.length w2
      simp [ll] at this; omega
    have w2' : ((lines b).drop ss.length).map PV.str = .str (lines b)[ss.length] :: ((lines b).drop (ss.length + 1)).map PV.str := by
      rw [List.drop_eq_getElem_cons hj]; rfl
    rw [w2'] at w2
    obtain ⟨rfl, rfl⟩ := List.cons.inj w2
    have hj2 : ss.length < (rows b).length := hj
    have hrow : (lines b)[ss.length] = joinS " " (rows b)[ss.length] := by simp [lines]
    have rin : (rows b)[ss.length] ∈ rows b := List.getElem_mem hj2
    have rbare := rows_bare ok _ rin
    have wj := words_join rbare.1 fun w hw => ⟨(rbare.2.2 w hw).2.2.1, (rbare.2.2 w hw).2.1⟩
    have llen := lines_len ok _ (List.getElem_mem hj)
    simp [runTg, runC, wipeG, E1_law, runE, runEs, G.loose]
    refine ⟨r, _, (rows b)[ss.length], rfl, ⟨c, ns, i, x', y, g1, g2, g3, g4⟩, (congrArg (splitS (Char.ofNat 32)) hrow).trans wj.1, rbare.2.2, rbare.2.1, by omega, fun s M7 hs hnl hsl hr7 c7 r7 => ?_⟩
    have hD7 := r7 _ _ hDr w6
    refine hK1 _ _ hD7 ⟨ss ++ [s], by simp; omega, by simp, by simp, ?_, fun u hu => ?_, mput_same, ?_, fun x o hx hxD e => ?_⟩
    · rw [List.map_append, w4, List.length_append]
      show _ = List.take (ss.length + 1) (rows b)
      rw [List.take_succ, List.getElem?_eq_getElem hj2]
      simp [hs]
    · rcases List.mem_append.mp hu with hu | hu
      · exact w5 u hu
      · rw [List.mem_singleton.mp hu]; exact ⟨hnl, hsl⟩
    · obtain ⟨c2, ns2, i2, x2, y2, v1, v2, v3⟩ := hr7
      obtain ⟨i3, x3, y3, v4⟩ := c7 c ⟨i, x', y, g1⟩
      have : c2 = c := by rw [v1] at v4; simp [rowL] at v4; exact v4.1
      subst this
      exact ⟨c2, ns2, i2, x2, y2, hcD, by rw [mput_ne (Ne.symm hDr)]; exact v1, by rw [mput_ne hcD]; exact v2, v3⟩
    · rw [mput_ne hxD]; exact r7 x o hx (w8 x o hx hxD e)
  · obtain ⟨c, ns, i, x, y, g1, g2, g3, g4⟩ := hr6
    have hcD : c ≠ D := fun w => by rw [w, eD] at g2; cases g2
    exact ⟨[], by simp, rfl, rfl, by simp, fun s hs => by simp at hs, mput_same, ⟨c, ns, i, x, y, hcD, by rw [mput_ne (Ne.symm hDr)]; exact g1, by rw [mput_ne hcD]; exact g2, g3, g4⟩, fun x o _ hxD e => by rw [mput_ne hxD]; exact e⟩
end Law
end

section
set_option maxHeartbeats 0
namespace Law
open PySem PySem.W
open_top head for PySem.Challenge.rw_dutieslent_k18_texts_there_and_back
end Law
end

section
set_option maxHeartbeats 0
/-! the law's head: facts by names. -/
namespace Law
open PySem PySem.Spec PyProof.Rows L2 Rx He
def d_is_integer : DefD := ⟨("is_integer", none), "is_integer", "is_integer", defArgs (top 14), defBody (top 14), defScope (top 14), [], []⟩
def d_is_from : DefD := ⟨("is_from", none), "is_from", "is_from", defArgs (top 15), defBody (top 15), defScope (top 15), [], []⟩
def d_is_name : DefD := ⟨("is_name", none), "is_name", "is_name", defArgs (top 16), defBody (top 16), defScope (top 16), [], []⟩
def d_is_one_of : DefD := ⟨("is_one_of", none), "is_one_of", "is_one_of", defArgs (top 17), defBody (top 17), defScope (top 17), [], []⟩
def d_are_people : DefD := ⟨("are_people", none), "are_people", "are_people", defArgs (top 18), defBody (top 18), defScope (top 18), [], []⟩
def d_check_rule : DefD := ⟨("check_rule", none), "check_rule", "check_rule", defArgs (top 19), defBody (top 19), defScope (top 19), [], []⟩
def d_are_words : DefD := ⟨("are_words", none), "are_words", "are_words", defArgs (top 20), defBody (top 20), defScope (top 20), [], []⟩
def d_Book_init : DefD := ⟨("Book", some "__init__"), "__init__", "Book.__init__", defArgs (mem 21 0), defBody (mem 21 0), defScope (mem 21 0), [], []⟩
def d_Book_eq : DefD := ⟨("Book", some "__eq__"), "__eq__", "Book.__eq__", defArgs (mem 21 6), defBody (mem 21 6), defScope (mem 21 6), [], []⟩
def d_write : DefD := ⟨("write", none), "write", "write", defArgs (top 24), defBody (top 24), defScope (top 24), [], []⟩
def d_Line_init : DefD := ⟨("Line", some "__init__"), "__init__", "Line.__init__", defArgs (mem 25 0), defBody (mem 25 0), defScope (mem 25 0), [], []⟩
def d_Line_now : DefD := ⟨("Line", some "now"), "now", "Line.now", defArgs (mem 25 1), defBody (mem 25 1), defScope (mem 25 1), [], []⟩
def d_Line_take : DefD := ⟨("Line", some "take"), "take", "Line.take", defArgs (mem 25 2), defBody (mem 25 2), defScope (mem 25 2), [], []⟩
def d_Line_one_of : DefD := ⟨("Line", some "one_of"), "one_of", "Line.one_of", defArgs (mem 25 3), defBody (mem 25 3), defScope (mem 25 3), [], []⟩
def d_Line_take_name : DefD := ⟨("Line", some "take_name"), "take_name", "Line.take_name", defArgs (mem 25 4), defBody (mem 25 4), defScope (mem 25 4), [], []⟩
def d_Line_finish : DefD := ⟨("Line", some "finish"), "finish", "Line.finish", defArgs (mem 25 5), defBody (mem 25 5), defScope (mem 25 5), [], []⟩
def d_Reader_init : DefD := ⟨("Reader", some "__init__"), "__init__", "Reader.__init__", defArgs (mem 26 0), defBody (mem 26 0), defScope (mem 26 0), [], []⟩
def d_Reader_next_line : DefD := ⟨("Reader", some "next_line"), "next_line", "Reader.next_line", defArgs (mem 26 1), defBody (mem 26 1), defScope (mem 26 1), [], []⟩
def d_Reader_one_word : DefD := ⟨("Reader", some "one_word"), "one_word", "Reader.one_word", defArgs (mem 26 2), defBody (mem 26 2), defScope (mem 26 2), [], []⟩
def d_read_people : DefD := ⟨("read_people", none), "read_people", "read_people", defArgs (top 27), defBody (top 27), defScope (top 27), [], []⟩
def d_read_words : DefD := ⟨("read_words", none), "read_words", "read_words", defArgs (top 28), defBody (top 28), defScope (top 28), [], []⟩
def d_read : DefD := ⟨("read", none), "read", "read", defArgs (top 29), defBody (top 29), defScope (top 29), [], []⟩
def d_law_draws : DefD := ⟨("_law_draws", none), "_law_draws", "_law_draws", defArgs (top 31), defBody (top 31), defScope (top 31), [], []⟩
def d_law_pick : DefD := ⟨("_law_pick", none), "_law_pick", "_law_pick", defArgs (top 32), defBody (top 32), defScope (top 32), [], []⟩
def d_law_parts : DefD := ⟨("_law_parts", none), "_law_parts", "_law_parts", defArgs (top 33), defBody (top 33), defScope (top 33), [], []⟩
def d_law_rule : DefD := ⟨("_law_rule", none), "_law_rule", "_law_rule", defArgs (top 34), defBody (top 34), defScope (top 34), [], []⟩
def d_law_people : DefD := ⟨("_law_people", none), "_law_people", "_law_people", defArgs (top 35), defBody (top 35), defScope (top 35), [], []⟩
def d_law_drawn : DefD := ⟨("_law_drawn", none), "_law_drawn", "_law_drawn", defArgs (top 36), defBody (top 36), defScope (top 36), [], []⟩
def d_law_made : DefD := ⟨("_law_made", none), "_law_made", "_law_made", defArgs (top 37), defBody (top 37), defScope (top 37), [], []⟩
def d_law_lines : DefD := ⟨("_law_lines", none), "_law_lines", "_law_lines", defArgs (top 38), defBody (top 38), defScope (top 38), [], []⟩
def d_law_loose : DefD := ⟨("_law_loose", none), "_law_loose", "_law_loose", defArgs (top 39), defBody (top 39), defScope (top 39), [], []⟩
def d_law : DefD := ⟨("law", none), "law", "law", defArgs (top 40), defBody (top 40), defScope (top 40), [], []⟩
def fn : List DefD := [d_is_integer, d_is_from, d_is_name, d_is_one_of, d_are_people, d_check_rule, d_are_words, d_Book_init, d_Book_eq, d_write, d_Line_init, d_Line_now, d_Line_take, d_Line_one_of, d_Line_take_name, d_Line_finish, d_Reader_init, d_Reader_next_line, d_Reader_one_word, d_read_people, d_read_words, d_read, d_law_draws, d_law_pick, d_law_parts, d_law_rule, d_law_people, d_law_drawn, d_law_made, d_law_lines, d_law_loose, d_law]
def fa0 : List Fa := [.glo "is_integer", .glo "is_from", .glo "is_name", .glo "is_one_of", .glo "are_people", .glo "check_rule", .glo "are_words", .meth "Book" "__eq__", .glo "write", .meth "Line" "now", .meth "Line" "take", .meth "Line" "one_of", .meth "Line" "take_name", .meth "Line" "finish", .meth "Reader" "next_line", .meth "Reader" "one_word", .glo "read_people", .glo "read_words", .glo "read", .glo "_law_draws", .glo "_law_pick", .glo "_law_parts", .glo "_law_rule", .glo "_law_people", .glo "_law_drawn"]
def fa1 : List Fa := [.glo "_law_made", .glo "_law_lines", .glo "_law_loose", .glo "law", .glo "Book", .cls "Book", .mkr "Book", .noat "Book" "turns", .noat "Book" "names", .noat "Book" "open_days", .noat "Book" "cap", .noat "Book" "parts", .noat "Book" "told_words", .glo "Line", .cls "Line", .mkr "Line", .noat "Line" "parts", .noat "Line" "number", .noat "Line" "spot", .glo "Reader", .cls "Reader", .mkr "Reader", .noat "Reader" "rows", .noat "Reader" "at", .free "len"]
def fa2 : List Fa := [.free "list", .free "tuple", .free "int", .free "min", .free "max", .free "all", .free "any", .free "sorted", .free "str", .free "isinstance", .free "range", .free "enumerate", .free "zip", .free "dict", .free "bool", .free "set", .int "LONGEST" 8, .int "MOST" 2, .str "LETTERS" "abcdefghijklmnopqrstuvwxyz", .glo "RULES", .glo "WORDS", .glo "DIGITS"]
def fa : List Fa := fa0 ++ fa1 ++ fa2
def owns : List String := ["Book"]
def ex (K : PySem.W.Frag) : Bool := (owns.all fun c => ownB K (ga K (so c)) (owns.map fun d => (d, ga K (so d))) c) && (kdB K "RULES" RULES && (tupB1 K "WORDS" WORDS && tupB1 K "DIGITS" DIGITS))
theorem says (P : Params) : He.obsD fa fn (head.heap_39 P) = He.valD fn := by kernel_rfl
theorem exs (P : Params) : ex (head.heap_39 P) = true := by kernel_rfl
end Law
end

section
set_option maxHeartbeats 4000000
/-! the end. -/
namespace Law
open PySem PySem.Spec PyProof.Rows L2 Rx He
def coF (x : String) : Option PV := if x = "LETTERS" then some (.str LETTERS) else if x = "LONGEST" then some (.int 8) else if x = "MOST" then some (.int 2) else if x = "RULES" then some rulesP else if x = "WORDS" then some (strsP WORDS) else if x = "DIGITS" then some (strsP DIGITS) else none
def G0 : Gm := { fn := fun _ => none, mkc := fun _ => none, mt := fun _ _ => none, pr := fun _ _ => none, co := coF, cl := ["Book"] }
theorem co0 : Consts G0 := ⟨rfl, rfl, rfl, rfl, rfl, rfl⟩
theorem Consts.of {Γ Γ' : Gm} (h : Consts Γ) (e : Γ'.co = Γ.co) : Consts Γ' := by
  obtain ⟨a, b, c, d, f, g⟩ := h
  exact ⟨by rw [e]; exact a, by rw [e]; exact b, by rw [e]; exact c, by rw [e]; exact d, by rw [e]; exact f, by rw [e]; exact g⟩
def G1 : Gm := G0.addF "is_integer" 1 C_is_integer
def G2 : Gm := G1.addF "is_from" 3 C_is_from
def G3 : Gm := G2.addF "is_name" 1 C_is_name
def G4 : Gm := G3.addF "is_one_of" 2 C_is_one_of
def G5 : Gm := G4.addF "are_people" 1 C_are_people
def G6 : Gm := G5.addF "check_rule" 1 C_check_rule
def G7 : Gm := G6.addF "are_words" 1 C_are_words
def G8 : Gm := G7.addC "Book" 6 C_Book_init
def G9 : Gm := G8.addM "Book" "__eq__" 2 C_Book_eq
def G10 : Gm := G9.addF "write" 1 C_write
def G11 : Gm := G10.addC "Line" 3 C_Line_init
def G12 : Gm := G11.addM "Line" "now" 1 C_Line_now
def G13 : Gm := G12.addM "Line" "take" 2 C_Line_take
def G14 : Gm := G13.addM "Line" "one_of" 2 C_Line_one_of
def G15 : Gm := G14.addM "Line" "take_name" 1 C_Line_take_name
def G16 : Gm := G15.addM "Line" "finish" 1 C_Line_finish
def G17 : Gm := G16.addC "Reader" 2 C_Reader_init
def G18 : Gm := G17.addM "Reader" "next_line" 2 C_next_line
def G19 : Gm := G18.addM "Reader" "one_word" 3 C_one_word
def G20 : Gm := G19.addF "read_people" 1 C_read_people
def G21 : Gm := G20.addF "read_words" 1 C_read_words
def G22 : Gm := G21.addF "read" 1 C_read
def G23 : Gm := G22.addF "_law_draws" 1 C_draws
def G24 : Gm := G23.addF "_law_pick" 2 C_pick
def G25 : Gm := G24.addF "_law_parts" 0 C_parts
def G26 : Gm := G25.addF "_law_rule" 1 C_law_rule
def G27 : Gm := G26.addF "_law_people" 2 C_law_people
def G28 : Gm := G27.addF "_law_drawn" 4 C_drawn
def G29 : Gm := G28.addF "_law_made" 1 C_made
def G30 : Gm := G29.addF "_law_lines" 1 C_lines
def G31 : Gm := G30.addF "_law_loose" 2 C_loose
def G32 : Gm := G31.addF "law" 1 C_law
theorem do_is_integer : Does G0 N_is_integer P_is_integer S_is_integer C_is_integer := run_is_integer 
theorem do_is_from : Does G1 N_is_from P_is_from S_is_from C_is_from := run_is_from (show G1.fn "is_integer" = some (1, C_is_integer) from rfl)
theorem do_is_name : Does G2 N_is_name P_is_name S_is_name C_is_name := run_is_name (co0.of (Γ' := G2) rfl)
theorem do_is_one_of : Does G3 N_is_one_of P_is_one_of S_is_one_of C_is_one_of := run_is_one_of 
theorem do_are_people : Does G4 N_are_people P_are_people S_are_people C_are_people := run_are_people (show G4.fn "is_name" = some (1, C_is_name) from rfl)
theorem do_check_rule : Does G5 N_check_rule P_check_rule S_check_rule C_check_rule := run_check_rule (co0.of (Γ' := G5) rfl) (show G5.fn "is_one_of" = some (2, C_is_one_of) from rfl)
theorem do_are_words : Does G6 N_are_words P_are_words S_are_words C_are_words := run_are_words (co0.of (Γ' := G6) rfl) (show G6.fn "is_one_of" = some (2, C_is_one_of) from rfl)
theorem do_Book_init : Does G7 N_Book_init P_Book_init S_Book_init C_Book_init := run_Book_init (co0.of (Γ' := G7) rfl) (show G7.fn "are_people" = some (1, C_are_people) from rfl) (show G7.fn "is_from" = some (3, C_is_from) from rfl) (show G7.fn "check_rule" = some (1, C_check_rule) from rfl) (show G7.fn "are_words" = some (1, C_are_words) from rfl)
theorem do_Book_eq : Does G8 N_Book_eq P_Book_eq S_Book_eq C_Book_eq := run_Book_eq (show G8.cl.contains "Book" = true from rfl)
theorem do_write : Does G9 N_write P_write S_write C_write := run_write 
theorem do_Line_init : Does G10 N_Line_init P_Line_init S_Line_init C_Line_init := run_Line_init 
theorem do_Line_now : Does G11 N_Line_now P_Line_now S_Line_now C_Line_now := run_Line_now 
theorem do_Line_take : Does G12 N_Line_take P_Line_take S_Line_take C_Line_take := run_Line_take (show G12.mt "Line" "now" = some (1, C_Line_now) from rfl)
theorem do_Line_one_of : Does G13 N_Line_one_of P_Line_one_of S_Line_one_of C_Line_one_of := run_Line_one_of (show G13.mt "Line" "now" = some (1, C_Line_now) from rfl) (show G13.mt "Line" "take" = some (2, C_Line_take) from rfl)
theorem do_Line_take_name : Does G14 N_Line_take_name P_Line_take_name S_Line_take_name C_Line_take_name := run_Line_take_name (show G14.mt "Line" "now" = some (1, C_Line_now) from rfl) (show G14.mt "Line" "take" = some (2, C_Line_take) from rfl) (show G14.fn "is_name" = some (1, C_is_name) from rfl)
theorem do_Line_finish : Does G15 N_Line_finish P_Line_finish S_Line_finish C_Line_finish := run_Line_finish 
theorem do_Reader_init : Does G16 N_Reader_init P_Reader_init S_Reader_init C_Reader_init := run_Reader_init 
theorem do_Reader_next_line : Does G17 N_Reader_next_line P_Reader_next_line S_Reader_next_line C_next_line := run_Reader_next_line (show G17.mkc "Line" = some (3, C_Line_init) from rfl) (show G17.mt "Line" "one_of" = some (2, C_Line_one_of) from rfl)
theorem do_Reader_one_word : Does G18 N_Reader_one_word P_Reader_one_word S_Reader_one_word C_one_word := run_Reader_one_word (show G18.mt "Reader" "next_line" = some (2, C_next_line) from rfl) (show G18.mt "Line" "one_of" = some (2, C_Line_one_of) from rfl) (show G18.mt "Line" "finish" = some (1, C_Line_finish) from rfl)
theorem do_read_people : Does G19 N_read_people P_read_people S_read_people C_read_people := run_read_people (show G19.mt "Line" "take_name" = some (1, C_Line_take_name) from rfl) (show G19.mt "Line" "now" = some (1, C_Line_now) from rfl) (show G19.mt "Line" "finish" = some (1, C_Line_finish) from rfl)
theorem do_read_words : Does G20 N_read_words P_read_words S_read_words C_read_words := run_read_words (co0.of (Γ' := G20) rfl) (show G20.mt "Line" "one_of" = some (2, C_Line_one_of) from rfl) (show G20.mt "Line" "now" = some (1, C_Line_now) from rfl)
theorem do_read : Does G21 N_read P_read S_read C_read := run_read (co0.of (Γ' := G21) rfl) (show G21.mkc "Reader" = some (2, C_Reader_init) from rfl) (show G21.mt "Reader" "next_line" = some (2, C_next_line) from rfl) (show G21.fn "read_people" = some (1, C_read_people) from rfl) (show G21.mt "Reader" "one_word" = some (3, C_one_word) from rfl) (show G21.fn "read_words" = some (1, C_read_words) from rfl) (show G21.mkc "Book" = some (6, C_Book_init) from rfl)
theorem do_law_draws : Does G22 N_law_draws P_law_draws S_law_draws C_draws := run_draws 
theorem do_law_pick : Does G23 N_law_pick P_law_pick S_law_pick C_pick := run_pick 
theorem do_law_parts : Does G24 N_law_parts P_law_parts S_law_parts C_parts := run_parts 
theorem do_law_rule : Does G25 N_law_rule P_law_rule S_law_rule C_law_rule := run_law_rule (show G25.fn "_law_parts" = some (0, C_parts) from rfl) (show G25.fn "_law_pick" = some (2, C_pick) from rfl)
theorem do_law_people : Does G26 N_law_people P_law_people S_law_people C_law_people := run_law_people (show G26.fn "_law_pick" = some (2, C_pick) from rfl)
theorem do_law_drawn : Does G27 N_law_drawn P_law_drawn S_law_drawn C_drawn := run_drawn (show G27.fn "_law_pick" = some (2, C_pick) from rfl) (show G27.fn "_law_people" = some (2, C_law_people) from rfl) (show G27.fn "_law_rule" = some (1, C_law_rule) from rfl)
theorem do_law_made : Does G28 N_law_made P_law_made S_law_made C_made := run_made (show G28.mkc "Book" = some (6, C_Book_init) from rfl)
theorem do_law_lines : Does G29 N_law_lines P_law_lines S_law_lines C_lines := run_lines (show G29.fn "_law_parts" = some (0, C_parts) from rfl)
theorem do_law_loose : Does G30 N_law_loose P_law_loose S_law_loose C_loose := run_loose (show G30.fn "_law_pick" = some (2, C_pick) from rfl)
theorem do_law : Does G31 N_law P_law S_law C_law := run_law ⟨(show G31.cl.contains "Book" = true from rfl), (show G31.mt "Book" "__eq__" = some (2, C_Book_eq) from rfl), (show G31.fn "_law_draws" = some (1, C_draws) from rfl), (show G31.fn "_law_drawn" = some (4, C_drawn) from rfl), (show G31.fn "_law_made" = some (1, C_made) from rfl), (show G31.fn "_law_lines" = some (1, C_lines) from rfl), (show G31.fn "_law_loose" = some (2, C_loose) from rfl), (show G31.fn "write" = some (1, C_write) from rfl), (show G31.fn "read" = some (1, C_read) from rfl)⟩
def caOf (K : PySem.W.Frag) (c : String) : Addr := ga K (so c)
section
variable {P : Program} {w : World} {K : PySem.W.Frag} {mg : Str → Option Value} {base : Heap}
theorem lib0 (KX : K.In base) (G : base.Ns mainGlobals mg) (c : SaysD fa fn K) (e : ex K = true) : Lib G0 (caOf K) P w K mg base 0 := by
  have e1 := and1 e
  have e2 := and2 e
  have e3 := and2 e2
  refine ⟨fun _ _ _ h => (by cases h), fun _ _ _ h => (by cases h), fun _ _ _ _ h => (by cases h), fun _ _ _ _ h => (by cases h), fun x p h => ?_, fun x hx => ?_, fun d hd => ?_⟩
  · have h : coF x = some p := h
    unfold coF at h
    split at h
    · rename_i ex; cases h; subst ex
      obtain ⟨t, ht⟩ := str_ok KX G (c.fact 68 (f := .str "LETTERS" "abcdefghijklmnopqrstuvwxyz") rfl)
      exact ⟨_, .str (so LETTERS), ht, ⟨t, rfl⟩, fun H => .str _⟩
    split at h
    · rename_i ex; cases h; subst ex
      obtain ⟨t, ht⟩ := int_ok KX G (c.fact 66 (f := .int "LONGEST" 8) rfl)
      exact ⟨_, .int 8, ht, ⟨t, rfl⟩, fun H => .int _⟩
    split at h
    · rename_i ex; cases h; subst ex
      obtain ⟨t, ht⟩ := int_ok KX G (c.fact 67 (f := .int "MOST" 2) rfl)
      exact ⟨_, .int 2, ht, ⟨t, rfl⟩, fun H => .int _⟩
    split at h
    · rename_i ex; cases h; subst ex
      exact ⟨_, .ref _, glo_ok KX G (c.fact 69 (f := .glo "RULES") rfl), rfl, fun H => kdB_ok (and1 e2) H⟩
    split at h
    · rename_i ex; cases h; subst ex
      obtain ⟨a, ea, hr⟩ := tupSB_ok (and1 e3)
      cases ea
      exact ⟨_, .ref _, glo_ok KX G (c.fact 70 (f := .glo "WORDS") rfl), rfl, hr⟩
    split at h
    · rename_i ex; cases h; subst ex
      obtain ⟨a, ea, hr⟩ := tupSB_ok (and2 e3)
      cases ea
      exact ⟨_, .ref _, glo_ok KX G (c.fact 71 (f := .glo "DIGITS") rfl), rfl, hr⟩
    · cases h
  · simp only [biNames, List.mem_cons, List.not_mem_nil, or_false] at hx
    rcases hx with rfl | rfl | rfl | rfl | rfl | rfl | rfl | rfl | rfl | rfl | rfl | rfl | rfl | rfl | rfl | rfl | rfl
    · exact free_ok KX G (c.fact 49 (f := .free "len") rfl)
    · exact free_ok KX G (c.fact 50 (f := .free "list") rfl)
    · exact free_ok KX G (c.fact 51 (f := .free "tuple") rfl)
    · exact free_ok KX G (c.fact 52 (f := .free "int") rfl)
    · exact free_ok KX G (c.fact 53 (f := .free "min") rfl)
    · exact free_ok KX G (c.fact 54 (f := .free "max") rfl)
    · exact free_ok KX G (c.fact 55 (f := .free "all") rfl)
    · exact free_ok KX G (c.fact 56 (f := .free "any") rfl)
    · exact free_ok KX G (c.fact 57 (f := .free "sorted") rfl)
    · exact free_ok KX G (c.fact 58 (f := .free "str") rfl)
    · exact free_ok KX G (c.fact 59 (f := .free "isinstance") rfl)
    · exact free_ok KX G (c.fact 60 (f := .free "range") rfl)
    · exact free_ok KX G (c.fact 61 (f := .free "enumerate") rfl)
    · exact free_ok KX G (c.fact 62 (f := .free "zip") rfl)
    · exact free_ok KX G (c.fact 63 (f := .free "dict") rfl)
    · exact free_ok KX G (c.fact 64 (f := .free "bool") rfl)
    · exact free_ok KX G (c.fact 65 (f := .free "set") rfl)
  · have hd' : d = "Book" := by simpa [G0] using hd
    subst hd'
    have ho := List.all_eq_true.mp e1 "Book" (by decide +kernel)
    obtain ⟨o1, o2⟩ := ownB_ok (glo_ok KX G (c.fact 29 (f := .glo "Book") rfl)) ho
    refine ⟨o1, fun d hd => ?_⟩
    have hd' : d = "Book" := by simpa [G0] using hd
    subst hd'
    exact o2 ("Book", ga K (so "Book")) (by simp [owns])
theorem cls_Book (c : SaysD fa fn K) : ClsOk K (caOf K "Book") "Book" := by
  refine ⟨cls_ok (c.fact 30 (f := .cls "Book") rfl), fun f h => ?_⟩
  have h : f ∈ ["turns", "names", "open_days", "cap", "parts", "told_words"] := by simpa [fieldOf] using h
  simp only [List.mem_cons, List.not_mem_nil, or_false] at h
  rcases h with rfl | rfl | rfl | rfl | rfl | rfl
  · exact noat_ok (c.fact 32 (f := .noat "Book" "turns") rfl)
  · exact noat_ok (c.fact 33 (f := .noat "Book" "names") rfl)
  · exact noat_ok (c.fact 34 (f := .noat "Book" "open_days") rfl)
  · exact noat_ok (c.fact 35 (f := .noat "Book" "cap") rfl)
  · exact noat_ok (c.fact 36 (f := .noat "Book" "parts") rfl)
  · exact noat_ok (c.fact 37 (f := .noat "Book" "told_words") rfl)
theorem cls_Line (c : SaysD fa fn K) : ClsOk K (caOf K "Line") "Line" := by
  refine ⟨cls_ok (c.fact 39 (f := .cls "Line") rfl), fun f h => ?_⟩
  have h : f ∈ ["parts", "number", "spot"] := by simpa [fieldOf] using h
  simp only [List.mem_cons, List.not_mem_nil, or_false] at h
  rcases h with rfl | rfl | rfl
  · exact noat_ok (c.fact 41 (f := .noat "Line" "parts") rfl)
  · exact noat_ok (c.fact 42 (f := .noat "Line" "number") rfl)
  · exact noat_ok (c.fact 43 (f := .noat "Line" "spot") rfl)
theorem cls_Reader (c : SaysD fa fn K) : ClsOk K (caOf K "Reader") "Reader" := by
  refine ⟨cls_ok (c.fact 45 (f := .cls "Reader") rfl), fun f h => ?_⟩
  have h : f ∈ ["rows", "at"] := by simpa [fieldOf] using h
  simp only [List.mem_cons, List.not_mem_nil, or_false] at h
  rcases h with rfl | rfl
  · exact noat_ok (c.fact 47 (f := .noat "Reader" "rows") rfl)
  · exact noat_ok (c.fact 48 (f := .noat "Reader" "at") rfl)
theorem C_law_E : ∀ as M Qa Ea Ea', C_law as M Qa Ea → C_law as M Qa Ea' := fun _ _ _ _ _ h => h
theorem all (c : SaysD fa fn K) (e : ex K = true) : ∃ fd, (∀ (s : Shared) (u : Value), BindsTo s fd ⟨[u], []⟩ [("_law_script", u)]) ∧ ∀ base : Heap, K.In base → base.Ns mainGlobals mg → FnOk P w K mg base CX0 64 (ga K "law") fd ["_law_script"] (spOf ⟨w, caOf K, K⟩ 1 C_law) := by
  obtain ⟨fd0, F0⟩ := c.def_ 0 (d := d_is_integer) rfl
  have F0 : FunD K "is_integer" "is_integer" (defArgs (top 14)) (defBody (top 14)) (defScope (top 14)) [] [] (ga K "is_integer") fd0 := F0
  have b0 : Binds K fd0 P_is_integer [] := F0.bindsN fun _ _ _ _ _ _ us hl => match us, hl with | [_], _ => rfl
  obtain ⟨fd1, F1⟩ := c.def_ 1 (d := d_is_from) rfl
  have F1 : FunD K "is_from" "is_from" (defArgs (top 15)) (defBody (top 15)) (defScope (top 15)) [] [] (ga K "is_from") fd1 := F1
  have b1 : Binds K fd1 P_is_from [] := F1.bindsN fun _ _ _ _ _ _ us hl => match us, hl with | [_, _, _], _ => rfl
  obtain ⟨fd2, F2⟩ := c.def_ 2 (d := d_is_name) rfl
  have F2 : FunD K "is_name" "is_name" (defArgs (top 16)) (defBody (top 16)) (defScope (top 16)) [] [] (ga K "is_name") fd2 := F2
  have b2 : Binds K fd2 P_is_name [] := F2.bindsN fun _ _ _ _ _ _ us hl => match us, hl with | [_], _ => rfl
  obtain ⟨fd3, F3⟩ := c.def_ 3 (d := d_is_one_of) rfl
  have F3 : FunD K "is_one_of" "is_one_of" (defArgs (top 17)) (defBody (top 17)) (defScope (top 17)) [] [] (ga K "is_one_of") fd3 := F3
  have b3 : Binds K fd3 P_is_one_of [] := F3.bindsN fun _ _ _ _ _ _ us hl => match us, hl with | [_, _], _ => rfl
  obtain ⟨fd4, F4⟩ := c.def_ 4 (d := d_are_people) rfl
  have F4 : FunD K "are_people" "are_people" (defArgs (top 18)) (defBody (top 18)) (defScope (top 18)) [] [] (ga K "are_people") fd4 := F4
  have b4 : Binds K fd4 P_are_people [] := F4.bindsN fun _ _ _ _ _ _ us hl => match us, hl with | [_], _ => rfl
  obtain ⟨fd5, F5⟩ := c.def_ 5 (d := d_check_rule) rfl
  have F5 : FunD K "check_rule" "check_rule" (defArgs (top 19)) (defBody (top 19)) (defScope (top 19)) [] [] (ga K "check_rule") fd5 := F5
  have b5 : Binds K fd5 P_check_rule [] := F5.bindsN fun _ _ _ _ _ _ us hl => match us, hl with | [_], _ => rfl
  obtain ⟨fd6, F6⟩ := c.def_ 6 (d := d_are_words) rfl
  have F6 : FunD K "are_words" "are_words" (defArgs (top 20)) (defBody (top 20)) (defScope (top 20)) [] [] (ga K "are_words") fd6 := F6
  have b6 : Binds K fd6 P_are_words [] := F6.bindsN fun _ _ _ _ _ _ us hl => match us, hl with | [_], _ => rfl
  obtain ⟨fd7, F7⟩ := c.def_ 7 (d := d_Book_init) rfl
  have F7 : FunD K "__init__" "Book.__init__" (defArgs (mem 21 0)) (defBody (mem 21 0)) (defScope (mem 21 0)) [] [] (ma K (ga K "Book") "__init__") fd7 := F7
  have b7 : Binds K fd7 P_Book_init [] := F7.bindsN fun _ _ _ _ _ _ us hl => match us, hl with | [_, _, _, _, _, _], _ => rfl
  obtain ⟨fd8, F8⟩ := c.def_ 8 (d := d_Book_eq) rfl
  have F8 : FunD K "__eq__" "Book.__eq__" (defArgs (mem 21 6)) (defBody (mem 21 6)) (defScope (mem 21 6)) [] [] (ma K (ga K "Book") "__eq__") fd8 := F8
  have b8 : Binds K fd8 P_Book_eq [] := F8.bindsN fun _ _ _ _ _ _ us hl => match us, hl with | [_, _], _ => rfl
  obtain ⟨fd9, F9⟩ := c.def_ 9 (d := d_write) rfl
  have F9 : FunD K "write" "write" (defArgs (top 24)) (defBody (top 24)) (defScope (top 24)) [] [] (ga K "write") fd9 := F9
  have b9 : Binds K fd9 P_write [] := F9.bindsN fun _ _ _ _ _ _ us hl => match us, hl with | [_], _ => rfl
  obtain ⟨fd10, F10⟩ := c.def_ 10 (d := d_Line_init) rfl
  have F10 : FunD K "__init__" "Line.__init__" (defArgs (mem 25 0)) (defBody (mem 25 0)) (defScope (mem 25 0)) [] [] (ma K (ga K "Line") "__init__") fd10 := F10
  have b10 : Binds K fd10 P_Line_init [] := F10.bindsN fun _ _ _ _ _ _ us hl => match us, hl with | [_, _, _], _ => rfl
  obtain ⟨fd11, F11⟩ := c.def_ 11 (d := d_Line_now) rfl
  have F11 : FunD K "now" "Line.now" (defArgs (mem 25 1)) (defBody (mem 25 1)) (defScope (mem 25 1)) [] [] (ma K (ga K "Line") "now") fd11 := F11
  have b11 : Binds K fd11 P_Line_now [] := F11.bindsN fun _ _ _ _ _ _ us hl => match us, hl with | [_], _ => rfl
  obtain ⟨fd12, F12⟩ := c.def_ 12 (d := d_Line_take) rfl
  have F12 : FunD K "take" "Line.take" (defArgs (mem 25 2)) (defBody (mem 25 2)) (defScope (mem 25 2)) [] [] (ma K (ga K "Line") "take") fd12 := F12
  have b12 : Binds K fd12 P_Line_take [] := F12.bindsN fun _ _ _ _ _ _ us hl => match us, hl with | [_, _], _ => rfl
  obtain ⟨fd13, F13⟩ := c.def_ 13 (d := d_Line_one_of) rfl
  have F13 : FunD K "one_of" "Line.one_of" (defArgs (mem 25 3)) (defBody (mem 25 3)) (defScope (mem 25 3)) [] [] (ma K (ga K "Line") "one_of") fd13 := F13
  have b13 : Binds K fd13 P_Line_one_of [] := F13.bindsN fun _ _ _ _ _ _ us hl => match us, hl with | [_, _], _ => rfl
  obtain ⟨fd14, F14⟩ := c.def_ 14 (d := d_Line_take_name) rfl
  have F14 : FunD K "take_name" "Line.take_name" (defArgs (mem 25 4)) (defBody (mem 25 4)) (defScope (mem 25 4)) [] [] (ma K (ga K "Line") "take_name") fd14 := F14
  have b14 : Binds K fd14 P_Line_take_name [] := F14.bindsN fun _ _ _ _ _ _ us hl => match us, hl with | [_], _ => rfl
  obtain ⟨fd15, F15⟩ := c.def_ 15 (d := d_Line_finish) rfl
  have F15 : FunD K "finish" "Line.finish" (defArgs (mem 25 5)) (defBody (mem 25 5)) (defScope (mem 25 5)) [] [] (ma K (ga K "Line") "finish") fd15 := F15
  have b15 : Binds K fd15 P_Line_finish [] := F15.bindsN fun _ _ _ _ _ _ us hl => match us, hl with | [_], _ => rfl
  obtain ⟨fd16, F16⟩ := c.def_ 16 (d := d_Reader_init) rfl
  have F16 : FunD K "__init__" "Reader.__init__" (defArgs (mem 26 0)) (defBody (mem 26 0)) (defScope (mem 26 0)) [] [] (ma K (ga K "Reader") "__init__") fd16 := F16
  have b16 : Binds K fd16 P_Reader_init [] := F16.bindsN fun _ _ _ _ _ _ us hl => match us, hl with | [_, _], _ => rfl
  obtain ⟨fd17, F17⟩ := c.def_ 17 (d := d_Reader_next_line) rfl
  have F17 : FunD K "next_line" "Reader.next_line" (defArgs (mem 26 1)) (defBody (mem 26 1)) (defScope (mem 26 1)) [] [] (ma K (ga K "Reader") "next_line") fd17 := F17
  have b17 : Binds K fd17 P_Reader_next_line [] := F17.bindsN fun _ _ _ _ _ _ us hl => match us, hl with | [_, _], _ => rfl
  obtain ⟨fd18, F18⟩ := c.def_ 18 (d := d_Reader_one_word) rfl
  have F18 : FunD K "one_word" "Reader.one_word" (defArgs (mem 26 2)) (defBody (mem 26 2)) (defScope (mem 26 2)) [] [] (ma K (ga K "Reader") "one_word") fd18 := F18
  have b18 : Binds K fd18 P_Reader_one_word [] := F18.bindsN fun _ _ _ _ _ _ us hl => match us, hl with | [_, _, _], _ => rfl
  obtain ⟨fd19, F19⟩ := c.def_ 19 (d := d_read_people) rfl
  have F19 : FunD K "read_people" "read_people" (defArgs (top 27)) (defBody (top 27)) (defScope (top 27)) [] [] (ga K "read_people") fd19 := F19
  have b19 : Binds K fd19 P_read_people [] := F19.bindsN fun _ _ _ _ _ _ us hl => match us, hl with | [_], _ => rfl
  obtain ⟨fd20, F20⟩ := c.def_ 20 (d := d_read_words) rfl
  have F20 : FunD K "read_words" "read_words" (defArgs (top 28)) (defBody (top 28)) (defScope (top 28)) [] [] (ga K "read_words") fd20 := F20
  have b20 : Binds K fd20 P_read_words [] := F20.bindsN fun _ _ _ _ _ _ us hl => match us, hl with | [_], _ => rfl
  obtain ⟨fd21, F21⟩ := c.def_ 21 (d := d_read) rfl
  have F21 : FunD K "read" "read" (defArgs (top 29)) (defBody (top 29)) (defScope (top 29)) [] [] (ga K "read") fd21 := F21
  have b21 : Binds K fd21 P_read [] := F21.bindsN fun _ _ _ _ _ _ us hl => match us, hl with | [_], _ => rfl
  obtain ⟨fd22, F22⟩ := c.def_ 22 (d := d_law_draws) rfl
  have F22 : FunD K "_law_draws" "_law_draws" (defArgs (top 31)) (defBody (top 31)) (defScope (top 31)) [] [] (ga K "_law_draws") fd22 := F22
  have b22 : Binds K fd22 P_law_draws [] := F22.bindsN fun _ _ _ _ _ _ us hl => match us, hl with | [_], _ => rfl
  obtain ⟨fd23, F23⟩ := c.def_ 23 (d := d_law_pick) rfl
  have F23 : FunD K "_law_pick" "_law_pick" (defArgs (top 32)) (defBody (top 32)) (defScope (top 32)) [] [] (ga K "_law_pick") fd23 := F23
  have b23 : Binds K fd23 P_law_pick [] := F23.bindsN fun _ _ _ _ _ _ us hl => match us, hl with | [_, _], _ => rfl
  obtain ⟨fd24, F24⟩ := c.def_ 24 (d := d_law_parts) rfl
  have F24 : FunD K "_law_parts" "_law_parts" (defArgs (top 33)) (defBody (top 33)) (defScope (top 33)) [] [] (ga K "_law_parts") fd24 := F24
  have b24 : Binds K fd24 P_law_parts [] := F24.bindsN fun _ _ _ _ _ _ us hl => match us, hl with | [], _ => rfl
  obtain ⟨fd25, F25⟩ := c.def_ 25 (d := d_law_rule) rfl
  have F25 : FunD K "_law_rule" "_law_rule" (defArgs (top 34)) (defBody (top 34)) (defScope (top 34)) [] [] (ga K "_law_rule") fd25 := F25
  have b25 : Binds K fd25 P_law_rule [] := F25.bindsN fun _ _ _ _ _ _ us hl => match us, hl with | [_], _ => rfl
  obtain ⟨fd26, F26⟩ := c.def_ 26 (d := d_law_people) rfl
  have F26 : FunD K "_law_people" "_law_people" (defArgs (top 35)) (defBody (top 35)) (defScope (top 35)) [] [] (ga K "_law_people") fd26 := F26
  have b26 : Binds K fd26 P_law_people [] := F26.bindsN fun _ _ _ _ _ _ us hl => match us, hl with | [_, _], _ => rfl
  obtain ⟨fd27, F27⟩ := c.def_ 27 (d := d_law_drawn) rfl
  have F27 : FunD K "_law_drawn" "_law_drawn" (defArgs (top 36)) (defBody (top 36)) (defScope (top 36)) [] [] (ga K "_law_drawn") fd27 := F27
  have b27 : Binds K fd27 P_law_drawn [] := F27.bindsN fun _ _ _ _ _ _ us hl => match us, hl with | [_, _, _, _], _ => rfl
  obtain ⟨fd28, F28⟩ := c.def_ 28 (d := d_law_made) rfl
  have F28 : FunD K "_law_made" "_law_made" (defArgs (top 37)) (defBody (top 37)) (defScope (top 37)) [] [] (ga K "_law_made") fd28 := F28
  have b28 : Binds K fd28 P_law_made [] := F28.bindsN fun _ _ _ _ _ _ us hl => match us, hl with | [_], _ => rfl
  obtain ⟨fd29, F29⟩ := c.def_ 29 (d := d_law_lines) rfl
  have F29 : FunD K "_law_lines" "_law_lines" (defArgs (top 38)) (defBody (top 38)) (defScope (top 38)) [] [] (ga K "_law_lines") fd29 := F29
  have b29 : Binds K fd29 P_law_lines [] := F29.bindsN fun _ _ _ _ _ _ us hl => match us, hl with | [_], _ => rfl
  obtain ⟨fd30, F30⟩ := c.def_ 30 (d := d_law_loose) rfl
  have F30 : FunD K "_law_loose" "_law_loose" (defArgs (top 39)) (defBody (top 39)) (defScope (top 39)) [] [] (ga K "_law_loose") fd30 := F30
  have b30 : Binds K fd30 P_law_loose [] := F30.bindsN fun _ _ _ _ _ _ us hl => match us, hl with | [_, _], _ => rfl
  obtain ⟨fd31, F31⟩ := c.def_ 31 (d := d_law) rfl
  have F31 : FunD K "law" "law" (defArgs (top 40)) (defBody (top 40)) (defScope (top 40)) [] [] (ga K "law") fd31 := F31
  have b31 : Binds K fd31 P_law [] := F31.bindsN fun _ _ _ _ _ _ us hl => match us, hl with | [_], _ => rfl
  have bl : ∀ (s : Shared) (u : Value), BindsTo s fd31 ⟨[u], []⟩ [("_law_script", u)] := fun s u => FunD.bindsA (ps := ["_law_script"]) F31 (fun _ _ _ _ _ _ us hl => match us, hl with | [_], _ => rfl) s [u] rfl
  refine ⟨fd31, bl, fun base KX G => ?_⟩
  have B0 := lib0 (P := P) (w := w) KX G c e
  have O0 : FnOk P w K mg base (L2.CX P w) (0 + 2) (ga K "is_integer") fd0 P_is_integer (spOf ⟨w, caOf K, K⟩ 1 C_is_integer) := def_ok B0 F0 sc_is_integer ok_is_integer do_is_integer
  have B1 : Lib G1 (caOf K) P w K mg base 2 := B0.addF (by decide) O0 (glo_ok KX G (c.fact 0 (f := .glo "is_integer") rfl)) F0.kp b0
  have O1 : FnOk P w K mg base (L2.CX P w) (2 + 2) (ga K "is_from") fd1 P_is_from (spOf ⟨w, caOf K, K⟩ 3 C_is_from) := def_ok B1 F1 sc_is_from ok_is_from do_is_from
  have B2 : Lib G2 (caOf K) P w K mg base 4 := B1.addF (by decide) O1 (glo_ok KX G (c.fact 1 (f := .glo "is_from") rfl)) F1.kp b1
  have O2 : FnOk P w K mg base (L2.CX P w) (4 + 2) (ga K "is_name") fd2 P_is_name (spOf ⟨w, caOf K, K⟩ 1 C_is_name) := def_ok B2 F2 sc_is_name ok_is_name do_is_name
  have B3 : Lib G3 (caOf K) P w K mg base 6 := B2.addF (by decide) O2 (glo_ok KX G (c.fact 2 (f := .glo "is_name") rfl)) F2.kp b2
  have O3 : FnOk P w K mg base (L2.CX P w) (6 + 2) (ga K "is_one_of") fd3 P_is_one_of (spOf ⟨w, caOf K, K⟩ 2 C_is_one_of) := def_ok B3 F3 sc_is_one_of ok_is_one_of do_is_one_of
  have B4 : Lib G4 (caOf K) P w K mg base 8 := B3.addF (by decide) O3 (glo_ok KX G (c.fact 3 (f := .glo "is_one_of") rfl)) F3.kp b3
  have O4 : FnOk P w K mg base (L2.CX P w) (8 + 2) (ga K "are_people") fd4 P_are_people (spOf ⟨w, caOf K, K⟩ 1 C_are_people) := def_ok B4 F4 sc_are_people ok_are_people do_are_people
  have B5 : Lib G5 (caOf K) P w K mg base 10 := B4.addF (by decide) O4 (glo_ok KX G (c.fact 4 (f := .glo "are_people") rfl)) F4.kp b4
  have O5 : FnOk P w K mg base (L2.CX P w) (10 + 2) (ga K "check_rule") fd5 P_check_rule (spOf ⟨w, caOf K, K⟩ 1 C_check_rule) := def_ok B5 F5 sc_check_rule ok_check_rule do_check_rule
  have B6 : Lib G6 (caOf K) P w K mg base 12 := B5.addF (by decide) O5 (glo_ok KX G (c.fact 5 (f := .glo "check_rule") rfl)) F5.kp b5
  have O6 : FnOk P w K mg base (L2.CX P w) (12 + 2) (ga K "are_words") fd6 P_are_words (spOf ⟨w, caOf K, K⟩ 1 C_are_words) := def_ok B6 F6 sc_are_words ok_are_words do_are_words
  have B7 : Lib G7 (caOf K) P w K mg base 14 := B6.addF (by decide) O6 (glo_ok KX G (c.fact 6 (f := .glo "are_words") rfl)) F6.kp b6
  have O7 : FnOk P w K mg base (L2.CX P w) (14 + 2) (ma K (ga K "Book") "__init__") fd7 P_Book_init (spOf ⟨w, caOf K, K⟩ 6 C_Book_init) := def_ok B7 F7 sc_Book_init ok_Book_init do_Book_init
  have B8 : Lib G8 (caOf K) P w K mg base 16 := B7.addC (by decide) O7 (mkr_ok (c.fact 31 (f := .mkr "Book") rfl)) (glo_ok KX G (c.fact 29 (f := .glo "Book") rfl)) b7 (cls_Book c)
  have O8 : FnOk P w K mg base (L2.CX P w) (16 + 2) (ma K (ga K "Book") "__eq__") fd8 P_Book_eq (spOf ⟨w, caOf K, K⟩ 2 C_Book_eq) := def_ok B8 F8 sc_Book_eq ok_Book_eq do_Book_eq
  have B9 : Lib G9 (caOf K) P w K mg base 18 := B8.addM (by decide) O8 (meth_ok (c.fact 7 (f := .meth "Book" "__eq__") rfl)) b8
  have O9 : FnOk P w K mg base (L2.CX P w) (18 + 2) (ga K "write") fd9 P_write (spOf ⟨w, caOf K, K⟩ 1 C_write) := def_ok B9 F9 sc_write ok_write do_write
  have B10 : Lib G10 (caOf K) P w K mg base 20 := B9.addF (by decide) O9 (glo_ok KX G (c.fact 8 (f := .glo "write") rfl)) F9.kp b9
  have O10 : FnOk P w K mg base (L2.CX P w) (20 + 2) (ma K (ga K "Line") "__init__") fd10 P_Line_init (spOf ⟨w, caOf K, K⟩ 3 C_Line_init) := def_ok B10 F10 sc_Line_init ok_Line_init do_Line_init
  have B11 : Lib G11 (caOf K) P w K mg base 22 := B10.addC (by decide) O10 (mkr_ok (c.fact 40 (f := .mkr "Line") rfl)) (glo_ok KX G (c.fact 38 (f := .glo "Line") rfl)) b10 (cls_Line c)
  have O11 : FnOk P w K mg base (L2.CX P w) (22 + 2) (ma K (ga K "Line") "now") fd11 P_Line_now (spOf ⟨w, caOf K, K⟩ 1 C_Line_now) := def_ok B11 F11 sc_Line_now ok_Line_now do_Line_now
  have B12 : Lib G12 (caOf K) P w K mg base 24 := B11.addM (by decide) O11 (meth_ok (c.fact 9 (f := .meth "Line" "now") rfl)) b11
  have O12 : FnOk P w K mg base (L2.CX P w) (24 + 2) (ma K (ga K "Line") "take") fd12 P_Line_take (spOf ⟨w, caOf K, K⟩ 2 C_Line_take) := def_ok B12 F12 sc_Line_take ok_Line_take do_Line_take
  have B13 : Lib G13 (caOf K) P w K mg base 26 := B12.addM (by decide) O12 (meth_ok (c.fact 10 (f := .meth "Line" "take") rfl)) b12
  have O13 : FnOk P w K mg base (L2.CX P w) (26 + 2) (ma K (ga K "Line") "one_of") fd13 P_Line_one_of (spOf ⟨w, caOf K, K⟩ 2 C_Line_one_of) := def_ok B13 F13 sc_Line_one_of ok_Line_one_of do_Line_one_of
  have B14 : Lib G14 (caOf K) P w K mg base 28 := B13.addM (by decide) O13 (meth_ok (c.fact 11 (f := .meth "Line" "one_of") rfl)) b13
  have O14 : FnOk P w K mg base (L2.CX P w) (28 + 2) (ma K (ga K "Line") "take_name") fd14 P_Line_take_name (spOf ⟨w, caOf K, K⟩ 1 C_Line_take_name) := def_ok B14 F14 sc_Line_take_name ok_Line_take_name do_Line_take_name
  have B15 : Lib G15 (caOf K) P w K mg base 30 := B14.addM (by decide) O14 (meth_ok (c.fact 12 (f := .meth "Line" "take_name") rfl)) b14
  have O15 : FnOk P w K mg base (L2.CX P w) (30 + 2) (ma K (ga K "Line") "finish") fd15 P_Line_finish (spOf ⟨w, caOf K, K⟩ 1 C_Line_finish) := def_ok B15 F15 sc_Line_finish ok_Line_finish do_Line_finish
  have B16 : Lib G16 (caOf K) P w K mg base 32 := B15.addM (by decide) O15 (meth_ok (c.fact 13 (f := .meth "Line" "finish") rfl)) b15
  have O16 : FnOk P w K mg base (L2.CX P w) (32 + 2) (ma K (ga K "Reader") "__init__") fd16 P_Reader_init (spOf ⟨w, caOf K, K⟩ 2 C_Reader_init) := def_ok B16 F16 sc_Reader_init ok_Reader_init do_Reader_init
  have B17 : Lib G17 (caOf K) P w K mg base 34 := B16.addC (by decide) O16 (mkr_ok (c.fact 46 (f := .mkr "Reader") rfl)) (glo_ok KX G (c.fact 44 (f := .glo "Reader") rfl)) b16 (cls_Reader c)
  have O17 : FnOk P w K mg base (L2.CX P w) (34 + 2) (ma K (ga K "Reader") "next_line") fd17 P_Reader_next_line (spOf ⟨w, caOf K, K⟩ 2 C_next_line) := def_ok B17 F17 sc_Reader_next_line ok_Reader_next_line do_Reader_next_line
  have B18 : Lib G18 (caOf K) P w K mg base 36 := B17.addM (by decide) O17 (meth_ok (c.fact 14 (f := .meth "Reader" "next_line") rfl)) b17
  have O18 : FnOk P w K mg base (L2.CX P w) (36 + 2) (ma K (ga K "Reader") "one_word") fd18 P_Reader_one_word (spOf ⟨w, caOf K, K⟩ 3 C_one_word) := def_ok B18 F18 sc_Reader_one_word ok_Reader_one_word do_Reader_one_word
  have B19 : Lib G19 (caOf K) P w K mg base 38 := B18.addM (by decide) O18 (meth_ok (c.fact 15 (f := .meth "Reader" "one_word") rfl)) b18
  have O19 : FnOk P w K mg base (L2.CX P w) (38 + 2) (ga K "read_people") fd19 P_read_people (spOf ⟨w, caOf K, K⟩ 1 C_read_people) := def_ok B19 F19 sc_read_people ok_read_people do_read_people
  have B20 : Lib G20 (caOf K) P w K mg base 40 := B19.addF (by decide) O19 (glo_ok KX G (c.fact 16 (f := .glo "read_people") rfl)) F19.kp b19
  have O20 : FnOk P w K mg base (L2.CX P w) (40 + 2) (ga K "read_words") fd20 P_read_words (spOf ⟨w, caOf K, K⟩ 1 C_read_words) := def_ok B20 F20 sc_read_words ok_read_words do_read_words
  have B21 : Lib G21 (caOf K) P w K mg base 42 := B20.addF (by decide) O20 (glo_ok KX G (c.fact 17 (f := .glo "read_words") rfl)) F20.kp b20
  have O21 : FnOk P w K mg base (L2.CX P w) (42 + 2) (ga K "read") fd21 P_read (spOf ⟨w, caOf K, K⟩ 1 C_read) := def_ok B21 F21 sc_read ok_read do_read
  have B22 : Lib G22 (caOf K) P w K mg base 44 := B21.addF (by decide) O21 (glo_ok KX G (c.fact 18 (f := .glo "read") rfl)) F21.kp b21
  have O22 : FnOk P w K mg base (L2.CX P w) (44 + 2) (ga K "_law_draws") fd22 P_law_draws (spOf ⟨w, caOf K, K⟩ 1 C_draws) := def_ok B22 F22 sc_law_draws ok_law_draws do_law_draws
  have B23 : Lib G23 (caOf K) P w K mg base 46 := B22.addF (by decide) O22 (glo_ok KX G (c.fact 19 (f := .glo "_law_draws") rfl)) F22.kp b22
  have O23 : FnOk P w K mg base (L2.CX P w) (46 + 2) (ga K "_law_pick") fd23 P_law_pick (spOf ⟨w, caOf K, K⟩ 2 C_pick) := def_ok B23 F23 sc_law_pick ok_law_pick do_law_pick
  have B24 : Lib G24 (caOf K) P w K mg base 48 := B23.addF (by decide) O23 (glo_ok KX G (c.fact 20 (f := .glo "_law_pick") rfl)) F23.kp b23
  have O24 : FnOk P w K mg base (L2.CX P w) (48 + 2) (ga K "_law_parts") fd24 P_law_parts (spOf ⟨w, caOf K, K⟩ 0 C_parts) := def_ok B24 F24 sc_law_parts ok_law_parts do_law_parts
  have B25 : Lib G25 (caOf K) P w K mg base 50 := B24.addF (by decide) O24 (glo_ok KX G (c.fact 21 (f := .glo "_law_parts") rfl)) F24.kp b24
  have O25 : FnOk P w K mg base (L2.CX P w) (50 + 2) (ga K "_law_rule") fd25 P_law_rule (spOf ⟨w, caOf K, K⟩ 1 C_law_rule) := def_ok B25 F25 sc_law_rule ok_law_rule do_law_rule
  have B26 : Lib G26 (caOf K) P w K mg base 52 := B25.addF (by decide) O25 (glo_ok KX G (c.fact 22 (f := .glo "_law_rule") rfl)) F25.kp b25
  have O26 : FnOk P w K mg base (L2.CX P w) (52 + 2) (ga K "_law_people") fd26 P_law_people (spOf ⟨w, caOf K, K⟩ 2 C_law_people) := def_ok B26 F26 sc_law_people ok_law_people do_law_people
  have B27 : Lib G27 (caOf K) P w K mg base 54 := B26.addF (by decide) O26 (glo_ok KX G (c.fact 23 (f := .glo "_law_people") rfl)) F26.kp b26
  have O27 : FnOk P w K mg base (L2.CX P w) (54 + 2) (ga K "_law_drawn") fd27 P_law_drawn (spOf ⟨w, caOf K, K⟩ 4 C_drawn) := def_ok B27 F27 sc_law_drawn ok_law_drawn do_law_drawn
  have B28 : Lib G28 (caOf K) P w K mg base 56 := B27.addF (by decide) O27 (glo_ok KX G (c.fact 24 (f := .glo "_law_drawn") rfl)) F27.kp b27
  have O28 : FnOk P w K mg base (L2.CX P w) (56 + 2) (ga K "_law_made") fd28 P_law_made (spOf ⟨w, caOf K, K⟩ 1 C_made) := def_ok B28 F28 sc_law_made ok_law_made do_law_made
  have B29 : Lib G29 (caOf K) P w K mg base 58 := B28.addF (by decide) O28 (glo_ok KX G (c.fact 25 (f := .glo "_law_made") rfl)) F28.kp b28
  have O29 : FnOk P w K mg base (L2.CX P w) (58 + 2) (ga K "_law_lines") fd29 P_law_lines (spOf ⟨w, caOf K, K⟩ 1 C_lines) := def_ok B29 F29 sc_law_lines ok_law_lines do_law_lines
  have B30 : Lib G30 (caOf K) P w K mg base 60 := B29.addF (by decide) O29 (glo_ok KX G (c.fact 26 (f := .glo "_law_lines") rfl)) F29.kp b29
  have O30 : FnOk P w K mg base (L2.CX P w) (60 + 2) (ga K "_law_loose") fd30 P_law_loose (spOf ⟨w, caOf K, K⟩ 2 C_loose) := def_ok B30 F30 sc_law_loose ok_law_loose do_law_loose
  have B31 : Lib G31 (caOf K) P w K mg base 62 := B30.addF (by decide) O30 (glo_ok KX G (c.fact 27 (f := .glo "_law_loose") rfl)) F30.kp b30
  exact def_ok0 B31 F31 sc_law ok_law C_law_E do_law
end
end Law
open PySem PySem.W PySem.Calls PyProof.Rows L2 Rx He in
theorem PySem.Challenge.cw_dutieslent_k18_texts_there_and_back_holds : PySem.Challenge.rw_dutieslent_k18_texts_there_and_back.Holds := by
  refine Law.head ?_
  refine L2.walk_ofE (l := PySem.Challenge.rw_dutieslent_k18_texts_there_and_back) (n := 63) (k := 64) (x := "_law_script") (CX := L2.CX0) rfl (by decide) (by kernel_rfl) ⟨rfl, by decide, by decide⟩ ?F (fun _ _ _ _ z => z)
  intro w mg fa h Y G hmg
  have KX := kIn_of Y
  obtain ⟨fd, hb, hF⟩ := Law.all (P := PySem.Challenge.pw_dutieslent_k18_texts_there_and_back) (w := w) (mg := mg) (Law.says w.params) (Law.exs w.params)
  have hl := glo_ok KX G (SaysD.fact (Law.says w.params) 28 (f := .glo "law") rfl)
  have e : some (Value.ref fa) = some (.ref (ga (Law.head.heap_39 w.params) "law")) := hmg.symm.trans hl
  cases e
  refine ⟨_, fd, _, KX, hb, fun H a ns hlen ho hs => ?_, hF⟩
  refine ⟨rfl, [.xl (ns.map .int)], fun _ => none, fun p _ => p = .bl true, fun _ _ => False, fun _ _ e => (nomatch e), .cons (xl_script ho hs) .nil, ⟨_, ns, rfl, by omega, rfl, fun _ => rfl⟩, fun p M' v H' hM rp kk q => ?_, fun _ _ _ _ _ _ _ _ z => z⟩
  subst q
  cases rp
  rfl
end
