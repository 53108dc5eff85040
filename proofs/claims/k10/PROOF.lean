import PyProof.Rows.All
import Wide.All
import OpenK.AllK
import Wide.FinOn
import HandS.ForMost
import HandS.IsInst
import HandS.Flow
import HandS.TupAny
import HandS.TupMul
import HandS.Deep
import HandS.Zip
import HandS.Wide
import HandS.Style
import PyProof.NeData
import PyProof.StrLawsRepr
import PyProof.Rows.StrJoinMade
import PyProof.ReprRoads
import PyProof.CallFns
import PyProof.Rows.StrDigitsNeg
import PySem.Challenge.RW_sortedshelves_k10_what_are_no_machines
set_option Elab.async false
set_option linter.all false
set_option maxRecDepth 100000
set_option maxHeartbeats 4000000
/-! PD1: deep values over the hand layer. -/
namespace PD
open PySem PySem.Spec PyProof.Rows L2

/-- deep values: tuples, frozen lists and dicts are plain data; what may change is a reference; the deck of draws is one opaque value -/
inductive D where
  | non | bl (b : Bool) | int (i : Int) | str (x : Str)
  | tup (xs : List D) | lst (xs : List D) | dic (kvs : List (D × D))
  | ref (a : Addr) | ty (n : String) | deck

/-- what may change -/
inductive OD where
  | lst (xs : List D) | dic (kvs : List (D × D)) | ins (C : Addr) (fs : List (Str × D))

/-- the deep heap: tracked objects, a bound on the draws so far, where the deck stands -/
structure HD where
  hp : Addr → Option OD
  c : Nat
  dk : Option (Addr × Addr)
def HD.set (S : HD) (a : Addr) (o : OD) : HD := { S with hp := fun b => if b = a then some o else S.hp b }
def HD.del (S : HD) (a : Addr) : HD := { S with hp := fun b => if b = a then none else S.hp b }
def HD.tick (S : HD) (n : Nat) : HD := { S with c := S.c + n }
@[simp] theorem HD.set_same {S : HD} {a : Addr} {o : OD} : (S.set a o).hp a = some o := by simp [HD.set]
theorem HD.set_ne {S : HD} {a b : Addr} {o : OD} (h : b ≠ a) : (S.set a o).hp b = S.hp b := by simp [HD.set, h]
@[simp] theorem HD.set_set {S : HD} {a : Addr} {o u : OD} : (S.set a o).set a u = S.set a u := by
  unfold HD.set; congr 1; funext b; by_cases h : b = a <;> simp [h]
@[simp] theorem HD.set_dk {S : HD} {a : Addr} {o : OD} : (S.set a o).dk = S.dk := rfl
@[simp] theorem HD.set_c {S : HD} {a : Addr} {o : OD} : (S.set a o).c = S.c := rfl
@[simp] theorem HD.tick_hp {S : HD} {n : Nat} : (S.tick n).hp = S.hp := rfl
@[simp] theorem HD.tick_dk {S : HD} {n : Nat} : (S.tick n).dk = S.dk := rfl
@[simp] theorem HD.tick_c {S : HD} {n : Nat} : (S.tick n).c = S.c + n := rfl

def Dk (S : HD) (a : Addr) : Prop := ∃ p, S.dk = some p ∧ (a = p.1 ∨ a = p.2)
/-- a may be named by frozen data -/
def Fz (G : Addr → Prop) (S : HD) (a : Addr) : Prop := S.hp a = none ∧ ¬ Dk S a ∧ ¬ G a

/-- from one state to a later one: what was not tracked stands as it stood -/
structure FL (S : HD) (H : Hp) (S' : HD) (H' : Hp) : Prop where
  kp : ∀ a o, H a = some o → S.hp a = none → ¬ Dk S a → S'.hp a = none ∧ ¬ Dk S' a ∧ H' a = some o
  dk : ∀ p, S.dk = some p → S'.dk = some p
theorem FL.refl (S : HD) (H : Hp) : FL S H S H := ⟨fun _ _ h n d => ⟨n, d, h⟩, fun _ h => h⟩
theorem FL.trans {S S1 S2 : HD} {H H1 H2 : Hp} (a : FL S H S1 H1) (b : FL S1 H1 S2 H2) : FL S H S2 H2 :=
  ⟨fun c o h n d => let ⟨n1, d1, h1⟩ := a.kp c o h n d; b.kp c o h1 n1 d1, fun p h => b.dk p (a.dk p h)⟩

def KT (K : PySem.W.Frag) (a : Addr) (xs : List V) : Prop :=
  ∃ (o : Obj) (its : Array Value) (n : Nat), K.lookup a = some o ∧ o.cls = .type "tuple" ∧ o.data = .seq its n ∧ its.size ≤ sizeLine ∧ Vals xs its.toList
def KL (K : PySem.W.Frag) (a : Addr) (xs : List V) : Prop :=
  ∃ (o : Obj) (its : Array Value) (n : Nat), K.lookup a = some o ∧ o.cls = .type "list" ∧ o.dict = none ∧ o.data = .seq its n ∧ its.size ≤ sizeLine ∧ Vals xs its.toList

variable (K : PySem.W.Frag) (G : Addr → Prop) (S : HD) (H : Hp) in
def FzT (a : Addr) (xs : List V) : Prop := (Fz G S a ∧ Rd H a (.tup xs)) ∨ KT K a xs
variable (K : PySem.W.Frag) (G : Addr → Prop) (S : HD) (H : Hp) in
def FzL (a : Addr) (xs : List V) : Prop := (Fz G S a ∧ Rd H a (.lst xs)) ∨ KL K a xs
variable (G : Addr → Prop) (S : HD) (H : Hp) in
def FzD (a : Addr) (kvs : List (Key × V)) : Prop := Fz G S a ∧ Rd H a (.dK kvs)

def kD : Key → D
  | .inl i => .int i
  | .inr x => .str x

section
variable (K : PySem.W.Frag) (G : Addr → Prop) (S : HD) (H : Hp)
mutual
inductive RD : D → V → Prop
  | non : RD .non .non
  | bl (b : Bool) : RD (.bl b) (.bl b)
  | int (i : Int) : RD (.int i) (.int i)
  | str (x : Str) : RD (.str x) (.str x)
  | ty (n : String) : RD (.ty n) (.ty n)
  | ref (a : Addr) : RD (.ref a) (.ref a)
  | tup {a : Addr} {vs : List V} {ds : List D} (h : FzT K G S H a vs) (r : RDs ds vs) : RD (.tup ds) (.ref a)
  | lst {a : Addr} {vs : List V} {ds : List D} (h : FzL K G S H a vs) (r : RDs ds vs) : RD (.lst ds) (.ref a)
  | dic {a : Addr} {kvs : List (Key × V)} {kds : List (D × D)} (h : FzD G S H a kvs) (r : RDk kds kvs) : RD (.dic kds) (.ref a)
  | deck {a b : Addr} (h : S.dk = some (a, b)) : RD .deck (.ref a)
inductive RDs : List D → List V → Prop
  | nil : RDs [] []
  | cons {d : D} {v : V} {ds : List D} {vs : List V} (h : RD d v) (r : RDs ds vs) : RDs (d :: ds) (v :: vs)
inductive RDk : List (D × D) → List (Key × V) → Prop
  | nil : RDk [] []
  | cons {k : Key} {d : D} {v : V} {kds : List (D × D)} {kvs : List (Key × V)} (h : RD d v) (r : RDk kds kvs) : RDk ((kD k, d) :: kds) ((k, v) :: kvs)
end
end

section
variable {K : PySem.W.Frag} {G G' : Addr → Prop} {S S' : HD} {H H' : Hp}

/-- frozen addresses of one state are frozen in another one, with the same objects -/
structure Mv (G : Addr → Prop) (S : HD) (H : Hp) (G' : Addr → Prop) (S' : HD) (H' : Hp) : Prop where
  kp : ∀ a o, H a = some o → Fz G S a → Fz G' S' a ∧ H' a = some o
  dk : ∀ p, S.dk = some p → S'.dk = some p
theorem FL.mv (f : FL S H S' H') : Mv G S H G S' H' :=
  ⟨fun a o h z => let ⟨n, d, e⟩ := f.kp a o h z.1 z.2.1; ⟨⟨n, d, z.2.2⟩, e⟩, f.dk⟩
theorem Mv.rd (m : Mv G S H G' S' H') {a : Addr} {o : HO} (h : Fz G S a ∧ Rd H a o) : Fz G' S' a ∧ Rd H' a o := by
  obtain ⟨z, r⟩ := h
  rcases r with r | ⟨u, r⟩
  · obtain ⟨z', e⟩ := m.kp a _ r z; exact ⟨z', .inl e⟩
  · obtain ⟨z', e⟩ := m.kp a _ r z; exact ⟨z', .inr ⟨u, e⟩⟩
mutual
theorem RD.mv (m : Mv G S H G' S' H') : ∀ {d : D} {v : V}, RD K G S H d v → RD K G' S' H' d v
  | _, _, .non => .non
  | _, _, .bl b => .bl b
  | _, _, .int i => .int i
  | _, _, .str x => .str x
  | _, _, .ty n => .ty n
  | _, _, .ref a => .ref a
  | _, _, .tup h r => .tup (h.imp (fun z => m.rd z) id) (RDs.mv m r)
  | _, _, .lst h r => .lst (h.imp (fun z => m.rd z) id) (RDs.mv m r)
  | _, _, .dic h r => .dic (m.rd h) (RDk.mv m r)
  | _, _, .deck h => .deck (m.dk _ h)
theorem RDs.mv (m : Mv G S H G' S' H') : ∀ {ds : List D} {vs : List V}, RDs K G S H ds vs → RDs K G' S' H' ds vs
  | _, _, .nil => .nil
  | _, _, .cons h r => .cons (RD.mv m h) (RDs.mv m r)
theorem RDk.mv (m : Mv G S H G' S' H') : ∀ {ds : List (D × D)} {vs : List (Key × V)}, RDk K G S H ds vs → RDk K G' S' H' ds vs
  | _, _, .nil => .nil
  | _, _, .cons h r => .cons (RD.mv m h) (RDk.mv m r)
end
theorem RD.fl (f : FL S H S' H') {d : D} {v : V} (r : RD K G S H d v) : RD K G S' H' d v := r.mv f.mv
theorem RDs.fl (f : FL S H S' H') {d : List D} {v : List V} (r : RDs K G S H d v) : RDs K G S' H' d v := r.mv f.mv

theorem RDs.length : ∀ {ds : List D} {vs : List V}, RDs K G S H ds vs → ds.length = vs.length
  | _, _, .nil => rfl
  | _, _, .cons _ r => by simp [RDs.length r]
theorem RDs.append : ∀ {ds es : List D} {vs ws : List V}, RDs K G S H ds vs → RDs K G S H es ws → RDs K G S H (ds ++ es) (vs ++ ws)
  | _, _, _, _, .nil, s => s
  | _, _, _, _, .cons h r, s => .cons h (RDs.append r s)
theorem RDs.get : ∀ {ds : List D} {vs : List V} {i : Nat} {d : D}, RDs K G S H ds vs → ds[i]? = some d → ∃ v, vs[i]? = some v ∧ RD K G S H d v
  | _, _, _, _, .nil, e => by simp at e
  | _, _, 0, _, .cons h _, e => by simp at e; subst e; exact ⟨_, rfl, h⟩
  | _, _, i + 1, d, .cons _ r, e => by
    obtain ⟨u, h1, h2⟩ := RDs.get (i := i) (d := d) r (by simpa using e)
    exact ⟨u, by simpa using h1, h2⟩
theorem RDs.take : ∀ {ds : List D} {vs : List V} (n : Nat), RDs K G S H ds vs → RDs K G S H (ds.take n) (vs.take n)
  | _, _, 0, _ => .nil
  | _, _, _ + 1, .nil => .nil
  | _, _, n + 1, .cons h r => .cons h (RDs.take n r)
theorem RDs.drop : ∀ {ds : List D} {vs : List V} (n : Nat), RDs K G S H ds vs → RDs K G S H (ds.drop n) (vs.drop n)
  | _, _, 0, r => r
  | _, _, _ + 1, .nil => .nil
  | _, _, n + 1, .cons _ r => RDs.drop n r
theorem RDs.set {d : D} {v : V} (h : RD K G S H d v) : ∀ {ds : List D} {vs : List V} (i : Nat), RDs K G S H ds vs → RDs K G S H (ds.set i d) (vs.set i v)
  | _, _, _, .nil => .nil
  | _, _, 0, .cons _ r => .cons h r
  | _, _, i + 1, .cons h' r => .cons h' (RDs.set h i r)
theorem RDs.rev : ∀ {ds : List D} {vs : List V}, RDs K G S H ds vs → RDs K G S H ds.reverse vs.reverse
  | _, _, .nil => .nil
  | _, _, .cons h r => by rw [List.reverse_cons, List.reverse_cons]; exact (RDs.rev r).append (.cons h .nil)
theorem RDs.ints : ∀ (ns : List Int), RDs K G S H (ns.map D.int) (ns.map V.int)
  | [] => .nil
  | n :: ns => .cons (.int n) (RDs.ints ns)
theorem RDs.rep {d : D} {v : V} (h : RD K G S H d v) : ∀ n : Nat, RDs K G S H (List.replicate n d) (List.replicate n v)
  | 0 => .nil
  | n + 1 => .cons h (RDs.rep h n)

def ROD (K : PySem.W.Frag) (G : Addr → Prop) (S : HD) (H : Hp) (a : Addr) : OD → Prop
  | .lst ds => ∃ vs, H a = some (.lst vs) ∧ RDs K G S H ds vs
  | .dic kds => ∃ kvs, H a = some (.dK kvs) ∧ RDk K G S H kds kvs
  | .ins C fs => ∃ dx vs, H a = some (.ins C dx vs) ∧ fs.map (·.1) = vs.map (·.1) ∧ RDs K G S H (fs.map (·.2)) (vs.map (·.2))
theorem ROD.there {a : Addr} {o : OD} (r : ROD K G S H a o) : ∃ u, H a = some u := by
  cases o with
  | lst ds => obtain ⟨_, e, _⟩ := r; exact ⟨_, e⟩
  | dic ds => obtain ⟨_, e, _⟩ := r; exact ⟨_, e⟩
  | ins C fs => obtain ⟨_, _, e, _⟩ := r; exact ⟨_, e⟩
theorem ROD.mv (m : Mv G S H G' S' H') {a : Addr} {o : OD} (e : H' a = H a) (r : ROD K G S H a o) : ROD K G' S' H' a o := by
  cases o with
  | lst ds => obtain ⟨vs, e1, q⟩ := r; exact ⟨vs, e.trans e1, q.mv m⟩
  | dic ds => obtain ⟨vs, e1, q⟩ := r; exact ⟨vs, e.trans e1, q.mv m⟩
  | ins C fs => obtain ⟨dx, vs, e1, k, q⟩ := r; exact ⟨dx, vs, e.trans e1, k, q.mv m⟩

/-- the deck as it stands: the cells and how many draws were made -/
def DeckAt (H : Hp) (a b : Addr) (c : Nat) : Prop :=
  ∃ (cells : List Int) (n : Nat), H a = some (.lst [.ref b, .int (n : Int)]) ∧ H b = some (.lst (cells.map V.int)) ∧ n ≤ c ∧ cells.length ≤ 63 ∧ ∀ z ∈ cells, 0 ≤ z
structure RH (K : PySem.W.Frag) (G : Addr → Prop) (S : HD) (H : Hp) : Prop where
  hp : ∀ a o, S.hp a = some o → ¬ Dk S a ∧ ¬ G a ∧ ROD K G S H a o
  rs : ∀ a, G a → (∃ o, H a = some o) ∧ ¬ Dk S a
  dk : ∀ a b, S.dk = some (a, b) → a ≠ b ∧ S.hp a = none ∧ S.hp b = none ∧ DeckAt H a b S.c
theorem RH.fresh (r : RH K G S H) {a : Addr} (h : H a = none) : S.hp a = none ∧ ¬ Dk S a ∧ ¬ G a := by
  refine ⟨?_, ?_, ?_⟩
  · cases e : S.hp a with
    | none => rfl
    | some o =>
      obtain ⟨u, q⟩ := (r.hp a o e).2.2.there
      rw [h] at q; cases q
  · rintro ⟨p, e, hp⟩
    obtain ⟨_, _, _, _, _, e1, e2, _⟩ := r.dk p.1 p.2 e
    rcases hp with z | z
    · rw [z, e1] at h; cases h
    · rw [z, e2] at h; cases h
  · intro g
    obtain ⟨⟨o, e⟩, _⟩ := r.rs a g
    rw [h] at e; cases e

/-- the heap has grown, nothing else -/
structure Grow (H H' : Hp) : Prop where
  kp : ∀ a o, H a = some o → H' a = some o
theorem Grow.upd {H : Hp} {p : Addr} {o : HO} (h : H p = none) : Grow H (upd H p o) := ⟨fun a u e => by rw [upd_ne (ne_of_none e h)]; exact e⟩
theorem Grow.fl (g : Grow H H') : FL S H S H' := ⟨fun a o h n d => ⟨n, d, g.kp a o h⟩, fun _ h => h⟩
theorem RH.grow (r : RH K G S H) (g : Grow H H') : RH K G S H' where
  hp := fun a o e => by
    obtain ⟨h1, h2, h3⟩ := r.hp a o e
    obtain ⟨u, q⟩ := h3.there
    exact ⟨h1, h2, h3.mv g.fl.mv ((g.kp a u q).trans q.symm)⟩
  rs := fun a h => let ⟨⟨o, e⟩, d⟩ := r.rs a h; ⟨⟨o, g.kp a o e⟩, d⟩
  dk := fun a b e => by
    obtain ⟨h1, h2, h3, cs, n, h4, h5, h6⟩ := r.dk a b e
    exact ⟨h1, h2, h3, cs, n, g.kp _ _ h4, g.kp _ _ h5, h6⟩
/-- a new object that is to be frozen -/
theorem RH.newF (r : RH K G S H) {p : Addr} (h : H p = none) (o : HO) : RH K G S (upd H p o) ∧ FL S H S (upd H p o) ∧ Fz G S p :=
  ⟨r.grow (.upd h), (Grow.upd h).fl, r.fresh h⟩
theorem RH.newT (r : RH K G S H) {p : Addr} (h : H p = none) {ds : List D} {vs : List V} (rs : RDs K G S H ds vs) : RD K G S (L2.upd H p (.tup vs)) (.tup ds) (.ref p) :=
  .tup (.inl ⟨r.fresh h, .inl upd_same⟩) (rs.fl (Grow.upd h).fl)
theorem RH.newL (r : RH K G S H) {p : Addr} (h : H p = none) {ds : List D} {vs : List V} (rs : RDs K G S H ds vs) : RD K G S (L2.upd H p (.lst vs)) (.lst ds) (.ref p) :=
  .lst (.inl ⟨r.fresh h, .inl upd_same⟩) (rs.fl (Grow.upd h).fl)
/-- a new object that is to be tracked -/
theorem RH.newR (r : RH K G S H) {p : Addr} (h : H p = none) {o : OD} {ho : HO} (q : ROD K G (S.set p o) (upd H p ho) p o) :
    RH K G (S.set p o) (upd H p ho) ∧ FL S H (S.set p o) (upd H p ho) := by
  obtain ⟨n1, n2, n3⟩ := r.fresh h
  have fl : FL S H (S.set p o) (upd H p ho) := ⟨fun a u e n d => by
    have ne := ne_of_none e h
    exact ⟨by rw [HD.set_ne ne]; exact n, d, by rw [upd_ne ne]; exact e⟩, fun _ e => e⟩
  refine ⟨⟨fun a u e => ?_, fun a g => ?_, fun a b e => ?_⟩, fl⟩
  · by_cases ha : a = p
    · subst ha
      rw [HD.set_same] at e; cases e
      exact ⟨n2, n3, q⟩
    · rw [HD.set_ne ha] at e
      obtain ⟨h1, h2, h3⟩ := r.hp a u e
      exact ⟨h1, h2, h3.mv fl.mv (upd_ne ha)⟩
  · obtain ⟨⟨u, e⟩, d⟩ := r.rs a g
    exact ⟨⟨u, (Grow.upd h).kp a u e⟩, d⟩
  · obtain ⟨h1, h2, h3, cs, n, h4, h5, h6⟩ := r.dk a b e
    exact ⟨h1, by rw [HD.set_ne (ne_of_none h4 h)]; exact h2, by rw [HD.set_ne (ne_of_none h5 h)]; exact h3, cs, n, (Grow.upd h).kp _ _ h4, (Grow.upd h).kp _ _ h5, h6⟩
/-- a tracked object is changed -/
theorem RH.write (r : RH K G S H) {p : Addr} {o o' : OD} (h : S.hp p = some o) {ho : HO} (q : ROD K G (S.set p o') (upd H p ho) p o') :
    RH K G (S.set p o') (upd H p ho) ∧ FL S H (S.set p o') (upd H p ho) := by
  obtain ⟨n2, n3, _⟩ := r.hp p o h
  have nep : ∀ {a : Addr}, S.hp a = none → a ≠ p := fun {a} e z => by rw [z, h] at e; cases e
  have fl : FL S H (S.set p o') (upd H p ho) := ⟨fun a u e n d => by
    have ne := nep n
    exact ⟨by rw [HD.set_ne ne]; exact n, d, by rw [upd_ne ne]; exact e⟩, fun _ e => e⟩
  refine ⟨⟨fun a u e => ?_, fun a g => ?_, fun a b e => ?_⟩, fl⟩
  · by_cases ha : a = p
    · subst ha
      rw [HD.set_same] at e; cases e
      exact ⟨n2, n3, q⟩
    · rw [HD.set_ne ha] at e
      obtain ⟨h1, h2, h3⟩ := r.hp a u e
      exact ⟨h1, h2, h3.mv fl.mv (upd_ne ha)⟩
  · obtain ⟨⟨u, e⟩, d⟩ := r.rs a g
    have ne : a ≠ p := fun z => n3 (z ▸ g)
    exact ⟨⟨u, by rw [upd_ne ne]; exact e⟩, d⟩
  · obtain ⟨h1, h2, h3, cs, n, h4, h5, h6⟩ := r.dk a b e
    exact ⟨h1, by rw [HD.set_ne (nep h2)]; exact h2, by rw [HD.set_ne (nep h3)]; exact h3, cs, n, by rw [upd_ne (nep h2)]; exact h4, by rw [upd_ne (nep h3)]; exact h5, h6⟩
/-- fewer tracked objects, a greater bound -/
structure HLe (S S' : HD) : Prop where
  hp : ∀ a o, S.hp a = some o → S'.hp a = some o
  c : S'.c ≤ S.c
  dk : S.dk = S'.dk
theorem HLe.refl (S : HD) : HLe S S := ⟨fun _ _ h => h, Nat.le_refl _, rfl⟩
theorem HLe.trans {S S1 S2 : HD} (a : HLe S S1) (b : HLe S1 S2) : HLe S S2 := ⟨fun c o h => b.hp c o (a.hp c o h), Nat.le_trans b.c a.c, a.dk.trans b.dk⟩
theorem HLe.set {S : HD} {p : Addr} {o : OD} (h : S.hp p = none) : HLe S (S.set p o) :=
  ⟨fun a u e => by rw [HD.set_ne (fun z => by rw [z, h] at e; cases e)]; exact e, Nat.le_refl _, rfl⟩
theorem HLe.tick {S S' : HD} (h : HLe S S') (n : Nat) : HLe (S.tick n) S' := ⟨h.hp, Nat.le_trans h.c (Nat.le_add_right _ _), h.dk⟩
theorem HLe.dkE (l : HLe S S') {a : Addr} : Dk S a ↔ Dk S' a := by unfold Dk; rw [l.dk]
theorem HLe.fz (l : HLe S S') {a : Addr} (h : S'.hp a = none) : S.hp a = none := by
  cases e : S.hp a with
  | none => rfl
  | some o => rw [l.hp a o e] at h; cases h
theorem HLe.mv (l : HLe S S') : Mv G S' H G S H :=
  ⟨fun a o e z => ⟨⟨l.fz z.1, fun d => z.2.1 (l.dkE.mp d), z.2.2⟩, e⟩, fun p h => l.dk.trans h⟩
theorem HLe.fl (l : HLe S S') : FL S' H S H :=
  ⟨fun a o e n d => ⟨l.fz n, fun z => d (l.dkE.mp z), e⟩, fun p h => l.dk.trans h⟩
theorem RH.le (r : RH K G S' H) (l : HLe S S') : RH K G S H where
  hp := fun a o e => by
    obtain ⟨h1, h2, h3⟩ := r.hp a o (l.hp a o e)
    exact ⟨fun d => h1 (l.dkE.mp d), h2, h3.mv l.mv rfl⟩
  rs := fun a g => let ⟨e, d⟩ := r.rs a g; ⟨e, fun z => d (l.dkE.mp z)⟩
  dk := fun a b e => by
    obtain ⟨h1, h2, h3, cs, n, h4, h5, h6, h7⟩ := r.dk a b (l.dk.symm.trans e)
    exact ⟨h1, l.fz h2, l.fz h3, cs, n, h4, h5, Nat.le_trans h6 l.c, h7⟩
end

/-! ### slots -/
abbrev SD := List (Option D)
structure RSl (K : PySem.W.Frag) (G : Addr → Prop) (S : HD) (H : Hp) (σd : SD) (σ : L2.St) : Prop where
  len : σd.length = σ.length
  sl : ∀ (i : Nat) (d : D), σd[i]? = some (some d) → ∃ v, σ[i]? = some (some v) ∧ RD K G S H d v
section
variable {K : PySem.W.Frag} {G G' : Addr → Prop} {S S' : HD} {H H' : Hp} {σd : SD} {σ : L2.St}
theorem RSl.mv (r : RSl K G S H σd σ) (m : Mv G S H G' S' H') : RSl K G' S' H' σd σ :=
  ⟨r.len, fun i d e => let ⟨v, h, q⟩ := r.sl i d e; ⟨v, h, q.mv m⟩⟩
theorem RSl.fl (r : RSl K G S H σd σ) (f : FL S H S' H') : RSl K G S' H' σd σ := r.mv f.mv
theorem RSl.set (r : RSl K G S H σd σ) {d : D} {v : V} (q : RD K G S H d v) (i : Nat) : RSl K G S H (σd.set i (some d)) (σ.set i (some v)) := by
  refine ⟨by simp [r.len], fun j e h => ?_⟩
  by_cases hj : i = j
  · subst hj
    have hi : i < σd.length := by
      have := (List.getElem?_eq_some_iff.mp h).1
      simpa using this
    rw [List.getElem?_set_self hi] at h
    cases h
    exact ⟨v, by rw [List.getElem?_set_self (r.len ▸ hi)], q⟩
  · rw [List.getElem?_set_ne hj] at h
    obtain ⟨u, h1, h2⟩ := r.sl j e h
    exact ⟨u, by rw [List.getElem?_set_ne hj]; exact h1, h2⟩
def wipeD (σ : SD) : List Nat → SD
  | [] => σ
  | v :: vs => (wipeD σ vs).set v none
theorem wipeD_length (σ : SD) : ∀ vs : List Nat, (wipeD σ vs).length = σ.length
  | [] => rfl
  | v :: vs => by unfold wipeD; rw [List.length_set, wipeD_length σ vs]
theorem RSl.setN (r : RSl K G S H σd σ) (i : Nat) : RSl K G S H (σd.set i none) (σ.set i none) := by
  refine ⟨by simp [r.len], fun j e h => ?_⟩
  by_cases hj : i = j
  · subst hj
    have hi : i < σd.length := by
      have := (List.getElem?_eq_some_iff.mp h).1
      simpa using this
    rw [List.getElem?_set_self hi] at h
    cases h
  · rw [List.getElem?_set_ne hj] at h
    obtain ⟨u, h1, h2⟩ := r.sl j e h
    exact ⟨u, by rw [List.getElem?_set_ne hj]; exact h1, h2⟩
theorem RSl.wipe (r : RSl K G S H σd σ) : ∀ vs : List Nat, RSl K G S H (wipeD σd vs) (wipe σ vs)
  | [] => r
  | v :: vs => (RSl.wipe r vs).setN v
end
end PD

/-! PD2: readings over deep values, lifted over the layer's readings: names, constants, displays, operators, tests. -/
namespace PD
open PySem PySem.Spec PyProof.Rows L2

abbrev QD := D → HD → Prop
abbrev TED := SD → HD → QD → Prop
abbrev TTD := SD → HD → (Bool → HD → Prop) → Prop
abbrev TAD := SD → HD → (List D → HD → Prop) → Prop

section
variable (K : PySem.W.Frag) (G : Addr → Prop) (S : HD) (H : Hp)
def Post (Qd : QD) (Q : VK) : Prop := ∀ S' d v H', FL S H S' H' → RH K G S' H' → RD K G S' H' d v → Qd d S' → Q v H'
def PostT (Qd : Bool → HD → Prop) (Q : Bool → Hp → Prop) : Prop := ∀ S' b H', FL S H S' H' → RH K G S' H' → Qd b S' → Q b H'
def PostA (Qd : List D → HD → Prop) (Q : List V → Hp → Prop) : Prop := ∀ S' ds vs H', FL S H S' H' → RH K G S' H' → RDs K G S' H' ds vs → Qd ds S' → Q vs H'
end
def up (K : PySem.W.Frag) (t : TED) : TE := fun σ H Q => ∃ G σd S Qd, RSl K G S H σd σ ∧ RH K G S H ∧ t σd S Qd ∧ Post K G S H Qd Q
def upT (K : PySem.W.Frag) (t : TTD) : TT := fun σ H Q => ∃ G σd S Qd, RSl K G S H σd σ ∧ RH K G S H ∧ t σd S Qd ∧ PostT K G S H Qd Q
def upA (K : PySem.W.Frag) (t : TAD) : TA := fun σ H Q => ∃ G σd S Qd, RSl K G S H σd σ ∧ RH K G S H ∧ t σd S Qd ∧ PostA K G S H Qd Q
abbrev DE (X : Cx) (e : Expr) (t : TED) : Prop := PE X e (up X.K t)
abbrev DT (X : Cx) (e : Expr) (t : TTD) : Prop := PT X e (upT X.K t)
abbrev DW (X : Cx) (e : Expr) (t : TTD) : Prop := PW X e (upT X.K t)
abbrev DA (X : Cx) (es : List Expr) (t : TAD) : Prop := PA X es (upA X.K t)

section
variable {X : Cx} {e : Expr}
theorem _root_.L2.PE.imp {t t' : TE} (h : PE X e t) (i : ∀ σ H Q, t' σ H Q → t σ H Q) : PE X e t' := ⟨fun pins s σ H Q I q => h.run pins s σ H Q I (i _ _ _ q)⟩
theorem _root_.L2.PT.imp {t t' : TT} (h : PT X e t) (i : ∀ σ H Q, t' σ H Q → t σ H Q) : PT X e t' := ⟨fun pins s σ H Q I q => h.run pins s σ H Q I (i _ _ _ q)⟩
theorem _root_.L2.PW.imp {t t' : TT} (h : PW X e t) (i : ∀ σ H Q, t' σ H Q → t σ H Q) : PW X e t' := ⟨fun wh pins s σ H Q I q => h.run wh pins s σ H Q I (i _ _ _ q)⟩
theorem _root_.L2.PA.imp {es : List Expr} {t t' : TA} (h : PA X es t) (i : ∀ σ H Q, t' σ H Q → t σ H Q) : PA X es t' := ⟨fun pos pins s σ H Q I q => h.run pos pins s σ H Q I (i _ _ _ q)⟩
end
section
variable {K : PySem.W.Frag} {G : Addr → Prop} {S S1 : HD} {H H1 : Hp}
theorem Post.fl {Qd : QD} {Q : VK} (p : Post K G S H Qd Q) (f : FL S H S1 H1) : Post K G S1 H1 Qd Q := fun S' d v H' f' => p S' d v H' (f.trans f')
theorem PostT.fl {Qd : Bool → HD → Prop} {Q : Bool → Hp → Prop} (p : PostT K G S H Qd Q) (f : FL S H S1 H1) : PostT K G S1 H1 Qd Q := fun S' d H' f' => p S' d H' (f.trans f')
theorem PostA.fl {Qd : List D → HD → Prop} {Q : List V → Hp → Prop} (p : PostA K G S H Qd Q) (f : FL S H S1 H1) : PostA K G S1 H1 Qd Q := fun S' d v H' f' => p S' d v H' (f.trans f')
/-- the value stands in the heap as it is -/
theorem Post.here {Qd : QD} {Q : VK} (p : Post K G S H Qd Q) (r : RH K G S H) {d : D} {v : V} (q : RD K G S H d v) (h : Qd d S) : Q v H := p S d v H (.refl _ _) r q h
theorem PostT.here {Qd : Bool → HD → Prop} {Q : Bool → Hp → Prop} (p : PostT K G S H Qd Q) (r : RH K G S H) {d : Bool} (h : Qd d S) : Q d H := p S d H (.refl _ _) r h
/-- a new frozen tuple, list -/
theorem Post.newT {Qd : QD} {Q : VK} (p : Post K G S H Qd Q) (r : RH K G S H) {ds : List D} {vs : List V} (q : RDs K G S H ds vs) (h : Qd (.tup ds) S) {a : Addr} (ha : H a = none) : Q (.ref a) (upd H a (.tup vs)) :=
  let ⟨r', f, _⟩ := r.newF ha (.tup vs); p S _ _ _ f r' (r.newT ha q) h
theorem Post.newL {Qd : QD} {Q : VK} (p : Post K G S H Qd Q) (r : RH K G S H) {ds : List D} {vs : List V} (q : RDs K G S H ds vs) (h : Qd (.lst ds) S) {a : Addr} (ha : H a = none) : Q (.ref a) (upd H a (.lst vs)) :=
  let ⟨r', f, _⟩ := r.newF ha (.lst vs); p S _ _ _ f r' (r.newL ha q) h
/-- a new tracked list -/
theorem Post.newR {Qd : QD} {Q : VK} (p : Post K G S H Qd Q) (r : RH K G S H) {ds : List D} {vs : List V} (q : RDs K G S H ds vs) (h : ∀ p, S.hp p = none → Qd (.ref p) (S.set p (.lst ds))) {a : Addr} (ha : H a = none) : Q (.ref a) (upd H a (.lst vs)) := by
  have n := r.fresh ha
  have m : Mv G S H G (S.set a (.lst ds)) (upd H a (.lst vs)) := ⟨fun b o e z => by
    have ne := ne_of_none e ha
    exact ⟨⟨by rw [HD.set_ne ne]; exact z.1, z.2.1, z.2.2⟩, by rw [upd_ne ne]; exact e⟩, fun _ e => e⟩
  obtain ⟨r', f⟩ := r.newR ha (o := .lst ds) (ho := .lst vs) ⟨vs, upd_same, q.mv m⟩
  exact p _ _ _ _ f r' (.ref a) (h a n.1)
end

/-! ### names and constants -/
def gt : SD → Nat → Option D
  | [], _ => none
  | x :: _, 0 => x
  | _ :: r, n + 1 => gt r n
theorem gt_some : ∀ {σ : SD} {i : Nat} {d : D}, gt σ i = some d → σ[i]? = some (some d)
  | [], _, _, h => by cases h
  | x :: _, 0, d, h => by simp [gt] at h; simp [h]
  | _ :: r, n + 1, d, h => by simpa using gt_some (σ := r) (i := n) h
/-- a slot that holds a value -/
def tSlot (i : Nat) : TED := fun σ S Q => match gt σ i with
  | some d => Q d S
  | none => False
def tCD (d : D) : TED := fun _ S Q => Q d S
section
variable {X : Cx}
theorem de_slot (i : Nat) {x : Str} {pos : Pos} (h : PE X (.Name x pos) (tVar i)) : DE X (.Name x pos) (tSlot i) := by
  refine h.imp fun σ H Q q => ?_
  obtain ⟨G, σd, S, Qd, rs, rh, t, p⟩ := q
  unfold tSlot at t
  cases e : gt σd i with
  | none => rw [e] at t; exact t.elim
  | some d =>
    rw [e] at t
    obtain ⟨v, h1, h2⟩ := rs.sl i d (gt_some e)
    exact ⟨v, h1, p.here rh h2 t⟩
theorem de_c {e : Expr} {v : V} {d : D} (h : PE X e (tC v)) (r : ∀ G S H, RD X.K G S H d v) : DE X e (tCD d) :=
  h.imp fun σ H Q ⟨G, σd, S, Qd, rs, rh, t, p⟩ => p.here rh (r _ _ _) t
theorem de_int {i j pos} : DE X (.Constant (.int i) j pos) (tCD (.int i)) := de_c pe_int fun _ _ _ => .int _
theorem de_bl {b j pos} : DE X (.Constant (.bool b) j pos) (tCD (.bl b)) := de_c pe_bl fun _ _ _ => .bl _
theorem de_non {j pos} : DE X (.Constant .none j pos) (tCD .non) := de_c pe_non fun _ _ _ => .non
theorem de_str {x j pos} : DE X (.Constant (.str x) j pos) (tCD (.str x)) := de_c pe_str fun _ _ _ => .str _
/-- a built-in class as a value -/
theorem de_ty {n : String} {x : Str} {pos : Pos} (hg : Gl X x) (hm : X.mg x = none) (hv : bootBuiltins x = some (.type n)) (hn : x ≠ "__name__" := by decide) (hd : (x == ("__debug__" : Str)) = false := by decide) : DE X (.Name x pos) (tCD (.ty n)) :=
  de_c (pe_bltn (v := .ty n) hg hm hv rfl hn hd) fun _ _ _ => .ty _
/-- a module's int, text -/
theorem de_globI {x : Str} {i : Int} {t : Tok} {pos : Pos} (hg : Gl X x) (hm : X.mg x = some (.int i t)) (hd : (x == ("__debug__" : Str)) = false := by decide) : DE X (.Name x pos) (tCD (.int i)) :=
  de_c (pe_glob (v := .int i) hg hm ⟨_, rfl⟩ hd) fun _ _ _ => .int _
theorem de_globS {x : Str} {i : Str} {t : Tok} {pos : Pos} (hg : Gl X x) (hm : X.mg x = some (.str i t)) (hd : (x == ("__debug__" : Str)) = false := by decide) : DE X (.Name x pos) (tCD (.str i)) :=
  de_c (pe_glob (v := .str i) hg hm ⟨_, rfl⟩ hd) fun _ _ _ => .str _

/-! ### argument lists, displays -/
def tNilD : TAD := fun _ S Q => Q [] S
def tConsD (te : TED) (tr : TAD) : TAD := fun σ S Q => te σ S fun d S1 => tr σ S1 fun ds S2 => Q (d :: ds) S2
theorem da_nil : DA X [] tNilD := pa_nil.imp fun σ H Q ⟨G, σd, S, Qd, rs, rh, t, p⟩ => p S [] [] H (.refl _ _) rh .nil t
theorem da_cons {e : Expr} {es : List Expr} {te : TED} {tr : TAD} (h : DE X e te) (hr : DA X es tr) (hs : starEach (e :: es) X.env = (false, eval e X.env) :: starEach es X.env := by rfl) : DA X (e :: es) (tConsD te tr) :=
  (pa_cons h hr hs).imp fun σ H Q ⟨G, σd, S, Qd, rs, rh, t, p⟩ =>
    ⟨G, σd, S, _, rs, rh, t, fun S1 d v H1 f1 rh1 q1 t1 => ⟨G, σd, S1, _, rs.fl f1, rh1, t1, fun S2 ds vs H2 f2 rh2 q2 t2 => p S2 _ _ H2 (f1.trans f2) rh2 (.cons (q1.fl f2) q2) t2⟩⟩
def tTupD (ta : TAD) : TED := fun σ S Q => ta σ S fun ds S1 => ds.length ≤ 1000 ∧ Q (.tup ds) S1
def tLstV (ta : TAD) : TED := fun σ S Q => ta σ S fun ds S1 => ds.length ≤ 1000 ∧ Q (.lst ds) S1
def tLstR (ta : TAD) : TED := fun σ S Q => ta σ S fun ds S1 => ds.length ≤ 1000 ∧ ∀ p, S1.hp p = none → Q (.ref p) (S1.set p (.lst ds))
theorem line1000 {n : Nat} (h : n ≤ 1000) : n ≤ sizeLine := Nat.le_trans h (by decide)
theorem de_tup {es : List Expr} {ta : TAD} {k pos} (h : DA X es ta) : DE X (.Tuple es k pos) (tTupD ta) :=
  (pe_tup h).imp fun σ H Q ⟨G, σd, S, Qd, rs, rh, t, p⟩ =>
    ⟨G, σd, S, _, rs, rh, t, fun S1 ds vs H1 f1 rh1 q1 ⟨l1, t1⟩ => ⟨q1.length ▸ line1000 l1, fun a ha => (p.fl f1).newT rh1 q1 t1 ha⟩⟩
theorem de_lstV {es : List Expr} {ta : TAD} {pos} (h : DA X es ta) : DE X (.List es pos) (tLstV ta) :=
  (pe_lst h).imp fun σ H Q ⟨G, σd, S, Qd, rs, rh, t, p⟩ =>
    ⟨G, σd, S, _, rs, rh, t, fun S1 ds vs H1 f1 rh1 q1 ⟨l1, t1⟩ => ⟨q1.length ▸ line1000 l1, fun a ha => (p.fl f1).newL rh1 q1 t1 ha⟩⟩
theorem de_lstR {es : List Expr} {ta : TAD} {pos} (h : DA X es ta) : DE X (.List es pos) (tLstR ta) :=
  (pe_lst h).imp fun σ H Q ⟨G, σd, S, Qd, rs, rh, t, p⟩ =>
    ⟨G, σd, S, _, rs, rh, t, fun S1 ds vs H1 f1 rh1 q1 ⟨l1, t1⟩ => ⟨q1.length ▸ line1000 l1, fun a ha => (p.fl f1).newR rh1 q1 t1 ha⟩⟩

/-! ### two operands -/
abbrev R2D := D → D → HD → QD → Prop
/-- a reading by values, lifted -/
def Op2 (K : PySem.W.Frag) (r : R2) (rd : R2D) : Prop := ∀ (G : Addr → Prop) (S : HD) (H : Hp) (d1 d2 : D) (v1 v2 : V) (Qd : QD) (Q : VK), RH K G S H → RD K G S H d1 v1 → RD K G S H d2 v2 → rd d1 d2 S Qd → Post K G S H Qd Q → r v1 v2 H Q
def tBin (rd : R2D) (ta tb : TED) : TED := fun σ S Q => ta σ S fun x S1 => tb σ S1 fun y S2 => rd x y S2 Q
theorem up_bin {K : PySem.W.Frag} {r : R2} {rd : R2D} (h : Op2 K r rd) {ta tb : TED} : ∀ σ H Q, up K (tBin rd ta tb) σ H Q → tOp r (up K ta) (up K tb) σ H Q := fun σ H Q ⟨G, σd, S, Qd, rs, rh, t, p⟩ =>
  ⟨G, σd, S, _, rs, rh, t, fun S1 d v H1 f1 rh1 q1 t1 => ⟨G, σd, S1, _, rs.fl f1, rh1, t1, fun S2 d2 v2 H2 f2 rh2 q2 t2 => h G S2 H2 d d2 v v2 _ _ rh2 (q1.fl f2) q2 t2 (p.fl (f1.trans f2))⟩⟩
theorem Op2.or {K : PySem.W.Frag} {r r' : R2} {rd rd' : R2D} (h : Op2 K r rd) (h' : Op2 K r' rd') : Op2 K (fun x y H Q => r x y H Q ∨ r' x y H Q) (fun x y S Q => rd x y S Q ∨ rd' x y S Q) :=
  fun G S H d1 d2 v1 v2 Qd Q rh q1 q2 t p => t.imp (fun t => h G S H d1 d2 v1 v2 Qd Q rh q1 q2 t p) fun t => h' G S H d1 d2 v1 v2 Qd Q rh q1 q2 t p
variable {a b : Expr} {ta tb : TED} {pos : Pos}
theorem de_op {op : Operator} {r : R2} {rd : R2D} (ho : OpR X (binaryOp op) r) (h : Op2 X.K r rd) (ha : DE X a ta) (hb : DE X b tb) : DE X (.BinOp a op b pos) (tBin rd ta tb) := (pe_op ho ha hb).imp (up_bin h)
theorem de_cmp {op : CmpOp} {r : R2} {rd : R2D} (ho : OpR X (compareOp op) r) (h : Op2 X.K r rd) (ha : DE X a ta) (hb : DE X b tb) (hm : behindInMarks op b = false) : DE X (.Compare a [op] [b] pos) (tBin rd ta tb) := (pe_cmpR ho ha hb hm).imp (up_bin h)
/-- a value that is a bool, as a test -/
def tTst (t : TED) : TTD := fun σ S Q => t σ S fun x S1 => match x with
  | .bl k => Q k S1
  | _ => False
theorem up_tst {K : PySem.W.Frag} {r : R2} {rd : R2D} (h : Op2 K r rd) {ta tb : TED} : ∀ σ H Q, upT K (tTst (tBin rd ta tb)) σ H Q → tTest (tOp r (up K ta) (up K tb)) σ H Q := fun σ H Q ⟨G, σd, S, Qd, rs, rh, t, p⟩ =>
  up_bin h σ H _ ⟨G, σd, S, _, rs, rh, t, fun S1 d v H1 f1 rh1 q1 t1 => by
    cases q1 with
    | bl k => exact ⟨k, rfl, p S1 k H1 f1 rh1 t1⟩
    | _ => exact t1.elim⟩
theorem dt_cmp {op : CmpOp} {r : R2} {rd : R2D} (ho : OpR X (compareOp op) r) (h : Op2 X.K r rd) (ha : DE X a ta) (hb : DE X b tb) (hm : behindInMarks op b = false) : DT X (.Compare a [op] [b] pos) (tTst (tBin rd ta tb)) := (pt_cmpR ho ha hb hm).imp (up_tst h)
theorem dt_val {e : Expr} {t : TED} (h : DE X e t) (he : ∀ whole, isTrue e X.env whole = (do let v ← whole; standAt e.pos; holding [v] (truthy v)) := by intro _; rfl) : DT X e (tTst t) :=
  (pt_val h he).imp fun σ H Q ⟨G, σd, S, Qd, rs, rh, t, p⟩ => ⟨G, σd, S, _, rs, rh, t, fun S1 d v H1 f1 rh1 q1 t1 => by
    cases q1 with
    | bl k => exact ⟨k, rfl, p S1 k H1 f1 rh1 t1⟩
    | _ => exact t1.elim⟩

/-! ### and, or, not, if as tests and as values -/
variable {tA tB' : TTD} {rest : List Expr} {c : Expr}
def tAndD (t u : TTD) : TTD := fun σ S Q => t σ S fun c S1 => if c = true then u σ S1 Q else Q false S1
def tOrD (t u : TTD) : TTD := fun σ S Q => t σ S fun c S1 => if c = true then Q true S1 else u σ S1 Q
def tNotD (t : TTD) : TTD := fun σ S Q => t σ S fun c S1 => Q (!c) S1
theorem dw_and1 (ha : DT X a tA) : DW X (.BoolOp .And [a] pos) tA := pw_and1 ha
theorem dw_or1 (ha : DT X a tA) : DW X (.BoolOp .Or [a] pos) tA := pw_or1 ha
theorem dw_and (ha : DT X a tA) (hb : DW X (.BoolOp .And (b :: rest) pos) tB') : DW X (.BoolOp .And (a :: b :: rest) pos) (tAndD tA tB') :=
  (pw_and ha hb).imp fun σ H Q ⟨G, σd, S, Qd, rs, rh, t, p⟩ => ⟨G, σd, S, _, rs, rh, t, fun S1 k H1 f1 rh1 t1 => by
    cases k with
    | true => rw [if_pos rfl] at t1 ⊢; exact ⟨G, σd, S1, _, rs.fl f1, rh1, t1, p.fl f1⟩
    | false => rw [if_neg Bool.false_ne_true] at t1 ⊢; exact p S1 false H1 f1 rh1 t1⟩
theorem dw_or (ha : DT X a tA) (hb : DW X (.BoolOp .Or (b :: rest) pos) tB') : DW X (.BoolOp .Or (a :: b :: rest) pos) (tOrD tA tB') :=
  (pw_or ha hb).imp fun σ H Q ⟨G, σd, S, Qd, rs, rh, t, p⟩ => ⟨G, σd, S, _, rs, rh, t, fun S1 k H1 f1 rh1 t1 => by
    cases k with
    | false => rw [if_neg Bool.false_ne_true] at t1 ⊢; exact ⟨G, σd, S1, _, rs.fl f1, rh1, t1, p.fl f1⟩
    | true => rw [if_pos rfl] at t1 ⊢; exact p S1 true H1 f1 rh1 t1⟩
theorem dt_w (h : DW X c tA) : DT X c tA := PW.pt h
theorem dt_not (ha : DT X a tA) : DT X (.UnaryOp .Not a pos) (tNotD tA) :=
  (pt_not ha).imp fun σ H Q ⟨G, σd, S, Qd, rs, rh, t, p⟩ => ⟨G, σd, S, _, rs, rh, t, fun S1 k H1 f1 rh1 t1 => p S1 _ H1 f1 rh1 t1⟩
def tIfD (t : TTD) (ta tb : TED) : TED := fun σ S Q => t σ S fun c S1 => if c = true then ta σ S1 Q else tb σ S1 Q
theorem de_if (hc : DT X c tA) (ha : DE X a ta) (hb : DE X b tb) : DE X (.IfExp c a b pos) (tIfD tA ta tb) :=
  (pe_ifExp hc ha hb).imp fun σ H Q ⟨G, σd, S, Qd, rs, rh, t, p⟩ => ⟨G, σd, S, _, rs, rh, t, fun S1 k H1 f1 rh1 t1 => by
    cases k with
    | true => rw [if_pos rfl] at t1 ⊢; exact ⟨G, σd, S1, _, rs.fl f1, rh1, t1, p.fl f1⟩
    | false => rw [if_neg Bool.false_ne_true] at t1 ⊢; exact ⟨G, σd, S1, _, rs.fl f1, rh1, t1, p.fl f1⟩⟩
/-- as values: all but the last are bools -/
def tAndV (ta tb : TED) : TED := fun σ S Q => ta σ S fun x S1 => match x with
  | .bl true => tb σ S1 Q
  | .bl false => Q (.bl false) S1
  | _ => False
def tOrV (ta tb : TED) : TED := fun σ S Q => ta σ S fun x S1 => match x with
  | .bl true => Q (.bl true) S1
  | .bl false => tb σ S1 Q
  | _ => False
def tNotV (ta : TED) : TED := fun σ S Q => ta σ S fun x S1 => match x with
  | .bl k => Q (.bl (!k)) S1
  | _ => False
theorem de_one {op} (h : DE X a ta) : DE X (.BoolOp op [a] pos) ta := pe_one h
theorem de_and (ha : DE X a ta) (hb : DE X (.BoolOp .And (b :: rest) pos) tb) : DE X (.BoolOp .And (a :: b :: rest) pos) (tAndV ta tb) :=
  (pe_and ha hb).imp fun σ H Q ⟨G, σd, S, Qd, rs, rh, t, p⟩ => ⟨G, σd, S, _, rs, rh, t, fun S1 d v H1 f1 rh1 q1 t1 => by
    cases q1 with
    | bl k =>
      refine ⟨k, rfl, ?_⟩
      cases k with
      | true => rw [if_pos rfl]; exact ⟨G, σd, S1, _, rs.fl f1, rh1, t1, p.fl f1⟩
      | false => rw [if_neg Bool.false_ne_true]; exact p S1 _ _ H1 f1 rh1 (.bl _) t1
    | _ => exact t1.elim⟩
theorem de_or (ha : DE X a ta) (hb : DE X (.BoolOp .Or (b :: rest) pos) tb) : DE X (.BoolOp .Or (a :: b :: rest) pos) (tOrV ta tb) :=
  (pe_or ha hb).imp fun σ H Q ⟨G, σd, S, Qd, rs, rh, t, p⟩ => ⟨G, σd, S, _, rs, rh, t, fun S1 d v H1 f1 rh1 q1 t1 => by
    cases q1 with
    | bl k =>
      refine ⟨k, rfl, ?_⟩
      cases k with
      | false => rw [if_neg Bool.false_ne_true]; exact ⟨G, σd, S1, _, rs.fl f1, rh1, t1, p.fl f1⟩
      | true => rw [if_pos rfl]; exact p S1 _ _ H1 f1 rh1 (.bl _) t1
    | _ => exact t1.elim⟩
theorem de_not (ha : DE X a ta) : DE X (.UnaryOp .Not a pos) (tNotV ta) :=
  (pe_not ha).imp fun σ H Q ⟨G, σd, S, Qd, rs, rh, t, p⟩ => ⟨G, σd, S, _, rs, rh, t, fun S1 d v H1 f1 rh1 q1 t1 => by
    cases q1 with
    | bl k => exact ⟨k, rfl, p S1 _ _ H1 f1 rh1 (.bl _) t1⟩
    | _ => exact t1.elim⟩
/-- one operand -/
abbrev R1D := D → HD → QD → Prop
def tUnD (r : R1D) (ta : TED) : TED := fun σ S Q => ta σ S fun x S1 => r x S1 Q
def rNeg : R1D := fun x S Q => match x with
  | .int i => Q (.int (-i)) S
  | _ => False
theorem de_neg (ha : DE X a ta) : DE X (.UnaryOp .USub a pos) (tUnD rNeg ta) :=
  (pe_un un_neg ha).imp fun σ H Q ⟨G, σd, S, Qd, rs, rh, t, p⟩ => ⟨G, σd, S, _, rs, rh, t, fun S1 d v H1 f1 rh1 q1 t1 => by
    cases q1 with
    | int i => exact ⟨i, rfl, p S1 _ _ H1 f1 rh1 (.int _) t1⟩
    | _ => exact t1.elim⟩
end
end PD

/-! PD3: statements, targets, loops over deep values. -/
namespace PD
open PySem PySem.Spec PyProof.Rows L2

structure EndsD where
  nx : SD → HD → Prop
  rt : QD
  bk : SD → HD → Prop := fun _ _ => False
  ct : SD → HD → Prop := fun _ _ => False
abbrev TSD := EndsD → SD → HD → Prop
abbrev TGD := D → SD → HD → (SD → HD → Prop) → Prop
abbrev TGsD := List D → SD → HD → (SD → HD → Prop) → Prop

section
variable (K : PySem.W.Frag) (G : Addr → Prop) (S : HD) (H : Hp)
def PostS (nd : SD → HD → Prop) (n : L2.St → Hp → Prop) : Prop := ∀ S' σd σ H', FL S H S' H' → RH K G S' H' → RSl K G S' H' σd σ → nd σd S' → n σ H'
structure PEnds (Dd : EndsD) (D : Ends) : Prop where
  nx : PostS K G S H Dd.nx D.nx
  rt : Post K G S H Dd.rt D.rt
  bk : PostS K G S H Dd.bk D.bk
  ct : PostS K G S H Dd.ct D.ct
end
def upS (K : PySem.W.Frag) (t : TSD) : TS := fun D σ H => ∃ G σd S Dd, RSl K G S H σd σ ∧ RH K G S H ∧ t Dd σd S ∧ PEnds K G S H Dd D
def upG (K : PySem.W.Frag) (t : TGD) : TG := fun v σ H Q => ∃ G σd S d Qd, RSl K G S H σd σ ∧ RH K G S H ∧ RD K G S H d v ∧ t d σd S Qd ∧ PostS K G S H Qd Q
def upGs (K : PySem.W.Frag) (t : TGsD) : TGs := fun vs σ H Q => ∃ G σd S ds Qd, RSl K G S H σd σ ∧ RH K G S H ∧ RDs K G S H ds vs ∧ t ds σd S Qd ∧ PostS K G S H Qd Q
abbrev DS (X : Cx) (st : Stmt) (t : TSD) : Prop := PS X st (upS X.K t)
abbrev DSs (X : Cx) (st : List Stmt) (t : TSD) : Prop := PSs X st (upS X.K t)
abbrev DG (X : Cx) (tg : Expr) (t : TGD) : Prop := PG X tg (upG X.K t)
abbrev DGs (X : Cx) (tg : List Expr) (t : TGsD) : Prop := PGs X tg (upGs X.K t)

theorem _root_.L2.PS.imp {X : Cx} {st : Stmt} {t t' : TS} (h : PS X st t) (i : ∀ D σ H, t' D σ H → t D σ H) : PS X st t' := ⟨fun pins s σ H D I q => h.run pins s σ H D I (i _ _ _ q)⟩
theorem _root_.L2.PSs.imp {X : Cx} {st : List Stmt} {t t' : TS} (h : PSs X st t) (i : ∀ D σ H, t' D σ H → t D σ H) : PSs X st t' := ⟨fun pins s σ H D I q => h.run pins s σ H D I (i _ _ _ q)⟩
theorem _root_.L2.PG.imp {X : Cx} {tg : Expr} {t t' : TG} (h : PG X tg t) (i : ∀ v σ H Q, t' v σ H Q → t v σ H Q) : PG X tg t' := ⟨fun pins s σ H v u Q I r q => h.run pins s σ H v u Q I r (i _ _ _ _ q)⟩
theorem _root_.L2.PGs.imp {X : Cx} {tg : List Expr} {t t' : TGs} (h : PGs X tg t) (i : ∀ v σ H Q, t' v σ H Q → t v σ H Q) : PGs X tg t' := ⟨fun pins s σ H v u Q I r q => h.run pins s σ H v u Q I r (i _ _ _ _ q)⟩
section
variable {K : PySem.W.Frag} {G : Addr → Prop} {S S1 : HD} {H H1 : Hp}
theorem PostS.fl {nd : SD → HD → Prop} {n : L2.St → Hp → Prop} (p : PostS K G S H nd n) (f : FL S H S1 H1) : PostS K G S1 H1 nd n := fun S' d v H' f' => p S' d v H' (f.trans f')
theorem PEnds.fl {Dd : EndsD} {D : Ends} (p : PEnds K G S H Dd D) (f : FL S H S1 H1) : PEnds K G S1 H1 Dd D := ⟨p.nx.fl f, p.rt.fl f, p.bk.fl f, p.ct.fl f⟩
theorem PostS.here {nd : SD → HD → Prop} {n : L2.St → Hp → Prop} (p : PostS K G S H nd n) (r : RH K G S H) {σd : SD} {σ : L2.St} (rs : RSl K G S H σd σ) (h : nd σd S) : n σ H := p S σd σ H (.refl _ _) r rs h
end

/-! ### blocks and small statements -/
section
variable {X : Cx} {st : Stmt} {rest : List Stmt} {t u : TSD} {e : Expr} {te : TED} {pos : Pos}
def sNextD : TSD := fun D σ S => D.nx σ S
def sSeqD (t u : TSD) : TSD := fun D σ S => t { D with nx := u D } σ S
theorem dss_nil : DSs X [] sNextD := pss_nil.imp fun D σ H ⟨G, σd, S, Dd, rs, rh, t, p⟩ => p.nx.here rh rs t
theorem dss_cons (h1 : DS X st t) (h2 : DSs X rest u) : DSs X (st :: rest) (sSeqD t u) :=
  (pss_cons h1 h2).imp fun D σ H ⟨G, σd, S, Dd, rs, rh, q, p⟩ =>
    ⟨G, σd, S, _, rs, rh, q, fun S1 σd1 σ1 H1 f1 rh1 rs1 q1 => ⟨G, σd1, S1, Dd, rs1, rh1, q1, p.fl f1⟩, p.rt, p.bk, p.ct⟩
theorem dss_one (h1 : DS X st t) : DSs X [st] t := pss_one h1
def sBreakD : TSD := fun D σ S => D.bk σ S
def sContD : TSD := fun D σ S => D.ct σ S
theorem ds_pass : DS X (.Pass pos) sNextD := ps_pass.imp fun D σ H ⟨G, σd, S, Dd, rs, rh, t, p⟩ => p.nx.here rh rs t
theorem ds_break : DS X (.Break pos) sBreakD := ps_break.imp fun D σ H ⟨G, σd, S, Dd, rs, rh, t, p⟩ => p.bk.here rh rs t
theorem ds_continue : DS X (.Continue pos) sContD := ps_continue.imp fun D σ H ⟨G, σd, S, Dd, rs, rh, t, p⟩ => p.ct.here rh rs t
theorem ds_doc {x j pos pos'} : DS X (.Expr (.Constant (.str x) j pos) pos') sNextD := ps_doc.imp fun D σ H ⟨G, σd, S, Dd, rs, rh, t, p⟩ => p.nx.here rh rs t
def sDropD (te : TED) : TSD := fun D σ S => te σ S fun _ S1 => D.nx σ S1
theorem ds_expr (he : DE X e te) (hs : swapsWith e none pos.line X.env = pure false := by rfl) : DS X (.Expr e pos) (sDropD te) :=
  (ps_expr he hs).imp fun D σ H ⟨G, σd, S, Dd, rs, rh, t, p⟩ => ⟨G, σd, S, _, rs, rh, t, fun S1 d v H1 f1 rh1 q1 t1 => p.nx S1 σd σ H1 f1 rh1 (rs.fl f1) t1⟩
def sRetD (te : TED) : TSD := fun D σ S => te σ S D.rt
theorem ds_ret (he : DE X e te) : DS X (.Return (some e) pos) (sRetD te) :=
  (ps_ret he).imp fun D σ H ⟨G, σd, S, Dd, rs, rh, t, p⟩ => ⟨G, σd, S, _, rs, rh, t, p.rt⟩
def sRetND : TSD := fun D _ S => D.rt .non S
theorem ds_retN : DS X (.Return none pos) sRetND := ps_retN.imp fun D σ H ⟨G, σd, S, Dd, rs, rh, t, p⟩ => p.rt.here rh .non t
def sIfD (c : TTD) (t u : TSD) : TSD := fun D σ S => c σ S fun b S1 => if b = true then t D σ S1 else u D σ S1
theorem ds_if {c : Expr} {a b : List Stmt} {tc : TTD} (hc : DT X c tc) (ha : DSs X a t) (hb : DSs X b u) : DS X (.If c a b pos) (sIfD tc t u) :=
  (ps_if hc ha hb).imp fun D σ H ⟨G, σd, S, Dd, rs, rh, t, p⟩ => ⟨G, σd, S, _, rs, rh, t, fun S1 k H1 f1 rh1 t1 => by
    cases k with
    | true => rw [if_pos rfl] at t1 ⊢; exact ⟨G, σd, S1, Dd, rs.fl f1, rh1, t1, p.fl f1⟩
    | false => rw [if_neg Bool.false_ne_true] at t1 ⊢; exact ⟨G, σd, S1, Dd, rs.fl f1, rh1, t1, p.fl f1⟩⟩
def sNeverD : TSD := fun _ _ _ => False
theorem ds_never : DS X st sNeverD := ⟨fun _ _ _ _ _ _ ⟨_, _, _, _, _, _, q, _⟩ => q.elim⟩
theorem dss_never {sts : List Stmt} : DSs X sts sNeverD := ⟨fun _ _ _ _ _ _ ⟨_, _, _, _, _, _, q, _⟩ => q.elim⟩
end

/-! ### targets -/
section
variable {X : Cx} {pos : Pos}
/-- set a slot -/
def st : SD → Nat → D → SD
  | [], _, _ => []
  | _ :: r, 0, d => some d :: r
  | x :: r, n + 1, d => x :: st r n d
theorem st_eq : ∀ (σ : SD) (i : Nat) (d : D), st σ i d = σ.set i (some d)
  | [], _, _ => rfl
  | _ :: _, 0, _ => rfl
  | x :: r, n + 1, d => by unfold st; rw [st_eq r n d]; rfl
def gNameD (i : Nat) : TGD := fun d σ S Q => Q (st σ i d) S
theorem dg_name (i : Nat) {e : Expr} (h : PG X e (gName i)) : DG X e (gNameD i) :=
  h.imp fun v σ H Q ⟨G, σd, S, d, Qd, rs, rh, q, t, p⟩ => p S _ _ H (.refl _ _) rh (by rw [st_eq]; exact rs.set q i) t
def gNilD : TGsD := fun ds σ S Q => ds = [] ∧ Q σ S
def gConsD (t : TGD) (u : TGsD) : TGsD := fun ds σ S Q => match ds with
  | d :: r => t d σ S fun σ' S' => u r σ' S' Q
  | [] => False
theorem dgs_nil : DGs X [] gNilD := pgs_nil.imp fun vs σ H Q ⟨G, σd, S, ds, Qd, rs, rh, q, ⟨e, t⟩, p⟩ => by
  subst e
  cases q
  exact ⟨rfl, p.here rh rs t⟩
theorem dgs_cons {e : Expr} {es : List Expr} {t : TGD} {u : TGsD} (h1 : DG X e t) (h2 : DGs X es u)
    (hs : (assignEach (e :: es) X.env).map (·.2) = assign e X.env :: (assignEach es X.env).map (·.2) := by rfl) : DGs X (e :: es) (gConsD t u) :=
  (pgs_cons h1 h2 hs).imp fun vs σ H Q ⟨G, σd, S, ds, Qd, rs, rh, q, tt, p⟩ => by
    cases q with
    | nil => exact tt.elim
    | cons q qs =>
      exact ⟨_, _, rfl, G, σd, S, _, _, rs, rh, q, tt, fun S1 σd1 σ1 H1 f1 rh1 rs1 q1 => ⟨G, σd1, S1, _, Qd, rs1, rh1, qs.fl f1, q1, p.fl f1⟩⟩
def gTupD (n : Nat) (t : TGsD) : TGD := fun d σ S Q => match d with
  | .tup ds => ds.length = n ∧ t ds σ S Q
  | _ => False
theorem FzT.sq {K : PySem.W.Frag} {G : Addr → Prop} {S : HD} {H : Hp} {a : Addr} {vs : List V} (h : FzT K G S H a vs) : SqT K H a vs := h.imp (fun z => z.2) fun ⟨o, its, n, h⟩ => ⟨o, its, n, h⟩
theorem FzL.sq {K : PySem.W.Frag} {G : Addr → Prop} {S : HD} {H : Hp} {a : Addr} {vs : List V} (h : FzL K G S H a vs) : SqL K H a vs := h.imp (fun z => z.2) fun ⟨o, its, n, h⟩ => ⟨o, its, n, h⟩
theorem dg_tup {es : List Expr} {k : Nat} {t : TGsD} {n : Nat} (hc : X.calm = true) (h : DGs X es t)
    (hn : (assignEach es X.env).length = n := by rfl) (hst : (assignEach es X.env).findIdx? (·.1) = none := by rfl) : DG X (.Tuple es k pos) (gTupD n t) :=
  (pg_tup hc h hn hst).imp fun v σ H Q ⟨G, σd, S, d, Qd, rs, rh, q, tt, p⟩ => by
    cases q with
    | @tup a vs ds h r =>
      obtain ⟨l, tt⟩ := tt
      exact ⟨a, vs, rfl, h.sq, r.length ▸ l, G, σd, S, _, _, rs, rh, r, tt, p⟩
    | _ => exact tt.elim
/-- target = value -/
def sAsgD (te : TED) (g : TGD) : TSD := fun D σ S => te σ S fun x S1 => g x σ S1 D.nx
theorem up_asg {K : PySem.W.Frag} {te : TED} {g : TGD} : ∀ D σ H, upS K (sAsgD te g) D σ H → tAsg (up K te) (upG K g) D σ H := fun D σ H ⟨G, σd, S, Dd, rs, rh, t, p⟩ =>
  ⟨G, σd, S, _, rs, rh, t, fun S1 d v H1 f1 rh1 q1 t1 => ⟨G, σd, S1, d, _, rs.fl f1, rh1, q1, t1, p.nx.fl f1⟩⟩
theorem up_asgN {K : PySem.W.Frag} {te : TED} {i : Nat} : ∀ D σ H, upS K (sAsgD te (gNameD i)) D σ H → tAsg (up K te) (gName i) D σ H := fun D σ H ⟨G, σd, S, Dd, rs, rh, t, p⟩ =>
  ⟨G, σd, S, _, rs, rh, t, fun S1 d v H1 f1 rh1 q1 t1 => p.nx S1 _ _ H1 f1 rh1 ((rs.fl f1).set q1 i) (st_eq σd i d ▸ t1)⟩
theorem ds_asg {tg e : Expr} {te : TED} {g : TGD} (he : DE X e te) (hg : DG X tg g) (hs : swapsWithSole [tg] e pos.line X.env = pure false := by rfl) (hw : swappedStores [tg] e X.env = pure none := by rfl)
    (h1 : (assignEach [tg] X.env).map (·.2) = [assign tg X.env] := by rfl) : DS X (.Assign [tg] e pos) (sAsgD te g) := (ps_asg he hg hs hw h1).imp up_asg
theorem ds_set (i : Nat) {x : Str} {e : Expr} {te : TED} {pos' : Pos} (hN : X.N.Nodup) (he : DE X e te) (hi : X.N[i]? = some x := by rfl) (hx : Loc X.env.scope x := by first | exact .inl rfl | exact .inr rfl) (hs : swapsWith e (some (.Name x pos')) pos.line X.env = pure false := by rfl) (hf : X.fn x = true ∨ X.env.scope.names.lookup x = some .local := by first | exact .inl rfl | exact .inr rfl | assumption) :
    DS X (.Assign [.Name x pos'] e pos) (sAsgD te (gNameD i)) := (ps_set hN hi hx he hs hf).imp up_asgN
/-- a, b = x, y with plain local names -/
def sPar2 (i j : Nat) (ta : TAD) : TSD := fun D σ S => ta σ S fun ds S1 => match ds with
  | [d, e] => D.nx (st (st σ i d) j e) S1
  | _ => False
theorem ds_par (i j : Nat) {x y : Str} {a b : Expr} {ta : TAD} {px py pt : Pos} {kt k2 pt2} (hN : X.N.Nodup) (ha : DA X [a, b] ta) (hc : X.calm = true := by rfl) (hi : X.N[i]? = some x := by rfl) (hj : X.N[j]? = some y := by rfl) (hij : i ≠ j := by decide)
    (hx : X.env.scope.names.lookup x = some .local := by rfl) (hy : X.env.scope.names.lookup y = some .local := by rfl)
    (hw : swappedStores [.Tuple [.Name x px, .Name y py] kt pt] (.Tuple [a, b] k2 pt2) X.env = pure (some [x, y]) := by rfl)
    (hs : swapsWithSole [.Tuple [.Name x px, .Name y py] kt pt] (.Tuple [a, b] k2 pt2) pos.line X.env = pure false := by rfl) :
    DS X (.Assign [.Tuple [.Name x px, .Name y py] kt pt] (.Tuple [a, b] k2 pt2) pos) (sPar2 i j ta) :=
  (ps_par hc hN hi hj hij hx hy ha hw hs).imp fun D σ H ⟨G, σd, S, Dd, rs, rh, t, p⟩ =>
    ⟨G, σd, S, _, rs, rh, t, fun S1 ds vs H1 f1 rh1 q1 t1 => by
      cases q1 with
      | nil => exact t1.elim
      | cons q1 r =>
        cases r with
        | nil => exact t1.elim
        | cons q2 r =>
          cases r with
          | cons _ _ => exact t1.elim
          | nil => exact ⟨_, _, rfl, p.nx S1 _ _ H1 f1 rh1 (by rw [st_eq, st_eq]; exact ((rs.fl f1).set q1 i).set q2 j) t1⟩⟩
def sPar3 (i j l : Nat) (ta : TAD) : TSD := fun D σ S => ta σ S fun ds S1 => match ds with
  | [d, e, f] => D.nx (st (st (st σ i d) j e) l f) S1
  | _ => False
theorem ds_par3 (i j l : Nat) {x y z : Str} {a b c : Expr} {ta : TAD} {px py pz pt : Pos} {kt k2 pt2} (hN : X.N.Nodup) (ha : DA X [a, b, c] ta) (hc : X.calm = true := by rfl) (hi : X.N[i]? = some x := by rfl) (hj : X.N[j]? = some y := by rfl) (hl : X.N[l]? = some z := by rfl) (hij : i ≠ j := by decide) (hil : i ≠ l := by decide) (hjl : j ≠ l := by decide)
    (hx : X.env.scope.names.lookup x = some .local := by rfl) (hy : X.env.scope.names.lookup y = some .local := by rfl) (hz : X.env.scope.names.lookup z = some .local := by rfl)
    (hw : swappedStores [.Tuple [.Name x px, .Name y py, .Name z pz] kt pt] (.Tuple [a, b, c] k2 pt2) X.env = pure (some [x, y, z]) := by rfl)
    (hs : swapsWithSole [.Tuple [.Name x px, .Name y py, .Name z pz] kt pt] (.Tuple [a, b, c] k2 pt2) pos.line X.env = pure false := by rfl) :
    DS X (.Assign [.Tuple [.Name x px, .Name y py, .Name z pz] kt pt] (.Tuple [a, b, c] k2 pt2) pos) (sPar3 i j l ta) :=
  (ps_par3 hc hN hi hj hl hij hil hjl hx hy hz ha hw hs).imp fun D σ H ⟨G, σd, S, Dd, rs, rh, t, p⟩ =>
    ⟨G, σd, S, _, rs, rh, t, fun S1 ds vs H1 f1 rh1 q1 t1 => by
      cases q1 with
      | nil => exact t1.elim
      | cons q1 r =>
        cases r with
        | nil => exact t1.elim
        | cons q2 r =>
          cases r with
          | nil => exact t1.elim
          | cons q3 r =>
            cases r with
            | cons _ _ => exact t1.elim
            | nil => exact ⟨_, _, _, rfl, p.nx S1 _ _ H1 f1 rh1 (by rw [st_eq, st_eq, st_eq]; exact (((rs.fl f1).set q1 i).set q2 j).set q3 l) t1⟩⟩
end

/-! ### what is walked: a list of deep items, that stay as long as keep holds -/
structure ItOk (K : PySem.W.Frag) (G : Addr → Prop) (S : HD) (H : Hp) (J : It) (xs : List D) (keep : HD → Prop) : Prop where
  go : ∀ (i : Nat) (d : D) (S1 : HD) (H1 : Hp), xs[i]? = some d → FL S H S1 H1 → RH K G S1 H1 → keep S1 → J.go i H1 ∧ ∀ x H2, J.yld i H1 x H2 → FL S1 H1 S1 H2 ∧ RH K G S1 H2 ∧ RD K G S1 H2 d x
  stop : ∀ (S1 : HD) (H1 : Hp), FL S H S1 H1 → RH K G S1 H1 → keep S1 → J.stop xs.length H1
abbrev TID := SD → HD → (List D → (HD → Prop) → HD → Prop) → Prop
def upI (K : PySem.W.Frag) (t : TID) : TI := fun σ H R => ∃ G σd S Rd, RSl K G S H σd σ ∧ RH K G S H ∧ t σd S Rd ∧
  ∀ S' J xs keep H', FL S H S' H' → RH K G S' H' → (∀ G' S2 H2, Mv G S' H' G' S2 H2 → RH K G' S2 H2 → ItOk K G' S2 H2 J xs keep) → Rd xs keep S' → R J H'
abbrev DI (X : Cx) (tg iter : Expr) (t : TID) : Prop := PI X tg iter (upI X.K t)
theorem _root_.L2.PI.imp {X : Cx} {tg e : Expr} {t t' : TI} (h : PI X tg e t) (i : ∀ σ H R, t' σ H R → t σ H R) : PI X tg e t' := ⟨fun pins s σ H R I q => h.run pins s σ H R I (i _ _ _ q)⟩

/-- the loop over the items -/
def loopD (g : TGD) (tb : TSD) (E : EndsD) (keep : HD → Prop) : List D → SD → HD → Prop
  | [], σ, S => keep S ∧ E.nx σ S
  | d :: r, σ, S => keep S ∧ g d σ S fun σ2 S2 => tb { nx := loopD g tb E keep r, ct := loopD g tb E keep r, bk := E.nx, rt := E.rt } σ2 S2
def sForD (ti : TID) (g : TGD) (tb : TSD) : TSD := fun D σ S => ti σ S fun xs keep S1 => loopD g tb D keep xs σ S1
section
variable {X : Cx} {pos : Pos}
theorem ds_for {tg iter : Expr} {body : List Stmt} {ti : TID} {g : TGD} {tb : TSD} (hp : PassesOwn (model X.prog X.w) X.A X.env X.xe) (hi : DI X tg iter ti) (hg : DG X tg g) (hb : DSs X body tb) (hc : X.calm = true := by rfl)
    (hs : ∀ x, foldedSetIterable iter X.env x = pure x := by intro _; rfl) : DS X (.For tg iter body [] pos) (sForD ti g tb) :=
  (ps_for hp hc hi hg hb hs).imp fun D σ H ⟨G, σd, S, Dd, rs, rh, t, p⟩ => by
    refine ⟨G, σd, S, _, rs, rh, t, fun S1 J xs keep H1 f1 rh1 hJ t1 => ?_⟩
    have ok := hJ G S1 H1 (FL.refl _ _).mv rh1
    refine ⟨fun i m σ2 H2 => m = xs.length - i ∧ i ≤ xs.length ∧ ∃ σd2 S2, FL S1 H1 S2 H2 ∧ RSl X.K G S2 H2 σd2 σ2 ∧ RH X.K G S2 H2 ∧ loopD g tb Dd keep (xs.drop i) σd2 S2,
      ⟨xs.length, by simp, Nat.zero_le _, σd, S1, .refl _ _, rs.fl f1, rh1, t1⟩, ?_⟩
    rintro i m σ2 H2 ⟨rfl, hi, σd2, S2, f2, rs2, rh2, t2⟩
    by_cases hlt : i < xs.length
    · have hx : xs[i]? = some xs[i] := by simp [hlt]
      rw [List.drop_eq_getElem_cons hlt] at t2
      obtain ⟨k2, t2⟩ := t2
      obtain ⟨go, yl⟩ := ok.go i _ S2 H2 hx f2 rh2 k2
      refine .inr ⟨go, fun σ' H' => ∃ σd2 S2, FL S1 H1 S2 H' ∧ RSl X.K G S2 H' σd2 σ' ∧ RH X.K G S2 H' ∧ loopD g tb Dd keep (xs.drop (i + 1)) σd2 S2, fun σ' H' n => ⟨_, by omega, rfl, hlt, n⟩, fun x H3 y => ?_⟩
      obtain ⟨f3, rh3, q3⟩ := yl x H3 y
      refine ⟨G, σd2, S2, _, _, rs2.fl f3, rh3, q3, t2, fun S4 σd4 σ4 H4 f4 rh4 rs4 t4 => ?_⟩
      have f14 := f2.trans (f3.trans f4)
      refine ⟨G, σd4, S4, _, rs4, rh4, t4, fun S5 σd5 σ5 H5 f5 rh5 rs5 t5 => ⟨σd5, S5, f14.trans f5, rs5, rh5, t5⟩, p.rt.fl (f1.trans f14), p.nx.fl (f1.trans f14), fun S5 σd5 σ5 H5 f5 rh5 rs5 t5 => ⟨σd5, S5, f14.trans f5, rs5, rh5, t5⟩⟩
    · have e : i = xs.length := by omega
      subst e
      rw [List.drop_length] at t2
      exact .inl ⟨ok.stop S2 H2 f2 rh2 t2.1, p.nx S2 _ _ H2 (f1.trans f2) rh2 rs2 t2.2⟩

/-! ### while: by a number of turns -/
def whileN (c : TTD) (tb : TSD) (D : EndsD) : Nat → SD → HD → Prop
  | 0, _, _ => False
  | n + 1, σ, S => c σ S fun b S1 => if b = true then tb { nx := whileN c tb D n, ct := whileN c tb D n, bk := D.nx, rt := D.rt } σ S1 else D.nx σ S1
def sWhileD (c : TTD) (tb : TSD) : TSD := fun D σ S => ∃ n, whileN c tb D n σ S
theorem ds_while {c : Expr} {body : List Stmt} {tc : TTD} {tb : TSD} (hp : PassesOwn (model X.prog X.w) X.A X.env X.xe) (hc : DT X c tc) (hb : DSs X body tb) : DS X (.While c body [] pos) (sWhileD tc tb) :=
  (ps_while hp hc hb).imp fun D σ H ⟨G, σd, S, Dd, rs, rh, ⟨n, t⟩, p⟩ => by
    refine ⟨fun m σ2 H2 => ∃ σd2 S2, FL S H S2 H2 ∧ RSl X.K G S2 H2 σd2 σ2 ∧ RH X.K G S2 H2 ∧ whileN tc tb Dd m σd2 S2, ⟨n, σd, S, .refl _ _, rs, rh, t⟩, ?_⟩
    rintro m σ2 H2 ⟨σd2, S2, f2, rs2, rh2, t2⟩
    cases m with
    | zero => exact t2.elim
    | succ m =>
      refine ⟨G, σd2, S2, _, rs2, rh2, t2, fun S3 b H3 f3 rh3 t3 => ?_⟩
      have f13 := f2.trans f3
      cases b with
      | true =>
        refine iteT ?_
        exact ⟨fun σ' H' => ∃ σd2 S2, FL S H S2 H' ∧ RSl X.K G S2 H' σd2 σ' ∧ RH X.K G S2 H' ∧ whileN tc tb Dd m σd2 S2, fun σ' H' n => ⟨m, Nat.lt_succ_self _, n⟩,
          G, σd2, S3, _, rs2.fl f3, rh3, t3, fun S5 σd5 σ5 H5 f5 rh5 rs5 t5 => ⟨σd5, S5, f13.trans f5, rs5, rh5, t5⟩, p.rt.fl f13, p.nx.fl f13, fun S5 σd5 σ5 H5 f5 rh5 rs5 t5 => ⟨σd5, S5, f13.trans f5, rs5, rh5, t5⟩⟩
      | false =>
        refine iteF ?_
        exact p.nx S3 _ _ H3 f13 rh3 (rs2.fl f3) t3
end
end PD

/-! PD4: what a def promises over deep values; calls; comprehensions. -/
namespace PD
open PySem PySem.Spec PyProof.Rows L2

structure RoomG (k : Nat) (A : Around) : Prop where
  rm : Room k A
  gd : A.guards = some []
theorem RoomG.mono {j k : Nat} {A : Around} (r : RoomG k A) (h : j ≤ k) : RoomG j A := ⟨r.rm.mono h, r.gd⟩
theorem RoomG.deeper {k : Nat} {A : Around} (r : RoomG (k + 1) A) (env : Env) : RoomG k (A.deeper env) := ⟨r.rm.deeper env, r.gd⟩
theorem RoomG.un1 {k : Nat} {A : Around} (r : RoomG k A) : A.units + 1 < cLine := hu_of r.rm
theorem RoomG.un64 {k : Nat} {A : Around} (r : RoomG k A) : A.units + 64 < cLine := r.rm.units
theorem RoomG.un65 {k : Nat} {A : Around} (r : RoomG k A) : A.units + 65 < cLine := by have := r.rm.un; omega

abbrev SpD := List D → HD → QD → Prop
/-- the end of a call -/
def CED (K : PySem.W.Frag) (G : Addr → Prop) (S : HD) (H : Hp) (Qd : QD) : VK := fun v H' => ∃ S' d, FL S H S' H' ∧ RH K G S' H' ∧ RD K G S' H' d v ∧ Qd d S'
structure FnD (P : Program) (w : World) (K : PySem.W.Frag) (mg : Str → Option Value) (base : Heap) (k : Nat) (f : Addr) (fd : FuncData) (ps : List Str) (sp : SpD) : Prop where
  len : ∀ ds S Q, sp ds S Q → ds.length = ps.length
  run : ∀ (A : Around) (outer : List Env) (s : Shared) (H : Hp) (args : Args) (us : List Value) (vs : List V) (ds : List D) (G : Addr → Prop) (S : HD) (Qd : QD), RoomG k A → Env0 P w K mg base A outer s H →
    BindsTo s fd args (ps.zip us) → Vals vs us → RDs K G S H ds vs → RH K G S H → sp ds S Qd → codeAny (model P w) A (.call (.ref f) args) (CR CX0 outer P w H s (CED K G S H Qd) E0) s
theorem FnD.mono {P : Program} {w : World} {K : PySem.W.Frag} {mg : Str → Option Value} {base : Heap} {j k : Nat} {f : Addr} {fd : FuncData} {ps : List Str} {sp : SpD} (F : FnD P w K mg base j f fd ps sp) (h : j ≤ k) : FnD P w K mg base k f fd ps sp :=
  ⟨F.len, fun A outer s H args us vs ds G S Qd hr => F.run A outer s H args us vs ds G S Qd (hr.mono h)⟩
theorem FnD.imp {P : Program} {w : World} {K : PySem.W.Frag} {mg : Str → Option Value} {base : Heap} {k : Nat} {f : Addr} {fd : FuncData} {ps : List Str} {sp sp' : SpD} (F : FnD P w K mg base k f fd ps sp) (h : ∀ ds S Q, sp' ds S Q → sp ds S Q) : FnD P w K mg base k f fd ps sp' :=
  ⟨fun ds S Q q => F.len ds S Q (h _ _ _ q), fun A outer s H args us vs ds G S Qd hr e b v r rh q => F.run A outer s H args us vs ds G S Qd hr e b v r rh (h _ _ _ q)⟩

/-- a def of the module by its name -/
structure Has (P : Program) (w : World) (K : PySem.W.Frag) (mg : Str → Option Value) (base : Heap) (k : Nat) (x : Str) (ps : List Str) (sp : SpD) : Prop where
  ex : ∃ f fd, mg x = some (.ref f) ∧ PySem.W.keepIn K (.ref f) = true ∧ Binds K fd ps [] ∧ FnD P w K mg base k f fd ps sp
theorem Has.mono {P : Program} {w : World} {K : PySem.W.Frag} {mg : Str → Option Value} {base : Heap} {j k : Nat} {x : Str} {ps : List Str} {sp : SpD} (h : Has P w K mg base j x ps sp) (l : j ≤ k) : Has P w K mg base k x ps sp :=
  let ⟨f, fd, a, b, c, d⟩ := h.ex; ⟨f, fd, a, b, c, d.mono l⟩
theorem Has.imp {P : Program} {w : World} {K : PySem.W.Frag} {mg : Str → Option Value} {base : Heap} {k : Nat} {x : Str} {ps : List Str} {sp sp' : SpD} (h : Has P w K mg base k x ps sp) (i : ∀ ds S Q, sp' ds S Q → sp ds S Q) : Has P w K mg base k x ps sp' :=
  let ⟨f, fd, a, b, c, d⟩ := h.ex; ⟨f, fd, a, b, c, d.imp i⟩

def tCallD (sp : SpD) (ta : TAD) : TED := fun σ S Q => ta σ S fun ds S1 => sp ds S1 Q
section
variable {X : Cx} {k : Nat} {f : Addr} {fd : FuncData} {ps : List Str} {sp : SpD} {x : Str} {p pos : Pos} {e : Expr} {es : List Expr} {ta : TAD}
/-- the callee runs, from a body -/
theorem run_fnD {pins : List (Addr × Obj)} {σ : L2.St} {H : Hp} {s : Shared} {us : List Value} {vs : List V} {ds : List D} {G : Addr → Prop} {S : HD} {Qd : QD} {Q : VK}
    (F : FnD X.prog X.w X.K X.mg X.base k f fd ps sp) (hr : RoomG k X.A) (hb : Binds X.K fd ps []) (I : Inv X pins σ H s) (r : Vals vs us) (q : RDs X.K G S H ds vs) (rh : RH X.K G S H) (h : sp ds S Qd) (p : Post X.K G S H Qd Q) :
    wpAny (model X.prog X.w) X.A (call (.ref f) us) (EP X pins σ Q) X.xe s := by
  have hl : us.length = ps.length := by
    have h1 := F.len _ _ _ h
    have h2 := q.length
    have h3 := r.length
    omega
  have hb' := hb s us I.kIn (by rw [List.append_nil]; exact hl)
  rw [List.append_nil] at hb'
  refine wpAny_call (codeAny_mono (F.run X.A X.stack s H ⟨us, []⟩ us vs ds G S Qd hr I.env0 hb' r q rh h) fun z s' hq => ?_)
  cases z with
  | error e => exact False.elim hq
  | ok fl =>
    cases fl with
    | ret u =>
      have hq' : CE X.stack X.prog X.w H s Q u s' := by
        obtain ⟨v, H', h1, h2, h3, h4, h5, S', d, f', rh', rd', qd⟩ := hq
        exact ⟨v, H', h1, h2, h3, h4, h5, p S' d v H' f' rh' rd' qd⟩
      exact I.after hq'
    | next => exact False.elim hq
    | brk => exact False.elim hq
    | cont => exact False.elim hq
theorem de_call (h : Has X.prog X.w X.K X.mg X.base k x ps sp) (hr : RoomG k X.A) (ha : DA X (e :: es) ta) (hg : Gl X x := by rfl) (hdb : (x == ("__debug__" : Str)) = false := by decide)
    (he : starEach (e :: es) X.env = (false, eval e X.env) :: starEach es X.env := by rfl) (hpl : (backTo pos (starEach es X.env)).any (·.1) = false := by rfl) :
    DE X (.Call (.Name x p) (e :: es) [] pos) (tCallD sp ta) := by
  obtain ⟨f, fd, hm, hk, hb, F⟩ := h.ex
  refine ⟨fun pins s σ H Q I ⟨G, σd, S, Qd, rs, rh, t, p⟩ => ?_⟩
  refine wpAny_Call_Name_kw (ld_glob I hg hm ?_ hdb)
  have hA := ha.run pos pins s σ H (fun vs H1 => ∃ S1 ds, FL S H S1 H1 ∧ RH X.K G S1 H1 ∧ RDs X.K G S1 H1 ds vs ∧ sp ds S1 Qd) I ⟨G, σd, S, _, rs, rh, t, fun S1 ds vs H1 f1 rh1 q1 t1 => ⟨S1, ds, f1, rh1, q1, t1⟩⟩
  refine PySem.W.callWith_K (h₀ := X.base) I.ok.mod.kin hk ?_ he hpl
  refine thn hA fun us s1 hus => ?_
  obtain ⟨vs, H1, I1, r, S1, ds, f1, rh1, q1, t1⟩ := hus
  exact ⟨I1.kIn, run_fnD F hr hb I1 r q1 rh1 t1 (p.fl f1)⟩
theorem de_call0 (h : Has X.prog X.w X.K X.mg X.base k x ps sp) (hr : RoomG k X.A) (hg : Gl X x := by rfl) (hdb : (x == ("__debug__" : Str)) = false := by decide) : DE X (.Call (.Name x p) [] [] pos) (tCallD sp tNilD) := by
  obtain ⟨f, fd, hm, hk, hb, F⟩ := h.ex
  refine ⟨fun pins s σ H Q I ⟨G, σd, S, Qd, rs, rh, t, p⟩ => ?_⟩
  refine wpAny_Call_Name_kw (ld_glob I hg hm ?_ hdb)
  exact PySem.W.callWith_K0 I.kIn hk (run_fnD (us := []) F hr hb I .nil .nil rh t p)
end

/-! ### a def by its body -/
/-- the same value, told otherwise -/
def Cv (d : D) (S : HD) (d' : D) (S' : HD) : Prop := ∀ (K : PySem.W.Frag) (G : Addr → Prop) (H : Hp) (v : V), RH K G S H → RD K G S H d v → RH K G S' H ∧ FL S H S' H ∧ RD K G S' H d' v
theorem Cv.le {d : D} {S S' : HD} (l : HLe S' S) : Cv d S d S' := fun K G H v r q => ⟨r.le l, l.fl, q.mv l.mv⟩
theorem Cv.trans {d d1 d2 : D} {S S1 S2 : HD} (a : Cv d S d1 S1) (b : Cv d1 S1 d2 S2) : Cv d S d2 S2 := fun K G H v r q =>
  let ⟨r1, f1, q1⟩ := a K G H v r q; let ⟨r2, f2, q2⟩ := b K G H v r1 q1; ⟨r2, f1.trans f2, q2⟩
/-- a tracked list is frozen -/
theorem del_le (S : HD) (a : Addr) : HLe (S.del a) S := ⟨fun b u z => by
  unfold HD.del at z
  by_cases hb : b = a
  · simp [hb] at z
  · simpa [hb] using z, Nat.le_refl _, rfl⟩
theorem Cv.frz {a : Addr} {S : HD} {xs : List D} (h : S.hp a = some (.lst xs)) : Cv (.ref a) S (.lst xs) (S.del a) := fun K G H v r q => by
  obtain ⟨h1, h2, vs, h3, h4⟩ := r.hp a _ h
  cases q
  exact ⟨r.le (del_le S a), (del_le S a).fl, .lst (.inl ⟨⟨by simp [HD.del], fun z => h1 ((del_le S a).dkE.mp z), h2⟩, .inl h3⟩) (h4.mv (del_le S a).mv)⟩
/-- the end of a body: what is not wanted any more is forgotten -/
def fin (Q : QD) : QD := fun d S => ∃ S' d', Cv d S d' S' ∧ Q d' S'
theorem fin.le {Q : QD} {d : D} {S S' : HD} (l : HLe S S') (q : Q d S) : fin Q d S' := ⟨S, d, .le l, q⟩
theorem fin.frz {Q : QD} {a : Addr} {S S' : HD} {xs : List D} (h : S'.hp a = some (.lst xs)) (l : HLe S (S'.del a)) (q : Q (.lst xs) S) : fin Q (.ref a) S' := ⟨S, _, (Cv.frz h).trans (.le l), q⟩
def pad : Nat → List D → SD
  | 0, _ => []
  | n + 1, [] => none :: pad n []
  | n + 1, d :: r => some d :: pad n r
theorem pad_len : ∀ (n : Nat) (ds : List D), (pad n ds).length = n
  | 0, _ => rfl
  | n + 1, [] => by simp [pad, pad_len n []]
  | n + 1, d :: r => by simp [pad, pad_len n r]
theorem pad_nil (n : Nat) {i : Nat} {d : D} : (pad n [])[i]? ≠ some (some d) := by
  induction n generalizing i with
  | zero => simp [pad]
  | succ n ih =>
    cases i with
    | zero => simp [pad]
    | succ i => simpa [pad] using ih
theorem pad_slots {K : PySem.W.Frag} {G : Addr → Prop} {S : HD} {H : Hp} : ∀ {n : Nat} {ds : List D} {vs : List V} {i : Nat} {d : D}, RDs K G S H ds vs → (pad n ds)[i]? = some (some d) → ∃ v, vs[i]? = some v ∧ RD K G S H d v
  | 0, _, _, _, _, _, e => by simp [pad] at e
  | n + 1, [], _, i, d, _, e => (pad_nil (n + 1) e).elim
  | n + 1, _ :: _, _, 0, d, .cons q r, e => by
    simp [pad] at e
    subst e
    exact ⟨_, rfl, q⟩
  | n + 1, _ :: _, _, i + 1, d, .cons q r, e => by
    obtain ⟨v, h1, h2⟩ := pad_slots (n := n) (i := i) r (by simpa [pad] using e)
    exact ⟨v, by simpa using h1, h2⟩
section
variable {P : Program} {w : World} {K : PySem.W.Frag} {mg : Str → Option Value} {base : Heap}
/-- the core: the body's reading starts at a state and deep values that tell the same, and ends at what gives the call's end -/
theorem FnD.core {x qual : Str} {st : Stmt} {f : Addr} {fd : FuncData} {N ps : List Str} {k : Nat} {sp : SpD} (F : Fun K x qual st f fd) (Sc : FnScope N ps (defScope st)) (t : TSD) (len : ∀ ds S Q, sp ds S Q → ds.length = ps.length)
    (hd : ∀ (cdv : Value) (A : Around) (outer : List Env) (s : Shared) (H : Hp), RoomG k (A.deeper (envOfC qual (defScope st) s.heap.objs.size f cdv)) →
      DSs (cxOf CX0 P w K mg base N qual (defScope st) f cdv A outer s H E0).nox (defBody st) t)
    (hq : ∀ ds S Qd, sp ds S Qd → ∀ G H vs, RH K G S H → RDs K G S H ds vs → ∃ ds' S0 Dd, RH K G S0 H ∧ RDs K G S0 H ds' vs ∧ t Dd (pad N.length ds') S0 ∧
      (∀ S' d v H', FL S0 H S' H' → RH K G S' H' → RD K G S' H' d v → Dd.rt d S' → CED K G S H Qd v H') ∧ (∀ S' σd H', FL S0 H S' H' → RH K G S' H' → Dd.nx σd S' → CED K G S H Qd .non H') ∧ (∀ σd S', ¬ Dd.bk σd S') ∧ ∀ σd S', ¬ Dd.ct σd S') : FnD P w K mg base (k + 1) f fd ps sp := by
  obtain ⟨oc, od, kV, doc, pm, an, cdv, ct, osl, rfl, lk, hcd⟩ := F.ex
  refine ⟨len, fun A outer s H args us vs ds G S Qd hr e0 hb r rd rh hsp => ?_⟩
  have hl : vs.length = ps.length := rd.length.symm.trans (len _ _ _ hsp)
  have KX : K.In s.heap := e0.mod.kin.keeps fun b o e => (e0.bs b o e).1
  have lim : s.heap.NoLimit := e0.mod.nolimit.keeps fun b o e => (e0.bs b o e).1
  refine codeAny_call_function hr.rm.depth (KX _ _ lk) rfl Sc.co Sc.gen rfl (PySem.W.codeRec_of KX hcd) (hb _ _ _ _ ?_)
  have hkind : ∀ y ∈ ps.zip us, (defScope st).names.lookup y.1 = some .local ∨ ((defScope st).names.lookup y.1 = some .cell ∧ ((cellsFrom (s.heap.objs.size + 1) (defScope st).names []).lookup y.1).isSome = true) := by
    rintro ⟨n, v⟩ hy
    exact (Sc.par n (List.of_mem_zip hy).1).imp id fun q => ⟨q, PySem.W.cellsFrom_some _ _ _ (.inl q)⟩
  refine wpAny_newFunctionEnv_cells Sc.kind hkind fun env he s1 x1 => ?_
  subst he
  refine ⟨lim.keeps x1.toInCall.keep, codeAny_func ?_⟩
  have I := inv_start (CX := CX0) (E := E0) Sc hr.rm.hd e0 hl r x1
  have ht := hd cdv A outer s H (hr.deeper _)
  obtain ⟨ds', S0, Dd, rh0, rd0, hq0, hrt, hnx, hbk, hct⟩ := hq ds S Qd hsp G H vs rh rd
  have start_ok : RSl K G S0 H (pad N.length ds') (L2.start N vs) := by
    refine ⟨?_, fun i d e => ?_⟩
    · rw [pad_len]
      unfold L2.start
      have hpl : ps.length ≤ N.length := by have := congrArg List.length Sc.pre; rw [List.length_take] at this; omega
      simp
      omega
    · obtain ⟨v, h1, h2⟩ := pad_slots rd0 e
      refine ⟨v, ?_, h2⟩
      unfold L2.start
      have hi : i < vs.length := (List.getElem?_eq_some_iff.mp h1).1
      rw [List.getElem?_append_left (by simpa using hi), List.getElem?_map, h1]
      rfl
  refine wpAny_mono (ht.run [] s1 (L2.start N vs) H { nx := fun _ H' => CED K G S H Qd .non H', rt := CED K G S H Qd } (I.wish _) ⟨G, _, S0, Dd, start_ok, rh0, hq0, ?_, ?_, ?_, ?_⟩) (fun fl s' hs => ?_) fun e s' hs => False.elim hs
  · exact fun S' σd σ H' f' rh' rs' q => hnx S' σd H' f' rh' q
  · exact fun S' d v H' f' rh' rd' q => hrt S' d v H' f' rh' rd' q
  · exact fun S' σd σ H' f' rh' rs' q => (hbk _ _ q).elim
  · exact fun S' σd σ H' f' rh' rs' q => (hct _ _ q).elim
  · cases fl with
    | ret u =>
      obtain ⟨v, σ', H', J, rv, q⟩ := hs
      exact ⟨v, H', J.os, J.bare, J.base, J.hok, rv, q⟩
    | next =>
      obtain ⟨σ', H', J, q⟩ := hs
      exact ⟨V.non, H', J.os, J.bare, J.base, J.hok, rfl, q⟩
    | brk => obtain ⟨_, _, _, q⟩ := hs; exact False.elim q
    | cont => obtain ⟨_, _, _, q⟩ := hs; exact False.elim q
theorem FnD.of {x qual : Str} {st : Stmt} {f : Addr} {fd : FuncData} {N ps : List Str} {k : Nat} {sp : SpD} (F : Fun K x qual st f fd) (Sc : FnScope N ps (defScope st)) (t : TSD) (len : ∀ ds S Q, sp ds S Q → ds.length = ps.length)
    (hd : ∀ (cdv : Value) (A : Around) (outer : List Env) (s : Shared) (H : Hp), RoomG k (A.deeper (envOfC qual (defScope st) s.heap.objs.size f cdv)) →
      DSs (cxOf CX0 P w K mg base N qual (defScope st) f cdv A outer s H E0).nox (defBody st) t)
    (hq : ∀ ds S Qd, sp ds S Qd → t { nx := fun _ S' => fin Qd .non S', rt := fin Qd } (pad N.length ds) S) : FnD P w K mg base (k + 1) f fd ps sp := by
  refine FnD.core F Sc t len hd fun ds S Qd hsp G H vs rh rd => ⟨ds, S, { nx := fun _ S' => fin Qd .non S', rt := fin Qd }, rh, rd, hq ds S Qd hsp, ?_, ?_, fun _ _ h => h, fun _ _ h => h⟩
  · exact fun S' d v H' f' rh' rd' ⟨S2, d2, cv, q⟩ => let ⟨r2, f2, q2⟩ := cv K G H' v rh' rd'; ⟨S2, d2, f'.trans f2, r2, q2, q⟩
  · exact fun S' σd H' f' rh' ⟨S2, d2, cv, q⟩ => let ⟨r2, f2, q2⟩ := cv K G H' .non rh' .non; ⟨S2, d2, f'.trans f2, r2, q2, q⟩
/-- by its name -/
theorem Has.of {x : Str} {st : Stmt} {f : Addr} {fd : FuncData} {ps : List Str} {k : Nat} {sp : SpD} (F : Fun K x x st f fd) (hm : mg x = some (.ref f)) (hb : Binds K fd ps []) (h : FnD P w K mg base k f fd ps sp) : Has P w K mg base k x ps sp :=
  ⟨⟨f, fd, hm, F.kp, hb, h⟩⟩
end

/-! ### comprehensions -/
/-- over the items: what is made so far -/
def lcD (g : TGD) (tt : TTD) (te : TED) (σ : SD) (keep : HD → Prop) (Q : List D → HD → Prop) : List D → List D → HD → Prop
  | [], acc, S => keep S ∧ Q acc S
  | d :: r, acc, S => keep S ∧ g d σ S fun σ2 S2 => tt σ2 S2 fun b S3 => if b = true then te σ2 S3 fun y S4 => lcD g tt te σ keep Q r (acc ++ [y]) S4 else lcD g tt te σ keep Q r acc S3
def tYesD : TTD := fun _ S Q => Q true S
abbrev DTs (X : Cx) (ifs : List Expr) (t : TTD) : Prop := PTs X ifs (upT X.K t)
theorem _root_.L2.PTs.imp {X : Cx} {e : List Expr} {t t' : TT} (h : PTs X e t) (i : ∀ σ H Q, t' σ H Q → t σ H Q) : PTs X e t' := ⟨fun pins s σ H Q I q => h.run pins s σ H Q I (i _ _ _ q)⟩
theorem dts_nil {X : Cx} : DTs X [] tYesD := pts_nil.imp fun σ H Q ⟨G, σd, S, Qd, rs, rh, t, p⟩ => p.here rh t
theorem dts_one {X : Cx} {c : Expr} {t : TTD} (h : DT X c t) : DTs X [c] t := pts_one h
def tLcV (ti : TID) (g : TGD) (tt : TTD) (te : TED) (vs : List Nat) : TED := fun σ S Q => ti σ S fun xs keep S1 => xs.length ≤ sizeLine ∧ lcD g tt te (wipeD σ vs) keep (fun acc S2 => Q (.lst acc) S2) xs [] S1
def tLcR (ti : TID) (g : TGD) (tt : TTD) (te : TED) (vs : List Nat) : TED := fun σ S Q => ti σ S fun xs keep S1 => xs.length ≤ sizeLine ∧ lcD g tt te (wipeD σ vs) keep (fun acc S2 => ∀ p, S2.hp p = none → Q (.ref p) (S2.set p (.lst acc))) xs [] S1
/-- targets that store into the block's own slots alone -/
def upGw (K : PySem.W.Frag) (ws : List Nat) (t : TGD) : TG := fun v σ H Q => ∃ G σd S d Qd, RSl K G S H σd σ ∧ RH K G S H ∧ RD K G S H d v ∧ t d σd S Qd ∧ ∀ S' σd' σ' H', FL S H S' H' → RH K G S' H' → RSl K G S' H' σd' σ' → wipe σ' ws = wipe σ ws → Qd σd' S' → Q σ' H'
def upGsw (K : PySem.W.Frag) (ws : List Nat) (t : TGsD) : TGs := fun vs σ H Q => ∃ G σd S ds Qd, RSl K G S H σd σ ∧ RH K G S H ∧ RDs K G S H ds vs ∧ t ds σd S Qd ∧ ∀ S' σd' σ' H', FL S H S' H' → RH K G S' H' → RSl K G S' H' σd' σ' → wipe σ' ws = wipe σ ws → Qd σd' S' → Q σ' H'
abbrev DGw (X : Cx) (ws : List Nat) (tg : Expr) (t : TGD) : Prop := PG X tg (upGw X.K ws t)
abbrev DGsw (X : Cx) (ws : List Nat) (tg : List Expr) (t : TGsD) : Prop := PGs X tg (upGsw X.K ws t)
theorem wipe_set {i : Nat} {v : Option V} : ∀ {ws : List Nat} {σ : L2.St}, i ∈ ws → wipe (σ.set i v) ws = wipe σ ws
  | [], _, h => by cases h
  | w :: ws, σ, h => by
    unfold wipe
    by_cases hw : i ∈ ws
    · rw [wipe_set hw]
    · obtain rfl : i = w := by
        rcases List.mem_cons.mp h with e | e
        · exact e
        · exact absurd e hw
      have : ∀ (us : List Nat) (τ : L2.St), i ∉ us → wipe (τ.set i v) us = (wipe τ us).set i v := by
        intro us
        induction us with
        | nil => intro τ _; rfl
        | cons u us ih =>
          intro τ hu
          unfold wipe
          rw [ih τ (fun z => hu (List.mem_cons_of_mem _ z)), List.set_comm _ _ (fun z => hu (by rw [z]; exact List.mem_cons_self))]
      rw [this ws σ hw, List.set_set]
theorem dgw_name {X : Cx} (i : Nat) {ws : List Nat} {e : Expr} (hw : i ∈ ws) (h : PG X e (gName i)) : DGw X ws e (gNameD i) :=
  h.imp fun v σ H Q ⟨G, σd, S, d, Qd, rs, rh, q, t, p⟩ => p S _ _ H (.refl _ _) rh (by rw [st_eq]; exact rs.set q i) (wipe_set hw) t
theorem dgsw_nil {X : Cx} {ws : List Nat} : DGsw X ws [] gNilD := pgs_nil.imp fun vs σ H Q ⟨G, σd, S, ds, Qd, rs, rh, q, ⟨e, t⟩, p⟩ => by
  subst e
  cases q
  exact ⟨rfl, p S _ _ H (.refl _ _) rh rs rfl t⟩
theorem dgsw_cons {X : Cx} {ws : List Nat} {e : Expr} {es : List Expr} {t : TGD} {u : TGsD} (h1 : DGw X ws e t) (h2 : DGsw X ws es u)
    (hs : (assignEach (e :: es) X.env).map (·.2) = assign e X.env :: (assignEach es X.env).map (·.2) := by rfl) : DGsw X ws (e :: es) (gConsD t u) :=
  (pgs_cons h1 h2 hs).imp fun vs σ H Q ⟨G, σd, S, ds, Qd, rs, rh, q, tt, p⟩ => by
    cases q with
    | nil => exact tt.elim
    | cons q qs =>
      exact ⟨_, _, rfl, G, σd, S, _, _, rs, rh, q, tt, fun S1 σd1 σ1 H1 f1 rh1 rs1 w1 q1 => ⟨G, σd1, S1, _, Qd, rs1, rh1, qs.fl f1, q1, fun S2 σd2 σ2 H2 f2 rh2 rs2 w2 q2 => p S2 σd2 σ2 H2 (f1.trans f2) rh2 rs2 (w2.trans w1) q2⟩⟩
theorem dgw_tup {X : Cx} {ws : List Nat} {es : List Expr} {k : Nat} {t : TGsD} {n : Nat} {pos : Pos} (hc : X.calm = true) (h : DGsw X ws es t)
    (hn : (assignEach es X.env).length = n := by rfl) (hst : (assignEach es X.env).findIdx? (·.1) = none := by rfl) : DGw X ws (.Tuple es k pos) (gTupD n t) :=
  (pg_tup hc h hn hst).imp fun v σ H Q ⟨G, σd, S, d, Qd, rs, rh, q, tt, p⟩ => by
    cases q with
    | @tup a vs ds h r =>
      obtain ⟨l, tt⟩ := tt
      exact ⟨a, vs, rfl, h.sq, r.length ▸ l, G, σd, S, _, _, rs, rh, r, tt, p⟩
    | _ => exact tt.elim

section
variable {K : PySem.W.Frag} {G : Addr → Prop} {S : HD} {H : Hp}
def Res (G : Addr → Prop) (p : Addr) : Addr → Prop := fun b => G b ∨ b = p
/-- a place that is held back may change: nothing names it -/
theorem res_mv {p : Addr} {o : HO} : Mv (Res G p) S H (Res G p) S (upd H p o) := ⟨fun a u e z => ⟨z, by rw [upd_ne (fun q => z.2.2 (.inr q))]; exact e⟩, fun _ e => e⟩
theorem RH.res (r : RH K G S H) {p : Addr} (h : H p = none) (o : HO) : RH K (Res G p) S (upd H p o) where
  hp := fun a u e => by
    obtain ⟨h1, h2, h3⟩ := (r.grow (Grow.upd h (o := o))).hp a u e
    have ne : a ≠ p := fun z => by rw [z, (r.fresh h).1] at e; cases e
    refine ⟨h1, fun z => z.elim h2 ne, ?_⟩
    obtain ⟨_, _, h3'⟩ := r.hp a u e
    exact h3'.mv (m := ⟨fun b w q z => by
      have nb := ne_of_none q h
      exact ⟨⟨z.1, z.2.1, fun g => g.elim z.2.2 nb⟩, by rw [upd_ne nb]; exact q⟩, fun _ q => q⟩) (upd_ne ne)
  rs := fun a g => by
    rcases g with g | g
    · obtain ⟨⟨u, e⟩, d⟩ := r.rs a g
      exact ⟨⟨u, (Grow.upd h).kp a u e⟩, d⟩
    · subst g
      exact ⟨⟨o, upd_same⟩, (r.fresh h).2.1⟩
  dk := (r.grow (Grow.upd h (o := o))).dk
/-- into the block -/
theorem res_in {p : Addr} {o : HO} (h : H p = none) : Mv G S H (Res G p) S (upd H p o) := ⟨fun b w q z => by
  have nb := ne_of_none q h
  exact ⟨⟨z.1, z.2.1, fun g => g.elim z.2.2 nb⟩, by rw [upd_ne nb]; exact q⟩, fun _ q => q⟩
/-- the held place is written -/
theorem RH.resW (r : RH K (Res G p) S H) (o : HO) : RH K (Res G p) S (upd H p o) where
  hp := fun a u e => by
    obtain ⟨h1, h2, h3⟩ := r.hp a u e
    exact ⟨h1, h2, h3.mv res_mv (upd_ne fun z => h2 (.inr z))⟩
  rs := fun a g => by
    obtain ⟨⟨u, e⟩, d⟩ := r.rs a g
    by_cases ha : a = p
    · subst ha; exact ⟨⟨o, upd_same⟩, d⟩
    · exact ⟨⟨u, by rw [upd_ne ha]; exact e⟩, d⟩
  dk := fun a b e => by
    obtain ⟨h1, h2, h3, cs, n, h4, h5, h6⟩ := r.dk a b e
    have hp := (r.rs p (.inr rfl)).2
    have na : a ≠ p := fun z => hp ⟨_, e, .inl z.symm⟩
    have nb : b ≠ p := fun z => hp ⟨_, e, .inr z.symm⟩
    exact ⟨h1, h2, h3, cs, n, by rw [upd_ne na]; exact h4, by rw [upd_ne nb]; exact h5, h6⟩
/-- out of the block: the place is free to be named -/
theorem res_out {p : Addr} : Mv (Res G p) S H G S H := ⟨fun a o e z => ⟨⟨z.1, z.2.1, fun g => z.2.2 (.inl g)⟩, e⟩, fun _ e => e⟩
theorem RH.resOut (r : RH K (Res G p) S H) : RH K G S H where
  hp := fun a u e => by
    obtain ⟨h1, h2, h3⟩ := r.hp a u e
    exact ⟨h1, fun g => h2 (.inl g), h3.mv res_out rfl⟩
  rs := fun a g => r.rs a (.inl g)
  dk := r.dk
theorem RH.resFree (r : RH K (Res G p) S H) : S.hp p = none ∧ ¬ Dk S p := by
  refine ⟨?_, (r.rs p (.inr rfl)).2⟩
  cases e : S.hp p with
  | none => rfl
  | some o => exact ((r.hp p o e).2.1 (.inr rfl)).elim
end

section
variable {X : Cx} {elt tg iter : Expr} {ifs : List Expr} {scope : Scope} {own : List (Str × Nat)} {pos : Pos} {ti : TID} {g : TGD} {tt : TTD} {te : TED}
theorem FL.updp {S S' : HD} {H H' : Hp} {p : Addr} {o : HO} (f : FL S H S' H') (h : H p = none) : FL S H S' (upd H' p o) :=
  ⟨fun a u e n d => let ⟨n', d', e'⟩ := f.kp a u e n d; ⟨n', d', by rw [upd_ne (ne_of_none e h)]; exact e'⟩, f.dk⟩
/-- the loop of a comprehension, by the reading; Qf: what is wanted of the list at p -/
theorem lc_up {K : PySem.W.Frag} {vs : List Nat} {G : Addr → Prop} {S1 : HD} {H1 : Hp} {σd : SD} {σ : L2.St} {J : It} {xs : List D} {keep : HD → Prop} {Qd : List D → HD → Prop} {Q : VK}
    (rs1 : RSl K G S1 H1 σd σ) (rh1 : RH K G S1 H1) (hJ : ∀ G' S2 H2, Mv G S1 H1 G' S2 H2 → RH K G' S2 H2 → ItOk K G' S2 H2 J xs keep) (hz : xs.length ≤ sizeLine)
    (t : lcD g tt te (wipeD σd vs) keep Qd xs [] S1) {p : Addr} (hp : H1 p = none)
    (fin : ∀ S2 H2 accd acc, FL S1 H1 S2 H2 → RH K (Res G p) S2 H2 → H2 p = some (.lst acc) → RDs K (Res G p) S2 H2 accd acc → Qd accd S2 → Q (.ref p) H2) :
    ∃ W : Nat → Nat → Hp → Prop, (∃ m, W 0 m (upd H1 p (.lst []))) ∧ ∀ i m H, W i m H →
      (J.stop i H ∧ Q (.ref p) H) ∨ (J.go i H ∧ ∃ Nx : Hp → Prop, (∀ H', Nx H' → ∃ m', m' < m ∧ W (i + 1) m' H') ∧ ∀ x H', J.yld i H x H' → upGw K vs g x (wipe σ vs) H' fun σ2 H2 => wipe σ2 vs = wipe σ vs ∧ upT K tt σ2 H2 fun b H3 =>
        if b = true then up K te σ2 H3 fun y H4 => ∃ acc, H4 p = some (.lst acc) ∧ acc.length < sizeLine ∧ Nx (upd H4 p (.lst (acc ++ [y]))) else Nx H3) := by
  have wipe2 : ∀ (us : List Nat) (τ : L2.St), wipe (wipe τ us) us = wipe τ us := by
    intro us τ
    have key : ∀ (ws : List Nat) (τ : L2.St), (∀ u ∈ us, u ∈ ws) → wipe (wipe τ us) ws = wipe τ ws := by
      induction us with
      | nil => intro ws τ _; rfl
      | cons u us ih =>
        intro ws τ h
        show wipe ((wipe τ us).set u none) ws = _
        rw [wipe_set (h u List.mem_cons_self)]
        exact ih ws τ fun v hv => h v (List.mem_cons_of_mem _ hv)
    exact key us τ fun _ h => h
  refine ⟨fun i m H => m = xs.length - i ∧ i ≤ xs.length ∧ ∃ S2 accd acc, FL S1 H1 S2 H ∧ RH K (Res G p) S2 H ∧ H p = some (.lst acc) ∧ RDs K (Res G p) S2 H accd acc ∧ RSl K (Res G p) S2 H (wipeD σd vs) (wipe σ vs) ∧ acc.length ≤ i ∧ lcD g tt te (wipeD σd vs) keep Qd (xs.drop i) accd S2,
    ⟨xs.length, by simp, Nat.zero_le _, S1, [], [], (Grow.upd hp).fl, rh1.res hp _, upd_same, .nil, (rs1.wipe vs).mv (res_in hp), Nat.zero_le _, t⟩, ?_⟩
  rintro i m H ⟨rfl, hi, S2, accd, acc, f2, rh2, hacc, racc, rsl2, hlen, t2⟩
  have ok := hJ (Res G p) S2 H ⟨fun a o e z => let ⟨n1, n2, n3⟩ := f2.kp a o e z.1 z.2.1; ⟨⟨n1, n2, fun g => g.elim z.2.2 (ne_of_none e hp)⟩, n3⟩, f2.dk⟩ rh2
  by_cases hlt : i < xs.length
  · have hx : xs[i]? = some xs[i] := by simp [hlt]
    rw [List.drop_eq_getElem_cons hlt] at t2
    obtain ⟨k2, t2⟩ := t2
    obtain ⟨go, yl⟩ := ok.go i _ S2 H hx (.refl _ _) rh2 k2
    refine .inr ⟨go, fun H' => ∃ S2 accd acc, FL S1 H1 S2 H' ∧ RH K (Res G p) S2 H' ∧ H' p = some (.lst acc) ∧ RDs K (Res G p) S2 H' accd acc ∧ RSl K (Res G p) S2 H' (wipeD σd vs) (wipe σ vs) ∧ acc.length ≤ i + 1 ∧ lcD g tt te (wipeD σd vs) keep Qd (xs.drop (i + 1)) accd S2, fun H' n => ⟨_, by omega, rfl, hlt, n⟩, fun x H3 y => ?_⟩
    obtain ⟨f3, rh3, q3⟩ := yl x H3 y
    have pk : ∀ {S5 : HD} {H5 : Hp}, FL S2 H S5 H5 → H5 p = some (.lst acc) := fun {S5 H5} f => (f.kp p _ hacc (RH.resFree rh2).1 (RH.resFree rh2).2).2.2
    refine ⟨Res G p, _, S2, _, _, rsl2.fl f3, rh3, q3, t2, fun S4 σd4 σ4 H4 f4 rh4 rs4 w4 t4 => ⟨?_, ?_⟩⟩
    · rw [wipe2] at w4; exact w4
    refine ⟨Res G p, σd4, S4, _, rs4, rh4, t4, fun S5 b H5 f5 rh5 t5 => ?_⟩
    have f25 := f3.trans (f4.trans f5)
    have f15 := f2.trans f25
    cases b with
    | false =>
      refine iteF ?_
      rw [if_neg Bool.false_ne_true] at t5
      exact ⟨S5, accd, acc, f15, rh5, pk f25, racc.fl f25, rsl2.fl f25, Nat.le_succ_of_le hlen, t5⟩
    | true =>
      refine iteT ?_
      rw [if_pos rfl] at t5
      refine ⟨Res G p, σd4, S5, _, rs4.fl f5, rh5, t5, fun S6 d v H6 f6 rh6 q6 t6 => ?_⟩
      have f26 := f25.trans f6
      refine ⟨acc, pk f26, by omega, S6, accd ++ [d], acc ++ [v], (f2.trans f26).updp hp, rh6.resW _, upd_same, ((racc.fl f26).append (.cons q6 .nil)).mv res_mv, (rsl2.fl f26).mv res_mv, by simp; omega, t6⟩
  · have e : i = xs.length := by omega
    subst e
    rw [List.drop_length] at t2
    exact .inl ⟨ok.stop S2 H (.refl _ _) rh2 t2.1, fin S2 H accd acc f2 rh2 hacc racc t2.2⟩
theorem de_lcV (hN : X.N.Nodup) (hi : DI X tg iter ti) (ok : BlkOk X.N X.env.scope scope own)
    (hg : ∀ (s : Shared) (H : Hp) (C : Addr) (cl : List (Str × Addr)) (fp : List Addr), DGw (X.blk s H scope (compEnvC scope cl C X.env) fp) (own.map (·.2)) tg g) (ht : ∀ (s : Shared) (H : Hp) (C : Addr) (cl : List (Str × Addr)) (fp : List Addr), DTs (X.blk s H scope (compEnvC scope cl C X.env) fp) ifs tt)
    (he : ∀ (s : Shared) (H : Hp) (C : Addr) (cl : List (Str × Addr)) (fp : List Addr), DE (X.blk s H scope (compEnvC scope cl C X.env) fp) elt te) (hc : X.calm = true := by rfl) (hs : ∀ x, foldedSetIterable iter X.env x = pure x := by intro _; rfl) :
    DE X (.ListComp elt [⟨tg, iter, ifs, 0⟩] scope pos) (tLcV ti g tt te (own.map (·.2))) :=
  (pe_lc hc hN hi ok hg ht he hs).imp fun σ H Q ⟨G, σd, S, Qd, rs, rh, t, p⟩ =>
    ⟨G, σd, S, _, rs, rh, t, fun S1 J xs keep H1 f1 rh1 hJ ⟨hz, t1⟩ q hq => lc_up (rs.fl f1) rh1 hJ hz t1 hq fun S2 H2 accd acc f2 rh2 hacc racc qd =>
      p S2 _ _ H2 (f1.trans f2) rh2.resOut (.lst (.inl ⟨⟨(RH.resFree rh2).1, (RH.resFree rh2).2, fun g => by
        obtain ⟨⟨o, e⟩, _⟩ := rh1.rs q g
        rw [hq] at e; cases e⟩, .inl hacc⟩) (racc.mv res_out)) qd⟩
theorem up_lcR {K : PySem.W.Frag} {vs : List Nat} {Q : VK} {Qd : QD} {G : Addr → Prop} {S : HD} {H : Hp} (rh : RH K G S H) (p : Post K G S H Qd Q) {S1 : HD} {H1 : Hp} (f1 : FL S H S1 H1) (rh1 : RH K G S1 H1) {q : Addr} (hq : H1 q = none)
    {S2 : HD} {H2 : Hp} {accd : List D} {acc : List V} (f2 : FL S1 H1 S2 H2) (rh2 : RH K (Res G q) S2 H2) (hacc : H2 q = some (.lst acc)) (racc : RDs K (Res G q) S2 H2 accd acc) (qd : ∀ p, S2.hp p = none → Qd (.ref p) (S2.set p (.lst accd))) : Q (.ref q) H2 := by
  have n2 := (RH.resFree rh2).1
  have d2 := (RH.resFree rh2).2
  have mv : Mv (Res G q) S2 H2 G (S2.set q (.lst accd)) H2 := ⟨fun a o e z => by
    have ne : a ≠ q := fun w => z.2.2 (.inr w)
    exact ⟨⟨by rw [HD.set_ne ne]; exact z.1, z.2.1, fun g => z.2.2 (.inl g)⟩, e⟩, fun _ e => e⟩
  have ngq : ¬ G q := fun g => by
    obtain ⟨⟨o, e⟩, _⟩ := rh1.rs q g
    rw [hq] at e; cases e
  have rh3 : RH K G (S2.set q (.lst accd)) H2 := by
    refine ⟨fun a u e => ?_, fun a g => rh2.rs a (.inl g), fun a b e => ?_⟩
    · by_cases ha : a = q
      · subst ha
        rw [HD.set_same] at e; cases e
        exact ⟨d2, ngq, acc, hacc, racc.mv mv⟩
      · rw [HD.set_ne ha] at e
        obtain ⟨h1, h2, h3⟩ := rh2.hp a u e
        exact ⟨h1, fun g => h2 (.inl g), h3.mv mv rfl⟩
    · obtain ⟨h1, h2, h3, h4⟩ := rh2.dk a b e
      have na : a ≠ q := fun z => d2 ⟨_, e, .inl z.symm⟩
      have nb : b ≠ q := fun z => d2 ⟨_, e, .inr z.symm⟩
      exact ⟨h1, by rw [HD.set_ne na]; exact h2, by rw [HD.set_ne nb]; exact h3, h4⟩
  have f3 : FL S1 H1 (S2.set q (.lst accd)) H2 := ⟨fun a o e n d => by
    obtain ⟨n', d', e'⟩ := f2.kp a o e n d
    exact ⟨by rw [HD.set_ne (ne_of_none e hq)]; exact n', d', e'⟩, f2.dk⟩
  exact p _ _ _ H2 (f1.trans f3) rh3 (.ref q) (qd q n2)
theorem de_lcR (hN : X.N.Nodup) (hi : DI X tg iter ti) (ok : BlkOk X.N X.env.scope scope own)
    (hg : ∀ (s : Shared) (H : Hp) (C : Addr) (cl : List (Str × Addr)) (fp : List Addr), DGw (X.blk s H scope (compEnvC scope cl C X.env) fp) (own.map (·.2)) tg g) (ht : ∀ (s : Shared) (H : Hp) (C : Addr) (cl : List (Str × Addr)) (fp : List Addr), DTs (X.blk s H scope (compEnvC scope cl C X.env) fp) ifs tt)
    (he : ∀ (s : Shared) (H : Hp) (C : Addr) (cl : List (Str × Addr)) (fp : List Addr), DE (X.blk s H scope (compEnvC scope cl C X.env) fp) elt te) (hc : X.calm = true := by rfl) (hs : ∀ x, foldedSetIterable iter X.env x = pure x := by intro _; rfl) :
    DE X (.ListComp elt [⟨tg, iter, ifs, 0⟩] scope pos) (tLcR ti g tt te (own.map (·.2))) :=
  (pe_lc hc hN hi ok hg ht he hs).imp fun σ H Q ⟨G, σd, S, Qd, rs, rh, t, p⟩ =>
    ⟨G, σd, S, _, rs, rh, t, fun S1 J xs keep H1 f1 rh1 hJ ⟨hz, t1⟩ q hq => lc_up (rs.fl f1) rh1 hJ hz t1 hq fun S2 H2 accd acc f2 rh2 hacc racc qd => up_lcR rh p f1 rh1 hq f2 rh2 hacc racc qd (vs := [])⟩
/-- name = [..] -/
theorem ds_setLcV (i : Nat) {y : Str} {py spos : Pos} (hN : X.N.Nodup) (hi : DI X tg iter ti) (ok : BlkOk X.N X.env.scope scope own)
    (hg : ∀ (s : Shared) (H : Hp) (C : Addr) (cl : List (Str × Addr)) (fp : List Addr), DGw (X.blk s H scope (compEnvC scope cl C X.env) fp) (own.map (·.2)) tg g) (ht : ∀ (s : Shared) (H : Hp) (C : Addr) (cl : List (Str × Addr)) (fp : List Addr), DTs (X.blk s H scope (compEnvC scope cl C X.env) fp) ifs tt)
    (he : ∀ (s : Shared) (H : Hp) (C : Addr) (cl : List (Str × Addr)) (fp : List Addr), DE (X.blk s H scope (compEnvC scope cl C X.env) fp) elt te) (hy : X.N[i]? = some y := by rfl) (hyl : X.env.scope.names.lookup y = some .local := by rfl)
    (hsw : swapsWith (.ListComp elt [⟨tg, iter, ifs, 0⟩] scope pos) (some (.Name y py)) spos.line X.env = pure true := by exact sw_true rfl rfl rfl (by decide +kernel)) (hc : X.calm = true := by rfl) (hs : ∀ x, foldedSetIterable iter X.env x = pure x := by intro _; rfl) :
    DS X (.Assign [.Name y py] (.ListComp elt [⟨tg, iter, ifs, 0⟩] scope pos) spos) (sAsgD (tLcV ti g tt te (own.map (·.2))) (gNameD i)) :=
  (ps_setLc hc hN hy hyl hsw hi ok hg ht he hs).imp fun E σ H ⟨G, σd, S, Dd, rs, rh, t, p⟩ =>
    ⟨G, σd, S, _, rs, rh, t, fun S1 J xs keep H1 f1 rh1 hJ ⟨hz, t1⟩ q hq => lc_up (Q := fun x H2 => gName i x σ H2 E.nx) (rs.fl f1) rh1 hJ hz t1 hq fun S2 H2 accd acc f2 rh2 hacc racc qd =>
      p.nx S2 _ _ H2 (f1.trans f2) rh2.resOut ((rs.fl (f1.trans f2)).set (d := .lst accd) (.lst (.inl ⟨⟨(RH.resFree rh2).1, (RH.resFree rh2).2, fun g => by
        obtain ⟨⟨o, e⟩, _⟩ := rh1.rs q g
        rw [hq] at e; cases e⟩, .inl hacc⟩) (racc.mv res_out)) i) (st_eq σd i _ ▸ qd)⟩
theorem ds_setLcR (i : Nat) {y : Str} {py spos : Pos} (hN : X.N.Nodup) (hi : DI X tg iter ti) (ok : BlkOk X.N X.env.scope scope own)
    (hg : ∀ (s : Shared) (H : Hp) (C : Addr) (cl : List (Str × Addr)) (fp : List Addr), DGw (X.blk s H scope (compEnvC scope cl C X.env) fp) (own.map (·.2)) tg g) (ht : ∀ (s : Shared) (H : Hp) (C : Addr) (cl : List (Str × Addr)) (fp : List Addr), DTs (X.blk s H scope (compEnvC scope cl C X.env) fp) ifs tt)
    (he : ∀ (s : Shared) (H : Hp) (C : Addr) (cl : List (Str × Addr)) (fp : List Addr), DE (X.blk s H scope (compEnvC scope cl C X.env) fp) elt te) (hy : X.N[i]? = some y := by rfl) (hyl : X.env.scope.names.lookup y = some .local := by rfl)
    (hsw : swapsWith (.ListComp elt [⟨tg, iter, ifs, 0⟩] scope pos) (some (.Name y py)) spos.line X.env = pure true := by exact sw_true rfl rfl rfl (by decide +kernel)) (hc : X.calm = true := by rfl) (hs : ∀ x, foldedSetIterable iter X.env x = pure x := by intro _; rfl) :
    DS X (.Assign [.Name y py] (.ListComp elt [⟨tg, iter, ifs, 0⟩] scope pos) spos) (sAsgD (tLcR ti g tt te (own.map (·.2))) (gNameD i)) :=
  (ps_setLc hc hN hy hyl hsw hi ok hg ht he hs).imp fun E σ H ⟨G, σd, S, Dd, rs, rh, t, p⟩ =>
    ⟨G, σd, S, _, rs, rh, t, fun S1 J xs keep H1 f1 rh1 hJ ⟨hz, t1⟩ q hq => lc_up (Q := fun x H2 => gName i x σ H2 E.nx) (rs.fl f1) rh1 hJ hz t1 hq fun S2 H2 accd acc f2 rh2 hacc racc qd =>
      up_lcR (Qd := fun d S2 => gNameD i d σd S2 Dd.nx) (Q := fun x H2 => gName i x σ H2 E.nx) (vs := []) rh (fun S3 d v H3 f3 rh3 q3 t3 => p.nx S3 _ _ H3 f3 rh3 ((rs.fl f3).set q3 i) (st_eq σd i d ▸ t3)) f1 rh1 hq f2 rh2 hacc racc qd⟩
end
end PD

/-! PD5: operators, items, slices, built-in calls over deep values; what a loop walks. -/
namespace PD
open PySem PySem.Spec PyProof.Rows L2

/-! ### sizes that every heap keeps -/
def Szs (K : PySem.W.Frag) (H : Hp) : Prop := (∀ a xs, SqL K H a xs → xs.length ≤ sizeLine) ∧ ∀ a xs, SqT K H a xs → xs.length ≤ sizeLine
theorem szs_of {X : Cx} {pins : List (Addr × Obj)} {σ : L2.St} {H : Hp} {s : Shared} (I : Inv X pins σ H s) : Szs X.K H :=
  ⟨fun a xs h => (I.list h).choose_spec.2.2, fun a xs h => (I.tuple h).choose_spec.2.2⟩
theorem _root_.L2.PE.szs {X : Cx} {e : Expr} {t : TE} (h : PE X e t) : PE X e (fun σ H Q => t σ H fun v H1 => Szs X.K H1 → Q v H1) :=
  ⟨fun pins s σ H Q I q => thn (h.run pins s σ H _ I q) fun u s1 ⟨v, H1, I1, r, q1⟩ => ⟨v, H1, I1, r, q1 (szs_of I1)⟩⟩

/-! ### a sequence, by its items -/
def asSeq (S : HD) : D → Option (List D)
  | .tup xs => some xs
  | .lst xs => some xs
  | .ref a => match S.hp a with
    | some (.lst xs) => some xs
    | _ => none
  | _ => none
def asLst (S : HD) : D → Option (List D)
  | .lst xs => some xs
  | .ref a => match S.hp a with
    | some (.lst xs) => some xs
    | _ => none
  | _ => none
section
variable {K : PySem.W.Frag} {G : Addr → Prop} {S : HD} {H : Hp}
theorem asLst_ok (rh : RH K G S H) {d : D} {v : V} {xs : List D} (h : asLst S d = some xs) (q : RD K G S H d v) : ∃ p vs, v = .ref p ∧ SqL K H p vs ∧ RDs K G S H xs vs := by
  cases q with
  | lst h1 r => cases h; exact ⟨_, _, rfl, h1.sq, r⟩
  | ref a =>
    simp only [asLst] at h
    split at h
    · rename_i ys e
      cases h
      obtain ⟨_, _, vs, e1, r⟩ := rh.hp a _ e
      exact ⟨a, vs, rfl, SqL.of e1, r⟩
    · cases h
  | _ => cases h
theorem asSeq_ok (rh : RH K G S H) {d : D} {v : V} {xs : List D} (h : asSeq S d = some xs) (q : RD K G S H d v) : ∃ p vs, v = .ref p ∧ (SqL K H p vs ∨ SqT K H p vs) ∧ RDs K G S H xs vs := by
  cases d with
  | tup ys =>
    cases h
    cases q with
    | tup h1 r => exact ⟨_, _, rfl, .inr h1.sq, r⟩
  | lst ys => obtain ⟨p, vs, e, h1, r⟩ := asLst_ok (xs := xs) rh (show asLst S (.lst ys) = some xs from h) q; exact ⟨p, vs, e, .inl h1, r⟩
  | ref a => obtain ⟨p, vs, e, h1, r⟩ := asLst_ok (xs := xs) rh (show asLst S (.ref a) = some xs from h) q; exact ⟨p, vs, e, .inl h1, r⟩
  | _ => cases h
end

/-! ### + - * // % ** -/
/-- list + list for any two lists that are read -/
def rCatK (K : PySem.W.Frag) : R2 := fun x y H Q => ∃ a b xs ys, x = .ref a ∧ y = .ref b ∧ SqL K H a xs ∧ SqL K H b ys ∧ xs.length + ys.length ≤ sizeLine ∧ ∀ p, H p = none → Q (.ref p) (upd H p (.lst (xs ++ ys)))
theorem op_catK {X : Cx} : OpR X (binaryOp .Add) (rCatK X.K) := by
  intro pins s σ H x y v u Q I rx ry h
  obtain ⟨a, b, xs, ys, rfl, rfl, ha, hb, hz, q⟩ := h
  cases rx
  cases ry
  obtain ⟨its, r1, p1, z1⟩ := I.list ha
  obtain ⟨its2, r2, p2, z2⟩ := I.list hb
  have l1 := r1.length
  have l2 := r2.length
  obtain ⟨⟨c1, dd1, dt1, sl1⟩, n1, e1, hc1, hd1, hdt1⟩ := p1
  obtain ⟨⟨c2, dd2, dt2, sl2⟩, n2, e2, hc2, hd2, hdt2⟩ := p2
  simp only at hc1 hd1 hdt1 hc2 hd2 hdt2
  subst hc1 hd1 hdt1 hc2 hd2 hdt2
  refine concat_meets ⟨_, e1, rfl⟩ ⟨_, e2, rfl⟩ noFill_list_add seq_list_add PySem.F.slot_list_add PySem.F.entry_list_add (PySem.F.args_list_add_2 _ _)
    (list_addW a b its.toArray its2.toArray n1 n2 none none sl1 sl2 (by simp only [List.size_toArray]; omega)) ⟨e1, e2, ?_⟩
  have ea : its.toArray ++ its2.toArray = (its ++ its2).toArray := by simp
  rw [ea]
  exact ⟨.ref _, _, I.lnew (t' := s.toks) (r1.append r2) (by rw [List.length_append]; exact hz), rfl, q _ I.fresh⟩
/-- ints, texts, tuples, lists -/
def rAddV (K : PySem.W.Frag) : R2 := fun x y H Q => (rI0 (fun i j => .int (i + j)) x y H Q) ∨ (∃ i j, x = .str i ∧ y = .str j ∧ i.length + j.length ≤ sizeLine ∧ Q (.str (i ++ j)) H) ∨ rCatA K x y H Q ∨ rCatK K x y H Q
theorem op_addV {X : Cx} : OpR X (binaryOp .Add) (rAddV X.K) := op_add.or (op_add_str.or (op_catA.or op_catK))
theorem op2_lst {K : PySem.W.Frag} {G : Addr → Prop} {S : HD} {H : Hp} {d1 d2 : D} {v1 v2 : V} {Qd : QD} {Q : VK} {xs ys : List D} (rh : RH K G S H) (q1 : RD K G S H d1 v1) (q2 : RD K G S H d2 v2) (p : Post K G S H Qd Q)
    (h1 : asLst S d1 = some xs) (h2 : asLst S d2 = some ys) (t : xs.length + ys.length ≤ sizeLine ∧ Qd (.lst (xs ++ ys)) S) : rAddV K v1 v2 H Q := by
  obtain ⟨a, vs, rfl, l1, r1⟩ := asLst_ok rh h1 q1
  obtain ⟨b, ws, rfl, l2, r2⟩ := asLst_ok rh h2 q2
  exact .inr (.inr (.inr ⟨a, b, vs, ws, rfl, rfl, l1, l2, by rw [← r1.length, ← r2.length]; exact t.1, fun q hq => p.newL rh (r1.append r2) t.2 hq⟩))
def rAddD : R2D := fun x y S Q => match x, y with
  | .int i, .int j => Q (.int (i + j)) S
  | .str a, .str b => a.length + b.length ≤ sizeLine ∧ Q (.str (a ++ b)) S
  | .tup a, .tup b => a.length + b.length ≤ sizeLine ∧ Q (.tup (a ++ b)) S
  | x, y => match asLst S x, asLst S y with
    | some xs, some ys => xs.length + ys.length ≤ sizeLine ∧ Q (.lst (xs ++ ys)) S
    | _, _ => False
theorem add2 {K : PySem.W.Frag} : Op2 K (rAddV K) rAddD := by
  intro G S H d1 d2 v1 v2 Qd Q rh q1 q2 t p
  unfold rAddD at t
  split at t
  · cases q1; cases q2; exact .inl ⟨_, _, rfl, rfl, p.here rh (.int _) t⟩
  · cases q1; cases q2; exact .inr (.inl ⟨_, _, rfl, rfl, t.1, p.here rh (.str _) t.2⟩)
  · rename_i a b
    cases q1 with
    | @tup a1 vs _ h1 r1 =>
      cases q2 with
      | @tup a2 ws _ h2 r2 =>
        refine .inr (.inr (.inl ⟨a1, a2, vs, ws, rfl, rfl, h1.sq, h2.sq, by rw [← r1.length, ← r2.length]; exact t.1, fun e => ?_, fun e1 e2 => ?_, fun e1 e2 q hq => p.newT rh (r1.append r2) t.2 hq⟩))
        · subst e
          cases r1
          exact p.here rh (.tup h2 r2) t.2
        · subst e2
          cases r2
          exact p.here rh (.tup h1 r1) (by simpa using t.2)
  · split at t
    · rename_i xs ys e1 e2
      exact op2_lst rh q1 q2 p e1 e2 t
    · exact t.elim
section
variable {X : Cx} {a b : Expr} {ta tb : TED} {pos : Pos}
theorem de_add (ha : DE X a ta) (hb : DE X b tb) : DE X (.BinOp a .Add b pos) (tBin rAddD ta tb) := de_op op_addV add2 ha hb
def rSubD : R2D := fun x y S Q => match x, y with
  | .int i, .int j => Q (.int (i - j)) S
  | _, _ => False
theorem de_sub (ha : DE X a ta) (hb : DE X b tb) : DE X (.BinOp a .Sub b pos) (tBin rSubD ta tb) := de_op op_sub (fun G S H d1 d2 v1 v2 Qd Q rh q1 q2 t p => by
  unfold rSubD at t
  split at t
  · cases q1; cases q2; exact ⟨_, _, rfl, rfl, p.here rh (.int _) t⟩
  · exact t.elim) ha hb
/-- // by a positive number below 2^30, or any great ones that fit -/
def rFdivD : R2D := fun x y S Q => match x, y with
  | .int i, .int j => (0 < j ∧ j < 1073741824) ∧ Q (.int (i / j)) S
  | _, _ => False
theorem de_fdiv (ha : DE X a ta) (hb : DE X b tb) : DE X (.BinOp a .FloorDiv b pos) (tBin rFdivD ta tb) := de_op op_fdiv (fun G S H d1 d2 v1 v2 Qd Q rh q1 q2 t p => by
  unfold rFdivD at t
  split at t
  · cases q1; cases q2; exact ⟨_, _, rfl, rfl, t.1, p.here rh (.int _) t.2⟩
  · exact t.elim) ha hb
def rModD : R2D := fun x y S Q => match x, y with
  | .int i, .int j => 0 < j ∧ Q (.int (i % j)) S
  | _, _ => False
theorem de_mod (ha : DE X a ta) (hb : DE X b tb) : DE X (.BinOp a .Mod b pos) (tBin rModD ta tb) := de_op op_mod (fun G S H d1 d2 v1 v2 Qd Q rh q1 q2 t p => by
  unfold rModD at t
  split at t
  · cases q1; cases q2; exact ⟨_, _, rfl, rfl, t.1, p.here rh (.int _) t.2⟩
  · exact t.elim) ha hb
def rPowD : R2D := fun x y S Q => match x, y with
  | .int i, .int j => (0 ≤ j ∧ j ≤ 1000000 ∧ i.natAbs < 2 ^ 64) ∧ Q (.int (i ^ j.toNat)) S
  | _, _ => False
theorem de_pow (ha : DE X a ta) (hb : DE X b tb) : DE X (.BinOp a .Pow b pos) (tBin rPowD ta tb) := de_op op_pow (fun G S H d1 d2 v1 v2 Qd Q rh q1 q2 t p => by
  unfold rPowD at t
  split at t
  · cases q1; cases q2; exact ⟨_, _, rfl, rfl, t.1, p.here rh (.int _) t.2⟩
  · exact t.elim) ha hb

/-! ### list * int, tuple * int, text * int -/
def rRepK (K : PySem.W.Frag) : R2 := fun x y H Q => ∃ l k xs, x = .ref l ∧ y = .int k ∧ SqL K H l xs ∧ 0 ≤ k ∧ k < 2 ^ 60 ∧ xs.length * k.toNat ≤ sizeLine ∧ ∀ p, H p = none → Q (.ref p) (upd H p (.lst (List.replicate k.toNat xs).flatten))
theorem op_repK : OpR X (binaryOp .Mult) (rRepK X.K) := by
  intro pins s σ H x y v u Q I rx ry h
  obtain ⟨l, k, xs, rfl, rfl, hl, h1, h2, hz, q⟩ := h
  cases rx
  obtain ⟨t, rfl⟩ := ry
  obtain ⟨its, r, pl, z⟩ := I.list hl
  have hn := r.length
  obtain ⟨⟨c1, dd1, dt1, sl1⟩, n1, e1, hc1, hd1, hdt1⟩ := pl
  simp only at hc1 hd1 hdt1
  subst hc1 hd1 hdt1
  have hz' : its.toArray.size * k.toNat ≤ 2 ^ 24 := by rw [List.size_toArray, ← hn]; exact hz
  refine wpAny_binaryOp_repeat_ref (T := "list") (U := "int") (by decide) ⟨_, e1, rfl⟩ (fun s' => typeIs_int s' k t) noFill_list_mul F.fills_int_mul F.slot_int_rmul repeat_list F.slot_int_index.lookup
    (call_meets F.slot_int_rmul (typeIs_int s k t) F.entry_int_rmul (F.args_int_rmul_2 _ _) (lm_int_rmul_list_any k t l its.toArray n1 none sl1)
      ⟨e1, rfl, ⟨_, e1, rfl⟩, call_meets F.slot_list_mul ⟨_, e1, rfl⟩ F.entry_list_mul (F.args_list_mul_2 _ _)
        (lm_list_mul_any l its.toArray n1 none sl1 k t (by simp [Builtin.List.listFitsIndex]; omega) (by omega) (by simp [Builtin.List.listTooLong, sizeLine]; omega)) ⟨e1, ?_⟩⟩)
  rw [listMul_foldl_if]
  exact ⟨.ref _, _, I.lnew (t' := s.toks) (r.rep k.toNat) (by rw [List.length_flatten]; simpa [Nat.mul_comm] using hz), rfl, q _ I.fresh⟩
end
end PD

/-! PD5b: tuple * int of any count, text * int; the union of *. -/
namespace PD
open PySem PySem.Spec PyProof.Rows L2

theorem tuple_mul_same (l : Addr) (items : Array Value) (n : Nat) (dd : Option Addr) (sl : Array (Option Value)) (x : Int) (u : Tok) (c0 : (decide (x < -(2 ^ 63)) || decide (x ≥ 2 ^ 63)) = false) (c1 : (items.isEmpty || x == 1) = true) :
    Meets (Builtin.«tuple.__mul__» ⟨[.ref l, .int x u], []⟩) (fun _ R s => s.heap.get? l = some { cls := .type "tuple", dict := dd, data := .seq items n, slots := sl } ∧ R (.ok (.ret (Value.ref l))) s) :=
  .of_wp fun prog w A R s h => by
    obtain ⟨hp, g, d, tk, os⟩ := s
    obtain ⟨hl, h⟩ := h
    have f1 := AutoSeq1.idx_int
    wp_walk using wpAny_loadPart' hl
    repeat (first
      | (refine wpAny_ite_false (decide_eq_false (by rw [c0]; exact Bool.false_ne_true)) ?_; wp_walk using wpAny_loadPart' hl)
      | (refine wpAny_ite_true (decide_eq_true c1) ?_; wp_walk using wpAny_loadPart' hl))
    all_goals first | exact ⟨_, rfl, h⟩ | skip
theorem tuple_mul_zero (l : Addr) (items : Array Value) (n : Nat) (dd : Option Addr) (sl : Array (Option Value)) (x : Int) (u : Tok) (c0 : (decide (x < -(2 ^ 63)) || decide (x ≥ 2 ^ 63)) = false) (c1 : (items.isEmpty || x == 1) = false) (c2 : (decide (x ≤ 0) || items.isEmpty) = true) :
    Meets (Builtin.«tuple.__mul__» ⟨[.ref l, .int x u], []⟩) (fun _ R s => s.heap.get? l = some { cls := .type "tuple", dict := dd, data := .seq items n, slots := sl } ∧
      R (.ok (.ret (Value.ref s.heap.objs.size))) { s with heap := s.heap.push { cls := Value.type "tuple", data := Data.seq #[] }, toks := s.toks }) :=
  .of_wp fun prog w A R s h => by
    obtain ⟨hp, g, d, tk, os⟩ := s
    obtain ⟨hl, h⟩ := h
    have f1 := AutoSeq1.idx_int
    wp_walk using wpAny_loadPart' hl
    repeat (first
      | (refine wpAny_ite_false (decide_eq_false (by rw [c0]; exact Bool.false_ne_true)) ?_; wp_walk using wpAny_loadPart' hl)
      | (refine wpAny_ite_false (decide_eq_false (by rw [c1]; exact Bool.false_ne_true)) ?_; wp_walk using wpAny_loadPart' hl)
      | (refine wpAny_ite_true (decide_eq_true c2) ?_; wp_walk using wpAny_loadPart' hl))
    all_goals first | exact ⟨_, rfl, h⟩ | skip

/-- tuple * int, any count to 1000 -/
def rRepA (K : PySem.W.Frag) : R2 := fun x y H Q => ∃ l k xs, x = .ref l ∧ y = .int k ∧ SqT K H l xs ∧ -1000 ≤ k ∧ k ≤ 1000 ∧ xs.length ≤ 1000 ∧
  ((xs = [] ∨ k = 1) → Q (.ref l) H) ∧ (¬ (xs = [] ∨ k = 1) → ∀ p, H p = none → Q (.ref p) (upd H p (.tup (List.replicate k.toNat xs).flatten)))
theorem op_repA {X : Cx} : OpR X (binaryOp .Mult) (rRepA X.K) := by
  intro pins s σ H x y v u Q I rx ry h
  obtain ⟨l, k, xs, rfl, rfl, hT, h1, h2, hz, qs, qn⟩ := h
  by_cases hw : xs = [] ∨ k = 1
  · cases rx
    obtain ⟨t, rfl⟩ := ry
    obtain ⟨its, r, ⟨⟨cls, dd, data, sl⟩, ho, hc, n, hd⟩, hs⟩ := I.tuple hT
    simp only at hc hd
    subst hc hd
    have c0 : (decide (k < -(2 ^ 63)) || decide (k ≥ 2 ^ 63)) = false := by
      rw [decide_eq_false (by omega), decide_eq_false (by omega)] <;> rfl
    have c1 : (its.toArray.isEmpty || k == 1) = true := by
      rcases hw with e | e
      · subst e; cases r; rfl
      · subst e; simp
    exact wpAny_binaryOp_repeat_ref (T := "tuple") (U := "int") (by decide) ⟨_, ho, rfl⟩ (fun s' => typeIs_int s' k t) noFill_tuple_mul F.fills_int_mul F.slot_int_rmul repeat_tuple F.slot_int_index.lookup
      (call_meets F.slot_int_rmul (typeIs_int s k t) F.entry_int_rmul (F.args_int_rmul_2 _ _) (int_rmul_tuple k t l its.toArray n dd sl)
        ⟨ho, rfl, ⟨_, ho, rfl⟩, call_meets F.slot_tuple_mul ⟨_, ho, rfl⟩ F.entry_tuple_mul (F.args_tuple_mul_2 _ _) (tuple_mul_same l its.toArray n dd sl k t c0 c1) ⟨ho, .ref l, H, I, rfl, qs hw⟩⟩)
  · by_cases h0 : k ≤ 0
    · cases rx
      obtain ⟨t, rfl⟩ := ry
      obtain ⟨its, r, ⟨⟨cls, dd, data, sl⟩, ho, hc, n, hd⟩, hs⟩ := I.tuple hT
      simp only at hc hd
      subst hc hd
      have c0 : (decide (k < -(2 ^ 63)) || decide (k ≥ 2 ^ 63)) = false := by
        rw [decide_eq_false (by omega), decide_eq_false (by omega)] <;> rfl
      have c1 : (its.toArray.isEmpty || k == 1) = false := by
        have e2 : (k == 1) = false := beq_eq_false_iff_ne.mpr (by omega)
        rw [e2]
        cases r with
        | nil => exact absurd (.inl rfl) hw
        | cons _ _ => rfl
      have c2 : (decide (k ≤ 0) || its.toArray.isEmpty) = true := by rw [decide_eq_true h0]; rfl
      have hq := qn hw _ (I.hok.fresh (Nat.le_refl _))
      have e0 : k.toNat = 0 := by omega
      rw [e0] at hq
      refine wpAny_binaryOp_repeat_ref (T := "tuple") (U := "int") (by decide) ⟨_, ho, rfl⟩ (fun s' => typeIs_int s' k t) noFill_tuple_mul F.fills_int_mul F.slot_int_rmul repeat_tuple F.slot_int_index.lookup
        (call_meets F.slot_int_rmul (typeIs_int s k t) F.entry_int_rmul (F.args_int_rmul_2 _ _) (int_rmul_tuple k t l its.toArray n dd sl)
          ⟨ho, rfl, ⟨_, ho, rfl⟩, call_meets F.slot_tuple_mul ⟨_, ho, rfl⟩ F.entry_tuple_mul (F.args_tuple_mul_2 _ _) (tuple_mul_zero l its.toArray n dd sl k t c0 c1 c2) ⟨ho, ?_⟩⟩)
      exact ⟨.ref s.heap.objs.size, _, I.laid (t' := s.toks) (o := .tup []) (fun b ob q => Heap.get?_push_of_some _ q) (Nat.le_refl _) ⟨Nat.zero_le _, [], .nil, IsTup.new _ _⟩, rfl, hq⟩
    · exact op_repT pins s σ H _ _ v u Q I rx ry ⟨l, k, xs, rfl, rfl, hT, fun e => hw (.inl e), by omega, h2, hz, qn hw⟩
/-- text * int -/
def strRep (x : Str) (n : Nat) : Str := ⟨(List.replicate n x.cps).foldl (· ++ ·) #[]⟩
theorem strRep_len (x : Str) (n : Nat) : (strRep x n).length = x.length * n := by
  have key : ∀ (m : Nat) (acc : Array Nat), ((List.replicate m x.cps).foldl (· ++ ·) acc).size = acc.size + x.cps.size * m := by
    intro m
    induction m with
    | zero => intro acc; simp
    | succ m ih =>
      intro acc
      rw [List.replicate_succ, List.foldl_cons, ih, Array.size_append, Nat.mul_succ]
      omega
  have := key n #[]
  simp only [List.size_toArray, List.length_nil, Nat.zero_add] at this
  exact this
theorem op_repS {X : Cx} : OpR X (binaryOp .Mult) (fun x y H Q => ∃ z k, x = .str z ∧ y = .int k ∧ 0 ≤ k ∧ k ≤ 1000000 ∧ z.length * k.toNat ≤ sizeLine ∧ Q (.str (strRep z k.toNat)) H) := by
  intro pins s σ H x y v u Q I rx ry h
  obtain ⟨z, k, rfl, rfl, h1, h2, hz, q⟩ := h
  obtain ⟨t, rfl⟩ := rx
  obtain ⟨t', rfl⟩ := ry
  have hsl : sizeLine = 16777216 := rfl
  refine PySem.P.mul_str (by rw [decide_eq_false (by omega), decide_eq_false (by omega)]; rfl) (fun a b => ?_) (fun a b => ?_) ?_
  · have hb := Bool.or_eq_false_iff.mp b
    have hk : 2 ≤ k := by have := beq_eq_false_iff_ne.mp hb.1; omega
    have e1 : (z.length : Int) * k ≤ 16777216 := by
      have : ((z.length * k.toNat : Nat) : Int) ≤ 16777216 := by omega
      have e2 : ((k.toNat : Nat) : Int) = k := Int.toNat_of_nonneg h1
      rw [Int.natCast_mul, e2] at this
      exact this
    have e3 : (z.length : Int) ≤ 16777216 := by
      have : (z.length : Int) * 1 ≤ (z.length : Int) * k := Int.mul_le_mul_of_nonneg_left (by omega) (by omega)
      omega
    have e4 : (16777216 : Int) ≤ (2 ^ 63 - 1) / k := by
      refine Int.le_ediv_of_mul_le (by omega) ?_
      have : (16777216 : Int) * k ≤ 16777216 * 1000000 := Int.mul_le_mul_of_nonneg_left h2 (by decide)
      omega
    omega
  · unfold Builtin.Str.tooLong
    exact decide_eq_false (by omega)
  · by_cases c1 : k < 1
    · rw [if_pos c1]
      have e0 : k.toNat = 0 := by omega
      rw [e0] at q
      exact ⟨by decide, .str Str.empty, H, I.tok _, ⟨_, rfl⟩, q⟩
    · rw [if_neg c1]
      by_cases c2 : (k == 1 || z.length == 0) = true
      · rw [if_pos c2]
        have ez : strRep z k.toNat = z := by
          rcases Bool.or_eq_true_iff.mp c2 with e | e
          · have : k = 1 := beq_iff_eq.mp e
            subst this
            show (⟨#[] ++ z.cps⟩ : Str) = z
            simp
          · have hz0 : z.cps = #[] := by
              have : z.cps.size = 0 := beq_iff_eq.mp e
              exact Array.eq_empty_of_size_eq_zero this
            have : ∀ n, (List.replicate n z.cps).foldl (· ++ ·) #[] = (#[] : Array _) := by
              intro n
              induction n with
              | zero => rfl
              | succ n ih => rw [List.replicate_succ, List.foldl_cons, hz0] at *; simpa using ih
            unfold strRep
            rw [this]
            cases z
            simp at hz0
            subst hz0
            rfl
        rw [ez] at q
        exact ⟨.str z, H, I, ⟨t, rfl⟩, q⟩
      · rw [if_neg c2]
        exact ⟨by have := strRep_len z k.toNat; unfold strRep at this; rw [this]; exact hz, .str _, H, I.tok _, ⟨_, rfl⟩, q⟩
def rMulV (K : PySem.W.Frag) : R2 := fun x y H Q => (rI CMul (fun i j => .int (i * j)) x y H Q) ∨ rRepK K x y H Q ∨ rRepA K x y H Q ∨ (∃ z k, x = .str z ∧ y = .int k ∧ 0 ≤ k ∧ k ≤ 1000000 ∧ z.length * k.toNat ≤ sizeLine ∧ Q (.str (strRep z k.toNat)) H)
theorem op_mulV {X : Cx} : OpR X (binaryOp .Mult) (rMulV X.K) := op_mul.or (op_repK.or (op_repA.or op_repS))
def rMulD : R2D := fun x y S Q => match x, y with
  | .int i, .int j => CMul i j ∧ Q (.int (i * j)) S
  | .str z, .int k => (0 ≤ k ∧ k ≤ 1000000 ∧ z.length * k.toNat ≤ sizeLine) ∧ Q (.str (strRep z k.toNat)) S
  | .tup xs, .int k => (-1000 ≤ k ∧ k ≤ 1000 ∧ xs.length ≤ 1000) ∧ Q (.tup (List.replicate k.toNat xs).flatten) S
  | x, .int k => (match asLst S x with
    | some xs => (0 ≤ k ∧ k < 2 ^ 60 ∧ xs.length * k.toNat ≤ sizeLine) ∧ Q (.lst (List.replicate k.toNat xs).flatten) S
    | none => False)
  | _, _ => False
theorem RDs.flat {K : PySem.W.Frag} {G : Addr → Prop} {S : HD} {H : Hp} {ds : List D} {vs : List V} (r : RDs K G S H ds vs) : ∀ n : Nat, RDs K G S H (List.replicate n ds).flatten (List.replicate n vs).flatten
  | 0 => .nil
  | n + 1 => by rw [List.replicate_succ, List.replicate_succ, List.flatten_cons, List.flatten_cons]; exact r.append (RDs.flat r n)
theorem mul2 {K : PySem.W.Frag} : Op2 K (rMulV K) rMulD := by
  intro G S H d1 d2 v1 v2 Qd Q rh q1 q2 t p
  unfold rMulD at t
  split at t
  · cases q1; cases q2; exact .inl ⟨_, _, rfl, rfl, t.1, p.here rh (.int _) t.2⟩
  · cases q1; cases q2; exact .inr (.inr (.inr ⟨_, _, rfl, rfl, t.1.1, t.1.2.1, t.1.2.2, p.here rh (.str _) t.2⟩))
  · rename_i xs k
    cases q2
    cases q1 with
    | @tup a1 vs _ h1 r1 =>
      refine .inr (.inr (.inl ⟨a1, k, vs, rfl, rfl, h1.sq, t.1.1, t.1.2.1, by rw [← r1.length]; exact t.1.2.2, fun e => ?_, fun e q hq => p.newT rh (r1.flat _) t.2 hq⟩))
      refine p.here rh (.tup h1 r1) ?_
      have e2 : (List.replicate k.toNat xs).flatten = xs := by
        rcases e with e | e
        · subst e
          cases r1
          simp
        · subst e; simp
      rw [e2] at t
      exact t.2
  · cases q2
    split at t
    · rename_i xs e
      obtain ⟨a, vs, rfl, l1, r1⟩ := asLst_ok rh e q1
      exact .inr (.inl ⟨a, _, vs, rfl, rfl, l1, t.1.1, t.1.2.1, by rw [← r1.length]; exact t.1.2.2, fun q hq => p.newL rh (r1.flat _) t.2 hq⟩)
    · exact t.elim
  · exact t.elim
theorem de_mul {X : Cx} {a b : Expr} {ta tb : TED} {pos : Pos} (ha : DE X a ta) (hb : DE X b tb) : DE X (.BinOp a .Mult b pos) (tBin rMulD ta tb) := de_op op_mulV mul2 ha hb
end PD

/-! PD6: deep values as the library's data: repr, ==, !=. -/
namespace PD
open PySem PySem.Spec PyProof.Rows L2

mutual
def py : D → PyData
  | .non => .none
  | .bl b => .bool b
  | .int i => .int i
  | .str x => .str x
  | .tup xs => .tuple (pyL xs)
  | .lst xs => .list (pyL xs)
  | .dic kvs => .dict (pyK kvs)
  | .ref _ => .none
  | .ty _ => .none
  | .deck => .none
def pyL : List D → List PyData
  | [] => []
  | x :: xs => py x :: pyL xs
def pyK : List (D × D) → List (PyData × PyData)
  | [] => []
  | (k, v) :: r => (py k, py v) :: pyK r
end
mutual
/-- may be shown -/
def okR : D → Bool
  | .non => true
  | .bl _ => true
  | .int i => decide (i.natAbs.log2 < 1920)
  | .str x => PyData.strOk x
  | .tup xs => okRL xs
  | .lst xs => okRL xs
  | .dic kvs => okRK kvs
  | .ref _ => false
  | .ty _ => false
  | .deck => false
def okRL : List D → Bool
  | [] => true
  | x :: xs => okR x && okRL xs
def okRK : List (D × D) → Bool
  | [] => true
  | (k, v) :: r => okR k && okR v && okRK r
end
mutual
/-- may be compared -/
def okE : D → Bool
  | .non => true
  | .bl _ => true
  | .int _ => true
  | .str x => PyData.strOk x
  | .tup xs => okEL xs
  | .lst xs => okEL xs
  | .dic _ => false
  | .ref _ => false
  | .ty _ => false
  | .deck => false
def okEL : List D → Bool
  | [] => true
  | x :: xs => okE x && okEL xs
end
mutual
def dep : D → Nat
  | .tup xs => depL xs + 1
  | .lst xs => depL xs + 1
  | .dic kvs => depK kvs + 1
  | .non => 0
  | .bl _ => 0
  | .int _ => 0
  | .str _ => 0
  | .ref _ => 0
  | .ty _ => 0
  | .deck => 0
def depL : List D → Nat
  | [] => 0
  | x :: xs => max (dep x) (depL xs)
def depK : List (D × D) → Nat
  | [] => 0
  | (k, v) :: r => max (max (dep k) (dep v)) (depK r)
end
mutual
/-- no more signs than this -/
def sz : D → Nat
  | .non => 4
  | .bl _ => 5
  | .int i => i.natAbs.log2 + 3
  | .str x => 10 * x.length + 2
  | .tup xs => szL xs + 3
  | .lst xs => szL xs + 3
  | .dic kvs => szK kvs + 3
  | .ref _ => 0
  | .ty _ => 0
  | .deck => 0
def szL : List D → Nat
  | [] => 0
  | x :: xs => sz x + 2 + szL xs
def szK : List (D × D) → Nat
  | [] => 0
  | (k, v) :: r => sz k + sz v + 4 + szK r
end
theorem pyL_map : ∀ xs : List D, pyL xs = xs.map py
  | [] => rfl
  | x :: xs => by simp [pyL, pyL_map xs]
mutual
theorem dep_py : ∀ d : D, (py d).depth = dep d
  | .non => rfl
  | .bl _ => rfl
  | .int _ => rfl
  | .str _ => rfl
  | .ref _ => rfl
  | .ty _ => rfl
  | .deck => rfl
  | .tup xs => by simp only [py, PyData.depth, dep, depL_py xs]
  | .lst xs => by simp only [py, PyData.depth, dep, depL_py xs]
  | .dic kvs => by simp only [py, PyData.depth, dep, depK_py kvs]
theorem depL_py : ∀ xs : List D, PyData.depthAll (pyL xs) = depL xs
  | [] => rfl
  | x :: xs => by simp only [pyL, PyData.depthAll, depL, dep_py x, depL_py xs]
theorem depK_py : ∀ xs : List (D × D), PyData.depthKv (pyK xs) = depK xs
  | [] => rfl
  | (k, v) :: xs => by simp only [pyK, PyData.depthKv, depK, dep_py k, dep_py v, depK_py xs]
end
mutual
theorem show_py : ∀ d : D, okR d = true → (py d).showable = true
  | .non, _ => rfl
  | .bl _, _ => rfl
  | .int _, h => h
  | .str _, _ => rfl
  | .tup xs, h => by simp only [py, PyData.showable]; exact showL_py xs h
  | .lst xs, h => by simp only [py, PyData.showable]; exact showL_py xs h
  | .dic kvs, h => by simp only [py, PyData.showable]; exact showK_py kvs h
theorem showL_py : ∀ xs : List D, okRL xs = true → PyData.showableAll (pyL xs) = true
  | [], _ => rfl
  | x :: xs, h => by
    simp only [okRL, Bool.and_eq_true] at h
    simp only [pyL, PyData.showableAll, show_py x h.1, showL_py xs h.2, Bool.and_self]
theorem showK_py : ∀ xs : List (D × D), okRK xs = true → PyData.showableKv (pyK xs) = true
  | [], _ => rfl
  | (k, v) :: xs, h => by
    simp only [okRK, Bool.and_eq_true] at h
    simp only [pyK, PyData.showableKv, show_py k h.1.1, show_py v h.1.2, showK_py xs h.2, Bool.and_self]
end
theorem log2_pow (n : Nat) : n < 10 ^ (n.log2 + 1) := by
  have h1 : n < 2 ^ (n.log2 + 1) := Nat.lt_log2_self
  have h2 : 2 ^ (n.log2 + 1) ≤ 10 ^ (n.log2 + 1) := Nat.pow_le_pow_left (by decide) _
  omega
theorem len_int (i : Int) : (Str.ofString (toString i)).length ≤ i.natAbs.log2 + 2 := by
  cases i with
  | ofNat n =>
    have h := toString_length_le (v := Int.ofNat n) (Int.natCast_nonneg n) (k := n.log2 + 1) (by omega) (by
      have := log2_pow n
      show ((n : Nat) : Int) < 10 ^ (n.log2 + 1)
      exact_mod_cast this)
    show _ ≤ n.log2 + 2
    omega
  | negSucc n =>
    have h := toString_length_le (v := ((n + 1 : Nat) : Int)) (Int.natCast_nonneg _) (k := (n + 1).log2 + 1) (by omega) (by
      have := log2_pow (n + 1)
      exact_mod_cast this)
    have e2 := len_text_neg (n := Int.negSucc n) (by omega)
    have e3 : (0 : Int) - Int.negSucc n = ((n + 1 : Nat) : Int) := by omega
    rw [e3] at e2
    show _ ≤ (n + 1).log2 + 2
    omega
theorem textFrom_le : ∀ (ts : List Str) (k : Nat) (acc : Str), (textFrom k acc ts).length ≤ acc.length + piled ts := by
  intro ts
  induction ts with
  | nil => intro k acc; simp [textFrom, piled]
  | cons t ts ih =>
    intro k acc
    rw [piled_cons]
    unfold textFrom
    refine Nat.le_trans (ih _ _) ?_
    have e2 : (", " : Str).length = 2 := by decide
    have e0 : ("" : Str).length = 0 := by decide
    split <;> (simp only [Str.length_append]; omega)
mutual
theorem shown_le : ∀ d : D, okR d = true → (py d).shown.length ≤ sz d
  | .non, _ => by simp only [py, PyData.shown, sz]; decide
  | .bl b, _ => by cases b <;> (simp only [py, PyData.shown, sz]; decide)
  | .int i, _ => by simp only [py, PyData.shown, sz]; have := len_int i; omega
  | .str x, h => by
    simp only [py, PyData.shown, sz]
    refine StrLaws.reprText_len x fun c hc => ?_
    have h' : x.cps.all (· < 0x110000) = true := h
    rw [Array.all_eq_true] at h'
    obtain ⟨i, hi, e⟩ := List.mem_iff_getElem.mp hc
    have := h' i (by simpa using hi)
    simp at this
    have e' : x.cps[i]'(by simpa using hi) = c := by simpa using e
    rw [e'] at this
    have : (16 : Nat) ^ 8 = 4294967296 := by decide
    omega
  | .tup xs, h => by
    simp only [py, PyData.shown, sz]
    have hp := piled_le xs h
    unfold tupleText
    simp only [Str.length_append]
    have e1 : ("(" : Str).length = 1 := by decide
    have e2 : (",)" : Str).length = 2 := by decide
    have e3 : (")" : Str).length = 1 := by decide
    by_cases hn : PyData.shownAll (pyL xs) = []
    · rw [hn]
      have : (Str.join ", " []).length = 0 := by decide
      rw [this]
      split <;> omega
    · have := join_length_add _ hn
      split <;> omega
  | .lst xs, h => by
    simp only [py, PyData.shown, sz]
    have hp := piled_le xs h
    unfold listText
    simp only [Str.length_append]
    have h1 := textFrom_le (PyData.shownAll (pyL xs)) 0 "["
    have e1 : ("[" : Str).length = 1 := by decide
    have e2 : ("]" : Str).length = 1 := by decide
    omega
  | .dic kvs, h => by
    simp only [py, PyData.shown, sz]
    have hp := piledK_le kvs h
    unfold dictText
    simp only [Str.length_append]
    have e1 : ("{" : Str).length = 1 := by decide
    have e2 : ("}" : Str).length = 1 := by decide
    by_cases hn : PyData.shownKv (pyK kvs) = []
    · rw [hn]
      have : (Str.join ", " []).length = 0 := by decide
      omega
    · have := join_length_add _ hn
      omega
theorem piled_le : ∀ xs : List D, okRL xs = true → piled (PyData.shownAll (pyL xs)) ≤ szL xs
  | [], _ => by simp [pyL, PyData.shownAll, piled, szL]
  | x :: xs, h => by
    simp only [okRL, Bool.and_eq_true] at h
    have h1 := shown_le x h.1
    have h2 := piled_le xs h.2
    simp only [pyL, PyData.shownAll, piled_cons, szL]
    omega
theorem piledK_le : ∀ xs : List (D × D), okRK xs = true → piled (PyData.shownKv (pyK xs)) ≤ szK xs
  | [], _ => by simp [pyK, PyData.shownKv, piled, szK]
  | (k, v) :: xs, h => by
    simp only [okRK, Bool.and_eq_true] at h
    have h1 := shown_le k h.1.1
    have h2 := shown_le v h.1.2
    have h3 := piledK_le xs h.2
    simp only [pyK, PyData.shownKv, piled_cons, szK, Str.length_append]
    have : (": " : Str).length = 2 := by decide
    omega
end
end PD

/-! PD7: repr, ==, != over deep values. -/
namespace PD
open PySem PySem.Spec PyProof.Rows L2

/-- the module's table of modules stands in the base -/
def SysB (base : Heap) : Prop := ∃ mm, base.Ns sysModules mm
section
variable {X : Cx} {pins : List (Addr × Obj)} {σ : L2.St} {H : Hp} {s : Shared} {G : Addr → Prop} {S : HD}
theorem not_sys (I : Inv X pins σ H s) (hB : SysB X.base) {a : Addr} {its : Array Value} {n : Nat} {o : Obj} (h : s.heap.get? a = some o) (hd : o.data = .seq its n) : a ≠ sysModules := fun e => by
  obtain ⟨mm, ob, es, ep, h1, h2, _⟩ := hB
  have h3 := I.bk _ _ h1
  rw [← e, h] at h3
  cases h3
  rw [hd] at h2; cases h2
mutual
theorem rd_reads (I : Inv X pins σ H s) (hB : SysB X.base) : ∀ (d : D) (v : V) (u : Value), RD X.K G S H d v → RelV v u → okR d = true ∨ okE d = true → ∃ as, Reads s.heap u (py d) as ∧ sysModules ∉ as
  | .non, _, _, q, r, _ => by cases q; cases r; exact ⟨_, .none, by simp⟩
  | .bl b, _, _, q, r, _ => by cases q; cases r; exact ⟨_, .bool b, by simp⟩
  | .int i, _, _, q, r, _ => by
    cases q
    obtain ⟨t, rfl⟩ := r
    exact ⟨_, .int i t, by simp⟩
  | .str x, _, _, q, r, _ => by
    cases q
    obtain ⟨t, rfl⟩ := r
    exact ⟨_, .str x t, by simp⟩
  | .tup xs, _, _, q, r, ok => by
    cases q with
    | tup h rs =>
      cases r
      obtain ⟨its, rv, ⟨o, e1, e2, n, e3⟩, _⟩ := I.tuple h.sq
      obtain ⟨as, q1, q2⟩ := rds_reads I hB xs _ its rs rv (ok.imp (fun z => z) fun z => z)
      exact ⟨_, .tuple e1 e2 e3 (by simpa using q1), q2⟩
  | .lst xs, _, _, q, r, ok => by
    cases q with
    | lst h rs =>
      cases r
      obtain ⟨its, rv, ⟨o, n, e1, e2, _, e3⟩, _⟩ := I.list h.sq
      obtain ⟨as, q1, q2⟩ := rds_reads I hB xs _ its rs rv (ok.imp (fun z => z) fun z => z)
      exact ⟨_, .list e1 e2 e3 (by simpa using q1), fun hm => (List.mem_cons.mp hm).elim (fun z => not_sys I hB e1 e3 z.symm) q2⟩
  | .dic kvs, _, _, q, r, ok => by
    cases q with
    | @dic a kvv _ h rs =>
      cases r
      obtain ⟨_, hs, vs, kv, o, es, ep, e1, e2, e3, _, pr, _⟩ := dk_rd I.hok h.2
      obtain ⟨as, bs, q1, q2, q3, q4⟩ := rdk_reads I hB kvs kvv vs es.toList rs kv pr (by
        rcases ok with z | z
        · exact z
        · cases z)
      refine ⟨_, .dict e1 e2.1 e3 q1 q2, fun hm => ?_⟩
      rcases List.mem_append.mp hm with hm | hm
      · rcases List.mem_cons.mp hm with hm | hm
        · rw [← hm] at hs; simp at hs
        · exact q3 hm
      · exact q4 hm
  | .ref _, _, _, _, _, ok => by rcases ok with z | z <;> cases z
  | .ty _, _, _, _, _, ok => by rcases ok with z | z <;> cases z
  | .deck, _, _, _, _, ok => by rcases ok with z | z <;> cases z
theorem rds_reads (I : Inv X pins σ H s) (hB : SysB X.base) : ∀ (ds : List D) (vs : List V) (us : List Value), RDs X.K G S H ds vs → Vals vs us → okRL ds = true ∨ okEL ds = true → ∃ as, ReadsAll s.heap us (pyL ds) as ∧ sysModules ∉ as
  | [], _, _, q, r, _ => by cases q; cases r; exact ⟨_, .nil, by simp⟩
  | d :: ds, _, _, q, r, ok => by
    cases q with
    | cons q1 q2 =>
      cases r with
      | cons r1 r2 =>
        have ok1 : okR d = true ∨ okE d = true := ok.imp (fun z => by simp only [okRL, Bool.and_eq_true] at z; exact z.1) fun z => by simp only [okEL, Bool.and_eq_true] at z; exact z.1
        have ok2 : okRL ds = true ∨ okEL ds = true := ok.imp (fun z => by simp only [okRL, Bool.and_eq_true] at z; exact z.2) fun z => by simp only [okEL, Bool.and_eq_true] at z; exact z.2
        obtain ⟨as, a1, a2⟩ := rd_reads I hB d _ _ q1 r1 ok1
        obtain ⟨bs, b1, b2⟩ := rds_reads I hB ds _ _ q2 r2 ok2
        exact ⟨_, .cons a1 b1, fun hm => (List.mem_append.mp hm).elim a2 b2⟩
theorem rdk_reads (I : Inv X pins σ H s) (hB : SysB X.base) : ∀ (ds : List (D × D)) (kvv : List (Key × V)) (vs : List (Key × Value)) (es : List DictEntry), RDk X.K G S H ds kvv → KV kvv vs → Pairs (mixKind X.prog X.w) es vs → okRK ds = true →
    ∃ as bs, ReadsAll s.heap (es.map (·.key)) ((pyK ds).map (·.1)) as ∧ ReadsAll s.heap (es.map (·.val)) ((pyK ds).map (·.2)) bs ∧ sysModules ∉ as ∧ sysModules ∉ bs
  | [], _, _, _, q, kv, pr, _ => by
    cases q; cases kv; cases pr
    exact ⟨_, _, .nil, .nil, by simp, by simp⟩
  | (k, d) :: ds, _, _, _, q, kv, pr, ok => by
    cases q with
    | @cons k' _ v _ kvs q1 q2 =>
      cases kv with
      | cons kv1 kv2 =>
        cases pr with
        | cons p1 p2 p3 =>
          simp only [okRK, Bool.and_eq_true] at ok
          obtain ⟨as, bs, a1, a2, a3, a4⟩ := rdk_reads I hB ds _ _ _ q2 kv2 p3 ok.2
          obtain ⟨ek, rv⟩ := kv1
          obtain ⟨cs, c1, c2⟩ := rd_reads I hB d _ _ q1 rv (.inl ok.1.2)
          rename_i pq _ en _
          have kr : ∃ ks, Reads s.heap en.key (py (kD k')) ks ∧ sysModules ∉ ks := by
            rw [← ek] at p1
            have p1' : keyIs k' _ = true := p1
            rcases keyIs_shape p1' with ⟨i, t, e1, e2⟩ | ⟨x, t, e1, e2⟩
            · subst e1; rw [e2]; exact ⟨_, .int i t, by simp⟩
            · subst e1; rw [e2]; exact ⟨_, .str x t, by simp⟩
          obtain ⟨ks, k1, k2⟩ := kr
          refine ⟨_, _, .cons k1 a1, .cons (show Reads s.heap en.val (py d) cs by rw [p2]; exact c1) a2, fun hm => (List.mem_append.mp hm).elim k2 a3, fun hm => (List.mem_append.mp hm).elim c2 a4⟩
end
end
/-- a tracked list at the outside is read -/
def nrm (S : HD) : D → D
  | .ref a => match S.hp a with
    | some (.lst xs) => .lst xs
    | _ => .ref a
  | d => d
section
variable {K : PySem.W.Frag} {G : Addr → Prop} {S : HD} {H : Hp}
/-- what nrm says is so, but for the place's being frozen: over a state where it is not tracked any more -/
theorem nrm_ok (rh : RH K G S H) {d : D} {v : V} (q : RD K G S H d v) : ∃ S', FL S H S' H ∧ RD K G S' H (nrm S d) v := by
  cases q with
  | ref a =>
    simp only [nrm]
    split
    · rename_i xs e
      obtain ⟨h1, h2, vs, h3, h4⟩ := rh.hp a _ e
      have le : HLe (S.del a) S := ⟨fun b u z => by
        unfold HD.del at z
        by_cases hb : b = a
        · simp [hb] at z
        · simpa [hb] using z, Nat.le_refl _, rfl⟩
      exact ⟨S.del a, le.fl, .lst (.inl ⟨⟨by simp [HD.del], fun z => h1 (le.dkE.mp z), h2⟩, .inl h3⟩) (h4.mv le.mv)⟩
    · exact ⟨S, .refl _ _, .ref a⟩
  | non => exact ⟨S, .refl _ _, .non⟩
  | bl b => exact ⟨S, .refl _ _, .bl b⟩
  | int b => exact ⟨S, .refl _ _, .int b⟩
  | str b => exact ⟨S, .refl _ _, .str b⟩
  | ty b => exact ⟨S, .refl _ _, .ty b⟩
  | tup h r => exact ⟨S, .refl _ _, .tup h r⟩
  | lst h r => exact ⟨S, .refl _ _, .lst h r⟩
  | dic h r => exact ⟨S, .refl _ _, .dic h r⟩
  | deck h => exact ⟨S, .refl _ _, .deck h⟩
end

/-- the text of a value -/
def shw (d : D) : Str := (py d).shown
/-- repr(x) -/
def rReprD : SpD := fun ds S Q => match ds with
  | [d] => (okR (nrm S d) = true ∧ dep (nrm S d) ≤ 60 ∧ sz (nrm S d) ≤ 16000000) ∧ Q (.str (shw (nrm S d))) S
  | _ => False
section
variable {X : Cx} {e : Expr} {es : List Expr} {ta : TAD} {p pos : Pos}
/-- a built-in call by values and deep values, at once -/
def CallRD (X : Cx) (f : Value) (rd : SpD) : Prop :=
  ∀ (pins : List (Addr × Obj)) (s : Shared) (σ : L2.St) (H : Hp) (vs : List V) (us : List Value) (ds : List D) (G : Addr → Prop) (S : HD) (Qd : QD) (Q : VK), Inv X pins σ H s → Vals vs us → RDs X.K G S H ds vs → RH X.K G S H → rd ds S Qd → Post X.K G S H Qd Q →
    wpAny (model X.prog X.w) X.A (call f us) (EP X pins σ Q) X.xe s
theorem CallRD.or {f : Value} {r r' : SpD} (h : CallRD X f r) (h' : CallRD X f r') : CallRD X f (fun ds S Q => r ds S Q ∨ r' ds S Q) := fun pins s σ H vs us ds G S Qd Q I rv rd rh t p =>
  t.elim (fun t => h pins s σ H vs us ds G S Qd Q I rv rd rh t p) fun t => h' pins s σ H vs us ds G S Qd Q I rv rd rh t p
theorem CallRD.imp {f : Value} {r r' : SpD} (h : CallRD X f r) (i : ∀ ds S Q, r' ds S Q → r ds S Q) : CallRD X f r' := fun pins s σ H vs us ds G S Qd Q I rv rd rh t p => h pins s σ H vs us ds G S Qd Q I rv rd rh (i _ _ _ t) p
theorem CallRD.of {f : Value} {r : List V → Hp → VK → Prop} {rd : SpD} (h : CallR X f r) (i : ∀ G S H ds vs Qd Q, RH X.K G S H → RDs X.K G S H ds vs → rd ds S Qd → Post X.K G S H Qd Q → r vs H Q) : CallRD X f rd :=
  fun pins s σ H vs us ds G S Qd Q I rv rd' rh t p => h pins s σ H vs us Q I rv (i G S H ds vs Qd Q rh rd' t p)
theorem call_reprD (k : Nat) (hr : RoomG k X.A) (hB : SysB X.base) : CallRD X (.builtin "repr") rReprD := by
  intro pins s σ H vs us ds G S Qd Q I rv rd rh t p
  unfold rReprD at t
  split at t
  · rename_i d
    obtain ⟨⟨o1, o2, o3⟩, t⟩ := t
    cases rd with
    | cons q1 r1 =>
      cases r1
      obtain ⟨u, rfl, ru⟩ := vals1 rv
      obtain ⟨S', f', q2⟩ := nrm_ok rh q1
      obtain ⟨as, rr, ns⟩ := rd_reads I hB _ _ _ q2 ru (.inl o1)
      have hs := show_py _ o1
      have hz : (py (nrm S d)).shown.length ≤ sizeLine := Nat.le_trans (shown_le _ o1) (Nat.le_trans o3 (by decide))
      have hu : X.A.units + ((py (nrm S d)).depth + 1) < cLine := by have := hr.un64; rw [dep_py]; omega
      have fin : ∀ (h' : Heap) (u' : Tok) (tk : Nat), (∀ b o, s.heap.get? b = some o → h'.get? b = some o) → EP X pins σ Q (.str (py (nrm S d)).shown u') { s with heap := h', toks := tk } := fun h' u' tk hk =>
        ⟨.str _, H, I.kept hk, ⟨u', rfl⟩, p.here rh (.str _) t⟩
      have big : ∀ a, u = .ref a → wpAny (model X.prog X.w) X.A (call (.builtin "repr") [u]) (EP X pins σ Q) X.xe s := fun a e => by
        subst e
        exact repr_of_reads' rr hs (fun _ => ns) hr.gd hu (fun _ _ e => e) fin hz
      generalize nrm S d = nd at *
      cases q2 with
      | non => cases ru; exact PySem.P.repr_of_none (fin s.heap _ _ fun _ _ e => e)
      | bl b => cases ru; exact PySem.P.repr_of_bool (fin s.heap _ _ fun _ _ e => e)
      | int i => obtain ⟨tt, rfl⟩ := ru; exact PySem.P.repr_of_int (of_decide_eq_true o1) (fin s.heap _ _ fun _ _ e => e)
      | str x => obtain ⟨tt, rfl⟩ := ru; exact PySem.P.repr_of_str (fin s.heap _ _ fun _ _ e => e) hz
      | tup h r => cases ru; exact big _ rfl
      | lst h r => cases ru; exact big _ rfl
      | dic h r => cases ru; exact big _ rfl
      | ref a => cases o1
      | ty a => cases o1
      | deck h => cases o1
  · exact t.elim
end
end PD

/-! PD8: comparisons, built-in calls, items, slices, what is walked. -/
namespace PD
open PySem PySem.Spec PyProof.Rows L2

/-- two operands by values and deep values at once -/
def OpRD (X : Cx) (f : Value → Value → Sem Value) (rd : R2D) : Prop :=
  ∀ (pins : List (Addr × Obj)) (s : Shared) (σ : L2.St) (H : Hp) (x y : V) (v u : Value) (d e : D) (G : Addr → Prop) (S : HD) (Qd : QD) (Q : VK), Inv X pins σ H s → RelV x v → RelV y u → RD X.K G S H d x → RD X.K G S H e y → RH X.K G S H →
    rd d e S Qd → Post X.K G S H Qd Q → wpAny (model X.prog X.w) X.A (f v u) (EP X pins σ Q) X.xe s
def liftR (K : PySem.W.Frag) (rd : R2D) : R2 := fun x y H Q => ∃ G S d e Qd, RH K G S H ∧ RD K G S H d x ∧ RD K G S H e y ∧ rd d e S Qd ∧ Post K G S H Qd Q
theorem OpRD.toR {X : Cx} {f : Value → Value → Sem Value} {rd : R2D} (h : OpRD X f rd) : OpR X f (liftR X.K rd) :=
  fun pins s σ H x y v u Q I rx ry ⟨G, S, d, e, Qd, rh, q1, q2, t, p⟩ => h pins s σ H x y v u d e G S Qd Q I rx ry q1 q2 rh t p
theorem lift2 {K : PySem.W.Frag} {rd : R2D} : Op2 K (liftR K rd) rd := fun G S H d1 d2 v1 v2 Qd Q rh q1 q2 t p => ⟨G, S, d1, d2, Qd, rh, q1, q2, t, p⟩
theorem OpRD.of {X : Cx} {f : Value → Value → Sem Value} {r : R2} {rd : R2D} (h : OpR X f r) (i : Op2 X.K r rd) : OpRD X f rd :=
  fun pins s σ H x y v u d e G S Qd Q I rx ry q1 q2 rh t p => h pins s σ H x y v u Q I rx ry (i G S H d e x y Qd Q rh q1 q2 t p)
def liftC (K : PySem.W.Frag) (rd : SpD) : List V → Hp → VK → Prop := fun vs H Q => ∃ G S ds Qd, RH K G S H ∧ RDs K G S H ds vs ∧ rd ds S Qd ∧ Post K G S H Qd Q
theorem CallRD.toR {X : Cx} {f : Value} {rd : SpD} (h : CallRD X f rd) : CallR X f (liftC X.K rd) :=
  fun pins s σ H vs us Q I rv ⟨G, S, ds, Qd, rh, q, t, p⟩ => h pins s σ H vs us ds G S Qd Q I rv q rh t p
section
variable {X : Cx} {e a b : Expr} {es : List Expr} {ta tb : TED} {tA : TAD} {x : Str} {p pos : Pos} {rd : SpD}
theorem up_callB {K : PySem.W.Frag} : ∀ σ H Q, up K (tCallD rd tA) σ H Q → tCB (liftC K rd) (upA K tA) σ H Q := fun σ H Q ⟨G, σd, S, Qd, rs, rh, t, p⟩ =>
  ⟨G, σd, S, _, rs, rh, t, fun S1 ds vs H1 f1 rh1 q1 t1 => ⟨G, S1, ds, Qd, rh1, q1, t1, p.fl f1⟩⟩
theorem de_callB {id : String} (hc : CallRD X (.builtin id) rd) (hm : X.mg x = none) (hv : bootBuiltins x = some (.builtin id)) (ha : DA X (e :: es) tA) (hg : Gl X x := by rfl) (hn : x ≠ "__name__" := by decide) (hdb : (x == ("__debug__" : Str)) = false := by decide)
    (he : starEach (e :: es) X.env = (false, eval e X.env) :: starEach es X.env := by rfl) (hpl : (backTo pos (starEach es X.env)).any (·.1) = false := by rfl) : DE X (.Call (.Name x p) (e :: es) [] pos) (tCallD rd tA) :=
  (pe_callB hc.toR hg hm hv ha hn hdb he hpl).imp up_callB
theorem de_callTy {T : String} (hc : CallRD X (.type T) rd) (hm : X.mg x = none) (hv : bootBuiltins x = some (.type T)) (ha : DA X (e :: es) tA) (hg : Gl X x := by rfl) (hn : x ≠ "__name__" := by decide) (hdb : (x == ("__debug__" : Str)) = false := by decide)
    (he : starEach (e :: es) X.env = (false, eval e X.env) :: starEach es X.env := by rfl) (hpl : (backTo pos (starEach es X.env)).any (·.1) = false := by rfl) : DE X (.Call (.Name x p) (e :: es) [] pos) (tCallD rd tA) :=
  (pe_callTy hc.toR hg hm hv ha hn hdb he hpl).imp up_callB
end

/-! ### == and != -/
/-- Python's == on data -/
def eqd (d e : D) : Bool := PyData.eqv (py d) (py e)
def scl : D → Bool
  | .non => true
  | .bl _ => true
  | .int _ => true
  | .str _ => true
  | _ => false
/-- the comparison is known -/
def eqk (d e : D) : Bool := (okE d && okE e && (decide (dep d ≤ 60) || decide (dep e ≤ 60))) || (match d, e with
  | .tup xs, .tup ys => xs.isEmpty || ys.isEmpty
  | .lst xs, .lst ys => xs.isEmpty || ys.isEmpty
  | .int _, .int _ => true
  | .str _, .str _ => true
  | .non, .str _ => true
  | .str _, .non => true
  | .int _, .str _ => true
  | .str _, .int _ => true
  | .bl _, .str _ => true
  | .str _, .bl _ => true
  | _, _ => false)
def rEqD : R2D := fun x y S Q => eqk (nrm S x) (nrm S y) = true ∧ Q (.bl (eqd (nrm S x) (nrm S y))) S
def rNeD : R2D := fun x y S Q => eqk (nrm S x) (nrm S y) = true ∧ Q (.bl (!eqd (nrm S x) (nrm S y))) S
theorem eqv_nilL (xs : List PyData) : PyData.eqvAll xs [] = xs.isEmpty := by cases xs <;> rfl
theorem eqv_nilR (xs : List PyData) : PyData.eqvAll [] xs = xs.isEmpty := by cases xs <;> rfl
theorem pyL_isEmpty (xs : List D) : (pyL xs).isEmpty = xs.isEmpty := by cases xs <;> rfl
section
variable {X : Cx} {pins : List (Addr × Obj)} {σ : L2.St} {H : Hp} {s : Shared} {G : Addr → Prop} {S : HD}
mutual
theorem lay_py : ∀ d : D, okE d = true → (py d).canLay0 = true
  | .non, _ => rfl
  | .bl _, _ => rfl
  | .int _, _ => rfl
  | .str _, h => h
  | .tup xs, h => layL_py xs h
  | .lst xs, h => layL_py xs h
  | .dic _, h => nomatch h
  | .ref _, h => nomatch h
  | .ty _, h => nomatch h
  | .deck, h => nomatch h
theorem layL_py : ∀ xs : List D, okEL xs = true → PyData.canLayAll0 (pyL xs) = true
  | [], _ => rfl
  | x :: xs, h => by
    simp only [okEL, Bool.and_eq_true] at h
    simp only [pyL, PyData.canLayAll0, lay_py x h.1, layL_py xs h.2, Bool.and_self]
end
/-- the two kinds of comparison in one -/
theorem cmp_at (I : Inv X pins σ H s) (hB : SysB X.base) (hu : X.A.units + 64 < cLine) {S1 S2 : HD} {d e : D} {x y : V} {v u : Value} (rx : RelV x v) (ry : RelV y u) (q1 : RD X.K G S1 H d x) (q2 : RD X.K G S2 H e y) (h : eqk d e = true) (Q : VK) :
    (Q (.bl (eqd d e)) H → wpAny (model X.prog X.w) X.A (compareOp .Eq v u) (EP X pins σ Q) X.xe s) ∧ (Q (.bl (!eqd d e)) H → wpAny (model X.prog X.w) X.A (compareOp .NotEq v u) (EP X pins σ Q) X.xe s) := by
  unfold eqk at h
  have hor := Bool.or_eq_true_iff.mp h
  clear h
  rcases hor with h | h
  · simp only [Bool.and_eq_true, Bool.or_eq_true, decide_eq_true_eq] at h
    obtain ⟨⟨h1, h2⟩, h3⟩ := h
    obtain ⟨as, r1, _⟩ := rd_reads I hB d x v q1 rx (.inr h1)
    obtain ⟨bs, r2, _⟩ := rd_reads I hB e y u q2 ry (.inr h2)
    have room : X.A.units + min (py d).depth (py e).depth < cLine := by rw [dep_py, dep_py]; omega
    exact ⟨fun q => SeqAt.compareEq_reads r1 r2 (lay_py d h1) (lay_py e h2) room ⟨.bl _, H, I, rfl, q⟩, fun q => SeqAt.compareNe_reads r1 r2 (lay_py d h1) (lay_py e h2) room ⟨.bl _, H, I, rfl, q⟩⟩
  · have sc : scal x y = true → decide (x = y) = eqd d e → (Q (.bl (eqd d e)) H → wpAny (model X.prog X.w) X.A (compareOp .Eq v u) (EP X pins σ Q) X.xe s) ∧ (Q (.bl (!eqd d e)) H → wpAny (model X.prog X.w) X.A (compareOp .NotEq v u) (EP X pins σ Q) X.xe s) :=
      fun hs hb => ⟨fun q => op_eq pins s σ H x y v u Q I rx ry ⟨hs, by rw [hb]; exact q⟩, fun q => op_ne pins s σ H x y v u Q I rx ry ⟨hs, by rw [hb]; exact q⟩⟩
    have hu0 : X.A.units < cLine := by omega
    split at h
    · rename_i xs ys
      cases q1 with
      | tup h1 r1 =>
        cases q2 with
        | tup h2 r2 =>
          cases rx; cases ry
          obtain ⟨its, rv1, p1, _⟩ := I.tuple h1.sq
          obtain ⟨its2, rv2, p2, _⟩ := I.tuple h2.sq
          have l1 : its.length = xs.length := rv1.length.symm.trans r1.length.symm
          have l2 : its2.length = ys.length := rv2.length.symm.trans r2.length.symm
          have hz : min its.toArray.size its2.toArray.size = 0 := by
            rcases Bool.or_eq_true_iff.mp h with z | z
            · rw [List.isEmpty_iff] at z; subst z; simp [List.length_eq_zero_iff.mp l1]
            · rw [List.isEmpty_iff] at z; subst z; simp [List.length_eq_zero_iff.mp l2]
          have e1 : eqd (.tup xs) (.tup ys) = ((List.range (min its.toArray.size its2.toArray.size)).all (fun _ => true) && its.toArray.size == its2.toArray.size) := by
            rw [hz]
            show PyData.eqvAll (pyL xs) (pyL ys) = _
            simp only [List.range_zero, List.all_nil, Bool.true_and, List.size_toArray, l1, l2]
            rcases Bool.or_eq_true_iff.mp h with z | z
            · rw [List.isEmpty_iff] at z; subst z
              show PyData.eqvAll [] (pyL ys) = _
              rw [eqv_nilR, pyL_isEmpty]; cases ys <;> rfl
            · rw [List.isEmpty_iff] at z; subst z
              show PyData.eqvAll (pyL xs) [] = _
              rw [eqv_nilL, pyL_isEmpty]; cases xs <;> rfl
          have none : ∀ j (h1 : j < its.toArray.size) (h2 : j < its2.toArray.size), SeqAt.EqAt X.A.in1 s its.toArray[j] its2.toArray[j] ((fun _ => true) j) := fun j h1 h2 => by omega
          refine ⟨fun q => SeqAt.RcAt.tuples p1 p2 hu0 none X.prog X.w _ _ ?_, fun q => SeqAt.RcNeAt.tuples p1 p2 hu0 none X.prog X.w _ _ ?_⟩
          · rw [← e1]; exact ⟨.bl _, H, I, rfl, q⟩
          · rw [← e1]; exact ⟨.bl _, H, I, rfl, q⟩
    · rename_i xs ys
      cases q1 with
      | lst h1 r1 =>
        cases q2 with
        | lst h2 r2 =>
          cases rx; cases ry
          obtain ⟨its, rv1, p1', _⟩ := I.list h1.sq
          obtain ⟨its2, rv2, p2', _⟩ := I.list h2.sq
          have p1 := p1'.isList
          have p2 := p2'.isList
          have l1 : its.length = xs.length := rv1.length.symm.trans r1.length.symm
          have l2 : its2.length = ys.length := rv2.length.symm.trans r2.length.symm
          by_cases hz : its.toArray.size = its2.toArray.size
          · have e1 : eqd (.lst xs) (.lst ys) = true := by
              show PyData.eqvAll (pyL xs) (pyL ys) = true
              simp only [List.size_toArray, l1, l2] at hz
              have : xs = [] ∧ ys = [] := by
                rcases Bool.or_eq_true_iff.mp h with z | z
                · rw [List.isEmpty_iff] at z; subst z; exact ⟨rfl, List.length_eq_zero_iff.mp hz.symm⟩
                · rw [List.isEmpty_iff] at z; subst z; exact ⟨List.length_eq_zero_iff.mp hz, rfl⟩
              rw [this.1, this.2]; rfl
            have z0 : its.toArray.size = 0 := by
              rcases Bool.or_eq_true_iff.mp h with z | z
              · rw [List.isEmpty_iff] at z; subst z; simp [List.length_eq_zero_iff.mp l1]
              · rw [List.isEmpty_iff] at z; subst z; rw [hz]; simp [List.length_eq_zero_iff.mp l2]
            have e2 : (List.range its.toArray.size).all (fun _ => true) = true := by rw [z0]; rfl
            have none : ∀ j (h1 : j < its.toArray.size) (h2 : j < its2.toArray.size), SeqAt.EqAt X.A.in1 s its.toArray[j] its2.toArray[j] ((fun _ => true) j) := fun j h1 h2 => by omega
            refine ⟨fun q => SeqAt.RcAt.lists p1 p2 hz hu0 none X.prog X.w _ _ ?_, fun q => SeqAt.RcNeAt.lists p1 p2 hz hu0 none X.prog X.w _ _ ?_⟩
            · rw [e2, ← e1]; exact ⟨.bl _, H, I, rfl, q⟩
            · rw [e2, ← e1]; exact ⟨.bl _, H, I, rfl, q⟩
          · have e1 : eqd (.lst xs) (.lst ys) = false := by
              show PyData.eqvAll (pyL xs) (pyL ys) = false
              refine SeqAt.eqvAll_other_length ?_
              simp only [List.size_toArray, l1, l2] at hz
              rw [pyL_map, pyL_map, List.length_map, List.length_map]
              exact hz
            have hz' : (its.toArray.size != its2.toArray.size) = true := by simpa using hz
            refine ⟨fun q => SeqAt.RcAt.lists_lengths p1 p2 hz' hu0 X.prog X.w _ _ ?_, fun q => SeqAt.RcNeAt.lists_lengths p1 p2 hz' hu0 X.prog X.w _ _ ?_⟩
            · rw [← e1]; exact ⟨.bl _, H, I, rfl, q⟩
            · rw [e1] at q; exact ⟨.bl _, H, I, rfl, q⟩
    · cases q1; cases q2; exact sc rfl (by simp [eqd, py, PyData.eqv]; rw [Bool.eq_iff_iff]; simp)
    · cases q1; cases q2; exact sc rfl (by simp [eqd, py, PyData.eqv]; rw [Bool.eq_iff_iff]; simp)
    · cases q1; cases q2; exact sc rfl (by simp [eqd, py, PyData.eqv])
    · cases q1; cases q2; exact sc rfl (by simp [eqd, py, PyData.eqv])
    · cases q1; cases q2; exact sc rfl (by simp [eqd, py, PyData.eqv])
    · cases q1; cases q2; exact sc rfl (by simp [eqd, py, PyData.eqv])
    · cases q1; cases q2; exact sc rfl (by simp [eqd, py, PyData.eqv])
    · cases q1; cases q2; exact sc rfl (by simp [eqd, py, PyData.eqv])
    · cases h
theorem op_eqRD {k : Nat} (hr : RoomG k X.A) (hB : SysB X.base) : OpRD X (compareOp .Eq) rEqD := fun pins s σ H x y v u d e G S Qd Q I rx ry q1 q2 rh t p => by
  obtain ⟨S1, _, r1⟩ := nrm_ok rh q1
  obtain ⟨S2, _, r2⟩ := nrm_ok rh q2
  exact (cmp_at I hB hr.un64 rx ry r1 r2 t.1 Q).1 (p.here rh (.bl _) t.2)
theorem op_neRD {k : Nat} (hr : RoomG k X.A) (hB : SysB X.base) : OpRD X (compareOp .NotEq) rNeD := fun pins s σ H x y v u d e G S Qd Q I rx ry q1 q2 rh t p => by
  obtain ⟨S1, _, r1⟩ := nrm_ok rh q1
  obtain ⟨S2, _, r2⟩ := nrm_ok rh q2
  exact (cmp_at I hB hr.un64 rx ry r1 r2 t.1 Q).2 (p.here rh (.bl _) t.2)
end
end PD

/-! PD9: more comparisons, built-in calls, items, slices, what is walked, methods of lists. -/
namespace PD
open PySem PySem.Spec PyProof.Rows L2

section
variable {X : Cx} {a b c e : Expr} {ta tb tc : TED} {pos : Pos}
/-- comparison of ints -/
def rCmpI (f : Int → Int → Bool) : R2D := fun x y S Q => match x, y with
  | .int i, .int j => Q (.bl (f i j)) S
  | _, _ => False
theorem cmpI {K : PySem.W.Frag} {f : Int → Int → Bool} : Op2 K (rI0 fun i j => .bl (f i j)) (rCmpI f) := fun G S H d1 d2 v1 v2 Qd Q rh q1 q2 t p => by
  unfold rCmpI at t
  split at t
  · cases q1; cases q2; exact ⟨_, _, rfl, rfl, p.here rh (.bl _) t⟩
  · exact t.elim
abbrev fLt : Int → Int → Bool := fun i j => decide (i < j)
abbrev fLe : Int → Int → Bool := fun i j => decide (i ≤ j)
abbrev fGt : Int → Int → Bool := fun i j => decide (j < i)
abbrev fGe : Int → Int → Bool := fun i j => decide (j ≤ i)
/-- is None -/
def isN : D → Bool
  | .non => true
  | _ => false
def rIsN : R1D := fun x S Q => Q (.bl (isN x)) S
def rNotN : R1D := fun x S Q => Q (.bl (!isN x)) S
theorem isN_v {K : PySem.W.Frag} {G : Addr → Prop} {S : HD} {H : Hp} {d : D} {v : V} (q : RD K G S H d v) : decide (v = .non) = isN d := by
  cases q <;> simp [isN]
theorem de_isN {j pos'} (ha : DE X a ta) : DE X (.Compare a [.Is] [.Constant .none j pos'] pos) (tUnD rIsN ta) :=
  (pe_cmp (pc_isN ha) rfl).imp fun σ H Q ⟨G, σd, S, Qd, rs, rh, t, p⟩ => ⟨G, σd, S, _, rs, rh, t, fun S1 d v H1 f1 rh1 q1 t1 => by show Q (.bl (decide (v = .non))) H1; rw [isN_v q1]; exact p S1 _ _ H1 f1 rh1 (.bl _) t1⟩
theorem de_notN {j pos'} (ha : DE X a ta) : DE X (.Compare a [.IsNot] [.Constant .none j pos'] pos) (tUnD rNotN ta) :=
  (pe_cmp (pc_notN ha) rfl).imp fun σ H Q ⟨G, σd, S, Qd, rs, rh, t, p⟩ => ⟨G, σd, S, _, rs, rh, t, fun S1 d v H1 f1 rh1 q1 t1 => by show Q (.bl (!decide (v = .non))) H1; rw [isN_v q1]; exact p S1 _ _ H1 f1 rh1 (.bl _) t1⟩
/-- a op b op' c -/
def tChainD (rd rd' : R2D) (ta tb tc : TED) : TED := fun σ S Q => ta σ S fun x S1 => tb σ S1 fun y S2 => rd x y S2 fun z S3 => match z with
  | .bl true => tc σ S3 fun w S4 => rd' y w S4 Q
  | .bl false => Q (.bl false) S3
  | _ => False

/-! ### len, isinstance, and the like -/
def rLenD : SpD := fun ds S Q => match ds with
  | [.str x] => x.length ≤ sizeLine ∧ Q (.int x.length) S
  | [d] => match asSeq S d with
    | some xs => Q (.int xs.length) S
    | none => False
  | _ => False
theorem call_lenRD : CallRD X (.builtin "len") rLenD := .of (r := fun xs H Q => (∃ p ys, xs = [.ref p] ∧ (SqL X.K H p ys ∨ SqT X.K H p ys) ∧ Q (.int ys.length) H) ∨ ∃ z, xs = [.str z] ∧ z.length ≤ sizeLine ∧ Q (.int z.length) H) (call_len_seq.or call_len_str) fun G S H ds vs Qd Q rh rd t p => by
  unfold rLenD at t
  split at t
  · cases rd with
    | cons q1 r1 => cases r1; cases q1; exact .inr ⟨_, rfl, t.1, p.here rh (.int _) t.2⟩
  · split at t
    · rename_i xs e
      cases rd with
      | cons q1 r1 =>
        cases r1
        obtain ⟨a, ws, rfl, l, r⟩ := asSeq_ok rh e q1
        exact .inl ⟨a, ws, rfl, l, by rw [← r.length]; exact p.here rh (.int _) t⟩
    · exact t.elim
  · exact t.elim
inductive Ty where | tuple | list | int | bool | str | dict
def Ty.name : Ty → String
  | .tuple => "tuple" | .list => "list" | .int => "int" | .bool => "bool" | .str => "str" | .dict => "dict"
/-- of a built-in class? none: not told here -/
def isiB (S : HD) : Ty → D → Option Bool
  | t, .non => some false
  | t, .bl _ => some (match t with | .int => true | .bool => true | _ => false)
  | t, .int _ => some (match t with | .int => true | _ => false)
  | t, .str _ => some (match t with | .str => true | _ => false)
  | t, .tup _ => some (match t with | .tuple => true | _ => false)
  | t, .lst _ => some (match t with | .list => true | _ => false)
  | t, .dic _ => some (match t with | .dict => true | _ => false)
  | t, .ref a => match S.hp a with
    | some (.lst _) => some (match t with | .list => true | _ => false)
    | some (.dic _) => some (match t with | .dict => true | _ => false)
    | _ => none
  | _, .ty _ => none
  | _, .deck => none
def rIsiD (t : Ty) : SpD := fun ds S Q => match ds with
  | [d, .ty n] => n = t.name ∧ (match isiB S t d with
    | some b => Q (.bl b) S
    | none => False)
  | _ => False
def vty : D → String
  | .non => "NoneType" | .bl _ => "bool" | .int _ => "int" | .str _ => "str" | .tup _ => "tuple" | .lst _ => "list" | .dic _ => "dict" | _ => ""
theorem call_isiRD (t : Ty) : CallRD X (.builtin "isinstance") (rIsiD t) := .of call_isi fun G S H ds vs Qd Q rh rd h p => by
  unfold rIsiD at h
  split at h
  · rename_i d n
    obtain ⟨rfl, h⟩ := h
    split at h
    · rename_i b e
      cases rd with
      | cons q1 r1 =>
        cases r1 with
        | cons q2 r2 =>
          cases r2; cases q2
          have go : ∀ (T : String) {v : V}, TyX X.K H v (.type T) → kitB T t.name = some b → rIsi X.K [v, .ty t.name] H Q := fun T v ty k => ⟨v, .ty t.name, .type T, .type t.name, b, rfl, .ty _, ty, kit_ty k, p.here rh (.bl _) h⟩
          cases q1 with
          | non => cases e; exact go "NoneType" (.base .non) (by cases t <;> decide +kernel)
          | bl x => cases e; exact go "bool" (.base (.bl x)) (by cases t <;> decide +kernel)
          | int x => cases e; exact go "int" (.base (.int x)) (by cases t <;> decide +kernel)
          | str x => cases e; exact go "str" (.base (.str x)) (by cases t <;> decide +kernel)
          | tup h1 r =>
            cases e
            refine go "tuple" ?_ (by cases t <;> decide +kernel)
            rcases h1 with ⟨_, h1 | ⟨o, h1⟩⟩ | ⟨o, its, m, h1, h2, _⟩
            · exact .base (.tup h1)
            · exact .fTuple h1
            · exact .kTuple h1 h2
          | lst h1 r =>
            cases e
            refine go "list" ?_ (by cases t <;> decide +kernel)
            rcases h1 with ⟨_, h1 | ⟨o, h1⟩⟩ | ⟨o, its, m, h1, h2, _⟩
            · exact .base (.lst h1)
            · exact .base (.frz h1)
            · exact .kList h1 h2
          | dic h1 r =>
            cases e
            refine go "dict" ?_ (by cases t <;> decide +kernel)
            rcases h1 with ⟨_, h1 | ⟨o, h1⟩⟩
            · exact .base (.dK h1)
            · exact .fDict h1
          | ref a =>
            simp only [isiB] at e
            split at e
            · rename_i xs e1
              obtain ⟨_, _, ws, h1, _⟩ := rh.hp a _ e1
              cases e
              exact go "list" (.base (.lst h1)) (by cases t <;> decide +kernel)
            · rename_i xs e1
              obtain ⟨_, _, ws, h1, _⟩ := rh.hp a _ e1
              cases e
              exact go "dict" (.base (.dK h1)) (by cases t <;> decide +kernel)
            · cases e
          | ty _ => cases e
          | deck _ => cases e
    · exact h.elim
  · exact h.elim
/-- tuple(x) -/
def rTupleD : SpD := fun ds S Q => match ds with
  | [d] => match asSeq S d with
    | some xs => Q (.tup xs) S
    | none => False
  | _ => False
theorem call_tupleRD : CallRD X (.type "tuple") rTupleD := .of call_tuple_of fun G S H ds vs Qd Q rh rd t p => by
  unfold rTupleD at t
  split at t
  · split at t
    · rename_i d xs e
      cases rd with
      | cons q1 r1 =>
        cases r1
        cases q1 with
        | tup h1 r => cases e; exact ⟨_, _, rfl, .inr ⟨h1.sq, p.here rh (.tup h1 r) t⟩⟩
        | lst h1 r => cases e; exact ⟨_, _, rfl, .inl ⟨h1.sq, fun l hl => p.newT rh r t hl⟩⟩
        | ref a =>
          obtain ⟨q, ws, e2, l, r⟩ := asLst_ok (xs := xs) rh (show asLst S (.ref a) = some xs from e) (.ref a)
          cases e2
          exact ⟨_, _, rfl, .inl ⟨l, fun l hl => p.newT rh r t hl⟩⟩
        | _ => cases e
    · exact t.elim
  · exact t.elim
/-- list(x), frozen; list(x), tracked -/
def rListV : SpD := fun ds S Q => match ds with
  | [d] => match asSeq S d with
    | some xs => Q (.lst xs) S
    | none => False
  | _ => False
def rListR : SpD := fun ds S Q => match ds with
  | [d] => match asSeq S d with
    | some xs => ∀ p, S.hp p = none → Q (.ref p) (S.set p (.lst xs))
    | none => False
  | _ => False
theorem call_listV : CallRD X (.type "list") rListV := .of call_list_of fun G S H ds vs Qd Q rh rd t p => by
  unfold rListV at t
  split at t
  · split at t
    · rename_i d xs e
      cases rd with
      | cons q1 r1 =>
        cases r1
        obtain ⟨a, ws, rfl, l, r⟩ := asSeq_ok rh e q1
        exact ⟨a, ws, rfl, l, fun l hl => p.newL rh r t hl⟩
    · exact t.elim
  · exact t.elim
theorem call_listR : CallRD X (.type "list") rListR := .of call_list_of fun G S H ds vs Qd Q rh rd t p => by
  unfold rListR at t
  split at t
  · split at t
    · rename_i d xs e
      cases rd with
      | cons q1 r1 =>
        cases r1
        obtain ⟨a, ws, rfl, l, r⟩ := asSeq_ok rh e q1
        exact ⟨a, ws, rfl, l, fun l hl => p.newR rh r t hl⟩
    · exact t.elim
  · exact t.elim
def rIntD : SpD := fun ds S Q => match ds with
  | [.int i] => Q (.int i) S
  | [.bl b] => Q (.int (if b then 1 else 0)) S
  | _ => False
theorem call_intRD : CallRD X (.type "int") rIntD := .of call_int1 fun G S H ds vs Qd Q rh rd t p => by
  unfold rIntD at t
  split at t
  · cases rd with
    | cons q1 r1 => cases r1; cases q1; exact .inl ⟨_, rfl, p.here rh (.int _) t⟩
  · cases rd with
    | cons q1 r1 => cases r1; cases q1; exact .inr ⟨_, rfl, p.here rh (.int _) t⟩
  · exact t.elim
def rBoolD : SpD := fun ds S Q => match ds with
  | [.int i] => Q (.bl (i != 0)) S
  | [.bl b] => Q (.bl b) S
  | _ => False
theorem call_boolRD : CallRD X (.type "bool") rBoolD := .of call_bool1 fun G S H ds vs Qd Q rh rd t p => by
  unfold rBoolD at t
  split at t
  · cases rd with
    | cons q1 r1 => cases r1; cases q1; exact .inl ⟨_, rfl, p.here rh (.bl _) t⟩
  · cases rd with
    | cons q1 r1 => cases r1; cases q1; exact .inr ⟨_, rfl, p.here rh (.bl _) t⟩
  · exact t.elim
def rStrD : SpD := fun ds S Q => match ds with
  | [.int i] => i.natAbs.log2 < 1920 ∧ Q (.str (toString i)) S
  | _ => False
theorem call_strRD : CallRD X (.type "str") rStrD := .of call_str_int fun G S H ds vs Qd Q rh rd t p => by
  unfold rStrD at t
  split at t
  · cases rd with
    | cons q1 r1 => cases r1; cases q1; exact ⟨_, rfl, t.1, p.here rh (.str _) t.2⟩
  · exact t.elim
def rAbsD : SpD := fun ds S Q => match ds with
  | [.int i] => Q (.int (if i < 0 then -i else i)) S
  | _ => False
theorem call_absRD : CallRD X (.builtin "abs") rAbsD := .of call_abs fun G S H ds vs Qd Q rh rd t p => by
  unfold rAbsD at t
  split at t
  · cases rd with
    | cons q1 r1 => cases r1; cases q1; exact ⟨_, rfl, p.here rh (.int _) t⟩
  · exact t.elim
def rMax2 : SpD := fun ds S Q => match ds with
  | [.int i, .int j] => Q (.int (if j > i then j else i)) S
  | _ => False
def rMin2 : SpD := fun ds S Q => match ds with
  | [.int i, .int j] => Q (.int (if j < i then j else i)) S
  | _ => False
theorem call_max2RD (hc : X.calm = true := by rfl) : CallRD X (.builtin "max") rMax2 := .of (call_max2 hc) fun G S H ds vs Qd Q rh rd t p => by
  unfold rMax2 at t
  split at t
  · cases rd with
    | cons q1 r1 =>
      cases r1 with
      | cons q2 r2 => cases r2; cases q1; cases q2; exact ⟨_, _, rfl, p.here rh (.int _) t⟩
  · exact t.elim
theorem call_min2RD (hc : X.calm = true := by rfl) : CallRD X (.builtin "min") rMin2 := .of (call_min2 hc) fun G S H ds vs Qd Q rh rd t p => by
  unfold rMin2 at t
  split at t
  · cases rd with
    | cons q1 r1 =>
      cases r1 with
      | cons q2 r2 => cases r2; cases q1; cases q2; exact ⟨_, _, rfl, p.here rh (.int _) t⟩
  · exact t.elim

/-! ### items and slices -/
theorem atI_rds {K : PySem.W.Frag} {G : Addr → Prop} {S : HD} {H : Hp} {ds : List D} {vs : List V} {i : Int} {d : D} (r : RDs K G S H ds vs) (h : atI ds i = some d) : ∃ v, atI vs i = some v ∧ RD K G S H d v := by
  unfold atI at h ⊢
  rw [← r.length]
  cases e : ixN ds.length i with
  | none => rw [e] at h; cases h
  | some j => rw [e] at h; exact r.get h
def rIxD : R2D := fun x y S Q => match x, y with
  | .str z, .int i => z.length ≤ sizeLine ∧ (match atI z.cps.toList i with
    | some c => Q (.str ⟨#[c]⟩) S
    | none => False)
  | x, .int i => (match asSeq S x with
    | some xs => (match atI xs i with
      | some d => Q d S
      | none => False)
    | none => False)
  | _, _ => False
theorem ix2 {K : PySem.W.Frag} : Op2 K (rIx K) rIxD := fun G S H d1 d2 v1 v2 Qd Q rh q1 q2 t p => by
  unfold rIxD at t
  split at t
  · cases q1; cases q2
    obtain ⟨hz, t⟩ := t
    split at t
    · rename_i c e
      exact .inr (.inr ⟨_, _, c, rfl, rfl, hz, e, p.here rh (.str _) t⟩)
    · exact t.elim
  · cases q2
    split at t
    · rename_i xs e
      split at t
      · rename_i d e2
        obtain ⟨a, ws, rfl, l, r⟩ := asSeq_ok rh e q1
        obtain ⟨v, h1, h2⟩ := atI_rds r e2
        rcases l with l | l
        · exact .inl ⟨a, ws, _, v, rfl, rfl, l, h1, p.here rh h2 t⟩
        · exact .inr (.inl ⟨a, ws, _, v, rfl, rfl, l, h1, p.here rh h2 t⟩)
      · exact t.elim
    · exact t.elim
  · exact t.elim
theorem de_ix (ha : DE X a ta) (hb : DE X b tb) (hs : PlainIx b := by exact fun _ _ => rfl) : DE X (.Subscript a b pos) (tBin rIxD ta tb) := (pe_ix ix_seq ha hb hs).imp (up_bin ix2)
/-- the ends of a slice -/
abbrev TOD := SD → HD → (Option Int → HD → Prop) → Prop
def upO (K : PySem.W.Frag) (t : TOD) : TO := fun σ H Q => ∃ G σd S Qd, RSl K G S H σd σ ∧ RH K G S H ∧ t σd S Qd ∧ ∀ S' o H', FL S H S' H' → RH K G S' H' → Qd o S' → Q o H'
abbrev DO (X : Cx) (e : Option Expr) (t : TOD) : Prop := PO X e (upO X.K t)
theorem _root_.L2.PO.imp {X : Cx} {e : Option Expr} {t t' : TO} (h : PO X e t) (i : ∀ σ H Q, t' σ H Q → t σ H Q) : PO X e t' := ⟨fun pins s σ H Q I q => h.run pins s σ H Q I (i _ _ _ q)⟩
def oNone : TOD := fun _ S Q => Q none S
def oSome (t : TED) : TOD := fun σ S Q => t σ S fun d S1 => match d with
  | .int i => Q (some i) S1
  | _ => False
theorem do_none : DO X none oNone := po_none.imp fun σ H Q ⟨G, σd, S, Qd, rs, rh, t, p⟩ => p S _ H (.refl _ _) rh t
theorem do_some (h : DE X e ta) : DO X (some e) (oSome ta) := (po_some h).imp fun σ H Q ⟨G, σd, S, Qd, rs, rh, t, p⟩ => ⟨G, σd, S, _, rs, rh, t, fun S1 d v H1 f1 rh1 q1 t1 => by
  cases q1 with
  | int i => exact ⟨i, rfl, p S1 _ H1 f1 rh1 t1⟩
  | _ => exact t1.elim⟩
def cutD (xs : List D) (lo hi : Option Int) : List D := (xs.drop (HT.sIx xs.length 0 lo)).take (HT.sIx xs.length xs.length hi - HT.sIx xs.length 0 lo)
theorem RDs.cut {K : PySem.W.Frag} {G : Addr → Prop} {S : HD} {H : Hp} {ds : List D} {vs : List V} (r : RDs K G S H ds vs) (lo hi : Option Int) : RDs K G S H (cutD ds lo hi) (cutV vs lo hi) := by
  unfold cutD cutV
  rw [← r.length]
  exact (r.drop _).take _
def rSlD (x : D) (lo hi : Option Int) (S : HD) (Q : QD) : Prop := match x with
  | .str z => z.length ≤ sizeLine ∧ Q (.str (cutS z lo hi)) S
  | .tup xs => Q (.tup (cutD xs lo hi)) S
  | x => match asLst S x with
    | some xs => Q (.lst (cutD xs lo hi)) S
    | none => False
def tSlD (te : TED) (tl th : TOD) : TED := fun σ S Q => te σ S fun x S1 => tl σ S1 fun l S2 => th σ S2 fun u S3 => rSlD x l u S3 Q
theorem de_slice {lo hi : Option Expr} {tl th : TOD} {p2 : Pos} (he : DE X e ta) (hl : DO X lo tl) (hu : DO X hi th) : DE X (.Subscript e (.Slice lo hi none p2) pos) (tSlD ta tl th) :=
  (pe_slice (r := fun x lo hi H Q => rSlA X.K x lo hi H Q ∨ rSlL X.K x lo hi H Q ∨ rSlS x lo hi H Q) (sl_tupA.or (sl_list.or sl_str)) he hl hu).imp fun σ H Q ⟨G, σd, S, Qd, rs, rh, t, p⟩ =>
    ⟨G, σd, S, _, rs, rh, t, fun S1 d v H1 f1 rh1 q1 t1 => ⟨G, σd, S1, _, rs.fl f1, rh1, t1, fun S2 l H2 f2 rh2 t2 => ⟨G, σd, S2, _, rs.fl (f1.trans f2), rh2, t2, fun S3 u H3 f3 rh3 t3 => by
      have q3 := q1.fl (f2.trans f3)
      have p3 := p.fl (f1.trans (f2.trans f3))
      unfold rSlD at t3
      split at t3
      · cases q3; exact .inr (.inr ⟨_, rfl, t3.1, p3.here rh3 (.str _) t3.2⟩)
      · rename_i xs
        cases q3 with
        | @tup a vs _ h1 r1 =>
          refine .inl ⟨a, vs, rfl, h1.sq, fun hw => ?_, fun _ q hq => p3.newT rh3 (r1.cut l u) t3 hq⟩
          have e : cutD xs l u = xs := by
            unfold cutD
            rw [r1.length, hw.1, hw.2, ← r1.length]
            simp
          rw [e] at t3
          exact p3.here rh3 (.tup h1 r1) t3
      · split at t3
        · rename_i xs e1
          obtain ⟨a, ws, rfl, l1, r⟩ := asLst_ok rh3 e1 q3
          exact .inr (.inl ⟨a, ws, rfl, l1, fun q hq => p3.newL rh3 (r.cut l u) t3 hq⟩)
        · exact t3.elim⟩⟩⟩

/-! ### what is walked -/
theorem itOk_list {K : PySem.W.Frag} {G' : Addr → Prop} {S : HD} {H : Hp} {a : Addr} {xs : List D} {keep : HD → Prop} (h : ∀ S1 H1, FL S H S1 H1 → RH K G' S1 H1 → keep S1 → ∃ vs, SqL K H1 a vs ∧ RDs K G' S1 H1 xs vs) : ItOk K G' S H (Itl K a) xs keep where
  go := fun i d S1 H1 hx f r k => by
    obtain ⟨vs, h1, h2⟩ := h S1 H1 f r k
    obtain ⟨v, e1, e2⟩ := h2.get hx
    refine ⟨⟨vs, v, h1, e1⟩, fun x H2 y => ?_⟩
    obtain ⟨rfl, y⟩ := y
    have := y vs h1
    rw [e1] at this
    cases this
    exact ⟨.refl _ _, r, e2⟩
  stop := fun S1 H1 f r k => by
    obtain ⟨vs, h1, h2⟩ := h S1 H1 f r k
    exact ⟨vs, h1, by rw [h2.length]; exact Nat.le_refl _⟩
theorem itOk_tup {K : PySem.W.Frag} {G' : Addr → Prop} {S : HD} {H : Hp} {a : Addr} {xs : List D} {keep : HD → Prop} (h : ∀ S1 H1, FL S H S1 H1 → RH K G' S1 H1 → keep S1 → ∃ vs, SqT K H1 a vs ∧ RDs K G' S1 H1 xs vs) : ItOk K G' S H (Itt K a) xs keep where
  go := fun i d S1 H1 hx f r k => by
    obtain ⟨vs, h1, h2⟩ := h S1 H1 f r k
    obtain ⟨v, e1, e2⟩ := h2.get hx
    refine ⟨⟨vs, v, h1, e1⟩, fun x H2 y => ?_⟩
    obtain ⟨rfl, y⟩ := y
    have := y vs h1
    rw [e1] at this
    cases this
    exact ⟨.refl _ _, r, e2⟩
  stop := fun S1 H1 f r k => by
    obtain ⟨vs, h1, h2⟩ := h S1 H1 f r k
    exact ⟨vs, h1, by rw [h2.length]; exact Nat.le_refl _⟩
theorem itOk_rng {K : PySem.W.Frag} {G' : Addr → Prop} {S : HD} {H : Hp} {lo : Int} {n : Nat} {keep : HD → Prop} : ItOk K G' S H (Itr lo n) ((List.range n).map fun (i : Nat) => D.int (lo + i)) keep where
  go := fun i d S1 H1 hx f r k => by
    rw [List.getElem?_map] at hx
    cases e : (List.range n)[i]? with
    | none => rw [e] at hx; cases hx
    | some j =>
      rw [e] at hx
      obtain ⟨hi, e2⟩ := List.getElem?_eq_some_iff.mp e
      simp at hi e2
      subst e2
      cases hx
      refine ⟨hi, fun x H2 y => ?_⟩
      obtain ⟨rfl, rfl⟩ := y
      exact ⟨.refl _ _, r, .int _⟩
  stop := fun S1 H1 f r k => by
    show n ≤ _
    simp
/-- a list or a tuple, told by its value -/
def iAny (K : PySem.W.Frag) (tl : TE) : TI := fun σ H R => tl σ H fun x H1 => ∃ a, x = .ref a ∧ ((∃ xs, SqL K H1 a xs ∧ R (Itl K a) H1) ∨ ∃ xs, SqT K H1 a xs ∧ R (Itt K a) H1)
theorem pi_any {X : Cx} {tg l : Expr} {tl : TE} (hl : PE X l tl) : PI X tg l (iAny X.K tl) := by
  refine ⟨fun pins s σ H R I h => thn (hl.run pins s σ H _ I h) fun v s1 hv => ?_⟩
  obtain ⟨x, H1, I1, rx, a, rfl, q⟩ := hv
  cases rx
  have fp : ∀ b ∈ [s1.heap.objs.size], FpOk X pins H1 b := fun b hb => by
    obtain rfl : b = s1.heap.objs.size := by simpa using hb
    exact I1.fpOk (Nat.le_refl _) (I1.hok.fresh (Nat.le_refl _))
  rcases q with ⟨xs, hq, q⟩ | ⟨xs, hq, q⟩
  · obtain ⟨its, rv, pl, hz⟩ := I1.list hq
    exact wpAny_pyIter_list pl.isList ⟨s1.heap.objs.size, [s1.heap.objs.size], _, _, H1, rfl, I1.kept (t' := s1.toks) (fun b o e => Heap.get?_push_of_some _ e), turn_list a _, ⟨_, Heap.get?_push_size _ rfl, rfl, rfl⟩, fp, q⟩
  · obtain ⟨its, rv, pl, hz⟩ := I1.tuple hq
    exact wpAny_pyIter_tuple (show s1.heap.IsTuple a its.toArray from pl) ⟨s1.heap.objs.size, [s1.heap.objs.size], _, _, H1, rfl, I1.kept (t' := s1.toks) (fun b o e => Heap.get?_push_of_some _ e), turn_tuple a _, ⟨_, Heap.get?_push_size _ rfl, rfl, rfl⟩, fp, q⟩
def iSeqD (te : TED) : TID := fun σ S R => te σ S fun d S1 => match d with
  | .tup xs => xs.length ≤ sizeLine → R xs (fun _ => True) S1
  | .lst xs => xs.length ≤ sizeLine → R xs (fun _ => True) S1
  | .ref a => (match S1.hp a with
    | some (.lst xs) => xs.length ≤ sizeLine → R xs (fun S => S.hp a = some (.lst xs)) S1
    | _ => False)
  | _ => False
theorem FzT.mv {K : PySem.W.Frag} {G G' : Addr → Prop} {S S' : HD} {H H' : Hp} (m : Mv G S H G' S' H') {a : Addr} {vs : List V} (h : FzT K G S H a vs) : FzT K G' S' H' a vs := h.imp (fun z => m.rd z) id
theorem FzL.mv {K : PySem.W.Frag} {G G' : Addr → Prop} {S S' : HD} {H H' : Hp} (m : Mv G S H G' S' H') {a : Addr} {vs : List V} (h : FzL K G S H a vs) : FzL K G' S' H' a vs := h.imp (fun z => m.rd z) id
theorem di_seq {X : Cx} {tg l : Expr} {tl : TED} (hl : DE X l tl) : DI X tg l (iSeqD tl) :=
  (pi_any (PE.szs hl)).imp fun σ H R ⟨G, σd, S, Rd, rs, rh, t, p⟩ => ⟨G, σd, S, _, rs, rh, t, fun S1 d v H1 f1 rh1 q1 t1 hz => by
    cases q1 with
    | @tup a vs xs h1 r =>
      exact ⟨a, rfl, .inr ⟨vs, h1.sq, p S1 _ _ _ H1 f1 rh1 (fun G' S2 H2 m2 rh2 => itOk_tup fun S3 H3 f3 rh3 _ => ⟨vs, ((h1.mv m2).mv f3.mv).sq, (r.mv m2).fl f3⟩) (t1 (by rw [r.length]; exact hz.2 _ _ h1.sq))⟩⟩
    | @lst a vs xs h1 r =>
      exact ⟨a, rfl, .inl ⟨vs, h1.sq, p S1 _ _ _ H1 f1 rh1 (fun G' S2 H2 m2 rh2 => itOk_list fun S3 H3 f3 rh3 _ => ⟨vs, ((h1.mv m2).mv f3.mv).sq, (r.mv m2).fl f3⟩) (t1 (by rw [r.length]; exact hz.1 _ _ h1.sq))⟩⟩
    | ref a =>
      simp only at t1
      split at t1
      · rename_i xs e
        obtain ⟨_, _, vs, e1, r⟩ := rh1.hp a _ e
        refine ⟨a, rfl, .inl ⟨vs, SqL.of e1, p S1 _ _ _ H1 f1 rh1 (fun G' S2 H2 m2 rh2 => itOk_list fun S3 H3 f3 rh3 k3 => ?_) (t1 (by rw [r.length]; exact hz.1 _ _ (SqL.of e1)))⟩⟩
        obtain ⟨_, _, ws, e2, r2⟩ := rh3.hp a _ k3
        exact ⟨ws, SqL.of e2, r2⟩
      · exact t1.elim
    | _ => exact t1.elim⟩
/-- range(n), range(a, b) -/
def rngD (lo : Int) (n : Nat) : List D := (List.range n).map fun (i : Nat) => D.int (lo + i)
theorem rngD_len (lo : Int) (n : Nat) : (rngD lo n).length = n := by simp [rngD]
def iRng1D (ta : TAD) : TID := fun σ S R => ta σ S fun ds S1 => match ds with
  | [.int j] => (-1000000000 ≤ j ∧ j ≤ 10000000) ∧ R (rngD 0 j.toNat) (fun _ => True) S1
  | _ => False
def iRng2D (ta : TAD) : TID := fun σ S R => ta σ S fun ds S1 => match ds with
  | [.int i, .int j] => (-1000000000 ≤ i ∧ i ≤ 1000000000 ∧ -1000000000 ≤ j ∧ j ≤ 1000000000 ∧ j - i ≤ 10000000) ∧ R (rngD i (j - i).toNat) (fun _ => True) S1
  | _ => False
theorem di_range1 {X : Cx} {tg a : Expr} {ta : TAD} {p pos : Pos} (hm : X.mg "range" = none) (ha : DA X [a] ta) (hg : Gl X "range" := by rfl) (hs : starEach [a] X.env = [(false, eval a X.env)] := by rfl) : DI X tg (.Call (.Name "range" p) [a] [] pos) (iRng1D ta) :=
  (pi_range1 hg hm ha hs).imp fun σ H R ⟨G, σd, S, Rd, rs, rh, t, p⟩ => ⟨G, σd, S, _, rs, rh, t, fun S1 ds vs H1 f1 rh1 q1 t1 => by
    split at t1
    · cases q1 with
      | cons q r =>
        cases r; cases q
        exact ⟨_, rfl, by omega, by omega, p S1 _ _ _ H1 f1 rh1 (fun G' S2 H2 m2 rh2 => itOk_rng) t1.2⟩
    · exact t1.elim⟩
theorem di_range2 {X : Cx} {tg a b : Expr} {ta : TAD} {p pos : Pos} (hm : X.mg "range" = none) (ha : DA X [a, b] ta) (hg : Gl X "range" := by rfl) (hs : starEach [a, b] X.env = [(false, eval a X.env), (false, eval b X.env)] := by rfl) (hs2 : starEach [b] X.env = [(false, eval b X.env)] := by rfl) :
    DI X tg (.Call (.Name "range" p) [a, b] [] pos) (iRng2D ta) :=
  (pi_range2 hg hm ha hs hs2).imp fun σ H R ⟨G, σd, S, Rd, rs, rh, t, p⟩ => ⟨G, σd, S, _, rs, rh, t, fun S1 ds vs H1 f1 rh1 q1 t1 => by
    split at t1
    · cases q1 with
      | cons q r =>
        cases r with
        | cons q' r' =>
          cases r'; cases q; cases q'
          exact ⟨_, _, rfl, ⟨by omega, by omega, by omega, by omega⟩, p S1 _ _ _ H1 f1 rh1 (fun G' S2 H2 m2 rh2 => itOk_rng) t1.2⟩
    · exact t1.elim⟩

/-! ### methods of tracked lists, stores -/
theorem RH.writeL {K : PySem.W.Frag} {G : Addr → Prop} {S : HD} {H : Hp} (rh : RH K G S H) {a : Addr} {xs ys : List D} {ws : List V} (h : S.hp a = some (.lst xs)) (r : RDs K G S H ys ws) : RH K G (S.set a (.lst ys)) (upd H a (.lst ws)) ∧ FL S H (S.set a (.lst ys)) (upd H a (.lst ws)) := by
  have m : Mv G S H G (S.set a (.lst ys)) (upd H a (.lst ws)) := ⟨fun b o e z => by
    have ne : b ≠ a := fun q => by rw [← q, z.1] at h; cases h
    exact ⟨⟨by rw [HD.set_ne ne]; exact z.1, z.2.1, z.2.2⟩, by rw [upd_ne ne]; exact e⟩, fun _ e => e⟩
  exact rh.write h ⟨ws, upd_same, r.mv m⟩
/-- xs.append(v) -/
def tMethD (rd : D → List D → HD → QD → Prop) (to : TED) (ta : TAD) : TED := fun σ S Q => to σ S fun x S1 => ta σ S1 fun ds S2 => rd x ds S2 Q
def rAppD : D → List D → HD → QD → Prop := fun x ds S Q => match x, ds with
  | .ref a, [d] => (match S.hp a with
    | some (.lst xs) => xs.length < 16000000 ∧ Q .non (S.set a (.lst (xs ++ [d])))
    | _ => False)
  | _, _ => False
def isRefL (S : HD) : D → Prop
  | .ref a => ∃ xs, S.hp a = some (.lst xs)
  | _ => False
section
variable {X : Cx} {o e : Expr} {es : List Expr} {to : TED} {ta : TAD} {name : Str} {apos cpos : Pos}
/-- o.m(e, ..) of a tracked list; the receiver is told before the arguments are -/
def tMethL (rd : D → List D → HD → QD → Prop) (to : TED) (ta : TAD) : TED := fun σ S Q => to σ S fun x S1 => isRefL S1 x ∧ ta σ S1 fun ds S2 => rd x ds S2 Q
theorem de_methL {id : String} {r : V → List V → Hp → VK → Prop} {rd : D → List D → HD → QD → Prop} (slot : Slot "list" name id) (hty : typeOf (.builtin id) = pure (.type "method_descriptor")) (hm : MtR X id r)
    (i : ∀ G S H d v ds vs Qd Q, RH X.K G S H → RD X.K G S H d v → RDs X.K G S H ds vs → rd d ds S Qd → Post X.K G S H Qd Q → r v vs H Q) (ho : DE X o to) (ha : DA X (e :: es) ta)
    (hbase : attributeBase o name X.env (eval o X.env) = eval o X.env := by rfl)
    (hfew : ((backTo cpos (starEach (e :: es) X.env)).all (fun x => !x.1) && (backToKw cpos (keywordEach [] X.env)).all (fun x => x.1.isSome)
      && decide ((e :: es).length + ([] : List Keyword).length + (if ([] : List Keyword).isEmpty then 0 else 1) < 30)) = true := by rfl)
    (hline : (apos.endLine == cpos.line) = true := by rfl) (hs : starEach (e :: es) X.env = (false, eval e X.env) :: starEach es X.env := by rfl) (hplain : (backTo cpos (starEach es X.env)).any (·.1) = false := by rfl) :
    DE X (.Call (.Attribute o name apos) (e :: es) [] cpos) (tMethL rd to ta) :=
  (pe_bm PySem.F.plainAttrs_list slot hty hm ho ha hbase hfew hline hs hplain).imp fun σ H Q ⟨G, σd, S, Qd, rs, rh, t, p⟩ => ⟨G, σd, S, _, rs, rh, t, fun S1 d v H1 f1 rh1 q1 ⟨hl, t1⟩ => by
    cases q1 with
    | ref a =>
      obtain ⟨xs, e1⟩ := hl
      obtain ⟨_, _, ws, e2, _⟩ := rh1.hp a _ e1
      exact ⟨.inl ⟨rfl, _, SqL.of e2⟩, G, σd, S1, _, rs.fl f1, rh1, t1, fun S2 ds vs H2 f2 rh2 q2 t2 => i G S2 H2 _ _ ds vs _ _ rh2 (.ref a) q2 t2 (p.fl (f1.trans f2))⟩
    | _ => exact hl.elim⟩
theorem appD_ok {K : PySem.W.Frag} : ∀ G S H d v ds vs Qd Q, RH K G S H → RD K G S H d v → RDs K G S H ds vs → rAppD d ds S Qd → Post K G S H Qd Q → rAppend v vs H Q := by
  intro G S H d v ds vs Qd Q rh q1 q2 t p
  unfold rAppD at t
  split at t
  · rename_i a d
    split at t
    · rename_i xs e
      obtain ⟨_, _, ws, e1, r⟩ := rh.hp a _ e
      cases q1
      cases q2 with
      | @cons _ y _ _ q2 r2 =>
        cases r2
        obtain ⟨rh', f'⟩ := rh.writeL e (r.append (.cons q2 .nil))
        exact ⟨a, ws, y, rfl, rfl, e1, by have := r.length; have : (sizeLine : Nat) = 16777216 := rfl; omega, p _ _ _ _ f' rh' .non t.2⟩
    · exact t.elim
  · exact t.elim
theorem de_append (ho : DE X o to) (ha : DA X [e] ta) (hbase : attributeBase o "append" X.env (eval o X.env) = eval o X.env := by rfl)
    (hfew : ((backTo cpos (starEach (e :: []) X.env)).all (fun x => !x.1) && (backToKw cpos (keywordEach [] X.env)).all (fun x => x.1.isSome)
      && decide ((e :: ([] : List Expr)).length + ([] : List Keyword).length + (if ([] : List Keyword).isEmpty then 0 else 1) < 30)) = true := by rfl)
    (hline : (apos.endLine == cpos.line) = true := by rfl) (hs : starEach (e :: []) X.env = (false, eval e X.env) :: starEach [] X.env := by rfl) : DE X (.Call (.Attribute o "append" apos) [e] [] cpos) (tMethL rAppD to ta) :=
  de_methL PySem.F.slot_list_append PySem.F.type_list_append mt_append appD_ok ho ha hbase hfew hline hs rfl
end
end
end PD

/-! PD10: chains of comparisons, stores into lists, the deck of draws. -/
namespace PD
open PySem PySem.Spec PyProof.Rows L2

section
variable {X : Cx} {a b c e o i : Expr} {ta tb tc to ti : TED} {pos : Pos}
theorem up_chain {K : PySem.W.Frag} {r r' : R2} {rd rd' : R2D} (h : Op2 K r rd) (h' : Op2 K r' rd') : ∀ σ H Q, up K (tChainD rd rd' ta tb tc) σ H Q → tChain r r' (up K ta) (up K tb) (up K tc) σ H Q := fun σ H Q ⟨G, σd, S, Qd, rs, rh, t, p⟩ =>
  ⟨G, σd, S, _, rs, rh, t, fun S1 d v H1 f1 rh1 q1 t1 => ⟨G, σd, S1, _, rs.fl f1, rh1, t1, fun S2 d2 v2 H2 f2 rh2 q2 t2 => h G S2 H2 d d2 v v2 _ _ rh2 (q1.fl f2) q2 t2 fun S3 z vz H3 f3 rh3 q3 t3 => by
    cases q3 with
    | bl k =>
      refine ⟨k, rfl, ?_⟩
      cases k with
      | true => exact iteT ⟨G, σd, S3, _, rs.fl (f1.trans (f2.trans f3)), rh3, t3, fun S4 d4 v4 H4 f4 rh4 q4 t4 => h' G S4 H4 d2 d4 v2 v4 _ _ rh4 (q2.fl (f3.trans f4)) q4 t4 (p.fl (f1.trans (f2.trans (f3.trans f4))))⟩
      | false => exact iteF (p S3 _ _ H3 (f1.trans (f2.trans f3)) rh3 (.bl false) t3)
    | _ => exact t3.elim⟩⟩
theorem de_chain {op op' : CmpOp} {r r' : R2} {rd rd' : R2D} (ho : OpR X (compareOp op) r) (ho' : OpR X (compareOp op') r') (h : Op2 X.K r rd) (h' : Op2 X.K r' rd') (ha : DE X a ta) (hb : DE X b tb) (hc : DE X c tc)
    (hm : lastMarks [op, op'] [b, c] = false := by with_unfolding_all rfl) : DE X (.Compare a [op, op'] [b, c] pos) (tChainD rd rd' ta tb tc) := (pe_chain ho ho' ha hb hc hm).imp (up_chain h h')
theorem dt_chain {op op' : CmpOp} {r r' : R2} {rd rd' : R2D} (ho : OpR X (compareOp op) r) (ho' : OpR X (compareOp op') r') (h : Op2 X.K r rd) (h' : Op2 X.K r' rd') (ha : DE X a ta) (hb : DE X b tb) (hc : DE X c tc)
    (hm : lastMarks [op, op'] [b, c] = false := by with_unfolding_all rfl) : DT X (.Compare a [op, op'] [b, c] pos) (tTst (tChainD rd rd' ta tb tc)) :=
  (pt_chain ho ho' ha hb hc hm).imp fun σ H Q ⟨G, σd, S, Qd, rs, rh, t, p⟩ => up_chain h h' σ H _ ⟨G, σd, S, _, rs, rh, t, fun S1 d v H1 f1 rh1 q1 t1 => by
    cases q1 with
    | bl k => exact ⟨k, rfl, p S1 k H1 f1 rh1 t1⟩
    | _ => exact t1.elim⟩

/-! ### xs[i] = e -/
def rSetD (o i v : D) (S : HD) (Q : HD → Prop) : Prop := match o, i with
  | .ref a, .int k => (match S.hp a with
    | some (.lst xs) => (match ixN xs.length k with
      | some j => Q (S.set a (.lst (xs.set j v)))
      | none => False)
    | _ => False)
  | _, _ => False
def gSubD (to ti : TED) : TGD := fun v σ S Q => to σ S fun o S1 => ti σ S1 fun i S2 => rSetD o i v S2 fun S3 => Q σ S3
theorem dg_sub (ho : DE X o to) (hi : DE X i ti)
    (ha : ∀ v, assign (.Subscript o i pos) X.env v = (do
      let ov ← holding [v] (eval o X.env)
      let iv ← holding [v, ov] (eval i X.env)
      standAt pos
      holding [v, ov, iv] (setItem ov iv v)
      release [v, ov, iv] []) := by intro _; rfl) : DG X (.Subscript o i pos) (gSubD to ti) :=
  (pg_sub ho hi set_list ha).imp fun v σ H Q ⟨G, σd, S, d, Qd, rs, rh, q, t, p⟩ =>
    ⟨G, σd, S, _, rs, rh, t, fun S1 d1 v1 H1 f1 rh1 q1 t1 => ⟨G, σd, S1, _, rs.fl f1, rh1, t1, fun S2 d2 v2 H2 f2 rh2 q2 t2 => by
      unfold rSetD at t2
      split at t2
      · split at t2
        · rename_i xs e
          split at t2
          · rename_i j ej
            cases q1
            cases q2
            obtain ⟨_, _, ws, e1, r⟩ := rh2.hp _ _ e
            obtain ⟨rh', f'⟩ := rh2.writeL e (r.set (q.fl (f1.trans f2)) j)
            exact ⟨_, ws, _, j, rfl, rfl, e1, by rw [← r.length]; exact ej, p _ _ _ _ (f1.trans (f2.trans f')) rh' (rs.fl (f1.trans (f2.trans f'))) t2⟩
          · exact t2.elim
        · exact t2.elim
      · exact t2.elim⟩⟩
end

/-! ### the deck of draws -/
section
variable {K : PySem.W.Frag} {G : Addr → Prop} {S : HD} {H : Hp}
theorem rds_ints : ∀ {ns : List Int} {vs : List V}, RDs K G S H (ns.map D.int) vs → vs = ns.map V.int
  | [], _, h => by cases h; rfl
  | n :: ns, _, h => by
    cases h with
    | cons q r => cases q; rw [rds_ints r]; rfl
/-- the deck alone, opened -/
def openD (S : HD) (a b : Addr) (cells : List Int) (n : Nat) : HD := { hp := fun x => if x = a then some (.lst [.ref b, .int (n : Int)]) else if x = b then some (.lst (cells.map D.int)) else none, c := S.c, dk := none }
theorem openD_rh (rh : RH K G S H) {a b : Addr} (h : S.dk = some (a, b)) {cells : List Int} {n : Nat} (h1 : H a = some (.lst [.ref b, .int (n : Int)])) (h2 : H b = some (.lst (cells.map V.int))) : RH K G (openD S a b cells n) H where
  hp := fun x o e => by
    have nd : ¬ Dk (openD S a b cells n) x := fun ⟨p, q, _⟩ => by cases q
    simp only [openD] at e
    split at e
    · rename_i hx
      subst hx
      cases e
      exact ⟨nd, fun g => (rh.rs x g).2 ⟨_, h, .inl rfl⟩, _, h1, .cons (.ref _) (.cons (.int _) .nil)⟩
    · split at e
      · rename_i _ hx
        subst hx
        cases e
        exact ⟨nd, fun g => (rh.rs x g).2 ⟨_, h, .inr rfl⟩, _, h2, RDs.ints _⟩
      · cases e
  rs := fun x g => ⟨(rh.rs x g).1, fun ⟨p, q, _⟩ => by cases q⟩
  dk := fun _ _ e => by cases e
theorem closeD (rh : RH K G S H) {a b : Addr} (h : S.dk = some (a, b)) {cells cells' : List Int} {n m : Nat} {S1 : HD} {H1 : Hp} (f1 : FL (openD S a b cells n) H S1 H1) (rh1 : RH K G S1 H1)
    (h1 : S1.hp a = some (.lst [.ref b, .int (m : Int)])) (h2 : S1.hp b = some (.lst (cells'.map D.int))) (hl : cells'.length ≤ 63) (hp : ∀ z ∈ cells', 0 ≤ z) (hm : m ≤ S.c + 1) : FL S H (S.tick 1) H1 ∧ RH K G (S.tick 1) H1 := by
  obtain ⟨nab, ha, hb, _⟩ := rh.dk a b h
  have out : ∀ {x : Addr}, x ≠ a → x ≠ b → (openD S a b cells n).hp x = none := fun {x} n1 n2 => by simp [openD, n1, n2]
  have nd : ∀ x, ¬ Dk (openD S a b cells n) x := fun x ⟨p, q, _⟩ => by cases q
  have ne : ∀ {x : Addr}, ¬ Dk S x → x ≠ a ∧ x ≠ b := fun {x} d => ⟨fun z => d ⟨_, h, .inl z⟩, fun z => d ⟨_, h, .inr z⟩⟩
  have fl : FL S H (S.tick 1) H1 := ⟨fun x o e n d => by
    obtain ⟨n1, n2⟩ := ne d
    exact ⟨n, d, (f1.kp x o e (out n1 n2) (nd x)).2.2⟩, fun p q => q⟩
  refine ⟨fl, ⟨fun x o e => ?_, fun x g => ?_, fun c d e => ?_⟩⟩
  · obtain ⟨d, g, r⟩ := rh.hp x o e
    obtain ⟨n1, n2⟩ := ne d
    obtain ⟨u, q⟩ := r.there
    exact ⟨d, g, r.mv fl.mv (((f1.kp x u q (out n1 n2) (nd x)).2.2).trans q.symm)⟩
  · obtain ⟨⟨o, e⟩, d⟩ := rh.rs x g
    obtain ⟨n1, n2⟩ := ne d
    exact ⟨⟨o, (f1.kp x o e (out n1 n2) (nd x)).2.2⟩, d⟩
  · have e' : S.dk = some (c, d) := e
    rw [h] at e'
    cases e'
    obtain ⟨_, _, vs, e1, r1⟩ := rh1.hp _ _ h1
    obtain ⟨_, _, ws, e2, r2⟩ := rh1.hp _ _ h2
    rw [rds_ints r2] at e2
    have e3 : vs = [.ref b, .int (m : Int)] := by
      cases r1 with
      | cons q r =>
        cases r with
        | cons q' r' => cases r'; cases q; cases q'; rfl
    rw [e3] at e1
    exact ⟨nab, ha, hb, cells', m, e1, e2, hm, hl, hp⟩
/-- a new deck -/
theorem newDeck {S1 : HD} {H1 : Hp} (rh : RH K G S H) (h0 : S.dk = none) (f1 : FL S H S1 H1) (rh1 : RH K G S1 H1) (hs : ∀ x o, S.hp x = some o → S1.hp x = some o) (hd1 : S1.dk = none) {a b : Addr} {cells : List Int} (nab : a ≠ b) (na : S.hp a = none) (nb : S.hp b = none)
    (h1 : S1.hp a = some (.lst [.ref b, .int 0])) (h2 : S1.hp b = some (.lst (cells.map D.int))) (hl : cells.length ≤ 63) (hp : ∀ z ∈ cells, 0 ≤ z) : FL S H { S with dk := some (a, b), c := 0 } H1 ∧ RH K G { S with dk := some (a, b), c := 0 } H1 := by
  have nd1 : ∀ x, ¬ Dk S1 x := fun x ⟨p, q, _⟩ => by rw [hd1] at q; cases q
  have nd : ∀ x, ¬ Dk S x := fun x ⟨p, q, _⟩ => by rw [h0] at q; cases q
  have nd2 : ∀ {x : Addr}, x ≠ a → x ≠ b → ¬ Dk { S with dk := some (a, b), c := 0 } x := fun {x} n1 n2 ⟨p, q, z⟩ => by
    have q' : some (a, b) = some p := q
    cases q'
    exact z.elim n1 n2
  have ne : ∀ {x : Addr}, S1.hp x = none → x ≠ a ∧ x ≠ b := fun {x} e => ⟨fun z => (by rw [z, h1] at e; cases e), fun z => (by rw [z, h2] at e; cases e)⟩
  have back : ∀ {x : Addr}, S1.hp x = none → S.hp x = none := fun {x} e => by
    cases q : S.hp x with
    | none => rfl
    | some o => rw [hs x o q] at e; cases e
  have mv : Mv G S1 H1 G { S with dk := some (a, b), c := 0 } H1 := ⟨fun x o e z => by
    obtain ⟨n1, n2⟩ := ne z.1
    exact ⟨⟨back z.1, nd2 n1 n2, z.2.2⟩, e⟩, fun p q => by rw [hd1] at q; cases q⟩
  refine ⟨⟨fun x o e n d => ?_, fun p q => by rw [h0] at q; cases q⟩, ⟨fun x o e => ?_, fun x g => ?_, fun c d e => ?_⟩⟩
  · obtain ⟨n', d', e'⟩ := f1.kp x o e n d
    obtain ⟨n1, n2⟩ := ne n'
    exact ⟨n, nd2 n1 n2, e'⟩
  · obtain ⟨d, g, r⟩ := rh1.hp x o (hs x o e)
    have n1 : x ≠ a := fun z => by rw [z, na] at e; cases e
    have n2 : x ≠ b := fun z => by rw [z, nb] at e; cases e
    exact ⟨nd2 n1 n2, g, r.mv mv rfl⟩
  · refine ⟨(rh1.rs x g).1, nd2 (fun z => ?_) fun z => ?_⟩
    · exact (rh1.hp _ _ h1).2.1 (z ▸ g)
    · exact (rh1.hp _ _ h2).2.1 (z ▸ g)
  · have e' : some (a, b) = some (c, d) := e
    cases e'
    obtain ⟨_, _, vs, e1, r1⟩ := rh1.hp _ _ h1
    obtain ⟨_, _, ws, e2, r2⟩ := rh1.hp _ _ h2
    rw [rds_ints r2] at e2
    have e3 : vs = [.ref b, .int 0] := by
      cases r1 with
      | cons q r =>
        cases r with
        | cons q' r' => cases r'; cases q; cases q'; rfl
    rw [e3] at e1
    exact ⟨nab, na, nb, cells, 0, e1, e2, Nat.le_refl _, hl, hp⟩
end
/-- a draw: a number below m -/
def spDraw : SpD := fun ds S Q => match ds with
  | [.deck, .int m] => (1 ≤ m ∧ m ≤ 500000000 ∧ S.c < 1000000000000) ∧ ∀ r : Int, 0 ≤ r → r < m → Q (.int r) (S.tick 1)
  | _ => False
/-- the deck of a script -/
def spDeck : SpD := fun ds S Q => match ds with
  | [.lst xs] => (∃ ns : List Int, xs = ns.map D.int) ∧ S.dk = none ∧ ∀ p, Q .deck { S with dk := some p, c := 0 }
  | _ => False
/-- what the body of a draw must do, the deck open -/
def DrawOk (t : TSD) (n : Nat) : Prop := ∀ (S : HD) (a b : Addr) (cells : List Int) (k : Nat) (m : Int), a ≠ b → k < 1000000000000 → cells.length ≤ 63 → (∀ z ∈ cells, 0 ≤ z) → 1 ≤ m → m ≤ 500000000 →
  t { nx := fun _ _ => False, rt := fun d S1 => ∃ (r : Int) (cells' : List Int), d = .int r ∧ 0 ≤ r ∧ r < m ∧ S1.hp a = some (.lst [.ref b, .int ((k + 1 : Nat) : Int)]) ∧ S1.hp b = some (.lst (cells'.map D.int)) ∧ cells'.length ≤ 63 ∧ ∀ z ∈ cells', 0 ≤ z }
    (pad n [.ref a, .int m]) (openD S a b cells k)
/-- what the body that makes a deck must do -/
def DeckOk (t : TSD) (n : Nat) : Prop := ∀ (S : HD) (ns : List Int), S.dk = none →
  t { nx := fun _ _ => False, rt := fun d S1 => ∃ (a b : Addr) (cells : List Int), d = .ref a ∧ a ≠ b ∧ S.hp a = none ∧ S.hp b = none ∧ S1.hp a = some (.lst [.ref b, .int 0]) ∧ S1.hp b = some (.lst (cells.map D.int)) ∧ cells.length ≤ 63 ∧ (∀ z ∈ cells, 0 ≤ z) ∧ (∀ x o, S.hp x = some o → S1.hp x = some o) ∧ S1.dk = none }
    (pad n [.lst (ns.map D.int)]) S
section
variable {P : Program} {w : World} {K : PySem.W.Frag} {mg : Str → Option Value} {base : Heap} {x qual : Str} {st : Stmt} {f : Addr} {fd : FuncData} {N : List Str} {k : Nat}
theorem FnD.draw {p1 p2 : Str} (F : Fun K x qual st f fd) (Sc : FnScope N [p1, p2] (defScope st)) (t : TSD)
    (hd : ∀ (cdv : Value) (A : Around) (outer : List Env) (s : Shared) (H : Hp), RoomG k (A.deeper (envOfC qual (defScope st) s.heap.objs.size f cdv)) →
      DSs (cxOf CX0 P w K mg base N qual (defScope st) f cdv A outer s H E0).nox (defBody st) t)
    (ok : DrawOk t N.length) : FnD P w K mg base (k + 1) f fd [p1, p2] spDraw := by
  refine FnD.core F Sc t (fun ds S Q q => ?_) hd fun ds S Qd hsp G H vs rh rd => ?_
  · unfold spDraw at q
    split at q
    · rfl
    · exact q.elim
  · unfold spDraw at hsp
    split at hsp
    · rename_i m
      obtain ⟨⟨m1, m2, m3⟩, hsp⟩ := hsp
      cases rd with
      | cons q r =>
        cases r with
        | cons q' r' =>
          cases r'; cases q'
          cases q with
          | @deck a b e =>
            obtain ⟨nab, ha, hb, cells, n, h1, h2, h3, h4, h5⟩ := rh.dk a b e
            refine ⟨_, _, _, openD_rh rh e h1 h2, .cons (.ref a) (.cons (.int m) .nil), ok S a b cells n m nab (by omega) h4 h5 m1 m2, ?_, fun _ _ _ _ _ q => q.elim, fun _ _ q => q, fun _ _ q => q⟩
            rintro S1 d v H1 f1 rh1 rd1 ⟨r, cells', rfl, r0, r1, g1, g2, g3, g4⟩
            cases rd1
            obtain ⟨fl, rh2⟩ := closeD rh e f1 rh1 g1 g2 g3 g4 (by omega)
            exact ⟨_, .int r, fl, rh2, .int r, hsp r r0 r1⟩
    · exact hsp.elim
theorem FnD.deck {p1 : Str} (F : Fun K x qual st f fd) (Sc : FnScope N [p1] (defScope st)) (t : TSD)
    (hd : ∀ (cdv : Value) (A : Around) (outer : List Env) (s : Shared) (H : Hp), RoomG k (A.deeper (envOfC qual (defScope st) s.heap.objs.size f cdv)) →
      DSs (cxOf CX0 P w K mg base N qual (defScope st) f cdv A outer s H E0).nox (defBody st) t)
    (ok : DeckOk t N.length) : FnD P w K mg base (k + 1) f fd [p1] spDeck := by
  refine FnD.core F Sc t (fun ds S Q q => ?_) hd fun ds S Qd hsp G H vs rh rd => ?_
  · unfold spDeck at q
    split at q
    · rfl
    · exact q.elim
  · unfold spDeck at hsp
    split at hsp
    · obtain ⟨⟨ns, rfl⟩, h0, hsp⟩ := hsp
      refine ⟨_, S, _, rh, rd, ok S ns h0, ?_, fun _ _ _ _ _ q => q.elim, fun _ _ q => q, fun _ _ q => q⟩
      rintro S1 d v H1 f1 rh1 rd1 ⟨a, b, cells, rfl, nab, na, nb, h1, h2, h3, h4, h5, h6⟩
      cases rd1
      obtain ⟨fl, rh2⟩ := newDeck rh h0 f1 rh1 h5 h6 nab na nb h1 h2 h3 h4
      exact ⟨_, .deck, fl, rh2, .deck rfl, hsp (a, b)⟩
    · exact hsp.elim
end
end PD

/-! PD11: small rules that the printer of derivations uses. -/
namespace PD
open PySem PySem.Spec PyProof.Rows L2
section
variable {X : Cx} {a b c e : Expr} {ta tb tc : TED} {pos : Pos}
theorem dt_isN {j pos'} (ha : DE X a ta) : DT X (.Compare a [.Is] [.Constant .none j pos'] pos) (tTst (tUnD rIsN ta)) :=
  (pt_cmp (pc_isN ha) rfl).imp fun σ H Q ⟨G, σd, S, Qd, rs, rh, t, p⟩ => ⟨G, σd, S, _, rs, rh, t, fun S1 d v H1 f1 rh1 q1 t1 => ⟨_, rfl, by rw [isN_v q1]; exact p S1 _ H1 f1 rh1 t1⟩⟩
theorem dt_notN {j pos'} (ha : DE X a ta) : DT X (.Compare a [.IsNot] [.Constant .none j pos'] pos) (tTst (tUnD rNotN ta)) :=
  (pt_cmp (pc_notN ha) rfl).imp fun σ H Q ⟨G, σd, S, Qd, rs, rh, t, p⟩ => ⟨G, σd, S, _, rs, rh, t, fun S1 d v H1 f1 rh1 q1 t1 => ⟨_, rfl, by rw [isN_v q1]; exact p S1 _ H1 f1 rh1 t1⟩⟩
theorem de_gI {x : Str} {i : Int} {pos : Pos} (hm : ∃ t, X.mg x = some (.int i t)) (hg : Gl X x := by rfl) (hd : (x == ("__debug__" : Str)) = false := by decide) : DE X (.Name x pos) (tCD (.int i)) :=
  let ⟨_, h⟩ := hm; de_globI hg h hd
theorem de_gS {x : Str} {i : Str} {pos : Pos} (hm : ∃ t, X.mg x = some (.str i t)) (hg : Gl X x := by rfl) (hd : (x == ("__debug__" : Str)) = false := by decide) : DE X (.Name x pos) (tCD (.str i)) :=
  let ⟨_, h⟩ := hm; de_globS hg h hd
theorem de_eq {k : Nat} (hr : RoomG k X.A) (hB : SysB X.base) (ha : DE X a ta) (hb : DE X b tb) : DE X (.Compare a [.Eq] [b] pos) (tBin rEqD ta tb) := de_cmp (op_eqRD hr hB).toR lift2 ha hb (nomark _)
theorem de_ne {k : Nat} (hr : RoomG k X.A) (hB : SysB X.base) (ha : DE X a ta) (hb : DE X b tb) : DE X (.Compare a [.NotEq] [b] pos) (tBin rNeD ta tb) := de_cmp (op_neRD hr hB).toR lift2 ha hb (nomark _)
theorem dt_eq {k : Nat} (hr : RoomG k X.A) (hB : SysB X.base) (ha : DE X a ta) (hb : DE X b tb) : DT X (.Compare a [.Eq] [b] pos) (tTst (tBin rEqD ta tb)) := dt_cmp (op_eqRD hr hB).toR lift2 ha hb (nomark _)
theorem dt_ne {k : Nat} (hr : RoomG k X.A) (hB : SysB X.base) (ha : DE X a ta) (hb : DE X b tb) : DT X (.Compare a [.NotEq] [b] pos) (tTst (tBin rNeD ta tb)) := dt_cmp (op_neRD hr hB).toR lift2 ha hb (nomark _)
theorem de_lt (ha : DE X a ta) (hb : DE X b tb) : DE X (.Compare a [.Lt] [b] pos) (tBin (rCmpI fLt) ta tb) := de_cmp op_lt cmpI ha hb (nomark _)
theorem de_le (ha : DE X a ta) (hb : DE X b tb) : DE X (.Compare a [.LtE] [b] pos) (tBin (rCmpI fLe) ta tb) := de_cmp op_le cmpI ha hb (nomark _)
theorem de_gt (ha : DE X a ta) (hb : DE X b tb) : DE X (.Compare a [.Gt] [b] pos) (tBin (rCmpI fGt) ta tb) := de_cmp op_gt cmpI ha hb (nomark _)
theorem de_ge (ha : DE X a ta) (hb : DE X b tb) : DE X (.Compare a [.GtE] [b] pos) (tBin (rCmpI fGe) ta tb) := de_cmp op_ge cmpI ha hb (nomark _)
theorem dt_lt (ha : DE X a ta) (hb : DE X b tb) : DT X (.Compare a [.Lt] [b] pos) (tTst (tBin (rCmpI fLt) ta tb)) := dt_cmp op_lt cmpI ha hb (nomark _)
theorem dt_le (ha : DE X a ta) (hb : DE X b tb) : DT X (.Compare a [.LtE] [b] pos) (tTst (tBin (rCmpI fLe) ta tb)) := dt_cmp op_le cmpI ha hb (nomark _)
theorem dt_gt (ha : DE X a ta) (hb : DE X b tb) : DT X (.Compare a [.Gt] [b] pos) (tTst (tBin (rCmpI fGt) ta tb)) := dt_cmp op_gt cmpI ha hb (nomark _)
theorem dt_ge (ha : DE X a ta) (hb : DE X b tb) : DT X (.Compare a [.GtE] [b] pos) (tTst (tBin (rCmpI fGe) ta tb)) := dt_cmp op_ge cmpI ha hb (nomark _)
/-- a < b < c -/
theorem de_lele (ha : DE X a ta) (hb : DE X b tb) (hc : DE X c tc) (hm : lastMarks [.LtE, .LtE] [b, c] = false := by with_unfolding_all rfl) : DE X (.Compare a [.LtE, .LtE] [b, c] pos) (tChainD (rCmpI fLe) (rCmpI fLe) ta tb tc) := de_chain op_le op_le cmpI cmpI ha hb hc hm
theorem dt_lele (ha : DE X a ta) (hb : DE X b tb) (hc : DE X c tc) (hm : lastMarks [.LtE, .LtE] [b, c] = false := by with_unfolding_all rfl) : DT X (.Compare a [.LtE, .LtE] [b, c] pos) (tTst (tChainD (rCmpI fLe) (rCmpI fLe) ta tb tc)) := dt_chain op_le op_le cmpI cmpI ha hb hc hm
theorem de_ltle (ha : DE X a ta) (hb : DE X b tb) (hc : DE X c tc) (hm : lastMarks [.Lt, .LtE] [b, c] = false := by with_unfolding_all rfl) : DE X (.Compare a [.Lt, .LtE] [b, c] pos) (tChainD (rCmpI fLt) (rCmpI fLe) ta tb tc) := de_chain op_lt op_le cmpI cmpI ha hb hc hm
theorem dt_ltle (ha : DE X a ta) (hb : DE X b tb) (hc : DE X c tc) (hm : lastMarks [.Lt, .LtE] [b, c] = false := by with_unfolding_all rfl) : DT X (.Compare a [.Lt, .LtE] [b, c] pos) (tTst (tChainD (rCmpI fLt) (rCmpI fLe) ta tb tc)) := dt_chain op_lt op_le cmpI cmpI ha hb hc hm
/-- {} that stays empty -/
def tDicV : TED := fun _ S Q => Q (.dic []) S
theorem de_dicV : DE X (.Dict [] [] pos) tDicV := pe_dnewK.imp fun σ H Q ⟨G, σd, S, Qd, rs, rh, t, p⟩ => fun q hq => by
  obtain ⟨r', f', z⟩ := rh.newF hq (.dK [])
  exact p S _ _ _ f' r' (.dic ⟨z, .inl upd_same⟩ .nil) t
theorem bt_repr : bootBuiltins "repr" = some (.builtin "repr") := by decide +kernel
theorem bt_isinstance : bootBuiltins "isinstance" = some (.builtin "isinstance") := by decide +kernel
theorem bt_len : bootBuiltins "len" = some (.builtin "len") := by decide +kernel
theorem bt_abs : bootBuiltins "abs" = some (.builtin "abs") := by decide +kernel
theorem bt_max : bootBuiltins "max" = some (.builtin "max") := by decide +kernel
theorem bt_min : bootBuiltins "min" = some (.builtin "min") := by decide +kernel
theorem bt_sum : bootBuiltins "sum" = some (.builtin "sum") := by decide +kernel
theorem bt_sorted : bootBuiltins "sorted" = some (.builtin "sorted") := by decide +kernel
theorem bt_int : bootBuiltins "int" = some (.type "int") := by decide +kernel
theorem bt_bool : bootBuiltins "bool" = some (.type "bool") := by decide +kernel
theorem bt_str : bootBuiltins "str" = some (.type "str") := by decide +kernel
theorem bt_tuple : bootBuiltins "tuple" = some (.type "tuple") := by decide +kernel
theorem bt_list : bootBuiltins "list" = some (.type "list") := by decide +kernel
theorem bt_dict : bootBuiltins "dict" = some (.type "dict") := by decide +kernel
theorem bt_set : bootBuiltins "set" = some (.type "set") := by decide +kernel
end
end PD

/-! PD12: the law's end over deep values. -/
namespace PD
open PySem PySem.Spec PyProof.Rows L2

/-- the law's promise: from the script it answers True -/
def spLaw : SpD := fun ds S Q => ∃ ns : List Int, ds = [.lst (ns.map D.int)] ∧ ns.length ≤ 63 ∧ S.hp = (fun _ => none) ∧ S.c = 0 ∧ S.dk = none ∧ ∀ S', Q (.bl true) S'
def S00 : HD := ⟨fun _ => none, 0, none⟩
theorem rds_ofInts {K : PySem.W.Frag} {G : Addr → Prop} {S : HD} {H : Hp} : ∀ ns : List Int, RDs K G S H (ns.map D.int) (ns.map V.int)
  | [] => .nil
  | n :: ns => .cons (.int n) (rds_ofInts ns)
section
variable {P : Program} {w : World} {K : PySem.W.Frag} {mg mb : Str → Option Value} {k : Nat} {fa a : Addr} {fd : FuncData} {x : Str} {s₁ : Shared} {vs : List Value} {ns : List Int}
/-- the script alone is tracked, or nothing -/
def scr (a : Addr) (vs : List Value) (ns : List Int) : Hp := fun b => if b = a then some (.frz { cls := .type "list", data := .seq vs.toArray } (.lst (ns.map V.int))) else none
def AOnly (a : Addr) (vs : List Value) (ns : List Int) (H : Hp) : Prop := (∀ b, H b = none) ∨ (∀ b, H b = scr a vs ns b)
theorem AOnly.cs {H : Hp} (h : AOnly a vs ns H) (b : Addr) : H b = none ∨ (b = a ∧ H b = some (.frz { cls := .type "list", data := .seq vs.toArray } (.lst (ns.map V.int)))) := by
  rcases h with h | h
  · exact .inl (h b)
  · rw [h b]
    unfold scr
    by_cases e : b = a
    · exact .inr ⟨e, if_pos e⟩
    · exact .inl (if_neg e)
theorem law_callD1 (KX : K.In s₁.heap) (hns : s₁.heap.Ns mainGlobals mg) (hsy : SysB s₁.heap) (hb : s₁.heap.Ns builtinsNs mb) (hbb : ∀ x : Str, x ≠ "__name__" → mb x = bootBuiltins x) (hlim : s₁.heap.NoLimit) (hg : s₁.gens = #[])
    (ha : s₁.heap.get? a = some { cls := .type "list", data := .seq vs.toArray }) (hl : ns.length ≤ 63) (hr : RoomG k callerA)
    (F : ∀ base : Heap, K.In base → base.Ns mainGlobals mg → SysB base → FnD P w K mg base k fa fd [x] spLaw) (hbind : ∀ (s : Shared) (u : Value), BindsTo s fd ⟨[u], []⟩ [(x, u)])
    {H : Hp} (hO : AOnly a vs ns H) (hS : FzL K (fun _ => False) S00 H a (ns.map V.int)) (hok : HOk P w H s₁.heap) (hK : H a ≠ none → K.lookup a = none) :
    codeAny (model P w) callerA (.call (.ref fa) ⟨[.ref a], []⟩) (fun r s' => r = .ok (.ret (.bool true)) ∧ OldK s₁.heap s'.heap ∧ s'.os = s₁.os ∧ AllBare s'.gens) s₁ := by
  have nd : ∀ {b : Addr} {o : Obj} {es : Array DictEntry} {ep : Nat}, s₁.heap.get? b = some o → o.data = .dict es ep → H b = none := fun {b o es ep} e d => by
    rcases hO.cs b with z | ⟨z, _⟩
    · exact z
    · subst z
      rw [ha] at e
      cases e
      exact nomatch (show Data.seq vs.toArray _ = Data.dict es ep from d)
  have ns' : ∀ {b : Addr} {m : Str → Option Value}, s₁.heap.Ns b m → (hidT s₁.heap H).Ns b m := fun {b m} ⟨o, es, ep, e, d, r⟩ => ⟨o, es, ep, hidT_get e (nd e d), d, r⟩
  have kin : K.In (hidT s₁.heap H) := fun b o e => hidT_get (KX b o e) (by
    rcases hO.cs b with z | ⟨z, z'⟩
    · exact z
    · subst z
      rw [hK (by rw [z']; simp)] at e
      cases e)
  have sy : SysB (hidT s₁.heap H) := let ⟨mm, h⟩ := hsy; ⟨mm, ns' h⟩
  have md : Mod K mg (hidT s₁.heap H) := ⟨kin, ns' hns, ⟨mb, ns' hb, hbb⟩, let ⟨mc, h1, h2⟩ := hlim; ⟨mc, ns' h1, h2⟩⟩
  have ev : Env0 P w K mg (hidT s₁.heap H) callerA [] s₁ H := ⟨rfl, md, fun b o e => of_hidT e, Nat.le_of_eq (hidT_size _ _), trivial, fun b hb => (nomatch (show b ∈ ([] : List Addr) from hb)), hok, .of_eq hg⟩
  have run := (F _ kin (ns' hns) sy).run callerA [] s₁ H ⟨[.ref a], []⟩ [.ref a] [.ref a] [.lst (ns.map D.int)] (fun _ => False) S00 (fun d _ => d = .bl true) hr ev (hbind s₁ (.ref a)) (.cons rfl .nil)
    (.cons (.lst hS (rds_ofInts ns)) .nil) ⟨fun _ _ e => (nomatch (show (none : Option OD) = some _ from e)), fun b (g : False) => False.elim g, fun _ _ e => (nomatch (show (none : Option (Addr × Addr)) = some _ from e))⟩ ⟨ns, rfl, hl, rfl, rfl, rfl, fun _ => rfl⟩
  refine codeAny_mono run fun r s' h => ?_
  match r, h with
  | .error e, h => exact False.elim h
  | .ok .next, h => exact False.elim h
  | .ok .brk, h => exact False.elim h
  | .ok .cont, h => exact False.elim h
  | .ok (.ret u), h =>
    obtain ⟨v, H', os, bare, un, hok', r', S', d, _, _, rd, rfl⟩ := h
    cases rd
    obtain rfl : u = Value.bool true := r'
    refine ⟨rfl, OldK.of_keep fun b o e => ?_, os, bare⟩
    rcases hO.cs b with z | ⟨_, z⟩
    · exact un.keep b o e z (fun q => nomatch (show b ∈ ([] : List Addr) from q)) (by simp)
    · obtain ⟨e1, _⟩ := hok b _ z
      obtain ⟨e2, _⟩ := hok' b _ (un.frzs b _ _ z)
      exact e2.trans (e1.symm.trans e)
theorem law_callD (KX : K.In s₁.heap) (hns : s₁.heap.Ns mainGlobals mg) (hsy : SysB s₁.heap) (hb : s₁.heap.Ns builtinsNs mb) (hbb : ∀ x : Str, x ≠ "__name__" → mb x = bootBuiltins x) (hlim : s₁.heap.NoLimit) (hg : s₁.gens = #[])
    (ha : s₁.heap.get? a = some { cls := .type "list", data := .seq vs.toArray }) (hi : IntsAre vs ns) (hl : ns.length ≤ 63) (hr : RoomG k callerA)
    (F : ∀ base : Heap, K.In base → base.Ns mainGlobals mg → SysB base → FnD P w K mg base k fa fd [x] spLaw) (hbind : ∀ (s : Shared) (u : Value), BindsTo s fd ⟨[u], []⟩ [(x, u)]) :
    codeAny (model P w) callerA (.call (.ref fa) ⟨[.ref a], []⟩) (fun r s' => r = .ok (.ret (.bool true)) ∧ OldK s₁.heap s'.heap ∧ s'.os = s₁.os ∧ AllBare s'.gens) s₁ := by
  have rv := vals_ints hi
  have hz : ns.length ≤ sizeLine := Nat.le_trans hl (by decide)
  have hvz : vs.toArray.size ≤ sizeLine := by rw [List.size_toArray, hi.length]; exact hz
  have nofz : Fz (fun _ => False) S00 a := ⟨rfl, fun z => let ⟨_, e, _⟩ := z; (nomatch (show (none : Option (Addr × Addr)) = some _ from e)), id⟩
  cases hk : K.lookup a with
  | some o =>
    have e := KX a o hk
    rw [ha] at e
    cases e
    exact law_callD1 KX hns hsy hb hbb hlim hg ha hl hr F hbind (H := fun _ => none) (.inl fun _ => rfl) (.inr ⟨_, vs.toArray, _, hk, rfl, rfl, rfl, hvz, by simpa using rv⟩) (fun b u z => nomatch (show (none : Option HO) = some u from z)) fun z => absurd rfl z
  | none =>
    refine law_callD1 KX hns hsy hb hbb hlim hg ha hl hr F hbind (H := scr a vs ns) (.inr fun _ => rfl) (.inl ⟨nofz, .inr ⟨_, if_pos rfl⟩⟩) (fun b u z => ?_) fun _ => hk
    by_cases hb' : b = a
    · cases (if_pos hb').symm.trans z
      subst hb'
      exact ⟨ha, by rw [List.length_map]; exact hz, vs, _, rv, ha⟩
    · exact nomatch (if_neg hb').symm.trans z
end
/-- what the head leaves -/
theorem walk_D {l : PySem.W.OpenLaw} {k : Nat} {q : Program} {loose : List Str} {XP : (Str → Option Value) → Heap → Prop} {YP : World → Heap → Prop} {d : DefRec} {K : Params → PySem.W.Frag} {x : Str}
    (hn : l.most = some 63) (hdf : d.params.defaults = []) (hr : RoomG k callerA) (hi : importsNone q = true) (hY : ∀ (w : World) (h : Heap), YP w h → (K w.params).In h)
    (F : ∀ (w : World) (mg : Str → Option Value) (fa : Addr) (h : Heap), (K w.params).In h → h.Ns mainGlobals mg → mg d.name = some (.ref fa) →
      ∃ fd : FuncData, (∀ (s : Shared) (u : Value), BindsTo s fd ⟨[u], []⟩ [(x, u)]) ∧ ∀ base : Heap, (K w.params).In base → base.Ns mainGlobals mg → SysB base → FnD l.prog w (K w.params) mg base k fa fd [x] spLaw) :
    PySem.W.WalkO q loose XP YP l.row.toRowW d [] (fun f vs => PySem.call f vs) :=
  Att.attach_call hn hdf fun w s₀ s₁ mg mb fa o pm cd doc a vs ns G Y ho hd hcd hmg hobj hints hlen hg =>
    let KX := hY w _ Y
    let ⟨_, hb, hF⟩ := F w mg fa _ KX G.T.g hmg
    law_callD KX G.T.g (let ⟨mm, h, _⟩ := (G.T.seer hi).mods; ⟨mm, h⟩) G.T.b G.T.builtins G.T.nolimit hg hobj hints hlen hr hF hb
end PD

/-! PD13: a tuple read from behind. -/
namespace PD
open PySem PySem.Spec PyProof.Rows L2

theorem adj_rev (n : Nat) : Builtin.Slice.sliceAdjust none none (-1) (n : Int) = ((n : Int) - 1, -1) := by
  unfold Builtin.Slice.sliceAdjust
  first
  | rfl
  | simp
theorem places_rev (n : Nat) : Builtin.Slice.slicePlaces ((n : Int) - 1) (-1) (-1) = n := by
  unfold Builtin.Slice.slicePlaces
  by_cases h : n = 0
  · subst h; decide
  · simp only [show ¬ ((-1 : Int) > 0) by decide, if_false]
    split <;> simp <;> omega
theorem pick_rev (xs : Array Value) : ((List.range xs.size).filterMap fun (m : Nat) => xs[(((xs.size : Int) - 1) + (m : Int) * (-1)).toNat]?).toArray = xs.toList.reverse.toArray := by
  congr 1
  have e : (List.range xs.size).filterMap (fun (m : Nat) => xs[(((xs.size : Int) - 1) + (m : Int) * (-1)).toNat]?) = ((List.range xs.size).map fun k => xs.size - 1 - k).filterMap (xs[·]?) := by
    rw [List.filterMap_map]
    have key : ∀ ks : List Nat, (∀ k ∈ ks, k < xs.size) → ks.filterMap (fun (m : Nat) => xs[(((xs.size : Int) - 1) + (m : Int) * (-1)).toNat]?) = ks.filterMap ((xs[·]?) ∘ fun k => xs.size - 1 - k) := by
      intro ks
      induction ks with
      | nil => intro _; rfl
      | cons k ks ih =>
        intro h
        have hk := h k List.mem_cons_self
        have e : (((xs.size : Int) - 1) + (k : Int) * (-1)).toNat = xs.size - 1 - k := by omega
        simp only [List.filterMap_cons, Function.comp, e]
        rw [ih fun j hj => h j (List.mem_cons_of_mem _ hj)]
    exact key _ fun k hk => List.mem_range.mp hk
  rw [e, PySem.W.krv_range, List.filterMap_reverse, PySem.W.krv_all]
section
variable {prog : Program} {w : World} {A : Around} {E : Value → Shared → Prop} {s : Shared}
theorem applied_rev {sl : Addr} {vl vu vs : Value} {n : Nat} {Q : Int × Int × Nat → Shared → Prop} (hs : s.heap.IsSliceOf sl vl vu vs) (pl : IsPart vl none) (pu : IsPart vu none) (ps : IsPart vs (some (-1)))
    (h : Q ((n : Int) - 1, -1, n) s) : wpAny (model prog w) A (Builtin.Slice.sliceApplied (.ref sl) (pure (n : Int))) Q E s := by
  obtain ⟨ob, ho, _, hf⟩ := id hs
  unfold Builtin.Slice.sliceApplied Builtin.Slice.sliceFields
  refine wpAny_bind (wpAny_bind (wpAny_field ho hf (x := vl) rfl (wpAny_bind (wpAny_field ho hf (x := vu) rfl (wpAny_bind (wpAny_field ho hf (x := vs) rfl (wpAny_pure (wpAny_bind (HT.slicePart_ ps ?_)))))))))
  show wpAny _ _ (if ((-1 : Int) == 0) = true then _ else _) _ _ s
  rw [if_neg (by decide)]
  refine wpAny_bind (HT.slicePart_ pl (wpAny_bind (HT.slicePart_ pu (wpAny_bind (wpAny_pure ?_)))))
  show wpAny _ _ (match Builtin.Slice.sliceAdjust none none (-1) (n : Int) with | (lo, hi) => pure (lo, (-1 : Int), Builtin.Slice.slicePlaces lo hi (-1))) _ _ s
  rw [adj_rev]
  show wpAny _ _ (pure ((n : Int) - 1, (-1 : Int), Builtin.Slice.slicePlaces ((n : Int) - 1) (-1) (-1))) _ _ s
  rw [places_rev]
  exact wpAny_pure h
theorem getRevT {t sl : Addr} {items : Array Value} {vl vu vs : Value} {Q : Value → Shared → Prop} (ht : IsTup s.heap t items) (hs : s.heap.IsSliceOf sl vl vu vs) (pl : IsPart vl none) (pu : IsPart vu none) (ps : IsPart vs (some (-1)))
    (h : Q (.ref s.heap.objs.size) { s with heap := s.heap.push { cls := .type "tuple", data := .seq items.toList.reverse.toArray } }) (hsz : items.size ≤ sizeLine) : wpAny (model prog w) A (getItem (.ref t) (.ref sl)) Q E s := by
  have hz : sizeOk (.seq items.toList.reverse.toArray) := by
    show items.toList.reverse.toArray.size ≤ sizeLine
    simpa using hsz
  obtain ⟨ob, ho, hc, hf⟩ := id hs
  unfold getItem
  try with_reducible refine wpAny_holding ?_
  first | refine wpAny_bind (wpAny_pure ?_) | skip
  refine wpAny_bind (wpAny_sequenceKey ht.typeIs (by decide) (wpAny_bind (wpAny_callSpecial?_slot (name := Str.ofString "__getitem__") ht.typeIs PyProof.Rows.slot_tuple_getitem (wpAny_call_entry PyProof.Rows.slot_tuple_getitem ht.typeIs PyProof.Rows.entry_tuple_getitem ?_ (PyProof.Rows.args_tuple_getitem _ _)))))
  show wpAny _ _ (Builtin.Tuple.tupleItemsOf (.ref t) >>= _) _ _ s
  refine wpAny_bind (tupleItemsOf_ ht (wpAny_bind (wpAny_typeOf ⟨ob, ho, hc⟩ ?_)))
  rw [if_pos (by decide)]
  refine wpAny_bind (applied_rev hs pl pu ps ?_)
  have no : ¬ ((((items.size : Int) - 1 == 0) && ((-1 : Int) == 1) && (items.size == items.size)) = true) := by simp
  show wpAny _ _ (if (((items.size : Int) - 1 == 0) && ((-1 : Int) == 1) && (items.size == items.size)) = true then _ else _) _ _ s
  rw [if_neg no, pick_rev]
  first
    | exact wpAny_bind (m := Builtin.Tuple.tupleExact _) (wpAny_newObj_type (wpAny_pure ⟨_, rfl, wpAny_pure h⟩) hz)
    | exact wpAny_bind (m := Builtin.Tuple.tupleExact _) (wpAny_newObj_type (wpAny_bind (wpAny_pure (wpAny_pure ⟨_, rfl, wpAny_pure h⟩))) hz)
    | exact wpAny_bind (wpAny_bind (m := Builtin.Tuple.tupleExact _) (wpAny_newObj_type (wpAny_pure (wpAny_pure ⟨_, rfl, wpAny_pure h⟩)) hz))
    | exact wpAny_bind (wpAny_bind (m := Builtin.Tuple.tupleExact _) (wpAny_newObj_type (wpAny_pure ⟨_, rfl, wpAny_pure h⟩) hz))
end
section
variable {X : Cx} {e : Expr} {ta : TED}
def tRevT (K : PySem.W.Frag) (te : TE) : TE := fun σ H Q => te σ H fun x H1 => ∃ a xs, x = .ref a ∧ SqT K H1 a xs ∧ ∀ p, H1 p = none → Q (.ref p) (upd H1 p (.tup xs.reverse))
theorem pe_revT {te : TE} {k : Nat} {p1 p2 p3 pos : Pos} (he : PE X e te) : PE X (.Subscript e (.Slice none none (some (.UnaryOp .USub (.Constant (.int 1) k p1) p2)) p3) pos) (tRevT X.K te) := by
  refine ⟨fun pins s σ H Q I h => Subscript_ (thn (he.run pins s σ H _ I h) fun v s1 ⟨x, H1, I1, r1, a, xs, ex, hx, q⟩ => ?_)⟩
  subst ex
  cases r1
  have hst : PO X (some (.UnaryOp .USub (.Constant (.int 1) k p1) p2)) (tPart (tUn (rU fun i => .int (-i)) (tC (.int 1)))) := po_some (pe_un un_neg pe_int)
  refine wpAny_Slice (thn (po_none.run pins s1 σ H1 (fun o G => o = none ∧ G = H1) I1 ⟨rfl, rfl⟩) fun vl s2 ⟨l, H2, I2, pl, el, e2⟩ => ?_)
  subst el e2
  refine thn (po_none.run pins s2 σ H2 (fun o G => o = none ∧ G = H2) I2 ⟨rfl, rfl⟩) fun vu s3 ⟨u, H3, I3, pu, eu, e3⟩ => ?_
  subst eu e3
  refine thn (hst.run pins s3 σ H3 (fun o G => o = some (-1) ∧ G = H3) I3 ⟨1, rfl, -1, rfl, rfl, rfl⟩) fun vs s4 ⟨o, H4, I4, ps, eo, e4⟩ => ?_
  subst eo e4
  have I5 : Inv X pins σ H4 { s4 with heap := s4.heap.push { cls := .type "slice", data := .fields #[vl, vu, vs] } } := I4.kept (t' := s4.toks) fun b ob q => Heap.get?_push_of_some _ q
  obtain ⟨its, r, ht, hz⟩ := I5.tuple hx
  have hlen := r.length
  show wpAny (model X.prog X.w) X.A (subscriptTail e (.Slice none none (some (.UnaryOp .USub (.Constant (.int 1) k p1) p2)) p3) (.ref a) (.ref s4.heap.objs.size)) (EP X pins σ Q) X.xe { s4 with heap := s4.heap.push { cls := .type "slice", data := .fields #[vl, vu, vs] } }
  refine tail_any (ops := [.ref a, .ref s4.heap.objs.size]) ht.typeIs PyProof.Rows.slot_tuple_getitem.lookup ?_ (by with_unfolding_all rfl)
  refine getRevT ht (Heap.IsSliceOf.new _ vl vu vs) pl pu ps ?_ (by rw [List.size_toArray]; omega)
  exact ⟨.ref _, _, I5.laid (t' := s4.toks) (o := .tup xs.reverse) (fun b ob q => Heap.get?_push_of_some _ q) (Nat.le_refl _) ⟨by rw [List.length_reverse]; exact hz, _, r.reverse, IsTup.new _ _⟩, rfl, q _ (I5.hok.fresh (Nat.le_refl _))⟩
/-- t[::-1] -/
def tRevTD (te : TED) : TED := fun σ S Q => te σ S fun d S1 => match d with
  | .tup xs => Q (.tup xs.reverse) S1
  | _ => False
theorem de_revT {k : Nat} {p1 p2 p3 pos : Pos} (he : DE X e ta) : DE X (.Subscript e (.Slice none none (some (.UnaryOp .USub (.Constant (.int 1) k p1) p2)) p3) pos) (tRevTD ta) :=
  (pe_revT he).imp fun σ H Q ⟨G, σd, S, Qd, rs, rh, t, p⟩ => ⟨G, σd, S, _, rs, rh, t, fun S1 d v H1 f1 rh1 q1 t1 => by
    cases q1 with
    | @tup a vs ds h r => exact ⟨a, vs, rfl, h.sq, fun q hq => (p.fl f1).newT rh1 r.rev t1 hq⟩
    | _ => exact t1.elim⟩
end
end PD

/-! PD14: tracked sums and products of lists; a def by the written part. -/
namespace PD
open PySem PySem.Spec PyProof.Rows L2
section
variable {X : Cx} {a b : Expr} {ta tb : TED} {pos : Pos}
/-- xs + ys, tracked -/
def rAddR : R2D := fun x y S Q => match asLst S x, asLst S y with
  | some xs, some ys => xs.length + ys.length ≤ sizeLine ∧ ∀ p, S.hp p = none → Q (.ref p) (S.set p (.lst (xs ++ ys)))
  | _, _ => False
theorem de_addR (ha : DE X a ta) (hb : DE X b tb) : DE X (.BinOp a .Add b pos) (tBin rAddR ta tb) := de_op op_catK (fun G S H d1 d2 v1 v2 Qd Q rh q1 q2 t p => by
  unfold rAddR at t
  split at t
  · rename_i xs ys e1 e2
    obtain ⟨a, vs, rfl, l1, r1⟩ := asLst_ok rh e1 q1
    obtain ⟨b, ws, rfl, l2, r2⟩ := asLst_ok rh e2 q2
    exact ⟨a, b, vs, ws, rfl, rfl, l1, l2, by rw [← r1.length, ← r2.length]; exact t.1, fun q hq => p.newR rh (r1.append r2) t.2 hq⟩
  · exact t.elim) ha hb
/-- xs * n, tracked -/
def rMulR : R2D := fun x y S Q => match asLst S x, y with
  | some xs, .int k => (0 ≤ k ∧ k < 2 ^ 60 ∧ xs.length * k.toNat ≤ sizeLine) ∧ ∀ p, S.hp p = none → Q (.ref p) (S.set p (.lst (List.replicate k.toNat xs).flatten))
  | _, _ => False
theorem de_mulR (ha : DE X a ta) (hb : DE X b tb) : DE X (.BinOp a .Mult b pos) (tBin rMulR ta tb) := de_op op_repK (fun G S H d1 d2 v1 v2 Qd Q rh q1 q2 t p => by
  unfold rMulR at t
  split at t
  · rename_i xs k e1
    obtain ⟨a, vs, rfl, l1, r1⟩ := asLst_ok rh e1 q1
    cases q2
    exact ⟨a, _, vs, rfl, rfl, l1, t.1.1, t.1.2.1, by rw [← r1.length]; exact t.1.2.2, fun q hq => p.newR rh (r1.flat _) t.2 hq⟩
  · exact t.elim) ha hb
end
/-- a def of the module, in the written part -/
structure DefOf (K : PySem.W.Frag) (mg : Str → Option Value) (x : Str) (st : Stmt) : Prop where
  ex : ∃ f fd, Fun K x x st f fd ∧ mg x = some (.ref f)
theorem defOf_mk {x : Str} {K : PySem.W.Frag} {h : Heap} {mg : Str → Option Value} (X : K.In h) (G : h.Ns mainGlobals mg) {st : Stmt} {f : Addr} {od an : Option Addr} {sl : Array (Option Value)} {oc kV dc pm cd ct : Value}
    (a : PySem.W.nsIn K mainGlobals x = some (some (.ref f))) (l : K.lookup f = some ⟨oc, od, .func (PySem.W.fnOf x x (defArgs st) (defBody st) (defScope st) .none kV dc pm an cd ct), sl⟩) (c : PySem.W.codeIn K cd x = true) (k : PySem.W.keepIn K (.ref f) = true) : DefOf K mg x st := ⟨⟨f, _, fun_mk (st := st) l c k, PySem.W.mg_of X G a⟩⟩
end PD

/-! PD15: readings by values: a set of rules for simp, loops by invariants, the helpers that draw. -/
namespace PD
open PySem PySem.Spec PyProof.Rows L2
section
variable {S : HD}
theorem nrm_non : nrm S .non = .non := rfl
theorem nrm_bl {b : Bool} : nrm S (.bl b) = .bl b := rfl
theorem nrm_int {b : Int} : nrm S (.int b) = .int b := rfl
theorem nrm_str {b : Str} : nrm S (.str b) = .str b := rfl
theorem nrm_tup {b : List D} : nrm S (.tup b) = .tup b := rfl
theorem nrm_lst {b : List D} : nrm S (.lst b) = .lst b := rfl
theorem nrm_dic {b : List (D × D)} : nrm S (.dic b) = .dic b := rfl
theorem nrm_ref {a : Addr} : nrm S (.ref a) = match S.hp a with
    | some (.lst xs) => .lst xs
    | _ => .ref a := rfl
end
theorem gt_z {x : Option D} {r : SD} : gt (x :: r) 0 = x := rfl
theorem gt_s {x : Option D} {r : SD} {n : Nat} : gt (x :: r) (n + 1) = gt r n := rfl
theorem st_z {x : Option D} {r : SD} {d : D} : st (x :: r) 0 d = some d :: r := rfl
theorem st_s {x : Option D} {r : SD} {n : Nat} {d : D} : st (x :: r) (n + 1) d = x :: st r n d := rfl
/-! ### comprehensions, loops by invariants -/
/-- the state stays: what the items give -/
theorem lcD_pure {g : TGD} {tt : TTD} {te : TED} {σ : SD} {keep : HD → Prop} {Q : List D → HD → Prop} (f : D → Option D) {S : HD} (hk : keep S) : ∀ (xs acc : List D),
    (∀ d ∈ xs, ∀ (Q1 : D → HD → Prop) (Q0 : HD → Prop), (match f d with | some y => Q1 y S | none => Q0 S) → g d σ S fun σ2 S2 => tt σ2 S2 fun b S3 => if b = true then te σ2 S3 Q1 else Q0 S3) →
    Q (acc ++ xs.filterMap f) S → lcD g tt te σ keep Q xs acc S
  | [], acc, _, q => ⟨hk, by simpa using q⟩
  | d :: r, acc, h, q => ⟨hk, h d List.mem_cons_self _ _ (by
      cases e : f d with
      | none => exact lcD_pure f hk r acc (fun d hd => h d (List.mem_cons_of_mem _ hd)) (by simpa [List.filterMap_cons, e] using q)
      | some y => exact lcD_pure f hk r (acc ++ [y]) (fun d hd => h d (List.mem_cons_of_mem _ hd)) (by simpa [List.filterMap_cons, e] using q))⟩
/-- by an invariant of what is made and the state -/
theorem lcD_inv {g : TGD} {tt : TTD} {te : TED} {σ : SD} {keep : HD → Prop} {Q : List D → HD → Prop} (I : Nat → List D → HD → Prop) {all : List D}
    (step : ∀ (i : Nat) (d : D) (acc : List D) (S : HD) (N : List D → HD → Prop), all[i]? = some d → I i acc S → (∀ acc S, I (i + 1) acc S → N acc S) → keep S ∧ g d σ S fun σ2 S2 => tt σ2 S2 fun b S3 => if b = true then te σ2 S3 (fun y S4 => N (acc ++ [y]) S4) else N acc S3)
    (stop : ∀ acc S, I all.length acc S → keep S ∧ Q acc S) : ∀ (xs : List D) (i : Nat) (acc : List D) (S : HD), xs = all.drop i → i ≤ all.length → I i acc S → lcD g tt te σ keep Q xs acc S
  | [], i, acc, S, e, hi, h => by
    have : i = all.length := by have := congrArg List.length e; simp at this; omega
    subst this
    exact stop acc S h
  | d :: r, i, acc, S, e, hi, h => by
    have hl : i < all.length := by
      apply Nat.lt_of_not_le
      intro q
      rw [List.drop_of_length_le q] at e
      cases e
    rw [List.drop_eq_getElem_cons hl] at e
    injection e with e1 e2
    exact step i d acc S (fun acc S => lcD g tt te σ keep Q r acc S) (by simp [hl, e1]) h fun acc S h => lcD_inv I step stop r (i + 1) acc S e2 hl h
theorem lcD_go {g : TGD} {tt : TTD} {te : TED} {σ : SD} {keep : HD → Prop} {Q : List D → HD → Prop} (I : Nat → List D → HD → Prop) {xs : List D} {S : HD} (h0 : I 0 [] S)
    (step : ∀ (i : Nat) (d : D) (acc : List D) (S : HD) (N : List D → HD → Prop), xs[i]? = some d → I i acc S → (∀ acc S, I (i + 1) acc S → N acc S) → keep S ∧ g d σ S fun σ2 S2 => tt σ2 S2 fun b S3 => if b = true then te σ2 S3 (fun y S4 => N (acc ++ [y]) S4) else N acc S3)
    (stop : ∀ acc S, I xs.length acc S → keep S ∧ Q acc S) : lcD g tt te σ keep Q xs [] S := lcD_inv I step stop xs 0 [] S rfl (Nat.zero_le _) h0
theorem loopD_inv {g : TGD} {tb : TSD} {E : EndsD} {keep : HD → Prop} (I : Nat → SD → HD → Prop) {all : List D}
    (step : ∀ (i : Nat) (d : D) (σ : SD) (S : HD) (N : SD → HD → Prop), all[i]? = some d → I i σ S → (∀ σ S, I (i + 1) σ S → N σ S) → keep S ∧ g d σ S fun σ2 S2 => tb { nx := N, ct := N, bk := E.nx, rt := E.rt } σ2 S2)
    (stop : ∀ σ S, I all.length σ S → keep S ∧ E.nx σ S) : ∀ (xs : List D) (i : Nat) (σ : SD) (S : HD), xs = all.drop i → i ≤ all.length → I i σ S → loopD g tb E keep xs σ S
  | [], i, σ, S, e, hi, h => by
    have : i = all.length := by have := congrArg List.length e; simp at this; omega
    subst this
    exact stop σ S h
  | d :: r, i, σ, S, e, hi, h => by
    have hl : i < all.length := by
      apply Nat.lt_of_not_le
      intro q
      rw [List.drop_of_length_le q] at e
      cases e
    rw [List.drop_eq_getElem_cons hl] at e
    injection e with e1 e2
    exact step i d σ S (loopD g tb E keep r) (by simp [hl, e1]) h fun σ S h => loopD_inv I step stop r (i + 1) σ S e2 hl h
theorem loopD_go {g : TGD} {tb : TSD} {E : EndsD} {keep : HD → Prop} (I : Nat → SD → HD → Prop) {xs : List D} {σ : SD} {S : HD} (h0 : I 0 σ S)
    (step : ∀ (i : Nat) (d : D) (σ : SD) (S : HD) (N : SD → HD → Prop), xs[i]? = some d → I i σ S → (∀ σ S, I (i + 1) σ S → N σ S) → keep S ∧ g d σ S fun σ2 S2 => tb { nx := N, ct := N, bk := E.nx, rt := E.rt } σ2 S2)
    (stop : ∀ σ S, I xs.length σ S → keep S ∧ E.nx σ S) : loopD g tb E keep xs σ S := loopD_inv I step stop xs 0 σ S rfl (Nat.zero_le _) h0
theorem rngD_get {lo : Int} {n i : Nat} {d : D} (h : (rngD lo n)[i]? = some d) : i < n ∧ d = .int (lo + i) := by
  unfold rngD at h
  rw [List.getElem?_map] at h
  by_cases hi : i < n
  · rw [List.getElem?_range hi] at h
    cases h
    exact ⟨hi, rfl⟩
  · rw [List.getElem?_eq_none (by simpa using hi)] at h
    cases h
theorem fin.here {Q : QD} {d : D} {S : HD} (q : Q d S) : fin Q d S := .le (.refl _) q
/-! ### one of the items -/
def spOne : SpD := fun ds S Q => ∃ x xs, ds = [.deck, x] ∧ asSeq S x = some xs ∧ xs ≠ [] ∧ xs.length ≤ 500000000 ∧ S.c < 1000000000000 ∧ ∀ d ∈ xs, Q d (S.tick 1)
theorem asSeq_tick {S : HD} {n : Nat} {x : D} : asSeq (S.tick n) x = asSeq S x := by cases x <;> rfl
theorem atI_nat {α : Type} {xs : List α} {r : Int} (h0 : 0 ≤ r) (h1 : r < xs.length) : ∃ d, atI xs r = some d ∧ d ∈ xs := by
  have h2 : r.toNat < xs.length := by omega
  refine ⟨xs[r.toNat], ?_, List.getElem_mem h2⟩
  unfold atI ixN
  rw [if_pos h0, if_pos h1]
  simp [h2]
end PD

/-! PD16: the helpers that draw. -/
local macro_rules | `(tactic| walk_at "rdx") => `(tactic| simp only [PD.pad, PD.gt_z, PD.gt_s, PD.st_z, PD.st_s, PD.sNextD, PD.sSeqD, PD.sBreakD, PD.sContD, PD.sDropD, PD.sRetD, PD.sRetND, PD.sIfD, PD.sNeverD, PD.sAsgD, PD.sPar2, PD.sPar3, PD.gNameD, PD.gNilD, PD.gConsD, PD.gTupD, PD.gSubD, PD.tNilD, PD.tConsD, PD.tTupD, PD.tLstV, PD.tLstR, PD.tBin, PD.tTst, PD.tAndD, PD.tOrD, PD.tNotD, PD.tIfD, PD.tAndV, PD.tOrV, PD.tNotV, PD.tUnD, PD.rNeg, PD.tCallD, PD.tSlot, PD.tCD, PD.tChainD, PD.rIsN, PD.rNotN, PD.isN, PD.rIsiD, PD.isiB, PD.Ty.name, PD.rCmpI, PD.fLt, PD.fLe, PD.fGt, PD.fGe, PD.rAddD, PD.rSubD, PD.rFdivD, PD.rModD, PD.rPowD, PD.rMulD, PD.rAddR, PD.rMulR, PD.asSeq, PD.asLst, PD.rLenD, PD.rTupleD, PD.rListV, PD.rListR, PD.rIntD, PD.rBoolD, PD.rAbsD, PD.rIxD, PD.oNone, PD.oSome, PD.tSlD, PD.rSlD, PD.tRevTD, PD.rEqD, PD.rNeD, PD.nrm, PD.iSeqD, PD.iRng1D, PD.iRng2D, PD.sForD, PD.tLcV, PD.tLcR, PD.tYesD, PD.wipeD, PD.tMethL, PD.rAppD, PD.isRefL, PD.tDicV, PD.rSetD, PD.rReprD, reduceIte, true_and, and_true, Bool.not_true, Bool.not_false, Bool.false_eq_true, List.length_cons, List.length_nil, List.set_cons_zero, List.set_cons_succ, PD.HD.set_same, PD.HD.tick_hp, PD.HD.tick_c, PD.HD.tick_dk, PD.HD.set_c, PD.HD.set_dk])
namespace PD
open PySem PySem.Spec PyProof.Rows
def rdDeck : TSD :=
  sRetD (tLstR (tConsD (tLcR (iSeqD (tSlD (tSlot 0) (oNone) (oSome (tCD (.int 63))))) (gNameD 1) (tYesD) (tCallD rAbsD (tConsD (tSlot 1) (tNilD))) [1]) (tConsD (tCD (.int 0)) (tNilD))))
def rdDraw : TSD :=
  sSeqD (sAsgD (tBin rAddD (tBin rIxD (tSlot 0) (tCD (.int 1))) (tCD (.int 1))) (gSubD (tSlot 0) (tCD (.int 1))))
  (sSeqD (sAsgD (tTupD (tConsD (tCD (.int 0)) (tConsD (tUnD rNeg (tCD (.int 1))) (tNilD)))) (gTupD 2 (gConsD (gNameD 2) (gConsD (gNameD 3) (gNilD)))))
  (sSeqD (sIfD (tTst (tBin (rCmpI fGt) (tCallD rLenD (tConsD (tBin rIxD (tSlot 0) (tCD (.int 0))) (tNilD))) (tCD (.int 0)))) (sSeqD (sAsgD (tBin rModD (tCallD rIntD (tConsD (tBin rIxD (tSlot 0) (tCD (.int 1))) (tNilD))) (tCallD rLenD (tConsD (tBin rIxD (tSlot 0) (tCD (.int 0))) (tNilD)))) (gNameD 3))
  (sAsgD (tBin rIxD (tBin rIxD (tSlot 0) (tCD (.int 0))) (tSlot 3)) (gNameD 2))) (sNextD))
  (sSeqD (sIfD (tTst (tBin (rCmpI fGe) (tSlot 2) (tBin rPowD (tCD (.int 10)) (tCD (.int 18))))) (sSeqD (sAsgD (tBin rFdivD (tCallD rIntD (tConsD (tSlot 2) (tNilD))) (tSlot 1)) (gSubD (tBin rIxD (tSlot 0) (tCD (.int 0))) (tSlot 3)))
  (sRetD (tBin rModD (tCallD rIntD (tConsD (tSlot 2) (tNilD))) (tSlot 1)))) (sNextD))
  (sSeqD (sAsgD (tBin rAddD (tBin rAddD (tBin rModD (tCallD rIntD (tConsD (tSlot 2) (tNilD))) (tCD (.int 2147483563))) (tBin rMulD (tCD (.int 8117)) (tBin rIxD (tSlot 0) (tCD (.int 1))))) (tCD (.int 3))) (gNameD 4))
  (sRetD (tBin rModD (tCallD rIntD (tConsD (tBin rModD (tCallD rIntD (tConsD (tBin rPowD (tSlot 4) (tCD (.int 5))) (tNilD))) (tCD (.int 2147483629))) (tNilD))) (tSlot 1)))))))
def rdOne (sp : SpD) : TSD :=
  sRetD (tBin rIxD (tSlot 1) (tCallD sp (tConsD (tSlot 0) (tConsD (tCallD rLenD (tConsD (tSlot 1) (tNilD))) (tNilD)))))
theorem atI20 {x y : D} : L2.atI [x, y] 0 = some x := rfl
theorem atI21 {x y : D} : L2.atI [x, y] 1 = some y := rfl
theorem ixN21 : L2.ixN (0 + 1 + 1) 1 = some 1 := rfl
/-- the end of a draw: a number, the deck as it was but for one cell -/
def drawn (a b : Addr) (k : Nat) (m : Int) : QD := fun d S1 => ∃ (r : Int) (cells' : List Int), d = .int r ∧ 0 ≤ r ∧ r < m ∧ S1.hp a = some (.lst [.ref b, .int ((k + 1 : Nat) : Int)]) ∧ S1.hp b = some (.lst (cells'.map D.int)) ∧ cells'.length ≤ 63 ∧ ∀ z ∈ cells', 0 ≤ z
/-- behind the choice of the cell -/
def rdTail : TSD :=
  (sSeqD (sIfD (tTst (tBin (rCmpI fGe) (tSlot 2) (tBin rPowD (tCD (.int 10)) (tCD (.int 18))))) (sSeqD (sAsgD (tBin rFdivD (tCallD rIntD (tConsD (tSlot 2) (tNilD))) (tSlot 1)) (gSubD (tBin rIxD (tSlot 0) (tCD (.int 0))) (tSlot 3)))
  (sRetD (tBin rModD (tCallD rIntD (tConsD (tSlot 2) (tNilD))) (tSlot 1)))) (sNextD))
  (sSeqD (sAsgD (tBin rAddD (tBin rAddD (tBin rModD (tCallD rIntD (tConsD (tSlot 2) (tNilD))) (tCD (.int 2147483563))) (tBin rMulD (tCD (.int 8117)) (tBin rIxD (tSlot 0) (tCD (.int 1))))) (tCD (.int 3))) (gNameD 4))
  (sRetD (tBin rModD (tCallD rIntD (tConsD (tBin rModD (tCallD rIntD (tConsD (tBin rPowD (tSlot 4) (tCD (.int 5))) (tNilD))) (tCD (.int 2147483629))) (tNilD))) (tSlot 1)))))
theorem tail_ok {S : HD} {a b : Addr} {cells : List Int} {k : Nat} {m c at_ : Int} (hab : a ≠ b) (hk : k < 1000000000000) (hl : cells.length ≤ 63) (h0 : ∀ z ∈ cells, 0 ≤ z) (h1 : 1 ≤ m) (h2 : m ≤ 500000000) (hc0 : 0 ≤ c)
    (ha : S.hp a = some (.lst [.ref b, .int ((k + 1 : Nat) : Int)])) (hb : S.hp b = some (.lst (cells.map D.int))) (hat : c = 0 ∨ (0 ≤ at_ ∧ at_ < cells.length)) {bk ct nx : SD → HD → Prop} :
    rdTail { nx := nx, rt := drawn a b k m, bk := bk, ct := ct } [some (.ref a), some (.int m), some (.int c), some (.int at_), none] S := by
  unfold rdTail
  have hba : b ≠ a := fun e => hab e.symm
  walk_at "rdx"
  refine ⟨⟨by decide, by decide, by decide⟩, ?_⟩
  by_cases hc : (10 : Int) ^ (18 : Int).toNat ≤ c
  · have hc' : (1000000000000000000 : Int) ≤ c := hc
    rcases hat with e | ⟨h3, h4⟩
    · omega
    have hix : L2.ixN cells.length at_ = some at_.toNat := by unfold L2.ixN; rw [if_pos h3, if_pos h4]
    simp only [hc, decide_true, if_true]
    refine ⟨⟨by omega, by omega⟩, ?_⟩
    simp only [ha, hb, atI20, List.length_map, hix]
    refine ⟨by omega, c % m, cells.set at_.toNat (c / m), rfl, Int.emod_nonneg _ (by omega), Int.emod_lt_of_pos _ (by omega), ?_, ?_, ?_, ?_⟩
    · rw [HD.set_ne hab]; exact ha
    · rw [HD.set_same, List.map_set]
    · rw [List.length_set]; exact hl
    · intro z hz
      rcases List.mem_or_eq_of_mem_set hz with h | h
      · exact h0 z h
      · subst h; exact Int.ediv_nonneg (by omega) (by omega)
  · simp only [hc, decide_false, Bool.false_eq_true, if_false]
    simp only [ha, atI21]
    have e1 := Int.emod_nonneg c (b := 2147483563) (by decide)
    have e2 := Int.emod_lt_of_pos c (b := 2147483563) (by decide)
    refine ⟨by decide, ?_, ?_⟩
    · left
      decide
    refine ⟨⟨by decide, by decide, ?_⟩, by decide, by omega, _, cells, rfl, Int.emod_nonneg _ (by omega), Int.emod_lt_of_pos _ (by omega), ha, hb, hl, h0⟩
    omega
theorem drawOk : DrawOk rdDraw 5 := by
  intro S a b cells k m hab hk hl h0 h1 h2
  have hba : b ≠ a := fun e => hab e.symm
  have ha : (openD S a b cells k).hp a = some (.lst [.ref b, .int (k : Int)]) := if_pos rfl
  have hb : (openD S a b cells k).hp b = some (.lst (cells.map D.int)) := (if_neg hba).trans (if_pos rfl)
  show rdDraw { nx := fun _ _ => False, rt := drawn a b k m } (pad 5 [.ref a, .int m]) (openD S a b cells k)
  generalize openD S a b cells k = S0 at ha hb
  unfold rdDraw
  rw [show (sSeqD (sIfD (tTst (tBin (rCmpI fGe) (tSlot 2) (tBin rPowD (tCD (.int 10)) (tCD (.int 18))))) _ _) _) = rdTail from rfl]
  generalize hT : rdTail = T
  walk_at "rdx"
  simp only [ha, atI21]
  walk_at "rdx"
  simp only [ha, ixN21]
  walk_at "rdx"
  have ha' : (S0.set a (.lst [.ref b, .int ((k : Int) + 1)])).hp a = some (.lst [.ref b, .int ((k + 1 : Nat) : Int)]) := HD.set_same
  have hb' : (S0.set a (.lst [.ref b, .int ((k : Int) + 1)])).hp b = some (.lst (cells.map D.int)) := (HD.set_ne hba).trans hb
  generalize (S0.set a (.lst [.ref b, .int ((k : Int) + 1)])) = S1 at ha' hb'
  refine ⟨by decide, ?_⟩
  simp only [atI20, ha', hb', List.length_map]
  cases cells with
  | nil =>
    simp only [List.length_nil, Int.natCast_zero, Int.lt_irrefl, decide_false, Bool.false_eq_true, if_false]
    subst hT
    exact tail_ok hab hk hl h0 h1 h2 (Int.le_refl 0) ha' hb' (.inl rfl)
  | cons z0 zs =>
    have hpos : (0 : Int) < (((z0 :: zs).length : Nat) : Int) := by simp only [List.length_cons]; omega
    simp only [hpos, decide_true, if_true, atI21, true_and]
    walk_at "rdx"
    generalize hr : ((k : Int) + 1) % ((zs.length + 1 : Nat) : Int) = r
    have e1 : 0 ≤ r := by rw [← hr]; exact Int.emod_nonneg _ (by omega)
    have e2 : r < (((z0 :: zs).length : Nat) : Int) := by rw [← hr, List.length_cons]; exact Int.emod_lt_of_pos _ (by omega)
    obtain ⟨z, hz, hm⟩ := atI_nat (xs := z0 :: zs) e1 e2
    have hz' : L2.atI ((z0 :: zs).map D.int) r = some (.int z) := by
      unfold L2.atI at hz ⊢
      rw [List.length_map]
      cases q : L2.ixN (z0 :: zs).length r with
      | none => rw [q] at hz; cases hz
      | some j =>
        rw [q] at hz
        show ((z0 :: zs).map D.int)[j]? = _
        rw [List.getElem?_map]
        rw [show (z0 :: zs)[j]? = some z from hz]
        rfl
    rw [hz']
    subst hT
    exact tail_ok hab hk hl h0 h1 h2 (h0 z hm) ha' hb' (.inr ⟨e1, e2⟩)
theorem rngCut {xs : List Int} : cutD (xs.map D.int) none (some 63) = (xs.take 63).map D.int := by
  unfold cutD
  simp only [List.length_map, HT.sIx_none, List.drop_zero, Nat.sub_zero]
  rw [show ((some 63 : Option Int)) = some ((63 : Nat) : Int) from rfl, HT.sIx_nat, List.map_take]
  by_cases h : xs.length ≤ 63
  · rw [Nat.min_eq_right h, List.take_of_length_le (by simp), List.take_of_length_le (by simpa using h)]
  · rw [Nat.min_eq_left (by omega)]
theorem deckOk : DeckOk rdDeck 2 := by
  intro S ns hd
  unfold rdDeck
  walk_at "rdx"
  rw [rngCut]
  have h63 : (ns.take 63).length ≤ 63 := by rw [List.length_take]; omega
  generalize ns.take 63 = ms at h63
  intro hz
  refine ⟨hz, ?_⟩
  refine lcD_go (fun i acc S' => S' = S ∧ acc = (ms.take i).map fun z => D.int (if z < 0 then -z else z)) ⟨rfl, rfl⟩ (fun i d acc S' N hi ⟨e, ea⟩ k => ?_) fun acc S' ⟨e, ea⟩ => ?_
  · subst e
    rw [List.getElem?_map] at hi
    obtain ⟨z, hz, e2⟩ := Option.map_eq_some_iff.mp hi
    subst e2
    walk_at "rdx"
    refine k _ _ ⟨rfl, ?_⟩
    rw [ea, List.take_add_one, hz]
    simp
  · subst e ea
    refine ⟨trivial, fun b hb => ⟨by decide, fun a ha => ?_⟩⟩
    have hab : a ≠ b := fun e => by
      subst e
      rw [HD.set_same] at ha
      cases ha
    have hba : b ≠ a := fun e => hab e.symm
    rw [HD.set_ne hab] at ha
    refine ⟨a, b, ms.map fun z => if z < 0 then -z else z, rfl, hab, ha, hb, HD.set_same, ?_, ?_, ?_, ?_, hd⟩
    · rw [HD.set_ne hba, HD.set_same, List.take_of_length_le (by simp), List.map_map]
      rfl
    · simpa using h63
    · intro z hz
      obtain ⟨y, _, rfl⟩ := List.mem_map.mp hz
      by_cases h : y < 0
      · rw [if_pos h]; omega
      · rw [if_neg h]; omega
    · intro x o hx
      rw [HD.set_ne (fun e => by rw [e, ha] at hx; cases hx), HD.set_ne (fun e => by rw [e, hb] at hx; cases hx)]
      exact hx
theorem spOne_len (ds : List D) (S : HD) (Q : QD) (h : spOne ds S Q) : ds.length = 2 := by
  obtain ⟨x, xs, rfl, _⟩ := h
  rfl
theorem oneOk {E : EndsD} (ds : List D) (S : HD) (Q : QD) (h : spOne ds S Q) (hE : ∀ d S, Q d S → E.rt d S) : rdOne spDraw E (pad 2 ds) S := by
  obtain ⟨x, xs, rfl, hx, hne, hl, hc, q⟩ := h
  unfold rdOne
  have hpos : 1 ≤ xs.length := by cases xs with
    | nil => exact (hne rfl).elim
    | cons _ _ => simp
  have key : spDraw [.deck, .int xs.length] S fun d S1 => ∀ y, asSeq S1 x = some y → (match d with
    | .int i => (match L2.atI y i with
      | some d => E.rt d S1
      | none => False)
    | _ => False) := by
    refine ⟨⟨by omega, by omega, hc⟩, fun r h0 h1 => fun y hy => ?_⟩
    rw [asSeq_tick, hx] at hy
    cases hy
    obtain ⟨d, e, m⟩ := atI_nat h0 h1
    simp only [e]
    exact hE _ _ (q d m)
  have mono : ∀ (ds : List D) (S : HD) (Q Q' : QD), (∀ d S, Q d S → Q' d S) → spDraw ds S Q → spDraw ds S Q' := by
    intro ds S Q Q' i h
    unfold spDraw at h ⊢
    split at h
    · exact ⟨h.1, fun r h0 h1 => i _ _ (h.2 r h0 h1)⟩
    · exact h.elim
  cases x with
  | tup ys =>
    cases hx
    walk_at "rdx"
    refine mono _ _ _ _ (fun d S1 h => ?_) key
    have h := h _ rfl
    cases d <;> first | exact h | exact h.elim
  | lst ys =>
    cases hx
    walk_at "rdx"
    refine mono _ _ _ _ (fun d S1 h => ?_) key
    have h := h _ rfl
    cases d <;> first | exact h | exact h.elim
  | ref a =>
    have hx' := hx
    simp only [asSeq] at hx'
    split at hx'
    · rename_i ys e
      cases hx'
      walk_at "rdx"
      simp only [e]
      refine ⟨⟨by omega, by omega, hc⟩, fun r h0 h1 => ?_⟩
      obtain ⟨d, e2, m⟩ := atI_nat h0 h1
      simp only [HD.tick_hp, e, e2]
      exact hE _ _ (q d m)
    · cases hx'
  | _ => cases hx
end PD

/-! PD17: comparisons and classes of plain data. -/
namespace PD
open PySem PySem.Spec PyProof.Rows
theorem eqk_int {i j : Int} : eqk (.int i) (.int j) = true := by simp [eqk]
theorem eqd_int {i j : Int} : eqd (.int i) (.int j) = decide (i = j) := by
  unfold eqd
  simp only [py]
  first
  | rfl
  | (simp [PyData.eqv]; done)
  | (unfold PyData.eqv; simp)
theorem eqk_str {i j : Str} : eqk (.str i) (.str j) = true := by simp [eqk]
theorem eqd_str {i j : Str} : eqd (.str i) (.str j) = decide (i = j) := by
  unfold eqd
  simp only [py]
  first
  | rfl
  | (simp [PyData.eqv]; done)
  | (unfold PyData.eqv; simp)
theorem eqk_lst0 {xs : List D} : eqk (.lst xs) (.lst []) = true := by simp [eqk]
theorem eqd_lst0 {xs : List D} : eqd (.lst xs) (.lst []) = xs.isEmpty := by
  unfold eqd
  simp only [py, pyL]
  unfold PyData.eqv
  simp only [eqv_nilL, eqv_nilR, pyL_isEmpty]
theorem eqk_tup0 {xs : List D} : eqk (.tup xs) (.tup []) = true := by simp [eqk]
theorem eqd_tup0 {xs : List D} : eqd (.tup xs) (.tup []) = xs.isEmpty := by
  unfold eqd
  simp only [py, pyL]
  unfold PyData.eqv
  simp only [eqv_nilL, eqv_nilR, pyL_isEmpty]
theorem okRL_mem {x : D} : ∀ {xs : List D}, okRL xs = true → x ∈ xs → okR x = true
  | [], _, m => by cases m
  | y :: ys, h, m => by
    simp only [okRL, Bool.and_eq_true] at h
    rcases List.mem_cons.mp m with e | e
    · subst e; exact h.1
    · exact okRL_mem h.2 e
theorem okRL_of : ∀ {xs : List D}, (∀ x ∈ xs, okR x = true) → okRL xs = true
  | [], _ => rfl
  | y :: ys, h => by
    simp only [okRL, Bool.and_eq_true]
    exact ⟨h y List.mem_cons_self, okRL_of fun x m => h x (List.mem_cons_of_mem _ m)⟩
theorem depL_le {x : D} : ∀ {xs : List D}, x ∈ xs → dep x ≤ depL xs
  | [], m => by cases m
  | y :: ys, m => by
    simp only [depL]
    rcases List.mem_cons.mp m with e | e
    · subst e; omega
    · have := depL_le e; omega
theorem depL_of {n : Nat} : ∀ {xs : List D}, (∀ x ∈ xs, dep x ≤ n) → depL xs ≤ n
  | [], _ => Nat.zero_le _
  | y :: ys, h => by
    have h1 := h y List.mem_cons_self
    have h2 := depL_of (xs := ys) fun x m => h x (List.mem_cons_of_mem _ m)
    simp only [depL]
    omega
theorem szL_of {n : Nat} : ∀ {xs : List D}, (∀ x ∈ xs, sz x ≤ n) → szL xs ≤ xs.length * (n + 2)
  | [], _ => by simp [szL]
  | y :: ys, h => by
    have h1 := h y List.mem_cons_self
    have h2 := szL_of (xs := ys) fun x m => h x (List.mem_cons_of_mem _ m)
    simp only [szL, List.length_cons, Nat.add_mul, Nat.one_mul]
    omega
theorem szL_mem {x : D} : ∀ {xs : List D}, x ∈ xs → sz x ≤ szL xs
  | [], m => by cases m
  | y :: ys, m => by
    simp only [szL]
    rcases List.mem_cons.mp m with e | e
    · subst e; omega
    · have := szL_mem e; omega
theorem szL_app : ∀ {xs ys : List D}, szL (xs ++ ys) = szL xs + szL ys
  | [], ys => by simp [szL]
  | x :: xs, ys => by simp only [List.cons_append, szL, szL_app (xs := xs)]; omega
theorem empty_filter {α : Type} (p : α → Bool) : ∀ xs : List α, (xs.filterMap fun d => if p d = true then some d else none).isEmpty = xs.all fun d => !p d
  | [] => rfl
  | x :: xs => by
    rw [List.filterMap_cons, List.all_cons, ← empty_filter p xs]
    cases h : p x <;> simp [h]
/-- what a def computes, nothing changed -/
def spFn (f : List D → Option D) : SpD := fun ds S Q => match f ds with
  | some r => Q r S
  | none => False
/-- of a built-in class -/
def isT (t : Ty) (d : D) : Bool := (isiB ⟨fun _ => none, 0, none⟩ t d).getD false
theorem isT_ok {S : HD} {t : Ty} {d : D} (h : okR d = true) : isiB S t d = some (isT t d) := by
  cases d <;> first | rfl | cases h
theorem isT_tup {d : D} (h : isT .tuple d = true) : ∃ xs, d = .tup xs := by
  cases d <;> first | exact ⟨_, rfl⟩ | cases h
section
variable {S : HD} {t : Ty}
theorem isi_non : isiB S t .non = some false := by cases t <;> rfl
theorem isi_bl {b : Bool} : isiB S t (.bl b) = some (match t with | .int => true | .bool => true | _ => false) := rfl
theorem isi_int {b : Int} : isiB S t (.int b) = some (match t with | .int => true | _ => false) := rfl
theorem isi_str {b : Str} : isiB S t (.str b) = some (match t with | .str => true | _ => false) := rfl
theorem isi_tup {b : List D} : isiB S t (.tup b) = some (match t with | .tuple => true | _ => false) := rfl
theorem isi_lst {b : List D} : isiB S t (.lst b) = some (match t with | .list => true | _ => false) := rfl
theorem isi_dic {b : List (D × D)} : isiB S t (.dic b) = some (match t with | .dict => true | _ => false) := rfl
end
/-- a later state of a def's run: what was tracked stands, no more than n draws -/
structure Up (n : Nat) (S S' : HD) : Prop where
  hp : ∀ a o, S.hp a = some o → S'.hp a = some o
  c : S'.c ≤ S.c + n
  dk : S'.dk = S.dk
theorem Up.refl (S : HD) : Up 0 S S := ⟨fun _ _ h => h, Nat.le_refl _, rfl⟩
theorem Up.le {n : Nat} {S S' : HD} (h : Up n S S') : HLe (S.tick n) S' := ⟨h.hp, h.c, h.dk.symm⟩
theorem Up.mono {n m : Nat} {S S' : HD} (h : Up n S S') (l : n ≤ m) : Up m S S' := ⟨h.hp, by have := h.c; omega, h.dk⟩
theorem Up.tick {n k : Nat} {S S' : HD} (h : Up n S S') : Up (n + k) S (S'.tick k) := ⟨h.hp, by have := h.c; simp only [HD.tick_c]; omega, h.dk⟩
theorem Up.set {n : Nat} {S S' : HD} {p : Addr} {o : OD} (h : Up n S S') (hp : S.hp p = none) : Up n S (S'.set p o) :=
  ⟨fun a u e => by rw [HD.set_ne fun z => by rw [z, hp] at e; cases e]; exact h.hp a u e, h.c, h.dk⟩
theorem Up.none {n : Nat} {S S' : HD} {p : Addr} (h : Up n S S') (hp : S'.hp p = none) : S.hp p = none := by
  cases e : S.hp p with
  | none => rfl
  | some o => rw [h.hp p o e] at hp; cases hp
theorem Up.new {n : Nat} {S S' : HD} {p : Addr} {o : OD} (h : Up n S S') (hp : S'.hp p = Option.none) : Up n S (S'.set p o) := h.set (h.none hp)
theorem Up.fin {n : Nat} {S S' : HD} {Q : QD} {d : D} (h : Up n S S') (q : Q d (S.tick n)) : PD.fin Q d S' := fin.le h.le q
theorem Up.trans {n m : Nat} {S S1 S2 : HD} (a : Up n S S1) (b : Up m S1 S2) : Up (n + m) S S2 := ⟨fun x o h => b.hp x o (a.hp x o h), by have := a.c; have := b.c; omega, b.dk.trans a.dk⟩
theorem lst_nodup {i n : Nat} {d : D} {xs : List D} (h : xs[i]? = some d) : d ∈ xs := List.mem_of_getElem? h
/-- all ends of a def's body are these two -/
abbrev ends (Q : QD) : EndsD := { nx := fun _ S2 => fin Q .non S2, rt := fin Q, bk := fun _ _ => False, ct := fun _ _ => False }
end PD

/-! PD18: slices of plain data, sizes of parts. -/
namespace PD
open PySem PySem.Spec PyProof.Rows
/-- one statement, the rest held back -/
theorem seq_step {t u : TSD} {E : EndsD} {σ : SD} {S : HD} (h : ∀ N : SD → HD → Prop, (∀ σ S, u E σ S → N σ S) → t { E with nx := N } σ S) : sSeqD t u E σ S := h (u E) fun _ _ h => h
theorem cut_pre (xs : List D) (a : Nat) : cutD xs none (some (a : Int)) = xs.take a := by
  unfold cutD
  rw [HT.sIx_none, HT.sIx_nat, List.drop_zero, Nat.sub_zero]
  by_cases h : a ≤ xs.length
  · rw [Nat.min_eq_left h]
  · rw [Nat.min_eq_right (by omega), List.take_of_length_le (Nat.le_refl _), List.take_of_length_le (by omega)]
theorem cut_last (xs : List D) : cutD xs none (some (-1)) = xs.take (xs.length - 1) := by
  unfold cutD
  rw [HT.sIx_none, List.drop_zero, Nat.sub_zero]
  have e : HT.sIx xs.length xs.length (some (-1)) = xs.length - 1 := by
    unfold HT.sIx
    simp only [show ((-1 : Int) < 0) by decide, if_true]
    omega
  rw [e]
theorem nrm_ok' {S : HD} {v : D} (h : okR v = true) : nrm S v = v := by
  cases v <;> first | rfl | cases h
theorem cut_suf (xs : List D) (a : Nat) : cutD xs (some (a : Int)) none = xs.drop a := by
  unfold cutD
  rw [HT.sIx_none, HT.sIx_nat]
  by_cases h : a ≤ xs.length
  · rw [Nat.min_eq_left h, List.take_of_length_le (by rw [List.length_drop]; exact Nat.le_refl _)]
  · rw [Nat.min_eq_right (by omega), Nat.sub_self, List.take_zero, List.drop_of_length_le (by omega)]
theorem cut_mid (xs : List D) (a b : Nat) (h : a ≤ b) : cutD xs (some (a : Int)) (some (b : Int)) = (xs.take b).drop a := by
  unfold cutD
  rw [HT.sIx_nat, HT.sIx_nat, List.drop_take]
  by_cases h1 : b ≤ xs.length
  · rw [Nat.min_eq_left h1, Nat.min_eq_left (by omega)]
  · rw [Nat.min_eq_right (a := b) (by omega)]
    by_cases h2 : a ≤ xs.length
    · rw [Nat.min_eq_left h2, List.take_of_length_le (by rw [List.length_drop]; exact Nat.le_refl _), List.take_of_length_le (by rw [List.length_drop]; omega)]
    · rw [Nat.min_eq_right (a := a) (by omega), Nat.sub_self, List.take_zero, List.drop_of_length_le (by omega), List.take_nil]
theorem szL_parts (xs : List D) (a : Nat) : szL (xs.take a) + szL (xs.drop a) = szL xs := by
  rw [← szL_app, List.take_append_drop]
theorem szL_len : ∀ xs : List D, 2 * xs.length ≤ szL xs
  | [] => Nat.le_refl _
  | x :: xs => by
    have := szL_len xs
    simp only [List.length_cons, szL]
    omega
theorem okRL_app {xs ys : List D} (h1 : okRL xs = true) (h2 : okRL ys = true) : okRL (xs ++ ys) = true :=
  okRL_of fun x hx => (List.mem_append.mp hx).elim (okRL_mem h1) (okRL_mem h2)
theorem okRL_sub {xs ys : List D} (h1 : okRL xs = true) (h : ∀ y ∈ ys, y ∈ xs) : okRL ys = true := okRL_of fun x hx => okRL_mem h1 (h x hx)
theorem depL_sub {xs ys : List D} (h : ∀ y ∈ ys, y ∈ xs) : depL ys ≤ depL xs := depL_of fun x hx => depL_le (h x hx)
theorem depL_app {xs ys : List D} : depL (xs ++ ys) = max (depL xs) (depL ys) := by
  induction xs with
  | nil => simp [depL]
  | cons x xs ih => simp only [List.cons_append, depL, ih]; omega
theorem szL_take (xs : List D) (a : Nat) : szL (xs.take a) ≤ szL xs := by have := szL_parts xs a; omega
theorem szL_drop (xs : List D) (a : Nat) : szL (xs.drop a) ≤ szL xs := by have := szL_parts xs a; omega
theorem szL_split {xs : List D} {a : Nat} {d : D} (h : xs[a]? = some d) : szL (xs.take a) + (sz d + 2) + szL (xs.drop (a + 1)) = szL xs := by
  obtain ⟨hl, rfl⟩ := List.getElem?_eq_some_iff.mp h
  have e := szL_parts xs a
  rw [List.drop_eq_getElem_cons hl] at e
  simp only [szL] at e
  omega
theorem atI_get {xs : List D} {a : Nat} (h : a < xs.length) : L2.atI xs (a : Int) = some xs[a] := by
  unfold L2.atI L2.ixN
  rw [if_pos (by omega), if_pos (by omega)]
  simp [h]
end PD

namespace K10
open PySem PySem.Spec PyProof.Rows L2 PD
def top (i : Nat) : Stmt := PySem.Challenge.pw_sortedshelves_k10_what_are_no_machines.main.body.getD i (.Pass ⟨0, 0, 0, 0⟩)
structure Txt (mg : Str → Option Value) : Prop where
  b_int : mg "int" = none
  b_isinstance : mg "isinstance" = none
  b_bool : mg "bool" = none
  b_tuple : mg "tuple" = none
  b_len : mg "len" = none
  b_abs : mg "abs" = none
  b_range : mg "range" = none
  b_list : mg "list" = none
  b_repr : mg "repr" = none
  c_MAX_ROWS : ∃ t, mg "MAX_ROWS" = some (.int 400 t)
  c_MAX_LETTERS : ∃ t, mg "MAX_LETTERS" = some (.int 3 t)
section
variable {P : Program} {w : World} {K : PySem.W.Frag} {mg : Str → Option Value} {base : Heap}
abbrev s_is_number : Stmt := top 3
abbrev N_is_number : List Str := ["value", "least", "most"]
theorem sc_is_number : FnScope N_is_number ["value", "least", "most"] (defScope s_is_number) := ⟨rfl, rfl, rfl, by decide +kernel, rfl, by decide +kernel, by decide +kernel⟩
def rd_is_number : TSD :=
  sRetD (tAndV (tCallD (rIsiD .int) (tConsD (tSlot 0) (tConsD (tCD (.ty "int")) (tNilD)))) (tAndV (tNotV (tCallD (rIsiD .bool) (tConsD (tSlot 0) (tConsD (tCD (.ty "bool")) (tNilD))))) (tChainD (rCmpI fLe) (rCmpI fLe) (tSlot 1) (tSlot 0) (tSlot 2))))
theorem dv_is_number (T : Txt mg) (hB : SysB base) {k : Nat} {f : Addr} {cdv : Value} {A : Around} {outer : List Env} {s : Shared} {H : Hp} (hr : RoomG k (A.deeper (envOfC "is_number" (defScope s_is_number) s.heap.objs.size f cdv))) :
    DSs (cxOf CX0 P w K mg base N_is_number "is_number" (defScope s_is_number) f cdv A outer s H E0).nox (defBody s_is_number) (rd_is_number) :=
    dss_one (ds_ret (de_and (de_callB (call_isiRD .int) T.b_isinstance bt_isinstance (da_cons (de_slot 0 (pv 0)) (da_cons (de_ty rfl T.b_int bt_int) (da_nil)))) (de_and (de_not (de_callB (call_isiRD .bool) T.b_isinstance bt_isinstance (da_cons (de_slot 0 (pv 0)) (da_cons (de_ty rfl T.b_bool bt_bool) (da_nil))))) (de_one (de_lele (de_slot 1 (pv 1)) (de_slot 0 (pv 0)) (de_slot 2 (pv 2)))))))
theorem mk_is_number (D : DefOf K mg "is_number" s_is_number) (T : Txt mg) (hB : SysB base) {k : Nat} {sp : SpD} (len : ∀ ds S Q, sp ds S Q → ds.length = 3) (hq : ∀ ds S Qd, sp ds S Qd → rd_is_number { nx := fun _ S2 => fin Qd .non S2, rt := fin Qd, bk := fun _ _ => False, ct := fun _ _ => False } (pad 3 ds) S) : Has P w K mg base (k + 1) "is_number" ["value", "least", "most"] sp :=
  let ⟨f, fd, F, hm⟩ := D.ex
  .of F hm (F.binds fun _ _ _ _ _ _ us hl => match us, hl with | [_, _, _], _ => rfl) (FnD.of F sc_is_number _ len (fun cdv A outer s H hr => dv_is_number T hB hr) hq)
abbrev s_is_row : Stmt := top 4
abbrev N_is_row : List Str := ["value", "letters", "many", "item"]
theorem sc_is_row : FnScope N_is_row ["value", "letters", "many"] (defScope s_is_row) := ⟨rfl, rfl, rfl, by decide +kernel, rfl, by decide +kernel, by decide +kernel⟩
def rd_is_row (sp_is_number : SpD) : TSD :=
  sSeqD (sIfD (tOrD (tNotD (tTst (tCallD (rIsiD .tuple) (tConsD (tSlot 0) (tConsD (tCD (.ty "tuple")) (tNilD)))))) (tTst (tBin rNeD (tCallD rLenD (tConsD (tSlot 0) (tNilD))) (tSlot 1)))) (sRetD (tCD (.bl false))) (sNextD))
  (sRetD (tBin rEqD (tLcV (iSeqD (tSlot 0)) (gNameD 3) (tAndD (tTst (tUnD rNotN (tSlot 3))) (tNotD (tTst (tCallD sp_is_number (tConsD (tSlot 3) (tConsD (tCD (.int 0)) (tConsD (tBin rSubD (tSlot 2) (tCD (.int 1))) (tNilD)))))))) (tSlot 3) [3]) (tLstV (tNilD))))
theorem dv_is_row (T : Txt mg) (hB : SysB base) {k : Nat} {f : Addr} {cdv : Value} {A : Around} {outer : List Env} {s : Shared} {H : Hp} (hr : RoomG k (A.deeper (envOfC "is_row" (defScope s_is_row) s.heap.objs.size f cdv))) {sp_is_number : SpD} (h_is_number : Has P w K mg base k "is_number" ["value", "least", "most"] sp_is_number) :
    DSs (cxOf CX0 P w K mg base N_is_row "is_row" (defScope s_is_row) f cdv A outer s H E0).nox (defBody s_is_row) (rd_is_row sp_is_number) :=
    dss_cons (ds_if (dt_w (dw_or (dt_not (dt_val (de_callB (call_isiRD .tuple) T.b_isinstance bt_isinstance (da_cons (de_slot 0 (pv 0)) (da_cons (de_ty rfl T.b_tuple bt_tuple) (da_nil)))))) (dw_or1 (dt_ne hr hB (de_callB call_lenRD T.b_len bt_len (da_cons (de_slot 0 (pv 0)) (da_nil))) (de_slot 1 (pv 1)))))) (dss_one (ds_ret (de_bl))) (dss_nil))
    (dss_one (ds_ret (de_eq hr hB (de_lcV (own := [("item", 3)]) sc_is_row.nd (di_seq (de_slot 0 (pv 0))) (blkOk_by (own := [("item", 3)]) (N := N_is_row) (sc := defScope s_is_row) (by decide +kernel)) (fun _ _ _ _ _ => dgw_name 3 (by decide) (pg_name (i := 3) sc_is_row.nd rfl (Or.inl rfl))) (fun _ _ _ _ _ => dts_one (dt_w (dw_and (dt_notN (de_slot 3 (pv 3))) (dw_and1 (dt_not (dt_val (de_call h_is_number hr (da_cons (de_slot 3 (pv 3)) (da_cons (de_int) (da_cons (de_sub (de_slot 2 (pv 2)) (de_int)) (da_nil))))))))))) (fun _ _ _ _ _ => de_slot 3 (pv 3))) (de_lstV (da_nil)))))
theorem mk_is_row (D : DefOf K mg "is_row" s_is_row) (T : Txt mg) (hB : SysB base) {k : Nat} {sp_is_number : SpD} (h_is_number : Has P w K mg base k "is_number" ["value", "least", "most"] sp_is_number) {sp : SpD} (len : ∀ ds S Q, sp ds S Q → ds.length = 3) (hq : ∀ ds S Qd, sp ds S Qd → rd_is_row sp_is_number { nx := fun _ S2 => fin Qd .non S2, rt := fin Qd, bk := fun _ _ => False, ct := fun _ _ => False } (pad 4 ds) S) : Has P w K mg base (k + 1) "is_row" ["value", "letters", "many"] sp :=
  let ⟨f, fd, F, hm⟩ := D.ex
  .of F hm (F.binds fun _ _ _ _ _ _ us hl => match us, hl with | [_, _, _], _ => rfl) (FnD.of F sc_is_row _ len (fun cdv A outer s H hr => dv_is_row T hB hr h_is_number) hq)
abbrev s_are_rows : Stmt := top 5
abbrev N_are_rows : List Str := ["value", "letters", "row"]
theorem sc_are_rows : FnScope N_are_rows ["value", "letters"] (defScope s_are_rows) := ⟨rfl, rfl, rfl, by decide +kernel, rfl, by decide +kernel, by decide +kernel⟩
def rd_are_rows (sp_is_row : SpD) : TSD :=
  sSeqD (sIfD (tOrD (tNotD (tTst (tCallD (rIsiD .tuple) (tConsD (tSlot 0) (tConsD (tCD (.ty "tuple")) (tNilD)))))) (tNotD (tTst (tChainD (rCmpI fLe) (rCmpI fLe) (tCD (.int 1)) (tCallD rLenD (tConsD (tSlot 0) (tNilD))) (tCD (.int 400)))))) (sRetD (tCD (.bl false))) (sNextD))
  (sRetD (tBin rEqD (tLcV (iSeqD (tSlot 0)) (gNameD 2) (tNotD (tTst (tCallD sp_is_row (tConsD (tSlot 2) (tConsD (tSlot 1) (tConsD (tCallD rLenD (tConsD (tSlot 0) (tNilD))) (tNilD))))))) (tSlot 2) [2]) (tLstV (tNilD))))
theorem dv_are_rows (T : Txt mg) (hB : SysB base) {k : Nat} {f : Addr} {cdv : Value} {A : Around} {outer : List Env} {s : Shared} {H : Hp} (hr : RoomG k (A.deeper (envOfC "are_rows" (defScope s_are_rows) s.heap.objs.size f cdv))) {sp_is_row : SpD} (h_is_row : Has P w K mg base k "is_row" ["value", "letters", "many"] sp_is_row) :
    DSs (cxOf CX0 P w K mg base N_are_rows "are_rows" (defScope s_are_rows) f cdv A outer s H E0).nox (defBody s_are_rows) (rd_are_rows sp_is_row) :=
    dss_cons (ds_if (dt_w (dw_or (dt_not (dt_val (de_callB (call_isiRD .tuple) T.b_isinstance bt_isinstance (da_cons (de_slot 0 (pv 0)) (da_cons (de_ty rfl T.b_tuple bt_tuple) (da_nil)))))) (dw_or1 (dt_not (dt_lele (de_int) (de_callB call_lenRD T.b_len bt_len (da_cons (de_slot 0 (pv 0)) (da_nil))) (de_gI T.c_MAX_ROWS)))))) (dss_one (ds_ret (de_bl))) (dss_nil))
    (dss_one (ds_ret (de_eq hr hB (de_lcV (own := [("row", 2)]) sc_are_rows.nd (di_seq (de_slot 0 (pv 0))) (blkOk_by (own := [("row", 2)]) (N := N_are_rows) (sc := defScope s_are_rows) (by decide +kernel)) (fun _ _ _ _ _ => dgw_name 2 (by decide) (pg_name (i := 2) sc_are_rows.nd rfl (Or.inl rfl))) (fun _ _ _ _ _ => dts_one (dt_not (dt_val (de_call h_is_row hr (da_cons (de_slot 2 (pv 2)) (da_cons (de_slot 1 (pv 1)) (da_cons (de_callB call_lenRD T.b_len bt_len (da_cons (de_slot 0 (pv 0)) (da_nil))) (da_nil)))))))) (fun _ _ _ _ _ => de_slot 2 (pv 2))) (de_lstV (da_nil)))))
theorem mk_are_rows (D : DefOf K mg "are_rows" s_are_rows) (T : Txt mg) (hB : SysB base) {k : Nat} {sp_is_row : SpD} (h_is_row : Has P w K mg base k "is_row" ["value", "letters", "many"] sp_is_row) {sp : SpD} (len : ∀ ds S Q, sp ds S Q → ds.length = 2) (hq : ∀ ds S Qd, sp ds S Qd → rd_are_rows sp_is_row { nx := fun _ S2 => fin Qd .non S2, rt := fin Qd, bk := fun _ _ => False, ct := fun _ _ => False } (pad 3 ds) S) : Has P w K mg base (k + 1) "are_rows" ["value", "letters"] sp :=
  let ⟨f, fd, F, hm⟩ := D.ex
  .of F hm (F.binds fun _ _ _ _ _ _ us hl => match us, hl with | [_, _], _ => rfl) (FnD.of F sc_are_rows _ len (fun cdv A outer s H hr => dv_are_rows T hB hr h_is_row) hq)
abbrev s_are_ends : Stmt := top 6
abbrev N_are_ends : List Str := ["value", "many", "end"]
theorem sc_are_ends : FnScope N_are_ends ["value", "many"] (defScope s_are_ends) := ⟨rfl, rfl, rfl, by decide +kernel, rfl, by decide +kernel, by decide +kernel⟩
def rd_are_ends : TSD :=
  sSeqD (sIfD (tOrD (tNotD (tTst (tCallD (rIsiD .tuple) (tConsD (tSlot 0) (tConsD (tCD (.ty "tuple")) (tNilD)))))) (tTst (tBin rNeD (tCallD rLenD (tConsD (tSlot 0) (tNilD))) (tSlot 1)))) (sRetD (tCD (.bl false))) (sNextD))
  (sRetD (tBin rEqD (tLcV (iSeqD (tSlot 0)) (gNameD 2) (tNotD (tTst (tCallD (rIsiD .bool) (tConsD (tSlot 2) (tConsD (tCD (.ty "bool")) (tNilD)))))) (tSlot 2) [2]) (tLstV (tNilD))))
theorem dv_are_ends (T : Txt mg) (hB : SysB base) {k : Nat} {f : Addr} {cdv : Value} {A : Around} {outer : List Env} {s : Shared} {H : Hp} (hr : RoomG k (A.deeper (envOfC "are_ends" (defScope s_are_ends) s.heap.objs.size f cdv))) :
    DSs (cxOf CX0 P w K mg base N_are_ends "are_ends" (defScope s_are_ends) f cdv A outer s H E0).nox (defBody s_are_ends) (rd_are_ends) :=
    dss_cons (ds_if (dt_w (dw_or (dt_not (dt_val (de_callB (call_isiRD .tuple) T.b_isinstance bt_isinstance (da_cons (de_slot 0 (pv 0)) (da_cons (de_ty rfl T.b_tuple bt_tuple) (da_nil)))))) (dw_or1 (dt_ne hr hB (de_callB call_lenRD T.b_len bt_len (da_cons (de_slot 0 (pv 0)) (da_nil))) (de_slot 1 (pv 1)))))) (dss_one (ds_ret (de_bl))) (dss_nil))
    (dss_one (ds_ret (de_eq hr hB (de_lcV (own := [("end", 2)]) sc_are_ends.nd (di_seq (de_slot 0 (pv 0))) (blkOk_by (own := [("end", 2)]) (N := N_are_ends) (sc := defScope s_are_ends) (by decide +kernel)) (fun _ _ _ _ _ => dgw_name 2 (by decide) (pg_name (i := 2) sc_are_ends.nd rfl (Or.inl rfl))) (fun _ _ _ _ _ => dts_one (dt_not (dt_val (de_callB (call_isiRD .bool) T.b_isinstance bt_isinstance (da_cons (de_slot 2 (pv 2)) (da_cons (de_ty rfl T.b_bool bt_bool) (da_nil))))))) (fun _ _ _ _ _ => de_slot 2 (pv 2))) (de_lstV (da_nil)))))
theorem mk_are_ends (D : DefOf K mg "are_ends" s_are_ends) (T : Txt mg) (hB : SysB base) {k : Nat} {sp : SpD} (len : ∀ ds S Q, sp ds S Q → ds.length = 2) (hq : ∀ ds S Qd, sp ds S Qd → rd_are_ends { nx := fun _ S2 => fin Qd .non S2, rt := fin Qd, bk := fun _ _ => False, ct := fun _ _ => False } (pad 3 ds) S) : Has P w K mg base (k + 1) "are_ends" ["value", "many"] sp :=
  let ⟨f, fd, F, hm⟩ := D.ex
  .of F hm (F.binds fun _ _ _ _ _ _ us hl => match us, hl with | [_, _], _ => rfl) (FnD.of F sc_are_ends _ len (fun cdv A outer s H hr => dv_are_ends T hB hr) hq)
abbrev s_machine_error : Stmt := top 7
abbrev N_machine_error : List Str := ["value"]
theorem sc_machine_error : FnScope N_machine_error ["value"] (defScope s_machine_error) := ⟨rfl, rfl, rfl, by decide +kernel, rfl, by decide +kernel, by decide +kernel⟩
def rd_machine_error (sp_is_number : SpD) (sp_are_rows : SpD) (sp_are_ends : SpD) : TSD :=
  sSeqD (sIfD (tOrD (tNotD (tTst (tCallD (rIsiD .tuple) (tConsD (tSlot 0) (tConsD (tCD (.ty "tuple")) (tNilD)))))) (tTst (tBin rNeD (tCallD rLenD (tConsD (tSlot 0) (tNilD))) (tCD (.int 3))))) (sRetD (tCD (.str "machine"))) (sNextD))
  (sSeqD (sIfD (tNotD (tTst (tCallD sp_is_number (tConsD (tBin rIxD (tSlot 0) (tCD (.int 0))) (tConsD (tCD (.int 1)) (tConsD (tCD (.int 3)) (tNilD))))))) (sRetD (tCD (.str "letters"))) (sNextD))
  (sSeqD (sIfD (tNotD (tTst (tCallD sp_are_rows (tConsD (tBin rIxD (tSlot 0) (tCD (.int 1))) (tConsD (tBin rIxD (tSlot 0) (tCD (.int 0))) (tNilD)))))) (sRetD (tCD (.str "rows"))) (sNextD))
  (sRetD (tIfD (tTst (tCallD sp_are_ends (tConsD (tBin rIxD (tSlot 0) (tCD (.int 2))) (tConsD (tCallD rLenD (tConsD (tBin rIxD (tSlot 0) (tCD (.int 1))) (tNilD))) (tNilD))))) (tCD .non) (tCD (.str "ends"))))))
theorem dv_machine_error (T : Txt mg) (hB : SysB base) {k : Nat} {f : Addr} {cdv : Value} {A : Around} {outer : List Env} {s : Shared} {H : Hp} (hr : RoomG k (A.deeper (envOfC "machine_error" (defScope s_machine_error) s.heap.objs.size f cdv))) {sp_is_number : SpD} (h_is_number : Has P w K mg base k "is_number" ["value", "least", "most"] sp_is_number) {sp_are_rows : SpD} (h_are_rows : Has P w K mg base k "are_rows" ["value", "letters"] sp_are_rows) {sp_are_ends : SpD} (h_are_ends : Has P w K mg base k "are_ends" ["value", "many"] sp_are_ends) :
    DSs (cxOf CX0 P w K mg base N_machine_error "machine_error" (defScope s_machine_error) f cdv A outer s H E0).nox (defBody s_machine_error) (rd_machine_error sp_is_number sp_are_rows sp_are_ends) :=
    dss_cons (ds_if (dt_w (dw_or (dt_not (dt_val (de_callB (call_isiRD .tuple) T.b_isinstance bt_isinstance (da_cons (de_slot 0 (pv 0)) (da_cons (de_ty rfl T.b_tuple bt_tuple) (da_nil)))))) (dw_or1 (dt_ne hr hB (de_callB call_lenRD T.b_len bt_len (da_cons (de_slot 0 (pv 0)) (da_nil))) (de_int))))) (dss_one (ds_ret (de_str))) (dss_nil))
    (dss_cons (ds_if (dt_not (dt_val (de_call h_is_number hr (da_cons (de_ix (de_slot 0 (pv 0)) (de_int)) (da_cons (de_int) (da_cons (de_gI T.c_MAX_LETTERS) (da_nil))))))) (dss_one (ds_ret (de_str))) (dss_nil))
    (dss_cons (ds_if (dt_not (dt_val (de_call h_are_rows hr (da_cons (de_ix (de_slot 0 (pv 0)) (de_int)) (da_cons (de_ix (de_slot 0 (pv 0)) (de_int)) (da_nil)))))) (dss_one (ds_ret (de_str))) (dss_nil))
    (dss_one (ds_ret (de_if (dt_val (de_call h_are_ends hr (da_cons (de_ix (de_slot 0 (pv 0)) (de_int)) (da_cons (de_callB call_lenRD T.b_len bt_len (da_cons (de_ix (de_slot 0 (pv 0)) (de_int)) (da_nil))) (da_nil))))) (de_non) (de_str))))))
theorem mk_machine_error (D : DefOf K mg "machine_error" s_machine_error) (T : Txt mg) (hB : SysB base) {k : Nat} {sp_is_number : SpD} (h_is_number : Has P w K mg base k "is_number" ["value", "least", "most"] sp_is_number) {sp_are_rows : SpD} (h_are_rows : Has P w K mg base k "are_rows" ["value", "letters"] sp_are_rows) {sp_are_ends : SpD} (h_are_ends : Has P w K mg base k "are_ends" ["value", "many"] sp_are_ends) {sp : SpD} (len : ∀ ds S Q, sp ds S Q → ds.length = 1) (hq : ∀ ds S Qd, sp ds S Qd → rd_machine_error sp_is_number sp_are_rows sp_are_ends { nx := fun _ S2 => fin Qd .non S2, rt := fin Qd, bk := fun _ _ => False, ct := fun _ _ => False } (pad 1 ds) S) : Has P w K mg base (k + 1) "machine_error" ["value"] sp :=
  let ⟨f, fd, F, hm⟩ := D.ex
  .of F hm (F.binds fun _ _ _ _ _ _ us hl => match us, hl with | [_], _ => rfl) (FnD.of F sc_machine_error _ len (fun cdv A outer s H hr => dv_machine_error T hB hr h_is_number h_are_rows h_are_ends) hq)
abbrev s__law_deck : Stmt := top 9
abbrev N__law_deck : List Str := ["_law_script", "_law_cell"]
theorem sc__law_deck : FnScope N__law_deck ["_law_script"] (defScope s__law_deck) := ⟨rfl, rfl, rfl, by decide +kernel, rfl, by decide +kernel, by decide +kernel⟩
def rd__law_deck : TSD :=
  sRetD (tLstR (tConsD (tLcR (iSeqD (tSlD (tSlot 0) (oNone) (oSome (tCD (.int 63))))) (gNameD 1) (tYesD) (tCallD rAbsD (tConsD (tSlot 1) (tNilD))) [1]) (tConsD (tCD (.int 0)) (tNilD))))
theorem dv__law_deck (T : Txt mg) (hB : SysB base) {k : Nat} {f : Addr} {cdv : Value} {A : Around} {outer : List Env} {s : Shared} {H : Hp} (hr : RoomG k (A.deeper (envOfC "_law_deck" (defScope s__law_deck) s.heap.objs.size f cdv))) :
    DSs (cxOf CX0 P w K mg base N__law_deck "_law_deck" (defScope s__law_deck) f cdv A outer s H E0).nox (defBody s__law_deck) (rd__law_deck) :=
    dss_one (ds_ret (de_lstR (da_cons (de_lcR (own := [("_law_cell", 1)]) sc__law_deck.nd (di_seq (de_slice (de_slot 0 (pv 0)) (do_none) (do_some (de_int)))) (blkOk_by (own := [("_law_cell", 1)]) (N := N__law_deck) (sc := defScope s__law_deck) (by decide +kernel)) (fun _ _ _ _ _ => dgw_name 1 (by decide) (pg_name (i := 1) sc__law_deck.nd rfl (Or.inl rfl))) (fun _ _ _ _ _ => dts_nil) (fun _ _ _ _ _ => de_callB call_absRD T.b_abs bt_abs (da_cons (de_slot 1 (pv 1)) (da_nil)))) (da_cons (de_int) (da_nil)))))
theorem mk__law_deck (D : DefOf K mg "_law_deck" s__law_deck) (T : Txt mg) (hB : SysB base) {k : Nat} (ok : DeckOk rd__law_deck 2) : Has P w K mg base (k + 1) "_law_deck" ["_law_script"] spDeck :=
  let ⟨f, fd, F, hm⟩ := D.ex
  .of F hm (F.binds fun _ _ _ _ _ _ us hl => match us, hl with | [_], _ => rfl) (FnD.deck F sc__law_deck _ (fun cdv A outer s H hr => dv__law_deck T hB hr) ok)
abbrev s__law_draw : Stmt := top 10
abbrev N__law_draw : List Str := ["_law_deck_here", "_law_many", "_law_cell", "_law_at", "_law_mixed"]
theorem sc__law_draw : FnScope N__law_draw ["_law_deck_here", "_law_many"] (defScope s__law_draw) := ⟨rfl, rfl, rfl, by decide +kernel, rfl, by decide +kernel, by decide +kernel⟩
def rd__law_draw : TSD :=
  sSeqD (sAsgD (tBin rAddD (tBin rIxD (tSlot 0) (tCD (.int 1))) (tCD (.int 1))) (gSubD (tSlot 0) (tCD (.int 1))))
  (sSeqD (sAsgD (tTupD (tConsD (tCD (.int 0)) (tConsD (tUnD rNeg (tCD (.int 1))) (tNilD)))) (gTupD 2 (gConsD (gNameD 2) (gConsD (gNameD 3) (gNilD)))))
  (sSeqD (sIfD (tTst (tBin (rCmpI fGt) (tCallD rLenD (tConsD (tBin rIxD (tSlot 0) (tCD (.int 0))) (tNilD))) (tCD (.int 0)))) (sSeqD (sAsgD (tBin rModD (tCallD rIntD (tConsD (tBin rIxD (tSlot 0) (tCD (.int 1))) (tNilD))) (tCallD rLenD (tConsD (tBin rIxD (tSlot 0) (tCD (.int 0))) (tNilD)))) (gNameD 3))
  (sAsgD (tBin rIxD (tBin rIxD (tSlot 0) (tCD (.int 0))) (tSlot 3)) (gNameD 2))) (sNextD))
  (sSeqD (sIfD (tTst (tBin (rCmpI fGe) (tSlot 2) (tBin rPowD (tCD (.int 10)) (tCD (.int 18))))) (sSeqD (sAsgD (tBin rFdivD (tCallD rIntD (tConsD (tSlot 2) (tNilD))) (tSlot 1)) (gSubD (tBin rIxD (tSlot 0) (tCD (.int 0))) (tSlot 3)))
  (sRetD (tBin rModD (tCallD rIntD (tConsD (tSlot 2) (tNilD))) (tSlot 1)))) (sNextD))
  (sSeqD (sAsgD (tBin rAddD (tBin rAddD (tBin rModD (tCallD rIntD (tConsD (tSlot 2) (tNilD))) (tCD (.int 2147483563))) (tBin rMulD (tCD (.int 8117)) (tBin rIxD (tSlot 0) (tCD (.int 1))))) (tCD (.int 3))) (gNameD 4))
  (sRetD (tBin rModD (tCallD rIntD (tConsD (tBin rModD (tCallD rIntD (tConsD (tBin rPowD (tSlot 4) (tCD (.int 5))) (tNilD))) (tCD (.int 2147483629))) (tNilD))) (tSlot 1)))))))
theorem dv__law_draw (T : Txt mg) (hB : SysB base) {k : Nat} {f : Addr} {cdv : Value} {A : Around} {outer : List Env} {s : Shared} {H : Hp} (hr : RoomG k (A.deeper (envOfC "_law_draw" (defScope s__law_draw) s.heap.objs.size f cdv))) :
    DSs (cxOf CX0 P w K mg base N__law_draw "_law_draw" (defScope s__law_draw) f cdv A outer s H E0).nox (defBody s__law_draw) (rd__law_draw) :=
    dss_cons (ds_asg (de_add (de_ix (de_slot 0 (pv 0)) (de_int)) (de_int)) (dg_sub (de_slot 0 (pv 0)) (de_int)))
    (dss_cons (ds_asg (de_tup (da_cons (de_int) (da_cons (de_neg (de_int)) (da_nil)))) (dg_tup rfl (dgs_cons (dg_name 2 (pg_name (i := 2) sc__law_draw.nd rfl (Or.inl rfl))) (dgs_cons (dg_name 3 (pg_name (i := 3) sc__law_draw.nd rfl (Or.inl rfl))) (dgs_nil)))))
    (dss_cons (ds_if (dt_gt (de_callB call_lenRD T.b_len bt_len (da_cons (de_ix (de_slot 0 (pv 0)) (de_int)) (da_nil))) (de_int)) (dss_cons (ds_set 3 sc__law_draw.nd (de_mod (de_callTy call_intRD T.b_int bt_int (da_cons (de_ix (de_slot 0 (pv 0)) (de_int)) (da_nil))) (de_callB call_lenRD T.b_len bt_len (da_cons (de_ix (de_slot 0 (pv 0)) (de_int)) (da_nil)))))
    (dss_one (ds_set 2 sc__law_draw.nd (de_ix (de_ix (de_slot 0 (pv 0)) (de_int)) (de_slot 3 (pv 3)))))) (dss_nil))
    (dss_cons (ds_if (dt_ge (de_slot 2 (pv 2)) (de_pow (de_int) (de_int))) (dss_cons (ds_asg (de_fdiv (de_callTy call_intRD T.b_int bt_int (da_cons (de_slot 2 (pv 2)) (da_nil))) (de_slot 1 (pv 1))) (dg_sub (de_ix (de_slot 0 (pv 0)) (de_int)) (de_slot 3 (pv 3))))
    (dss_one (ds_ret (de_mod (de_callTy call_intRD T.b_int bt_int (da_cons (de_slot 2 (pv 2)) (da_nil))) (de_slot 1 (pv 1)))))) (dss_nil))
    (dss_cons (ds_set 4 sc__law_draw.nd (de_add (de_add (de_mod (de_callTy call_intRD T.b_int bt_int (da_cons (de_slot 2 (pv 2)) (da_nil))) (de_int)) (de_mul (de_int) (de_ix (de_slot 0 (pv 0)) (de_int)))) (de_int)))
    (dss_one (ds_ret (de_mod (de_callTy call_intRD T.b_int bt_int (da_cons (de_mod (de_callTy call_intRD T.b_int bt_int (da_cons (de_pow (de_slot 4 (pv 4)) (de_int)) (da_nil))) (de_int)) (da_nil))) (de_slot 1 (pv 1)))))))))
theorem mk__law_draw (D : DefOf K mg "_law_draw" s__law_draw) (T : Txt mg) (hB : SysB base) {k : Nat} (ok : DrawOk rd__law_draw 5) : Has P w K mg base (k + 1) "_law_draw" ["_law_deck_here", "_law_many"] spDraw :=
  let ⟨f, fd, F, hm⟩ := D.ex
  .of F hm (F.binds fun _ _ _ _ _ _ us hl => match us, hl with | [_, _], _ => rfl) (FnD.draw F sc__law_draw _ (fun cdv A outer s H hr => dv__law_draw T hB hr) ok)
abbrev s__law_one : Stmt := top 11
abbrev N__law_one : List Str := ["_law_deck_here", "_law_items"]
theorem sc__law_one : FnScope N__law_one ["_law_deck_here", "_law_items"] (defScope s__law_one) := ⟨rfl, rfl, rfl, by decide +kernel, rfl, by decide +kernel, by decide +kernel⟩
def rd__law_one (sp__law_draw : SpD) : TSD :=
  sRetD (tBin rIxD (tSlot 1) (tCallD sp__law_draw (tConsD (tSlot 0) (tConsD (tCallD rLenD (tConsD (tSlot 1) (tNilD))) (tNilD)))))
theorem dv__law_one (T : Txt mg) (hB : SysB base) {k : Nat} {f : Addr} {cdv : Value} {A : Around} {outer : List Env} {s : Shared} {H : Hp} (hr : RoomG k (A.deeper (envOfC "_law_one" (defScope s__law_one) s.heap.objs.size f cdv))) {sp__law_draw : SpD} (h__law_draw : Has P w K mg base k "_law_draw" ["_law_deck_here", "_law_many"] sp__law_draw) :
    DSs (cxOf CX0 P w K mg base N__law_one "_law_one" (defScope s__law_one) f cdv A outer s H E0).nox (defBody s__law_one) (rd__law_one sp__law_draw) :=
    dss_one (ds_ret (de_ix (de_slot 1 (pv 1)) (de_call h__law_draw hr (da_cons (de_slot 0 (pv 0)) (da_cons (de_callB call_lenRD T.b_len bt_len (da_cons (de_slot 1 (pv 1)) (da_nil))) (da_nil))))))
theorem mk__law_one (D : DefOf K mg "_law_one" s__law_one) (T : Txt mg) (hB : SysB base) {k : Nat} {sp__law_draw : SpD} (h__law_draw : Has P w K mg base k "_law_draw" ["_law_deck_here", "_law_many"] sp__law_draw) {sp : SpD} (len : ∀ ds S Q, sp ds S Q → ds.length = 2) (hq : ∀ ds S Qd, sp ds S Qd → rd__law_one sp__law_draw { nx := fun _ S2 => fin Qd .non S2, rt := fin Qd, bk := fun _ _ => False, ct := fun _ _ => False } (pad 2 ds) S) : Has P w K mg base (k + 1) "_law_one" ["_law_deck_here", "_law_items"] sp :=
  let ⟨f, fd, F, hm⟩ := D.ex
  .of F hm (F.binds fun _ _ _ _ _ _ us hl => match us, hl with | [_, _], _ => rfl) (FnD.of F sc__law_one _ len (fun cdv A outer s H hr => dv__law_one T hB hr h__law_draw) hq)
abbrev s__law_machine : Stmt := top 12
abbrev N__law_machine : List Str := ["_law_deck_here", "_law_letters", "_law_most", "_law_many", "_law_way", "_law_rows", "_law_state", "_law_further", "_law_items", "_law_often", "_law_at", "_law_item"]
theorem sc__law_machine : FnScope N__law_machine ["_law_deck_here", "_law_letters", "_law_most"] (defScope s__law_machine) := ⟨rfl, rfl, rfl, by decide +kernel, rfl, by decide +kernel, by decide +kernel⟩
def rd__law_machine (sp__law_draw : SpD) (sp__law_one : SpD) : TSD :=
  sSeqD (sAsgD (tTupD (tConsD (tBin rAddD (tCD (.int 1)) (tCallD sp__law_draw (tConsD (tSlot 0) (tConsD (tSlot 2) (tNilD))))) (tConsD (tCallD sp__law_draw (tConsD (tSlot 0) (tConsD (tCD (.int 5)) (tNilD)))) (tConsD (tLstR (tNilD)) (tNilD))))) (gTupD 3 (gConsD (gNameD 3) (gConsD (gNameD 4) (gConsD (gNameD 5) (gNilD))))))
  (sSeqD (sForD (iRng1D (tConsD (tSlot 3) (tNilD))) (gNameD 6) (sIfD (tTst (tBin rEqD (tSlot 4) (tCD (.int 0)))) (sDropD (tMethL rAppD (tSlot 5) (tConsD (tCallD rTupleD (tConsD (tLcV (iRng1D (tConsD (tSlot 1) (tNilD))) (gNameD 10) (tYesD) (tBin rModD (tCallD rIntD (tConsD (tBin rAddD (tSlot 6) (tCD (.int 1))) (tNilD))) (tSlot 3)) [10]) (tNilD))) (tNilD)))) (sIfD (tTst (tBin rEqD (tSlot 4) (tCD (.int 1)))) (sSeqD (sAsgD (tLstV (tConsD (tIfD (tTst (tBin (rCmpI fLt) (tBin rAddD (tSlot 6) (tCD (.int 1))) (tSlot 3))) (tBin rAddD (tSlot 6) (tCD (.int 1))) (tCD .non)) (tConsD (tSlot 6) (tConsD (tCD .non) (tNilD))))) (gNameD 7))
  (sDropD (tMethL rAppD (tSlot 5) (tConsD (tCallD rTupleD (tConsD (tLcV (iRng1D (tConsD (tSlot 1) (tNilD))) (gNameD 10) (tYesD) (tCallD sp__law_one (tConsD (tSlot 0) (tConsD (tSlot 7) (tNilD)))) [10]) (tNilD))) (tNilD))))) (sSeqD (sAsgD (tLcV (iRng1D (tConsD (tSlot 1) (tNilD))) (gNameD 10) (tYesD) (tCallD sp__law_draw (tConsD (tSlot 0) (tConsD (tSlot 3) (tNilD)))) [10]) (gNameD 8))
  (sDropD (tMethL rAppD (tSlot 5) (tConsD (tCallD rTupleD (tConsD (tLcV (iSeqD (tSlot 8)) (gNameD 11) (tYesD) (tIfD (tTst (tBin rEqD (tCallD sp__law_draw (tConsD (tSlot 0) (tConsD (tBin rAddD (tCD (.int 3)) (tSlot 4)) (tNilD)))) (tCD (.int 0)))) (tCD .non) (tSlot 11)) [11]) (tNilD))) (tNilD))))))))
  (sSeqD (sAsgD (tCallD sp__law_one (tConsD (tSlot 0) (tConsD (tLstV (tConsD (tCD (.int 2)) (tConsD (tCD (.int 2)) (tConsD (tCD (.int 3)) (tConsD (tCD (.int 5)) (tNilD)))))) (tNilD)))) (gNameD 9))
  (sRetD (tTupD (tConsD (tSlot 1) (tConsD (tCallD rTupleD (tConsD (tSlot 5) (tNilD))) (tConsD (tCallD rTupleD (tConsD (tLcV (iRng1D (tConsD (tSlot 3) (tNilD))) (gNameD 6) (tYesD) (tBin rEqD (tCallD sp__law_draw (tConsD (tSlot 0) (tConsD (tSlot 9) (tNilD)))) (tCD (.int 0))) [6]) (tNilD))) (tNilD))))))))
theorem dv__law_machine (T : Txt mg) (hB : SysB base) {k : Nat} {f : Addr} {cdv : Value} {A : Around} {outer : List Env} {s : Shared} {H : Hp} (hr : RoomG k (A.deeper (envOfC "_law_machine" (defScope s__law_machine) s.heap.objs.size f cdv))) {sp__law_draw : SpD} (h__law_draw : Has P w K mg base k "_law_draw" ["_law_deck_here", "_law_many"] sp__law_draw) {sp__law_one : SpD} (h__law_one : Has P w K mg base k "_law_one" ["_law_deck_here", "_law_items"] sp__law_one) :
    DSs (cxOf CX0 P w K mg base N__law_machine "_law_machine" (defScope s__law_machine) f cdv A outer s H E0).nox (defBody s__law_machine) (rd__law_machine sp__law_draw sp__law_one) :=
    dss_cons (ds_asg (de_tup (da_cons (de_add (de_int) (de_call h__law_draw hr (da_cons (de_slot 0 (pv 0)) (da_cons (de_slot 2 (pv 2)) (da_nil))))) (da_cons (de_call h__law_draw hr (da_cons (de_slot 0 (pv 0)) (da_cons (de_int) (da_nil)))) (da_cons (de_lstR (da_nil)) (da_nil))))) (dg_tup rfl (dgs_cons (dg_name 3 (pg_name (i := 3) sc__law_machine.nd rfl (Or.inr rfl))) (dgs_cons (dg_name 4 (pg_name (i := 4) sc__law_machine.nd rfl (Or.inr rfl))) (dgs_cons (dg_name 5 (pg_name (i := 5) sc__law_machine.nd rfl (Or.inl rfl))) (dgs_nil))))))
    (dss_cons (ds_for PassesOwn.never (di_range1 T.b_range (da_cons (de_slot 3 (pv 3)) (da_nil))) (dg_name 6 (pg_name (i := 6) sc__law_machine.nd rfl (Or.inr rfl))) (dss_one (ds_if (dt_eq hr hB (de_slot 4 (pv 4)) (de_int)) (dss_one (ds_expr (de_append (de_slot 5 (pv 5)) (da_cons (de_callTy call_tupleRD T.b_tuple bt_tuple (da_cons (de_lcV (own := [("_law_at", 10)]) sc__law_machine.nd (di_range1 T.b_range (da_cons (de_slot 1 (pv 1)) (da_nil))) (blkOk_by (own := [("_law_at", 10)]) (N := N__law_machine) (sc := defScope s__law_machine) (by decide +kernel)) (fun _ _ _ _ _ => dgw_name 10 (by decide) (pg_name (i := 10) sc__law_machine.nd rfl (Or.inl rfl))) (fun _ _ _ _ _ => dts_nil) (fun _ _ _ _ _ => de_mod (de_callTy call_intRD T.b_int bt_int (da_cons (de_add (de_slot 6 (pv 6)) (de_int)) (da_nil))) (de_slot 3 (pv 3)))) (da_nil))) (da_nil))))) (dss_one (ds_if (dt_eq hr hB (de_slot 4 (pv 4)) (de_int)) (dss_cons (ds_set 7 sc__law_machine.nd (de_lstV (da_cons (de_if (dt_lt (de_add (de_slot 6 (pv 6)) (de_int)) (de_slot 3 (pv 3))) (de_add (de_slot 6 (pv 6)) (de_int)) (de_non)) (da_cons (de_slot 6 (pv 6)) (da_cons (de_non) (da_nil))))))
    (dss_one (ds_expr (de_append (de_slot 5 (pv 5)) (da_cons (de_callTy call_tupleRD T.b_tuple bt_tuple (da_cons (de_lcV (own := [("_law_at", 10)]) sc__law_machine.nd (di_range1 T.b_range (da_cons (de_slot 1 (pv 1)) (da_nil))) (blkOk_by (own := [("_law_at", 10)]) (N := N__law_machine) (sc := defScope s__law_machine) (by decide +kernel)) (fun _ _ _ _ _ => dgw_name 10 (by decide) (pg_name (i := 10) sc__law_machine.nd rfl (Or.inl rfl))) (fun _ _ _ _ _ => dts_nil) (fun _ _ _ _ _ => de_call h__law_one hr (da_cons (de_slot 0 (pv 0)) (da_cons (de_slot 7 (pv 7)) (da_nil))))) (da_nil))) (da_nil)))))) (dss_cons (ds_setLcV 8 (own := [("_law_at", 10)]) sc__law_machine.nd (di_range1 T.b_range (da_cons (de_slot 1 (pv 1)) (da_nil))) (blkOk_by (own := [("_law_at", 10)]) (N := N__law_machine) (sc := defScope s__law_machine) (by decide +kernel)) (fun _ _ _ _ _ => dgw_name 10 (by decide) (pg_name (i := 10) sc__law_machine.nd rfl (Or.inl rfl))) (fun _ _ _ _ _ => dts_nil) (fun _ _ _ _ _ => de_call h__law_draw hr (da_cons (de_slot 0 (pv 0)) (da_cons (de_slot 3 (pv 3)) (da_nil)))))
    (dss_one (ds_expr (de_append (de_slot 5 (pv 5)) (da_cons (de_callTy call_tupleRD T.b_tuple bt_tuple (da_cons (de_lcV (own := [("_law_item", 11)]) sc__law_machine.nd (di_seq (de_slot 8 (pv 8))) (blkOk_by (own := [("_law_item", 11)]) (N := N__law_machine) (sc := defScope s__law_machine) (by decide +kernel)) (fun _ _ _ _ _ => dgw_name 11 (by decide) (pg_name (i := 11) sc__law_machine.nd rfl (Or.inl rfl))) (fun _ _ _ _ _ => dts_nil) (fun _ _ _ _ _ => de_if (dt_eq hr hB (de_call h__law_draw hr (da_cons (de_slot 0 (pv 0)) (da_cons (de_add (de_int) (de_slot 4 (pv 4))) (da_nil)))) (de_int)) (de_non) (de_slot 11 (pv 11)))) (da_nil))) (da_nil)))))))))))
    (dss_cons (ds_set 9 sc__law_machine.nd (de_call h__law_one hr (da_cons (de_slot 0 (pv 0)) (da_cons (de_lstV (da_cons (de_int) (da_cons (de_int) (da_cons (de_int) (da_cons (de_int) (da_nil)))))) (da_nil)))))
    (dss_one (ds_ret (de_tup (da_cons (de_slot 1 (pv 1)) (da_cons (de_callTy call_tupleRD T.b_tuple bt_tuple (da_cons (de_slot 5 (pv 5)) (da_nil))) (da_cons (de_callTy call_tupleRD T.b_tuple bt_tuple (da_cons (de_lcV (own := [("_law_state", 6)]) sc__law_machine.nd (di_range1 T.b_range (da_cons (de_slot 3 (pv 3)) (da_nil))) (blkOk_by (own := [("_law_state", 6)]) (N := N__law_machine) (sc := defScope s__law_machine) (by decide +kernel)) (fun _ _ _ _ _ => dgw_name 6 (by decide) (pg_name (i := 6) sc__law_machine.nd rfl (Or.inl rfl))) (fun _ _ _ _ _ => dts_nil) (fun _ _ _ _ _ => de_eq hr hB (de_call h__law_draw hr (da_cons (de_slot 0 (pv 0)) (da_cons (de_slot 9 (pv 9)) (da_nil)))) (de_int))) (da_nil))) (da_nil)))))))))
theorem mk__law_machine (D : DefOf K mg "_law_machine" s__law_machine) (T : Txt mg) (hB : SysB base) {k : Nat} {sp__law_draw : SpD} (h__law_draw : Has P w K mg base k "_law_draw" ["_law_deck_here", "_law_many"] sp__law_draw) {sp__law_one : SpD} (h__law_one : Has P w K mg base k "_law_one" ["_law_deck_here", "_law_items"] sp__law_one) {sp : SpD} (len : ∀ ds S Q, sp ds S Q → ds.length = 3) (hq : ∀ ds S Qd, sp ds S Qd → rd__law_machine sp__law_draw sp__law_one { nx := fun _ S2 => fin Qd .non S2, rt := fin Qd, bk := fun _ _ => False, ct := fun _ _ => False } (pad 12 ds) S) : Has P w K mg base (k + 1) "_law_machine" ["_law_deck_here", "_law_letters", "_law_most"] sp :=
  let ⟨f, fd, F, hm⟩ := D.ex
  .of F hm (F.binds fun _ _ _ _ _ _ us hl => match us, hl with | [_, _, _], _ => rfl) (FnD.of F sc__law_machine _ len (fun cdv A outer s H hr => dv__law_machine T hB hr h__law_draw h__law_one) hq)
abbrev s__law_bent : Stmt := top 13
abbrev N__law_bent : List Str := ["_law_deck_here", "_law_value", "_law_deep", "_law_odd", "_law_at", "_law_way"]
theorem sc__law_bent : FnScope N__law_bent ["_law_deck_here", "_law_value", "_law_deep"] (defScope s__law_bent) := ⟨rfl, rfl, rfl, by decide +kernel, rfl, by decide +kernel, by decide +kernel⟩
def rd__law_bent (sp__law_draw : SpD) (sp__law_one : SpD) (sp__law_bent : SpD) : TSD :=
  sSeqD (sAsgD (tLstV (tConsD (tCD .non) (tConsD (tCD (.bl true)) (tConsD (tCD (.bl false)) (tConsD (tCD (.int 0)) (tConsD (tUnD rNeg (tCD (.int 1))) (tConsD (tCD (.int 1)) (tConsD (tCD (.int 2)) (tConsD (tCD (.int 7)) (tConsD (tCD (.int 400)) (tConsD (tBin rPowD (tCD (.int 10)) (tCD (.int 30))) (tConsD (tCD (.str "")) (tConsD (tCD (.str "a")) (tConsD (tTupD (tNilD)) (tConsD (tLstV (tNilD)) (tConsD (tDicV) (tConsD (tTupD (tConsD (tCD (.int 0)) (tNilD))) (tConsD (tTupD (tConsD (tCD .non) (tNilD))) (tConsD (tTupD (tConsD (tCD (.bl true)) (tNilD))) (tConsD (tTupD (tConsD (tTupD (tConsD (tCD (.int 0)) (tNilD))) (tNilD))) (tNilD))))))))))))))))))))) (gNameD 3))
  (sSeqD (sIfD (tOrD (tTst (tBin rEqD (tSlot 2) (tCD (.int 0)))) (tOrD (tNotD (tTst (tCallD (rIsiD .tuple) (tConsD (tSlot 1) (tConsD (tCD (.ty "tuple")) (tNilD)))))) (tOrD (tTst (tBin rEqD (tSlot 1) (tTupD (tNilD)))) (tTst (tBin rEqD (tCallD sp__law_draw (tConsD (tSlot 0) (tConsD (tCD (.int 6)) (tNilD)))) (tCD (.int 0))))))) (sRetD (tCallD sp__law_one (tConsD (tSlot 0) (tConsD (tSlot 3) (tNilD))))) (sNextD))
  (sSeqD (sPar2 4 5 (tConsD (tCallD sp__law_draw (tConsD (tSlot 0) (tConsD (tCallD rLenD (tConsD (tSlot 1) (tNilD))) (tNilD)))) (tConsD (tCallD sp__law_draw (tConsD (tSlot 0) (tConsD (tCD (.int 9)) (tNilD)))) (tNilD))))
  (sSeqD (sIfD (tTst (tBin rEqD (tSlot 5) (tCD (.int 0)))) (sRetD (tBin rAddD (tSlD (tSlot 1) (oNone) (oSome (tSlot 4))) (tSlD (tSlot 1) (oSome (tBin rAddD (tSlot 4) (tCD (.int 1)))) (oNone)))) (sNextD))
  (sSeqD (sIfD (tTst (tBin rEqD (tSlot 5) (tCD (.int 1)))) (sRetD (tBin rAddD (tBin rAddD (tSlD (tSlot 1) (oNone) (oSome (tSlot 4))) (tSlD (tSlot 1) (oSome (tSlot 4)) (oSome (tBin rAddD (tSlot 4) (tCD (.int 1)))))) (tSlD (tSlot 1) (oSome (tSlot 4)) (oNone)))) (sNextD))
  (sSeqD (sIfD (tTst (tBin rEqD (tSlot 5) (tCD (.int 2)))) (sRetD (tCallD rListV (tConsD (tSlot 1) (tNilD)))) (sNextD))
  (sRetD (tBin rAddD (tBin rAddD (tSlD (tSlot 1) (oNone) (oSome (tSlot 4))) (tTupD (tConsD (tCallD sp__law_bent (tConsD (tSlot 0) (tConsD (tBin rIxD (tSlot 1) (tSlot 4)) (tConsD (tBin rSubD (tSlot 2) (tCD (.int 1))) (tNilD))))) (tNilD)))) (tSlD (tSlot 1) (oSome (tBin rAddD (tSlot 4) (tCD (.int 1)))) (oNone)))))))))
theorem dv__law_bent (T : Txt mg) (hB : SysB base) {k : Nat} {f : Addr} {cdv : Value} {A : Around} {outer : List Env} {s : Shared} {H : Hp} (hr : RoomG k (A.deeper (envOfC "_law_bent" (defScope s__law_bent) s.heap.objs.size f cdv))) {sp__law_draw : SpD} (h__law_draw : Has P w K mg base k "_law_draw" ["_law_deck_here", "_law_many"] sp__law_draw) {sp__law_one : SpD} (h__law_one : Has P w K mg base k "_law_one" ["_law_deck_here", "_law_items"] sp__law_one) {sp__law_bent : SpD} (h__law_bent : Has P w K mg base k "_law_bent" ["_law_deck_here", "_law_value", "_law_deep"] sp__law_bent) :
    DSs (cxOf CX0 P w K mg base N__law_bent "_law_bent" (defScope s__law_bent) f cdv A outer s H E0).nox (defBody s__law_bent) (rd__law_bent sp__law_draw sp__law_one sp__law_bent) :=
    dss_cons (ds_set 3 sc__law_bent.nd (de_lstV (da_cons (de_non) (da_cons (de_bl) (da_cons (de_bl) (da_cons (de_int) (da_cons (de_neg (de_int)) (da_cons (de_int) (da_cons (de_int) (da_cons (de_int) (da_cons (de_int) (da_cons (de_pow (de_int) (de_int)) (da_cons (de_str) (da_cons (de_str) (da_cons (de_tup (da_nil)) (da_cons (de_lstV (da_nil)) (da_cons (de_dicV) (da_cons (de_tup (da_cons (de_int) (da_nil))) (da_cons (de_tup (da_cons (de_non) (da_nil))) (da_cons (de_tup (da_cons (de_bl) (da_nil))) (da_cons (de_tup (da_cons (de_tup (da_cons (de_int) (da_nil))) (da_nil))) (da_nil))))))))))))))))))))))
    (dss_cons (ds_if (dt_w (dw_or (dt_eq hr hB (de_slot 2 (pv 2)) (de_int)) (dw_or (dt_not (dt_val (de_callB (call_isiRD .tuple) T.b_isinstance bt_isinstance (da_cons (de_slot 1 (pv 1)) (da_cons (de_ty rfl T.b_tuple bt_tuple) (da_nil)))))) (dw_or (dt_eq hr hB (de_slot 1 (pv 1)) (de_tup (da_nil))) (dw_or1 (dt_eq hr hB (de_call h__law_draw hr (da_cons (de_slot 0 (pv 0)) (da_cons (de_int) (da_nil)))) (de_int))))))) (dss_one (ds_ret (de_call h__law_one hr (da_cons (de_slot 0 (pv 0)) (da_cons (de_slot 3 (pv 3)) (da_nil)))))) (dss_nil))
    (dss_cons (ds_par 4 5 sc__law_bent.nd (da_cons (de_call h__law_draw hr (da_cons (de_slot 0 (pv 0)) (da_cons (de_callB call_lenRD T.b_len bt_len (da_cons (de_slot 1 (pv 1)) (da_nil))) (da_nil)))) (da_cons (de_call h__law_draw hr (da_cons (de_slot 0 (pv 0)) (da_cons (de_int) (da_nil)))) (da_nil))))
    (dss_cons (ds_if (dt_eq hr hB (de_slot 5 (pv 5)) (de_int)) (dss_one (ds_ret (de_add (de_slice (de_slot 1 (pv 1)) (do_none) (do_some (de_slot 4 (pv 4)))) (de_slice (de_slot 1 (pv 1)) (do_some (de_add (de_slot 4 (pv 4)) (de_int))) (do_none))))) (dss_nil))
    (dss_cons (ds_if (dt_eq hr hB (de_slot 5 (pv 5)) (de_int)) (dss_one (ds_ret (de_add (de_add (de_slice (de_slot 1 (pv 1)) (do_none) (do_some (de_slot 4 (pv 4)))) (de_slice (de_slot 1 (pv 1)) (do_some (de_slot 4 (pv 4))) (do_some (de_add (de_slot 4 (pv 4)) (de_int))))) (de_slice (de_slot 1 (pv 1)) (do_some (de_slot 4 (pv 4))) (do_none))))) (dss_nil))
    (dss_cons (ds_if (dt_eq hr hB (de_slot 5 (pv 5)) (de_int)) (dss_one (ds_ret (de_callTy call_listV T.b_list bt_list (da_cons (de_slot 1 (pv 1)) (da_nil))))) (dss_nil))
    (dss_one (ds_ret (de_add (de_add (de_slice (de_slot 1 (pv 1)) (do_none) (do_some (de_slot 4 (pv 4)))) (de_tup (da_cons (de_call h__law_bent hr (da_cons (de_slot 0 (pv 0)) (da_cons (de_ix (de_slot 1 (pv 1)) (de_slot 4 (pv 4))) (da_cons (de_sub (de_slot 2 (pv 2)) (de_int)) (da_nil))))) (da_nil)))) (de_slice (de_slot 1 (pv 1)) (do_some (de_add (de_slot 4 (pv 4)) (de_int))) (do_none))))))))))
theorem mk__law_bent (D : DefOf K mg "_law_bent" s__law_bent) (T : Txt mg) (hB : SysB base) {k : Nat} {sp__law_draw : SpD} (h__law_draw : Has P w K mg base k "_law_draw" ["_law_deck_here", "_law_many"] sp__law_draw) {sp__law_one : SpD} (h__law_one : Has P w K mg base k "_law_one" ["_law_deck_here", "_law_items"] sp__law_one) {sp__law_bent : SpD} (h__law_bent : Has P w K mg base k "_law_bent" ["_law_deck_here", "_law_value", "_law_deep"] sp__law_bent) {sp : SpD} (len : ∀ ds S Q, sp ds S Q → ds.length = 3) (hq : ∀ ds S Qd, sp ds S Qd → rd__law_bent sp__law_draw sp__law_one sp__law_bent { nx := fun _ S2 => fin Qd .non S2, rt := fin Qd, bk := fun _ _ => False, ct := fun _ _ => False } (pad 6 ds) S) : Has P w K mg base (k + 1) "_law_bent" ["_law_deck_here", "_law_value", "_law_deep"] sp :=
  let ⟨f, fd, F, hm⟩ := D.ex
  .of F hm (F.binds fun _ _ _ _ _ _ us hl => match us, hl with | [_, _, _], _ => rfl) (FnD.of F sc__law_bent _ len (fun cdv A outer s H hr => dv__law_bent T hB hr h__law_draw h__law_one h__law_bent) hq)
theorem nv__law_bent (D : DefOf K mg "_law_bent" s__law_bent) {k : Nat} : Has P w K mg base k "_law_bent" ["_law_deck_here", "_law_value", "_law_deep"] (fun _ _ _ => False) :=
  let ⟨f, fd, F, hm⟩ := D.ex
  .of F hm (F.binds fun _ _ _ _ _ _ us hl => match us, hl with | [_, _, _], _ => rfl) ⟨fun _ _ _ h => h.elim, fun _ _ _ _ _ _ _ _ _ _ _ _ _ _ _ _ _ h => h.elim⟩
abbrev s__law_whole : Stmt := top 14
abbrev N__law_whole : List Str := ["_law_value", "_law_least", "_law_most"]
theorem sc__law_whole : FnScope N__law_whole ["_law_value", "_law_least", "_law_most"] (defScope s__law_whole) := ⟨rfl, rfl, rfl, by decide +kernel, rfl, by decide +kernel, by decide +kernel⟩
def rd__law_whole : TSD :=
  sRetD (tAndV (tCallD (rIsiD .int) (tConsD (tSlot 0) (tConsD (tCD (.ty "int")) (tNilD)))) (tAndV (tNotV (tCallD (rIsiD .bool) (tConsD (tSlot 0) (tConsD (tCD (.ty "bool")) (tNilD))))) (tChainD (rCmpI fLe) (rCmpI fLe) (tSlot 1) (tSlot 0) (tSlot 2))))
theorem dv__law_whole (T : Txt mg) (hB : SysB base) {k : Nat} {f : Addr} {cdv : Value} {A : Around} {outer : List Env} {s : Shared} {H : Hp} (hr : RoomG k (A.deeper (envOfC "_law_whole" (defScope s__law_whole) s.heap.objs.size f cdv))) :
    DSs (cxOf CX0 P w K mg base N__law_whole "_law_whole" (defScope s__law_whole) f cdv A outer s H E0).nox (defBody s__law_whole) (rd__law_whole) :=
    dss_one (ds_ret (de_and (de_callB (call_isiRD .int) T.b_isinstance bt_isinstance (da_cons (de_slot 0 (pv 0)) (da_cons (de_ty rfl T.b_int bt_int) (da_nil)))) (de_and (de_not (de_callB (call_isiRD .bool) T.b_isinstance bt_isinstance (da_cons (de_slot 0 (pv 0)) (da_cons (de_ty rfl T.b_bool bt_bool) (da_nil))))) (de_one (de_lele (de_slot 1 (pv 1)) (de_slot 0 (pv 0)) (de_slot 2 (pv 2)))))))
theorem mk__law_whole (D : DefOf K mg "_law_whole" s__law_whole) (T : Txt mg) (hB : SysB base) {k : Nat} {sp : SpD} (len : ∀ ds S Q, sp ds S Q → ds.length = 3) (hq : ∀ ds S Qd, sp ds S Qd → rd__law_whole { nx := fun _ S2 => fin Qd .non S2, rt := fin Qd, bk := fun _ _ => False, ct := fun _ _ => False } (pad 3 ds) S) : Has P w K mg base (k + 1) "_law_whole" ["_law_value", "_law_least", "_law_most"] sp :=
  let ⟨f, fd, F, hm⟩ := D.ex
  .of F hm (F.binds fun _ _ _ _ _ _ us hl => match us, hl with | [_, _, _], _ => rfl) (FnD.of F sc__law_whole _ len (fun cdv A outer s H hr => dv__law_whole T hB hr) hq)
abbrev s__law_error : Stmt := top 15
abbrev N__law_error : List Str := ["_law_value", "_law_row", "_law_item", "_law_end"]
theorem sc__law_error : FnScope N__law_error ["_law_value"] (defScope s__law_error) := ⟨rfl, rfl, rfl, by decide +kernel, rfl, by decide +kernel, by decide +kernel⟩
def rd__law_error (sp__law_whole : SpD) : TSD :=
  sSeqD (sIfD (tOrD (tNotD (tTst (tCallD (rIsiD .tuple) (tConsD (tSlot 0) (tConsD (tCD (.ty "tuple")) (tNilD)))))) (tTst (tBin rNeD (tCallD rLenD (tConsD (tSlot 0) (tNilD))) (tCD (.int 3))))) (sRetD (tCD (.str "machine"))) (sNextD))
  (sSeqD (sIfD (tNotD (tTst (tCallD sp__law_whole (tConsD (tBin rIxD (tSlot 0) (tCD (.int 0))) (tConsD (tCD (.int 1)) (tConsD (tCD (.int 3)) (tNilD))))))) (sRetD (tCD (.str "letters"))) (sNextD))
  (sSeqD (sIfD (tOrD (tNotD (tTst (tCallD (rIsiD .tuple) (tConsD (tBin rIxD (tSlot 0) (tCD (.int 1))) (tConsD (tCD (.ty "tuple")) (tNilD)))))) (tNotD (tTst (tChainD (rCmpI fLe) (rCmpI fLe) (tCD (.int 1)) (tCallD rLenD (tConsD (tBin rIxD (tSlot 0) (tCD (.int 1))) (tNilD))) (tCD (.int 400)))))) (sRetD (tCD (.str "rows"))) (sNextD))
  (sSeqD (sForD (iSeqD (tBin rIxD (tSlot 0) (tCD (.int 1)))) (gNameD 1) (sSeqD (sIfD (tOrD (tNotD (tTst (tCallD (rIsiD .tuple) (tConsD (tSlot 1) (tConsD (tCD (.ty "tuple")) (tNilD)))))) (tTst (tBin rNeD (tCallD rLenD (tConsD (tSlot 1) (tNilD))) (tBin rIxD (tSlot 0) (tCD (.int 0)))))) (sRetD (tCD (.str "rows"))) (sNextD))
  (sIfD (tTst (tBin rNeD (tLcV (iSeqD (tSlot 1)) (gNameD 2) (tAndD (tTst (tUnD rNotN (tSlot 2))) (tNotD (tTst (tCallD sp__law_whole (tConsD (tSlot 2) (tConsD (tCD (.int 0)) (tConsD (tBin rSubD (tCallD rLenD (tConsD (tBin rIxD (tSlot 0) (tCD (.int 1))) (tNilD))) (tCD (.int 1))) (tNilD)))))))) (tSlot 2) [2]) (tLstV (tNilD)))) (sRetD (tCD (.str "rows"))) (sNextD))))
  (sSeqD (sIfD (tOrD (tNotD (tTst (tCallD (rIsiD .tuple) (tConsD (tBin rIxD (tSlot 0) (tCD (.int 2))) (tConsD (tCD (.ty "tuple")) (tNilD)))))) (tTst (tBin rNeD (tCallD rLenD (tConsD (tBin rIxD (tSlot 0) (tCD (.int 2))) (tNilD))) (tCallD rLenD (tConsD (tBin rIxD (tSlot 0) (tCD (.int 1))) (tNilD)))))) (sRetD (tCD (.str "ends"))) (sNextD))
  (sRetD (tIfD (tTst (tBin rEqD (tLcV (iSeqD (tBin rIxD (tSlot 0) (tCD (.int 2)))) (gNameD 3) (tNotD (tTst (tCallD (rIsiD .bool) (tConsD (tSlot 3) (tConsD (tCD (.ty "bool")) (tNilD)))))) (tSlot 3) [3]) (tLstV (tNilD)))) (tCD .non) (tCD (.str "ends"))))))))
theorem dv__law_error (T : Txt mg) (hB : SysB base) {k : Nat} {f : Addr} {cdv : Value} {A : Around} {outer : List Env} {s : Shared} {H : Hp} (hr : RoomG k (A.deeper (envOfC "_law_error" (defScope s__law_error) s.heap.objs.size f cdv))) {sp__law_whole : SpD} (h__law_whole : Has P w K mg base k "_law_whole" ["_law_value", "_law_least", "_law_most"] sp__law_whole) :
    DSs (cxOf CX0 P w K mg base N__law_error "_law_error" (defScope s__law_error) f cdv A outer s H E0).nox (defBody s__law_error) (rd__law_error sp__law_whole) :=
    dss_cons (ds_if (dt_w (dw_or (dt_not (dt_val (de_callB (call_isiRD .tuple) T.b_isinstance bt_isinstance (da_cons (de_slot 0 (pv 0)) (da_cons (de_ty rfl T.b_tuple bt_tuple) (da_nil)))))) (dw_or1 (dt_ne hr hB (de_callB call_lenRD T.b_len bt_len (da_cons (de_slot 0 (pv 0)) (da_nil))) (de_int))))) (dss_one (ds_ret (de_str))) (dss_nil))
    (dss_cons (ds_if (dt_not (dt_val (de_call h__law_whole hr (da_cons (de_ix (de_slot 0 (pv 0)) (de_int)) (da_cons (de_int) (da_cons (de_int) (da_nil))))))) (dss_one (ds_ret (de_str))) (dss_nil))
    (dss_cons (ds_if (dt_w (dw_or (dt_not (dt_val (de_callB (call_isiRD .tuple) T.b_isinstance bt_isinstance (da_cons (de_ix (de_slot 0 (pv 0)) (de_int)) (da_cons (de_ty rfl T.b_tuple bt_tuple) (da_nil)))))) (dw_or1 (dt_not (dt_lele (de_int) (de_callB call_lenRD T.b_len bt_len (da_cons (de_ix (de_slot 0 (pv 0)) (de_int)) (da_nil))) (de_int)))))) (dss_one (ds_ret (de_str))) (dss_nil))
    (dss_cons (ds_for PassesOwn.never (di_seq (de_ix (de_slot 0 (pv 0)) (de_int))) (dg_name 1 (pg_name (i := 1) sc__law_error.nd rfl (Or.inl rfl))) (dss_cons (ds_if (dt_w (dw_or (dt_not (dt_val (de_callB (call_isiRD .tuple) T.b_isinstance bt_isinstance (da_cons (de_slot 1 (pv 1)) (da_cons (de_ty rfl T.b_tuple bt_tuple) (da_nil)))))) (dw_or1 (dt_ne hr hB (de_callB call_lenRD T.b_len bt_len (da_cons (de_slot 1 (pv 1)) (da_nil))) (de_ix (de_slot 0 (pv 0)) (de_int)))))) (dss_one (ds_ret (de_str))) (dss_nil))
    (dss_one (ds_if (dt_ne hr hB (de_lcV (own := [("_law_item", 2)]) sc__law_error.nd (di_seq (de_slot 1 (pv 1))) (blkOk_by (own := [("_law_item", 2)]) (N := N__law_error) (sc := defScope s__law_error) (by decide +kernel)) (fun _ _ _ _ _ => dgw_name 2 (by decide) (pg_name (i := 2) sc__law_error.nd rfl (Or.inl rfl))) (fun _ _ _ _ _ => dts_one (dt_w (dw_and (dt_notN (de_slot 2 (pv 2))) (dw_and1 (dt_not (dt_val (de_call h__law_whole hr (da_cons (de_slot 2 (pv 2)) (da_cons (de_int) (da_cons (de_sub (de_callB call_lenRD T.b_len bt_len (da_cons (de_ix (de_slot 0 (pv 0)) (de_int)) (da_nil))) (de_int)) (da_nil))))))))))) (fun _ _ _ _ _ => de_slot 2 (pv 2))) (de_lstV (da_nil))) (dss_one (ds_ret (de_str))) (dss_nil)))))
    (dss_cons (ds_if (dt_w (dw_or (dt_not (dt_val (de_callB (call_isiRD .tuple) T.b_isinstance bt_isinstance (da_cons (de_ix (de_slot 0 (pv 0)) (de_int)) (da_cons (de_ty rfl T.b_tuple bt_tuple) (da_nil)))))) (dw_or1 (dt_ne hr hB (de_callB call_lenRD T.b_len bt_len (da_cons (de_ix (de_slot 0 (pv 0)) (de_int)) (da_nil))) (de_callB call_lenRD T.b_len bt_len (da_cons (de_ix (de_slot 0 (pv 0)) (de_int)) (da_nil))))))) (dss_one (ds_ret (de_str))) (dss_nil))
    (dss_one (ds_ret (de_if (dt_eq hr hB (de_lcV (own := [("_law_end", 3)]) sc__law_error.nd (di_seq (de_ix (de_slot 0 (pv 0)) (de_int))) (blkOk_by (own := [("_law_end", 3)]) (N := N__law_error) (sc := defScope s__law_error) (by decide +kernel)) (fun _ _ _ _ _ => dgw_name 3 (by decide) (pg_name (i := 3) sc__law_error.nd rfl (Or.inl rfl))) (fun _ _ _ _ _ => dts_one (dt_not (dt_val (de_callB (call_isiRD .bool) T.b_isinstance bt_isinstance (da_cons (de_slot 3 (pv 3)) (da_cons (de_ty rfl T.b_bool bt_bool) (da_nil))))))) (fun _ _ _ _ _ => de_slot 3 (pv 3))) (de_lstV (da_nil))) (de_non) (de_str))))))))
theorem mk__law_error (D : DefOf K mg "_law_error" s__law_error) (T : Txt mg) (hB : SysB base) {k : Nat} {sp__law_whole : SpD} (h__law_whole : Has P w K mg base k "_law_whole" ["_law_value", "_law_least", "_law_most"] sp__law_whole) {sp : SpD} (len : ∀ ds S Q, sp ds S Q → ds.length = 1) (hq : ∀ ds S Qd, sp ds S Qd → rd__law_error sp__law_whole { nx := fun _ S2 => fin Qd .non S2, rt := fin Qd, bk := fun _ _ => False, ct := fun _ _ => False } (pad 4 ds) S) : Has P w K mg base (k + 1) "_law_error" ["_law_value"] sp :=
  let ⟨f, fd, F, hm⟩ := D.ex
  .of F hm (F.binds fun _ _ _ _ _ _ us hl => match us, hl with | [_], _ => rfl) (FnD.of F sc__law_error _ len (fun cdv A outer s H hr => dv__law_error T hB hr h__law_whole) hq)
abbrev s_law : Stmt := top 16
abbrev N_law : List Str := ["_law_script", "_law_deck_here", "_law_turn", "_law_letters", "_law_machine_here", "_law_rows", "_law_ends", "_law_bent_here", "_law_values", "_law_many", "_law_value", "_law_shown", "_law_due", "_law_end", "_law_k"]
theorem sc_law : FnScope N_law ["_law_script"] (defScope s_law) := ⟨rfl, rfl, rfl, by decide +kernel, rfl, by decide +kernel, by decide +kernel⟩
def rd_law (sp__law_deck : SpD) (sp__law_draw : SpD) (sp__law_machine : SpD) (sp__law_bent : SpD) (sp__law_error : SpD) (sp_machine_error : SpD) : TSD :=
  sSeqD (sAsgD (tCallD sp__law_deck (tConsD (tSlot 0) (tNilD))) (gNameD 1))
  (sSeqD (sForD (iRng1D (tConsD (tCD (.int 8)) (tNilD))) (gNameD 2) (sSeqD (sAsgD (tBin rAddD (tCD (.int 1)) (tCallD sp__law_draw (tConsD (tSlot 1) (tConsD (tCD (.int 3)) (tNilD))))) (gNameD 3))
  (sSeqD (sAsgD (tCallD sp__law_machine (tConsD (tSlot 1) (tConsD (tSlot 3) (tConsD (tCD (.int 6)) (tNilD))))) (gNameD 4))
  (sSeqD (sPar2 5 6 (tConsD (tBin rIxD (tSlot 4) (tCD (.int 1))) (tConsD (tBin rIxD (tSlot 4) (tCD (.int 2))) (tNilD))))
  (sSeqD (sAsgD (tCallD sp__law_bent (tConsD (tSlot 1) (tConsD (tSlot 4) (tConsD (tCD (.int 3)) (tNilD))))) (gNameD 7))
  (sSeqD (sAsgD (tLstR (tConsD (tSlot 4) (tConsD (tSlot 7) (tConsD (tCallD sp__law_bent (tConsD (tSlot 1) (tConsD (tSlot 7) (tConsD (tCD (.int 3)) (tNilD))))) (tConsD (tSlD (tSlot 4) (oNone) (oSome (tCD (.int 2)))) (tConsD (tBin rAddD (tSlot 4) (tTupD (tConsD (tCD (.int 1)) (tNilD)))) (tConsD (tCallD rListV (tConsD (tSlot 4) (tNilD))) (tConsD (tRevTD (tSlot 4)) (tNilD))))))))) (gNameD 8))
  (sSeqD (sAsgD (tBin rAddR (tSlot 8) (tLstV (tConsD (tBin rAddD (tTupD (tConsD (tCD (.int 0)) (tNilD))) (tSlD (tSlot 4) (oSome (tCD (.int 1))) (oNone))) (tConsD (tBin rAddD (tTupD (tConsD (tCD (.int 4)) (tNilD))) (tSlD (tSlot 4) (oSome (tCD (.int 1))) (oNone))) (tConsD (tBin rAddD (tTupD (tConsD (tCD (.bl true)) (tNilD))) (tSlD (tSlot 4) (oSome (tCD (.int 1))) (oNone))) (tConsD (tTupD (tConsD (tSlot 3) (tConsD (tTupD (tNilD)) (tConsD (tTupD (tNilD)) (tNilD))))) (tNilD))))))) (gNameD 8))
  (sSeqD (sAsgD (tBin rAddR (tSlot 8) (tLstV (tConsD (tTupD (tConsD (tSlot 3) (tConsD (tBin rAddD (tSlot 5) (tSlD (tSlot 5) (oNone) (oSome (tCD (.int 1))))) (tConsD (tSlot 6) (tNilD))))) (tConsD (tTupD (tConsD (tSlot 3) (tConsD (tSlot 5) (tConsD (tBin rAddD (tSlot 6) (tTupD (tConsD (tCD (.bl true)) (tNilD)))) (tNilD))))) (tConsD (tTupD (tConsD (tSlot 3) (tConsD (tSlot 5) (tConsD (tSlD (tSlot 6) (oSome (tCD (.int 1))) (oNone)) (tNilD))))) (tNilD)))))) (gNameD 8))
  (sSeqD (sAsgD (tBin rAddR (tSlot 8) (tLstV (tConsD (tTupD (tConsD (tSlot 3) (tConsD (tSlot 5) (tConsD (tCallD rTupleD (tConsD (tLcV (iSeqD (tSlot 6)) (gNameD 13) (tYesD) (tCallD rIntD (tConsD (tSlot 13) (tNilD))) [13]) (tNilD))) (tNilD))))) (tConsD (tTupD (tConsD (tSlot 3) (tConsD (tCallD rListV (tConsD (tSlot 5) (tNilD))) (tConsD (tSlot 6) (tNilD))))) (tNilD))))) (gNameD 8))
  (sSeqD (sDropD (tMethL rAppD (tSlot 8) (tConsD (tTupD (tConsD (tSlot 3) (tConsD (tBin rAddD (tSlD (tSlot 5) (oNone) (oSome (tUnD rNeg (tCD (.int 1))))) (tTupD (tConsD (tBin rMulD (tTupD (tConsD (tCallD rLenD (tConsD (tSlot 5) (tNilD))) (tNilD))) (tSlot 3)) (tNilD)))) (tConsD (tSlot 6) (tNilD))))) (tNilD))))
  (sSeqD (sDropD (tMethL rAppD (tSlot 8) (tConsD (tTupD (tConsD (tSlot 3) (tConsD (tBin rAddD (tSlD (tSlot 5) (oNone) (oSome (tUnD rNeg (tCD (.int 1))))) (tTupD (tConsD (tBin rMulD (tTupD (tConsD (tBin rSubD (tCallD rLenD (tConsD (tSlot 5) (tNilD))) (tCD (.int 1))) (tNilD))) (tSlot 3)) (tNilD)))) (tConsD (tSlot 6) (tNilD))))) (tNilD))))
  (sSeqD (sForD (iSeqD (tTupD (tConsD (tCD (.int 400)) (tConsD (tCD (.int 401)) (tNilD))))) (gNameD 9) (sDropD (tMethL rAppD (tSlot 8) (tConsD (tTupD (tConsD (tSlot 3) (tConsD (tBin rMulD (tTupD (tConsD (tBin rMulD (tTupD (tConsD (tBin rSubD (tSlot 9) (tCD (.int 1))) (tNilD))) (tSlot 3)) (tNilD))) (tSlot 9)) (tConsD (tBin rMulD (tTupD (tConsD (tCD (.bl false)) (tNilD))) (tSlot 9)) (tNilD))))) (tNilD)))))
  (sForD (iSeqD (tBin rAddD (tSlot 8) (tLcV (iRng1D (tConsD (tCD (.int 8)) (tNilD))) (gNameD 14) (tYesD) (tCallD sp__law_bent (tConsD (tSlot 1) (tConsD (tSlot 4) (tConsD (tCD (.int 3)) (tNilD))))) [14]))) (gNameD 10) (sSeqD (sPar2 11 12 (tConsD (tCallD rReprD (tConsD (tSlot 10) (tNilD))) (tConsD (tCallD sp__law_error (tConsD (tSlot 10) (tNilD))) (tNilD))))
  (sIfD (tOrD (tTst (tBin rNeD (tCallD rReprD (tConsD (tLstV (tConsD (tCallD sp_machine_error (tConsD (tSlot 10) (tNilD))) (tConsD (tCallD sp_machine_error (tConsD (tSlot 10) (tNilD))) (tNilD)))) (tNilD))) (tCallD rReprD (tConsD (tLstV (tConsD (tSlot 12) (tConsD (tSlot 12) (tNilD)))) (tNilD))))) (tTst (tBin rNeD (tCallD rReprD (tConsD (tSlot 10) (tNilD))) (tSlot 11)))) (sRetD (tCD (.bl false))) (sNextD))))))))))))))))
  (sRetD (tCD (.bl true))))
theorem dv_law (T : Txt mg) (hB : SysB base) {k : Nat} {f : Addr} {cdv : Value} {A : Around} {outer : List Env} {s : Shared} {H : Hp} (hr : RoomG k (A.deeper (envOfC "law" (defScope s_law) s.heap.objs.size f cdv))) {sp__law_deck : SpD} (h__law_deck : Has P w K mg base k "_law_deck" ["_law_script"] sp__law_deck) {sp__law_draw : SpD} (h__law_draw : Has P w K mg base k "_law_draw" ["_law_deck_here", "_law_many"] sp__law_draw) {sp__law_machine : SpD} (h__law_machine : Has P w K mg base k "_law_machine" ["_law_deck_here", "_law_letters", "_law_most"] sp__law_machine) {sp__law_bent : SpD} (h__law_bent : Has P w K mg base k "_law_bent" ["_law_deck_here", "_law_value", "_law_deep"] sp__law_bent) {sp__law_error : SpD} (h__law_error : Has P w K mg base k "_law_error" ["_law_value"] sp__law_error) {sp_machine_error : SpD} (h_machine_error : Has P w K mg base k "machine_error" ["value"] sp_machine_error) :
    DSs (cxOf CX0 P w K mg base N_law "law" (defScope s_law) f cdv A outer s H E0).nox (defBody s_law) (rd_law sp__law_deck sp__law_draw sp__law_machine sp__law_bent sp__law_error sp_machine_error) :=
    dss_cons (ds_set 1 sc_law.nd (de_call h__law_deck hr (da_cons (de_slot 0 (pv 0)) (da_nil))))
    (dss_cons (ds_for PassesOwn.never (di_range1 T.b_range (da_cons (de_int) (da_nil))) (dg_name 2 (pg_name (i := 2) sc_law.nd rfl (Or.inl rfl))) (dss_cons (ds_set 3 sc_law.nd (de_add (de_int) (de_call h__law_draw hr (da_cons (de_slot 1 (pv 1)) (da_cons (de_int) (da_nil))))))
    (dss_cons (ds_set 4 sc_law.nd (de_call h__law_machine hr (da_cons (de_slot 1 (pv 1)) (da_cons (de_slot 3 (pv 3)) (da_cons (de_int) (da_nil))))))
    (dss_cons (ds_par 5 6 sc_law.nd (da_cons (de_ix (de_slot 4 (pv 4)) (de_int)) (da_cons (de_ix (de_slot 4 (pv 4)) (de_int)) (da_nil))))
    (dss_cons (ds_set 7 sc_law.nd (de_call h__law_bent hr (da_cons (de_slot 1 (pv 1)) (da_cons (de_slot 4 (pv 4)) (da_cons (de_int) (da_nil))))))
    (dss_cons (ds_set 8 sc_law.nd (de_lstR (da_cons (de_slot 4 (pv 4)) (da_cons (de_slot 7 (pv 7)) (da_cons (de_call h__law_bent hr (da_cons (de_slot 1 (pv 1)) (da_cons (de_slot 7 (pv 7)) (da_cons (de_int) (da_nil))))) (da_cons (de_slice (de_slot 4 (pv 4)) (do_none) (do_some (de_int))) (da_cons (de_add (de_slot 4 (pv 4)) (de_tup (da_cons (de_int) (da_nil)))) (da_cons (de_callTy call_listV T.b_list bt_list (da_cons (de_slot 4 (pv 4)) (da_nil))) (da_cons (de_revT (de_slot 4 (pv 4))) (da_nil))))))))))
    (dss_cons (ds_set 8 sc_law.nd (de_addR (de_slot 8 (pv 8)) (de_lstV (da_cons (de_add (de_tup (da_cons (de_int) (da_nil))) (de_slice (de_slot 4 (pv 4)) (do_some (de_int)) (do_none))) (da_cons (de_add (de_tup (da_cons (de_int) (da_nil))) (de_slice (de_slot 4 (pv 4)) (do_some (de_int)) (do_none))) (da_cons (de_add (de_tup (da_cons (de_bl) (da_nil))) (de_slice (de_slot 4 (pv 4)) (do_some (de_int)) (do_none))) (da_cons (de_tup (da_cons (de_slot 3 (pv 3)) (da_cons (de_tup (da_nil)) (da_cons (de_tup (da_nil)) (da_nil))))) (da_nil))))))))
    (dss_cons (ds_set 8 sc_law.nd (de_addR (de_slot 8 (pv 8)) (de_lstV (da_cons (de_tup (da_cons (de_slot 3 (pv 3)) (da_cons (de_add (de_slot 5 (pv 5)) (de_slice (de_slot 5 (pv 5)) (do_none) (do_some (de_int)))) (da_cons (de_slot 6 (pv 6)) (da_nil))))) (da_cons (de_tup (da_cons (de_slot 3 (pv 3)) (da_cons (de_slot 5 (pv 5)) (da_cons (de_add (de_slot 6 (pv 6)) (de_tup (da_cons (de_bl) (da_nil)))) (da_nil))))) (da_cons (de_tup (da_cons (de_slot 3 (pv 3)) (da_cons (de_slot 5 (pv 5)) (da_cons (de_slice (de_slot 6 (pv 6)) (do_some (de_int)) (do_none)) (da_nil))))) (da_nil)))))))
    (dss_cons (ds_set 8 sc_law.nd (de_addR (de_slot 8 (pv 8)) (de_lstV (da_cons (de_tup (da_cons (de_slot 3 (pv 3)) (da_cons (de_slot 5 (pv 5)) (da_cons (de_callTy call_tupleRD T.b_tuple bt_tuple (da_cons (de_lcV (own := [("_law_end", 13)]) sc_law.nd (di_seq (de_slot 6 (pv 6))) (blkOk_by (own := [("_law_end", 13)]) (N := N_law) (sc := defScope s_law) (by decide +kernel)) (fun _ _ _ _ _ => dgw_name 13 (by decide) (pg_name (i := 13) sc_law.nd rfl (Or.inl rfl))) (fun _ _ _ _ _ => dts_nil) (fun _ _ _ _ _ => de_callTy call_intRD T.b_int bt_int (da_cons (de_slot 13 (pv 13)) (da_nil)))) (da_nil))) (da_nil))))) (da_cons (de_tup (da_cons (de_slot 3 (pv 3)) (da_cons (de_callTy call_listV T.b_list bt_list (da_cons (de_slot 5 (pv 5)) (da_nil))) (da_cons (de_slot 6 (pv 6)) (da_nil))))) (da_nil))))))
    (dss_cons (ds_expr (de_append (de_slot 8 (pv 8)) (da_cons (de_tup (da_cons (de_slot 3 (pv 3)) (da_cons (de_add (de_slice (de_slot 5 (pv 5)) (do_none) (do_some (de_neg (de_int)))) (de_tup (da_cons (de_mul (de_tup (da_cons (de_callB call_lenRD T.b_len bt_len (da_cons (de_slot 5 (pv 5)) (da_nil))) (da_nil))) (de_slot 3 (pv 3))) (da_nil)))) (da_cons (de_slot 6 (pv 6)) (da_nil))))) (da_nil))))
    (dss_cons (ds_expr (de_append (de_slot 8 (pv 8)) (da_cons (de_tup (da_cons (de_slot 3 (pv 3)) (da_cons (de_add (de_slice (de_slot 5 (pv 5)) (do_none) (do_some (de_neg (de_int)))) (de_tup (da_cons (de_mul (de_tup (da_cons (de_sub (de_callB call_lenRD T.b_len bt_len (da_cons (de_slot 5 (pv 5)) (da_nil))) (de_int)) (da_nil))) (de_slot 3 (pv 3))) (da_nil)))) (da_cons (de_slot 6 (pv 6)) (da_nil))))) (da_nil))))
    (dss_cons (ds_for PassesOwn.never (di_seq (de_tup (da_cons (de_int) (da_cons (de_int) (da_nil))))) (dg_name 9 (pg_name (i := 9) sc_law.nd rfl (Or.inl rfl))) (dss_one (ds_expr (de_append (de_slot 8 (pv 8)) (da_cons (de_tup (da_cons (de_slot 3 (pv 3)) (da_cons (de_mul (de_tup (da_cons (de_mul (de_tup (da_cons (de_sub (de_slot 9 (pv 9)) (de_int)) (da_nil))) (de_slot 3 (pv 3))) (da_nil))) (de_slot 9 (pv 9))) (da_cons (de_mul (de_tup (da_cons (de_bl) (da_nil))) (de_slot 9 (pv 9))) (da_nil))))) (da_nil))))))
    (dss_one (ds_for PassesOwn.never (di_seq (de_add (de_slot 8 (pv 8)) (de_lcV (own := [("_law_k", 14)]) sc_law.nd (di_range1 T.b_range (da_cons (de_int) (da_nil))) (blkOk_by (own := [("_law_k", 14)]) (N := N_law) (sc := defScope s_law) (by decide +kernel)) (fun _ _ _ _ _ => dgw_name 14 (by decide) (pg_name (i := 14) sc_law.nd rfl (Or.inl rfl))) (fun _ _ _ _ _ => dts_nil) (fun _ _ _ _ _ => de_call h__law_bent hr (da_cons (de_slot 1 (pv 1)) (da_cons (de_slot 4 (pv 4)) (da_cons (de_int) (da_nil)))))))) (dg_name 10 (pg_name (i := 10) sc_law.nd rfl (Or.inl rfl))) (dss_cons (ds_par 11 12 sc_law.nd (da_cons (de_callB (call_reprD _ hr hB) T.b_repr bt_repr (da_cons (de_slot 10 (pv 10)) (da_nil))) (da_cons (de_call h__law_error hr (da_cons (de_slot 10 (pv 10)) (da_nil))) (da_nil))))
    (dss_one (ds_if (dt_w (dw_or (dt_ne hr hB (de_callB (call_reprD _ hr hB) T.b_repr bt_repr (da_cons (de_lstV (da_cons (de_call h_machine_error hr (da_cons (de_slot 10 (pv 10)) (da_nil))) (da_cons (de_call h_machine_error hr (da_cons (de_slot 10 (pv 10)) (da_nil))) (da_nil)))) (da_nil))) (de_callB (call_reprD _ hr hB) T.b_repr bt_repr (da_cons (de_lstV (da_cons (de_slot 12 (pv 12)) (da_cons (de_slot 12 (pv 12)) (da_nil)))) (da_nil)))) (dw_or1 (dt_ne hr hB (de_callB (call_reprD _ hr hB) T.b_repr bt_repr (da_cons (de_slot 10 (pv 10)) (da_nil))) (de_slot 11 (pv 11)))))) (dss_one (ds_ret (de_bl))) (dss_nil))))))))))))))))))
    (dss_one (ds_ret (de_bl))))
theorem mk_law (D : DefOf K mg "law" s_law) (T : Txt mg) (hB : SysB base) {k : Nat} {sp__law_deck : SpD} (h__law_deck : Has P w K mg base k "_law_deck" ["_law_script"] sp__law_deck) {sp__law_draw : SpD} (h__law_draw : Has P w K mg base k "_law_draw" ["_law_deck_here", "_law_many"] sp__law_draw) {sp__law_machine : SpD} (h__law_machine : Has P w K mg base k "_law_machine" ["_law_deck_here", "_law_letters", "_law_most"] sp__law_machine) {sp__law_bent : SpD} (h__law_bent : Has P w K mg base k "_law_bent" ["_law_deck_here", "_law_value", "_law_deep"] sp__law_bent) {sp__law_error : SpD} (h__law_error : Has P w K mg base k "_law_error" ["_law_value"] sp__law_error) {sp_machine_error : SpD} (h_machine_error : Has P w K mg base k "machine_error" ["value"] sp_machine_error) {sp : SpD} (len : ∀ ds S Q, sp ds S Q → ds.length = 1) (hq : ∀ ds S Qd, sp ds S Qd → rd_law sp__law_deck sp__law_draw sp__law_machine sp__law_bent sp__law_error sp_machine_error { nx := fun _ S2 => fin Qd .non S2, rt := fin Qd, bk := fun _ _ => False, ct := fun _ _ => False } (pad 15 ds) S) : Has P w K mg base (k + 1) "law" ["_law_script"] sp :=
  let ⟨f, fd, F, hm⟩ := D.ex
  .of F hm (F.binds fun _ _ _ _ _ _ us hl => match us, hl with | [_], _ => rfl) (FnD.of F sc_law _ len (fun cdv A outer s H hr => dv_law T hB hr h__law_deck h__law_draw h__law_machine h__law_bent h__law_error h_machine_error) hq)
end
end K10

local macro_rules | `(tactic| walk_at "rdx") => `(tactic| simp only [PD.pad, PD.gt_z, PD.gt_s, PD.st_z, PD.st_s, PD.sNextD, PD.sSeqD, PD.sBreakD, PD.sContD, PD.sDropD, PD.sRetD, PD.sRetND, PD.sIfD, PD.sNeverD, PD.sAsgD, PD.sPar2, PD.sPar3, PD.gNameD, PD.gNilD, PD.gConsD, PD.gTupD, PD.gSubD, PD.tNilD, PD.tConsD, PD.tTupD, PD.tLstV, PD.tLstR, PD.tBin, PD.tTst, PD.tAndD, PD.tOrD, PD.tNotD, PD.tIfD, PD.tAndV, PD.tOrV, PD.tNotV, PD.tUnD, PD.rNeg, PD.tCallD, PD.tSlot, PD.tCD, PD.tChainD, PD.rIsN, PD.rNotN, PD.rIsiD, PD.isi_non, PD.isi_bl, PD.isi_int, PD.isi_str, PD.isi_tup, PD.isi_lst, PD.isi_dic, PD.Ty.name, PD.rCmpI, PD.fLt, PD.fLe, PD.fGt, PD.fGe, PD.rAddD, PD.rSubD, PD.rFdivD, PD.rModD, PD.rPowD, PD.rMulD, PD.rAddR, PD.rMulR, PD.asSeq, PD.asLst, PD.rLenD, PD.rTupleD, PD.rListV, PD.rListR, PD.rIntD, PD.rBoolD, PD.rAbsD, PD.rIxD, PD.oNone, PD.oSome, PD.tSlD, PD.rSlD, PD.tRevTD, PD.rEqD, PD.rNeD, PD.nrm_non, PD.nrm_bl, PD.nrm_int, PD.nrm_str, PD.nrm_tup, PD.nrm_lst, PD.nrm_dic, PD.nrm_ref, PD.iSeqD, PD.iRng1D, PD.iRng2D, PD.sForD, PD.tLcV, PD.tLcR, PD.tYesD, PD.wipeD, PD.tMethL, PD.rAppD, PD.isRefL, PD.tDicV, PD.rSetD, PD.rReprD, PD.eqk_int, PD.eqd_int, PD.eqk_str, PD.eqd_str, PD.eqk_lst0, PD.eqd_lst0, PD.eqk_tup0, PD.eqd_tup0, PD.spFn, PD.spDraw, reduceIte, true_and, and_true, Bool.not_true, Bool.not_false, Bool.false_eq_true, List.length_cons, List.length_nil, List.set_cons_zero, List.set_cons_succ, PD.HD.set_same, PD.HD.tick_hp, PD.HD.tick_c, PD.HD.tick_dk, PD.HD.set_c, PD.HD.set_dk])
namespace K10
open PySem PySem.Spec PyProof.Rows PD
def isNum (d : D) (a b : Int) : Bool := match d with
  | .int i => decide (a ≤ i) && decide (i ≤ b)
  | _ => false
def fNum : List D → Option D
  | [d, .int a, .int b] => if okR d = true then some (.bl (isNum d a b)) else none
  | _ => none
theorem fNum_ok {d : D} {a b : Int} (h : okR d = true) : fNum [d, .int a, .int b] = some (.bl (isNum d a b)) := if_pos h
theorem fNum_inv {ds : List D} {r : D} (h : fNum ds = some r) : ∃ d a b, ds = [d, .int a, .int b] ∧ okR d = true ∧ r = .bl (isNum d a b) := by
  unfold fNum at h
  split at h
  · split at h
    · cases h; exact ⟨_, _, _, rfl, by assumption, rfl⟩
    · cases h
  · cases h
theorem spFn_inv {f : List D → Option D} {ds : List D} {S : HD} {Q : QD} (h : spFn f ds S Q) : ∃ r, f ds = some r ∧ Q r S := by
  unfold spFn at h
  split at h
  · exact ⟨_, by assumption, h⟩
  · exact h.elim
theorem num_body {d : D} {a b : Int} {S : HD} {Q : QD} (ok : okR d = true) (q : fin Q (.bl (isNum d a b)) S) : rd_is_number (ends Q) (pad 3 [d, .int a, .int b]) S := by
  unfold rd_is_number
  walk_at "rdx"
  rw [isT_ok ok, isT_ok ok]
  cases d <;> first | exact q | skip
  rename_i i
  simp only [isNum] at q
  by_cases h : a ≤ i
  · simpa [isT, isiB, h] using q
  · simpa [isT, isiB, h] using q
theorem hq_is_number (ds : List D) (S : HD) (Q : QD) (h : spFn fNum ds S Q) : rd_is_number (ends Q) (pad 3 ds) S := by
  obtain ⟨r, e, q⟩ := spFn_inv h
  obtain ⟨d, a, b, rfl, ok, rfl⟩ := fNum_inv e
  exact num_body ok (fin.here q)
theorem hq__law_whole (ds : List D) (S : HD) (Q : QD) (h : spFn fNum ds S Q) : rd__law_whole (ends Q) (pad 3 ds) S := hq_is_number ds S Q h
/-- a state's row -/
def isRow (d : D) (L n : Int) : Bool := match d with
  | .tup xs => decide ((xs.length : Int) = L) && xs.all fun x => !(!isN x && !isNum x 0 (n - 1))
  | _ => false
def fRow : List D → Option D
  | [d, .int L, .int n] => if okR d = true then some (.bl (isRow d L n)) else none
  | _ => none
theorem fRow_inv {ds : List D} {r : D} (h : fRow ds = some r) : ∃ d a b, ds = [d, .int a, .int b] ∧ okR d = true ∧ r = .bl (isRow d a b) := by
  unfold fRow at h
  split at h
  · split at h
    · cases h; exact ⟨_, _, _, rfl, by assumption, rfl⟩
    · cases h
  · cases h
/-- the list of what is no number of a row -/
theorem row_lc {S : HD} {n : Int} {xs : List D} {Q : List D → HD → Prop} {keep : HD → Prop} {v0 v1 v3 : Option D} (hk : keep S) (ok : ∀ x ∈ xs, okR x = true) (q : Q (xs.filterMap fun d => if (!isN d && !isNum d 0 (n - 1)) = true then some d else none) S) :
    lcD (gNameD 3) (tAndD (tTst (tUnD rNotN (tSlot 3))) (tNotD (tTst (tCallD (spFn fNum) (tConsD (tSlot 3) (tConsD (tCD (.int 0)) (tConsD (tBin rSubD (tSlot 2) (tCD (.int 1))) (tNilD)))))))) (tSlot 3) [v0, v1, some (.int n), v3] keep Q xs [] S := by
  refine lcD_pure _ hk xs [] (fun d hd Q1 Q0 h => ?_) (by simpa using q)
  have e := fNum_ok (a := 0) (b := n - 1) (ok d hd)
  walk_at "rdx"
  simp only [e]
  cases h1 : isN d <;> cases h2 : isNum d 0 (n - 1) <;> simpa [h1, h2] using h
theorem hq_is_row (ds : List D) (S : HD) (Q : QD) (h : spFn fRow ds S Q) : rd_is_row (spFn fNum) (ends Q) (pad 4 ds) S := by
  obtain ⟨r, e, q⟩ := spFn_inv h
  obtain ⟨d, L, n, rfl, ok, rfl⟩ := fRow_inv e
  have q' := fin.here q
  clear q h e
  unfold rd_is_row
  cases ht : isT .tuple d with
  | false =>
    walk_at "rdx"
    rw [isT_ok ok, ht]
    simp only [isRow] at q'
    cases d <;> first | exact q' | cases ht
  | true =>
    obtain ⟨xs, rfl⟩ := isT_tup ht
    generalize hg : gNameD 3 = g0
    walk_at "rdx"
    subst hg
    by_cases hL : (xs.length : Int) = L
    · simp only [hL, decide_true, Bool.not_true, Bool.false_eq_true, if_false]
      refine fun hz => ⟨hz, row_lc trivial (fun x hx => okRL_mem ok hx) ⟨by decide, ?_⟩⟩
      rw [empty_filter]
      simpa [isRow, hL] using q'
    · simp only [hL, decide_false, Bool.not_false, if_true]
      simpa [isRow, hL] using q'
theorem fRow_ok {d : D} {a b : Int} (h : okR d = true) : fRow [d, .int a, .int b] = some (.bl (isRow d a b)) := if_pos h
/-- the rows -/
def rowsOk (d : D) (L : Int) : Bool := match d with
  | .tup xs => decide (1 ≤ xs.length) && decide (xs.length ≤ 400) && xs.all fun x => isRow x L xs.length
  | _ => false
def fRows : List D → Option D
  | [d, .int L] => if okR d = true then some (.bl (rowsOk d L)) else none
  | _ => none
theorem fRows_inv {ds : List D} {r : D} (h : fRows ds = some r) : ∃ d a, ds = [d, .int a] ∧ okR d = true ∧ r = .bl (rowsOk d a) := by
  unfold fRows at h
  split at h
  · split at h
    · cases h; exact ⟨_, _, rfl, by assumption, rfl⟩
    · cases h
  · cases h
theorem hq_are_rows (ds : List D) (S : HD) (Q : QD) (h : spFn fRows ds S Q) : rd_are_rows (spFn fRow) (ends Q) (pad 3 ds) S := by
  obtain ⟨r, e, q⟩ := spFn_inv h
  obtain ⟨d, L, rfl, ok, rfl⟩ := fRows_inv e
  have q' := fin.here q
  clear q h e
  unfold rd_are_rows
  cases ht : isT .tuple d with
  | false =>
    walk_at "rdx"
    rw [isT_ok ok, ht]
    simp only [rowsOk] at q'
    cases d <;> first | exact q' | cases ht
  | true =>
    obtain ⟨xs, rfl⟩ := isT_tup ht
    generalize hg : gNameD 2 = g0
    walk_at "rdx"
    subst hg
    by_cases h1 : (1 : Int) ≤ (xs.length : Int)
    · by_cases h2 : (xs.length : Int) ≤ 400
      · simp only [h1, h2, decide_true, Bool.not_true, Bool.false_eq_true, if_false]
        refine fun hz => ⟨hz, lcD_pure (fun d => if (!isRow d L xs.length) = true then some d else none) trivial xs [] (fun d hd Q1 Q0 h => ?_) ⟨by decide, ?_⟩⟩
        · have e := fRow_ok (a := L) (b := xs.length) (okRL_mem ok hd)
          walk_at "rdx"
          simp only [e]
          cases h3 : isRow d L xs.length <;> simpa [h3] using h
        · rw [List.nil_append, empty_filter]
          have e : (xs.all fun d => !(!isRow d L xs.length)) = xs.all fun d => isRow d L xs.length := by congr 1; funext d; simp
          rw [e]
          simpa [rowsOk, show 1 ≤ xs.length by omega, show xs.length ≤ 400 by omega] using q'
      · simp only [h1, h2, decide_true, decide_false, Bool.not_false, if_true]
        simpa [rowsOk, show ¬ xs.length ≤ 400 by omega] using q'
    · simp only [h1, decide_false, Bool.not_false, if_true]
      simpa [rowsOk, show ¬ 1 ≤ xs.length by omega] using q'
/-- the ends -/
def endsOk (d : D) (n : Int) : Bool := match d with
  | .tup xs => decide ((xs.length : Int) = n) && xs.all fun x => isT .bool x
  | _ => false
def fEnds : List D → Option D
  | [d, .int L] => if okR d = true then some (.bl (endsOk d L)) else none
  | _ => none
theorem fEnds_inv {ds : List D} {r : D} (h : fEnds ds = some r) : ∃ d a, ds = [d, .int a] ∧ okR d = true ∧ r = .bl (endsOk d a) := by
  unfold fEnds at h
  split at h
  · split at h
    · cases h; exact ⟨_, _, rfl, by assumption, rfl⟩
    · cases h
  · cases h
theorem ends_lc {i : Nat} {σ : SD} {S : HD} {xs : List D} {Q : List D → HD → Prop} {keep : HD → Prop} (hi : i < σ.length) (hk : keep S) (ok : ∀ x ∈ xs, okR x = true) (q : Q (xs.filterMap fun d => if (!isT .bool d) = true then some d else none) S) :
    lcD (gNameD i) (tNotD (tTst (tCallD (rIsiD .bool) (tConsD (tSlot i) (tConsD (tCD (.ty "bool")) (tNilD)))))) (tSlot i) σ keep Q xs [] S := by
  refine lcD_pure _ hk xs [] (fun d hd Q1 Q0 h => ?_) (by simpa using q)
  have e := isT_ok (S := S) (t := .bool) (ok d hd)
  have hs : gt (st σ i d) i = some d := by
    clear q h
    induction i generalizing σ with
    | zero => cases σ with
      | nil => cases hi
      | cons x r => rfl
    | succ i ih => cases σ with
      | nil => cases hi
      | cons x r => exact ih (by simpa using hi)
  walk_at "rdx"
  simp only [hs, e]
  cases h3 : isT .bool d <;> simpa [h3] using h
theorem all_not (xs : List D) (p : D → Bool) : (xs.all fun d => !(!p d)) = xs.all p := by congr 1; funext d; simp
theorem hq_are_ends (ds : List D) (S : HD) (Q : QD) (h : spFn fEnds ds S Q) : rd_are_ends (ends Q) (pad 3 ds) S := by
  obtain ⟨r, e, q⟩ := spFn_inv h
  obtain ⟨d, L, rfl, ok, rfl⟩ := fEnds_inv e
  have q' := fin.here q
  clear q h e
  unfold rd_are_ends
  cases ht : isT .tuple d with
  | false =>
    walk_at "rdx"
    rw [isT_ok ok, ht]
    simp only [endsOk] at q'
    cases d <;> first | exact q' | cases ht
  | true =>
    obtain ⟨xs, rfl⟩ := isT_tup ht
    generalize hg : gNameD 2 = g0
    walk_at "rdx"
    subst hg
    by_cases hL : (xs.length : Int) = L
    · simp only [hL, decide_true, Bool.not_true, Bool.false_eq_true, if_false]
      refine fun hz => ⟨hz, ends_lc (by simp) trivial (fun x hx => okRL_mem ok hx) ⟨by decide, ?_⟩⟩
      rw [empty_filter, all_not]
      simpa [endsOk, hL] using q'
    · simp only [hL, decide_false, Bool.not_false, if_true]
      simpa [endsOk, hL] using q'
/-- what is wrong with a value -/
def mErr (d : D) : D := match d with
  | .tup [a, b, c] => if isNum a 1 3 = true then (match a, b with
    | .int L, .tup rows => if rowsOk (.tup rows) L = true then (if endsOk c rows.length = true then .non else .str "ends") else .str "rows"
    | _, _ => .str "rows") else .str "letters"
  | _ => .str "machine"
def fErr : List D → Option D
  | [d] => if okR d = true then some (mErr d) else none
  | _ => none
theorem fErr_ok {d : D} (h : okR d = true) : fErr [d] = some (mErr d) := if_pos h
theorem fErr_inv {ds : List D} {r : D} (h : fErr ds = some r) : ∃ d, ds = [d] ∧ okR d = true ∧ r = mErr d := by
  unfold fErr at h
  split at h
  · split at h
    · cases h; exact ⟨_, rfl, by assumption, rfl⟩
    · cases h
  · cases h
theorem len3 {xs : List D} (h : (xs.length : Int) = 3) : ∃ a b c, xs = [a, b, c] := by
  match xs, h with
  | [a, b, c], _ => exact ⟨a, b, c, rfl⟩
  | [], h => simp at h
  | [_], h => simp at h
  | [_, _], h => simp at h
  | _ :: _ :: _ :: _ :: _, h => simp at h; omega
theorem mErr_len {xs : List D} (h : ¬ (xs.length : Int) = 3) : mErr (.tup xs) = .str "machine" := by
  unfold mErr
  split
  · rename_i e; cases e; exact (h rfl).elim
  · rfl
theorem isNum_int {d : D} {a b : Int} (h : isNum d a b = true) : ∃ i, d = .int i ∧ a ≤ i ∧ i ≤ b := by
  cases d <;> first | cases h | skip
  rename_i i
  simp only [isNum, Bool.and_eq_true, decide_eq_true_eq] at h
  exact ⟨i, rfl, h.1, h.2⟩
theorem rowsOk_tup {d : D} {L : Int} (h : rowsOk d L = true) : ∃ xs, d = .tup xs := by
  cases d <;> first | cases h | exact ⟨_, rfl⟩
theorem at30 {a b c : D} : L2.atI [a, b, c] 0 = some a := rfl
theorem at31 {a b c : D} : L2.atI [a, b, c] 1 = some b := rfl
theorem at32 {a b c : D} : L2.atI [a, b, c] 2 = some c := rfl
theorem hq_machine_error (ds : List D) (S : HD) (Q : QD) (h : spFn fErr ds S Q) : rd_machine_error (spFn fNum) (spFn fRows) (spFn fEnds) (ends Q) (pad 1 ds) S := by
  obtain ⟨r, e, q⟩ := spFn_inv h
  obtain ⟨d, rfl, ok, rfl⟩ := fErr_inv e
  have q' := fin.here q
  clear q h e
  unfold rd_machine_error
  cases ht : isT .tuple d with
  | false =>
    walk_at "rdx"
    rw [isT_ok ok, ht]
    simp only [mErr] at q'
    cases d <;> first | exact q' | cases ht
  | true =>
    obtain ⟨xs, rfl⟩ := isT_tup ht
    walk_at "rdx"
    by_cases hL : (xs.length : Int) = 3
    · obtain ⟨a, b, c, rfl⟩ := len3 hL
      have oa : okR a = true := okRL_mem ok (by simp)
      have ob : okR b = true := okRL_mem ok (by simp)
      have oc : okR c = true := okRL_mem ok (by simp)
      simp only [hL, decide_true, Bool.not_true, Bool.false_eq_true, if_false, at30, at31, at32, fNum_ok oa]
      cases hn : isNum a 1 3 with
      | false => simpa [mErr, hn] using q'
      | true =>
        obtain ⟨L, rfl, l1, l2⟩ := isNum_int hn
        have e : fRows [b, .int L] = some (.bl (rowsOk b L)) := if_pos ob
        simp only [Bool.not_true, Bool.false_eq_true, if_false, e]
        cases hr : rowsOk b L with
        | false =>
          have : mErr (.tup [.int L, b, c]) = .str "rows" := by
            unfold mErr
            simp only [hn, if_true]
            split
            · rename_i rows e2
              cases e2
              rw [hr]
              rfl
            · rfl
          simpa [this] using q'
        | true =>
          obtain ⟨rows, rfl⟩ := rowsOk_tup hr
          have e2 : fEnds [c, .int (rows.length : Int)] = some (.bl (endsOk c rows.length)) := if_pos oc
          simp only [Bool.not_true, Bool.false_eq_true, if_false, e2]
          cases he : endsOk c rows.length <;> simpa [mErr, hn, hr, he] using q'
    · simp only [hL, decide_false, Bool.not_false, if_true]
      rw [mErr_len hL] at q'
      exact q'
end K10

local macro_rules | `(tactic| walk_at "rdx") => `(tactic| simp only [PD.pad, PD.gt_z, PD.gt_s, PD.st_z, PD.st_s, PD.sNextD, PD.sSeqD, PD.sBreakD, PD.sContD, PD.sDropD, PD.sRetD, PD.sRetND, PD.sIfD, PD.sNeverD, PD.sAsgD, PD.sPar2, PD.sPar3, PD.gNameD, PD.gNilD, PD.gConsD, PD.gTupD, PD.gSubD, PD.tNilD, PD.tConsD, PD.tTupD, PD.tLstV, PD.tLstR, PD.tBin, PD.tTst, PD.tAndD, PD.tOrD, PD.tNotD, PD.tIfD, PD.tAndV, PD.tOrV, PD.tNotV, PD.tUnD, PD.rNeg, PD.tCallD, PD.tSlot, PD.tCD, PD.tChainD, PD.rIsN, PD.rNotN, PD.rIsiD, PD.isi_non, PD.isi_bl, PD.isi_int, PD.isi_str, PD.isi_tup, PD.isi_lst, PD.isi_dic, PD.Ty.name, PD.rCmpI, PD.fLt, PD.fLe, PD.fGt, PD.fGe, PD.rAddD, PD.rSubD, PD.rFdivD, PD.rModD, PD.rPowD, PD.rMulD, PD.rAddR, PD.rMulR, PD.asSeq, PD.asLst, PD.rLenD, PD.rTupleD, PD.rListV, PD.rListR, PD.rIntD, PD.rBoolD, PD.rAbsD, PD.rIxD, PD.oNone, PD.oSome, PD.tSlD, PD.rSlD, PD.tRevTD, PD.rEqD, PD.rNeD, PD.nrm_non, PD.nrm_bl, PD.nrm_int, PD.nrm_str, PD.nrm_tup, PD.nrm_lst, PD.nrm_dic, PD.nrm_ref, PD.iSeqD, PD.iRng1D, PD.iRng2D, PD.sForD, PD.tLcV, PD.tLcR, PD.tYesD, PD.wipeD, PD.tMethL, PD.rAppD, PD.isRefL, PD.tDicV, PD.rSetD, PD.rReprD, PD.eqk_int, PD.eqd_int, PD.eqk_str, PD.eqd_str, PD.eqk_lst0, PD.eqd_lst0, PD.eqk_tup0, PD.eqd_tup0, PD.spFn, PD.spDraw, reduceIte, true_and, and_true, Bool.not_true, Bool.not_false, Bool.false_eq_true, List.length_cons, List.length_nil, List.set_cons_zero, List.set_cons_succ, PD.HD.set_same, PD.HD.tick_hp, PD.HD.tick_c, PD.HD.tick_dk, PD.HD.set_c, PD.HD.set_dk])
namespace K10
open PySem PySem.Spec PyProof.Rows PD
theorem row_lc2 {S : HD} {n : Int} {xs rows : List D} {a c : D} {Q : List D → HD → Prop} {keep : HD → Prop} {v1 v2 v3 : Option D} (hk : keep S) (hn : n = rows.length) (ok : ∀ x ∈ xs, okR x = true) (q : Q (xs.filterMap fun d => if (!isN d && !isNum d 0 (n - 1)) = true then some d else none) S) :
    lcD (gNameD 2) (tAndD (tTst (tUnD rNotN (tSlot 2))) (tNotD (tTst (tCallD (spFn fNum) (tConsD (tSlot 2) (tConsD (tCD (.int 0)) (tConsD (tBin rSubD (tCallD rLenD (tConsD (tBin rIxD (tSlot 0) (tCD (.int 1))) (tNilD))) (tCD (.int 1))) (tNilD)))))))) (tSlot 2) [some (.tup [a, .tup rows, c]), v1, v2, v3] keep Q xs [] S := by
  subst hn
  refine lcD_pure _ hk xs [] (fun d hd Q1 Q0 h => ?_) (by simpa using q)
  have e := fNum_ok (a := 0) (b := (rows.length : Int) - 1) (ok d hd)
  walk_at "rdx"
  simp only [at31, e]
  cases h1 : isN d <;> cases h2 : isNum d 0 ((rows.length : Int) - 1) <;> simpa [h1, h2] using h
theorem isRow_not {d : D} {L n : Int} (h : isRow d L n = false) {rows : List D} {a c : D} (hm : d ∈ rows) (hn : n = rows.length) (ha : a = .int L) (hb : isNum a 1 3 = true) : mErr (.tup [a, .tup rows, c]) = .str "rows" := by
  subst ha hn
  have : rowsOk (.tup rows) L = false := by
    simp only [rowsOk, Bool.and_eq_false_iff]
    right
    rw [List.all_eq_false]
    exact ⟨d, hm, by simp [h]⟩
  simp [mErr, hb, this]
theorem hq__law_error (ds : List D) (S : HD) (Q : QD) (h : spFn fErr ds S Q) : rd__law_error (spFn fNum) (ends Q) (pad 4 ds) S := by
  obtain ⟨r, e, q⟩ := spFn_inv h
  obtain ⟨d, rfl, ok, rfl⟩ := fErr_inv e
  have q' := fin.here q
  clear q h e
  unfold rd__law_error
  cases ht : isT .tuple d with
  | false =>
    walk_at "rdx"
    rw [isT_ok ok, ht]
    simp only [mErr] at q'
    cases d <;> first | exact q' | cases ht
  | true =>
    obtain ⟨xs, rfl⟩ := isT_tup ht
    generalize hT : sForD _ _ _ = T1
    generalize hU : (sSeqD _ (sRetD (tIfD _ _ _)) : TSD) = U1
    walk_at "rdx"
    by_cases hL : (xs.length : Int) = 3
    · obtain ⟨a, b, c, rfl⟩ := len3 hL
      have oa : okR a = true := okRL_mem ok (by simp)
      have ob : okR b = true := okRL_mem ok (by simp)
      have oc : okR c = true := okRL_mem ok (by simp)
      simp only [hL, decide_true, Bool.not_true, Bool.false_eq_true, if_false, at30, at31, at32, fNum_ok oa]
      cases hn : isNum a 1 3 with
      | false => simpa [mErr, hn] using q'
      | true =>
        obtain ⟨L, rfl, l1, l2⟩ := isNum_int hn
        simp only [Bool.not_true, Bool.false_eq_true, if_false, isT_ok ob]
        cases hb : isT .tuple b with
        | false =>
          have : mErr (.tup [.int L, b, c]) = .str "rows" := by
            simp only [mErr, hn, if_true]
            cases b <;> first | rfl | cases hb
          simpa [this] using q'
        | true =>
          obtain ⟨rows, rfl⟩ := isT_tup hb
          walk_at "rdx"
          by_cases h1 : (1 : Int) ≤ (rows.length : Int)
          · by_cases h2 : (rows.length : Int) ≤ 400
            · simp only [h1, h2, decide_true, Bool.not_true, Bool.false_eq_true, if_false]
              subst hT
              generalize hB : (sSeqD (sIfD (tOrD (tNotD (tTst (tCallD (rIsiD .tuple) (tConsD (tSlot 1) _)))) _) _ _) _ : TSD) = B1
              generalize hg : gNameD 1 = g1
              walk_at "rdx"
              simp only [at31]
              subst hg
              intro hz
              refine loopD_go (fun i σ S' => S' = S ∧ (∃ v1, σ = [some (.tup [.int L, .tup rows, c]), v1, none, none]) ∧ ∀ j d, j < i → rows[j]? = some d → isRow d L rows.length = true) ⟨rfl, ⟨_, rfl⟩, fun j d hj => absurd hj (Nat.not_lt_zero j)⟩ (fun i d σ S' N hi ⟨e1, ⟨v1, e2⟩, hI⟩ k => ⟨trivial, ?_⟩) fun σ S' ⟨e1, ⟨v1, e2⟩, hI⟩ => ⟨trivial, ?_⟩
              · subst e1 e2 hB
                have hm : d ∈ rows := List.mem_of_getElem? hi
                have od : okR d = true := okRL_mem ob hm
                have bad : isRow d L rows.length = false → fin Q (.str "rows") S' := fun hf => by
                  rw [isRow_not hf hm rfl rfl hn] at q'
                  exact q'
                have good : isRow d L rows.length = true → N [some (.tup [.int L, .tup rows, c]), some d, none, none] S' := fun hf => k _ _ ⟨rfl, ⟨_, rfl⟩, fun j y hj hy => by
                  rcases Nat.lt_succ_iff_lt_or_eq.mp hj with h | h
                  · exact hI j y h hy
                  · subst h
                    rw [hi] at hy
                    cases hy
                    exact hf⟩
                cases hd : isT .tuple d with
                | false =>
                  walk_at "rdx"
                  simp only [isT_ok od, hd, Bool.not_false, if_true]
                  exact bad (by cases d <;> first | rfl | cases hd)
                | true =>
                  obtain ⟨ys, rfl⟩ := isT_tup hd
                  generalize hg : gNameD 2 = g2
                  walk_at "rdx"
                  subst hg
                  simp only [at30]
                  by_cases hy : (ys.length : Int) = L
                  · simp only [nrm_int, eqk_int, eqd_int, hy, decide_true, Bool.not_true, Bool.false_eq_true, if_false, true_and]
                    refine fun hz => ⟨hz, row_lc2 trivial rfl (fun x hx => okRL_mem od hx) ⟨by decide, ?_⟩⟩
                    rw [empty_filter]
                    have e : isRow (.tup ys) L rows.length = ys.all fun x => !(!isN x && !isNum x 0 ((rows.length : Int) - 1)) := by simp [isRow, hy]
                    rw [← e]
                    cases hr : isRow (.tup ys) L rows.length with
                    | false => simpa using bad hr
                    | true => simpa using good hr
                  · simp only [nrm_int, eqk_int, eqd_int, hy, decide_false, Bool.not_false, if_true, true_and]
                    exact bad (by simp [isRow, hy])
              · subst e1 e2 hU
                have hrows : rowsOk (.tup rows) L = true := by
                  simp only [rowsOk, Bool.and_eq_true, decide_eq_true_eq, List.all_eq_true]
                  refine ⟨⟨by omega, by omega⟩, fun d hd => ?_⟩
                  obtain ⟨j, hj⟩ := List.mem_iff_getElem?.mp hd
                  exact hI j d (by have := (List.getElem?_eq_some_iff.mp hj).1; exact this) hj
                have e : mErr (.tup [.int L, .tup rows, c]) = if endsOk c rows.length = true then .non else .str "ends" := by simp [mErr, hn, hrows]
                rw [e] at q'
                cases hc : isT .tuple c with
                | false =>
                  walk_at "rdx"
                  simp only [at32, isT_ok oc, hc, Bool.not_false, if_true]
                  cases c <;> first | exact q' | cases hc
                | true =>
                  obtain ⟨cs, rfl⟩ := isT_tup hc
                  generalize hg : gNameD 3 = g3
                  walk_at "rdx"
                  subst hg
                  simp only [at32, at31]
                  walk_at "rdx"
                  by_cases hy : (cs.length : Int) = (rows.length : Int)
                  · simp only [hy, decide_true, Bool.not_true, Bool.false_eq_true, if_false, true_and]
                    refine fun hz => ⟨hz, ends_lc (by simp) trivial (fun x hx => okRL_mem oc hx) ⟨by decide, ?_⟩⟩
                    rw [empty_filter, all_not]
                    have e : endsOk (.tup cs) rows.length = cs.all fun x => isT .bool x := by simp [endsOk, hy]
                    rw [e] at q'
                    cases h : cs.all fun x => isT .bool x <;> simpa [h] using q'
                  · simp only [hy, decide_false, Bool.not_false, if_true, true_and]
                    have e : endsOk (.tup cs) rows.length = false := by simp [endsOk, hy]
                    rw [e] at q'
                    exact q'
            · have : mErr (.tup [.int L, .tup rows, c]) = .str "rows" := by simp [mErr, hn, rowsOk, show ¬ rows.length ≤ 400 by omega]
              simp only [h1, h2, decide_true, decide_false, Bool.not_false, if_true]
              rw [this] at q'
              exact q'
          · have : mErr (.tup [.int L, .tup rows, c]) = .str "rows" := by simp [mErr, hn, rowsOk, show ¬ 1 ≤ rows.length by omega]
            simp only [h1, decide_false]
            rw [this] at q'
            exact q'
    · simp only [hL, decide_false, Bool.not_false, if_true]
      rw [mErr_len hL] at q'
      exact q'
end K10

local macro_rules | `(tactic| walk_at "rdx") => `(tactic| simp only [PD.pad, PD.gt_z, PD.gt_s, PD.st_z, PD.st_s, PD.sNextD, PD.sSeqD, PD.sBreakD, PD.sContD, PD.sDropD, PD.sRetD, PD.sRetND, PD.sIfD, PD.sNeverD, PD.sAsgD, PD.sPar2, PD.sPar3, PD.gNameD, PD.gNilD, PD.gConsD, PD.gTupD, PD.gSubD, PD.tNilD, PD.tConsD, PD.tTupD, PD.tLstV, PD.tLstR, PD.tBin, PD.tTst, PD.tAndD, PD.tOrD, PD.tNotD, PD.tIfD, PD.tAndV, PD.tOrV, PD.tNotV, PD.tUnD, PD.rNeg, PD.tCallD, PD.tSlot, PD.tCD, PD.tChainD, PD.rIsN, PD.rNotN, PD.rIsiD, PD.isi_non, PD.isi_bl, PD.isi_int, PD.isi_str, PD.isi_tup, PD.isi_lst, PD.isi_dic, PD.Ty.name, PD.rCmpI, PD.fLt, PD.fLe, PD.fGt, PD.fGe, PD.rAddD, PD.rSubD, PD.rFdivD, PD.rModD, PD.rPowD, PD.rMulD, PD.rAddR, PD.rMulR, PD.asSeq, PD.asLst, PD.rLenD, PD.rTupleD, PD.rListV, PD.rListR, PD.rIntD, PD.rBoolD, PD.rAbsD, PD.rIxD, PD.oNone, PD.oSome, PD.tSlD, PD.rSlD, PD.tRevTD, PD.rEqD, PD.rNeD, PD.nrm_non, PD.nrm_bl, PD.nrm_int, PD.nrm_str, PD.nrm_tup, PD.nrm_lst, PD.nrm_dic, PD.nrm_ref, PD.iSeqD, PD.iRng1D, PD.iRng2D, PD.sForD, PD.tLcV, PD.tLcR, PD.tYesD, PD.wipeD, PD.tMethL, PD.rAppD, PD.isRefL, PD.tDicV, PD.rSetD, PD.rReprD, PD.eqk_int, PD.eqd_int, PD.eqk_str, PD.eqd_str, PD.eqk_lst0, PD.eqd_lst0, PD.eqk_tup0, PD.eqd_tup0, PD.spFn, PD.spDraw, reduceIte, true_and, and_true, Bool.not_true, Bool.not_false, Bool.false_eq_true, List.length_cons, List.length_nil, List.set_cons_zero, List.set_cons_succ, PD.HD.set_same, PD.HD.tick_hp, PD.HD.tick_c, PD.HD.tick_dk, PD.HD.set_c, PD.HD.set_dk])
namespace K10
open PySem PySem.Spec PyProof.Rows PD
/-- a cell, a row of a machine with n states -/
def CellOk (n : Int) (c : D) : Prop := c = .non ∨ ∃ j, c = .int j ∧ 0 ≤ j ∧ j < n
def RowOk (L n : Int) (r : D) : Prop := ∃ cells, r = .tup cells ∧ (cells.length : Int) = L ∧ ∀ c ∈ cells, CellOk n c
def MachOk (L m : Int) (M : D) : Prop := ∃ rows ends, M = .tup [.int L, .tup rows, .tup ends] ∧ 1 ≤ rows.length ∧ (rows.length : Int) ≤ m ∧ ends.length = rows.length ∧ (∀ r ∈ rows, RowOk L rows.length r) ∧ ∀ e ∈ ends, ∃ b, e = .bl b
def spMach : SpD := fun ds S Q => ∃ L m : Int, ds = [.deck, .int L, .int m] ∧ 1 ≤ L ∧ L ≤ 3 ∧ 1 ≤ m ∧ m ≤ 8 ∧ S.c + 1000 ≤ 1000000000000 ∧ ∀ M, MachOk L m M → Q M (S.tick 1000)
theorem lc_len {f : D → Option D} {xs : List D} (h : ∀ d ∈ xs, (f d).isSome = true) : (xs.filterMap f).length = xs.length := by
  induction xs with
  | nil => rfl
  | cons x xs ih =>
    have h1 := h x List.mem_cons_self
    cases e : f x with
    | none => rw [e] at h1; cases h1
    | some y => rw [List.filterMap_cons, e]; simp [ih fun d hd => h d (List.mem_cons_of_mem _ hd)]
/-- cells by calls that draw once -/
theorem cells_lc {g : TGD} {tt : TTD} {te : TED} {σ : SD} {xs : List D} {Q : List D → HD → Prop} {n : Int} {S0 S : HD} {k : Nat} (hu : Up k S0 S) (hc : S0.c + 500 ≤ 1000000000000) (hk : k + xs.length ≤ 500)
    (step : ∀ (d : D) (acc : List D) (S' : HD) (N : List D → HD → Prop), d ∈ xs → S'.c < 1000000000000 → S'.hp = S.hp → (∀ y, CellOk n y → N (acc ++ [y]) (S'.tick 1)) → g d σ S' fun σ2 S2 => tt σ2 S2 fun b S3 => if b = true then te σ2 S3 (fun y S4 => N (acc ++ [y]) S4) else N acc S3)
    (q : ∀ acc S', acc.length = xs.length → (∀ c ∈ acc, CellOk n c) → Up (k + xs.length) S0 S' → S'.hp = S.hp → Q acc S') : lcD g tt te σ (fun _ => True) Q xs [] S := by
  refine lcD_go (fun i acc S' => acc.length = i ∧ (∀ c ∈ acc, CellOk n c) ∧ Up (k + i) S0 S' ∧ S'.hp = S.hp) ⟨rfl, fun c h => (by cases h), hu, rfl⟩ (fun i d acc S' N hi ⟨e1, e2, e3, e4⟩ kk => ⟨trivial, step d acc S' N (List.mem_of_getElem? hi) ?_ e4 fun y hy => kk _ _ ⟨by rw [List.length_append, e1]; rfl, fun c hc => ?_, e3.tick (k := 1), e4⟩⟩) fun acc S' ⟨e1, e2, e3, e4⟩ => ⟨trivial, q acc S' e1 e2 e3 e4⟩
  · have h1 := (List.getElem?_eq_some_iff.mp hi).1
    have h2 := e3.c
    omega
  · rcases List.mem_append.mp hc with h | h
    · exact e2 c h
    · rw [List.mem_singleton.mp h]; exact hy
theorem hq__law_machine (ds : List D) (S : HD) (Q : QD) (h : spMach ds S Q) : rd__law_machine spDraw spOne (ends Q) (pad 12 ds) S := by
  obtain ⟨L, m, rfl, l1, l2, m1, m2, hc, q⟩ := h
  unfold rd__law_machine
  generalize hT : sForD _ _ _ = T1
  generalize hU : (sSeqD _ (sRetD _) : TSD) = U1
  walk_at "rdx"
  refine ⟨⟨m1, by omega, by omega⟩, fun r1 r10 r11 => ⟨⟨by decide, by decide, by omega⟩, fun way w0 w1 => ⟨by decide, fun p hp => ⟨by decide, ?_⟩⟩⟩⟩
  have hn1 : 1 ≤ 1 + r1 := by omega
  have hn2 : 1 + r1 ≤ m := by omega
  generalize 1 + r1 = n at hn1 hn2
  have hu0 : Up 2 S (((S.tick 1).tick 1).set p (.lst [])) := ((((Up.refl S).tick).tick).new hp).mono (by decide)
  have hp0 : S.hp p = none := hp
  have hp1 : (((S.tick 1).tick 1).set p (.lst [])).hp p = some (.lst []) := HD.set_same
  generalize (((S.tick 1).tick 1).set p (.lst [])) = S1 at hu0 hp1
  subst hT
  generalize hB : sIfD _ _ _ = B1
  walk_at "rdx"
  refine ⟨⟨by omega, by omega⟩, loopD_go (fun i σ S' => ∃ rows v6 v7 v8, σ = [some .deck, some (.int L), some (.int m), some (.int n), some (.int way), some (.ref p), v6, v7, v8, none, none, none] ∧ rows.length = i ∧ (∀ r ∈ rows, RowOk L n r) ∧ S'.hp p = some (.lst rows) ∧ Up (2 + 6 * i) S S') ⟨[], none, none, none, rfl, rfl, fun r h => (by cases h), hp1, hu0⟩ (fun i d σ S' N hi ⟨rows, v6, v7, v8, e1, e2, e3, e4, e5⟩ k => ⟨trivial, ?_⟩) fun σ S' ⟨rows, v6, v7, v8, e1, e2, e3, e4, e5⟩ => ⟨trivial, ?_⟩⟩
  · obtain ⟨hi1, rfl⟩ := rngD_get hi
    subst e1 hB
    have hi2 : i < 8 := by omega
    have hcS : S'.c + 500 ≤ 1000000000000 := by have := e5.c; omega
    have done : ∀ cells S2 v7 v8, (cells.length : Int) = L → (∀ c ∈ cells, CellOk n c) → Up 6 S' S2 → S2.hp = S'.hp → rows.length < 16000000 ∧ N [some .deck, some (.int L), some (.int m), some (.int n), some (.int way), some (.ref p), some (.int (0 + (i : Int))), v7, v8, none, none, none] (S2.set p (.lst (rows ++ [.tup cells]))) := fun cells S2 v7 v8 h1 h2 h3 h4 => ⟨by omega, k _ _ ⟨rows ++ [.tup cells], _, v7, v8, rfl, by simp [e2], fun r hr => (by
      rcases List.mem_append.mp hr with h | h
      · exact e3 r h
      · rw [List.mem_singleton.mp h]; exact ⟨cells, rfl, h1, h2⟩), HD.set_same, ((e5.trans h3).mono (by omega)).set hp0⟩⟩
    generalize hg : gNameD 10 = g10
    generalize hg' : gNameD 11 = g11
    walk_at "rdx"
    subst hg hg'
    have hrl : (rngD 0 L.toNat).length = L.toNat := rngD_len _ _
    have hLn : ((L.toNat : Nat) : Int) = L := Int.toNat_of_nonneg (by omega)
    have hsz : (rngD 0 L.toNat).length ≤ sizeLine := by
      have : (sizeLine : Nat) = 16777216 := rfl
      omega
    have i0 : (0 : Int) + (i : Int) = i := Int.zero_add _
    by_cases hw : way = 0
    · simp only [hw, decide_true, if_true]
      subst hw
      refine ⟨⟨_, e4⟩, ⟨by omega, by omega⟩, hsz, lcD_pure (fun _ => some (.int ((0 + (i : Int) + 1) % n))) trivial _ _ (fun d hd Q1 Q0 h => ?_) ?_⟩
      · walk_at "rdx"
        exact ⟨by omega, h⟩
      · simp only [e4]
        refine done _ S' _ _ ?_ ?_ ((Up.refl _).mono (by decide)) rfl
        · rw [List.nil_append, lc_len (fun _ _ => rfl), hrl, hLn]
        · intro c hc
          obtain ⟨_, _, e⟩ := List.mem_filterMap.mp hc
          cases e
          exact .inr ⟨_, rfl, Int.emod_nonneg _ (by omega), Int.emod_lt_of_pos _ (by omega)⟩
    · simp only [hw, decide_false, Bool.false_eq_true, if_false]
      by_cases hw1 : way = 1
      · simp only [hw1, decide_true, if_true]
        subst hw1
        have one : ∀ (f0 : D), CellOk n f0 → (∃ xs, S'.hp p = some (OD.lst xs)) ∧ (-1000000000 ≤ L ∧ L ≤ 10000000) ∧ (rngD 0 L.toNat).length ≤ sizeLine ∧
            lcD (gNameD 10) tYesD (tCallD spOne (tConsD (tSlot 0) (tConsD (tSlot 7) tNilD))) [some .deck, some (.int L), some (.int m), some (.int n), some (.int 1), some (.ref p), some (.int (0 + (i : Int))), some (.lst [f0, .int (0 + (i : Int)), .non]), v8, none, none, none] (fun _ => True)
              (fun acc S2 => match S2.hp p with
                | some (OD.lst xs) => xs.length < 16000000 ∧ N [some .deck, some (.int L), some (.int m), some (.int n), some (.int 1), some (.ref p), some (.int (0 + (i : Int))), some (.lst [f0, .int (0 + (i : Int)), .non]), v8, none, none, none] (S2.set p (.lst (xs ++ [.tup acc])))
                | _ => False) (rngD 0 L.toNat) [] S' := fun f0 hf => by
          refine ⟨⟨_, e4⟩, ⟨by omega, by omega⟩, hsz, cells_lc (n := n) (S0 := S') (Up.refl S') hcS (by omega) (fun d acc S2 N2 hd hc2 hs2 k2 => ?_) fun acc S2 a1 a2 a3 a4 => ?_⟩
          · walk_at "rdx"
            refine ⟨_, _, rfl, rfl, by simp, by simp, hc2, fun y hy => k2 y ?_⟩
            rcases List.mem_cons.mp hy with e | hy
            · rw [e]; exact hf
            rcases List.mem_cons.mp hy with e | hy
            · rw [e]; exact .inr ⟨_, rfl, by omega, by omega⟩
            · rw [List.mem_singleton.mp hy]; exact .inl rfl
          · simp only [a4, e4]
            exact done acc S2 _ _ (by rw [a1, hrl, hLn]) a2 (a3.mono (by omega)) a4
        by_cases hs : 0 + (i : Int) + 1 < n
        · simp only [hs, decide_true, if_true]
          exact ⟨by decide, one _ (.inr ⟨_, rfl, by omega, by omega⟩)⟩
        · simp only [hs, decide_false, Bool.false_eq_true, if_false]
          exact ⟨by decide, one _ (.inl rfl)⟩
      · simp only [hw1, decide_false, Bool.false_eq_true, if_false]
        refine ⟨⟨by omega, by omega⟩, hsz, cells_lc (n := n) (S0 := S') (Up.refl S') hcS (by omega) (fun d acc S2 N2 hd hc2 hs2 k2 => ?_) fun acc S2 a1 a2 a3 a4 => ?_⟩
        · walk_at "rdx"
          exact ⟨⟨by omega, by omega, hc2⟩, fun r r0 r1 => k2 _ (.inr ⟨_, rfl, r0, r1⟩)⟩
        · refine ⟨⟨_, by rw [a4]; exact e4⟩, fun hz => ⟨hz, cells_lc (n := n) (S0 := S') a3 hcS (by omega) (fun d acc2 S3 N2 hd hc2 hs2 k2 => ?_) fun acc2 S3 b1 b2 b3 b4 => ?_⟩⟩
          · walk_at "rdx"
            refine ⟨⟨by omega, by omega, hc2⟩, fun r r0 r1 => ?_⟩
            by_cases hr : r = 0
            · simp only [hr, decide_true, if_true]
              exact k2 _ (.inl rfl)
            · simp only [hr, decide_false, Bool.false_eq_true, if_false]
              exact k2 _ (a2 d hd)
          · simp only [b4, a4, e4]
            exact done acc2 S3 _ _ (by rw [b1, a1, hrl, hLn]) b2 (b3.mono (by omega)) (b4.trans a4)
  · subst e1 hU
    rw [rngD_len] at e2 e5
    generalize hg : gNameD 6 = g6
    walk_at "rdx"
    subst hg
    refine ⟨by decide, _, _, rfl, rfl, by simp, by simp, by have := e5.c; omega, fun o ho => ?_⟩
    simp only [HD.tick_hp, e4]
    have hn : rows.length = n.toNat := e2
    have hnn : ((n.toNat : Nat) : Int) = n := Int.toNat_of_nonneg (by omega)
    have hrl : (rngD 0 n.toNat).length = n.toNat := rngD_len _ _
    obtain ⟨ov, rfl, o1, o2⟩ : ∃ ov : Int, o = .int ov ∧ 1 ≤ ov ∧ ov ≤ 5 := by
      rcases List.mem_cons.mp ho with e | ho
      · exact ⟨2, e, by decide, by decide⟩
      rcases List.mem_cons.mp ho with e | ho
      · exact ⟨2, e, by decide, by decide⟩
      rcases List.mem_cons.mp ho with e | ho
      · exact ⟨3, e, by decide, by decide⟩
      · exact ⟨5, List.mem_singleton.mp ho, by decide, by decide⟩
    refine ⟨⟨by omega, by omega⟩, by rw [hrl]; have : (sizeLine : Nat) = 16777216 := rfl; omega, ?_⟩
    refine lcD_go (fun i acc S2 => acc.length = i ∧ (∀ e ∈ acc, ∃ b, e = .bl b) ∧ Up (2 + 6 * n.toNat + 1 + i) S S2) ⟨rfl, fun c h => (by cases h), e5.tick (k := 1)⟩ (fun i d acc S2 N hi ⟨a1, a2, a3⟩ k => ⟨trivial, ?_⟩) fun acc S2 ⟨a1, a2, a3⟩ => ⟨trivial, by decide, ?_⟩
    · obtain ⟨hi1, rfl⟩ := rngD_get hi
      walk_at "rdx"
      refine ⟨⟨o1, by omega, by have := a3.c; omega⟩, fun r r0 r1 => k _ _ ⟨by rw [List.length_append, a1]; rfl, fun e he => ?_, a3.tick (k := 1)⟩⟩
      rcases List.mem_append.mp he with h | h
      · exact a2 e h
      · exact ⟨_, List.mem_singleton.mp h⟩
    · rw [hrl] at a1 a3
      refine (a3.mono (by omega)).fin (q _ ⟨rows, acc, rfl, by omega, by omega, by omega, ?_, a2⟩)
      rw [hn, hnn]
      exact e3
end K10

local macro_rules | `(tactic| walk_at "rdx") => `(tactic| simp only [PD.pad, PD.gt_z, PD.gt_s, PD.st_z, PD.st_s, PD.sNextD, PD.sSeqD, PD.sBreakD, PD.sContD, PD.sDropD, PD.sRetD, PD.sRetND, PD.sIfD, PD.sNeverD, PD.sAsgD, PD.sPar2, PD.sPar3, PD.gNameD, PD.gNilD, PD.gConsD, PD.gTupD, PD.gSubD, PD.tNilD, PD.tConsD, PD.tTupD, PD.tLstV, PD.tLstR, PD.tBin, PD.tTst, PD.tAndD, PD.tOrD, PD.tNotD, PD.tIfD, PD.tAndV, PD.tOrV, PD.tNotV, PD.tUnD, PD.rNeg, PD.tCallD, PD.tSlot, PD.tCD, PD.tChainD, PD.rIsN, PD.rNotN, PD.rIsiD, PD.isi_non, PD.isi_bl, PD.isi_int, PD.isi_str, PD.isi_tup, PD.isi_lst, PD.isi_dic, PD.Ty.name, PD.rCmpI, PD.fLt, PD.fLe, PD.fGt, PD.fGe, PD.rAddD, PD.rSubD, PD.rFdivD, PD.rModD, PD.rPowD, PD.rMulD, PD.rAddR, PD.rMulR, PD.asSeq, PD.asLst, PD.rLenD, PD.rTupleD, PD.rListV, PD.rListR, PD.rIntD, PD.rBoolD, PD.rAbsD, PD.rIxD, PD.oNone, PD.oSome, PD.tSlD, PD.rSlD, PD.tRevTD, PD.rEqD, PD.rNeD, PD.nrm_non, PD.nrm_bl, PD.nrm_int, PD.nrm_str, PD.nrm_tup, PD.nrm_lst, PD.nrm_dic, PD.nrm_ref, PD.iSeqD, PD.iRng1D, PD.iRng2D, PD.sForD, PD.tLcV, PD.tLcR, PD.tYesD, PD.wipeD, PD.tMethL, PD.rAppD, PD.isRefL, PD.tDicV, PD.rSetD, PD.rReprD, PD.eqk_int, PD.eqd_int, PD.eqk_str, PD.eqd_str, PD.eqk_lst0, PD.eqd_lst0, PD.eqk_tup0, PD.eqd_tup0, PD.spFn, PD.spDraw, reduceIte, true_and, and_true, Bool.not_true, Bool.not_false, Bool.false_eq_true, List.length_cons, List.length_nil, List.set_cons_zero, List.set_cons_succ, PD.HD.set_same, PD.HD.tick_hp, PD.HD.tick_c, PD.HD.tick_dk, PD.HD.set_c, PD.HD.set_dk])
namespace K10
open PySem PySem.Spec PyProof.Rows PD
/-- what may become of a value -/
def BentOk (v d : D) : Prop := okR d = true ∧ dep d ≤ dep v + 3 ∧ sz d ≤ 2 * sz v + 200
def spBent (n : Nat) : SpD := fun ds S Q => ∃ (v : D) (deep : Int), ds = [.deck, v, .int deep] ∧ 0 ≤ deep ∧ deep ≤ n ∧ okR v = true ∧ sz v ≤ 4000000 ∧ S.c + 10 * (n + 1) ≤ 1000000000000 ∧ ∀ d, BentOk v d → Q d (S.tick (4 * (n + 1)))
/-- what the callee of a bend must tell -/
def Callee (sb : SpD) (n : Nat) : Prop := ∀ (v : D) (deep : Int) (S : HD) (Q : QD), 0 ≤ deep → deep + 1 ≤ n → okR v = true → sz v ≤ 4000000 → S.c + 10 * n ≤ 1000000000000 → (∀ d, BentOk v d → Q d (S.tick (4 * n))) → sb [.deck, v, .int deep] S Q
def odds : List D := [.non, .bl true, .bl false, .int 0, .int (-1), .int 1, .int 2, .int 7, .int 400, .int (10 ^ (30 : Int).toNat), .str "", .str "a", .tup [], .lst [], .dic [], .tup [.int 0], .tup [.non], .tup [.bl true], .tup [.tup [.int 0]]]
theorem odds_ok : ∀ d ∈ odds, okR d = true ∧ dep d ≤ 3 ∧ sz d ≤ 200 := by
  have h : (odds.all fun d => okR d && decide (dep d ≤ 3) && decide (sz d ≤ 200)) = true := by decide +kernel
  intro d hd
  have := List.all_eq_true.mp h d hd
  simp only [Bool.and_eq_true, decide_eq_true_eq] at this
  exact ⟨this.1.1, this.1.2, this.2⟩
theorem hq__law_bent {sb : SpD} {n : Nat} (hsb : Callee sb n) (hn : n ≤ 20) (ds : List D) (S : HD) (Q : QD) (h : spBent n ds S Q) : rd__law_bent spDraw spOne sb (ends Q) (pad 6 ds) S := by
  obtain ⟨v, deep, rfl, d0, d1, ok, hz, hc, q⟩ := h
  unfold rd__law_bent
  generalize hU : (sSeqD (sPar2 _ _ _) _ : TSD) = U1
  walk_at "rdx"
  refine ⟨by decide, by decide, by decide, by decide, by decide, by decide, by decide, by decide, by decide, ?_⟩
  have out : ∀ S', Up 3 S S' → spOne [.deck, .lst odds] S' (fin Q) := fun S' hu => ⟨_, _, rfl, rfl, by decide, by decide, by have := hu.c; omega, fun d hd => by
    obtain ⟨o1, o2, o3⟩ := odds_ok d hd
    exact ((hu.tick (k := 1)).mono (by omega)).fin (q d ⟨o1, by omega, by omega⟩)⟩
  by_cases hd : deep = 0
  · simp only [hd, decide_true, if_true]
    exact out S ((Up.refl S).mono (by decide))
  simp only [hd, decide_false, Bool.false_eq_true, if_false, isT_ok ok]
  cases ht : isT .tuple v with
  | false =>
    simp only [Bool.not_false, if_true]
    exact out S ((Up.refl S).mono (by decide))
  | true =>
    obtain ⟨xs, rfl⟩ := isT_tup ht
    simp only [Bool.not_true, Bool.false_eq_true, if_false, nrm_tup, eqk_tup0, eqd_tup0, true_and]
    refine ⟨by decide, ?_⟩
    cases he : xs.isEmpty with
    | true =>
      simp only [if_true]
      exact out S ((Up.refl S).mono (by decide))
    | false =>
      simp only [Bool.false_eq_true, if_false]
      refine ⟨⟨by decide, by decide, by omega⟩, fun r _ _ => ?_⟩
      by_cases hr : r = 0
      · simp only [hr, decide_true, if_true]
        exact out _ (((Up.refl S).tick (k := 1)).mono (by decide))
      simp only [hr, decide_false, Bool.false_eq_true, if_false]
      subst hU
      have hne : xs ≠ [] := fun e => by rw [e] at he; cases he
      have hpos : 1 ≤ xs.length := by cases xs with
        | nil => exact (hne rfl).elim
        | cons _ _ => simp
      have hsz : sz (.tup xs) = szL xs + 3 := rfl
      have hdp : dep (.tup xs) = depL xs + 1 := rfl
      have okx : okRL xs = true := ok
      have hxl : xs.length ≤ 4000000 := by have := szL_len xs; omega
      have hsl : (sizeLine : Nat) = 16777216 := rfl
      walk_at "rdx"
      refine ⟨⟨by omega, by omega, by omega⟩, fun a a0 a1 => ⟨⟨by decide, by decide, by omega⟩, fun way _ _ => ?_⟩⟩
      have hu : Up 3 S (((S.tick 1).tick 1).tick 1) := ((((Up.refl S).tick (k := 1)).tick (k := 1)).tick (k := 1))
      generalize (((S.tick 1).tick 1).tick 1) = S3 at hu
      obtain ⟨a, rfl⟩ := Int.eq_ofNat_of_zero_le a0
      have al : a < xs.length := by omega
      have hx : xs[a]? = some xs[a] := by simp [al]
      have split := szL_split hx
      have ea : ((a : Int) + 1) = ((a + 1 : Nat) : Int) := rfl
      simp only [ea, cut_pre, cut_suf, cut_mid xs a (a + 1) (Nat.le_succ a)]
      have fin' : ∀ d S', BentOk (.tup xs) d → Up 4 S S' → fin Q d S' := fun d S' h1 h2 => (h2.mono (by omega)).fin (q d h1)
      by_cases hw0 : way = 0
      · simp only [hw0, decide_true, if_true]
        refine ⟨by simp; omega, fin' _ _ ⟨okRL_app (okRL_sub okx fun y => List.mem_of_mem_take) (okRL_sub okx fun y => List.mem_of_mem_drop), ?_, ?_⟩ (hu.mono (by decide))⟩
        · have h1 : depL (xs.take a) ≤ depL xs := depL_sub fun y => List.mem_of_mem_take
          have h2 : depL (xs.drop (a + 1)) ≤ depL xs := depL_sub fun y => List.mem_of_mem_drop
          simp only [dep, depL_app]
          omega
        · simp only [sz, szL_app]
          omega
      simp only [hw0, decide_false, Bool.false_eq_true, if_false]
      by_cases hw1 : way = 1
      · simp only [hw1, decide_true, if_true]
        have m1 : ∀ y ∈ (xs.take (a + 1)).drop a, y ∈ xs := fun y h => List.mem_of_mem_take (List.mem_of_mem_drop h)
        refine ⟨by simp; omega, by simp; omega, fin' _ _ ⟨okRL_app (okRL_app (okRL_sub okx fun y => List.mem_of_mem_take) (okRL_sub okx m1)) (okRL_sub okx fun y => List.mem_of_mem_drop), ?_, ?_⟩ (hu.mono (by decide))⟩
        · have h1 : depL (xs.take a) ≤ depL xs := depL_sub fun y => List.mem_of_mem_take
          have h2 : depL (xs.drop a) ≤ depL xs := depL_sub fun y => List.mem_of_mem_drop
          have h3 : depL ((xs.take (a + 1)).drop a) ≤ depL xs := depL_sub m1
          simp only [dep, depL_app]
          omega
        · have h1 := szL_parts xs a
          have h2 : szL ((xs.take (a + 1)).drop a) ≤ szL xs := Nat.le_trans (szL_drop _ _) (szL_take _ _)
          simp only [sz, szL_app]
          omega
      simp only [hw1, decide_false, Bool.false_eq_true, if_false]
      by_cases hw2 : way = 2
      · simp only [hw2, decide_true, if_true]
        exact fin' _ _ ⟨okx, by simp only [dep]; omega, by simp only [sz]; omega⟩ (hu.mono (by decide))
      simp only [hw2, decide_false, Bool.false_eq_true, if_false, atI_get al]
      have hm : xs[a] ∈ xs := List.getElem_mem al
      have hms : sz xs[a] ≤ szL xs := szL_mem hm
      refine hsb _ _ _ _ (by omega) (by omega) (okRL_mem okx hm) (by omega) (by have := hu.c; omega) fun d ⟨b1, b2, b3⟩ => ?_
      refine ⟨by decide, by simp; omega, by simp; omega, ((hu.tick (k := 4 * n)).mono (by omega)).fin (q _ ⟨okRL_app (okRL_app (okRL_sub okx fun y => List.mem_of_mem_take) (by simp [okRL, b1])) (okRL_sub okx fun y => List.mem_of_mem_drop), ?_, ?_⟩)⟩
      · have h1 : depL (xs.take a) ≤ depL xs := depL_sub fun y => List.mem_of_mem_take
        have h2 : depL (xs.drop (a + 1)) ≤ depL xs := depL_sub fun y => List.mem_of_mem_drop
        have h3 := depL_le hm
        simp only [dep, depL_app, depL]
        omega
      · simp only [sz, szL_app, szL]
        omega
theorem never_callee : Callee (fun _ _ _ => False) 0 := fun v deep S Q h1 h2 _ _ _ _ => by omega
theorem bent_callee (n : Nat) : Callee (spBent n) (n + 1) := fun v deep S Q h1 h2 h3 h4 h5 h6 => ⟨v, deep, rfl, h1, by omega, h3, h4, h5, h6⟩
end K10

local macro_rules | `(tactic| walk_at "rdx") => `(tactic| simp only [PD.pad, PD.gt_z, PD.gt_s, PD.st_z, PD.st_s, PD.sNextD, PD.sSeqD, PD.sBreakD, PD.sContD, PD.sDropD, PD.sRetD, PD.sRetND, PD.sIfD, PD.sNeverD, PD.sAsgD, PD.sPar2, PD.sPar3, PD.gNameD, PD.gNilD, PD.gConsD, PD.gTupD, PD.gSubD, PD.tNilD, PD.tConsD, PD.tTupD, PD.tLstV, PD.tLstR, PD.tBin, PD.tTst, PD.tAndD, PD.tOrD, PD.tNotD, PD.tIfD, PD.tAndV, PD.tOrV, PD.tNotV, PD.tUnD, PD.rNeg, PD.tCallD, PD.tSlot, PD.tCD, PD.tChainD, PD.rIsN, PD.rNotN, PD.rIsiD, PD.isi_non, PD.isi_bl, PD.isi_int, PD.isi_str, PD.isi_tup, PD.isi_lst, PD.isi_dic, PD.Ty.name, PD.rCmpI, PD.fLt, PD.fLe, PD.fGt, PD.fGe, PD.rAddD, PD.rSubD, PD.rFdivD, PD.rModD, PD.rPowD, PD.rMulD, PD.rAddR, PD.rMulR, PD.asSeq, PD.asLst, PD.rLenD, PD.rTupleD, PD.rListV, PD.rListR, PD.rIntD, PD.rBoolD, PD.rAbsD, PD.rIxD, PD.oNone, PD.oSome, PD.tSlD, PD.rSlD, PD.tRevTD, PD.rEqD, PD.rNeD, PD.nrm_non, PD.nrm_bl, PD.nrm_int, PD.nrm_str, PD.nrm_tup, PD.nrm_lst, PD.nrm_dic, PD.nrm_ref, PD.iSeqD, PD.iRng1D, PD.iRng2D, PD.sForD, PD.tLcV, PD.tLcR, PD.tYesD, PD.wipeD, PD.tMethL, PD.rAppD, PD.isRefL, PD.tDicV, PD.rSetD, PD.rReprD, PD.eqk_int, PD.eqd_int, PD.eqk_str, PD.eqd_str, PD.eqk_lst0, PD.eqd_lst0, PD.eqk_tup0, PD.eqd_tup0, PD.spFn, PD.spDraw, reduceIte, true_and, and_true, Bool.not_true, Bool.not_false, Bool.false_eq_true, List.length_cons, List.length_nil, List.set_cons_zero, List.set_cons_succ, PD.HD.set_same, PD.HD.tick_hp, PD.HD.tick_c, PD.HD.tick_dk, PD.HD.set_c, PD.HD.set_dk])
namespace K10
open PySem PySem.Spec PyProof.Rows PD
def Good (v : D) : Prop := okR v = true ∧ dep v ≤ 30 ∧ sz v ≤ 1000000
theorem Good.tup {xs : List D} (h : ∀ x ∈ xs, okR x = true ∧ dep x ≤ 29) (hs : szL xs ≤ 999997) : Good (.tup xs) :=
  ⟨okRL_of fun x hx => (h x hx).1, by have := depL_of (n := 29) fun x hx => (h x hx).2; simp only [dep]; omega, by simp only [sz]; omega⟩
theorem Good.lst {xs : List D} (h : ∀ x ∈ xs, okR x = true ∧ dep x ≤ 29) (hs : szL xs ≤ 999997) : Good (.lst xs) :=
  ⟨okRL_of fun x hx => (h x hx).1, by have := depL_of (n := 29) fun x hx => (h x hx).2; simp only [dep]; omega, by simp only [sz]; omega⟩
/-- small data of some depth -/
def Sm (z h : Nat) (v : D) : Prop := okR v = true ∧ dep v ≤ h ∧ sz v ≤ z
theorem Sm.mono {z h z' h' : Nat} {v : D} (s : Sm z h v) (l : z ≤ z') (l' : h ≤ h') : Sm z' h' v := ⟨s.1, Nat.le_trans s.2.1 l', Nat.le_trans s.2.2 l⟩
/-- small lists -/
def SmL (z h : Nat) (xs : List D) : Prop := okRL xs = true ∧ depL xs ≤ h ∧ szL xs ≤ z
theorem SmL.nil : SmL 0 0 [] := ⟨rfl, Nat.le_refl _, Nat.le_refl _⟩
theorem SmL.cons {z h z' h' : Nat} {x : D} {xs : List D} (a : Sm z h x) (b : SmL z' h' xs) : SmL (z + 2 + z') (max h h') (x :: xs) :=
  ⟨by simp only [okRL, a.1, b.1, Bool.and_self], by have := a.2.1; have := b.2.1; simp only [depL]; omega, by have := a.2.2; have := b.2.2; simp only [szL]; omega⟩
theorem SmL.app {z h z' h' : Nat} {xs ys : List D} (a : SmL z h xs) (b : SmL z' h' ys) : SmL (z + z') (max h h') (xs ++ ys) :=
  ⟨okRL_app a.1 b.1, by have := a.2.1; have := b.2.1; rw [depL_app]; omega, by have := a.2.2; have := b.2.2; rw [szL_app]; omega⟩
theorem SmL.take {z h : Nat} {xs : List D} (a : SmL z h xs) (n : Nat) : SmL z h (xs.take n) :=
  ⟨okRL_sub a.1 fun y => List.mem_of_mem_take, Nat.le_trans (depL_sub fun y => List.mem_of_mem_take) a.2.1, Nat.le_trans (szL_take xs n) a.2.2⟩
theorem SmL.drop {z h : Nat} {xs : List D} (a : SmL z h xs) (n : Nat) : SmL z h (xs.drop n) :=
  ⟨okRL_sub a.1 fun y => List.mem_of_mem_drop, Nat.le_trans (depL_sub fun y => List.mem_of_mem_drop) a.2.1, Nat.le_trans (szL_drop xs n) a.2.2⟩
theorem szL_rev (xs : List D) : szL xs.reverse = szL xs := by
  induction xs with
  | nil => rfl
  | cons x xs ih => rw [List.reverse_cons, szL_app, ih]; simp only [szL]; omega
theorem SmL.rev {z h : Nat} {xs : List D} (a : SmL z h xs) : SmL z h xs.reverse :=
  ⟨okRL_sub a.1 fun y => List.mem_reverse.mp, Nat.le_trans (depL_sub fun y => List.mem_reverse.mp) a.2.1, by rw [szL_rev]; exact a.2.2⟩
theorem SmL.of {z h : Nat} {xs : List D} (a : ∀ x ∈ xs, Sm z h x) : SmL (xs.length * (z + 2)) h xs :=
  ⟨okRL_of fun x hx => (a x hx).1, depL_of fun x hx => (a x hx).2.1, szL_of fun x hx => (a x hx).2.2⟩
theorem SmL.mono {z h z' h' : Nat} {xs : List D} (s : SmL z h xs) (l : z ≤ z') (l' : h ≤ h') : SmL z' h' xs := ⟨s.1, Nat.le_trans s.2.1 l', Nat.le_trans s.2.2 l⟩
theorem SmL.tup {z h : Nat} {xs : List D} (a : SmL z h xs) : Sm (z + 3) (h + 1) (.tup xs) := ⟨a.1, by simp only [dep]; exact Nat.succ_le_succ a.2.1, by simp only [sz]; exact Nat.add_le_add_right a.2.2 3⟩
theorem SmL.lst {z h : Nat} {xs : List D} (a : SmL z h xs) : Sm (z + 3) (h + 1) (.lst xs) := ⟨a.1, by simp only [dep]; exact Nat.succ_le_succ a.2.1, by simp only [sz]; exact Nat.add_le_add_right a.2.2 3⟩
theorem SmL.get {z h : Nat} {xs : List D} {x : D} (a : SmL z h xs) (hx : x ∈ xs) : Sm z h x := ⟨okRL_mem a.1 hx, Nat.le_trans (depL_le hx) a.2.1, Nat.le_trans (szL_mem hx) a.2.2⟩
theorem Sm.good {z h : Nat} {v : D} (s : Sm z h v) (l : z ≤ 1000000) (l' : h ≤ 30) : Good v := ⟨s.1, Nat.le_trans s.2.1 l', Nat.le_trans s.2.2 l⟩
theorem sm_int {i : Int} (h0 : -1 ≤ i) (h1 : i ≤ 1000) : Sm 13 0 (.int i) := by
  have h2 : i.natAbs < 1024 := by omega
  have h3 : i.natAbs.log2 < 10 := by
    by_cases h : i.natAbs = 0
    · rw [h]; decide
    · exact (Nat.log2_lt h).mpr h2
  exact ⟨by simp only [okR, decide_eq_true_eq]; omega, Nat.le_refl _, by simp only [sz]; omega⟩
theorem sm_non : Sm 13 0 .non := ⟨rfl, Nat.le_refl _, by decide⟩
theorem sm_bl {b : Bool} : Sm 13 0 (.bl b) := ⟨rfl, Nat.le_refl _, (by decide : 5 ≤ 13)⟩
theorem Sm.rep {z h n : Nat} {x : D} (a : Sm z h x) : SmL (n * (z + 2)) h (List.replicate n x) := by
  have := SmL.of (xs := List.replicate n x) (z := z) (h := h) fun y hy => by rw [(List.mem_replicate.mp hy).2]; exact a
  simpa using this
theorem flat1 {n : Nat} {x : D} : (List.replicate n [x]).flatten = List.replicate n x := by
  induction n with
  | zero => rfl
  | succ n ih => rw [List.replicate_succ, List.flatten_cons, ih]; rfl
/-- the parts of a machine -/
theorem mach_rows {L n : Int} {rows : List D} (l2 : L ≤ 8) (hn : n ≤ 1000) (h : ∀ r ∈ rows, RowOk L n r) : SmL (rows.length * 125) 1 rows := by
  refine SmL.of (z := 123) fun r hr => ?_
  obtain ⟨cells, rfl, e1, e2⟩ := h r hr
  have : SmL (cells.length * 15) 0 cells := SmL.of fun c hc => by
    rcases e2 c hc with e | ⟨j, e, j0, j1⟩
    · rw [e]; exact sm_non
    · rw [e]; exact sm_int (by omega) (by omega)
  exact this.tup.mono (by omega) (Nat.le_refl _)
theorem mach_ends {xs : List D} (h : ∀ e ∈ xs, ∃ b, e = D.bl b) : SmL (xs.length * 15) 0 xs := SmL.of fun e he => by
  obtain ⟨b, rfl⟩ := h e he
  exact sm_bl
theorem bent_good {v d : D} {z h : Nat} (s : Sm z h v) (b : BentOk v d) : Sm (2 * z + 200) (h + 3) d := ⟨b.1, by have := b.2.1; have := s.2.1; omega, by have := b.2.2; have := s.2.2; omega⟩
/-- what repr asks -/
theorem err_good (v : D) : mErr v = .non ∨ ∃ s : Str, mErr v = .str s ∧ s.length ≤ 7 ∧ PyData.strOk s = true := by
  unfold mErr
  split
  · split
    · split
      · split
        · split
          · exact .inl rfl
          · exact .inr ⟨_, rfl, by decide +kernel, by decide +kernel⟩
        · exact .inr ⟨_, rfl, by decide +kernel, by decide +kernel⟩
      · exact .inr ⟨_, rfl, by decide +kernel, by decide +kernel⟩
    · exact .inr ⟨_, rfl, by decide +kernel, by decide +kernel⟩
  · exact .inr ⟨_, rfl, by decide +kernel, by decide +kernel⟩
theorem pair_good (v : D) : okR (.lst [mErr v, mErr v]) = true ∧ dep (.lst [mErr v, mErr v]) ≤ 60 ∧ sz (.lst [mErr v, mErr v]) ≤ 16000000 := by
  rcases err_good v with e | ⟨s, e, h1, h2⟩
  · rw [e]; exact ⟨rfl, by decide, by decide⟩
  · rw [e]
    refine ⟨by simp [okR, okRL, h2], by simp [dep, depL], ?_⟩
    simp only [sz, szL]
    omega
theorem shw_eq (v : D) : shw (.lst [mErr v, mErr v]) = shw (.lst [mErr v, mErr v]) := rfl
theorem vals_next {S : HD} {p : Addr} {new vals : List D} {P : HD → Prop} (hg : ∀ v ∈ new, Good v) (hv : ∀ v ∈ vals, Good v) (k : ∀ S' vals', S'.hp p = some (.lst vals') → vals'.length = vals.length + new.length → (∀ v ∈ vals', Good v) → S'.c = S.c → P S') : P (S.set p (.lst (vals ++ new))) :=
  k _ _ HD.set_same List.length_append (fun v h => (List.mem_append.mp h).elim (hv v) (hg v)) rfl
/-- the loop over all values -/
theorem last_ok {E : EndsD} {S : HD} {p : Addr} {vals : List D} {M x0 : D} {v2 v3 v5 v6 v7 v9 v10 v11 v12 : Option D} (hc : S.c ≤ 50000) (hp : S.hp p = some (.lst vals)) (hl : vals.length ≤ 1000) (hv : ∀ v ∈ vals, Good v) (hM : Sm 2000 5 M)
    (k : ∀ v10 v11 v12 S', S'.c ≤ S.c + 200 → E.nx [some x0, some .deck, v2, v3, some M, v5, v6, v7, some (.ref p), v9, v10, v11, v12, none, none] S') :
    sForD (iSeqD (tBin rAddD (tSlot 8) (tLcV (iRng1D (tConsD (tCD (.int 8)) (tNilD))) (gNameD 14) (tYesD) (tCallD (spBent 3) (tConsD (tSlot 1) (tConsD (tSlot 4) (tConsD (tCD (.int 3)) (tNilD))))) [14]))) (gNameD 10) (sSeqD (sPar2 11 12 (tConsD (tCallD rReprD (tConsD (tSlot 10) (tNilD))) (tConsD (tCallD (spFn fErr) (tConsD (tSlot 10) (tNilD))) (tNilD))))
  (sIfD (tOrD (tTst (tBin rNeD (tCallD rReprD (tConsD (tLstV (tConsD (tCallD (spFn fErr) (tConsD (tSlot 10) (tNilD))) (tConsD (tCallD (spFn fErr) (tConsD (tSlot 10) (tNilD))) (tNilD)))) (tNilD))) (tCallD rReprD (tConsD (tLstV (tConsD (tSlot 12) (tConsD (tSlot 12) (tNilD)))) (tNilD))))) (tTst (tBin rNeD (tCallD rReprD (tConsD (tSlot 10) (tNilD))) (tSlot 11)))) (sRetD (tCD (.bl false))) (sNextD)))
      E [some x0, some .deck, v2, v3, some M, v5, v6, v7, some (.ref p), v9, v10, v11, v12, none, none] S := by
  generalize hB : (sSeqD (sPar2 11 12 _) _ : TSD) = B1
  generalize hg : gNameD 14 = g14
  generalize hg' : gNameD 10 = g10
  walk_at "rdx"
  subst hg hg'
  have hsl : (sizeLine : Nat) = 16777216 := rfl
  have h8 : (rngD 0 (Int.toNat 8)).length = 8 := rfl
  refine ⟨by decide, by omega, lcD_go (fun i acc S' => acc.length = i ∧ (∀ v ∈ acc, Good v) ∧ S'.hp = S.hp ∧ S'.c ≤ S.c + 16 * i) ⟨rfl, fun v h => (by cases h), rfl, Nat.le_refl _⟩ (fun i d acc S' N hi ⟨e1, e2, e3, e4⟩ kk => ⟨trivial, ?_⟩) fun acc S' ⟨e1, e2, e3, e4⟩ => ⟨trivial, ?_⟩⟩
  · obtain ⟨hi1, rfl⟩ := rngD_get hi
    have hi2 : i < 8 := hi1
    walk_at "rdx"
    refine ⟨M, 3, rfl, by decide, by decide, hM.1, by have := hM.2.2; omega, by omega, fun d hd => kk _ _ ⟨by simp [e1], fun v hv => ?_, e3, by simp only [HD.tick_c]; omega⟩⟩
    rcases List.mem_append.mp hv with h | h
    · exact e2 v h
    · rw [List.mem_singleton.mp h]; exact (bent_good hM hd).good (by decide) (by decide)
  · rw [h8] at e1 e4
    simp only [e3, hp]
    refine ⟨by omega, fun _ => loopD_go (fun i σ S2 => S2 = S' ∧ ∃ v10 v11 v12, σ = [some x0, some .deck, v2, v3, some M, v5, v6, v7, some (.ref p), v9, v10, v11, v12, none, none]) ⟨rfl, _, _, _, rfl⟩ (fun i d σ S2 N hi ⟨e5, v10, v11, v12, e6⟩ kk => ⟨trivial, ?_⟩) fun σ S2 ⟨e5, v10, v11, v12, e6⟩ => ⟨trivial, ?_⟩⟩
    · subst e5 e6 hB
      have hm := List.mem_of_getElem? hi
      have gd : Good d := (List.mem_append.mp hm).elim (hv d) (e2 d)
      have ef := fErr_ok gd.1
      have pg := pair_good d
      have ne1 := nrm_ok' (S := S2) gd.1
      walk_at "rdx"
      simp only [ne1, ef]
      have o1 : okR d = true ∧ dep d ≤ 60 ∧ sz d ≤ 16000000 := ⟨gd.1, by have := gd.2.1; omega, by have := gd.2.2; omega⟩
      refine ⟨o1, by decide, pg, by decide, pg, ?_⟩
      simp only [decide_true, Bool.not_true, Bool.false_eq_true, if_false]
      exact ⟨o1, kk _ _ ⟨rfl, _, _, _, rfl⟩⟩
    · subst e5 e6
      exact k _ _ _ _ (by omega)
theorem hq_law (ds : List D) (S : HD) (Q : QD) (h : spLaw ds S Q) : rd_law spDeck spDraw spMach (spBent 3) (spFn fErr) (spFn fErr) (ends Q) (pad 15 ds) S := by
  obtain ⟨ns, rfl, hl, h1, h2, h3, q⟩ := h
  unfold rd_law
  generalize hT : sForD _ _ _ = T1
  walk_at "rdx"
  refine ⟨⟨ns, rfl⟩, h3, fun dk => ?_⟩
  subst hT
  generalize hB : (sSeqD (sAsgD (tBin rAddD (tCD (.int 1)) (tCallD spDraw _)) (gNameD 3)) _ : TSD) = B1
  walk_at "rdx"
  refine ⟨by decide, loopD_go (fun i σ S' => (∃ v2 v3 v4 v5 v6 v7 v8 v9 v10 v11 v12, σ = [some (.lst (ns.map D.int)), some .deck, v2, v3, v4, v5, v6, v7, v8, v9, v10, v11, v12, none, none]) ∧ S'.c ≤ 5000 * i) ⟨⟨_, _, _, _, _, _, _, _, _, _, _, rfl⟩, Nat.le_refl _⟩ (fun i d σ S' N hi ⟨⟨v2, v3, v4, v5, v6, v7, v8, v9, v10, v11, v12, e1⟩, hc⟩ k => ⟨trivial, ?_⟩) fun σ S' ⟨_, _⟩ => ⟨trivial, fin.here (q S')⟩⟩
  obtain ⟨hi1, rfl⟩ := rngD_get hi
  have hi8 : i < 8 := hi1
  subst e1 hB
  refine seq_step fun N1 hN1 => ?_
  walk_at "rdx"
  refine ⟨⟨by decide, by decide, by omega⟩, fun r r0 r1 => hN1 _ _ ?_⟩
  clear hN1 N1
  have hL1 : 1 ≤ 1 + r := by omega
  have hL2 : 1 + r ≤ 3 := by omega
  generalize 1 + r = L at hL1 hL2
  refine seq_step fun N1 hN1 => ?_
  walk_at "rdx"
  refine ⟨L, 6, rfl, hL1, hL2, by decide, by decide, by simp only [HD.tick_c]; omega, fun M ⟨rows, ens, e, m1, m2, m3, m4, m5⟩ => ?_⟩
  subst e
  have c2 : ((S'.tick 1).tick 1000).c ≤ 5000 * i + 1001 := by simp only [HD.tick_c]; omega
  generalize ((S'.tick 1).tick 1000) = S2 at c2
  refine hN1 _ _ ?_
  clear hN1 N1
  have hrows := mach_rows (n := rows.length) (rows := rows) (by omega) (by omega) m4
  have hens := mach_ends m5
  have hLs : Sm 13 0 (.int L) := sm_int (by omega) (by omega)
  have hM0 : SmL 1000 2 [.int L, .tup rows, .tup ens] := (SmL.cons hLs (SmL.cons hrows.tup (SmL.cons hens.tup SmL.nil))).mono (by omega) (by decide)
  have hM := hM0.tup
  refine seq_step fun N1 hN1 => ?_
  walk_at "rdx"
  simp only [at31, at32]
  refine hN1 _ _ ?_
  clear hN1 N1
  refine seq_step fun N1 hN1 => ?_
  walk_at "rdx"
  refine ⟨_, 3, rfl, by decide, by decide, hM.1, by have := hM.2.2; omega, by omega, fun b1 hb1 => hN1 _ _ ?_⟩
  clear hN1 N1
  have hB1 := bent_good hM hb1
  have c3 : (S2.tick (4 * (3 + 1))).c ≤ 5000 * i + 1017 := by simp only [HD.tick_c]; omega
  generalize (S2.tick (4 * (3 + 1))) = S3 at c3
  refine seq_step fun N1 hN1 => ?_
  walk_at "rdx"
  refine ⟨_, 3, rfl, by decide, by decide, hB1.1, by have := hB1.2.2; omega, by omega, fun b2 hb2 => ?_⟩
  have hB2 := bent_good hB1 hb2
  have c4 : (S3.tick (4 * (3 + 1))).c ≤ 5000 * i + 1033 := by simp only [HD.tick_c]; omega
  generalize (S3.tick (4 * (3 + 1))) = S4 at c4
  have hsl : (sizeLine : Nat) = 16777216 := rfl
  have one : SmL 15 0 [.int 1] := SmL.cons (sm_int (by decide) (by decide)) SmL.nil
  refine ⟨by decide, by decide, by decide, fun p hp => hN1 _ _ ?_⟩
  clear hN1 N1
  rw [show PD.cutD [D.int L, D.tup rows, D.tup ens] none (some 2) = [D.int L, D.tup rows, D.tup ens].take 2 from cut_pre _ 2]
  have st1 : ∃ vals, (S4.set p (.lst [.tup [.int L, .tup rows, .tup ens], b1, b2, .tup ([.int L, .tup rows, .tup ens].take 2), .tup ([.int L, .tup rows, .tup ens] ++ [.int 1]), .lst [.int L, .tup rows, .tup ens], .tup [.int L, .tup rows, .tup ens].reverse])).hp p = some (.lst vals) ∧ vals.length = 7 ∧ ∀ v ∈ vals, Good v := by
    refine ⟨_, HD.set_same, rfl, fun v hv => ?_⟩
    simp only [List.mem_cons, List.not_mem_nil, or_false] at hv
    rcases hv with e | e | e | e | e | e | e <;> subst e
    · exact hM.good (by decide) (by decide)
    · exact hB1.good (by decide) (by decide)
    · exact hB2.good (by decide) (by decide)
    · exact (hM0.take 2).tup.good (by decide) (by decide)
    · exact (hM0.app one).tup.good (by decide) (by decide)
    · exact hM0.lst.good (by decide) (by decide)
    · exact hM0.rev.tup.good (by decide) (by decide)
  have c5 : (S4.set p (.lst [.tup [.int L, .tup rows, .tup ens], b1, b2, .tup ([.int L, .tup rows, .tup ens].take 2), .tup ([.int L, .tup rows, .tup ens] ++ [.int 1]), .lst [.int L, .tup rows, .tup ens], .tup [.int L, .tup rows, .tup ens].reverse])).c ≤ 5000 * i + 1033 := c4
  generalize (S4.set p (.lst [.tup [.int L, .tup rows, .tup ens], b1, b2, .tup ([.int L, .tup rows, .tup ens].take 2), .tup ([.int L, .tup rows, .tup ens] ++ [.int 1]), .lst [.int L, .tup rows, .tup ens], .tup [.int L, .tup rows, .tup ens].reverse])) = S5 at st1 c5
  obtain ⟨vals, p1, p2, p3⟩ := st1
  clear hp c4 c3 c2
  refine seq_step fun N1 hN1 => ?_
  walk_at "rdx"
  simp only [p1]
  rw [show PD.cutD [D.int L, D.tup rows, D.tup ens] (some 1) none = [D.tup rows, D.tup ens] from cut_suf _ 1]
  have hRE : SmL 990 2 [.tup rows, .tup ens] := (SmL.cons hrows.tup (SmL.cons hens.tup SmL.nil)).mono (by omega) (by decide)
  have sm0 : Sm 13 0 (.int 0) := sm_int (by decide) (by decide)
  have sm4 : Sm 13 0 (.int 4) := sm_int (by decide) (by decide)
  refine ⟨by decide, by simp; omega, by decide, by simp; omega, by decide, by simp; omega, by decide, by decide, by decide, by decide, by simp; omega, fun p hp => hN1 _ _ ?_⟩
  clear hN1 N1 p1
  refine vals_next (fun v hv => ?_) p3 fun S6 vals6 q1 q2 q3 q4 => ?_
  · simp only [List.mem_cons, List.not_mem_nil, or_false] at hv
    rcases hv with e | e | e | e <;> subst e
    · exact (SmL.cons sm0 hRE).tup.good (by decide) (by decide)
    · exact (SmL.cons sm4 hRE).tup.good (by decide) (by decide)
    · exact (SmL.cons sm_bl hRE).tup.good (by decide) (by decide)
    · exact (SmL.cons hLs (SmL.cons SmL.nil.tup (SmL.cons SmL.nil.tup SmL.nil))).tup.good (by decide) (by decide)
  have c6 : S6.c ≤ 5000 * i + 1033 := by omega
  have l6 : vals6.length ≤ 11 := by rw [q2, p2]; exact Nat.le_refl _
  clear q2 q4 c5 p2 p3 hp
  have hrs : SmL 760 1 rows := hrows.mono (by omega) (Nat.le_refl _)
  have hes : SmL 95 0 ens := hens.mono (by omega) (Nat.le_refl _)
  have hlrows : rows.length ≤ 6 := by omega
  refine seq_step fun N1 hN1 => ?_
  walk_at "rdx"
  simp only [q1]
  rw [show PD.cutD rows none (some 1) = rows.take 1 from cut_pre _ 1, show PD.cutD ens (some 1) none = ens.drop 1 from cut_suf _ 1]
  refine ⟨by simp; omega, by decide, by decide, by simp; omega, by decide, by decide, by decide, by simp; omega, fun p hp => hN1 _ _ ?_⟩
  clear hN1 N1 q1
  refine vals_next (fun v hv => ?_) q3 fun S7 vals7 q1 q2 q3 q4 => ?_
  · simp only [List.mem_cons, List.not_mem_nil, or_false] at hv
    rcases hv with e | e | e <;> subst e
    · exact (SmL.cons hLs (SmL.cons (hrs.app (hrs.take 1)).tup (SmL.cons hes.tup SmL.nil))).tup.good (by decide) (by decide)
    · exact (SmL.cons hLs (SmL.cons hrs.tup (SmL.cons (hes.app (SmL.cons sm_bl SmL.nil)).tup SmL.nil))).tup.good (by decide) (by decide)
    · exact (SmL.cons hLs (SmL.cons hrs.tup (SmL.cons (hes.drop 1).tup SmL.nil))).tup.good (by decide) (by decide)
  have c7 : S7.c ≤ 5000 * i + 1033 := by omega
  have l7 : vals7.length ≤ 14 := by rw [q2]; exact Nat.add_le_add_right l6 3
  clear q2 q4 c6 l6 hp
  refine seq_step fun N1 hN1 => ?_
  generalize hg : gNameD 13 = g13
  walk_at "rdx"
  subst hg
  refine fun hz => ⟨hz, ?_⟩
  refine lcD_go (fun i acc S' => S' = S7 ∧ acc.length = i ∧ ∀ e ∈ acc, Sm 13 0 e) ⟨rfl, rfl, fun e h => (by cases h)⟩ (fun i d acc S' N hi ⟨e1, e2, e3⟩ kk => ⟨trivial, ?_⟩) fun acc S' ⟨e1, e2, e3⟩ => ⟨trivial, ?_⟩
  · obtain ⟨b, rfl⟩ := m5 d (List.mem_of_getElem? hi)
    walk_at "rdx"
    refine kk _ _ ⟨e1, by simp [e2], fun e he => ?_⟩
    rcases List.mem_append.mp he with h | h
    · exact e3 e h
    · rw [List.mem_singleton.mp h]
      cases b
      · exact sm0
      · exact sm_int (by decide) (by decide)
  subst e1
  simp only [q1]
  refine ⟨by decide, by decide, by decide, by simp; omega, fun p hp => hN1 _ _ ?_⟩
  clear hN1 N1 q1
  have hacc : SmL (acc.length * 15) 0 acc := SmL.of e3
  refine vals_next (fun v hv => ?_) q3 fun S8 vals8 q1 q2 q3 q4 => ?_
  · simp only [List.mem_cons, List.not_mem_nil, or_false] at hv
    rcases hv with e | e <;> subst e
    · exact (SmL.cons hLs (SmL.cons hrs.tup (SmL.cons (hacc.mono (z' := 95) (by omega) (Nat.le_refl _)).tup SmL.nil))).tup.good (by decide) (by decide)
    · exact (SmL.cons hLs (SmL.cons hrs.lst (SmL.cons hes.tup SmL.nil))).tup.good (by decide) (by decide)
  have c8 : S8.c ≤ 5000 * i + 1033 := by omega
  have l8 : vals8.length ≤ 16 := by rw [q2]; exact Nat.add_le_add_right l7 2
  clear q2 q4 c7 l7 hp
  have rowL : ∀ x : Int, -1 ≤ x → x ≤ 1000 → Sm 60 1 (.tup (List.replicate L.toNat [D.int x]).flatten) := fun x x0 x1 => by
    rw [flat1]
    exact ((sm_int x0 x1).rep (n := L.toNat)).tup.mono (by omega) (Nat.le_refl _)
  refine seq_step fun N1 hN1 => ?_
  walk_at "rdx"
  simp only [q1, cut_last]
  refine ⟨⟨_, rfl⟩, by decide, ⟨by omega, by omega, by decide⟩, by decide, by simp; omega, by decide, by omega, hN1 _ _ ?_⟩
  clear hN1 N1 q1
  refine vals_next (fun v hv => ?_) q3 fun S9 vals9 q1 q2 q3 q4 => ?_
  · rw [List.mem_singleton.mp hv]
    exact (SmL.cons hLs (SmL.cons ((hrs.take _).app (SmL.cons (rowL _ (by omega) (by omega)) SmL.nil)).tup (SmL.cons hes.tup SmL.nil))).tup.good (by decide) (by decide)
  have c9 : S9.c ≤ 5000 * i + 1033 := by omega
  have l9 : vals9.length ≤ 17 := by rw [q2]; exact Nat.add_le_add_right l8 1
  clear q2 q4 c8 l8
  refine seq_step fun N1 hN1 => ?_
  walk_at "rdx"
  simp only [q1, cut_last]
  refine ⟨⟨_, rfl⟩, by decide, ⟨by omega, by omega, by decide⟩, by decide, by simp; omega, by decide, by omega, hN1 _ _ ?_⟩
  clear hN1 N1 q1
  refine vals_next (fun v hv => ?_) q3 fun S10 vals10 q1 q2 q3 q4 => ?_
  · rw [List.mem_singleton.mp hv]
    exact (SmL.cons hLs (SmL.cons ((hrs.take _).app (SmL.cons (rowL _ (by omega) (by omega)) SmL.nil)).tup (SmL.cons hes.tup SmL.nil))).tup.good (by decide) (by decide)
  have c10 : S10.c ≤ 5000 * i + 1033 := by omega
  have l10 : vals10.length ≤ 18 := by rw [q2]; exact Nat.add_le_add_right l9 1
  clear q2 q4 c9 l9
  refine seq_step fun N1 hN1 => ?_
  generalize hB : (sDropD _ : TSD) = B1
  generalize hg : gNameD 9 = g9
  walk_at "rdx"
  subst hg hB
  refine ⟨by decide, fun _ => loopD_go (fun j σ S' => (∃ v9, σ = [some (.lst (ns.map D.int)), some .deck, some (.int (0 + (i : Int))), some (.int L), some (.tup [.int L, .tup rows, .tup ens]), some (.tup rows), some (.tup ens), some b1, some (.ref p), v9, v10, v11, v12, none, none]) ∧ ∃ vals', S'.hp p = some (.lst vals') ∧ vals'.length ≤ 18 + j ∧ (∀ v ∈ vals', Good v) ∧ S'.c ≤ 5000 * i + 1033) ⟨⟨_, rfl⟩, vals10, q1, l10, q3, c10⟩ (fun j d σ S' N hj ⟨⟨v9, e1⟩, vals', e2, e3, e4, e5⟩ kk => ⟨trivial, ?_⟩) fun σ S' ⟨⟨v9, e1⟩, vals', e2, e3, e4, e5⟩ => ⟨trivial, ?_⟩⟩
  · subst e1
    obtain ⟨x, rfl, x0, x1⟩ : ∃ x : Int, d = .int x ∧ 400 ≤ x ∧ x ≤ 401 := by
      have hm := List.mem_of_getElem? hj
      simp only [List.mem_cons, List.not_mem_nil, or_false] at hm
      rcases hm with e | e <;> subst e <;> exact ⟨_, rfl, by decide, by decide⟩
    have hj2 : j < 2 := (List.getElem?_eq_some_iff.mp hj).1
    walk_at "rdx"
    simp only [e2]
    refine ⟨⟨_, rfl⟩, by decide, ⟨by omega, by omega, by decide⟩, by decide, ⟨by omega, by omega, by decide⟩, by decide, ⟨by omega, by omega, by decide⟩, by decide, by omega, kk _ _ ?_⟩
    refine ⟨⟨_, rfl⟩, _, HD.set_same, by simp; omega, fun v hv => ?_, e5⟩
    rcases List.mem_append.mp hv with h | h
    · exact e4 v h
    · rw [List.mem_singleton.mp h]
      have r1 := (rowL (x - 1) (by omega) (by omega)).mono (z' := 60) (h' := 1) (Nat.le_refl _) (Nat.le_refl _)
      have r2 := (r1.rep (n := x.toNat)).mono (z' := 401 * 62) (h' := 1) (by omega) (Nat.le_refl _)
      have r3 := ((sm_bl (b := false)).rep (n := x.toNat)).mono (z' := 401 * 15) (h' := 0) (by omega) (Nat.le_refl _)
      simpa only [flat1] using (SmL.cons hLs (SmL.cons r2.tup (SmL.cons r3.tup SmL.nil))).tup.good (by decide) (by decide)
  subst e1
  refine hN1 _ _ ?_
  clear hN1 N1 q1 q3 c10 l10
  have e3' : vals'.length ≤ 20 := e3
  refine last_ok (by omega) e2 (by omega) e4 (hM.mono (by decide) (by decide)) fun v10 v11 v12 S12 c12 => k _ _ ⟨⟨_, _, _, _, _, _, _, _, _, _, _, rfl⟩, by omega⟩
end K10

namespace K10
open PySem PySem.Spec PyProof.Rows PD
theorem len_num (ds : List D) (S : HD) (Q : QD) (h : spFn fNum ds S Q) : ds.length = 3 := by
  obtain ⟨r, e, _⟩ := spFn_inv h
  obtain ⟨_, _, _, rfl, _, _⟩ := fNum_inv e
  rfl
theorem len_row (ds : List D) (S : HD) (Q : QD) (h : spFn fRow ds S Q) : ds.length = 3 := by
  obtain ⟨r, e, _⟩ := spFn_inv h
  obtain ⟨_, _, _, rfl, _, _⟩ := fRow_inv e
  rfl
theorem len_rows (ds : List D) (S : HD) (Q : QD) (h : spFn fRows ds S Q) : ds.length = 2 := by
  obtain ⟨r, e, _⟩ := spFn_inv h
  obtain ⟨_, _, rfl, _, _⟩ := fRows_inv e
  rfl
theorem len_ends (ds : List D) (S : HD) (Q : QD) (h : spFn fEnds ds S Q) : ds.length = 2 := by
  obtain ⟨r, e, _⟩ := spFn_inv h
  obtain ⟨_, _, rfl, _, _⟩ := fEnds_inv e
  rfl
theorem len_err (ds : List D) (S : HD) (Q : QD) (h : spFn fErr ds S Q) : ds.length = 1 := by
  obtain ⟨r, e, _⟩ := spFn_inv h
  obtain ⟨_, rfl, _, _⟩ := fErr_inv e
  rfl
theorem len_mach (ds : List D) (S : HD) (Q : QD) (h : spMach ds S Q) : ds.length = 3 := by
  obtain ⟨_, _, rfl, _⟩ := h
  rfl
theorem len_bent {n : Nat} (ds : List D) (S : HD) (Q : QD) (h : spBent n ds S Q) : ds.length = 3 := by
  obtain ⟨_, _, rfl, _⟩ := h
  rfl
theorem len_law (ds : List D) (S : HD) (Q : QD) (h : spLaw ds S Q) : ds.length = 1 := by
  obtain ⟨_, rfl, _⟩ := h
  rfl
theorem all_ok {l : PySem.W.OpenLaw} {w : World} {K : PySem.W.Frag} {h : Heap} {mg : Str → Option Value} {fa : Addr} (X : K.In h) (G : h.Ns mainGlobals mg) (hfa : mg "law" = some (.ref fa)) (T : Txt mg) (D0 : DefOf K mg "is_number" s_is_number) (D1 : DefOf K mg "is_row" s_is_row) (D2 : DefOf K mg "are_rows" s_are_rows) (D3 : DefOf K mg "are_ends" s_are_ends) (D4 : DefOf K mg "machine_error" s_machine_error) (D5 : DefOf K mg "_law_deck" s__law_deck) (D6 : DefOf K mg "_law_draw" s__law_draw) (D7 : DefOf K mg "_law_one" s__law_one) (D8 : DefOf K mg "_law_machine" s__law_machine) (D9 : DefOf K mg "_law_bent" s__law_bent) (D10 : DefOf K mg "_law_whole" s__law_whole) (D11 : DefOf K mg "_law_error" s__law_error) (D12 : DefOf K mg "law" s_law) :
    ∃ fd : FuncData, (∀ (s : Shared) (v : Value), BindsTo s fd ⟨[v], []⟩ [("_law_script", v)]) ∧ ∀ base : Heap, K.In base → base.Ns mainGlobals mg → SysB base → FnD l.prog w K mg base 7 fa fd ["_law_script"] spLaw := by
  obtain ⟨f, fd, F, hm⟩ := D12.ex
  have e := hfa.symm.trans hm
  cases e
  refine ⟨fd, ?_, fun base _ _ hB => ?_⟩
  · obtain ⟨oc, od, kV, dc, pm, an, cd, ct, osl, rfl, _, _⟩ := F.ex
    exact fun s v => .of_eq rfl
  have h0 := mk_is_number (P := l.prog) (w := w) D0 T hB (k := 0) len_num hq_is_number
  have h1 := mk_is_row (P := l.prog) (w := w) D1 T hB h0 len_row hq_is_row
  have h2 := mk_are_rows (P := l.prog) (w := w) D2 T hB h1 len_rows hq_are_rows
  have h3 := mk_are_ends (P := l.prog) (w := w) D3 T hB (k := 0) len_ends hq_are_ends
  have h4 := mk_machine_error (P := l.prog) (w := w) D4 T hB (h0.mono (by decide : 1 ≤ 3)) h2 (h3.mono (by decide : 1 ≤ 3)) len_err hq_machine_error
  have h5 := mk__law_deck (P := l.prog) (w := w) D5 T hB (k := 0) deckOk
  have h6 := mk__law_draw (P := l.prog) (w := w) D6 T hB (k := 0) drawOk
  have h7 := mk__law_one (P := l.prog) (w := w) D7 T hB h6 spOne_len fun ds S Q h => oneOk ds S Q h fun d S q => fin.here q
  have h8 := mk__law_machine (P := l.prog) (w := w) D8 T hB (h6.mono (by decide : 1 ≤ 2)) h7 len_mach hq__law_machine
  have b0 := mk__law_bent (P := l.prog) (w := w) D9 T hB (h6.mono (by decide : 1 ≤ 2)) h7 (nv__law_bent D9) len_bent (hq__law_bent never_callee (by decide))
  have b1 := mk__law_bent (P := l.prog) (w := w) D9 T hB (h6.mono (by decide : 1 ≤ 3)) (h7.mono (by decide : 2 ≤ 3)) b0 len_bent (hq__law_bent (bent_callee 0) (by decide))
  have b2 := mk__law_bent (P := l.prog) (w := w) D9 T hB (h6.mono (by decide : 1 ≤ 4)) (h7.mono (by decide : 2 ≤ 4)) b1 len_bent (hq__law_bent (bent_callee 1) (by decide))
  have b3 := mk__law_bent (P := l.prog) (w := w) D9 T hB (h6.mono (by decide : 1 ≤ 5)) (h7.mono (by decide : 2 ≤ 5)) b2 len_bent (hq__law_bent (bent_callee 2) (by decide))
  have h10 := mk__law_whole (P := l.prog) (w := w) D10 T hB (k := 0) len_num hq__law_whole
  have h11 := mk__law_error (P := l.prog) (w := w) D11 T hB h10 len_err hq__law_error
  exact FnD.of F sc_law _ len_law (fun cdv A outer s H hr => dv_law T hB hr (h5.mono (by decide : 1 ≤ 6)) (h6.mono (by decide : 1 ≤ 6)) (h8.mono (by decide : 3 ≤ 6)) b3 (h11.mono (by decide : 2 ≤ 6)) (h4.mono (by decide : 4 ≤ 6))) hq_law
end K10

namespace K10
open PySem PySem.Spec PyProof.Rows PD
theorem txt_mk {K : PySem.W.Frag} {h : Heap} {mg : Str → Option Value} (X : K.In h) (G : h.Ns mainGlobals mg) {t0 t1 : Tok} (z0 : PySem.W.nsIn K mainGlobals "int" = some none) (z1 : PySem.W.nsIn K mainGlobals "isinstance" = some none) (z2 : PySem.W.nsIn K mainGlobals "bool" = some none) (z3 : PySem.W.nsIn K mainGlobals "tuple" = some none) (z4 : PySem.W.nsIn K mainGlobals "len" = some none) (z5 : PySem.W.nsIn K mainGlobals "abs" = some none) (z6 : PySem.W.nsIn K mainGlobals "range" = some none) (z7 : PySem.W.nsIn K mainGlobals "list" = some none) (z8 : PySem.W.nsIn K mainGlobals "repr" = some none) (y0 : PySem.W.nsIn K mainGlobals "MAX_ROWS" = some (some (.int 400 t0))) (y1 : PySem.W.nsIn K mainGlobals "MAX_LETTERS" = some (some (.int 3 t1))) : Txt mg :=
  ⟨PySem.W.mg_none_of X G z0, PySem.W.mg_none_of X G z1, PySem.W.mg_none_of X G z2, PySem.W.mg_none_of X G z3, PySem.W.mg_none_of X G z4, PySem.W.mg_none_of X G z5, PySem.W.mg_none_of X G z6, PySem.W.mg_none_of X G z7, PySem.W.mg_none_of X G z8, ⟨_, PySem.W.mg_of X G y0⟩, ⟨_, PySem.W.mg_of X G y1⟩⟩
theorem room : RoomG 7 callerA := ⟨⟨rfl, by decide, by decide⟩, rfl⟩
end K10
open PySem PySem.W PyProof.Rows in
set_option maxRecDepth 100000 in
set_option maxHeartbeats 0 in
theorem PySem.Challenge.cw_sortedshelves_k10_what_are_no_machines_holds : PySem.Challenge.rw_sortedshelves_k10_what_are_no_machines.Holds := by
  w_on; o_law; k_head; (case hw => w_witness2)
  k_fill
  refine PD.walk_D (l := PySem.Challenge.rw_sortedshelves_k10_what_are_no_machines) (x := "_law_script") rfl rfl K10.room ?imp (fun w h Y => PySem.W.kIn_of Y) ?F
  case imp => decide +kernel
  case F =>
    intro w mg fa h KX G hmg
    refine' K10.all_ok KX G hmg (K10.txt_mk KX G ?z0 ?z1 ?z2 ?z3 ?z4 ?z5 ?z6 ?z7 ?z8 ?y0 ?y1) (PD.defOf_mk (x := "is_number") (st := K10.s_is_number) KX G ?a0 ?l0 ?c0 ?k0) (PD.defOf_mk (x := "is_row") (st := K10.s_is_row) KX G ?a1 ?l1 ?c1 ?k1) (PD.defOf_mk (x := "are_rows") (st := K10.s_are_rows) KX G ?a2 ?l2 ?c2 ?k2) (PD.defOf_mk (x := "are_ends") (st := K10.s_are_ends) KX G ?a3 ?l3 ?c3 ?k3) (PD.defOf_mk (x := "machine_error") (st := K10.s_machine_error) KX G ?a4 ?l4 ?c4 ?k4) (PD.defOf_mk (x := "_law_deck") (st := K10.s__law_deck) KX G ?a5 ?l5 ?c5 ?k5) (PD.defOf_mk (x := "_law_draw") (st := K10.s__law_draw) KX G ?a6 ?l6 ?c6 ?k6) (PD.defOf_mk (x := "_law_one") (st := K10.s__law_one) KX G ?a7 ?l7 ?c7 ?k7) (PD.defOf_mk (x := "_law_machine") (st := K10.s__law_machine) KX G ?a8 ?l8 ?c8 ?k8) (PD.defOf_mk (x := "_law_bent") (st := K10.s__law_bent) KX G ?a9 ?l9 ?c9 ?k9) (PD.defOf_mk (x := "_law_whole") (st := K10.s__law_whole) KX G ?a10 ?l10 ?c10 ?k10) (PD.defOf_mk (x := "_law_error") (st := K10.s__law_error) KX G ?a11 ?l11 ?c11 ?k11) (PD.defOf_mk (x := "law") (st := K10.s_law) KX G ?a12 ?l12 ?c12 ?k12)
    (case z0 => k_is)
    (case z1 => k_is)
    (case z2 => k_is)
    (case z3 => k_is)
    (case z4 => k_is)
    (case z5 => k_is)
    (case z6 => k_is)
    (case z7 => k_is)
    (case z8 => k_is)
    (case y0 => k_is)
    (case y1 => k_is)
    (case a0 => k_is)
    (case l0 => k_is)
    (case c0 => k_is)
    (case k0 => k_is)
    (case a1 => k_is)
    (case l1 => k_is)
    (case c1 => k_is)
    (case k1 => k_is)
    (case a2 => k_is)
    (case l2 => k_is)
    (case c2 => k_is)
    (case k2 => k_is)
    (case a3 => k_is)
    (case l3 => k_is)
    (case c3 => k_is)
    (case k3 => k_is)
    (case a4 => k_is)
    (case l4 => k_is)
    (case c4 => k_is)
    (case k4 => k_is)
    (case a5 => k_is)
    (case l5 => k_is)
    (case c5 => k_is)
    (case k5 => k_is)
    (case a6 => k_is)
    (case l6 => k_is)
    (case c6 => k_is)
    (case k6 => k_is)
    (case a7 => k_is)
    (case l7 => k_is)
    (case c7 => k_is)
    (case k7 => k_is)
    (case a8 => k_is)
    (case l8 => k_is)
    (case c8 => k_is)
    (case k8 => k_is)
    (case a9 => k_is)
    (case l9 => k_is)
    (case c9 => k_is)
    (case k9 => k_is)
    (case a10 => k_is)
    (case l10 => k_is)
    (case c10 => k_is)
    (case k10 => k_is)
    (case a11 => k_is)
    (case l11 => k_is)
    (case c11 => k_is)
    (case k11 => k_is)
    (case a12 => k_is)
    (case l12 => k_is)
    (case c12 => k_is)
    (case k12 => k_is)
