import PyProof.Rows.All
import Wide.All
import OpenK.AllK
import Wide.FinOn
import HandS.ForMost
import HandS.IsInst
import HandS.Flow
import HandS.TupAny
import HandS.TupMul
import HandS.Deep
import HandS.Zip
import HandS.Wide
import KE.KDictDisplayH
import HandS.Style
import HandS.Exc
import PyProof.NeData
import PyProof.StrLawsRepr
import PyProof.Rows.StrJoinMade
import PyProof.ReprRoads
import PyProof.CallFns
import PyProof.Rows.StrDigitsNeg
import KE.GoesEnum
import KE.GoesZip
import HandS.StrMore
import HandS.Small
import HandS.DictComp
import KE.KDictCopyH
import HandS.TupLen
import HandS.SetKeys
import HandS.Conv
import HandS.NoneIn
import HandS.TryMany
import HandS.ExcOwn
import PyProof.Rows.StrPadFill
import PySem.Challenge.RW_sortedshelves_k36_comparisons_with_error
import PyProof.Rows.StrPadWhole
set_option Elab.async false
set_option linter.all false
set_option maxRecDepth 100000
set_option maxHeartbeats 4000000
section
/-! PD1: deep values over the hand layer. -/
namespace PD
open PySem PySem.Spec PyProof.Rows L2

/-- deep values: tuples, frozen lists and dicts are plain data; what may change is a reference; the deck of draws is one opaque value -/
inductive D where
  | non | bl (b : Bool) | int (i : Int) | str (x : Str)
  | tup (xs : List D) | lst (xs : List D) | dic (kvs : List (D × D))
  | ref (a : Addr) | ty (n : String) | deck

/-- what may change -/
inductive OD where
  | lst (xs : List D) | dic (kvs : List (D × D)) | ins (C : Addr) (fs : List (Str × D)) | dct (w : World) (kvs : List (D × D))

/-- the deep heap: tracked objects, a bound on the draws so far, where the deck stands -/
structure HD where
  hp : Addr → Option OD
  c : Nat
  dk : Option (Addr × Addr)
def HD.set (S : HD) (a : Addr) (o : OD) : HD := { S with hp := fun b => if b = a then some o else S.hp b }
def HD.del (S : HD) (a : Addr) : HD := { S with hp := fun b => if b = a then none else S.hp b }
def HD.tick (S : HD) (n : Nat) : HD := { S with c := S.c + n }
@[simp] theorem HD.set_same {S : HD} {a : Addr} {o : OD} : (S.set a o).hp a = some o := by simp [HD.set]
theorem HD.set_ne {S : HD} {a b : Addr} {o : OD} (h : b ≠ a) : (S.set a o).hp b = S.hp b := by simp [HD.set, h]
@[simp] theorem HD.set_set {S : HD} {a : Addr} {o u : OD} : (S.set a o).set a u = S.set a u := by
  unfold HD.set; congr 1; funext b; by_cases h : b = a <;> simp [h]
@[simp] theorem HD.set_dk {S : HD} {a : Addr} {o : OD} : (S.set a o).dk = S.dk := rfl
@[simp] theorem HD.set_c {S : HD} {a : Addr} {o : OD} : (S.set a o).c = S.c := rfl
@[simp] theorem HD.tick_hp {S : HD} {n : Nat} : (S.tick n).hp = S.hp := rfl
@[simp] theorem HD.tick_dk {S : HD} {n : Nat} : (S.tick n).dk = S.dk := rfl
@[simp] theorem HD.tick_c {S : HD} {n : Nat} : (S.tick n).c = S.c + n := rfl

def Dk (S : HD) (a : Addr) : Prop := ∃ p, S.dk = some p ∧ (a = p.1 ∨ a = p.2)
/-- a may be named by frozen data -/
def Fz (G : Addr → Prop) (S : HD) (a : Addr) : Prop := S.hp a = none ∧ ¬ Dk S a ∧ ¬ G a

/-- from one state to a later one: what was not tracked stands as it stood -/
structure FL (S : HD) (H : Hp) (S' : HD) (H' : Hp) : Prop where
  kp : ∀ a o, H a = some o → S.hp a = none → ¬ Dk S a → S'.hp a = none ∧ ¬ Dk S' a ∧ H' a = some o
  dk : ∀ p, S.dk = some p → S'.dk = some p
theorem FL.refl (S : HD) (H : Hp) : FL S H S H := ⟨fun _ _ h n d => ⟨n, d, h⟩, fun _ h => h⟩
theorem FL.trans {S S1 S2 : HD} {H H1 H2 : Hp} (a : FL S H S1 H1) (b : FL S1 H1 S2 H2) : FL S H S2 H2 :=
  ⟨fun c o h n d => let ⟨n1, d1, h1⟩ := a.kp c o h n d; b.kp c o h1 n1 d1, fun p h => b.dk p (a.dk p h)⟩

def KT (K : PySem.W.Frag) (a : Addr) (xs : List V) : Prop :=
  ∃ (o : Obj) (its : Array Value) (n : Nat), K.lookup a = some o ∧ o.cls = .type "tuple" ∧ o.data = .seq its n ∧ its.size ≤ sizeLine ∧ Vals xs its.toList
def KL (K : PySem.W.Frag) (a : Addr) (xs : List V) : Prop :=
  ∃ (o : Obj) (its : Array Value) (n : Nat), K.lookup a = some o ∧ o.cls = .type "list" ∧ o.dict = none ∧ o.data = .seq its n ∧ its.size ≤ sizeLine ∧ Vals xs its.toList

variable (K : PySem.W.Frag) (G : Addr → Prop) (S : HD) (H : Hp) in
def FzT (a : Addr) (xs : List V) : Prop := (Fz G S a ∧ Rd H a (.tup xs)) ∨ KT K a xs
variable (K : PySem.W.Frag) (G : Addr → Prop) (S : HD) (H : Hp) in
def FzL (a : Addr) (xs : List V) : Prop := (Fz G S a ∧ Rd H a (.lst xs)) ∨ KL K a xs
variable (G : Addr → Prop) (S : HD) (H : Hp) in
def FzD (a : Addr) (kvs : List (Key × V)) : Prop := Fz G S a ∧ Rd H a (.dK kvs)

def kD : Key → D
  | .inl i => .int i
  | .inr x => .str x

section
variable (K : PySem.W.Frag) (G : Addr → Prop) (S : HD) (H : Hp)
mutual
inductive RD : D → V → Prop
  | non : RD .non .non
  | bl (b : Bool) : RD (.bl b) (.bl b)
  | int (i : Int) : RD (.int i) (.int i)
  | str (x : Str) : RD (.str x) (.str x)
  | ty (n : String) : RD (.ty n) (.ty n)
  | ref (a : Addr) : RD (.ref a) (.ref a)
  | tup {a : Addr} {vs : List V} {ds : List D} (h : FzT K G S H a vs) (r : RDs ds vs) : RD (.tup ds) (.ref a)
  | lst {a : Addr} {vs : List V} {ds : List D} (h : FzL K G S H a vs) (r : RDs ds vs) : RD (.lst ds) (.ref a)
  | dic {a : Addr} {kvs : List (Key × V)} {kds : List (D × D)} (h : FzD G S H a kvs) (r : RDk kds kvs) : RD (.dic kds) (.ref a)
  | deck {a b : Addr} (h : S.dk = some (a, b)) : RD .deck (.ref a)
inductive RDs : List D → List V → Prop
  | nil : RDs [] []
  | cons {d : D} {v : V} {ds : List D} {vs : List V} (h : RD d v) (r : RDs ds vs) : RDs (d :: ds) (v :: vs)
inductive RDk : List (D × D) → List (Key × V) → Prop
  | nil : RDk [] []
  | cons {k : Key} {d : D} {v : V} {kds : List (D × D)} {kvs : List (Key × V)} (h : RD d v) (r : RDk kds kvs) : RDk ((kD k, d) :: kds) ((k, v) :: kvs)
end
end

section
variable {K : PySem.W.Frag} {G G' : Addr → Prop} {S S' : HD} {H H' : Hp}

/-- frozen addresses of one state are frozen in another one, with the same objects -/
structure Mv (G : Addr → Prop) (S : HD) (H : Hp) (G' : Addr → Prop) (S' : HD) (H' : Hp) : Prop where
  kp : ∀ a o, H a = some o → Fz G S a → Fz G' S' a ∧ H' a = some o
  dk : ∀ p, S.dk = some p → S'.dk = some p
theorem FL.mv (f : FL S H S' H') : Mv G S H G S' H' :=
  ⟨fun a o h z => let ⟨n, d, e⟩ := f.kp a o h z.1 z.2.1; ⟨⟨n, d, z.2.2⟩, e⟩, f.dk⟩
theorem Mv.rd (m : Mv G S H G' S' H') {a : Addr} {o : HO} (h : Fz G S a ∧ Rd H a o) : Fz G' S' a ∧ Rd H' a o := by
  obtain ⟨z, r⟩ := h
  rcases r with r | ⟨u, r⟩
  · obtain ⟨z', e⟩ := m.kp a _ r z; exact ⟨z', .inl e⟩
  · obtain ⟨z', e⟩ := m.kp a _ r z; exact ⟨z', .inr ⟨u, e⟩⟩
mutual
theorem RD.mv (m : Mv G S H G' S' H') : ∀ {d : D} {v : V}, RD K G S H d v → RD K G' S' H' d v
  | _, _, .non => .non
  | _, _, .bl b => .bl b
  | _, _, .int i => .int i
  | _, _, .str x => .str x
  | _, _, .ty n => .ty n
  | _, _, .ref a => .ref a
  | _, _, .tup h r => .tup (h.imp (fun z => m.rd z) id) (RDs.mv m r)
  | _, _, .lst h r => .lst (h.imp (fun z => m.rd z) id) (RDs.mv m r)
  | _, _, .dic h r => .dic (m.rd h) (RDk.mv m r)
  | _, _, .deck h => .deck (m.dk _ h)
theorem RDs.mv (m : Mv G S H G' S' H') : ∀ {ds : List D} {vs : List V}, RDs K G S H ds vs → RDs K G' S' H' ds vs
  | _, _, .nil => .nil
  | _, _, .cons h r => .cons (RD.mv m h) (RDs.mv m r)
theorem RDk.mv (m : Mv G S H G' S' H') : ∀ {ds : List (D × D)} {vs : List (Key × V)}, RDk K G S H ds vs → RDk K G' S' H' ds vs
  | _, _, .nil => .nil
  | _, _, .cons h r => .cons (RD.mv m h) (RDk.mv m r)
end
theorem RD.fl (f : FL S H S' H') {d : D} {v : V} (r : RD K G S H d v) : RD K G S' H' d v := r.mv f.mv
theorem RDs.fl (f : FL S H S' H') {d : List D} {v : List V} (r : RDs K G S H d v) : RDs K G S' H' d v := r.mv f.mv

theorem RDs.length : ∀ {ds : List D} {vs : List V}, RDs K G S H ds vs → ds.length = vs.length
  | _, _, .nil => rfl
  | _, _, .cons _ r => by simp [RDs.length r]
theorem RDs.append : ∀ {ds es : List D} {vs ws : List V}, RDs K G S H ds vs → RDs K G S H es ws → RDs K G S H (ds ++ es) (vs ++ ws)
  | _, _, _, _, .nil, s => s
  | _, _, _, _, .cons h r, s => .cons h (RDs.append r s)
theorem RDs.get : ∀ {ds : List D} {vs : List V} {i : Nat} {d : D}, RDs K G S H ds vs → ds[i]? = some d → ∃ v, vs[i]? = some v ∧ RD K G S H d v
  | _, _, _, _, .nil, e => by simp at e
  | _, _, 0, _, .cons h _, e => by simp at e; subst e; exact ⟨_, rfl, h⟩
  | _, _, i + 1, d, .cons _ r, e => by
    obtain ⟨u, h1, h2⟩ := RDs.get (i := i) (d := d) r (by simpa using e)
    exact ⟨u, by simpa using h1, h2⟩
theorem RDs.take : ∀ {ds : List D} {vs : List V} (n : Nat), RDs K G S H ds vs → RDs K G S H (ds.take n) (vs.take n)
  | _, _, 0, _ => .nil
  | _, _, _ + 1, .nil => .nil
  | _, _, n + 1, .cons h r => .cons h (RDs.take n r)
theorem RDs.drop : ∀ {ds : List D} {vs : List V} (n : Nat), RDs K G S H ds vs → RDs K G S H (ds.drop n) (vs.drop n)
  | _, _, 0, r => r
  | _, _, _ + 1, .nil => .nil
  | _, _, n + 1, .cons _ r => RDs.drop n r
theorem RDs.set {d : D} {v : V} (h : RD K G S H d v) : ∀ {ds : List D} {vs : List V} (i : Nat), RDs K G S H ds vs → RDs K G S H (ds.set i d) (vs.set i v)
  | _, _, _, .nil => .nil
  | _, _, 0, .cons _ r => .cons h r
  | _, _, i + 1, .cons h' r => .cons h' (RDs.set h i r)
theorem RDs.rev : ∀ {ds : List D} {vs : List V}, RDs K G S H ds vs → RDs K G S H ds.reverse vs.reverse
  | _, _, .nil => .nil
  | _, _, .cons h r => by rw [List.reverse_cons, List.reverse_cons]; exact (RDs.rev r).append (.cons h .nil)
theorem RDs.ints : ∀ (ns : List Int), RDs K G S H (ns.map D.int) (ns.map V.int)
  | [] => .nil
  | n :: ns => .cons (.int n) (RDs.ints ns)
theorem RDs.rep {d : D} {v : V} (h : RD K G S H d v) : ∀ n : Nat, RDs K G S H (List.replicate n d) (List.replicate n v)
  | 0 => .nil
  | n + 1 => .cons h (RDs.rep h n)

/-! a deep value as a key -/
mutual
def nkOf : D → Option NestedKey
  | .non => some .none
  | .bl b => some (.num (if b = true then 1 else 0))
  | .int i => some (.num i)
  | .str x => some (.text x)
  | .tup xs => (nksOf xs).map .tup
  | _ => none
def nksOf : List D → Option (List NestedKey)
  | [] => some []
  | d :: r => (nkOf d).bind fun k => (nksOf r).map (k :: ·)
end
/-- a dict whose keys are tuples, as it lies in the heap -/
def RawT (w : World) (a : Addr) (xs : List (NestedKey × Addr × Value)) : Heap → Prop := fun h => ∃ o es ep, h.get? a = some o ∧ o.ExactDict ∧ o.data = .dict es ep ∧
  es.toList = xs.map (fun x => ⟨x.1.hash w, .ref x.2.1, x.2.2⟩) ∧ (xs.map (·.1)).Nodup ∧ (a == sysModules) = false ∧ xs.length ≤ sizeLine
section
variable (K : PySem.W.Frag) (G : Addr → Prop) (S : HD) (H : Hp)
inductive RDt : List (D × D) → List (NestedKey × Addr × Value) → Prop
  | nil : RDt [] []
  | cons {kd d : D} {nk : NestedKey} {b : Addr} {v : V} {u : Value} {kds : List (D × D)} {xs : List (NestedKey × Addr × Value)} (hk : RD K G S H kd (.ref b)) (hn : nkOf kd = some nk) (hd : nk.depth ≤ 8) (hv : RelV v u) (h : RD K G S H d v) (r : RDt kds xs) :
      RDt ((kd, d) :: kds) ((nk, b, u) :: xs)
end
theorem RDt.mv (m : Mv G S H G' S' H') : ∀ {kds : List (D × D)} {xs : List (NestedKey × Addr × Value)}, RDt K G S H kds xs → RDt K G' S' H' kds xs
  | _, _, .nil => .nil
  | _, _, .cons hk hn hd hv h r => .cons (hk.mv m) hn hd hv (h.mv m) (RDt.mv m r)

def ROD (K : PySem.W.Frag) (G : Addr → Prop) (S : HD) (H : Hp) (a : Addr) : OD → Prop
  | .lst ds => ∃ vs, H a = some (.lst vs) ∧ RDs K G S H ds vs
  | .dic kds => ∃ kvs, H a = some (.dK kvs) ∧ RDk K G S H kds kvs
  | .ins C fs => ∃ dx vs, H a = some (.ins C dx vs) ∧ fs.map (·.1) = vs.map (·.1) ∧ RDs K G S H (fs.map (·.2)) (vs.map (·.2))
  | .dct w kds => ∃ xs, H a = some (.ext (RawT w a xs)) ∧ RDt K G S H kds xs
theorem ROD.there {a : Addr} {o : OD} (r : ROD K G S H a o) : ∃ u, H a = some u := by
  cases o with
  | lst ds => obtain ⟨_, e, _⟩ := r; exact ⟨_, e⟩
  | dic ds => obtain ⟨_, e, _⟩ := r; exact ⟨_, e⟩
  | ins C fs => obtain ⟨_, _, e, _⟩ := r; exact ⟨_, e⟩
  | dct w fs => obtain ⟨_, e, _⟩ := r; exact ⟨_, e⟩
theorem ROD.mv (m : Mv G S H G' S' H') {a : Addr} {o : OD} (e : H' a = H a) (r : ROD K G S H a o) : ROD K G' S' H' a o := by
  cases o with
  | lst ds => obtain ⟨vs, e1, q⟩ := r; exact ⟨vs, e.trans e1, q.mv m⟩
  | dic ds => obtain ⟨vs, e1, q⟩ := r; exact ⟨vs, e.trans e1, q.mv m⟩
  | ins C fs => obtain ⟨dx, vs, e1, k, q⟩ := r; exact ⟨dx, vs, e.trans e1, k, q.mv m⟩
  | dct w fs => obtain ⟨xs, e1, q⟩ := r; exact ⟨xs, e.trans e1, q.mv m⟩

/-- the deck as it stands: the cells and how many draws were made -/
def DeckAt (H : Hp) (a b : Addr) (c : Nat) : Prop :=
  ∃ (cells : List Int) (n : Nat), H a = some (.lst [.ref b, .int (n : Int)]) ∧ H b = some (.lst (cells.map V.int)) ∧ n ≤ c ∧ cells.length ≤ 63 ∧ ∀ z ∈ cells, 0 ≤ z
structure RH (K : PySem.W.Frag) (G : Addr → Prop) (S : HD) (H : Hp) : Prop where
  hp : ∀ a o, S.hp a = some o → ¬ Dk S a ∧ ¬ G a ∧ ROD K G S H a o
  rs : ∀ a, G a → (∃ o, H a = some o) ∧ ¬ Dk S a
  dk : ∀ a b, S.dk = some (a, b) → a ≠ b ∧ S.hp a = none ∧ S.hp b = none ∧ DeckAt H a b S.c
theorem RH.fresh (r : RH K G S H) {a : Addr} (h : H a = none) : S.hp a = none ∧ ¬ Dk S a ∧ ¬ G a := by
  refine ⟨?_, ?_, ?_⟩
  · cases e : S.hp a with
    | none => rfl
    | some o =>
      obtain ⟨u, q⟩ := (r.hp a o e).2.2.there
      rw [h] at q; cases q
  · rintro ⟨p, e, hp⟩
    obtain ⟨_, _, _, _, _, e1, e2, _⟩ := r.dk p.1 p.2 e
    rcases hp with z | z
    · rw [z, e1] at h; cases h
    · rw [z, e2] at h; cases h
  · intro g
    obtain ⟨⟨o, e⟩, _⟩ := r.rs a g
    rw [h] at e; cases e

/-- the heap has grown, nothing else -/
structure Grow (H H' : Hp) : Prop where
  kp : ∀ a o, H a = some o → H' a = some o
theorem Grow.upd {H : Hp} {p : Addr} {o : HO} (h : H p = none) : Grow H (upd H p o) := ⟨fun a u e => by rw [upd_ne (ne_of_none e h)]; exact e⟩
theorem Grow.fl (g : Grow H H') : FL S H S H' := ⟨fun a o h n d => ⟨n, d, g.kp a o h⟩, fun _ h => h⟩
theorem RH.grow (r : RH K G S H) (g : Grow H H') : RH K G S H' where
  hp := fun a o e => by
    obtain ⟨h1, h2, h3⟩ := r.hp a o e
    obtain ⟨u, q⟩ := h3.there
    exact ⟨h1, h2, h3.mv g.fl.mv ((g.kp a u q).trans q.symm)⟩
  rs := fun a h => let ⟨⟨o, e⟩, d⟩ := r.rs a h; ⟨⟨o, g.kp a o e⟩, d⟩
  dk := fun a b e => by
    obtain ⟨h1, h2, h3, cs, n, h4, h5, h6⟩ := r.dk a b e
    exact ⟨h1, h2, h3, cs, n, g.kp _ _ h4, g.kp _ _ h5, h6⟩
/-- a new object that is to be frozen -/
theorem RH.newF (r : RH K G S H) {p : Addr} (h : H p = none) (o : HO) : RH K G S (upd H p o) ∧ FL S H S (upd H p o) ∧ Fz G S p :=
  ⟨r.grow (.upd h), (Grow.upd h).fl, r.fresh h⟩
theorem RH.newT (r : RH K G S H) {p : Addr} (h : H p = none) {ds : List D} {vs : List V} (rs : RDs K G S H ds vs) : RD K G S (L2.upd H p (.tup vs)) (.tup ds) (.ref p) :=
  .tup (.inl ⟨r.fresh h, .inl upd_same⟩) (rs.fl (Grow.upd h).fl)
theorem RH.newL (r : RH K G S H) {p : Addr} (h : H p = none) {ds : List D} {vs : List V} (rs : RDs K G S H ds vs) : RD K G S (L2.upd H p (.lst vs)) (.lst ds) (.ref p) :=
  .lst (.inl ⟨r.fresh h, .inl upd_same⟩) (rs.fl (Grow.upd h).fl)
/-- a new object that is to be tracked -/
theorem RH.newR (r : RH K G S H) {p : Addr} (h : H p = none) {o : OD} {ho : HO} (q : ROD K G (S.set p o) (upd H p ho) p o) :
    RH K G (S.set p o) (upd H p ho) ∧ FL S H (S.set p o) (upd H p ho) := by
  obtain ⟨n1, n2, n3⟩ := r.fresh h
  have fl : FL S H (S.set p o) (upd H p ho) := ⟨fun a u e n d => by
    have ne := ne_of_none e h
    exact ⟨by rw [HD.set_ne ne]; exact n, d, by rw [upd_ne ne]; exact e⟩, fun _ e => e⟩
  refine ⟨⟨fun a u e => ?_, fun a g => ?_, fun a b e => ?_⟩, fl⟩
  · by_cases ha : a = p
    · subst ha
      rw [HD.set_same] at e; cases e
      exact ⟨n2, n3, q⟩
    · rw [HD.set_ne ha] at e
      obtain ⟨h1, h2, h3⟩ := r.hp a u e
      exact ⟨h1, h2, h3.mv fl.mv (upd_ne ha)⟩
  · obtain ⟨⟨u, e⟩, d⟩ := r.rs a g
    exact ⟨⟨u, (Grow.upd h).kp a u e⟩, d⟩
  · obtain ⟨h1, h2, h3, cs, n, h4, h5, h6⟩ := r.dk a b e
    exact ⟨h1, by rw [HD.set_ne (ne_of_none h4 h)]; exact h2, by rw [HD.set_ne (ne_of_none h5 h)]; exact h3, cs, n, (Grow.upd h).kp _ _ h4, (Grow.upd h).kp _ _ h5, h6⟩
/-- a tracked object is changed -/
theorem RH.write (r : RH K G S H) {p : Addr} {o o' : OD} (h : S.hp p = some o) {ho : HO} (q : ROD K G (S.set p o') (upd H p ho) p o') :
    RH K G (S.set p o') (upd H p ho) ∧ FL S H (S.set p o') (upd H p ho) := by
  obtain ⟨n2, n3, _⟩ := r.hp p o h
  have nep : ∀ {a : Addr}, S.hp a = none → a ≠ p := fun {a} e z => by rw [z, h] at e; cases e
  have fl : FL S H (S.set p o') (upd H p ho) := ⟨fun a u e n d => by
    have ne := nep n
    exact ⟨by rw [HD.set_ne ne]; exact n, d, by rw [upd_ne ne]; exact e⟩, fun _ e => e⟩
  refine ⟨⟨fun a u e => ?_, fun a g => ?_, fun a b e => ?_⟩, fl⟩
  · by_cases ha : a = p
    · subst ha
      rw [HD.set_same] at e; cases e
      exact ⟨n2, n3, q⟩
    · rw [HD.set_ne ha] at e
      obtain ⟨h1, h2, h3⟩ := r.hp a u e
      exact ⟨h1, h2, h3.mv fl.mv (upd_ne ha)⟩
  · obtain ⟨⟨u, e⟩, d⟩ := r.rs a g
    have ne : a ≠ p := fun z => n3 (z ▸ g)
    exact ⟨⟨u, by rw [upd_ne ne]; exact e⟩, d⟩
  · obtain ⟨h1, h2, h3, cs, n, h4, h5, h6⟩ := r.dk a b e
    exact ⟨h1, by rw [HD.set_ne (nep h2)]; exact h2, by rw [HD.set_ne (nep h3)]; exact h3, cs, n, by rw [upd_ne (nep h2)]; exact h4, by rw [upd_ne (nep h3)]; exact h5, h6⟩
/-- fewer tracked objects, a greater bound -/
structure HLe (S S' : HD) : Prop where
  hp : ∀ a o, S.hp a = some o → S'.hp a = some o
  c : S'.c ≤ S.c
  dk : S.dk = S'.dk
theorem HLe.refl (S : HD) : HLe S S := ⟨fun _ _ h => h, Nat.le_refl _, rfl⟩
theorem HLe.trans {S S1 S2 : HD} (a : HLe S S1) (b : HLe S1 S2) : HLe S S2 := ⟨fun c o h => b.hp c o (a.hp c o h), Nat.le_trans b.c a.c, a.dk.trans b.dk⟩
theorem HLe.set {S : HD} {p : Addr} {o : OD} (h : S.hp p = none) : HLe S (S.set p o) :=
  ⟨fun a u e => by rw [HD.set_ne (fun z => by rw [z, h] at e; cases e)]; exact e, Nat.le_refl _, rfl⟩
theorem HLe.tick {S S' : HD} (h : HLe S S') (n : Nat) : HLe (S.tick n) S' := ⟨h.hp, Nat.le_trans h.c (Nat.le_add_right _ _), h.dk⟩
theorem HLe.dkE (l : HLe S S') {a : Addr} : Dk S a ↔ Dk S' a := by unfold Dk; rw [l.dk]
theorem HLe.fz (l : HLe S S') {a : Addr} (h : S'.hp a = none) : S.hp a = none := by
  cases e : S.hp a with
  | none => rfl
  | some o => rw [l.hp a o e] at h; cases h
theorem HLe.mv (l : HLe S S') : Mv G S' H G S H :=
  ⟨fun a o e z => ⟨⟨l.fz z.1, fun d => z.2.1 (l.dkE.mp d), z.2.2⟩, e⟩, fun p h => l.dk.trans h⟩
theorem HLe.fl (l : HLe S S') : FL S' H S H :=
  ⟨fun a o e n d => ⟨l.fz n, fun z => d (l.dkE.mp z), e⟩, fun p h => l.dk.trans h⟩
theorem RH.le (r : RH K G S' H) (l : HLe S S') : RH K G S H where
  hp := fun a o e => by
    obtain ⟨h1, h2, h3⟩ := r.hp a o (l.hp a o e)
    exact ⟨fun d => h1 (l.dkE.mp d), h2, h3.mv l.mv rfl⟩
  rs := fun a g => let ⟨e, d⟩ := r.rs a g; ⟨e, fun z => d (l.dkE.mp z)⟩
  dk := fun a b e => by
    obtain ⟨h1, h2, h3, cs, n, h4, h5, h6, h7⟩ := r.dk a b (l.dk.symm.trans e)
    exact ⟨h1, l.fz h2, l.fz h3, cs, n, h4, h5, Nat.le_trans h6 l.c, h7⟩
end

/-! ### slots -/
abbrev SD := List (Option D)
structure RSl (K : PySem.W.Frag) (G : Addr → Prop) (S : HD) (H : Hp) (σd : SD) (σ : L2.St) : Prop where
  len : σd.length = σ.length
  sl : ∀ (i : Nat) (d : D), σd[i]? = some (some d) → ∃ v, σ[i]? = some (some v) ∧ RD K G S H d v
section
variable {K : PySem.W.Frag} {G G' : Addr → Prop} {S S' : HD} {H H' : Hp} {σd : SD} {σ : L2.St}
theorem RSl.mv (r : RSl K G S H σd σ) (m : Mv G S H G' S' H') : RSl K G' S' H' σd σ :=
  ⟨r.len, fun i d e => let ⟨v, h, q⟩ := r.sl i d e; ⟨v, h, q.mv m⟩⟩
theorem RSl.fl (r : RSl K G S H σd σ) (f : FL S H S' H') : RSl K G S' H' σd σ := r.mv f.mv
theorem RSl.set (r : RSl K G S H σd σ) {d : D} {v : V} (q : RD K G S H d v) (i : Nat) : RSl K G S H (σd.set i (some d)) (σ.set i (some v)) := by
  refine ⟨by simp [r.len], fun j e h => ?_⟩
  by_cases hj : i = j
  · subst hj
    have hi : i < σd.length := by
      have := (List.getElem?_eq_some_iff.mp h).1
      simpa using this
    rw [List.getElem?_set_self hi] at h
    cases h
    exact ⟨v, by rw [List.getElem?_set_self (r.len ▸ hi)], q⟩
  · rw [List.getElem?_set_ne hj] at h
    obtain ⟨u, h1, h2⟩ := r.sl j e h
    exact ⟨u, by rw [List.getElem?_set_ne hj]; exact h1, h2⟩
def wipeD (σ : SD) : List Nat → SD
  | [] => σ
  | v :: vs => (wipeD σ vs).set v none
theorem wipeD_length (σ : SD) : ∀ vs : List Nat, (wipeD σ vs).length = σ.length
  | [] => rfl
  | v :: vs => by unfold wipeD; rw [List.length_set, wipeD_length σ vs]
theorem RSl.setN (r : RSl K G S H σd σ) (i : Nat) : RSl K G S H (σd.set i none) (σ.set i none) := by
  refine ⟨by simp [r.len], fun j e h => ?_⟩
  by_cases hj : i = j
  · subst hj
    have hi : i < σd.length := by
      have := (List.getElem?_eq_some_iff.mp h).1
      simpa using this
    rw [List.getElem?_set_self hi] at h
    cases h
  · rw [List.getElem?_set_ne hj] at h
    obtain ⟨u, h1, h2⟩ := r.sl j e h
    exact ⟨u, by rw [List.getElem?_set_ne hj]; exact h1, h2⟩
theorem RSl.wipe (r : RSl K G S H σd σ) : ∀ vs : List Nat, RSl K G S H (wipeD σd vs) (wipe σ vs)
  | [] => r
  | v :: vs => (RSl.wipe r vs).setN v
end
end PD
end

section
/-! PD2: readings over deep values, lifted over the layer's readings: names, constants, displays, operators, tests. -/
namespace PD
open PySem PySem.Spec PyProof.Rows L2

abbrev QD := D → HD → Prop
abbrev TED := SD → HD → QD → Prop
abbrev TTD := SD → HD → (Bool → HD → Prop) → Prop
abbrev TAD := SD → HD → (List D → HD → Prop) → Prop

section
variable (K : PySem.W.Frag) (G : Addr → Prop) (S : HD) (H : Hp)
def Post (Qd : QD) (Q : VK) : Prop := ∀ S' d v H', FL S H S' H' → RH K G S' H' → RD K G S' H' d v → Qd d S' → Q v H'
def PostT (Qd : Bool → HD → Prop) (Q : Bool → Hp → Prop) : Prop := ∀ S' b H', FL S H S' H' → RH K G S' H' → Qd b S' → Q b H'
def PostA (Qd : List D → HD → Prop) (Q : List V → Hp → Prop) : Prop := ∀ S' ds vs H', FL S H S' H' → RH K G S' H' → RDs K G S' H' ds vs → Qd ds S' → Q vs H'
end
def up (K : PySem.W.Frag) (t : TED) : TE := fun σ H Q => ∃ G σd S Qd, RSl K G S H σd σ ∧ RH K G S H ∧ t σd S Qd ∧ Post K G S H Qd Q
def upT (K : PySem.W.Frag) (t : TTD) : TT := fun σ H Q => ∃ G σd S Qd, RSl K G S H σd σ ∧ RH K G S H ∧ t σd S Qd ∧ PostT K G S H Qd Q
def upA (K : PySem.W.Frag) (t : TAD) : TA := fun σ H Q => ∃ G σd S Qd, RSl K G S H σd σ ∧ RH K G S H ∧ t σd S Qd ∧ PostA K G S H Qd Q
abbrev DE (X : Cx) (e : Expr) (t : TED) : Prop := PE X e (up X.K t)
abbrev DT (X : Cx) (e : Expr) (t : TTD) : Prop := PT X e (upT X.K t)
abbrev DW (X : Cx) (e : Expr) (t : TTD) : Prop := PW X e (upT X.K t)
abbrev DA (X : Cx) (es : List Expr) (t : TAD) : Prop := PA X es (upA X.K t)

section
variable {X : Cx} {e : Expr}
theorem _root_.L2.PE.imp {t t' : TE} (h : PE X e t) (i : ∀ σ H Q, t' σ H Q → t σ H Q) : PE X e t' := ⟨fun pins s σ H Q I q => h.run pins s σ H Q I (i _ _ _ q)⟩
theorem _root_.L2.PT.imp {t t' : TT} (h : PT X e t) (i : ∀ σ H Q, t' σ H Q → t σ H Q) : PT X e t' := ⟨fun pins s σ H Q I q => h.run pins s σ H Q I (i _ _ _ q)⟩
theorem _root_.L2.PW.imp {t t' : TT} (h : PW X e t) (i : ∀ σ H Q, t' σ H Q → t σ H Q) : PW X e t' := ⟨fun wh pins s σ H Q I q => h.run wh pins s σ H Q I (i _ _ _ q)⟩
theorem _root_.L2.PA.imp {es : List Expr} {t t' : TA} (h : PA X es t) (i : ∀ σ H Q, t' σ H Q → t σ H Q) : PA X es t' := ⟨fun pos pins s σ H Q I q => h.run pos pins s σ H Q I (i _ _ _ q)⟩
end
section
variable {K : PySem.W.Frag} {G : Addr → Prop} {S S1 : HD} {H H1 : Hp}
theorem Post.fl {Qd : QD} {Q : VK} (p : Post K G S H Qd Q) (f : FL S H S1 H1) : Post K G S1 H1 Qd Q := fun S' d v H' f' => p S' d v H' (f.trans f')
theorem PostT.fl {Qd : Bool → HD → Prop} {Q : Bool → Hp → Prop} (p : PostT K G S H Qd Q) (f : FL S H S1 H1) : PostT K G S1 H1 Qd Q := fun S' d H' f' => p S' d H' (f.trans f')
theorem PostA.fl {Qd : List D → HD → Prop} {Q : List V → Hp → Prop} (p : PostA K G S H Qd Q) (f : FL S H S1 H1) : PostA K G S1 H1 Qd Q := fun S' d v H' f' => p S' d v H' (f.trans f')
/-- the value stands in the heap as it is -/
theorem Post.here {Qd : QD} {Q : VK} (p : Post K G S H Qd Q) (r : RH K G S H) {d : D} {v : V} (q : RD K G S H d v) (h : Qd d S) : Q v H := p S d v H (.refl _ _) r q h
theorem PostT.here {Qd : Bool → HD → Prop} {Q : Bool → Hp → Prop} (p : PostT K G S H Qd Q) (r : RH K G S H) {d : Bool} (h : Qd d S) : Q d H := p S d H (.refl _ _) r h
/-- a new frozen tuple, list -/
theorem Post.newT {Qd : QD} {Q : VK} (p : Post K G S H Qd Q) (r : RH K G S H) {ds : List D} {vs : List V} (q : RDs K G S H ds vs) (h : Qd (.tup ds) S) {a : Addr} (ha : H a = none) : Q (.ref a) (upd H a (.tup vs)) :=
  let ⟨r', f, _⟩ := r.newF ha (.tup vs); p S _ _ _ f r' (r.newT ha q) h
theorem Post.newL {Qd : QD} {Q : VK} (p : Post K G S H Qd Q) (r : RH K G S H) {ds : List D} {vs : List V} (q : RDs K G S H ds vs) (h : Qd (.lst ds) S) {a : Addr} (ha : H a = none) : Q (.ref a) (upd H a (.lst vs)) :=
  let ⟨r', f, _⟩ := r.newF ha (.lst vs); p S _ _ _ f r' (r.newL ha q) h
/-- a new tracked list -/
theorem Post.newR {Qd : QD} {Q : VK} (p : Post K G S H Qd Q) (r : RH K G S H) {ds : List D} {vs : List V} (q : RDs K G S H ds vs) (h : ∀ p, S.hp p = none → Qd (.ref p) (S.set p (.lst ds))) {a : Addr} (ha : H a = none) : Q (.ref a) (upd H a (.lst vs)) := by
  have n := r.fresh ha
  have m : Mv G S H G (S.set a (.lst ds)) (upd H a (.lst vs)) := ⟨fun b o e z => by
    have ne := ne_of_none e ha
    exact ⟨⟨by rw [HD.set_ne ne]; exact z.1, z.2.1, z.2.2⟩, by rw [upd_ne ne]; exact e⟩, fun _ e => e⟩
  obtain ⟨r', f⟩ := r.newR ha (o := .lst ds) (ho := .lst vs) ⟨vs, upd_same, q.mv m⟩
  exact p _ _ _ _ f r' (.ref a) (h a n.1)
end

/-! ### names and constants -/
def gt : SD → Nat → Option D
  | [], _ => none
  | x :: _, 0 => x
  | _ :: r, n + 1 => gt r n
theorem gt_some : ∀ {σ : SD} {i : Nat} {d : D}, gt σ i = some d → σ[i]? = some (some d)
  | [], _, _, h => by cases h
  | x :: _, 0, d, h => by simp [gt] at h; simp [h]
  | _ :: r, n + 1, d, h => by simpa using gt_some (σ := r) (i := n) h
/-- a slot that holds a value -/
def tSlot (i : Nat) : TED := fun σ S Q => match gt σ i with
  | some d => Q d S
  | none => False
def tCD (d : D) : TED := fun _ S Q => Q d S
section
variable {X : Cx}
theorem de_slot (i : Nat) {x : Str} {pos : Pos} (h : PE X (.Name x pos) (tVar i)) : DE X (.Name x pos) (tSlot i) := by
  refine h.imp fun σ H Q q => ?_
  obtain ⟨G, σd, S, Qd, rs, rh, t, p⟩ := q
  unfold tSlot at t
  cases e : gt σd i with
  | none => rw [e] at t; exact t.elim
  | some d =>
    rw [e] at t
    obtain ⟨v, h1, h2⟩ := rs.sl i d (gt_some e)
    exact ⟨v, h1, p.here rh h2 t⟩
theorem de_c {e : Expr} {v : V} {d : D} (h : PE X e (tC v)) (r : ∀ G S H, RD X.K G S H d v) : DE X e (tCD d) :=
  h.imp fun σ H Q ⟨G, σd, S, Qd, rs, rh, t, p⟩ => p.here rh (r _ _ _) t
theorem de_int {i j pos} : DE X (.Constant (.int i) j pos) (tCD (.int i)) := de_c pe_int fun _ _ _ => .int _
theorem de_bl {b j pos} : DE X (.Constant (.bool b) j pos) (tCD (.bl b)) := de_c pe_bl fun _ _ _ => .bl _
theorem de_non {j pos} : DE X (.Constant .none j pos) (tCD .non) := de_c pe_non fun _ _ _ => .non
theorem de_str {x j pos} : DE X (.Constant (.str x) j pos) (tCD (.str x)) := de_c pe_str fun _ _ _ => .str _
/-- a built-in class as a value -/
theorem de_ty {n : String} {x : Str} {pos : Pos} (hg : Gl X x) (hm : X.mg x = none) (hv : bootBuiltins x = some (.type n)) (hn : x ≠ "__name__" := by decide) (hd : (x == ("__debug__" : Str)) = false := by decide) : DE X (.Name x pos) (tCD (.ty n)) :=
  de_c (pe_bltn (v := .ty n) hg hm hv rfl hn hd) fun _ _ _ => .ty _
/-- a module's int, text -/
theorem de_globI {x : Str} {i : Int} {t : Tok} {pos : Pos} (hg : Gl X x) (hm : X.mg x = some (.int i t)) (hd : (x == ("__debug__" : Str)) = false := by decide) : DE X (.Name x pos) (tCD (.int i)) :=
  de_c (pe_glob (v := .int i) hg hm ⟨_, rfl⟩ hd) fun _ _ _ => .int _
theorem de_globS {x : Str} {i : Str} {t : Tok} {pos : Pos} (hg : Gl X x) (hm : X.mg x = some (.str i t)) (hd : (x == ("__debug__" : Str)) = false := by decide) : DE X (.Name x pos) (tCD (.str i)) :=
  de_c (pe_glob (v := .str i) hg hm ⟨_, rfl⟩ hd) fun _ _ _ => .str _

/-! ### argument lists, displays -/
def tNilD : TAD := fun _ S Q => Q [] S
def tConsD (te : TED) (tr : TAD) : TAD := fun σ S Q => te σ S fun d S1 => tr σ S1 fun ds S2 => Q (d :: ds) S2
theorem da_nil : DA X [] tNilD := pa_nil.imp fun σ H Q ⟨G, σd, S, Qd, rs, rh, t, p⟩ => p S [] [] H (.refl _ _) rh .nil t
theorem da_cons {e : Expr} {es : List Expr} {te : TED} {tr : TAD} (h : DE X e te) (hr : DA X es tr) (hs : starEach (e :: es) X.env = (false, eval e X.env) :: starEach es X.env := by rfl) : DA X (e :: es) (tConsD te tr) :=
  (pa_cons h hr hs).imp fun σ H Q ⟨G, σd, S, Qd, rs, rh, t, p⟩ =>
    ⟨G, σd, S, _, rs, rh, t, fun S1 d v H1 f1 rh1 q1 t1 => ⟨G, σd, S1, _, rs.fl f1, rh1, t1, fun S2 ds vs H2 f2 rh2 q2 t2 => p S2 _ _ H2 (f1.trans f2) rh2 (.cons (q1.fl f2) q2) t2⟩⟩
def tTupD (ta : TAD) : TED := fun σ S Q => ta σ S fun ds S1 => ds.length ≤ 1000 ∧ Q (.tup ds) S1
def tLstV (ta : TAD) : TED := fun σ S Q => ta σ S fun ds S1 => ds.length ≤ 1000 ∧ Q (.lst ds) S1
def tLstR (ta : TAD) : TED := fun σ S Q => ta σ S fun ds S1 => ds.length ≤ 1000 ∧ ∀ p, S1.hp p = none → Q (.ref p) (S1.set p (.lst ds))
theorem line1000 {n : Nat} (h : n ≤ 1000) : n ≤ sizeLine := Nat.le_trans h (by decide)
theorem de_tup {es : List Expr} {ta : TAD} {k pos} (h : DA X es ta) : DE X (.Tuple es k pos) (tTupD ta) :=
  (pe_tup h).imp fun σ H Q ⟨G, σd, S, Qd, rs, rh, t, p⟩ =>
    ⟨G, σd, S, _, rs, rh, t, fun S1 ds vs H1 f1 rh1 q1 ⟨l1, t1⟩ => ⟨q1.length ▸ line1000 l1, fun a ha => (p.fl f1).newT rh1 q1 t1 ha⟩⟩
theorem de_lstV {es : List Expr} {ta : TAD} {pos} (h : DA X es ta) : DE X (.List es pos) (tLstV ta) :=
  (pe_lst h).imp fun σ H Q ⟨G, σd, S, Qd, rs, rh, t, p⟩ =>
    ⟨G, σd, S, _, rs, rh, t, fun S1 ds vs H1 f1 rh1 q1 ⟨l1, t1⟩ => ⟨q1.length ▸ line1000 l1, fun a ha => (p.fl f1).newL rh1 q1 t1 ha⟩⟩
theorem de_lstR {es : List Expr} {ta : TAD} {pos} (h : DA X es ta) : DE X (.List es pos) (tLstR ta) :=
  (pe_lst h).imp fun σ H Q ⟨G, σd, S, Qd, rs, rh, t, p⟩ =>
    ⟨G, σd, S, _, rs, rh, t, fun S1 ds vs H1 f1 rh1 q1 ⟨l1, t1⟩ => ⟨q1.length ▸ line1000 l1, fun a ha => (p.fl f1).newR rh1 q1 t1 ha⟩⟩

/-! ### two operands -/
abbrev R2D := D → D → HD → QD → Prop
/-- a reading by values, lifted -/
def Op2 (K : PySem.W.Frag) (r : R2) (rd : R2D) : Prop := ∀ (G : Addr → Prop) (S : HD) (H : Hp) (d1 d2 : D) (v1 v2 : V) (Qd : QD) (Q : VK), RH K G S H → RD K G S H d1 v1 → RD K G S H d2 v2 → rd d1 d2 S Qd → Post K G S H Qd Q → r v1 v2 H Q
def tBin (rd : R2D) (ta tb : TED) : TED := fun σ S Q => ta σ S fun x S1 => tb σ S1 fun y S2 => rd x y S2 Q
theorem up_bin {K : PySem.W.Frag} {r : R2} {rd : R2D} (h : Op2 K r rd) {ta tb : TED} : ∀ σ H Q, up K (tBin rd ta tb) σ H Q → tOp r (up K ta) (up K tb) σ H Q := fun σ H Q ⟨G, σd, S, Qd, rs, rh, t, p⟩ =>
  ⟨G, σd, S, _, rs, rh, t, fun S1 d v H1 f1 rh1 q1 t1 => ⟨G, σd, S1, _, rs.fl f1, rh1, t1, fun S2 d2 v2 H2 f2 rh2 q2 t2 => h G S2 H2 d d2 v v2 _ _ rh2 (q1.fl f2) q2 t2 (p.fl (f1.trans f2))⟩⟩
theorem Op2.or {K : PySem.W.Frag} {r r' : R2} {rd rd' : R2D} (h : Op2 K r rd) (h' : Op2 K r' rd') : Op2 K (fun x y H Q => r x y H Q ∨ r' x y H Q) (fun x y S Q => rd x y S Q ∨ rd' x y S Q) :=
  fun G S H d1 d2 v1 v2 Qd Q rh q1 q2 t p => t.imp (fun t => h G S H d1 d2 v1 v2 Qd Q rh q1 q2 t p) fun t => h' G S H d1 d2 v1 v2 Qd Q rh q1 q2 t p
variable {a b : Expr} {ta tb : TED} {pos : Pos}
theorem de_op {op : Operator} {r : R2} {rd : R2D} (ho : OpR X (binaryOp op) r) (h : Op2 X.K r rd) (ha : DE X a ta) (hb : DE X b tb) : DE X (.BinOp a op b pos) (tBin rd ta tb) := (pe_op ho ha hb).imp (up_bin h)
theorem de_cmp {op : CmpOp} {r : R2} {rd : R2D} (ho : OpR X (compareOp op) r) (h : Op2 X.K r rd) (ha : DE X a ta) (hb : DE X b tb) (hm : behindInMarks op b = false) : DE X (.Compare a [op] [b] pos) (tBin rd ta tb) := (pe_cmpR ho ha hb hm).imp (up_bin h)
/-- a value that is a bool, as a test -/
def tTst (t : TED) : TTD := fun σ S Q => t σ S fun x S1 => match x with
  | .bl k => Q k S1
  | _ => False
theorem up_tst {K : PySem.W.Frag} {r : R2} {rd : R2D} (h : Op2 K r rd) {ta tb : TED} : ∀ σ H Q, upT K (tTst (tBin rd ta tb)) σ H Q → tTest (tOp r (up K ta) (up K tb)) σ H Q := fun σ H Q ⟨G, σd, S, Qd, rs, rh, t, p⟩ =>
  up_bin h σ H _ ⟨G, σd, S, _, rs, rh, t, fun S1 d v H1 f1 rh1 q1 t1 => by
    cases q1 with
    | bl k => exact ⟨k, rfl, p S1 k H1 f1 rh1 t1⟩
    | _ => exact t1.elim⟩
theorem dt_cmp {op : CmpOp} {r : R2} {rd : R2D} (ho : OpR X (compareOp op) r) (h : Op2 X.K r rd) (ha : DE X a ta) (hb : DE X b tb) (hm : behindInMarks op b = false) : DT X (.Compare a [op] [b] pos) (tTst (tBin rd ta tb)) := (pt_cmpR ho ha hb hm).imp (up_tst h)
theorem dt_val {e : Expr} {t : TED} (h : DE X e t) (he : ∀ whole, isTrue e X.env whole = (do let v ← whole; standAt e.pos; holding [v] (truthy v)) := by intro _; rfl) : DT X e (tTst t) :=
  (pt_val h he).imp fun σ H Q ⟨G, σd, S, Qd, rs, rh, t, p⟩ => ⟨G, σd, S, _, rs, rh, t, fun S1 d v H1 f1 rh1 q1 t1 => by
    cases q1 with
    | bl k => exact ⟨k, rfl, p S1 k H1 f1 rh1 t1⟩
    | _ => exact t1.elim⟩

/-! ### and, or, not, if as tests and as values -/
variable {tA tB' : TTD} {rest : List Expr} {c : Expr}
def tAndD (t u : TTD) : TTD := fun σ S Q => t σ S fun c S1 => if c = true then u σ S1 Q else Q false S1
def tOrD (t u : TTD) : TTD := fun σ S Q => t σ S fun c S1 => if c = true then Q true S1 else u σ S1 Q
def tNotD (t : TTD) : TTD := fun σ S Q => t σ S fun c S1 => Q (!c) S1
theorem dw_and1 (ha : DT X a tA) : DW X (.BoolOp .And [a] pos) tA := pw_and1 ha
theorem dw_or1 (ha : DT X a tA) : DW X (.BoolOp .Or [a] pos) tA := pw_or1 ha
theorem dw_and (ha : DT X a tA) (hb : DW X (.BoolOp .And (b :: rest) pos) tB') : DW X (.BoolOp .And (a :: b :: rest) pos) (tAndD tA tB') :=
  (pw_and ha hb).imp fun σ H Q ⟨G, σd, S, Qd, rs, rh, t, p⟩ => ⟨G, σd, S, _, rs, rh, t, fun S1 k H1 f1 rh1 t1 => by
    cases k with
    | true => rw [if_pos rfl] at t1 ⊢; exact ⟨G, σd, S1, _, rs.fl f1, rh1, t1, p.fl f1⟩
    | false => rw [if_neg Bool.false_ne_true] at t1 ⊢; exact p S1 false H1 f1 rh1 t1⟩
theorem dw_or (ha : DT X a tA) (hb : DW X (.BoolOp .Or (b :: rest) pos) tB') : DW X (.BoolOp .Or (a :: b :: rest) pos) (tOrD tA tB') :=
  (pw_or ha hb).imp fun σ H Q ⟨G, σd, S, Qd, rs, rh, t, p⟩ => ⟨G, σd, S, _, rs, rh, t, fun S1 k H1 f1 rh1 t1 => by
    cases k with
    | false => rw [if_neg Bool.false_ne_true] at t1 ⊢; exact ⟨G, σd, S1, _, rs.fl f1, rh1, t1, p.fl f1⟩
    | true => rw [if_pos rfl] at t1 ⊢; exact p S1 true H1 f1 rh1 t1⟩
theorem dt_w (h : DW X c tA) : DT X c tA := PW.pt h
theorem dt_not (ha : DT X a tA) : DT X (.UnaryOp .Not a pos) (tNotD tA) :=
  (pt_not ha).imp fun σ H Q ⟨G, σd, S, Qd, rs, rh, t, p⟩ => ⟨G, σd, S, _, rs, rh, t, fun S1 k H1 f1 rh1 t1 => p S1 _ H1 f1 rh1 t1⟩
def tIfD (t : TTD) (ta tb : TED) : TED := fun σ S Q => t σ S fun c S1 => if c = true then ta σ S1 Q else tb σ S1 Q
theorem de_if (hc : DT X c tA) (ha : DE X a ta) (hb : DE X b tb) : DE X (.IfExp c a b pos) (tIfD tA ta tb) :=
  (pe_ifExp hc ha hb).imp fun σ H Q ⟨G, σd, S, Qd, rs, rh, t, p⟩ => ⟨G, σd, S, _, rs, rh, t, fun S1 k H1 f1 rh1 t1 => by
    cases k with
    | true => rw [if_pos rfl] at t1 ⊢; exact ⟨G, σd, S1, _, rs.fl f1, rh1, t1, p.fl f1⟩
    | false => rw [if_neg Bool.false_ne_true] at t1 ⊢; exact ⟨G, σd, S1, _, rs.fl f1, rh1, t1, p.fl f1⟩⟩
/-- as values: all but the last are bools -/
def tAndV (ta tb : TED) : TED := fun σ S Q => ta σ S fun x S1 => match x with
  | .bl true => tb σ S1 Q
  | .bl false => Q (.bl false) S1
  | _ => False
def tOrV (ta tb : TED) : TED := fun σ S Q => ta σ S fun x S1 => match x with
  | .bl true => Q (.bl true) S1
  | .bl false => tb σ S1 Q
  | _ => False
def tNotV (ta : TED) : TED := fun σ S Q => ta σ S fun x S1 => match x with
  | .bl k => Q (.bl (!k)) S1
  | _ => False
theorem de_one {op} (h : DE X a ta) : DE X (.BoolOp op [a] pos) ta := pe_one h
theorem de_and (ha : DE X a ta) (hb : DE X (.BoolOp .And (b :: rest) pos) tb) : DE X (.BoolOp .And (a :: b :: rest) pos) (tAndV ta tb) :=
  (pe_and ha hb).imp fun σ H Q ⟨G, σd, S, Qd, rs, rh, t, p⟩ => ⟨G, σd, S, _, rs, rh, t, fun S1 d v H1 f1 rh1 q1 t1 => by
    cases q1 with
    | bl k =>
      refine ⟨k, rfl, ?_⟩
      cases k with
      | true => rw [if_pos rfl]; exact ⟨G, σd, S1, _, rs.fl f1, rh1, t1, p.fl f1⟩
      | false => rw [if_neg Bool.false_ne_true]; exact p S1 _ _ H1 f1 rh1 (.bl _) t1
    | _ => exact t1.elim⟩
theorem de_or (ha : DE X a ta) (hb : DE X (.BoolOp .Or (b :: rest) pos) tb) : DE X (.BoolOp .Or (a :: b :: rest) pos) (tOrV ta tb) :=
  (pe_or ha hb).imp fun σ H Q ⟨G, σd, S, Qd, rs, rh, t, p⟩ => ⟨G, σd, S, _, rs, rh, t, fun S1 d v H1 f1 rh1 q1 t1 => by
    cases q1 with
    | bl k =>
      refine ⟨k, rfl, ?_⟩
      cases k with
      | false => rw [if_neg Bool.false_ne_true]; exact ⟨G, σd, S1, _, rs.fl f1, rh1, t1, p.fl f1⟩
      | true => rw [if_pos rfl]; exact p S1 _ _ H1 f1 rh1 (.bl _) t1
    | _ => exact t1.elim⟩
theorem de_not (ha : DE X a ta) : DE X (.UnaryOp .Not a pos) (tNotV ta) :=
  (pe_not ha).imp fun σ H Q ⟨G, σd, S, Qd, rs, rh, t, p⟩ => ⟨G, σd, S, _, rs, rh, t, fun S1 d v H1 f1 rh1 q1 t1 => by
    cases q1 with
    | bl k => exact ⟨k, rfl, p S1 _ _ H1 f1 rh1 (.bl _) t1⟩
    | _ => exact t1.elim⟩
/-- one operand -/
abbrev R1D := D → HD → QD → Prop
def tUnD (r : R1D) (ta : TED) : TED := fun σ S Q => ta σ S fun x S1 => r x S1 Q
def rNeg : R1D := fun x S Q => match x with
  | .int i => Q (.int (-i)) S
  | _ => False
theorem de_neg (ha : DE X a ta) : DE X (.UnaryOp .USub a pos) (tUnD rNeg ta) :=
  (pe_un un_neg ha).imp fun σ H Q ⟨G, σd, S, Qd, rs, rh, t, p⟩ => ⟨G, σd, S, _, rs, rh, t, fun S1 d v H1 f1 rh1 q1 t1 => by
    cases q1 with
    | int i => exact ⟨i, rfl, p S1 _ _ H1 f1 rh1 (.int _) t1⟩
    | _ => exact t1.elim⟩
end
end PD
end

section
/-! PD3: statements, targets, loops over deep values. -/
namespace PD
open PySem PySem.Spec PyProof.Rows L2

structure EndsD where
  nx : SD → HD → Prop
  rt : QD
  bk : SD → HD → Prop := fun _ _ => False
  ct : SD → HD → Prop := fun _ _ => False
  xr : Addr → SD → HD → Prop := fun _ _ _ => False
abbrev TSD := EndsD → SD → HD → Prop
abbrev TGD := D → SD → HD → (SD → HD → Prop) → Prop
abbrev TGsD := List D → SD → HD → (SD → HD → Prop) → Prop

section
variable (K : PySem.W.Frag) (G : Addr → Prop) (S : HD) (H : Hp)
def PostS (nd : SD → HD → Prop) (n : L2.St → Hp → Prop) : Prop := ∀ S' σd σ H', FL S H S' H' → RH K G S' H' → RSl K G S' H' σd σ → nd σd S' → n σ H'
structure PEnds (W : WX) (Dd : EndsD) (D : Ends) : Prop where
  nx : PostS K G S H Dd.nx D.nx
  rt : Post K G S H Dd.rt D.rt
  bk : PostS K G S H Dd.bk D.bk
  ct : PostS K G S H Dd.ct D.ct
  xr : ∀ C S' σd σ H', FL S H S' H' → RH K G S' H' → RSl K G S' H' σd σ → Dd.xr C σd S' → W (.ref C) none σ H'
end
/-- what X takes of exceptions -/
def WXof (X : Cx) : WX := fun cls d σ H => ∀ u s', L2.XE X (fun c' d' σ' H' => c' = cls ∧ d' = d ∧ σ' = σ ∧ H' = H) u s' → X.xe u s'
theorem takes_wx (X : Cx) : L2.Takes X (WXof X) := fun u s' ⟨a, B, sI, pins, σ, H, cls, d, e, I, nb, up, sky, na, os, ag, w⟩ => w u s' ⟨a, B, sI, pins, σ, H, cls, d, e, I, nb, up, sky, na, os, ag, rfl, rfl, rfl, rfl⟩
theorem wx_le {X : Cx} {W : WX} (t : L2.Takes X W) {cls : Value} {d : Option Addr} {σ : L2.St} {H : Hp} (w : W cls d σ H) : WXof X cls d σ H := fun u s' x => t u s' (by
  obtain ⟨a, B, sI, pins, σ', H', cls', d', e, I, nb, up, sky, na, os, ag, rfl, rfl, rfl, rfl⟩ := x
  exact ⟨a, B, sI, pins, _, _, _, _, e, I, nb, up, sky, na, os, ag, w⟩)
def upS (K : PySem.W.Frag) (W : WX) (t : TSD) : TS := fun D σ H => ∃ G σd S Dd, RSl K G S H σd σ ∧ RH K G S H ∧ t Dd σd S ∧ PEnds K G S H W Dd D
def upG (K : PySem.W.Frag) (t : TGD) : TG := fun v σ H Q => ∃ G σd S d Qd, RSl K G S H σd σ ∧ RH K G S H ∧ RD K G S H d v ∧ t d σd S Qd ∧ PostS K G S H Qd Q
def upGs (K : PySem.W.Frag) (t : TGsD) : TGs := fun vs σ H Q => ∃ G σd S ds Qd, RSl K G S H σd σ ∧ RH K G S H ∧ RDs K G S H ds vs ∧ t ds σd S Qd ∧ PostS K G S H Qd Q
abbrev DS (X : Cx) (st : Stmt) (t : TSD) : Prop := PS X st (upS X.K (WXof X) t)
abbrev DSs (X : Cx) (st : List Stmt) (t : TSD) : Prop := PSs X st (upS X.K (WXof X) t)
abbrev DG (X : Cx) (tg : Expr) (t : TGD) : Prop := PG X tg (upG X.K t)
abbrev DGs (X : Cx) (tg : List Expr) (t : TGsD) : Prop := PGs X tg (upGs X.K t)

theorem _root_.L2.PS.imp {X : Cx} {st : Stmt} {t t' : TS} (h : PS X st t) (i : ∀ D σ H, t' D σ H → t D σ H) : PS X st t' := ⟨fun pins s σ H D I q => h.run pins s σ H D I (i _ _ _ q)⟩
theorem _root_.L2.PSs.imp {X : Cx} {st : List Stmt} {t t' : TS} (h : PSs X st t) (i : ∀ D σ H, t' D σ H → t D σ H) : PSs X st t' := ⟨fun pins s σ H D I q => h.run pins s σ H D I (i _ _ _ q)⟩
theorem _root_.L2.PG.imp {X : Cx} {tg : Expr} {t t' : TG} (h : PG X tg t) (i : ∀ v σ H Q, t' v σ H Q → t v σ H Q) : PG X tg t' := ⟨fun pins s σ H v u Q I r q => h.run pins s σ H v u Q I r (i _ _ _ _ q)⟩
theorem _root_.L2.PGs.imp {X : Cx} {tg : List Expr} {t t' : TGs} (h : PGs X tg t) (i : ∀ v σ H Q, t' v σ H Q → t v σ H Q) : PGs X tg t' := ⟨fun pins s σ H v u Q I r q => h.run pins s σ H v u Q I r (i _ _ _ _ q)⟩
section
variable {K : PySem.W.Frag} {G : Addr → Prop} {S S1 : HD} {H H1 : Hp}
theorem PostS.fl {nd : SD → HD → Prop} {n : L2.St → Hp → Prop} (p : PostS K G S H nd n) (f : FL S H S1 H1) : PostS K G S1 H1 nd n := fun S' d v H' f' => p S' d v H' (f.trans f')
theorem PEnds.fl {W : WX} {Dd : EndsD} {D : Ends} (p : PEnds K G S H W Dd D) (f : FL S H S1 H1) : PEnds K G S1 H1 W Dd D := ⟨p.nx.fl f, p.rt.fl f, p.bk.fl f, p.ct.fl f, fun C S' σd σ H' f' => p.xr C S' σd σ H' (f.trans f')⟩
theorem PostS.here {nd : SD → HD → Prop} {n : L2.St → Hp → Prop} (p : PostS K G S H nd n) (r : RH K G S H) {σd : SD} {σ : L2.St} (rs : RSl K G S H σd σ) (h : nd σd S) : n σ H := p S σd σ H (.refl _ _) r rs h
end

/-! ### blocks and small statements -/
section
variable {X : Cx} {st : Stmt} {rest : List Stmt} {t u : TSD} {e : Expr} {te : TED} {pos : Pos}
def sNextD : TSD := fun D σ S => D.nx σ S
def sSeqD (t u : TSD) : TSD := fun D σ S => t { D with nx := u D } σ S
theorem dss_nil : DSs X [] sNextD := pss_nil.imp fun D σ H ⟨G, σd, S, Dd, rs, rh, t, p⟩ => p.nx.here rh rs t
theorem dss_cons (h1 : DS X st t) (h2 : DSs X rest u) : DSs X (st :: rest) (sSeqD t u) :=
  (pss_cons h1 h2).imp fun D σ H ⟨G, σd, S, Dd, rs, rh, q, p⟩ =>
    ⟨G, σd, S, _, rs, rh, q, fun S1 σd1 σ1 H1 f1 rh1 rs1 q1 => ⟨G, σd1, S1, Dd, rs1, rh1, q1, p.fl f1⟩, p.rt, p.bk, p.ct, p.xr⟩
theorem dss_one (h1 : DS X st t) : DSs X [st] t := pss_one h1
def sBreakD : TSD := fun D σ S => D.bk σ S
def sContD : TSD := fun D σ S => D.ct σ S
theorem ds_pass : DS X (.Pass pos) sNextD := ps_pass.imp fun D σ H ⟨G, σd, S, Dd, rs, rh, t, p⟩ => p.nx.here rh rs t
theorem ds_break : DS X (.Break pos) sBreakD := ps_break.imp fun D σ H ⟨G, σd, S, Dd, rs, rh, t, p⟩ => p.bk.here rh rs t
theorem ds_continue : DS X (.Continue pos) sContD := ps_continue.imp fun D σ H ⟨G, σd, S, Dd, rs, rh, t, p⟩ => p.ct.here rh rs t
theorem ds_doc {x j pos pos'} : DS X (.Expr (.Constant (.str x) j pos) pos') sNextD := ps_doc.imp fun D σ H ⟨G, σd, S, Dd, rs, rh, t, p⟩ => p.nx.here rh rs t
def sDropD (te : TED) : TSD := fun D σ S => te σ S fun _ S1 => D.nx σ S1
theorem ds_expr (he : DE X e te) (hs : swapsWith e none pos.line X.env = pure false := by rfl) : DS X (.Expr e pos) (sDropD te) :=
  (ps_expr he hs).imp fun D σ H ⟨G, σd, S, Dd, rs, rh, t, p⟩ => ⟨G, σd, S, _, rs, rh, t, fun S1 d v H1 f1 rh1 q1 t1 => p.nx S1 σd σ H1 f1 rh1 (rs.fl f1) t1⟩
def sRetD (te : TED) : TSD := fun D σ S => te σ S D.rt
theorem ds_ret (he : DE X e te) : DS X (.Return (some e) pos) (sRetD te) :=
  (ps_ret he).imp fun D σ H ⟨G, σd, S, Dd, rs, rh, t, p⟩ => ⟨G, σd, S, _, rs, rh, t, p.rt⟩
def sRetND : TSD := fun D _ S => D.rt .non S
theorem ds_retN : DS X (.Return none pos) sRetND := ps_retN.imp fun D σ H ⟨G, σd, S, Dd, rs, rh, t, p⟩ => p.rt.here rh .non t
def sIfD (c : TTD) (t u : TSD) : TSD := fun D σ S => c σ S fun b S1 => if b = true then t D σ S1 else u D σ S1
theorem ds_if {c : Expr} {a b : List Stmt} {tc : TTD} (hc : DT X c tc) (ha : DSs X a t) (hb : DSs X b u) : DS X (.If c a b pos) (sIfD tc t u) :=
  (ps_if hc ha hb).imp fun D σ H ⟨G, σd, S, Dd, rs, rh, t, p⟩ => ⟨G, σd, S, _, rs, rh, t, fun S1 k H1 f1 rh1 t1 => by
    cases k with
    | true => rw [if_pos rfl] at t1 ⊢; exact ⟨G, σd, S1, Dd, rs.fl f1, rh1, t1, p.fl f1⟩
    | false => rw [if_neg Bool.false_ne_true] at t1 ⊢; exact ⟨G, σd, S1, Dd, rs.fl f1, rh1, t1, p.fl f1⟩⟩
def sNeverD : TSD := fun _ _ _ => False
theorem ds_never : DS X st sNeverD := ⟨fun _ _ _ _ _ _ ⟨_, _, _, _, _, _, q, _⟩ => q.elim⟩
theorem dss_never {sts : List Stmt} : DSs X sts sNeverD := ⟨fun _ _ _ _ _ _ ⟨_, _, _, _, _, _, q, _⟩ => q.elim⟩
end

/-! ### targets -/
section
variable {X : Cx} {pos : Pos}
/-- set a slot -/
def st : SD → Nat → D → SD
  | [], _, _ => []
  | _ :: r, 0, d => some d :: r
  | x :: r, n + 1, d => x :: st r n d
theorem st_eq : ∀ (σ : SD) (i : Nat) (d : D), st σ i d = σ.set i (some d)
  | [], _, _ => rfl
  | _ :: _, 0, _ => rfl
  | x :: r, n + 1, d => by unfold st; rw [st_eq r n d]; rfl
def gNameD (i : Nat) : TGD := fun d σ S Q => Q (st σ i d) S
theorem dg_name (i : Nat) {e : Expr} (h : PG X e (gName i)) : DG X e (gNameD i) :=
  h.imp fun v σ H Q ⟨G, σd, S, d, Qd, rs, rh, q, t, p⟩ => p S _ _ H (.refl _ _) rh (by rw [st_eq]; exact rs.set q i) t
def gNilD : TGsD := fun ds σ S Q => ds = [] ∧ Q σ S
def gConsD (t : TGD) (u : TGsD) : TGsD := fun ds σ S Q => match ds with
  | d :: r => t d σ S fun σ' S' => u r σ' S' Q
  | [] => False
theorem dgs_nil : DGs X [] gNilD := pgs_nil.imp fun vs σ H Q ⟨G, σd, S, ds, Qd, rs, rh, q, ⟨e, t⟩, p⟩ => by
  subst e
  cases q
  exact ⟨rfl, p.here rh rs t⟩
theorem dgs_cons {e : Expr} {es : List Expr} {t : TGD} {u : TGsD} (h1 : DG X e t) (h2 : DGs X es u)
    (hs : (assignEach (e :: es) X.env).map (·.2) = assign e X.env :: (assignEach es X.env).map (·.2) := by rfl) : DGs X (e :: es) (gConsD t u) :=
  (pgs_cons h1 h2 hs).imp fun vs σ H Q ⟨G, σd, S, ds, Qd, rs, rh, q, tt, p⟩ => by
    cases q with
    | nil => exact tt.elim
    | cons q qs =>
      exact ⟨_, _, rfl, G, σd, S, _, _, rs, rh, q, tt, fun S1 σd1 σ1 H1 f1 rh1 rs1 q1 => ⟨G, σd1, S1, _, Qd, rs1, rh1, qs.fl f1, q1, p.fl f1⟩⟩
def gTupD (n : Nat) (t : TGsD) : TGD := fun d σ S Q => match d with
  | .tup ds => ds.length = n ∧ t ds σ S Q
  | _ => False
theorem FzT.sq {K : PySem.W.Frag} {G : Addr → Prop} {S : HD} {H : Hp} {a : Addr} {vs : List V} (h : FzT K G S H a vs) : SqT K H a vs := h.imp (fun z => z.2) fun ⟨o, its, n, h⟩ => ⟨o, its, n, h⟩
theorem FzL.sq {K : PySem.W.Frag} {G : Addr → Prop} {S : HD} {H : Hp} {a : Addr} {vs : List V} (h : FzL K G S H a vs) : SqL K H a vs := h.imp (fun z => z.2) fun ⟨o, its, n, h⟩ => ⟨o, its, n, h⟩
theorem dg_tup {es : List Expr} {k : Nat} {t : TGsD} {n : Nat} (hc : X.calm = true) (h : DGs X es t)
    (hn : (assignEach es X.env).length = n := by rfl) (hst : (assignEach es X.env).findIdx? (·.1) = none := by rfl) : DG X (.Tuple es k pos) (gTupD n t) :=
  (pg_tup hc h hn hst).imp fun v σ H Q ⟨G, σd, S, d, Qd, rs, rh, q, tt, p⟩ => by
    cases q with
    | @tup a vs ds h r =>
      obtain ⟨l, tt⟩ := tt
      exact ⟨a, vs, rfl, h.sq, r.length ▸ l, G, σd, S, _, _, rs, rh, r, tt, p⟩
    | _ => exact tt.elim
/-- target = value -/
def sAsgD (te : TED) (g : TGD) : TSD := fun D σ S => te σ S fun x S1 => g x σ S1 D.nx
theorem up_asg {K : PySem.W.Frag} {W : WX} {te : TED} {g : TGD} : ∀ D σ H, upS K W (sAsgD te g) D σ H → tAsg (up K te) (upG K g) D σ H := fun D σ H ⟨G, σd, S, Dd, rs, rh, t, p⟩ =>
  ⟨G, σd, S, _, rs, rh, t, fun S1 d v H1 f1 rh1 q1 t1 => ⟨G, σd, S1, d, _, rs.fl f1, rh1, q1, t1, p.nx.fl f1⟩⟩
theorem up_asgN {K : PySem.W.Frag} {W : WX} {te : TED} {i : Nat} : ∀ D σ H, upS K W (sAsgD te (gNameD i)) D σ H → tAsg (up K te) (gName i) D σ H := fun D σ H ⟨G, σd, S, Dd, rs, rh, t, p⟩ =>
  ⟨G, σd, S, _, rs, rh, t, fun S1 d v H1 f1 rh1 q1 t1 => p.nx S1 _ _ H1 f1 rh1 ((rs.fl f1).set q1 i) (st_eq σd i d ▸ t1)⟩
theorem ds_asg {tg e : Expr} {te : TED} {g : TGD} (he : DE X e te) (hg : DG X tg g) (hs : swapsWithSole [tg] e pos.line X.env = pure false := by rfl) (hw : swappedStores [tg] e X.env = pure none := by rfl)
    (h1 : (assignEach [tg] X.env).map (·.2) = [assign tg X.env] := by rfl) : DS X (.Assign [tg] e pos) (sAsgD te g) := (ps_asg he hg hs hw h1).imp up_asg
theorem ds_set (i : Nat) {x : Str} {e : Expr} {te : TED} {pos' : Pos} (hN : X.N.Nodup) (he : DE X e te) (hi : X.N[i]? = some x := by rfl) (hx : Loc X.env.scope x := by first | exact .inl rfl | exact .inr rfl) (hs : swapsWith e (some (.Name x pos')) pos.line X.env = pure false := by rfl) (hf : X.fn x = true ∨ X.env.scope.names.lookup x = some .local := by first | exact .inl rfl | exact .inr rfl | assumption) :
    DS X (.Assign [.Name x pos'] e pos) (sAsgD te (gNameD i)) := (ps_set hN hi hx he hs hf).imp up_asgN
/-- a, b = x, y with plain local names -/
def sPar2 (i j : Nat) (ta : TAD) : TSD := fun D σ S => ta σ S fun ds S1 => match ds with
  | [d, e] => D.nx (st (st σ i d) j e) S1
  | _ => False
theorem ds_par (i j : Nat) {x y : Str} {a b : Expr} {ta : TAD} {px py pt : Pos} {kt k2 pt2} (hN : X.N.Nodup) (ha : DA X [a, b] ta) (hc : X.calm = true := by rfl) (hi : X.N[i]? = some x := by rfl) (hj : X.N[j]? = some y := by rfl) (hij : i ≠ j := by decide)
    (hx : X.env.scope.names.lookup x = some .local := by rfl) (hy : X.env.scope.names.lookup y = some .local := by rfl)
    (hw : swappedStores [.Tuple [.Name x px, .Name y py] kt pt] (.Tuple [a, b] k2 pt2) X.env = pure (some [x, y]) := by rfl)
    (hs : swapsWithSole [.Tuple [.Name x px, .Name y py] kt pt] (.Tuple [a, b] k2 pt2) pos.line X.env = pure false := by rfl) :
    DS X (.Assign [.Tuple [.Name x px, .Name y py] kt pt] (.Tuple [a, b] k2 pt2) pos) (sPar2 i j ta) :=
  (ps_par hc hN hi hj hij hx hy ha hw hs).imp fun D σ H ⟨G, σd, S, Dd, rs, rh, t, p⟩ =>
    ⟨G, σd, S, _, rs, rh, t, fun S1 ds vs H1 f1 rh1 q1 t1 => by
      cases q1 with
      | nil => exact t1.elim
      | cons q1 r =>
        cases r with
        | nil => exact t1.elim
        | cons q2 r =>
          cases r with
          | cons _ _ => exact t1.elim
          | nil => exact ⟨_, _, rfl, p.nx S1 _ _ H1 f1 rh1 (by rw [st_eq, st_eq]; exact ((rs.fl f1).set q1 i).set q2 j) t1⟩⟩
def sPar3 (i j l : Nat) (ta : TAD) : TSD := fun D σ S => ta σ S fun ds S1 => match ds with
  | [d, e, f] => D.nx (st (st (st σ i d) j e) l f) S1
  | _ => False
theorem ds_par3 (i j l : Nat) {x y z : Str} {a b c : Expr} {ta : TAD} {px py pz pt : Pos} {kt k2 pt2} (hN : X.N.Nodup) (ha : DA X [a, b, c] ta) (hc : X.calm = true := by rfl) (hi : X.N[i]? = some x := by rfl) (hj : X.N[j]? = some y := by rfl) (hl : X.N[l]? = some z := by rfl) (hij : i ≠ j := by decide) (hil : i ≠ l := by decide) (hjl : j ≠ l := by decide)
    (hx : X.env.scope.names.lookup x = some .local := by rfl) (hy : X.env.scope.names.lookup y = some .local := by rfl) (hz : X.env.scope.names.lookup z = some .local := by rfl)
    (hw : swappedStores [.Tuple [.Name x px, .Name y py, .Name z pz] kt pt] (.Tuple [a, b, c] k2 pt2) X.env = pure (some [x, y, z]) := by rfl)
    (hs : swapsWithSole [.Tuple [.Name x px, .Name y py, .Name z pz] kt pt] (.Tuple [a, b, c] k2 pt2) pos.line X.env = pure false := by rfl) :
    DS X (.Assign [.Tuple [.Name x px, .Name y py, .Name z pz] kt pt] (.Tuple [a, b, c] k2 pt2) pos) (sPar3 i j l ta) :=
  (ps_par3 hc hN hi hj hl hij hil hjl hx hy hz ha hw hs).imp fun D σ H ⟨G, σd, S, Dd, rs, rh, t, p⟩ =>
    ⟨G, σd, S, _, rs, rh, t, fun S1 ds vs H1 f1 rh1 q1 t1 => by
      cases q1 with
      | nil => exact t1.elim
      | cons q1 r =>
        cases r with
        | nil => exact t1.elim
        | cons q2 r =>
          cases r with
          | nil => exact t1.elim
          | cons q3 r =>
            cases r with
            | cons _ _ => exact t1.elim
            | nil => exact ⟨_, _, _, rfl, p.nx S1 _ _ H1 f1 rh1 (by rw [st_eq, st_eq, st_eq]; exact (((rs.fl f1).set q1 i).set q2 j).set q3 l) t1⟩⟩
end

/-! ### what is walked: a list of deep items, that stay as long as keep holds -/
structure ItOk (K : PySem.W.Frag) (G : Addr → Prop) (S : HD) (H : Hp) (J : It) (xs : List D) (keep : HD → Prop) : Prop where
  go : ∀ (i : Nat) (d : D) (S1 : HD) (H1 : Hp), xs[i]? = some d → FL S H S1 H1 → RH K G S1 H1 → keep S1 → J.go i H1 ∧ ∀ x H2, J.yld i H1 x H2 → FL S1 H1 S1 H2 ∧ RH K G S1 H2 ∧ RD K G S1 H2 d x
  stop : ∀ (S1 : HD) (H1 : Hp), FL S H S1 H1 → RH K G S1 H1 → keep S1 → J.stop xs.length H1
abbrev TID := SD → HD → (List D → (HD → Prop) → HD → Prop) → Prop
def upI (K : PySem.W.Frag) (t : TID) : TI := fun σ H R => ∃ G σd S Rd, RSl K G S H σd σ ∧ RH K G S H ∧ t σd S Rd ∧
  ∀ S' J xs keep H', FL S H S' H' → RH K G S' H' → (∀ G' S2 H2, Mv G S' H' G' S2 H2 → RH K G' S2 H2 → ItOk K G' S2 H2 J xs keep) → Rd xs keep S' → R J H'
abbrev DI (X : Cx) (tg iter : Expr) (t : TID) : Prop := PI X tg iter (upI X.K t)
theorem _root_.L2.PI.imp {X : Cx} {tg e : Expr} {t t' : TI} (h : PI X tg e t) (i : ∀ σ H R, t' σ H R → t σ H R) : PI X tg e t' := ⟨fun pins s σ H R I q => h.run pins s σ H R I (i _ _ _ q)⟩

/-- the loop over the items -/
def loopD (g : TGD) (tb : TSD) (E : EndsD) (keep : HD → Prop) : List D → SD → HD → Prop
  | [], σ, S => keep S ∧ E.nx σ S
  | d :: r, σ, S => keep S ∧ g d σ S fun σ2 S2 => tb { nx := loopD g tb E keep r, ct := loopD g tb E keep r, bk := E.nx, rt := E.rt, xr := E.xr } σ2 S2
def sForD (ti : TID) (g : TGD) (tb : TSD) : TSD := fun D σ S => ti σ S fun xs keep S1 => loopD g tb D keep xs σ S1
section
variable {X : Cx} {pos : Pos}
theorem ds_for {tg iter : Expr} {body : List Stmt} {ti : TID} {g : TGD} {tb : TSD} (hp : PassesOwn (model X.prog X.w) X.A X.env X.xe) (hi : DI X tg iter ti) (hg : DG X tg g) (hb : DSs X body tb) (hc : X.calm = true := by rfl)
    (hs : ∀ x, foldedSetIterable iter X.env x = pure x := by intro _; rfl) : DS X (.For tg iter body [] pos) (sForD ti g tb) :=
  (ps_for hp hc hi hg hb hs).imp fun D σ H ⟨G, σd, S, Dd, rs, rh, t, p⟩ => by
    refine ⟨G, σd, S, _, rs, rh, t, fun S1 J xs keep H1 f1 rh1 hJ t1 => ?_⟩
    have ok := hJ G S1 H1 (FL.refl _ _).mv rh1
    refine ⟨fun i m σ2 H2 => m = xs.length - i ∧ i ≤ xs.length ∧ ∃ σd2 S2, FL S1 H1 S2 H2 ∧ RSl X.K G S2 H2 σd2 σ2 ∧ RH X.K G S2 H2 ∧ loopD g tb Dd keep (xs.drop i) σd2 S2,
      ⟨xs.length, by simp, Nat.zero_le _, σd, S1, .refl _ _, rs.fl f1, rh1, t1⟩, ?_⟩
    rintro i m σ2 H2 ⟨rfl, hi, σd2, S2, f2, rs2, rh2, t2⟩
    by_cases hlt : i < xs.length
    · have hx : xs[i]? = some xs[i] := by simp [hlt]
      rw [List.drop_eq_getElem_cons hlt] at t2
      obtain ⟨k2, t2⟩ := t2
      obtain ⟨go, yl⟩ := ok.go i _ S2 H2 hx f2 rh2 k2
      refine .inr ⟨go, fun σ' H' => ∃ σd2 S2, FL S1 H1 S2 H' ∧ RSl X.K G S2 H' σd2 σ' ∧ RH X.K G S2 H' ∧ loopD g tb Dd keep (xs.drop (i + 1)) σd2 S2, fun σ' H' n => ⟨_, by omega, rfl, hlt, n⟩, fun x H3 y => ?_⟩
      obtain ⟨f3, rh3, q3⟩ := yl x H3 y
      refine ⟨G, σd2, S2, _, _, rs2.fl f3, rh3, q3, t2, fun S4 σd4 σ4 H4 f4 rh4 rs4 t4 => ?_⟩
      have f14 := f2.trans (f3.trans f4)
      refine ⟨G, σd4, S4, _, rs4, rh4, t4, fun S5 σd5 σ5 H5 f5 rh5 rs5 t5 => ⟨σd5, S5, f14.trans f5, rs5, rh5, t5⟩, p.rt.fl (f1.trans f14), p.nx.fl (f1.trans f14), fun S5 σd5 σ5 H5 f5 rh5 rs5 t5 => ⟨σd5, S5, f14.trans f5, rs5, rh5, t5⟩, (p.fl (f1.trans f14)).xr⟩
    · have e : i = xs.length := by omega
      subst e
      rw [List.drop_length] at t2
      exact .inl ⟨ok.stop S2 H2 f2 rh2 t2.1, p.nx S2 _ _ H2 (f1.trans f2) rh2 rs2 t2.2⟩

/-! ### while: by a number of turns -/
def whileN (c : TTD) (tb : TSD) (D : EndsD) : Nat → SD → HD → Prop
  | 0, _, _ => False
  | n + 1, σ, S => c σ S fun b S1 => if b = true then tb { nx := whileN c tb D n, ct := whileN c tb D n, bk := D.nx, rt := D.rt, xr := D.xr } σ S1 else D.nx σ S1
def sWhileD (c : TTD) (tb : TSD) : TSD := fun D σ S => ∃ n, whileN c tb D n σ S
theorem ds_while {c : Expr} {body : List Stmt} {tc : TTD} {tb : TSD} (hp : PassesOwn (model X.prog X.w) X.A X.env X.xe) (hc : DT X c tc) (hb : DSs X body tb) : DS X (.While c body [] pos) (sWhileD tc tb) :=
  (ps_while hp hc hb).imp fun D σ H ⟨G, σd, S, Dd, rs, rh, ⟨n, t⟩, p⟩ => by
    refine ⟨fun m σ2 H2 => ∃ σd2 S2, FL S H S2 H2 ∧ RSl X.K G S2 H2 σd2 σ2 ∧ RH X.K G S2 H2 ∧ whileN tc tb Dd m σd2 S2, ⟨n, σd, S, .refl _ _, rs, rh, t⟩, ?_⟩
    rintro m σ2 H2 ⟨σd2, S2, f2, rs2, rh2, t2⟩
    cases m with
    | zero => exact t2.elim
    | succ m =>
      refine ⟨G, σd2, S2, _, rs2, rh2, t2, fun S3 b H3 f3 rh3 t3 => ?_⟩
      have f13 := f2.trans f3
      cases b with
      | true =>
        refine iteT ?_
        exact ⟨fun σ' H' => ∃ σd2 S2, FL S H S2 H' ∧ RSl X.K G S2 H' σd2 σ' ∧ RH X.K G S2 H' ∧ whileN tc tb Dd m σd2 S2, fun σ' H' n => ⟨m, Nat.lt_succ_self _, n⟩,
          G, σd2, S3, _, rs2.fl f3, rh3, t3, fun S5 σd5 σ5 H5 f5 rh5 rs5 t5 => ⟨σd5, S5, f13.trans f5, rs5, rh5, t5⟩, p.rt.fl f13, p.nx.fl f13, fun S5 σd5 σ5 H5 f5 rh5 rs5 t5 => ⟨σd5, S5, f13.trans f5, rs5, rh5, t5⟩, (p.fl f13).xr⟩
      | false =>
        refine iteF ?_
        exact p.nx S3 _ _ H3 f13 rh3 (rs2.fl f3) t3
end
end PD
end

section
/-! PD4: what a def promises over deep values; calls; comprehensions. -/
namespace PD
open PySem PySem.Spec PyProof.Rows L2

structure RoomG (k : Nat) (A : Around) : Prop where
  rm : Room k A
  gd : A.guards = some []
theorem RoomG.mono {j k : Nat} {A : Around} (r : RoomG k A) (h : j ≤ k) : RoomG j A := ⟨r.rm.mono h, r.gd⟩
theorem RoomG.deeper {k : Nat} {A : Around} (r : RoomG (k + 1) A) (env : Env) : RoomG k (A.deeper env) := ⟨r.rm.deeper env, r.gd⟩
theorem RoomG.un1 {k : Nat} {A : Around} (r : RoomG k A) : A.units + 1 < cLine := hu_of r.rm
theorem RoomG.un64 {k : Nat} {A : Around} (r : RoomG k A) : A.units + 64 < cLine := r.rm.units
theorem RoomG.un65 {k : Nat} {A : Around} (r : RoomG k A) : A.units + 65 < cLine := by have := r.rm.un; omega

abbrev SpD := List D → HD → QD → Prop
/-- the end of a call -/
def CED (K : PySem.W.Frag) (G : Addr → Prop) (S : HD) (H : Hp) (Qd : QD) : VK := fun v H' => ∃ S' d, FL S H S' H' ∧ RH K G S' H' ∧ RD K G S' H' d v ∧ Qd d S'
structure FnD (P : Program) (w : World) (K : PySem.W.Frag) (mg : Str → Option Value) (base : Heap) (k : Nat) (f : Addr) (fd : FuncData) (ps : List Str) (sp : SpD) : Prop where
  len : ∀ ds S Q, sp ds S Q → ds.length = ps.length
  run : ∀ (A : Around) (outer : List Env) (s : Shared) (H : Hp) (args : Args) (us : List Value) (vs : List V) (ds : List D) (G : Addr → Prop) (S : HD) (Qd : QD), RoomG k A → Env0 P w K mg base A outer s H →
    BindsTo s fd args (ps.zip us) → Vals vs us → RDs K G S H ds vs → RH K G S H → sp ds S Qd → codeAny (model P w) A (.call (.ref f) args) (CR CX0 outer P w H s (CED K G S H Qd) E0) s
theorem FnD.mono {P : Program} {w : World} {K : PySem.W.Frag} {mg : Str → Option Value} {base : Heap} {j k : Nat} {f : Addr} {fd : FuncData} {ps : List Str} {sp : SpD} (F : FnD P w K mg base j f fd ps sp) (h : j ≤ k) : FnD P w K mg base k f fd ps sp :=
  ⟨F.len, fun A outer s H args us vs ds G S Qd hr => F.run A outer s H args us vs ds G S Qd (hr.mono h)⟩
theorem FnD.imp {P : Program} {w : World} {K : PySem.W.Frag} {mg : Str → Option Value} {base : Heap} {k : Nat} {f : Addr} {fd : FuncData} {ps : List Str} {sp sp' : SpD} (F : FnD P w K mg base k f fd ps sp) (h : ∀ ds S Q, sp' ds S Q → sp ds S Q) : FnD P w K mg base k f fd ps sp' :=
  ⟨fun ds S Q q => F.len ds S Q (h _ _ _ q), fun A outer s H args us vs ds G S Qd hr e b v r rh q => F.run A outer s H args us vs ds G S Qd hr e b v r rh (h _ _ _ q)⟩

/-- a def of the module by its name -/
structure Has (P : Program) (w : World) (K : PySem.W.Frag) (mg : Str → Option Value) (base : Heap) (k : Nat) (x : Str) (ps : List Str) (sp : SpD) : Prop where
  ex : ∃ f fd, mg x = some (.ref f) ∧ PySem.W.keepIn K (.ref f) = true ∧ Binds K fd ps [] ∧ FnD P w K mg base k f fd ps sp
theorem Has.mono {P : Program} {w : World} {K : PySem.W.Frag} {mg : Str → Option Value} {base : Heap} {j k : Nat} {x : Str} {ps : List Str} {sp : SpD} (h : Has P w K mg base j x ps sp) (l : j ≤ k) : Has P w K mg base k x ps sp :=
  let ⟨f, fd, a, b, c, d⟩ := h.ex; ⟨f, fd, a, b, c, d.mono l⟩
theorem Has.imp {P : Program} {w : World} {K : PySem.W.Frag} {mg : Str → Option Value} {base : Heap} {k : Nat} {x : Str} {ps : List Str} {sp sp' : SpD} (h : Has P w K mg base k x ps sp) (i : ∀ ds S Q, sp' ds S Q → sp ds S Q) : Has P w K mg base k x ps sp' :=
  let ⟨f, fd, a, b, c, d⟩ := h.ex; ⟨f, fd, a, b, c, d.imp i⟩

def tCallD (sp : SpD) (ta : TAD) : TED := fun σ S Q => ta σ S fun ds S1 => sp ds S1 Q
section
variable {X : Cx} {k : Nat} {f : Addr} {fd : FuncData} {ps : List Str} {sp : SpD} {x : Str} {p pos : Pos} {e : Expr} {es : List Expr} {ta : TAD}
/-- the callee runs, from a body -/
theorem run_fnD {pins : List (Addr × Obj)} {σ : L2.St} {H : Hp} {s : Shared} {us : List Value} {vs : List V} {ds : List D} {G : Addr → Prop} {S : HD} {Qd : QD} {Q : VK}
    (F : FnD X.prog X.w X.K X.mg X.base k f fd ps sp) (hr : RoomG k X.A) (hb : Binds X.K fd ps []) (I : Inv X pins σ H s) (r : Vals vs us) (q : RDs X.K G S H ds vs) (rh : RH X.K G S H) (h : sp ds S Qd) (p : Post X.K G S H Qd Q) :
    wpAny (model X.prog X.w) X.A (call (.ref f) us) (EP X pins σ Q) X.xe s := by
  have hl : us.length = ps.length := by
    have h1 := F.len _ _ _ h
    have h2 := q.length
    have h3 := r.length
    omega
  have hb' := hb s us I.kIn (by rw [List.append_nil]; exact hl)
  rw [List.append_nil] at hb'
  refine wpAny_call (codeAny_mono (F.run X.A X.stack s H ⟨us, []⟩ us vs ds G S Qd hr I.env0 hb' r q rh h) fun z s' hq => ?_)
  cases z with
  | error e => exact False.elim hq
  | ok fl =>
    cases fl with
    | ret u =>
      have hq' : CE X.stack X.prog X.w H s Q u s' := by
        obtain ⟨v, H', h1, h2, h3, h4, h5, S', d, f', rh', rd', qd⟩ := hq
        exact ⟨v, H', h1, h2, h3, h4, h5, p S' d v H' f' rh' rd' qd⟩
      exact I.after hq'
    | next => exact False.elim hq
    | brk => exact False.elim hq
    | cont => exact False.elim hq
theorem de_call (h : Has X.prog X.w X.K X.mg X.base k x ps sp) (hr : RoomG k X.A) (ha : DA X (e :: es) ta) (hg : Gl X x := by rfl) (hdb : (x == ("__debug__" : Str)) = false := by decide)
    (he : starEach (e :: es) X.env = (false, eval e X.env) :: starEach es X.env := by rfl) (hpl : (backTo pos (starEach es X.env)).any (·.1) = false := by rfl) :
    DE X (.Call (.Name x p) (e :: es) [] pos) (tCallD sp ta) := by
  obtain ⟨f, fd, hm, hk, hb, F⟩ := h.ex
  refine ⟨fun pins s σ H Q I ⟨G, σd, S, Qd, rs, rh, t, p⟩ => ?_⟩
  refine wpAny_Call_Name_kw (ld_glob I hg hm ?_ hdb)
  have hA := ha.run pos pins s σ H (fun vs H1 => ∃ S1 ds, FL S H S1 H1 ∧ RH X.K G S1 H1 ∧ RDs X.K G S1 H1 ds vs ∧ sp ds S1 Qd) I ⟨G, σd, S, _, rs, rh, t, fun S1 ds vs H1 f1 rh1 q1 t1 => ⟨S1, ds, f1, rh1, q1, t1⟩⟩
  refine PySem.W.callWith_K (h₀ := X.base) I.ok.mod.kin hk ?_ he hpl
  refine thn hA fun us s1 hus => ?_
  obtain ⟨vs, H1, I1, r, S1, ds, f1, rh1, q1, t1⟩ := hus
  exact ⟨I1.kIn, run_fnD F hr hb I1 r q1 rh1 t1 (p.fl f1)⟩
theorem de_call0 (h : Has X.prog X.w X.K X.mg X.base k x ps sp) (hr : RoomG k X.A) (hg : Gl X x := by rfl) (hdb : (x == ("__debug__" : Str)) = false := by decide) : DE X (.Call (.Name x p) [] [] pos) (tCallD sp tNilD) := by
  obtain ⟨f, fd, hm, hk, hb, F⟩ := h.ex
  refine ⟨fun pins s σ H Q I ⟨G, σd, S, Qd, rs, rh, t, p⟩ => ?_⟩
  refine wpAny_Call_Name_kw (ld_glob I hg hm ?_ hdb)
  exact PySem.W.callWith_K0 I.kIn hk (run_fnD (us := []) F hr hb I .nil .nil rh t p)
end

/-! ### a def by its body -/
/-- the same value, told otherwise -/
def Cv (d : D) (S : HD) (d' : D) (S' : HD) : Prop := ∀ (K : PySem.W.Frag) (G : Addr → Prop) (H : Hp) (v : V), RH K G S H → RD K G S H d v → RH K G S' H ∧ FL S H S' H ∧ RD K G S' H d' v
theorem Cv.le {d : D} {S S' : HD} (l : HLe S' S) : Cv d S d S' := fun K G H v r q => ⟨r.le l, l.fl, q.mv l.mv⟩
theorem Cv.trans {d d1 d2 : D} {S S1 S2 : HD} (a : Cv d S d1 S1) (b : Cv d1 S1 d2 S2) : Cv d S d2 S2 := fun K G H v r q =>
  let ⟨r1, f1, q1⟩ := a K G H v r q; let ⟨r2, f2, q2⟩ := b K G H v r1 q1; ⟨r2, f1.trans f2, q2⟩
/-- a tracked list is frozen -/
theorem del_le (S : HD) (a : Addr) : HLe (S.del a) S := ⟨fun b u z => by
  unfold HD.del at z
  by_cases hb : b = a
  · simp [hb] at z
  · simpa [hb] using z, Nat.le_refl _, rfl⟩
theorem Cv.frz {a : Addr} {S : HD} {xs : List D} (h : S.hp a = some (.lst xs)) : Cv (.ref a) S (.lst xs) (S.del a) := fun K G H v r q => by
  obtain ⟨h1, h2, vs, h3, h4⟩ := r.hp a _ h
  cases q
  exact ⟨r.le (del_le S a), (del_le S a).fl, .lst (.inl ⟨⟨by simp [HD.del], fun z => h1 ((del_le S a).dkE.mp z), h2⟩, .inl h3⟩) (h4.mv (del_le S a).mv)⟩
/-- the end of a body: what is not wanted any more is forgotten -/
def fin (Q : QD) : QD := fun d S => ∃ S' d', Cv d S d' S' ∧ Q d' S'
theorem fin.le {Q : QD} {d : D} {S S' : HD} (l : HLe S S') (q : Q d S) : fin Q d S' := ⟨S, d, .le l, q⟩
theorem fin.frz {Q : QD} {a : Addr} {S S' : HD} {xs : List D} (h : S'.hp a = some (.lst xs)) (l : HLe S (S'.del a)) (q : Q (.lst xs) S) : fin Q (.ref a) S' := ⟨S, _, (Cv.frz h).trans (.le l), q⟩
def pad : Nat → List D → SD
  | 0, _ => []
  | n + 1, [] => none :: pad n []
  | n + 1, d :: r => some d :: pad n r
theorem pad_len : ∀ (n : Nat) (ds : List D), (pad n ds).length = n
  | 0, _ => rfl
  | n + 1, [] => by simp [pad, pad_len n []]
  | n + 1, d :: r => by simp [pad, pad_len n r]
theorem pad_nil (n : Nat) {i : Nat} {d : D} : (pad n [])[i]? ≠ some (some d) := by
  induction n generalizing i with
  | zero => simp [pad]
  | succ n ih =>
    cases i with
    | zero => simp [pad]
    | succ i => simpa [pad] using ih
theorem pad_slots {K : PySem.W.Frag} {G : Addr → Prop} {S : HD} {H : Hp} : ∀ {n : Nat} {ds : List D} {vs : List V} {i : Nat} {d : D}, RDs K G S H ds vs → (pad n ds)[i]? = some (some d) → ∃ v, vs[i]? = some v ∧ RD K G S H d v
  | 0, _, _, _, _, _, e => by simp [pad] at e
  | n + 1, [], _, i, d, _, e => (pad_nil (n + 1) e).elim
  | n + 1, _ :: _, _, 0, d, .cons q r, e => by
    simp [pad] at e
    subst e
    exact ⟨_, rfl, q⟩
  | n + 1, _ :: _, _, i + 1, d, .cons q r, e => by
    obtain ⟨v, h1, h2⟩ := pad_slots (n := n) (i := i) r (by simpa [pad] using e)
    exact ⟨v, by simpa using h1, h2⟩
section
variable {P : Program} {w : World} {K : PySem.W.Frag} {mg : Str → Option Value} {base : Heap}
/-- the core: the body's reading starts at a state and deep values that tell the same, and ends at what gives the call's end -/
theorem FnD.core {x qual : Str} {st : Stmt} {f : Addr} {fd : FuncData} {N ps : List Str} {k : Nat} {sp : SpD} (F : Fun K x qual st f fd) (Sc : FnScope N ps (defScope st)) (t : TSD) (len : ∀ ds S Q, sp ds S Q → ds.length = ps.length)
    (hd : ∀ (cdv : Value) (A : Around) (outer : List Env) (s : Shared) (H : Hp), RoomG k (A.deeper (envOfC qual (defScope st) s.heap.objs.size f cdv)) →
      DSs (cxOf CX0 P w K mg base N qual (defScope st) f cdv A outer s H E0).nox (defBody st) t)
    (hq : ∀ ds S Qd, sp ds S Qd → ∀ G H vs, RH K G S H → RDs K G S H ds vs → ∃ ds' S0 Dd, RH K G S0 H ∧ RDs K G S0 H ds' vs ∧ t Dd (pad N.length ds') S0 ∧
      (∀ S' d v H', FL S0 H S' H' → RH K G S' H' → RD K G S' H' d v → Dd.rt d S' → CED K G S H Qd v H') ∧ (∀ S' σd H', FL S0 H S' H' → RH K G S' H' → Dd.nx σd S' → CED K G S H Qd .non H') ∧ (∀ σd S', ¬ Dd.bk σd S') ∧ (∀ σd S', ¬ Dd.ct σd S') ∧ ∀ C σd S', ¬ Dd.xr C σd S') : FnD P w K mg base (k + 1) f fd ps sp := by
  obtain ⟨oc, od, kV, doc, pm, an, cdv, ct, osl, rfl, lk, hcd⟩ := F.ex
  refine ⟨len, fun A outer s H args us vs ds G S Qd hr e0 hb r rd rh hsp => ?_⟩
  have hl : vs.length = ps.length := rd.length.symm.trans (len _ _ _ hsp)
  have KX : K.In s.heap := e0.mod.kin.keeps fun b o e => (e0.bs b o e).1
  have lim : s.heap.NoLimit := e0.mod.nolimit.keeps fun b o e => (e0.bs b o e).1
  refine codeAny_call_function hr.rm.depth (KX _ _ lk) rfl Sc.co Sc.gen rfl (PySem.W.codeRec_of KX hcd) (hb _ _ _ _ ?_)
  have hkind : ∀ y ∈ ps.zip us, (defScope st).names.lookup y.1 = some .local ∨ ((defScope st).names.lookup y.1 = some .cell ∧ ((cellsFrom (s.heap.objs.size + 1) (defScope st).names []).lookup y.1).isSome = true) := by
    rintro ⟨n, v⟩ hy
    exact (Sc.par n (List.of_mem_zip hy).1).imp id fun q => ⟨q, PySem.W.cellsFrom_some _ _ _ (.inl q)⟩
  refine wpAny_newFunctionEnv_cells Sc.kind hkind fun env he s1 x1 => ?_
  subst he
  refine ⟨lim.keeps x1.toInCall.keep, codeAny_func ?_⟩
  have I := inv_start (CX := CX0) (E := E0) Sc hr.rm.hd e0 hl r x1
  have ht := hd cdv A outer s H (hr.deeper _)
  obtain ⟨ds', S0, Dd, rh0, rd0, hq0, hrt, hnx, hbk, hct, hxr⟩ := hq ds S Qd hsp G H vs rh rd
  have start_ok : RSl K G S0 H (pad N.length ds') (L2.start N vs) := by
    refine ⟨?_, fun i d e => ?_⟩
    · rw [pad_len]
      unfold L2.start
      have hpl : ps.length ≤ N.length := by have := congrArg List.length Sc.pre; rw [List.length_take] at this; omega
      simp
      omega
    · obtain ⟨v, h1, h2⟩ := pad_slots rd0 e
      refine ⟨v, ?_, h2⟩
      unfold L2.start
      have hi : i < vs.length := (List.getElem?_eq_some_iff.mp h1).1
      rw [List.getElem?_append_left (by simpa using hi), List.getElem?_map, h1]
      rfl
  refine wpAny_mono (ht.run [] s1 (L2.start N vs) H { nx := fun _ H' => CED K G S H Qd .non H', rt := CED K G S H Qd } (I.wish _) ⟨G, _, S0, Dd, start_ok, rh0, hq0, ?_, ?_, ?_, ?_, ?_⟩) (fun fl s' hs => ?_) fun e s' hs => False.elim hs
  · exact fun S' σd σ H' f' rh' rs' q => hnx S' σd H' f' rh' q
  · exact fun S' d v H' f' rh' rd' q => hrt S' d v H' f' rh' rd' q
  · exact fun S' σd σ H' f' rh' rs' q => (hbk _ _ q).elim
  · exact fun S' σd σ H' f' rh' rs' q => (hct _ _ q).elim
  · exact fun C S' σd σ H' f' rh' rs' q => (hxr _ _ _ q).elim
  · cases fl with
    | ret u =>
      obtain ⟨v, σ', H', J, rv, q⟩ := hs
      exact ⟨v, H', J.os, J.bare, J.base, J.hok, rv, q⟩
    | next =>
      obtain ⟨σ', H', J, q⟩ := hs
      exact ⟨V.non, H', J.os, J.bare, J.base, J.hok, rfl, q⟩
    | brk => obtain ⟨_, _, _, q⟩ := hs; exact False.elim q
    | cont => obtain ⟨_, _, _, q⟩ := hs; exact False.elim q
theorem FnD.of {x qual : Str} {st : Stmt} {f : Addr} {fd : FuncData} {N ps : List Str} {k : Nat} {sp : SpD} (F : Fun K x qual st f fd) (Sc : FnScope N ps (defScope st)) (t : TSD) (len : ∀ ds S Q, sp ds S Q → ds.length = ps.length)
    (hd : ∀ (cdv : Value) (A : Around) (outer : List Env) (s : Shared) (H : Hp), RoomG k (A.deeper (envOfC qual (defScope st) s.heap.objs.size f cdv)) →
      DSs (cxOf CX0 P w K mg base N qual (defScope st) f cdv A outer s H E0).nox (defBody st) t)
    (hq : ∀ ds S Qd, sp ds S Qd → t { nx := fun _ S' => fin Qd .non S', rt := fin Qd } (pad N.length ds) S) : FnD P w K mg base (k + 1) f fd ps sp := by
  refine FnD.core F Sc t len hd fun ds S Qd hsp G H vs rh rd => ⟨ds, S, { nx := fun _ S' => fin Qd .non S', rt := fin Qd }, rh, rd, hq ds S Qd hsp, ?_, ?_, fun _ _ h => h, fun _ _ h => h, fun _ _ _ h => h⟩
  · exact fun S' d v H' f' rh' rd' ⟨S2, d2, cv, q⟩ => let ⟨r2, f2, q2⟩ := cv K G H' v rh' rd'; ⟨S2, d2, f'.trans f2, r2, q2, q⟩
  · exact fun S' σd H' f' rh' ⟨S2, d2, cv, q⟩ => let ⟨r2, f2, q2⟩ := cv K G H' .non rh' .non; ⟨S2, d2, f'.trans f2, r2, q2, q⟩
/-- by its name -/
theorem Has.of {x : Str} {st : Stmt} {f : Addr} {fd : FuncData} {ps : List Str} {k : Nat} {sp : SpD} (F : Fun K x x st f fd) (hm : mg x = some (.ref f)) (hb : Binds K fd ps []) (h : FnD P w K mg base k f fd ps sp) : Has P w K mg base k x ps sp :=
  ⟨⟨f, fd, hm, F.kp, hb, h⟩⟩
end

/-! ### comprehensions -/
/-- over the items: what is made so far -/
def lcD (g : TGD) (tt : TTD) (te : TED) (σ : SD) (keep : HD → Prop) (Q : List D → HD → Prop) : List D → List D → HD → Prop
  | [], acc, S => keep S ∧ Q acc S
  | d :: r, acc, S => keep S ∧ g d σ S fun σ2 S2 => tt σ2 S2 fun b S3 => if b = true then te σ2 S3 fun y S4 => lcD g tt te σ keep Q r (acc ++ [y]) S4 else lcD g tt te σ keep Q r acc S3
def tYesD : TTD := fun _ S Q => Q true S
abbrev DTs (X : Cx) (ifs : List Expr) (t : TTD) : Prop := PTs X ifs (upT X.K t)
theorem _root_.L2.PTs.imp {X : Cx} {e : List Expr} {t t' : TT} (h : PTs X e t) (i : ∀ σ H Q, t' σ H Q → t σ H Q) : PTs X e t' := ⟨fun pins s σ H Q I q => h.run pins s σ H Q I (i _ _ _ q)⟩
theorem dts_nil {X : Cx} : DTs X [] tYesD := pts_nil.imp fun σ H Q ⟨G, σd, S, Qd, rs, rh, t, p⟩ => p.here rh t
theorem dts_one {X : Cx} {c : Expr} {t : TTD} (h : DT X c t) : DTs X [c] t := pts_one h
def tLcV (ti : TID) (g : TGD) (tt : TTD) (te : TED) (vs : List Nat) : TED := fun σ S Q => ti σ S fun xs keep S1 => xs.length ≤ sizeLine ∧ lcD g tt te (wipeD σ vs) keep (fun acc S2 => Q (.lst acc) S2) xs [] S1
def tLcR (ti : TID) (g : TGD) (tt : TTD) (te : TED) (vs : List Nat) : TED := fun σ S Q => ti σ S fun xs keep S1 => xs.length ≤ sizeLine ∧ lcD g tt te (wipeD σ vs) keep (fun acc S2 => ∀ p, S2.hp p = none → Q (.ref p) (S2.set p (.lst acc))) xs [] S1
/-- targets that store into the block's own slots alone -/
def upGw (K : PySem.W.Frag) (ws : List Nat) (t : TGD) : TG := fun v σ H Q => ∃ G σd S d Qd, RSl K G S H σd σ ∧ RH K G S H ∧ RD K G S H d v ∧ t d σd S Qd ∧ ∀ S' σd' σ' H', FL S H S' H' → RH K G S' H' → RSl K G S' H' σd' σ' → wipe σ' ws = wipe σ ws → Qd σd' S' → Q σ' H'
def upGsw (K : PySem.W.Frag) (ws : List Nat) (t : TGsD) : TGs := fun vs σ H Q => ∃ G σd S ds Qd, RSl K G S H σd σ ∧ RH K G S H ∧ RDs K G S H ds vs ∧ t ds σd S Qd ∧ ∀ S' σd' σ' H', FL S H S' H' → RH K G S' H' → RSl K G S' H' σd' σ' → wipe σ' ws = wipe σ ws → Qd σd' S' → Q σ' H'
abbrev DGw (X : Cx) (ws : List Nat) (tg : Expr) (t : TGD) : Prop := PG X tg (upGw X.K ws t)
abbrev DGsw (X : Cx) (ws : List Nat) (tg : List Expr) (t : TGsD) : Prop := PGs X tg (upGsw X.K ws t)
theorem wipe_set {i : Nat} {v : Option V} : ∀ {ws : List Nat} {σ : L2.St}, i ∈ ws → wipe (σ.set i v) ws = wipe σ ws
  | [], _, h => by cases h
  | w :: ws, σ, h => by
    unfold wipe
    by_cases hw : i ∈ ws
    · rw [wipe_set hw]
    · obtain rfl : i = w := by
        rcases List.mem_cons.mp h with e | e
        · exact e
        · exact absurd e hw
      have : ∀ (us : List Nat) (τ : L2.St), i ∉ us → wipe (τ.set i v) us = (wipe τ us).set i v := by
        intro us
        induction us with
        | nil => intro τ _; rfl
        | cons u us ih =>
          intro τ hu
          unfold wipe
          rw [ih τ (fun z => hu (List.mem_cons_of_mem _ z)), List.set_comm _ _ (fun z => hu (by rw [z]; exact List.mem_cons_self))]
      rw [this ws σ hw, List.set_set]
theorem dgw_name {X : Cx} (i : Nat) {ws : List Nat} {e : Expr} (hw : i ∈ ws) (h : PG X e (gName i)) : DGw X ws e (gNameD i) :=
  h.imp fun v σ H Q ⟨G, σd, S, d, Qd, rs, rh, q, t, p⟩ => p S _ _ H (.refl _ _) rh (by rw [st_eq]; exact rs.set q i) (wipe_set hw) t
theorem dgsw_nil {X : Cx} {ws : List Nat} : DGsw X ws [] gNilD := pgs_nil.imp fun vs σ H Q ⟨G, σd, S, ds, Qd, rs, rh, q, ⟨e, t⟩, p⟩ => by
  subst e
  cases q
  exact ⟨rfl, p S _ _ H (.refl _ _) rh rs rfl t⟩
theorem dgsw_cons {X : Cx} {ws : List Nat} {e : Expr} {es : List Expr} {t : TGD} {u : TGsD} (h1 : DGw X ws e t) (h2 : DGsw X ws es u)
    (hs : (assignEach (e :: es) X.env).map (·.2) = assign e X.env :: (assignEach es X.env).map (·.2) := by rfl) : DGsw X ws (e :: es) (gConsD t u) :=
  (pgs_cons h1 h2 hs).imp fun vs σ H Q ⟨G, σd, S, ds, Qd, rs, rh, q, tt, p⟩ => by
    cases q with
    | nil => exact tt.elim
    | cons q qs =>
      exact ⟨_, _, rfl, G, σd, S, _, _, rs, rh, q, tt, fun S1 σd1 σ1 H1 f1 rh1 rs1 w1 q1 => ⟨G, σd1, S1, _, Qd, rs1, rh1, qs.fl f1, q1, fun S2 σd2 σ2 H2 f2 rh2 rs2 w2 q2 => p S2 σd2 σ2 H2 (f1.trans f2) rh2 rs2 (w2.trans w1) q2⟩⟩
theorem dgw_tup {X : Cx} {ws : List Nat} {es : List Expr} {k : Nat} {t : TGsD} {n : Nat} {pos : Pos} (hc : X.calm = true) (h : DGsw X ws es t)
    (hn : (assignEach es X.env).length = n := by rfl) (hst : (assignEach es X.env).findIdx? (·.1) = none := by rfl) : DGw X ws (.Tuple es k pos) (gTupD n t) :=
  (pg_tup hc h hn hst).imp fun v σ H Q ⟨G, σd, S, d, Qd, rs, rh, q, tt, p⟩ => by
    cases q with
    | @tup a vs ds h r =>
      obtain ⟨l, tt⟩ := tt
      exact ⟨a, vs, rfl, h.sq, r.length ▸ l, G, σd, S, _, _, rs, rh, r, tt, p⟩
    | _ => exact tt.elim

section
variable {K : PySem.W.Frag} {G : Addr → Prop} {S : HD} {H : Hp}
def Res (G : Addr → Prop) (p : Addr) : Addr → Prop := fun b => G b ∨ b = p
/-- a place that is held back may change: nothing names it -/
theorem res_mv {p : Addr} {o : HO} : Mv (Res G p) S H (Res G p) S (upd H p o) := ⟨fun a u e z => ⟨z, by rw [upd_ne (fun q => z.2.2 (.inr q))]; exact e⟩, fun _ e => e⟩
theorem RH.res (r : RH K G S H) {p : Addr} (h : H p = none) (o : HO) : RH K (Res G p) S (upd H p o) where
  hp := fun a u e => by
    obtain ⟨h1, h2, h3⟩ := (r.grow (Grow.upd h (o := o))).hp a u e
    have ne : a ≠ p := fun z => by rw [z, (r.fresh h).1] at e; cases e
    refine ⟨h1, fun z => z.elim h2 ne, ?_⟩
    obtain ⟨_, _, h3'⟩ := r.hp a u e
    exact h3'.mv (m := ⟨fun b w q z => by
      have nb := ne_of_none q h
      exact ⟨⟨z.1, z.2.1, fun g => g.elim z.2.2 nb⟩, by rw [upd_ne nb]; exact q⟩, fun _ q => q⟩) (upd_ne ne)
  rs := fun a g => by
    rcases g with g | g
    · obtain ⟨⟨u, e⟩, d⟩ := r.rs a g
      exact ⟨⟨u, (Grow.upd h).kp a u e⟩, d⟩
    · subst g
      exact ⟨⟨o, upd_same⟩, (r.fresh h).2.1⟩
  dk := (r.grow (Grow.upd h (o := o))).dk
/-- into the block -/
theorem res_in {p : Addr} {o : HO} (h : H p = none) : Mv G S H (Res G p) S (upd H p o) := ⟨fun b w q z => by
  have nb := ne_of_none q h
  exact ⟨⟨z.1, z.2.1, fun g => g.elim z.2.2 nb⟩, by rw [upd_ne nb]; exact q⟩, fun _ q => q⟩
/-- the held place is written -/
theorem RH.resW (r : RH K (Res G p) S H) (o : HO) : RH K (Res G p) S (upd H p o) where
  hp := fun a u e => by
    obtain ⟨h1, h2, h3⟩ := r.hp a u e
    exact ⟨h1, h2, h3.mv res_mv (upd_ne fun z => h2 (.inr z))⟩
  rs := fun a g => by
    obtain ⟨⟨u, e⟩, d⟩ := r.rs a g
    by_cases ha : a = p
    · subst ha; exact ⟨⟨o, upd_same⟩, d⟩
    · exact ⟨⟨u, by rw [upd_ne ha]; exact e⟩, d⟩
  dk := fun a b e => by
    obtain ⟨h1, h2, h3, cs, n, h4, h5, h6⟩ := r.dk a b e
    have hp := (r.rs p (.inr rfl)).2
    have na : a ≠ p := fun z => hp ⟨_, e, .inl z.symm⟩
    have nb : b ≠ p := fun z => hp ⟨_, e, .inr z.symm⟩
    exact ⟨h1, h2, h3, cs, n, by rw [upd_ne na]; exact h4, by rw [upd_ne nb]; exact h5, h6⟩
/-- out of the block: the place is free to be named -/
theorem res_out {p : Addr} : Mv (Res G p) S H G S H := ⟨fun a o e z => ⟨⟨z.1, z.2.1, fun g => z.2.2 (.inl g)⟩, e⟩, fun _ e => e⟩
theorem RH.resOut (r : RH K (Res G p) S H) : RH K G S H where
  hp := fun a u e => by
    obtain ⟨h1, h2, h3⟩ := r.hp a u e
    exact ⟨h1, fun g => h2 (.inl g), h3.mv res_out rfl⟩
  rs := fun a g => r.rs a (.inl g)
  dk := r.dk
theorem RH.resFree (r : RH K (Res G p) S H) : S.hp p = none ∧ ¬ Dk S p := by
  refine ⟨?_, (r.rs p (.inr rfl)).2⟩
  cases e : S.hp p with
  | none => rfl
  | some o => exact ((r.hp p o e).2.1 (.inr rfl)).elim
end

section
variable {X : Cx} {elt tg iter : Expr} {ifs : List Expr} {scope : Scope} {own : List (Str × Nat)} {pos : Pos} {ti : TID} {g : TGD} {tt : TTD} {te : TED}
theorem FL.updp {S S' : HD} {H H' : Hp} {p : Addr} {o : HO} (f : FL S H S' H') (h : H p = none) : FL S H S' (upd H' p o) :=
  ⟨fun a u e n d => let ⟨n', d', e'⟩ := f.kp a u e n d; ⟨n', d', by rw [upd_ne (ne_of_none e h)]; exact e'⟩, f.dk⟩
/-- the loop of a comprehension, by the reading; Qf: what is wanted of the list at p -/
theorem lc_up {K : PySem.W.Frag} {vs : List Nat} {G : Addr → Prop} {S1 : HD} {H1 : Hp} {σd : SD} {σ : L2.St} {J : It} {xs : List D} {keep : HD → Prop} {Qd : List D → HD → Prop} {Q : VK}
    (rs1 : RSl K G S1 H1 σd σ) (rh1 : RH K G S1 H1) (hJ : ∀ G' S2 H2, Mv G S1 H1 G' S2 H2 → RH K G' S2 H2 → ItOk K G' S2 H2 J xs keep) (hz : xs.length ≤ sizeLine)
    (t : lcD g tt te (wipeD σd vs) keep Qd xs [] S1) {p : Addr} (hp : H1 p = none)
    (fin : ∀ S2 H2 accd acc, FL S1 H1 S2 H2 → RH K (Res G p) S2 H2 → H2 p = some (.lst acc) → RDs K (Res G p) S2 H2 accd acc → Qd accd S2 → Q (.ref p) H2) :
    ∃ W : Nat → Nat → Hp → Prop, (∃ m, W 0 m (upd H1 p (.lst []))) ∧ ∀ i m H, W i m H →
      (J.stop i H ∧ Q (.ref p) H) ∨ (J.go i H ∧ ∃ Nx : Hp → Prop, (∀ H', Nx H' → ∃ m', m' < m ∧ W (i + 1) m' H') ∧ ∀ x H', J.yld i H x H' → upGw K vs g x (wipe σ vs) H' fun σ2 H2 => wipe σ2 vs = wipe σ vs ∧ upT K tt σ2 H2 fun b H3 =>
        if b = true then up K te σ2 H3 fun y H4 => ∃ acc, H4 p = some (.lst acc) ∧ acc.length < sizeLine ∧ Nx (upd H4 p (.lst (acc ++ [y]))) else Nx H3) := by
  have wipe2 : ∀ (us : List Nat) (τ : L2.St), wipe (wipe τ us) us = wipe τ us := by
    intro us τ
    have key : ∀ (ws : List Nat) (τ : L2.St), (∀ u ∈ us, u ∈ ws) → wipe (wipe τ us) ws = wipe τ ws := by
      induction us with
      | nil => intro ws τ _; rfl
      | cons u us ih =>
        intro ws τ h
        show wipe ((wipe τ us).set u none) ws = _
        rw [wipe_set (h u List.mem_cons_self)]
        exact ih ws τ fun v hv => h v (List.mem_cons_of_mem _ hv)
    exact key us τ fun _ h => h
  refine ⟨fun i m H => m = xs.length - i ∧ i ≤ xs.length ∧ ∃ S2 accd acc, FL S1 H1 S2 H ∧ RH K (Res G p) S2 H ∧ H p = some (.lst acc) ∧ RDs K (Res G p) S2 H accd acc ∧ RSl K (Res G p) S2 H (wipeD σd vs) (wipe σ vs) ∧ acc.length ≤ i ∧ lcD g tt te (wipeD σd vs) keep Qd (xs.drop i) accd S2,
    ⟨xs.length, by simp, Nat.zero_le _, S1, [], [], (Grow.upd hp).fl, rh1.res hp _, upd_same, .nil, (rs1.wipe vs).mv (res_in hp), Nat.zero_le _, t⟩, ?_⟩
  rintro i m H ⟨rfl, hi, S2, accd, acc, f2, rh2, hacc, racc, rsl2, hlen, t2⟩
  have ok := hJ (Res G p) S2 H ⟨fun a o e z => let ⟨n1, n2, n3⟩ := f2.kp a o e z.1 z.2.1; ⟨⟨n1, n2, fun g => g.elim z.2.2 (ne_of_none e hp)⟩, n3⟩, f2.dk⟩ rh2
  by_cases hlt : i < xs.length
  · have hx : xs[i]? = some xs[i] := by simp [hlt]
    rw [List.drop_eq_getElem_cons hlt] at t2
    obtain ⟨k2, t2⟩ := t2
    obtain ⟨go, yl⟩ := ok.go i _ S2 H hx (.refl _ _) rh2 k2
    refine .inr ⟨go, fun H' => ∃ S2 accd acc, FL S1 H1 S2 H' ∧ RH K (Res G p) S2 H' ∧ H' p = some (.lst acc) ∧ RDs K (Res G p) S2 H' accd acc ∧ RSl K (Res G p) S2 H' (wipeD σd vs) (wipe σ vs) ∧ acc.length ≤ i + 1 ∧ lcD g tt te (wipeD σd vs) keep Qd (xs.drop (i + 1)) accd S2, fun H' n => ⟨_, by omega, rfl, hlt, n⟩, fun x H3 y => ?_⟩
    obtain ⟨f3, rh3, q3⟩ := yl x H3 y
    have pk : ∀ {S5 : HD} {H5 : Hp}, FL S2 H S5 H5 → H5 p = some (.lst acc) := fun {S5 H5} f => (f.kp p _ hacc (RH.resFree rh2).1 (RH.resFree rh2).2).2.2
    refine ⟨Res G p, _, S2, _, _, rsl2.fl f3, rh3, q3, t2, fun S4 σd4 σ4 H4 f4 rh4 rs4 w4 t4 => ⟨?_, ?_⟩⟩
    · rw [wipe2] at w4; exact w4
    refine ⟨Res G p, σd4, S4, _, rs4, rh4, t4, fun S5 b H5 f5 rh5 t5 => ?_⟩
    have f25 := f3.trans (f4.trans f5)
    have f15 := f2.trans f25
    cases b with
    | false =>
      refine iteF ?_
      rw [if_neg Bool.false_ne_true] at t5
      exact ⟨S5, accd, acc, f15, rh5, pk f25, racc.fl f25, rsl2.fl f25, Nat.le_succ_of_le hlen, t5⟩
    | true =>
      refine iteT ?_
      rw [if_pos rfl] at t5
      refine ⟨Res G p, σd4, S5, _, rs4.fl f5, rh5, t5, fun S6 d v H6 f6 rh6 q6 t6 => ?_⟩
      have f26 := f25.trans f6
      refine ⟨acc, pk f26, by omega, S6, accd ++ [d], acc ++ [v], (f2.trans f26).updp hp, rh6.resW _, upd_same, ((racc.fl f26).append (.cons q6 .nil)).mv res_mv, (rsl2.fl f26).mv res_mv, by simp; omega, t6⟩
  · have e : i = xs.length := by omega
    subst e
    rw [List.drop_length] at t2
    exact .inl ⟨ok.stop S2 H (.refl _ _) rh2 t2.1, fin S2 H accd acc f2 rh2 hacc racc t2.2⟩
theorem de_lcV (hN : X.N.Nodup) (hi : DI X tg iter ti) (ok : BlkOk X.N X.env.scope scope own)
    (hg : ∀ (s : Shared) (H : Hp) (C : Addr) (cl : List (Str × Addr)) (fp : List Addr), DGw (X.blk s H scope (compEnvC scope cl C X.env) fp) (own.map (·.2)) tg g) (ht : ∀ (s : Shared) (H : Hp) (C : Addr) (cl : List (Str × Addr)) (fp : List Addr), DTs (X.blk s H scope (compEnvC scope cl C X.env) fp) ifs tt)
    (he : ∀ (s : Shared) (H : Hp) (C : Addr) (cl : List (Str × Addr)) (fp : List Addr), DE (X.blk s H scope (compEnvC scope cl C X.env) fp) elt te) (hc : X.calm = true := by rfl) (hs : ∀ x, foldedSetIterable iter X.env x = pure x := by intro _; rfl) :
    DE X (.ListComp elt [⟨tg, iter, ifs, 0⟩] scope pos) (tLcV ti g tt te (own.map (·.2))) :=
  (pe_lc hc hN hi ok hg ht he hs).imp fun σ H Q ⟨G, σd, S, Qd, rs, rh, t, p⟩ =>
    ⟨G, σd, S, _, rs, rh, t, fun S1 J xs keep H1 f1 rh1 hJ ⟨hz, t1⟩ q hq => lc_up (rs.fl f1) rh1 hJ hz t1 hq fun S2 H2 accd acc f2 rh2 hacc racc qd =>
      p S2 _ _ H2 (f1.trans f2) rh2.resOut (.lst (.inl ⟨⟨(RH.resFree rh2).1, (RH.resFree rh2).2, fun g => by
        obtain ⟨⟨o, e⟩, _⟩ := rh1.rs q g
        rw [hq] at e; cases e⟩, .inl hacc⟩) (racc.mv res_out)) qd⟩
theorem up_lcR {K : PySem.W.Frag} {vs : List Nat} {Q : VK} {Qd : QD} {G : Addr → Prop} {S : HD} {H : Hp} (rh : RH K G S H) (p : Post K G S H Qd Q) {S1 : HD} {H1 : Hp} (f1 : FL S H S1 H1) (rh1 : RH K G S1 H1) {q : Addr} (hq : H1 q = none)
    {S2 : HD} {H2 : Hp} {accd : List D} {acc : List V} (f2 : FL S1 H1 S2 H2) (rh2 : RH K (Res G q) S2 H2) (hacc : H2 q = some (.lst acc)) (racc : RDs K (Res G q) S2 H2 accd acc) (qd : ∀ p, S2.hp p = none → Qd (.ref p) (S2.set p (.lst accd))) : Q (.ref q) H2 := by
  have n2 := (RH.resFree rh2).1
  have d2 := (RH.resFree rh2).2
  have mv : Mv (Res G q) S2 H2 G (S2.set q (.lst accd)) H2 := ⟨fun a o e z => by
    have ne : a ≠ q := fun w => z.2.2 (.inr w)
    exact ⟨⟨by rw [HD.set_ne ne]; exact z.1, z.2.1, fun g => z.2.2 (.inl g)⟩, e⟩, fun _ e => e⟩
  have ngq : ¬ G q := fun g => by
    obtain ⟨⟨o, e⟩, _⟩ := rh1.rs q g
    rw [hq] at e; cases e
  have rh3 : RH K G (S2.set q (.lst accd)) H2 := by
    refine ⟨fun a u e => ?_, fun a g => rh2.rs a (.inl g), fun a b e => ?_⟩
    · by_cases ha : a = q
      · subst ha
        rw [HD.set_same] at e; cases e
        exact ⟨d2, ngq, acc, hacc, racc.mv mv⟩
      · rw [HD.set_ne ha] at e
        obtain ⟨h1, h2, h3⟩ := rh2.hp a u e
        exact ⟨h1, fun g => h2 (.inl g), h3.mv mv rfl⟩
    · obtain ⟨h1, h2, h3, h4⟩ := rh2.dk a b e
      have na : a ≠ q := fun z => d2 ⟨_, e, .inl z.symm⟩
      have nb : b ≠ q := fun z => d2 ⟨_, e, .inr z.symm⟩
      exact ⟨h1, by rw [HD.set_ne na]; exact h2, by rw [HD.set_ne nb]; exact h3, h4⟩
  have f3 : FL S1 H1 (S2.set q (.lst accd)) H2 := ⟨fun a o e n d => by
    obtain ⟨n', d', e'⟩ := f2.kp a o e n d
    exact ⟨by rw [HD.set_ne (ne_of_none e hq)]; exact n', d', e'⟩, f2.dk⟩
  exact p _ _ _ H2 (f1.trans f3) rh3 (.ref q) (qd q n2)
theorem de_lcR (hN : X.N.Nodup) (hi : DI X tg iter ti) (ok : BlkOk X.N X.env.scope scope own)
    (hg : ∀ (s : Shared) (H : Hp) (C : Addr) (cl : List (Str × Addr)) (fp : List Addr), DGw (X.blk s H scope (compEnvC scope cl C X.env) fp) (own.map (·.2)) tg g) (ht : ∀ (s : Shared) (H : Hp) (C : Addr) (cl : List (Str × Addr)) (fp : List Addr), DTs (X.blk s H scope (compEnvC scope cl C X.env) fp) ifs tt)
    (he : ∀ (s : Shared) (H : Hp) (C : Addr) (cl : List (Str × Addr)) (fp : List Addr), DE (X.blk s H scope (compEnvC scope cl C X.env) fp) elt te) (hc : X.calm = true := by rfl) (hs : ∀ x, foldedSetIterable iter X.env x = pure x := by intro _; rfl) :
    DE X (.ListComp elt [⟨tg, iter, ifs, 0⟩] scope pos) (tLcR ti g tt te (own.map (·.2))) :=
  (pe_lc hc hN hi ok hg ht he hs).imp fun σ H Q ⟨G, σd, S, Qd, rs, rh, t, p⟩ =>
    ⟨G, σd, S, _, rs, rh, t, fun S1 J xs keep H1 f1 rh1 hJ ⟨hz, t1⟩ q hq => lc_up (rs.fl f1) rh1 hJ hz t1 hq fun S2 H2 accd acc f2 rh2 hacc racc qd => up_lcR rh p f1 rh1 hq f2 rh2 hacc racc qd (vs := [])⟩
/-- name = [..] -/
theorem ds_setLcV (i : Nat) {y : Str} {py spos : Pos} (hN : X.N.Nodup) (hi : DI X tg iter ti) (ok : BlkOk X.N X.env.scope scope own)
    (hg : ∀ (s : Shared) (H : Hp) (C : Addr) (cl : List (Str × Addr)) (fp : List Addr), DGw (X.blk s H scope (compEnvC scope cl C X.env) fp) (own.map (·.2)) tg g) (ht : ∀ (s : Shared) (H : Hp) (C : Addr) (cl : List (Str × Addr)) (fp : List Addr), DTs (X.blk s H scope (compEnvC scope cl C X.env) fp) ifs tt)
    (he : ∀ (s : Shared) (H : Hp) (C : Addr) (cl : List (Str × Addr)) (fp : List Addr), DE (X.blk s H scope (compEnvC scope cl C X.env) fp) elt te) (hy : X.N[i]? = some y := by rfl) (hyl : X.env.scope.names.lookup y = some .local := by rfl)
    (hsw : swapsWith (.ListComp elt [⟨tg, iter, ifs, 0⟩] scope pos) (some (.Name y py)) spos.line X.env = pure true := by exact sw_true rfl rfl rfl (by decide +kernel)) (hc : X.calm = true := by rfl) (hs : ∀ x, foldedSetIterable iter X.env x = pure x := by intro _; rfl) :
    DS X (.Assign [.Name y py] (.ListComp elt [⟨tg, iter, ifs, 0⟩] scope pos) spos) (sAsgD (tLcV ti g tt te (own.map (·.2))) (gNameD i)) :=
  (ps_setLc hc hN hy hyl hsw hi ok hg ht he hs).imp fun E σ H ⟨G, σd, S, Dd, rs, rh, t, p⟩ =>
    ⟨G, σd, S, _, rs, rh, t, fun S1 J xs keep H1 f1 rh1 hJ ⟨hz, t1⟩ q hq => lc_up (Q := fun x H2 => gName i x σ H2 E.nx) (rs.fl f1) rh1 hJ hz t1 hq fun S2 H2 accd acc f2 rh2 hacc racc qd =>
      p.nx S2 _ _ H2 (f1.trans f2) rh2.resOut ((rs.fl (f1.trans f2)).set (d := .lst accd) (.lst (.inl ⟨⟨(RH.resFree rh2).1, (RH.resFree rh2).2, fun g => by
        obtain ⟨⟨o, e⟩, _⟩ := rh1.rs q g
        rw [hq] at e; cases e⟩, .inl hacc⟩) (racc.mv res_out)) i) (st_eq σd i _ ▸ qd)⟩
theorem ds_setLcR (i : Nat) {y : Str} {py spos : Pos} (hN : X.N.Nodup) (hi : DI X tg iter ti) (ok : BlkOk X.N X.env.scope scope own)
    (hg : ∀ (s : Shared) (H : Hp) (C : Addr) (cl : List (Str × Addr)) (fp : List Addr), DGw (X.blk s H scope (compEnvC scope cl C X.env) fp) (own.map (·.2)) tg g) (ht : ∀ (s : Shared) (H : Hp) (C : Addr) (cl : List (Str × Addr)) (fp : List Addr), DTs (X.blk s H scope (compEnvC scope cl C X.env) fp) ifs tt)
    (he : ∀ (s : Shared) (H : Hp) (C : Addr) (cl : List (Str × Addr)) (fp : List Addr), DE (X.blk s H scope (compEnvC scope cl C X.env) fp) elt te) (hy : X.N[i]? = some y := by rfl) (hyl : X.env.scope.names.lookup y = some .local := by rfl)
    (hsw : swapsWith (.ListComp elt [⟨tg, iter, ifs, 0⟩] scope pos) (some (.Name y py)) spos.line X.env = pure true := by exact sw_true rfl rfl rfl (by decide +kernel)) (hc : X.calm = true := by rfl) (hs : ∀ x, foldedSetIterable iter X.env x = pure x := by intro _; rfl) :
    DS X (.Assign [.Name y py] (.ListComp elt [⟨tg, iter, ifs, 0⟩] scope pos) spos) (sAsgD (tLcR ti g tt te (own.map (·.2))) (gNameD i)) :=
  (ps_setLc hc hN hy hyl hsw hi ok hg ht he hs).imp fun E σ H ⟨G, σd, S, Dd, rs, rh, t, p⟩ =>
    ⟨G, σd, S, _, rs, rh, t, fun S1 J xs keep H1 f1 rh1 hJ ⟨hz, t1⟩ q hq => lc_up (Q := fun x H2 => gName i x σ H2 E.nx) (rs.fl f1) rh1 hJ hz t1 hq fun S2 H2 accd acc f2 rh2 hacc racc qd =>
      up_lcR (Qd := fun d S2 => gNameD i d σd S2 Dd.nx) (Q := fun x H2 => gName i x σ H2 E.nx) (vs := []) rh (fun S3 d v H3 f3 rh3 q3 t3 => p.nx S3 _ _ H3 f3 rh3 ((rs.fl f3).set q3 i) (st_eq σd i d ▸ t3)) f1 rh1 hq f2 rh2 hacc racc qd⟩
end
end PD
end

section
/-! PD5: operators, items, slices, built-in calls over deep values; what a loop walks. -/
namespace PD
open PySem PySem.Spec PyProof.Rows L2

/-! ### sizes that every heap keeps -/
def Szs (K : PySem.W.Frag) (H : Hp) : Prop := (∀ a xs, SqL K H a xs → xs.length ≤ sizeLine) ∧ ∀ a xs, SqT K H a xs → xs.length ≤ sizeLine
theorem szs_of {X : Cx} {pins : List (Addr × Obj)} {σ : L2.St} {H : Hp} {s : Shared} (I : Inv X pins σ H s) : Szs X.K H :=
  ⟨fun a xs h => (I.list h).choose_spec.2.2, fun a xs h => (I.tuple h).choose_spec.2.2⟩
theorem _root_.L2.PE.szs {X : Cx} {e : Expr} {t : TE} (h : PE X e t) : PE X e (fun σ H Q => t σ H fun v H1 => Szs X.K H1 → Q v H1) :=
  ⟨fun pins s σ H Q I q => thn (h.run pins s σ H _ I q) fun u s1 ⟨v, H1, I1, r, q1⟩ => ⟨v, H1, I1, r, q1 (szs_of I1)⟩⟩

/-! ### a sequence, by its items -/
def asSeq (S : HD) : D → Option (List D)
  | .tup xs => some xs
  | .lst xs => some xs
  | .ref a => match S.hp a with
    | some (.lst xs) => some xs
    | _ => none
  | _ => none
def asLst (S : HD) : D → Option (List D)
  | .lst xs => some xs
  | .ref a => match S.hp a with
    | some (.lst xs) => some xs
    | _ => none
  | _ => none
section
variable {K : PySem.W.Frag} {G : Addr → Prop} {S : HD} {H : Hp}
theorem asLst_ok (rh : RH K G S H) {d : D} {v : V} {xs : List D} (h : asLst S d = some xs) (q : RD K G S H d v) : ∃ p vs, v = .ref p ∧ SqL K H p vs ∧ RDs K G S H xs vs := by
  cases q with
  | lst h1 r => cases h; exact ⟨_, _, rfl, h1.sq, r⟩
  | ref a =>
    simp only [asLst] at h
    split at h
    · rename_i ys e
      cases h
      obtain ⟨_, _, vs, e1, r⟩ := rh.hp a _ e
      exact ⟨a, vs, rfl, SqL.of e1, r⟩
    · cases h
  | _ => cases h
theorem asSeq_ok (rh : RH K G S H) {d : D} {v : V} {xs : List D} (h : asSeq S d = some xs) (q : RD K G S H d v) : ∃ p vs, v = .ref p ∧ (SqL K H p vs ∨ SqT K H p vs) ∧ RDs K G S H xs vs := by
  cases d with
  | tup ys =>
    cases h
    cases q with
    | tup h1 r => exact ⟨_, _, rfl, .inr h1.sq, r⟩
  | lst ys => obtain ⟨p, vs, e, h1, r⟩ := asLst_ok (xs := xs) rh (show asLst S (.lst ys) = some xs from h) q; exact ⟨p, vs, e, .inl h1, r⟩
  | ref a => obtain ⟨p, vs, e, h1, r⟩ := asLst_ok (xs := xs) rh (show asLst S (.ref a) = some xs from h) q; exact ⟨p, vs, e, .inl h1, r⟩
  | _ => cases h
end

/-! ### + - * // % ** -/
/-- list + list for any two lists that are read -/
def rCatK (K : PySem.W.Frag) : R2 := fun x y H Q => ∃ a b xs ys, x = .ref a ∧ y = .ref b ∧ SqL K H a xs ∧ SqL K H b ys ∧ xs.length + ys.length ≤ sizeLine ∧ ∀ p, H p = none → Q (.ref p) (upd H p (.lst (xs ++ ys)))
theorem op_catK {X : Cx} : OpR X (binaryOp .Add) (rCatK X.K) := by
  intro pins s σ H x y v u Q I rx ry h
  obtain ⟨a, b, xs, ys, rfl, rfl, ha, hb, hz, q⟩ := h
  cases rx
  cases ry
  obtain ⟨its, r1, p1, z1⟩ := I.list ha
  obtain ⟨its2, r2, p2, z2⟩ := I.list hb
  have l1 := r1.length
  have l2 := r2.length
  obtain ⟨⟨c1, dd1, dt1, sl1⟩, n1, e1, hc1, hd1, hdt1⟩ := p1
  obtain ⟨⟨c2, dd2, dt2, sl2⟩, n2, e2, hc2, hd2, hdt2⟩ := p2
  simp only at hc1 hd1 hdt1 hc2 hd2 hdt2
  subst hc1 hd1 hdt1 hc2 hd2 hdt2
  refine concat_meets ⟨_, e1, rfl⟩ ⟨_, e2, rfl⟩ noFill_list_add seq_list_add PySem.F.slot_list_add PySem.F.entry_list_add (PySem.F.args_list_add_2 _ _)
    (list_addW a b its.toArray its2.toArray n1 n2 none none sl1 sl2 (by simp only [List.size_toArray]; omega)) ⟨e1, e2, ?_⟩
  have ea : its.toArray ++ its2.toArray = (its ++ its2).toArray := by simp
  rw [ea]
  exact ⟨.ref _, _, I.lnew (t' := s.toks) (r1.append r2) (by rw [List.length_append]; exact hz), rfl, q _ I.fresh⟩
/-- ints, texts, tuples, lists -/
def rAddV (K : PySem.W.Frag) : R2 := fun x y H Q => (rI0 (fun i j => .int (i + j)) x y H Q) ∨ (∃ i j, x = .str i ∧ y = .str j ∧ i.length + j.length ≤ sizeLine ∧ Q (.str (i ++ j)) H) ∨ rCatA K x y H Q ∨ rCatK K x y H Q
theorem op_addV {X : Cx} : OpR X (binaryOp .Add) (rAddV X.K) := op_add.or (op_add_str.or (op_catA.or op_catK))
theorem op2_lst {K : PySem.W.Frag} {G : Addr → Prop} {S : HD} {H : Hp} {d1 d2 : D} {v1 v2 : V} {Qd : QD} {Q : VK} {xs ys : List D} (rh : RH K G S H) (q1 : RD K G S H d1 v1) (q2 : RD K G S H d2 v2) (p : Post K G S H Qd Q)
    (h1 : asLst S d1 = some xs) (h2 : asLst S d2 = some ys) (t : xs.length + ys.length ≤ sizeLine ∧ Qd (.lst (xs ++ ys)) S) : rAddV K v1 v2 H Q := by
  obtain ⟨a, vs, rfl, l1, r1⟩ := asLst_ok rh h1 q1
  obtain ⟨b, ws, rfl, l2, r2⟩ := asLst_ok rh h2 q2
  exact .inr (.inr (.inr ⟨a, b, vs, ws, rfl, rfl, l1, l2, by rw [← r1.length, ← r2.length]; exact t.1, fun q hq => p.newL rh (r1.append r2) t.2 hq⟩))
def rAddD : R2D := fun x y S Q => match x, y with
  | .int i, .int j => Q (.int (i + j)) S
  | .str a, .str b => a.length + b.length ≤ sizeLine ∧ Q (.str (a ++ b)) S
  | .tup a, .tup b => a.length + b.length ≤ sizeLine ∧ Q (.tup (a ++ b)) S
  | x, y => match asLst S x, asLst S y with
    | some xs, some ys => xs.length + ys.length ≤ sizeLine ∧ Q (.lst (xs ++ ys)) S
    | _, _ => False
theorem add2 {K : PySem.W.Frag} : Op2 K (rAddV K) rAddD := by
  intro G S H d1 d2 v1 v2 Qd Q rh q1 q2 t p
  unfold rAddD at t
  split at t
  · cases q1; cases q2; exact .inl ⟨_, _, rfl, rfl, p.here rh (.int _) t⟩
  · cases q1; cases q2; exact .inr (.inl ⟨_, _, rfl, rfl, t.1, p.here rh (.str _) t.2⟩)
  · rename_i a b
    cases q1 with
    | @tup a1 vs _ h1 r1 =>
      cases q2 with
      | @tup a2 ws _ h2 r2 =>
        refine .inr (.inr (.inl ⟨a1, a2, vs, ws, rfl, rfl, h1.sq, h2.sq, by rw [← r1.length, ← r2.length]; exact t.1, fun e => ?_, fun e1 e2 => ?_, fun e1 e2 q hq => p.newT rh (r1.append r2) t.2 hq⟩))
        · subst e
          cases r1
          exact p.here rh (.tup h2 r2) t.2
        · subst e2
          cases r2
          exact p.here rh (.tup h1 r1) (by simpa using t.2)
  · split at t
    · rename_i xs ys e1 e2
      exact op2_lst rh q1 q2 p e1 e2 t
    · exact t.elim
section
variable {X : Cx} {a b : Expr} {ta tb : TED} {pos : Pos}
theorem de_add (ha : DE X a ta) (hb : DE X b tb) : DE X (.BinOp a .Add b pos) (tBin rAddD ta tb) := de_op op_addV add2 ha hb
def rSubD : R2D := fun x y S Q => match x, y with
  | .int i, .int j => Q (.int (i - j)) S
  | _, _ => False
theorem de_sub (ha : DE X a ta) (hb : DE X b tb) : DE X (.BinOp a .Sub b pos) (tBin rSubD ta tb) := de_op op_sub (fun G S H d1 d2 v1 v2 Qd Q rh q1 q2 t p => by
  unfold rSubD at t
  split at t
  · cases q1; cases q2; exact ⟨_, _, rfl, rfl, p.here rh (.int _) t⟩
  · exact t.elim) ha hb
/-- // by a positive number below 2^30, or any great ones that fit -/
def rFdivD : R2D := fun x y S Q => match x, y with
  | .int i, .int j => (0 < j ∧ j < 1073741824) ∧ Q (.int (i / j)) S
  | _, _ => False
theorem de_fdiv (ha : DE X a ta) (hb : DE X b tb) : DE X (.BinOp a .FloorDiv b pos) (tBin rFdivD ta tb) := de_op op_fdiv (fun G S H d1 d2 v1 v2 Qd Q rh q1 q2 t p => by
  unfold rFdivD at t
  split at t
  · cases q1; cases q2; exact ⟨_, _, rfl, rfl, t.1, p.here rh (.int _) t.2⟩
  · exact t.elim) ha hb
def rModD : R2D := fun x y S Q => match x, y with
  | .int i, .int j => 0 < j ∧ Q (.int (i % j)) S
  | _, _ => False
theorem de_mod (ha : DE X a ta) (hb : DE X b tb) : DE X (.BinOp a .Mod b pos) (tBin rModD ta tb) := de_op op_mod (fun G S H d1 d2 v1 v2 Qd Q rh q1 q2 t p => by
  unfold rModD at t
  split at t
  · cases q1; cases q2; exact ⟨_, _, rfl, rfl, t.1, p.here rh (.int _) t.2⟩
  · exact t.elim) ha hb
def rPowD : R2D := fun x y S Q => match x, y with
  | .int i, .int j => (0 ≤ j ∧ j ≤ 1000000 ∧ i.natAbs < 2 ^ 64) ∧ Q (.int (i ^ j.toNat)) S
  | _, _ => False
theorem de_pow (ha : DE X a ta) (hb : DE X b tb) : DE X (.BinOp a .Pow b pos) (tBin rPowD ta tb) := de_op op_pow (fun G S H d1 d2 v1 v2 Qd Q rh q1 q2 t p => by
  unfold rPowD at t
  split at t
  · cases q1; cases q2; exact ⟨_, _, rfl, rfl, t.1, p.here rh (.int _) t.2⟩
  · exact t.elim) ha hb

/-! ### list * int, tuple * int, text * int -/
def rRepK (K : PySem.W.Frag) : R2 := fun x y H Q => ∃ l k xs, x = .ref l ∧ y = .int k ∧ SqL K H l xs ∧ 0 ≤ k ∧ k < 2 ^ 60 ∧ xs.length * k.toNat ≤ sizeLine ∧ ∀ p, H p = none → Q (.ref p) (upd H p (.lst (List.replicate k.toNat xs).flatten))
theorem op_repK : OpR X (binaryOp .Mult) (rRepK X.K) := by
  intro pins s σ H x y v u Q I rx ry h
  obtain ⟨l, k, xs, rfl, rfl, hl, h1, h2, hz, q⟩ := h
  cases rx
  obtain ⟨t, rfl⟩ := ry
  obtain ⟨its, r, pl, z⟩ := I.list hl
  have hn := r.length
  obtain ⟨⟨c1, dd1, dt1, sl1⟩, n1, e1, hc1, hd1, hdt1⟩ := pl
  simp only at hc1 hd1 hdt1
  subst hc1 hd1 hdt1
  have hz' : its.toArray.size * k.toNat ≤ 2 ^ 24 := by rw [List.size_toArray, ← hn]; exact hz
  refine wpAny_binaryOp_repeat_ref (T := "list") (U := "int") (by decide) ⟨_, e1, rfl⟩ (fun s' => typeIs_int s' k t) noFill_list_mul F.fills_int_mul F.slot_int_rmul repeat_list F.slot_int_index.lookup
    (call_meets F.slot_int_rmul (typeIs_int s k t) F.entry_int_rmul (F.args_int_rmul_2 _ _) (lm_int_rmul_list_any k t l its.toArray n1 none sl1)
      ⟨e1, rfl, ⟨_, e1, rfl⟩, call_meets F.slot_list_mul ⟨_, e1, rfl⟩ F.entry_list_mul (F.args_list_mul_2 _ _)
        (lm_list_mul_any l its.toArray n1 none sl1 k t (by simp [Builtin.List.listFitsIndex]; omega) (by omega) (by simp [Builtin.List.listTooLong, sizeLine]; omega)) ⟨e1, ?_⟩⟩)
  rw [listMul_foldl_if]
  exact ⟨.ref _, _, I.lnew (t' := s.toks) (r.rep k.toNat) (by rw [List.length_flatten]; simpa [Nat.mul_comm] using hz), rfl, q _ I.fresh⟩
end
end PD
end

section
/-! PD5b: tuple * int of any count, text * int; the union of *. -/
namespace PD
open PySem PySem.Spec PyProof.Rows L2

theorem tuple_mul_same (l : Addr) (items : Array Value) (n : Nat) (dd : Option Addr) (sl : Array (Option Value)) (x : Int) (u : Tok) (c0 : (decide (x < -(2 ^ 63)) || decide (x ≥ 2 ^ 63)) = false) (c1 : (items.isEmpty || x == 1) = true) :
    Meets (Builtin.«tuple.__mul__» ⟨[.ref l, .int x u], []⟩) (fun _ R s => s.heap.get? l = some { cls := .type "tuple", dict := dd, data := .seq items n, slots := sl } ∧ R (.ok (.ret (Value.ref l))) s) :=
  .of_wp fun prog w A R s h => by
    obtain ⟨hp, g, d, tk, os⟩ := s
    obtain ⟨hl, h⟩ := h
    have f1 := AutoSeq1.idx_int
    wp_walk using wpAny_loadPart' hl
    repeat (first
      | (refine wpAny_ite_false (decide_eq_false (by rw [c0]; exact Bool.false_ne_true)) ?_; wp_walk using wpAny_loadPart' hl)
      | (refine wpAny_ite_true (decide_eq_true c1) ?_; wp_walk using wpAny_loadPart' hl))
    all_goals first | exact ⟨_, rfl, h⟩ | skip
theorem tuple_mul_zero (l : Addr) (items : Array Value) (n : Nat) (dd : Option Addr) (sl : Array (Option Value)) (x : Int) (u : Tok) (c0 : (decide (x < -(2 ^ 63)) || decide (x ≥ 2 ^ 63)) = false) (c1 : (items.isEmpty || x == 1) = false) (c2 : (decide (x ≤ 0) || items.isEmpty) = true) :
    Meets (Builtin.«tuple.__mul__» ⟨[.ref l, .int x u], []⟩) (fun _ R s => s.heap.get? l = some { cls := .type "tuple", dict := dd, data := .seq items n, slots := sl } ∧
      R (.ok (.ret (Value.ref s.heap.objs.size))) { s with heap := s.heap.push { cls := Value.type "tuple", data := Data.seq #[] }, toks := s.toks }) :=
  .of_wp fun prog w A R s h => by
    obtain ⟨hp, g, d, tk, os⟩ := s
    obtain ⟨hl, h⟩ := h
    have f1 := AutoSeq1.idx_int
    wp_walk using wpAny_loadPart' hl
    repeat (first
      | (refine wpAny_ite_false (decide_eq_false (by rw [c0]; exact Bool.false_ne_true)) ?_; wp_walk using wpAny_loadPart' hl)
      | (refine wpAny_ite_false (decide_eq_false (by rw [c1]; exact Bool.false_ne_true)) ?_; wp_walk using wpAny_loadPart' hl)
      | (refine wpAny_ite_true (decide_eq_true c2) ?_; wp_walk using wpAny_loadPart' hl))
    all_goals first | exact ⟨_, rfl, h⟩ | skip

/-- tuple * int, any count to 1000 -/
def rRepA (K : PySem.W.Frag) : R2 := fun x y H Q => ∃ l k xs, x = .ref l ∧ y = .int k ∧ SqT K H l xs ∧ -1000 ≤ k ∧ k ≤ 1000 ∧ xs.length ≤ 1000 ∧
  ((xs = [] ∨ k = 1) → Q (.ref l) H) ∧ (¬ (xs = [] ∨ k = 1) → ∀ p, H p = none → Q (.ref p) (upd H p (.tup (List.replicate k.toNat xs).flatten)))
theorem op_repA {X : Cx} : OpR X (binaryOp .Mult) (rRepA X.K) := by
  intro pins s σ H x y v u Q I rx ry h
  obtain ⟨l, k, xs, rfl, rfl, hT, h1, h2, hz, qs, qn⟩ := h
  by_cases hw : xs = [] ∨ k = 1
  · cases rx
    obtain ⟨t, rfl⟩ := ry
    obtain ⟨its, r, ⟨⟨cls, dd, data, sl⟩, ho, hc, n, hd⟩, hs⟩ := I.tuple hT
    simp only at hc hd
    subst hc hd
    have c0 : (decide (k < -(2 ^ 63)) || decide (k ≥ 2 ^ 63)) = false := by
      rw [decide_eq_false (by omega), decide_eq_false (by omega)] <;> rfl
    have c1 : (its.toArray.isEmpty || k == 1) = true := by
      rcases hw with e | e
      · subst e; cases r; rfl
      · subst e; simp
    exact wpAny_binaryOp_repeat_ref (T := "tuple") (U := "int") (by decide) ⟨_, ho, rfl⟩ (fun s' => typeIs_int s' k t) noFill_tuple_mul F.fills_int_mul F.slot_int_rmul repeat_tuple F.slot_int_index.lookup
      (call_meets F.slot_int_rmul (typeIs_int s k t) F.entry_int_rmul (F.args_int_rmul_2 _ _) (int_rmul_tuple k t l its.toArray n dd sl)
        ⟨ho, rfl, ⟨_, ho, rfl⟩, call_meets F.slot_tuple_mul ⟨_, ho, rfl⟩ F.entry_tuple_mul (F.args_tuple_mul_2 _ _) (tuple_mul_same l its.toArray n dd sl k t c0 c1) ⟨ho, .ref l, H, I, rfl, qs hw⟩⟩)
  · by_cases h0 : k ≤ 0
    · cases rx
      obtain ⟨t, rfl⟩ := ry
      obtain ⟨its, r, ⟨⟨cls, dd, data, sl⟩, ho, hc, n, hd⟩, hs⟩ := I.tuple hT
      simp only at hc hd
      subst hc hd
      have c0 : (decide (k < -(2 ^ 63)) || decide (k ≥ 2 ^ 63)) = false := by
        rw [decide_eq_false (by omega), decide_eq_false (by omega)] <;> rfl
      have c1 : (its.toArray.isEmpty || k == 1) = false := by
        have e2 : (k == 1) = false := beq_eq_false_iff_ne.mpr (by omega)
        rw [e2]
        cases r with
        | nil => exact absurd (.inl rfl) hw
        | cons _ _ => rfl
      have c2 : (decide (k ≤ 0) || its.toArray.isEmpty) = true := by rw [decide_eq_true h0]; rfl
      have hq := qn hw _ (I.hok.fresh (Nat.le_refl _))
      have e0 : k.toNat = 0 := by omega
      rw [e0] at hq
      refine wpAny_binaryOp_repeat_ref (T := "tuple") (U := "int") (by decide) ⟨_, ho, rfl⟩ (fun s' => typeIs_int s' k t) noFill_tuple_mul F.fills_int_mul F.slot_int_rmul repeat_tuple F.slot_int_index.lookup
        (call_meets F.slot_int_rmul (typeIs_int s k t) F.entry_int_rmul (F.args_int_rmul_2 _ _) (int_rmul_tuple k t l its.toArray n dd sl)
          ⟨ho, rfl, ⟨_, ho, rfl⟩, call_meets F.slot_tuple_mul ⟨_, ho, rfl⟩ F.entry_tuple_mul (F.args_tuple_mul_2 _ _) (tuple_mul_zero l its.toArray n dd sl k t c0 c1 c2) ⟨ho, ?_⟩⟩)
      exact ⟨.ref s.heap.objs.size, _, I.laid (t' := s.toks) (o := .tup []) (fun b ob q => Heap.get?_push_of_some _ q) (Nat.le_refl _) ⟨Nat.zero_le _, [], .nil, IsTup.new _ _⟩, rfl, hq⟩
    · exact op_repT pins s σ H _ _ v u Q I rx ry ⟨l, k, xs, rfl, rfl, hT, fun e => hw (.inl e), by omega, h2, hz, qn hw⟩
/-- text * int -/
def strRep (x : Str) (n : Nat) : Str := ⟨(List.replicate n x.cps).foldl (· ++ ·) #[]⟩
theorem strRep_len (x : Str) (n : Nat) : (strRep x n).length = x.length * n := by
  have key : ∀ (m : Nat) (acc : Array Nat), ((List.replicate m x.cps).foldl (· ++ ·) acc).size = acc.size + x.cps.size * m := by
    intro m
    induction m with
    | zero => intro acc; simp
    | succ m ih =>
      intro acc
      rw [List.replicate_succ, List.foldl_cons, ih, Array.size_append, Nat.mul_succ]
      omega
  have := key n #[]
  simp only [List.size_toArray, List.length_nil, Nat.zero_add] at this
  exact this
theorem op_repS {X : Cx} : OpR X (binaryOp .Mult) (fun x y H Q => ∃ z k, x = .str z ∧ y = .int k ∧ 0 ≤ k ∧ k ≤ 1000000 ∧ z.length * k.toNat ≤ sizeLine ∧ Q (.str (strRep z k.toNat)) H) := by
  intro pins s σ H x y v u Q I rx ry h
  obtain ⟨z, k, rfl, rfl, h1, h2, hz, q⟩ := h
  obtain ⟨t, rfl⟩ := rx
  obtain ⟨t', rfl⟩ := ry
  have hsl : sizeLine = 16777216 := rfl
  refine PySem.P.mul_str (by rw [decide_eq_false (by omega), decide_eq_false (by omega)]; rfl) (fun a b => ?_) (fun a b => ?_) ?_
  · have hb := Bool.or_eq_false_iff.mp b
    have hk : 2 ≤ k := by have := beq_eq_false_iff_ne.mp hb.1; omega
    have e1 : (z.length : Int) * k ≤ 16777216 := by
      have : ((z.length * k.toNat : Nat) : Int) ≤ 16777216 := by omega
      have e2 : ((k.toNat : Nat) : Int) = k := Int.toNat_of_nonneg h1
      rw [Int.natCast_mul, e2] at this
      exact this
    have e3 : (z.length : Int) ≤ 16777216 := by
      have : (z.length : Int) * 1 ≤ (z.length : Int) * k := Int.mul_le_mul_of_nonneg_left (by omega) (by omega)
      omega
    have e4 : (16777216 : Int) ≤ (2 ^ 63 - 1) / k := by
      refine Int.le_ediv_of_mul_le (by omega) ?_
      have : (16777216 : Int) * k ≤ 16777216 * 1000000 := Int.mul_le_mul_of_nonneg_left h2 (by decide)
      omega
    omega
  · unfold Builtin.Str.tooLong
    exact decide_eq_false (by omega)
  · by_cases c1 : k < 1
    · rw [if_pos c1]
      have e0 : k.toNat = 0 := by omega
      rw [e0] at q
      exact ⟨by decide, .str Str.empty, H, I.tok _, ⟨_, rfl⟩, q⟩
    · rw [if_neg c1]
      by_cases c2 : (k == 1 || z.length == 0) = true
      · rw [if_pos c2]
        have ez : strRep z k.toNat = z := by
          rcases Bool.or_eq_true_iff.mp c2 with e | e
          · have : k = 1 := beq_iff_eq.mp e
            subst this
            show (⟨#[] ++ z.cps⟩ : Str) = z
            simp
          · have hz0 : z.cps = #[] := by
              have : z.cps.size = 0 := beq_iff_eq.mp e
              exact Array.eq_empty_of_size_eq_zero this
            have : ∀ n, (List.replicate n z.cps).foldl (· ++ ·) #[] = (#[] : Array _) := by
              intro n
              induction n with
              | zero => rfl
              | succ n ih => rw [List.replicate_succ, List.foldl_cons, hz0] at *; simpa using ih
            unfold strRep
            rw [this]
            cases z
            simp at hz0
            subst hz0
            rfl
        rw [ez] at q
        exact ⟨.str z, H, I, ⟨t, rfl⟩, q⟩
      · rw [if_neg c2]
        exact ⟨by have := strRep_len z k.toNat; unfold strRep at this; rw [this]; exact hz, .str _, H, I.tok _, ⟨_, rfl⟩, q⟩
def rMulV (K : PySem.W.Frag) : R2 := fun x y H Q => (rI CMul (fun i j => .int (i * j)) x y H Q) ∨ rRepK K x y H Q ∨ rRepA K x y H Q ∨ (∃ z k, x = .str z ∧ y = .int k ∧ 0 ≤ k ∧ k ≤ 1000000 ∧ z.length * k.toNat ≤ sizeLine ∧ Q (.str (strRep z k.toNat)) H)
theorem op_mulV {X : Cx} : OpR X (binaryOp .Mult) (rMulV X.K) := op_mul.or (op_repK.or (op_repA.or op_repS))
def rMulD : R2D := fun x y S Q => match x, y with
  | .int i, .int j => CMul i j ∧ Q (.int (i * j)) S
  | .str z, .int k => (0 ≤ k ∧ k ≤ 1000000 ∧ z.length * k.toNat ≤ sizeLine) ∧ Q (.str (strRep z k.toNat)) S
  | .tup xs, .int k => (-1000 ≤ k ∧ k ≤ 1000 ∧ xs.length ≤ 1000) ∧ Q (.tup (List.replicate k.toNat xs).flatten) S
  | x, .int k => (match asLst S x with
    | some xs => (0 ≤ k ∧ k < 2 ^ 60 ∧ xs.length * k.toNat ≤ sizeLine) ∧ Q (.lst (List.replicate k.toNat xs).flatten) S
    | none => False)
  | _, _ => False
theorem RDs.flat {K : PySem.W.Frag} {G : Addr → Prop} {S : HD} {H : Hp} {ds : List D} {vs : List V} (r : RDs K G S H ds vs) : ∀ n : Nat, RDs K G S H (List.replicate n ds).flatten (List.replicate n vs).flatten
  | 0 => .nil
  | n + 1 => by rw [List.replicate_succ, List.replicate_succ, List.flatten_cons, List.flatten_cons]; exact r.append (RDs.flat r n)
theorem mul2 {K : PySem.W.Frag} : Op2 K (rMulV K) rMulD := by
  intro G S H d1 d2 v1 v2 Qd Q rh q1 q2 t p
  unfold rMulD at t
  split at t
  · cases q1; cases q2; exact .inl ⟨_, _, rfl, rfl, t.1, p.here rh (.int _) t.2⟩
  · cases q1; cases q2; exact .inr (.inr (.inr ⟨_, _, rfl, rfl, t.1.1, t.1.2.1, t.1.2.2, p.here rh (.str _) t.2⟩))
  · rename_i xs k
    cases q2
    cases q1 with
    | @tup a1 vs _ h1 r1 =>
      refine .inr (.inr (.inl ⟨a1, k, vs, rfl, rfl, h1.sq, t.1.1, t.1.2.1, by rw [← r1.length]; exact t.1.2.2, fun e => ?_, fun e q hq => p.newT rh (r1.flat _) t.2 hq⟩))
      refine p.here rh (.tup h1 r1) ?_
      have e2 : (List.replicate k.toNat xs).flatten = xs := by
        rcases e with e | e
        · subst e
          cases r1
          simp
        · subst e; simp
      rw [e2] at t
      exact t.2
  · cases q2
    split at t
    · rename_i xs e
      obtain ⟨a, vs, rfl, l1, r1⟩ := asLst_ok rh e q1
      exact .inr (.inl ⟨a, _, vs, rfl, rfl, l1, t.1.1, t.1.2.1, by rw [← r1.length]; exact t.1.2.2, fun q hq => p.newL rh (r1.flat _) t.2 hq⟩)
    · exact t.elim
  · exact t.elim
theorem de_mul {X : Cx} {a b : Expr} {ta tb : TED} {pos : Pos} (ha : DE X a ta) (hb : DE X b tb) : DE X (.BinOp a .Mult b pos) (tBin rMulD ta tb) := de_op op_mulV mul2 ha hb
end PD
end

section
/-! PD6: deep values as the library's data: repr, ==, !=. -/
namespace PD
open PySem PySem.Spec PyProof.Rows L2

mutual
def py : D → PyData
  | .non => .none
  | .bl b => .bool b
  | .int i => .int i
  | .str x => .str x
  | .tup xs => .tuple (pyL xs)
  | .lst xs => .list (pyL xs)
  | .dic kvs => .dict (pyK kvs)
  | .ref _ => .none
  | .ty _ => .none
  | .deck => .none
def pyL : List D → List PyData
  | [] => []
  | x :: xs => py x :: pyL xs
def pyK : List (D × D) → List (PyData × PyData)
  | [] => []
  | (k, v) :: r => (py k, py v) :: pyK r
end
mutual
/-- may be shown -/
def okR : D → Bool
  | .non => true
  | .bl _ => true
  | .int i => decide (i.natAbs.log2 < 1920)
  | .str x => PyData.strOk x
  | .tup xs => okRL xs
  | .lst xs => okRL xs
  | .dic kvs => okRK kvs
  | .ref _ => false
  | .ty _ => false
  | .deck => false
def okRL : List D → Bool
  | [] => true
  | x :: xs => okR x && okRL xs
def okRK : List (D × D) → Bool
  | [] => true
  | (k, v) :: r => okR k && okR v && okRK r
end
mutual
/-- may be compared -/
def okE : D → Bool
  | .non => true
  | .bl _ => true
  | .int _ => true
  | .str x => PyData.strOk x
  | .tup xs => okEL xs
  | .lst xs => okEL xs
  | .dic _ => false
  | .ref _ => false
  | .ty _ => false
  | .deck => false
def okEL : List D → Bool
  | [] => true
  | x :: xs => okE x && okEL xs
end
mutual
def dep : D → Nat
  | .tup xs => depL xs + 1
  | .lst xs => depL xs + 1
  | .dic kvs => depK kvs + 1
  | .non => 0
  | .bl _ => 0
  | .int _ => 0
  | .str _ => 0
  | .ref _ => 0
  | .ty _ => 0
  | .deck => 0
def depL : List D → Nat
  | [] => 0
  | x :: xs => max (dep x) (depL xs)
def depK : List (D × D) → Nat
  | [] => 0
  | (k, v) :: r => max (max (dep k) (dep v)) (depK r)
end
mutual
/-- no more signs than this -/
def sz : D → Nat
  | .non => 4
  | .bl _ => 5
  | .int i => i.natAbs.log2 + 3
  | .str x => 10 * x.length + 2
  | .tup xs => szL xs + 3
  | .lst xs => szL xs + 3
  | .dic kvs => szK kvs + 3
  | .ref _ => 0
  | .ty _ => 0
  | .deck => 0
def szL : List D → Nat
  | [] => 0
  | x :: xs => sz x + 2 + szL xs
def szK : List (D × D) → Nat
  | [] => 0
  | (k, v) :: r => sz k + sz v + 4 + szK r
end
theorem pyL_map : ∀ xs : List D, pyL xs = xs.map py
  | [] => rfl
  | x :: xs => by simp [pyL, pyL_map xs]
mutual
theorem dep_py : ∀ d : D, (py d).depth = dep d
  | .non => rfl
  | .bl _ => rfl
  | .int _ => rfl
  | .str _ => rfl
  | .ref _ => rfl
  | .ty _ => rfl
  | .deck => rfl
  | .tup xs => by simp only [py, PyData.depth, dep, depL_py xs]
  | .lst xs => by simp only [py, PyData.depth, dep, depL_py xs]
  | .dic kvs => by simp only [py, PyData.depth, dep, depK_py kvs]
theorem depL_py : ∀ xs : List D, PyData.depthAll (pyL xs) = depL xs
  | [] => rfl
  | x :: xs => by simp only [pyL, PyData.depthAll, depL, dep_py x, depL_py xs]
theorem depK_py : ∀ xs : List (D × D), PyData.depthKv (pyK xs) = depK xs
  | [] => rfl
  | (k, v) :: xs => by simp only [pyK, PyData.depthKv, depK, dep_py k, dep_py v, depK_py xs]
end
mutual
theorem show_py : ∀ d : D, okR d = true → (py d).showable = true
  | .non, _ => rfl
  | .bl _, _ => rfl
  | .int _, h => h
  | .str _, _ => rfl
  | .tup xs, h => by simp only [py, PyData.showable]; exact showL_py xs h
  | .lst xs, h => by simp only [py, PyData.showable]; exact showL_py xs h
  | .dic kvs, h => by simp only [py, PyData.showable]; exact showK_py kvs h
theorem showL_py : ∀ xs : List D, okRL xs = true → PyData.showableAll (pyL xs) = true
  | [], _ => rfl
  | x :: xs, h => by
    simp only [okRL, Bool.and_eq_true] at h
    simp only [pyL, PyData.showableAll, show_py x h.1, showL_py xs h.2, Bool.and_self]
theorem showK_py : ∀ xs : List (D × D), okRK xs = true → PyData.showableKv (pyK xs) = true
  | [], _ => rfl
  | (k, v) :: xs, h => by
    simp only [okRK, Bool.and_eq_true] at h
    simp only [pyK, PyData.showableKv, show_py k h.1.1, show_py v h.1.2, showK_py xs h.2, Bool.and_self]
end
theorem log2_pow (n : Nat) : n < 10 ^ (n.log2 + 1) := by
  have h1 : n < 2 ^ (n.log2 + 1) := Nat.lt_log2_self
  have h2 : 2 ^ (n.log2 + 1) ≤ 10 ^ (n.log2 + 1) := Nat.pow_le_pow_left (by decide) _
  omega
theorem len_int (i : Int) : (Str.ofString (toString i)).length ≤ i.natAbs.log2 + 2 := by
  cases i with
  | ofNat n =>
    have h := toString_length_le (v := Int.ofNat n) (Int.natCast_nonneg n) (k := n.log2 + 1) (by omega) (by
      have := log2_pow n
      show ((n : Nat) : Int) < 10 ^ (n.log2 + 1)
      exact_mod_cast this)
    show _ ≤ n.log2 + 2
    omega
  | negSucc n =>
    have h := toString_length_le (v := ((n + 1 : Nat) : Int)) (Int.natCast_nonneg _) (k := (n + 1).log2 + 1) (by omega) (by
      have := log2_pow (n + 1)
      exact_mod_cast this)
    have e2 := len_text_neg (n := Int.negSucc n) (by omega)
    have e3 : (0 : Int) - Int.negSucc n = ((n + 1 : Nat) : Int) := by omega
    rw [e3] at e2
    show _ ≤ (n + 1).log2 + 2
    omega
theorem textFrom_le : ∀ (ts : List Str) (k : Nat) (acc : Str), (textFrom k acc ts).length ≤ acc.length + piled ts := by
  intro ts
  induction ts with
  | nil => intro k acc; simp [textFrom, piled]
  | cons t ts ih =>
    intro k acc
    rw [piled_cons]
    unfold textFrom
    refine Nat.le_trans (ih _ _) ?_
    have e2 : (", " : Str).length = 2 := by decide
    have e0 : ("" : Str).length = 0 := by decide
    split <;> (simp only [Str.length_append]; omega)
mutual
theorem shown_le : ∀ d : D, okR d = true → (py d).shown.length ≤ sz d
  | .non, _ => by simp only [py, PyData.shown, sz]; decide
  | .bl b, _ => by cases b <;> (simp only [py, PyData.shown, sz]; decide)
  | .int i, _ => by simp only [py, PyData.shown, sz]; have := len_int i; omega
  | .str x, h => by
    simp only [py, PyData.shown, sz]
    refine StrLaws.reprText_len x fun c hc => ?_
    have h' : x.cps.all (· < 0x110000) = true := h
    rw [Array.all_eq_true] at h'
    obtain ⟨i, hi, e⟩ := List.mem_iff_getElem.mp hc
    have := h' i (by simpa using hi)
    simp at this
    have e' : x.cps[i]'(by simpa using hi) = c := by simpa using e
    rw [e'] at this
    have : (16 : Nat) ^ 8 = 4294967296 := by decide
    omega
  | .tup xs, h => by
    simp only [py, PyData.shown, sz]
    have hp := piled_le xs h
    unfold tupleText
    simp only [Str.length_append]
    have e1 : ("(" : Str).length = 1 := by decide
    have e2 : (",)" : Str).length = 2 := by decide
    have e3 : (")" : Str).length = 1 := by decide
    by_cases hn : PyData.shownAll (pyL xs) = []
    · rw [hn]
      have : (Str.join ", " []).length = 0 := by decide
      rw [this]
      split <;> omega
    · have := join_length_add _ hn
      split <;> omega
  | .lst xs, h => by
    simp only [py, PyData.shown, sz]
    have hp := piled_le xs h
    unfold listText
    simp only [Str.length_append]
    have h1 := textFrom_le (PyData.shownAll (pyL xs)) 0 "["
    have e1 : ("[" : Str).length = 1 := by decide
    have e2 : ("]" : Str).length = 1 := by decide
    omega
  | .dic kvs, h => by
    simp only [py, PyData.shown, sz]
    have hp := piledK_le kvs h
    unfold dictText
    simp only [Str.length_append]
    have e1 : ("{" : Str).length = 1 := by decide
    have e2 : ("}" : Str).length = 1 := by decide
    by_cases hn : PyData.shownKv (pyK kvs) = []
    · rw [hn]
      have : (Str.join ", " []).length = 0 := by decide
      omega
    · have := join_length_add _ hn
      omega
theorem piled_le : ∀ xs : List D, okRL xs = true → piled (PyData.shownAll (pyL xs)) ≤ szL xs
  | [], _ => by simp [pyL, PyData.shownAll, piled, szL]
  | x :: xs, h => by
    simp only [okRL, Bool.and_eq_true] at h
    have h1 := shown_le x h.1
    have h2 := piled_le xs h.2
    simp only [pyL, PyData.shownAll, piled_cons, szL]
    omega
theorem piledK_le : ∀ xs : List (D × D), okRK xs = true → piled (PyData.shownKv (pyK xs)) ≤ szK xs
  | [], _ => by simp [pyK, PyData.shownKv, piled, szK]
  | (k, v) :: xs, h => by
    simp only [okRK, Bool.and_eq_true] at h
    have h1 := shown_le k h.1.1
    have h2 := shown_le v h.1.2
    have h3 := piledK_le xs h.2
    simp only [pyK, PyData.shownKv, piled_cons, szK, Str.length_append]
    have : (": " : Str).length = 2 := by decide
    omega
end
end PD
end

section
/-! PD7: repr, ==, != over deep values. -/
namespace PD
open PySem PySem.Spec PyProof.Rows L2

/-- the module's table of modules stands in the base -/
def SysB (base : Heap) : Prop := ∃ mm, base.Ns sysModules mm
section
variable {X : Cx} {pins : List (Addr × Obj)} {σ : L2.St} {H : Hp} {s : Shared} {G : Addr → Prop} {S : HD}
theorem not_sys (I : Inv X pins σ H s) (hB : SysB X.base) {a : Addr} {its : Array Value} {n : Nat} {o : Obj} (h : s.heap.get? a = some o) (hd : o.data = .seq its n) : a ≠ sysModules := fun e => by
  obtain ⟨mm, ob, es, ep, h1, h2, _⟩ := hB
  have h3 := I.bk _ _ h1
  rw [← e, h] at h3
  cases h3
  rw [hd] at h2; cases h2
mutual
theorem rd_reads (I : Inv X pins σ H s) (hB : SysB X.base) : ∀ (d : D) (v : V) (u : Value), RD X.K G S H d v → RelV v u → okR d = true ∨ okE d = true → ∃ as, Reads s.heap u (py d) as ∧ sysModules ∉ as
  | .non, _, _, q, r, _ => by cases q; cases r; exact ⟨_, .none, by simp⟩
  | .bl b, _, _, q, r, _ => by cases q; cases r; exact ⟨_, .bool b, by simp⟩
  | .int i, _, _, q, r, _ => by
    cases q
    obtain ⟨t, rfl⟩ := r
    exact ⟨_, .int i t, by simp⟩
  | .str x, _, _, q, r, _ => by
    cases q
    obtain ⟨t, rfl⟩ := r
    exact ⟨_, .str x t, by simp⟩
  | .tup xs, _, _, q, r, ok => by
    cases q with
    | tup h rs =>
      cases r
      obtain ⟨its, rv, ⟨o, e1, e2, n, e3⟩, _⟩ := I.tuple h.sq
      obtain ⟨as, q1, q2⟩ := rds_reads I hB xs _ its rs rv (ok.imp (fun z => z) fun z => z)
      exact ⟨_, .tuple e1 e2 e3 (by simpa using q1), q2⟩
  | .lst xs, _, _, q, r, ok => by
    cases q with
    | lst h rs =>
      cases r
      obtain ⟨its, rv, ⟨o, n, e1, e2, _, e3⟩, _⟩ := I.list h.sq
      obtain ⟨as, q1, q2⟩ := rds_reads I hB xs _ its rs rv (ok.imp (fun z => z) fun z => z)
      exact ⟨_, .list e1 e2 e3 (by simpa using q1), fun hm => (List.mem_cons.mp hm).elim (fun z => not_sys I hB e1 e3 z.symm) q2⟩
  | .dic kvs, _, _, q, r, ok => by
    cases q with
    | @dic a kvv _ h rs =>
      cases r
      obtain ⟨_, hs, vs, kv, o, es, ep, e1, e2, e3, _, pr, _⟩ := dk_rd I.hok h.2
      obtain ⟨as, bs, q1, q2, q3, q4⟩ := rdk_reads I hB kvs kvv vs es.toList rs kv pr (by
        rcases ok with z | z
        · exact z
        · cases z)
      refine ⟨_, .dict e1 e2.1 e3 q1 q2, fun hm => ?_⟩
      rcases List.mem_append.mp hm with hm | hm
      · rcases List.mem_cons.mp hm with hm | hm
        · rw [← hm] at hs; simp at hs
        · exact q3 hm
      · exact q4 hm
  | .ref _, _, _, _, _, ok => by rcases ok with z | z <;> cases z
  | .ty _, _, _, _, _, ok => by rcases ok with z | z <;> cases z
  | .deck, _, _, _, _, ok => by rcases ok with z | z <;> cases z
theorem rds_reads (I : Inv X pins σ H s) (hB : SysB X.base) : ∀ (ds : List D) (vs : List V) (us : List Value), RDs X.K G S H ds vs → Vals vs us → okRL ds = true ∨ okEL ds = true → ∃ as, ReadsAll s.heap us (pyL ds) as ∧ sysModules ∉ as
  | [], _, _, q, r, _ => by cases q; cases r; exact ⟨_, .nil, by simp⟩
  | d :: ds, _, _, q, r, ok => by
    cases q with
    | cons q1 q2 =>
      cases r with
      | cons r1 r2 =>
        have ok1 : okR d = true ∨ okE d = true := ok.imp (fun z => by simp only [okRL, Bool.and_eq_true] at z; exact z.1) fun z => by simp only [okEL, Bool.and_eq_true] at z; exact z.1
        have ok2 : okRL ds = true ∨ okEL ds = true := ok.imp (fun z => by simp only [okRL, Bool.and_eq_true] at z; exact z.2) fun z => by simp only [okEL, Bool.and_eq_true] at z; exact z.2
        obtain ⟨as, a1, a2⟩ := rd_reads I hB d _ _ q1 r1 ok1
        obtain ⟨bs, b1, b2⟩ := rds_reads I hB ds _ _ q2 r2 ok2
        exact ⟨_, .cons a1 b1, fun hm => (List.mem_append.mp hm).elim a2 b2⟩
theorem rdk_reads (I : Inv X pins σ H s) (hB : SysB X.base) : ∀ (ds : List (D × D)) (kvv : List (Key × V)) (vs : List (Key × Value)) (es : List DictEntry), RDk X.K G S H ds kvv → KV kvv vs → Pairs (mixKind X.prog X.w) es vs → okRK ds = true →
    ∃ as bs, ReadsAll s.heap (es.map (·.key)) ((pyK ds).map (·.1)) as ∧ ReadsAll s.heap (es.map (·.val)) ((pyK ds).map (·.2)) bs ∧ sysModules ∉ as ∧ sysModules ∉ bs
  | [], _, _, _, q, kv, pr, _ => by
    cases q; cases kv; cases pr
    exact ⟨_, _, .nil, .nil, by simp, by simp⟩
  | (k, d) :: ds, _, _, _, q, kv, pr, ok => by
    cases q with
    | @cons k' _ v _ kvs q1 q2 =>
      cases kv with
      | cons kv1 kv2 =>
        cases pr with
        | cons p1 p2 p3 =>
          simp only [okRK, Bool.and_eq_true] at ok
          obtain ⟨as, bs, a1, a2, a3, a4⟩ := rdk_reads I hB ds _ _ _ q2 kv2 p3 ok.2
          obtain ⟨ek, rv⟩ := kv1
          obtain ⟨cs, c1, c2⟩ := rd_reads I hB d _ _ q1 rv (.inl ok.1.2)
          rename_i pq _ en _
          have kr : ∃ ks, Reads s.heap en.key (py (kD k')) ks ∧ sysModules ∉ ks := by
            rw [← ek] at p1
            have p1' : keyIs k' _ = true := p1
            rcases keyIs_shape p1' with ⟨i, t, e1, e2⟩ | ⟨x, t, e1, e2⟩
            · subst e1; rw [e2]; exact ⟨_, .int i t, by simp⟩
            · subst e1; rw [e2]; exact ⟨_, .str x t, by simp⟩
          obtain ⟨ks, k1, k2⟩ := kr
          refine ⟨_, _, .cons k1 a1, .cons (show Reads s.heap en.val (py d) cs by rw [p2]; exact c1) a2, fun hm => (List.mem_append.mp hm).elim k2 a3, fun hm => (List.mem_append.mp hm).elim c2 a4⟩
end
end
/-- a tracked list at the outside is read -/
def nrm (S : HD) : D → D
  | .ref a => match S.hp a with
    | some (.lst xs) => .lst xs
    | _ => .ref a
  | d => d
section
variable {K : PySem.W.Frag} {G : Addr → Prop} {S : HD} {H : Hp}
/-- what nrm says is so, but for the place's being frozen: over a state where it is not tracked any more -/
theorem nrm_ok (rh : RH K G S H) {d : D} {v : V} (q : RD K G S H d v) : ∃ S', FL S H S' H ∧ RD K G S' H (nrm S d) v := by
  cases q with
  | ref a =>
    simp only [nrm]
    split
    · rename_i xs e
      obtain ⟨h1, h2, vs, h3, h4⟩ := rh.hp a _ e
      have le : HLe (S.del a) S := ⟨fun b u z => by
        unfold HD.del at z
        by_cases hb : b = a
        · simp [hb] at z
        · simpa [hb] using z, Nat.le_refl _, rfl⟩
      exact ⟨S.del a, le.fl, .lst (.inl ⟨⟨by simp [HD.del], fun z => h1 (le.dkE.mp z), h2⟩, .inl h3⟩) (h4.mv le.mv)⟩
    · exact ⟨S, .refl _ _, .ref a⟩
  | non => exact ⟨S, .refl _ _, .non⟩
  | bl b => exact ⟨S, .refl _ _, .bl b⟩
  | int b => exact ⟨S, .refl _ _, .int b⟩
  | str b => exact ⟨S, .refl _ _, .str b⟩
  | ty b => exact ⟨S, .refl _ _, .ty b⟩
  | tup h r => exact ⟨S, .refl _ _, .tup h r⟩
  | lst h r => exact ⟨S, .refl _ _, .lst h r⟩
  | dic h r => exact ⟨S, .refl _ _, .dic h r⟩
  | deck h => exact ⟨S, .refl _ _, .deck h⟩
end

/-- the text of a value -/
def shw (d : D) : Str := (py d).shown
/-- repr(x) -/
def rReprD : SpD := fun ds S Q => match ds with
  | [d] => (okR (nrm S d) = true ∧ dep (nrm S d) ≤ 60 ∧ sz (nrm S d) ≤ 16000000) ∧ Q (.str (shw (nrm S d))) S
  | _ => False
section
variable {X : Cx} {e : Expr} {es : List Expr} {ta : TAD} {p pos : Pos}
/-- a built-in call by values and deep values, at once -/
def CallRD (X : Cx) (f : Value) (rd : SpD) : Prop :=
  ∀ (pins : List (Addr × Obj)) (s : Shared) (σ : L2.St) (H : Hp) (vs : List V) (us : List Value) (ds : List D) (G : Addr → Prop) (S : HD) (Qd : QD) (Q : VK), Inv X pins σ H s → Vals vs us → RDs X.K G S H ds vs → RH X.K G S H → rd ds S Qd → Post X.K G S H Qd Q →
    wpAny (model X.prog X.w) X.A (call f us) (EP X pins σ Q) X.xe s
theorem CallRD.or {f : Value} {r r' : SpD} (h : CallRD X f r) (h' : CallRD X f r') : CallRD X f (fun ds S Q => r ds S Q ∨ r' ds S Q) := fun pins s σ H vs us ds G S Qd Q I rv rd rh t p =>
  t.elim (fun t => h pins s σ H vs us ds G S Qd Q I rv rd rh t p) fun t => h' pins s σ H vs us ds G S Qd Q I rv rd rh t p
theorem CallRD.imp {f : Value} {r r' : SpD} (h : CallRD X f r) (i : ∀ ds S Q, r' ds S Q → r ds S Q) : CallRD X f r' := fun pins s σ H vs us ds G S Qd Q I rv rd rh t p => h pins s σ H vs us ds G S Qd Q I rv rd rh (i _ _ _ t) p
theorem CallRD.of {f : Value} {r : List V → Hp → VK → Prop} {rd : SpD} (h : CallR X f r) (i : ∀ G S H ds vs Qd Q, RH X.K G S H → RDs X.K G S H ds vs → rd ds S Qd → Post X.K G S H Qd Q → r vs H Q) : CallRD X f rd :=
  fun pins s σ H vs us ds G S Qd Q I rv rd' rh t p => h pins s σ H vs us Q I rv (i G S H ds vs Qd Q rh rd' t p)
theorem call_reprD (k : Nat) (hr : RoomG k X.A) (hB : SysB X.base) : CallRD X (.builtin "repr") rReprD := by
  intro pins s σ H vs us ds G S Qd Q I rv rd rh t p
  unfold rReprD at t
  split at t
  · rename_i d
    obtain ⟨⟨o1, o2, o3⟩, t⟩ := t
    cases rd with
    | cons q1 r1 =>
      cases r1
      obtain ⟨u, rfl, ru⟩ := vals1 rv
      obtain ⟨S', f', q2⟩ := nrm_ok rh q1
      obtain ⟨as, rr, ns⟩ := rd_reads I hB _ _ _ q2 ru (.inl o1)
      have hs := show_py _ o1
      have hz : (py (nrm S d)).shown.length ≤ sizeLine := Nat.le_trans (shown_le _ o1) (Nat.le_trans o3 (by decide))
      have hu : X.A.units + ((py (nrm S d)).depth + 1) < cLine := by have := hr.un64; rw [dep_py]; omega
      have fin : ∀ (h' : Heap) (u' : Tok) (tk : Nat), (∀ b o, s.heap.get? b = some o → h'.get? b = some o) → EP X pins σ Q (.str (py (nrm S d)).shown u') { s with heap := h', toks := tk } := fun h' u' tk hk =>
        ⟨.str _, H, I.kept hk, ⟨u', rfl⟩, p.here rh (.str _) t⟩
      have big : ∀ a, u = .ref a → wpAny (model X.prog X.w) X.A (call (.builtin "repr") [u]) (EP X pins σ Q) X.xe s := fun a e => by
        subst e
        exact repr_of_reads' rr hs (fun _ => ns) hr.gd hu (fun _ _ e => e) fin hz
      generalize nrm S d = nd at *
      cases q2 with
      | non => cases ru; exact PySem.P.repr_of_none (fin s.heap _ _ fun _ _ e => e)
      | bl b => cases ru; exact PySem.P.repr_of_bool (fin s.heap _ _ fun _ _ e => e)
      | int i => obtain ⟨tt, rfl⟩ := ru; exact PySem.P.repr_of_int (of_decide_eq_true o1) (fin s.heap _ _ fun _ _ e => e)
      | str x => obtain ⟨tt, rfl⟩ := ru; exact PySem.P.repr_of_str (fin s.heap _ _ fun _ _ e => e) hz
      | tup h r => cases ru; exact big _ rfl
      | lst h r => cases ru; exact big _ rfl
      | dic h r => cases ru; exact big _ rfl
      | ref a => cases o1
      | ty a => cases o1
      | deck h => cases o1
  · exact t.elim
end
end PD
end

section
/-! PD8: comparisons, built-in calls, items, slices, what is walked. -/
namespace PD
open PySem PySem.Spec PyProof.Rows L2

/-- two operands by values and deep values at once -/
def OpRD (X : Cx) (f : Value → Value → Sem Value) (rd : R2D) : Prop :=
  ∀ (pins : List (Addr × Obj)) (s : Shared) (σ : L2.St) (H : Hp) (x y : V) (v u : Value) (d e : D) (G : Addr → Prop) (S : HD) (Qd : QD) (Q : VK), Inv X pins σ H s → RelV x v → RelV y u → RD X.K G S H d x → RD X.K G S H e y → RH X.K G S H →
    rd d e S Qd → Post X.K G S H Qd Q → wpAny (model X.prog X.w) X.A (f v u) (EP X pins σ Q) X.xe s
def liftR (K : PySem.W.Frag) (rd : R2D) : R2 := fun x y H Q => ∃ G S d e Qd, RH K G S H ∧ RD K G S H d x ∧ RD K G S H e y ∧ rd d e S Qd ∧ Post K G S H Qd Q
theorem OpRD.toR {X : Cx} {f : Value → Value → Sem Value} {rd : R2D} (h : OpRD X f rd) : OpR X f (liftR X.K rd) :=
  fun pins s σ H x y v u Q I rx ry ⟨G, S, d, e, Qd, rh, q1, q2, t, p⟩ => h pins s σ H x y v u d e G S Qd Q I rx ry q1 q2 rh t p
theorem lift2 {K : PySem.W.Frag} {rd : R2D} : Op2 K (liftR K rd) rd := fun G S H d1 d2 v1 v2 Qd Q rh q1 q2 t p => ⟨G, S, d1, d2, Qd, rh, q1, q2, t, p⟩
theorem OpRD.of {X : Cx} {f : Value → Value → Sem Value} {r : R2} {rd : R2D} (h : OpR X f r) (i : Op2 X.K r rd) : OpRD X f rd :=
  fun pins s σ H x y v u d e G S Qd Q I rx ry q1 q2 rh t p => h pins s σ H x y v u Q I rx ry (i G S H d e x y Qd Q rh q1 q2 t p)
def liftC (K : PySem.W.Frag) (rd : SpD) : List V → Hp → VK → Prop := fun vs H Q => ∃ G S ds Qd, RH K G S H ∧ RDs K G S H ds vs ∧ rd ds S Qd ∧ Post K G S H Qd Q
theorem CallRD.toR {X : Cx} {f : Value} {rd : SpD} (h : CallRD X f rd) : CallR X f (liftC X.K rd) :=
  fun pins s σ H vs us Q I rv ⟨G, S, ds, Qd, rh, q, t, p⟩ => h pins s σ H vs us ds G S Qd Q I rv q rh t p
section
variable {X : Cx} {e a b : Expr} {es : List Expr} {ta tb : TED} {tA : TAD} {x : Str} {p pos : Pos} {rd : SpD}
theorem up_callB {K : PySem.W.Frag} : ∀ σ H Q, up K (tCallD rd tA) σ H Q → tCB (liftC K rd) (upA K tA) σ H Q := fun σ H Q ⟨G, σd, S, Qd, rs, rh, t, p⟩ =>
  ⟨G, σd, S, _, rs, rh, t, fun S1 ds vs H1 f1 rh1 q1 t1 => ⟨G, S1, ds, Qd, rh1, q1, t1, p.fl f1⟩⟩
theorem de_callB {id : String} (hc : CallRD X (.builtin id) rd) (hm : X.mg x = none) (hv : bootBuiltins x = some (.builtin id)) (ha : DA X (e :: es) tA) (hg : Gl X x := by rfl) (hn : x ≠ "__name__" := by decide) (hdb : (x == ("__debug__" : Str)) = false := by decide)
    (he : starEach (e :: es) X.env = (false, eval e X.env) :: starEach es X.env := by rfl) (hpl : (backTo pos (starEach es X.env)).any (·.1) = false := by rfl) : DE X (.Call (.Name x p) (e :: es) [] pos) (tCallD rd tA) :=
  (pe_callB hc.toR hg hm hv ha hn hdb he hpl).imp up_callB
theorem de_callTy {T : String} (hc : CallRD X (.type T) rd) (hm : X.mg x = none) (hv : bootBuiltins x = some (.type T)) (ha : DA X (e :: es) tA) (hg : Gl X x := by rfl) (hn : x ≠ "__name__" := by decide) (hdb : (x == ("__debug__" : Str)) = false := by decide)
    (he : starEach (e :: es) X.env = (false, eval e X.env) :: starEach es X.env := by rfl) (hpl : (backTo pos (starEach es X.env)).any (·.1) = false := by rfl) : DE X (.Call (.Name x p) (e :: es) [] pos) (tCallD rd tA) :=
  (pe_callTy hc.toR hg hm hv ha hn hdb he hpl).imp up_callB
end

/-! ### == and != -/
/-- Python's == on data -/
def eqd (d e : D) : Bool := PyData.eqv (py d) (py e)
def scl : D → Bool
  | .non => true
  | .bl _ => true
  | .int _ => true
  | .str _ => true
  | _ => false
/-- the comparison is known -/
def eqk (d e : D) : Bool := (okE d && okE e && (decide (dep d ≤ 60) || decide (dep e ≤ 60))) || (match d, e with
  | .tup xs, .tup ys => xs.isEmpty || ys.isEmpty
  | .lst xs, .lst ys => xs.isEmpty || ys.isEmpty
  | .int _, .int _ => true
  | .str _, .str _ => true
  | .non, .str _ => true
  | .str _, .non => true
  | .int _, .str _ => true
  | .str _, .int _ => true
  | .bl _, .str _ => true
  | .str _, .bl _ => true
  | _, _ => false)
def rEqD : R2D := fun x y S Q => eqk (nrm S x) (nrm S y) = true ∧ Q (.bl (eqd (nrm S x) (nrm S y))) S
def rNeD : R2D := fun x y S Q => eqk (nrm S x) (nrm S y) = true ∧ Q (.bl (!eqd (nrm S x) (nrm S y))) S
theorem eqv_nilL (xs : List PyData) : PyData.eqvAll xs [] = xs.isEmpty := by cases xs <;> rfl
theorem eqv_nilR (xs : List PyData) : PyData.eqvAll [] xs = xs.isEmpty := by cases xs <;> rfl
theorem pyL_isEmpty (xs : List D) : (pyL xs).isEmpty = xs.isEmpty := by cases xs <;> rfl
section
variable {X : Cx} {pins : List (Addr × Obj)} {σ : L2.St} {H : Hp} {s : Shared} {G : Addr → Prop} {S : HD}
mutual
theorem lay_py : ∀ d : D, okE d = true → (py d).canLay0 = true
  | .non, _ => rfl
  | .bl _, _ => rfl
  | .int _, _ => rfl
  | .str _, h => h
  | .tup xs, h => layL_py xs h
  | .lst xs, h => layL_py xs h
  | .dic _, h => nomatch h
  | .ref _, h => nomatch h
  | .ty _, h => nomatch h
  | .deck, h => nomatch h
theorem layL_py : ∀ xs : List D, okEL xs = true → PyData.canLayAll0 (pyL xs) = true
  | [], _ => rfl
  | x :: xs, h => by
    simp only [okEL, Bool.and_eq_true] at h
    simp only [pyL, PyData.canLayAll0, lay_py x h.1, layL_py xs h.2, Bool.and_self]
end
/-- the two kinds of comparison in one -/
theorem cmp_at (I : Inv X pins σ H s) (hB : SysB X.base) (hu : X.A.units + 64 < cLine) {S1 S2 : HD} {d e : D} {x y : V} {v u : Value} (rx : RelV x v) (ry : RelV y u) (q1 : RD X.K G S1 H d x) (q2 : RD X.K G S2 H e y) (h : eqk d e = true) (Q : VK) :
    (Q (.bl (eqd d e)) H → wpAny (model X.prog X.w) X.A (compareOp .Eq v u) (EP X pins σ Q) X.xe s) ∧ (Q (.bl (!eqd d e)) H → wpAny (model X.prog X.w) X.A (compareOp .NotEq v u) (EP X pins σ Q) X.xe s) := by
  unfold eqk at h
  have hor := Bool.or_eq_true_iff.mp h
  clear h
  rcases hor with h | h
  · simp only [Bool.and_eq_true, Bool.or_eq_true, decide_eq_true_eq] at h
    obtain ⟨⟨h1, h2⟩, h3⟩ := h
    obtain ⟨as, r1, _⟩ := rd_reads I hB d x v q1 rx (.inr h1)
    obtain ⟨bs, r2, _⟩ := rd_reads I hB e y u q2 ry (.inr h2)
    have room : X.A.units + min (py d).depth (py e).depth < cLine := by rw [dep_py, dep_py]; omega
    exact ⟨fun q => SeqAt.compareEq_reads r1 r2 (lay_py d h1) (lay_py e h2) room ⟨.bl _, H, I, rfl, q⟩, fun q => SeqAt.compareNe_reads r1 r2 (lay_py d h1) (lay_py e h2) room ⟨.bl _, H, I, rfl, q⟩⟩
  · have sc : scal x y = true → decide (x = y) = eqd d e → (Q (.bl (eqd d e)) H → wpAny (model X.prog X.w) X.A (compareOp .Eq v u) (EP X pins σ Q) X.xe s) ∧ (Q (.bl (!eqd d e)) H → wpAny (model X.prog X.w) X.A (compareOp .NotEq v u) (EP X pins σ Q) X.xe s) :=
      fun hs hb => ⟨fun q => op_eq pins s σ H x y v u Q I rx ry ⟨hs, by rw [hb]; exact q⟩, fun q => op_ne pins s σ H x y v u Q I rx ry ⟨hs, by rw [hb]; exact q⟩⟩
    have hu0 : X.A.units < cLine := by omega
    split at h
    · rename_i xs ys
      cases q1 with
      | tup h1 r1 =>
        cases q2 with
        | tup h2 r2 =>
          cases rx; cases ry
          obtain ⟨its, rv1, p1, _⟩ := I.tuple h1.sq
          obtain ⟨its2, rv2, p2, _⟩ := I.tuple h2.sq
          have l1 : its.length = xs.length := rv1.length.symm.trans r1.length.symm
          have l2 : its2.length = ys.length := rv2.length.symm.trans r2.length.symm
          have hz : min its.toArray.size its2.toArray.size = 0 := by
            rcases Bool.or_eq_true_iff.mp h with z | z
            · rw [List.isEmpty_iff] at z; subst z; simp [List.length_eq_zero_iff.mp l1]
            · rw [List.isEmpty_iff] at z; subst z; simp [List.length_eq_zero_iff.mp l2]
          have e1 : eqd (.tup xs) (.tup ys) = ((List.range (min its.toArray.size its2.toArray.size)).all (fun _ => true) && its.toArray.size == its2.toArray.size) := by
            rw [hz]
            show PyData.eqvAll (pyL xs) (pyL ys) = _
            simp only [List.range_zero, List.all_nil, Bool.true_and, List.size_toArray, l1, l2]
            rcases Bool.or_eq_true_iff.mp h with z | z
            · rw [List.isEmpty_iff] at z; subst z
              show PyData.eqvAll [] (pyL ys) = _
              rw [eqv_nilR, pyL_isEmpty]; cases ys <;> rfl
            · rw [List.isEmpty_iff] at z; subst z
              show PyData.eqvAll (pyL xs) [] = _
              rw [eqv_nilL, pyL_isEmpty]; cases xs <;> rfl
          have none : ∀ j (h1 : j < its.toArray.size) (h2 : j < its2.toArray.size), SeqAt.EqAt X.A.in1 s its.toArray[j] its2.toArray[j] ((fun _ => true) j) := fun j h1 h2 => by omega
          refine ⟨fun q => SeqAt.RcAt.tuples p1 p2 hu0 none X.prog X.w _ _ ?_, fun q => SeqAt.RcNeAt.tuples p1 p2 hu0 none X.prog X.w _ _ ?_⟩
          · rw [← e1]; exact ⟨.bl _, H, I, rfl, q⟩
          · rw [← e1]; exact ⟨.bl _, H, I, rfl, q⟩
    · rename_i xs ys
      cases q1 with
      | lst h1 r1 =>
        cases q2 with
        | lst h2 r2 =>
          cases rx; cases ry
          obtain ⟨its, rv1, p1', _⟩ := I.list h1.sq
          obtain ⟨its2, rv2, p2', _⟩ := I.list h2.sq
          have p1 := p1'.isList
          have p2 := p2'.isList
          have l1 : its.length = xs.length := rv1.length.symm.trans r1.length.symm
          have l2 : its2.length = ys.length := rv2.length.symm.trans r2.length.symm
          by_cases hz : its.toArray.size = its2.toArray.size
          · have e1 : eqd (.lst xs) (.lst ys) = true := by
              show PyData.eqvAll (pyL xs) (pyL ys) = true
              simp only [List.size_toArray, l1, l2] at hz
              have : xs = [] ∧ ys = [] := by
                rcases Bool.or_eq_true_iff.mp h with z | z
                · rw [List.isEmpty_iff] at z; subst z; exact ⟨rfl, List.length_eq_zero_iff.mp hz.symm⟩
                · rw [List.isEmpty_iff] at z; subst z; exact ⟨List.length_eq_zero_iff.mp hz, rfl⟩
              rw [this.1, this.2]; rfl
            have z0 : its.toArray.size = 0 := by
              rcases Bool.or_eq_true_iff.mp h with z | z
              · rw [List.isEmpty_iff] at z; subst z; simp [List.length_eq_zero_iff.mp l1]
              · rw [List.isEmpty_iff] at z; subst z; rw [hz]; simp [List.length_eq_zero_iff.mp l2]
            have e2 : (List.range its.toArray.size).all (fun _ => true) = true := by rw [z0]; rfl
            have none : ∀ j (h1 : j < its.toArray.size) (h2 : j < its2.toArray.size), SeqAt.EqAt X.A.in1 s its.toArray[j] its2.toArray[j] ((fun _ => true) j) := fun j h1 h2 => by omega
            refine ⟨fun q => SeqAt.RcAt.lists p1 p2 hz hu0 none X.prog X.w _ _ ?_, fun q => SeqAt.RcNeAt.lists p1 p2 hz hu0 none X.prog X.w _ _ ?_⟩
            · rw [e2, ← e1]; exact ⟨.bl _, H, I, rfl, q⟩
            · rw [e2, ← e1]; exact ⟨.bl _, H, I, rfl, q⟩
          · have e1 : eqd (.lst xs) (.lst ys) = false := by
              show PyData.eqvAll (pyL xs) (pyL ys) = false
              refine SeqAt.eqvAll_other_length ?_
              simp only [List.size_toArray, l1, l2] at hz
              rw [pyL_map, pyL_map, List.length_map, List.length_map]
              exact hz
            have hz' : (its.toArray.size != its2.toArray.size) = true := by simpa using hz
            refine ⟨fun q => SeqAt.RcAt.lists_lengths p1 p2 hz' hu0 X.prog X.w _ _ ?_, fun q => SeqAt.RcNeAt.lists_lengths p1 p2 hz' hu0 X.prog X.w _ _ ?_⟩
            · rw [← e1]; exact ⟨.bl _, H, I, rfl, q⟩
            · rw [e1] at q; exact ⟨.bl _, H, I, rfl, q⟩
    · cases q1; cases q2; exact sc rfl (by simp [eqd, py, PyData.eqv]; rw [Bool.eq_iff_iff]; simp)
    · cases q1; cases q2; exact sc rfl (by simp [eqd, py, PyData.eqv]; rw [Bool.eq_iff_iff]; simp)
    · cases q1; cases q2; exact sc rfl (by simp [eqd, py, PyData.eqv])
    · cases q1; cases q2; exact sc rfl (by simp [eqd, py, PyData.eqv])
    · cases q1; cases q2; exact sc rfl (by simp [eqd, py, PyData.eqv])
    · cases q1; cases q2; exact sc rfl (by simp [eqd, py, PyData.eqv])
    · cases q1; cases q2; exact sc rfl (by simp [eqd, py, PyData.eqv])
    · cases q1; cases q2; exact sc rfl (by simp [eqd, py, PyData.eqv])
    · cases h
theorem op_eqRD {k : Nat} (hr : RoomG k X.A) (hB : SysB X.base) : OpRD X (compareOp .Eq) rEqD := fun pins s σ H x y v u d e G S Qd Q I rx ry q1 q2 rh t p => by
  obtain ⟨S1, _, r1⟩ := nrm_ok rh q1
  obtain ⟨S2, _, r2⟩ := nrm_ok rh q2
  exact (cmp_at I hB hr.un64 rx ry r1 r2 t.1 Q).1 (p.here rh (.bl _) t.2)
theorem op_neRD {k : Nat} (hr : RoomG k X.A) (hB : SysB X.base) : OpRD X (compareOp .NotEq) rNeD := fun pins s σ H x y v u d e G S Qd Q I rx ry q1 q2 rh t p => by
  obtain ⟨S1, _, r1⟩ := nrm_ok rh q1
  obtain ⟨S2, _, r2⟩ := nrm_ok rh q2
  exact (cmp_at I hB hr.un64 rx ry r1 r2 t.1 Q).2 (p.here rh (.bl _) t.2)
end
end PD
end

section
/-! PD9: more comparisons, built-in calls, items, slices, what is walked, methods of lists. -/
namespace PD
open PySem PySem.Spec PyProof.Rows L2

section
variable {X : Cx} {a b c e : Expr} {ta tb tc : TED} {pos : Pos}
/-- comparison of ints -/
def rCmpI (f : Int → Int → Bool) : R2D := fun x y S Q => match x, y with
  | .int i, .int j => Q (.bl (f i j)) S
  | _, _ => False
theorem cmpI {K : PySem.W.Frag} {f : Int → Int → Bool} : Op2 K (rI0 fun i j => .bl (f i j)) (rCmpI f) := fun G S H d1 d2 v1 v2 Qd Q rh q1 q2 t p => by
  unfold rCmpI at t
  split at t
  · cases q1; cases q2; exact ⟨_, _, rfl, rfl, p.here rh (.bl _) t⟩
  · exact t.elim
abbrev fLt : Int → Int → Bool := fun i j => decide (i < j)
abbrev fLe : Int → Int → Bool := fun i j => decide (i ≤ j)
abbrev fGt : Int → Int → Bool := fun i j => decide (j < i)
abbrev fGe : Int → Int → Bool := fun i j => decide (j ≤ i)
/-- is None -/
def isN : D → Bool
  | .non => true
  | _ => false
def rIsN : R1D := fun x S Q => Q (.bl (isN x)) S
def rNotN : R1D := fun x S Q => Q (.bl (!isN x)) S
theorem isN_v {K : PySem.W.Frag} {G : Addr → Prop} {S : HD} {H : Hp} {d : D} {v : V} (q : RD K G S H d v) : decide (v = .non) = isN d := by
  cases q <;> simp [isN]
theorem de_isN {j pos'} (ha : DE X a ta) : DE X (.Compare a [.Is] [.Constant .none j pos'] pos) (tUnD rIsN ta) :=
  (pe_cmp (pc_isN ha) rfl).imp fun σ H Q ⟨G, σd, S, Qd, rs, rh, t, p⟩ => ⟨G, σd, S, _, rs, rh, t, fun S1 d v H1 f1 rh1 q1 t1 => by show Q (.bl (decide (v = .non))) H1; rw [isN_v q1]; exact p S1 _ _ H1 f1 rh1 (.bl _) t1⟩
theorem de_notN {j pos'} (ha : DE X a ta) : DE X (.Compare a [.IsNot] [.Constant .none j pos'] pos) (tUnD rNotN ta) :=
  (pe_cmp (pc_notN ha) rfl).imp fun σ H Q ⟨G, σd, S, Qd, rs, rh, t, p⟩ => ⟨G, σd, S, _, rs, rh, t, fun S1 d v H1 f1 rh1 q1 t1 => by show Q (.bl (!decide (v = .non))) H1; rw [isN_v q1]; exact p S1 _ _ H1 f1 rh1 (.bl _) t1⟩
/-- a op b op' c -/
def tChainD (rd rd' : R2D) (ta tb tc : TED) : TED := fun σ S Q => ta σ S fun x S1 => tb σ S1 fun y S2 => rd x y S2 fun z S3 => match z with
  | .bl true => tc σ S3 fun w S4 => rd' y w S4 Q
  | .bl false => Q (.bl false) S3
  | _ => False

/-! ### len, isinstance, and the like -/
def rLenD : SpD := fun ds S Q => match ds with
  | [.str x] => x.length ≤ sizeLine ∧ Q (.int x.length) S
  | [d] => match asSeq S d with
    | some xs => Q (.int xs.length) S
    | none => False
  | _ => False
theorem call_lenRD : CallRD X (.builtin "len") rLenD := .of (r := fun xs H Q => (∃ p ys, xs = [.ref p] ∧ (SqL X.K H p ys ∨ SqT X.K H p ys) ∧ Q (.int ys.length) H) ∨ ∃ z, xs = [.str z] ∧ z.length ≤ sizeLine ∧ Q (.int z.length) H) (call_len_seq.or call_len_str) fun G S H ds vs Qd Q rh rd t p => by
  unfold rLenD at t
  split at t
  · cases rd with
    | cons q1 r1 => cases r1; cases q1; exact .inr ⟨_, rfl, t.1, p.here rh (.int _) t.2⟩
  · split at t
    · rename_i xs e
      cases rd with
      | cons q1 r1 =>
        cases r1
        obtain ⟨a, ws, rfl, l, r⟩ := asSeq_ok rh e q1
        exact .inl ⟨a, ws, rfl, l, by rw [← r.length]; exact p.here rh (.int _) t⟩
    · exact t.elim
  · exact t.elim
inductive Ty where | tuple | list | int | bool | str | dict
def Ty.name : Ty → String
  | .tuple => "tuple" | .list => "list" | .int => "int" | .bool => "bool" | .str => "str" | .dict => "dict"
/-- of a built-in class? none: not told here -/
def isiB (S : HD) : Ty → D → Option Bool
  | t, .non => some false
  | t, .bl _ => some (match t with | .int => true | .bool => true | _ => false)
  | t, .int _ => some (match t with | .int => true | _ => false)
  | t, .str _ => some (match t with | .str => true | _ => false)
  | t, .tup _ => some (match t with | .tuple => true | _ => false)
  | t, .lst _ => some (match t with | .list => true | _ => false)
  | t, .dic _ => some (match t with | .dict => true | _ => false)
  | t, .ref a => match S.hp a with
    | some (.lst _) => some (match t with | .list => true | _ => false)
    | some (.dic _) => some (match t with | .dict => true | _ => false)
    | _ => none
  | _, .ty _ => none
  | _, .deck => none
def rIsiD (t : Ty) : SpD := fun ds S Q => match ds with
  | [d, .ty n] => n = t.name ∧ (match isiB S t d with
    | some b => Q (.bl b) S
    | none => False)
  | _ => False
def vty : D → String
  | .non => "NoneType" | .bl _ => "bool" | .int _ => "int" | .str _ => "str" | .tup _ => "tuple" | .lst _ => "list" | .dic _ => "dict" | _ => ""
theorem call_isiRD (t : Ty) : CallRD X (.builtin "isinstance") (rIsiD t) := .of call_isi fun G S H ds vs Qd Q rh rd h p => by
  unfold rIsiD at h
  split at h
  · rename_i d n
    obtain ⟨rfl, h⟩ := h
    split at h
    · rename_i b e
      cases rd with
      | cons q1 r1 =>
        cases r1 with
        | cons q2 r2 =>
          cases r2; cases q2
          have go : ∀ (T : String) {v : V}, TyX X.K H v (.type T) → kitB T t.name = some b → rIsi X.K [v, .ty t.name] H Q := fun T v ty k => ⟨v, .ty t.name, .type T, .type t.name, b, rfl, .ty _, ty, kit_ty k, p.here rh (.bl _) h⟩
          cases q1 with
          | non => cases e; exact go "NoneType" (.base .non) (by cases t <;> decide +kernel)
          | bl x => cases e; exact go "bool" (.base (.bl x)) (by cases t <;> decide +kernel)
          | int x => cases e; exact go "int" (.base (.int x)) (by cases t <;> decide +kernel)
          | str x => cases e; exact go "str" (.base (.str x)) (by cases t <;> decide +kernel)
          | tup h1 r =>
            cases e
            refine go "tuple" ?_ (by cases t <;> decide +kernel)
            rcases h1 with ⟨_, h1 | ⟨o, h1⟩⟩ | ⟨o, its, m, h1, h2, _⟩
            · exact .base (.tup h1)
            · exact .fTuple h1
            · exact .kTuple h1 h2
          | lst h1 r =>
            cases e
            refine go "list" ?_ (by cases t <;> decide +kernel)
            rcases h1 with ⟨_, h1 | ⟨o, h1⟩⟩ | ⟨o, its, m, h1, h2, _⟩
            · exact .base (.lst h1)
            · exact .base (.frz h1)
            · exact .kList h1 h2
          | dic h1 r =>
            cases e
            refine go "dict" ?_ (by cases t <;> decide +kernel)
            rcases h1 with ⟨_, h1 | ⟨o, h1⟩⟩
            · exact .base (.dK h1)
            · exact .fDict h1
          | ref a =>
            simp only [isiB] at e
            split at e
            · rename_i xs e1
              obtain ⟨_, _, ws, h1, _⟩ := rh.hp a _ e1
              cases e
              exact go "list" (.base (.lst h1)) (by cases t <;> decide +kernel)
            · rename_i xs e1
              obtain ⟨_, _, ws, h1, _⟩ := rh.hp a _ e1
              cases e
              exact go "dict" (.base (.dK h1)) (by cases t <;> decide +kernel)
            · cases e
          | ty _ => cases e
          | deck _ => cases e
    · exact h.elim
  · exact h.elim
/-- tuple(x) -/
def rTupleD : SpD := fun ds S Q => match ds with
  | [d] => match asSeq S d with
    | some xs => Q (.tup xs) S
    | none => False
  | _ => False
theorem call_tupleRD : CallRD X (.type "tuple") rTupleD := .of call_tuple_of fun G S H ds vs Qd Q rh rd t p => by
  unfold rTupleD at t
  split at t
  · split at t
    · rename_i d xs e
      cases rd with
      | cons q1 r1 =>
        cases r1
        cases q1 with
        | tup h1 r => cases e; exact ⟨_, _, rfl, .inr ⟨h1.sq, p.here rh (.tup h1 r) t⟩⟩
        | lst h1 r => cases e; exact ⟨_, _, rfl, .inl ⟨h1.sq, fun l hl => p.newT rh r t hl⟩⟩
        | ref a =>
          obtain ⟨q, ws, e2, l, r⟩ := asLst_ok (xs := xs) rh (show asLst S (.ref a) = some xs from e) (.ref a)
          cases e2
          exact ⟨_, _, rfl, .inl ⟨l, fun l hl => p.newT rh r t hl⟩⟩
        | _ => cases e
    · exact t.elim
  · exact t.elim
/-- list(x), frozen; list(x), tracked -/
def rListV : SpD := fun ds S Q => match ds with
  | [d] => match asSeq S d with
    | some xs => Q (.lst xs) S
    | none => False
  | _ => False
def rListR : SpD := fun ds S Q => match ds with
  | [d] => match asSeq S d with
    | some xs => ∀ p, S.hp p = none → Q (.ref p) (S.set p (.lst xs))
    | none => False
  | _ => False
theorem call_listV : CallRD X (.type "list") rListV := .of call_list_of fun G S H ds vs Qd Q rh rd t p => by
  unfold rListV at t
  split at t
  · split at t
    · rename_i d xs e
      cases rd with
      | cons q1 r1 =>
        cases r1
        obtain ⟨a, ws, rfl, l, r⟩ := asSeq_ok rh e q1
        exact ⟨a, ws, rfl, l, fun l hl => p.newL rh r t hl⟩
    · exact t.elim
  · exact t.elim
theorem call_listR : CallRD X (.type "list") rListR := .of call_list_of fun G S H ds vs Qd Q rh rd t p => by
  unfold rListR at t
  split at t
  · split at t
    · rename_i d xs e
      cases rd with
      | cons q1 r1 =>
        cases r1
        obtain ⟨a, ws, rfl, l, r⟩ := asSeq_ok rh e q1
        exact ⟨a, ws, rfl, l, fun l hl => p.newR rh r t hl⟩
    · exact t.elim
  · exact t.elim
def rIntD : SpD := fun ds S Q => match ds with
  | [.int i] => Q (.int i) S
  | [.bl b] => Q (.int (if b then 1 else 0)) S
  | _ => False
theorem call_intRD : CallRD X (.type "int") rIntD := .of call_int1 fun G S H ds vs Qd Q rh rd t p => by
  unfold rIntD at t
  split at t
  · cases rd with
    | cons q1 r1 => cases r1; cases q1; exact .inl ⟨_, rfl, p.here rh (.int _) t⟩
  · cases rd with
    | cons q1 r1 => cases r1; cases q1; exact .inr ⟨_, rfl, p.here rh (.int _) t⟩
  · exact t.elim
def rBoolD : SpD := fun ds S Q => match ds with
  | [.int i] => Q (.bl (i != 0)) S
  | [.bl b] => Q (.bl b) S
  | _ => False
theorem call_boolRD : CallRD X (.type "bool") rBoolD := .of call_bool1 fun G S H ds vs Qd Q rh rd t p => by
  unfold rBoolD at t
  split at t
  · cases rd with
    | cons q1 r1 => cases r1; cases q1; exact .inl ⟨_, rfl, p.here rh (.bl _) t⟩
  · cases rd with
    | cons q1 r1 => cases r1; cases q1; exact .inr ⟨_, rfl, p.here rh (.bl _) t⟩
  · exact t.elim
def rStrD : SpD := fun ds S Q => match ds with
  | [.int i] => i.natAbs.log2 < 1920 ∧ Q (.str (toString i)) S
  | _ => False
theorem call_strRD : CallRD X (.type "str") rStrD := .of call_str_int fun G S H ds vs Qd Q rh rd t p => by
  unfold rStrD at t
  split at t
  · cases rd with
    | cons q1 r1 => cases r1; cases q1; exact ⟨_, rfl, t.1, p.here rh (.str _) t.2⟩
  · exact t.elim
def rAbsD : SpD := fun ds S Q => match ds with
  | [.int i] => Q (.int (if i < 0 then -i else i)) S
  | _ => False
theorem call_absRD : CallRD X (.builtin "abs") rAbsD := .of call_abs fun G S H ds vs Qd Q rh rd t p => by
  unfold rAbsD at t
  split at t
  · cases rd with
    | cons q1 r1 => cases r1; cases q1; exact ⟨_, rfl, p.here rh (.int _) t⟩
  · exact t.elim
def rMax2 : SpD := fun ds S Q => match ds with
  | [.int i, .int j] => Q (.int (if j > i then j else i)) S
  | _ => False
def rMin2 : SpD := fun ds S Q => match ds with
  | [.int i, .int j] => Q (.int (if j < i then j else i)) S
  | _ => False
theorem call_max2RD (hc : X.calm = true := by rfl) : CallRD X (.builtin "max") rMax2 := .of (call_max2 hc) fun G S H ds vs Qd Q rh rd t p => by
  unfold rMax2 at t
  split at t
  · cases rd with
    | cons q1 r1 =>
      cases r1 with
      | cons q2 r2 => cases r2; cases q1; cases q2; exact ⟨_, _, rfl, p.here rh (.int _) t⟩
  · exact t.elim
theorem call_min2RD (hc : X.calm = true := by rfl) : CallRD X (.builtin "min") rMin2 := .of (call_min2 hc) fun G S H ds vs Qd Q rh rd t p => by
  unfold rMin2 at t
  split at t
  · cases rd with
    | cons q1 r1 =>
      cases r1 with
      | cons q2 r2 => cases r2; cases q1; cases q2; exact ⟨_, _, rfl, p.here rh (.int _) t⟩
  · exact t.elim

/-! ### items and slices -/
theorem atI_rds {K : PySem.W.Frag} {G : Addr → Prop} {S : HD} {H : Hp} {ds : List D} {vs : List V} {i : Int} {d : D} (r : RDs K G S H ds vs) (h : atI ds i = some d) : ∃ v, atI vs i = some v ∧ RD K G S H d v := by
  unfold atI at h ⊢
  rw [← r.length]
  cases e : ixN ds.length i with
  | none => rw [e] at h; cases h
  | some j => rw [e] at h; exact r.get h
def rIxD : R2D := fun x y S Q => match x, y with
  | .str z, .int i => z.length ≤ sizeLine ∧ (match atI z.cps.toList i with
    | some c => Q (.str ⟨#[c]⟩) S
    | none => False)
  | x, .int i => (match asSeq S x with
    | some xs => (match atI xs i with
      | some d => Q d S
      | none => False)
    | none => False)
  | _, _ => False
theorem ix2 {K : PySem.W.Frag} : Op2 K (rIx K) rIxD := fun G S H d1 d2 v1 v2 Qd Q rh q1 q2 t p => by
  unfold rIxD at t
  split at t
  · cases q1; cases q2
    obtain ⟨hz, t⟩ := t
    split at t
    · rename_i c e
      exact .inr (.inr ⟨_, _, c, rfl, rfl, hz, e, p.here rh (.str _) t⟩)
    · exact t.elim
  · cases q2
    split at t
    · rename_i xs e
      split at t
      · rename_i d e2
        obtain ⟨a, ws, rfl, l, r⟩ := asSeq_ok rh e q1
        obtain ⟨v, h1, h2⟩ := atI_rds r e2
        rcases l with l | l
        · exact .inl ⟨a, ws, _, v, rfl, rfl, l, h1, p.here rh h2 t⟩
        · exact .inr (.inl ⟨a, ws, _, v, rfl, rfl, l, h1, p.here rh h2 t⟩)
      · exact t.elim
    · exact t.elim
  · exact t.elim
theorem de_ix (ha : DE X a ta) (hb : DE X b tb) (hs : PlainIx b := by exact fun _ _ => rfl) : DE X (.Subscript a b pos) (tBin rIxD ta tb) := (pe_ix ix_seq ha hb hs).imp (up_bin ix2)
/-- the ends of a slice -/
abbrev TOD := SD → HD → (Option Int → HD → Prop) → Prop
def upO (K : PySem.W.Frag) (t : TOD) : TO := fun σ H Q => ∃ G σd S Qd, RSl K G S H σd σ ∧ RH K G S H ∧ t σd S Qd ∧ ∀ S' o H', FL S H S' H' → RH K G S' H' → Qd o S' → Q o H'
abbrev DO (X : Cx) (e : Option Expr) (t : TOD) : Prop := PO X e (upO X.K t)
theorem _root_.L2.PO.imp {X : Cx} {e : Option Expr} {t t' : TO} (h : PO X e t) (i : ∀ σ H Q, t' σ H Q → t σ H Q) : PO X e t' := ⟨fun pins s σ H Q I q => h.run pins s σ H Q I (i _ _ _ q)⟩
def oNone : TOD := fun _ S Q => Q none S
def oSome (t : TED) : TOD := fun σ S Q => t σ S fun d S1 => match d with
  | .int i => Q (some i) S1
  | _ => False
theorem do_none : DO X none oNone := po_none.imp fun σ H Q ⟨G, σd, S, Qd, rs, rh, t, p⟩ => p S _ H (.refl _ _) rh t
theorem do_some (h : DE X e ta) : DO X (some e) (oSome ta) := (po_some h).imp fun σ H Q ⟨G, σd, S, Qd, rs, rh, t, p⟩ => ⟨G, σd, S, _, rs, rh, t, fun S1 d v H1 f1 rh1 q1 t1 => by
  cases q1 with
  | int i => exact ⟨i, rfl, p S1 _ H1 f1 rh1 t1⟩
  | _ => exact t1.elim⟩
def cutD (xs : List D) (lo hi : Option Int) : List D := (xs.drop (HT.sIx xs.length 0 lo)).take (HT.sIx xs.length xs.length hi - HT.sIx xs.length 0 lo)
theorem RDs.cut {K : PySem.W.Frag} {G : Addr → Prop} {S : HD} {H : Hp} {ds : List D} {vs : List V} (r : RDs K G S H ds vs) (lo hi : Option Int) : RDs K G S H (cutD ds lo hi) (cutV vs lo hi) := by
  unfold cutD cutV
  rw [← r.length]
  exact (r.drop _).take _
def rSlD (x : D) (lo hi : Option Int) (S : HD) (Q : QD) : Prop := match x with
  | .str z => z.length ≤ sizeLine ∧ Q (.str (cutS z lo hi)) S
  | .tup xs => Q (.tup (cutD xs lo hi)) S
  | x => match asLst S x with
    | some xs => Q (.lst (cutD xs lo hi)) S
    | none => False
def tSlD (te : TED) (tl th : TOD) : TED := fun σ S Q => te σ S fun x S1 => tl σ S1 fun l S2 => th σ S2 fun u S3 => rSlD x l u S3 Q
theorem de_slice {lo hi : Option Expr} {tl th : TOD} {p2 : Pos} (he : DE X e ta) (hl : DO X lo tl) (hu : DO X hi th) : DE X (.Subscript e (.Slice lo hi none p2) pos) (tSlD ta tl th) :=
  (pe_slice (r := fun x lo hi H Q => rSlA X.K x lo hi H Q ∨ rSlL X.K x lo hi H Q ∨ rSlS x lo hi H Q) (sl_tupA.or (sl_list.or sl_str)) he hl hu).imp fun σ H Q ⟨G, σd, S, Qd, rs, rh, t, p⟩ =>
    ⟨G, σd, S, _, rs, rh, t, fun S1 d v H1 f1 rh1 q1 t1 => ⟨G, σd, S1, _, rs.fl f1, rh1, t1, fun S2 l H2 f2 rh2 t2 => ⟨G, σd, S2, _, rs.fl (f1.trans f2), rh2, t2, fun S3 u H3 f3 rh3 t3 => by
      have q3 := q1.fl (f2.trans f3)
      have p3 := p.fl (f1.trans (f2.trans f3))
      unfold rSlD at t3
      split at t3
      · cases q3; exact .inr (.inr ⟨_, rfl, t3.1, p3.here rh3 (.str _) t3.2⟩)
      · rename_i xs
        cases q3 with
        | @tup a vs _ h1 r1 =>
          refine .inl ⟨a, vs, rfl, h1.sq, fun hw => ?_, fun _ q hq => p3.newT rh3 (r1.cut l u) t3 hq⟩
          have e : cutD xs l u = xs := by
            unfold cutD
            rw [r1.length, hw.1, hw.2, ← r1.length]
            simp
          rw [e] at t3
          exact p3.here rh3 (.tup h1 r1) t3
      · split at t3
        · rename_i xs e1
          obtain ⟨a, ws, rfl, l1, r⟩ := asLst_ok rh3 e1 q3
          exact .inr (.inl ⟨a, ws, rfl, l1, fun q hq => p3.newL rh3 (r.cut l u) t3 hq⟩)
        · exact t3.elim⟩⟩⟩

/-! ### what is walked -/
theorem itOk_list {K : PySem.W.Frag} {G' : Addr → Prop} {S : HD} {H : Hp} {a : Addr} {xs : List D} {keep : HD → Prop} (h : ∀ S1 H1, FL S H S1 H1 → RH K G' S1 H1 → keep S1 → ∃ vs, SqL K H1 a vs ∧ RDs K G' S1 H1 xs vs) : ItOk K G' S H (Itl K a) xs keep where
  go := fun i d S1 H1 hx f r k => by
    obtain ⟨vs, h1, h2⟩ := h S1 H1 f r k
    obtain ⟨v, e1, e2⟩ := h2.get hx
    refine ⟨⟨vs, v, h1, e1⟩, fun x H2 y => ?_⟩
    obtain ⟨rfl, y⟩ := y
    have := y vs h1
    rw [e1] at this
    cases this
    exact ⟨.refl _ _, r, e2⟩
  stop := fun S1 H1 f r k => by
    obtain ⟨vs, h1, h2⟩ := h S1 H1 f r k
    exact ⟨vs, h1, by rw [h2.length]; exact Nat.le_refl _⟩
theorem itOk_tup {K : PySem.W.Frag} {G' : Addr → Prop} {S : HD} {H : Hp} {a : Addr} {xs : List D} {keep : HD → Prop} (h : ∀ S1 H1, FL S H S1 H1 → RH K G' S1 H1 → keep S1 → ∃ vs, SqT K H1 a vs ∧ RDs K G' S1 H1 xs vs) : ItOk K G' S H (Itt K a) xs keep where
  go := fun i d S1 H1 hx f r k => by
    obtain ⟨vs, h1, h2⟩ := h S1 H1 f r k
    obtain ⟨v, e1, e2⟩ := h2.get hx
    refine ⟨⟨vs, v, h1, e1⟩, fun x H2 y => ?_⟩
    obtain ⟨rfl, y⟩ := y
    have := y vs h1
    rw [e1] at this
    cases this
    exact ⟨.refl _ _, r, e2⟩
  stop := fun S1 H1 f r k => by
    obtain ⟨vs, h1, h2⟩ := h S1 H1 f r k
    exact ⟨vs, h1, by rw [h2.length]; exact Nat.le_refl _⟩
theorem itOk_rng {K : PySem.W.Frag} {G' : Addr → Prop} {S : HD} {H : Hp} {lo : Int} {n : Nat} {keep : HD → Prop} : ItOk K G' S H (Itr lo n) ((List.range n).map fun (i : Nat) => D.int (lo + i)) keep where
  go := fun i d S1 H1 hx f r k => by
    rw [List.getElem?_map] at hx
    cases e : (List.range n)[i]? with
    | none => rw [e] at hx; cases hx
    | some j =>
      rw [e] at hx
      obtain ⟨hi, e2⟩ := List.getElem?_eq_some_iff.mp e
      simp at hi e2
      subst e2
      cases hx
      refine ⟨hi, fun x H2 y => ?_⟩
      obtain ⟨rfl, rfl⟩ := y
      exact ⟨.refl _ _, r, .int _⟩
  stop := fun S1 H1 f r k => by
    show n ≤ _
    simp
/-- a list or a tuple, told by its value -/
def iAny (K : PySem.W.Frag) (tl : TE) : TI := fun σ H R => tl σ H fun x H1 => ∃ a, x = .ref a ∧ ((∃ xs, SqL K H1 a xs ∧ R (Itl K a) H1) ∨ ∃ xs, SqT K H1 a xs ∧ R (Itt K a) H1)
theorem pi_any {X : Cx} {tg l : Expr} {tl : TE} (hl : PE X l tl) : PI X tg l (iAny X.K tl) := by
  refine ⟨fun pins s σ H R I h => thn (hl.run pins s σ H _ I h) fun v s1 hv => ?_⟩
  obtain ⟨x, H1, I1, rx, a, rfl, q⟩ := hv
  cases rx
  have fp : ∀ b ∈ [s1.heap.objs.size], FpOk X pins H1 b := fun b hb => by
    obtain rfl : b = s1.heap.objs.size := by simpa using hb
    exact I1.fpOk (Nat.le_refl _) (I1.hok.fresh (Nat.le_refl _))
  rcases q with ⟨xs, hq, q⟩ | ⟨xs, hq, q⟩
  · obtain ⟨its, rv, pl, hz⟩ := I1.list hq
    exact wpAny_pyIter_list pl.isList ⟨s1.heap.objs.size, [s1.heap.objs.size], _, _, H1, rfl, I1.kept (t' := s1.toks) (fun b o e => Heap.get?_push_of_some _ e), turn_list a _, ⟨_, Heap.get?_push_size _ rfl, rfl, rfl⟩, fp, q⟩
  · obtain ⟨its, rv, pl, hz⟩ := I1.tuple hq
    exact wpAny_pyIter_tuple (show s1.heap.IsTuple a its.toArray from pl) ⟨s1.heap.objs.size, [s1.heap.objs.size], _, _, H1, rfl, I1.kept (t' := s1.toks) (fun b o e => Heap.get?_push_of_some _ e), turn_tuple a _, ⟨_, Heap.get?_push_size _ rfl, rfl, rfl⟩, fp, q⟩
def iSeqD (te : TED) : TID := fun σ S R => te σ S fun d S1 => match d with
  | .tup xs => xs.length ≤ sizeLine → R xs (fun _ => True) S1
  | .lst xs => xs.length ≤ sizeLine → R xs (fun _ => True) S1
  | .ref a => (match S1.hp a with
    | some (.lst xs) => xs.length ≤ sizeLine → R xs (fun S => S.hp a = some (.lst xs)) S1
    | _ => False)
  | _ => False
theorem FzT.mv {K : PySem.W.Frag} {G G' : Addr → Prop} {S S' : HD} {H H' : Hp} (m : Mv G S H G' S' H') {a : Addr} {vs : List V} (h : FzT K G S H a vs) : FzT K G' S' H' a vs := h.imp (fun z => m.rd z) id
theorem FzL.mv {K : PySem.W.Frag} {G G' : Addr → Prop} {S S' : HD} {H H' : Hp} (m : Mv G S H G' S' H') {a : Addr} {vs : List V} (h : FzL K G S H a vs) : FzL K G' S' H' a vs := h.imp (fun z => m.rd z) id
theorem di_seq {X : Cx} {tg l : Expr} {tl : TED} (hl : DE X l tl) : DI X tg l (iSeqD tl) :=
  (pi_any (PE.szs hl)).imp fun σ H R ⟨G, σd, S, Rd, rs, rh, t, p⟩ => ⟨G, σd, S, _, rs, rh, t, fun S1 d v H1 f1 rh1 q1 t1 hz => by
    cases q1 with
    | @tup a vs xs h1 r =>
      exact ⟨a, rfl, .inr ⟨vs, h1.sq, p S1 _ _ _ H1 f1 rh1 (fun G' S2 H2 m2 rh2 => itOk_tup fun S3 H3 f3 rh3 _ => ⟨vs, ((h1.mv m2).mv f3.mv).sq, (r.mv m2).fl f3⟩) (t1 (by rw [r.length]; exact hz.2 _ _ h1.sq))⟩⟩
    | @lst a vs xs h1 r =>
      exact ⟨a, rfl, .inl ⟨vs, h1.sq, p S1 _ _ _ H1 f1 rh1 (fun G' S2 H2 m2 rh2 => itOk_list fun S3 H3 f3 rh3 _ => ⟨vs, ((h1.mv m2).mv f3.mv).sq, (r.mv m2).fl f3⟩) (t1 (by rw [r.length]; exact hz.1 _ _ h1.sq))⟩⟩
    | ref a =>
      simp only at t1
      split at t1
      · rename_i xs e
        obtain ⟨_, _, vs, e1, r⟩ := rh1.hp a _ e
        refine ⟨a, rfl, .inl ⟨vs, SqL.of e1, p S1 _ _ _ H1 f1 rh1 (fun G' S2 H2 m2 rh2 => itOk_list fun S3 H3 f3 rh3 k3 => ?_) (t1 (by rw [r.length]; exact hz.1 _ _ (SqL.of e1)))⟩⟩
        obtain ⟨_, _, ws, e2, r2⟩ := rh3.hp a _ k3
        exact ⟨ws, SqL.of e2, r2⟩
      · exact t1.elim
    | _ => exact t1.elim⟩
/-- range(n), range(a, b) -/
def rngD (lo : Int) (n : Nat) : List D := (List.range n).map fun (i : Nat) => D.int (lo + i)
theorem rngD_len (lo : Int) (n : Nat) : (rngD lo n).length = n := by simp [rngD]
def iRng1D (ta : TAD) : TID := fun σ S R => ta σ S fun ds S1 => match ds with
  | [.int j] => (-1000000000 ≤ j ∧ j ≤ 10000000) ∧ R (rngD 0 j.toNat) (fun _ => True) S1
  | _ => False
def iRng2D (ta : TAD) : TID := fun σ S R => ta σ S fun ds S1 => match ds with
  | [.int i, .int j] => (-1000000000 ≤ i ∧ i ≤ 1000000000 ∧ -1000000000 ≤ j ∧ j ≤ 1000000000 ∧ j - i ≤ 10000000) ∧ R (rngD i (j - i).toNat) (fun _ => True) S1
  | _ => False
theorem di_range1 {X : Cx} {tg a : Expr} {ta : TAD} {p pos : Pos} (hm : X.mg "range" = none) (ha : DA X [a] ta) (hg : Gl X "range" := by rfl) (hs : starEach [a] X.env = [(false, eval a X.env)] := by rfl) : DI X tg (.Call (.Name "range" p) [a] [] pos) (iRng1D ta) :=
  (pi_range1 hg hm ha hs).imp fun σ H R ⟨G, σd, S, Rd, rs, rh, t, p⟩ => ⟨G, σd, S, _, rs, rh, t, fun S1 ds vs H1 f1 rh1 q1 t1 => by
    split at t1
    · cases q1 with
      | cons q r =>
        cases r; cases q
        exact ⟨_, rfl, by omega, by omega, p S1 _ _ _ H1 f1 rh1 (fun G' S2 H2 m2 rh2 => itOk_rng) t1.2⟩
    · exact t1.elim⟩
theorem di_range2 {X : Cx} {tg a b : Expr} {ta : TAD} {p pos : Pos} (hm : X.mg "range" = none) (ha : DA X [a, b] ta) (hg : Gl X "range" := by rfl) (hs : starEach [a, b] X.env = [(false, eval a X.env), (false, eval b X.env)] := by rfl) (hs2 : starEach [b] X.env = [(false, eval b X.env)] := by rfl) :
    DI X tg (.Call (.Name "range" p) [a, b] [] pos) (iRng2D ta) :=
  (pi_range2 hg hm ha hs hs2).imp fun σ H R ⟨G, σd, S, Rd, rs, rh, t, p⟩ => ⟨G, σd, S, _, rs, rh, t, fun S1 ds vs H1 f1 rh1 q1 t1 => by
    split at t1
    · cases q1 with
      | cons q r =>
        cases r with
        | cons q' r' =>
          cases r'; cases q; cases q'
          exact ⟨_, _, rfl, ⟨by omega, by omega, by omega, by omega⟩, p S1 _ _ _ H1 f1 rh1 (fun G' S2 H2 m2 rh2 => itOk_rng) t1.2⟩
    · exact t1.elim⟩

/-! ### methods of tracked lists, stores -/
theorem RH.writeL {K : PySem.W.Frag} {G : Addr → Prop} {S : HD} {H : Hp} (rh : RH K G S H) {a : Addr} {xs ys : List D} {ws : List V} (h : S.hp a = some (.lst xs)) (r : RDs K G S H ys ws) : RH K G (S.set a (.lst ys)) (upd H a (.lst ws)) ∧ FL S H (S.set a (.lst ys)) (upd H a (.lst ws)) := by
  have m : Mv G S H G (S.set a (.lst ys)) (upd H a (.lst ws)) := ⟨fun b o e z => by
    have ne : b ≠ a := fun q => by rw [← q, z.1] at h; cases h
    exact ⟨⟨by rw [HD.set_ne ne]; exact z.1, z.2.1, z.2.2⟩, by rw [upd_ne ne]; exact e⟩, fun _ e => e⟩
  exact rh.write h ⟨ws, upd_same, r.mv m⟩
/-- xs.append(v) -/
def tMethD (rd : D → List D → HD → QD → Prop) (to : TED) (ta : TAD) : TED := fun σ S Q => to σ S fun x S1 => ta σ S1 fun ds S2 => rd x ds S2 Q
def rAppD : D → List D → HD → QD → Prop := fun x ds S Q => match x, ds with
  | .ref a, [d] => (match S.hp a with
    | some (.lst xs) => xs.length < 16000000 ∧ Q .non (S.set a (.lst (xs ++ [d])))
    | _ => False)
  | _, _ => False
def isRefL (S : HD) : D → Prop
  | .ref a => ∃ xs, S.hp a = some (.lst xs)
  | _ => False
section
variable {X : Cx} {o e : Expr} {es : List Expr} {to : TED} {ta : TAD} {name : Str} {apos cpos : Pos}
/-- o.m(e, ..) of a tracked list; the receiver is told before the arguments are -/
def tMethL (rd : D → List D → HD → QD → Prop) (to : TED) (ta : TAD) : TED := fun σ S Q => to σ S fun x S1 => isRefL S1 x ∧ ta σ S1 fun ds S2 => rd x ds S2 Q
theorem de_methL {id : String} {r : V → List V → Hp → VK → Prop} {rd : D → List D → HD → QD → Prop} (slot : Slot "list" name id) (hty : typeOf (.builtin id) = pure (.type "method_descriptor")) (hm : MtR X id r)
    (i : ∀ G S H d v ds vs Qd Q, RH X.K G S H → RD X.K G S H d v → RDs X.K G S H ds vs → rd d ds S Qd → Post X.K G S H Qd Q → r v vs H Q) (ho : DE X o to) (ha : DA X (e :: es) ta)
    (hbase : attributeBase o name X.env (eval o X.env) = eval o X.env := by rfl)
    (hfew : ((backTo cpos (starEach (e :: es) X.env)).all (fun x => !x.1) && (backToKw cpos (keywordEach [] X.env)).all (fun x => x.1.isSome)
      && decide ((e :: es).length + ([] : List Keyword).length + (if ([] : List Keyword).isEmpty then 0 else 1) < 30)) = true := by rfl)
    (hline : (apos.endLine == cpos.line) = true := by rfl) (hs : starEach (e :: es) X.env = (false, eval e X.env) :: starEach es X.env := by rfl) (hplain : (backTo cpos (starEach es X.env)).any (·.1) = false := by rfl) :
    DE X (.Call (.Attribute o name apos) (e :: es) [] cpos) (tMethL rd to ta) :=
  (pe_bm PySem.F.plainAttrs_list slot hty hm ho ha hbase hfew hline hs hplain).imp fun σ H Q ⟨G, σd, S, Qd, rs, rh, t, p⟩ => ⟨G, σd, S, _, rs, rh, t, fun S1 d v H1 f1 rh1 q1 ⟨hl, t1⟩ => by
    cases q1 with
    | ref a =>
      obtain ⟨xs, e1⟩ := hl
      obtain ⟨_, _, ws, e2, _⟩ := rh1.hp a _ e1
      exact ⟨.inl ⟨rfl, _, SqL.of e2⟩, G, σd, S1, _, rs.fl f1, rh1, t1, fun S2 ds vs H2 f2 rh2 q2 t2 => i G S2 H2 _ _ ds vs _ _ rh2 (.ref a) q2 t2 (p.fl (f1.trans f2))⟩
    | _ => exact hl.elim⟩
theorem appD_ok {K : PySem.W.Frag} : ∀ G S H d v ds vs Qd Q, RH K G S H → RD K G S H d v → RDs K G S H ds vs → rAppD d ds S Qd → Post K G S H Qd Q → rAppend v vs H Q := by
  intro G S H d v ds vs Qd Q rh q1 q2 t p
  unfold rAppD at t
  split at t
  · rename_i a d
    split at t
    · rename_i xs e
      obtain ⟨_, _, ws, e1, r⟩ := rh.hp a _ e
      cases q1
      cases q2 with
      | @cons _ y _ _ q2 r2 =>
        cases r2
        obtain ⟨rh', f'⟩ := rh.writeL e (r.append (.cons q2 .nil))
        exact ⟨a, ws, y, rfl, rfl, e1, by have := r.length; have : (sizeLine : Nat) = 16777216 := rfl; omega, p _ _ _ _ f' rh' .non t.2⟩
    · exact t.elim
  · exact t.elim
theorem de_append (ho : DE X o to) (ha : DA X [e] ta) (hbase : attributeBase o "append" X.env (eval o X.env) = eval o X.env := by rfl)
    (hfew : ((backTo cpos (starEach (e :: []) X.env)).all (fun x => !x.1) && (backToKw cpos (keywordEach [] X.env)).all (fun x => x.1.isSome)
      && decide ((e :: ([] : List Expr)).length + ([] : List Keyword).length + (if ([] : List Keyword).isEmpty then 0 else 1) < 30)) = true := by rfl)
    (hline : (apos.endLine == cpos.line) = true := by rfl) (hs : starEach (e :: []) X.env = (false, eval e X.env) :: starEach [] X.env := by rfl) : DE X (.Call (.Attribute o "append" apos) [e] [] cpos) (tMethL rAppD to ta) :=
  de_methL PySem.F.slot_list_append PySem.F.type_list_append mt_append appD_ok ho ha hbase hfew hline hs rfl
end
end
end PD
end

section
/-! PD10: chains of comparisons, stores into lists, the deck of draws. -/
namespace PD
open PySem PySem.Spec PyProof.Rows L2

section
variable {X : Cx} {a b c e o i : Expr} {ta tb tc to ti : TED} {pos : Pos}
theorem up_chain {K : PySem.W.Frag} {r r' : R2} {rd rd' : R2D} (h : Op2 K r rd) (h' : Op2 K r' rd') : ∀ σ H Q, up K (tChainD rd rd' ta tb tc) σ H Q → tChain r r' (up K ta) (up K tb) (up K tc) σ H Q := fun σ H Q ⟨G, σd, S, Qd, rs, rh, t, p⟩ =>
  ⟨G, σd, S, _, rs, rh, t, fun S1 d v H1 f1 rh1 q1 t1 => ⟨G, σd, S1, _, rs.fl f1, rh1, t1, fun S2 d2 v2 H2 f2 rh2 q2 t2 => h G S2 H2 d d2 v v2 _ _ rh2 (q1.fl f2) q2 t2 fun S3 z vz H3 f3 rh3 q3 t3 => by
    cases q3 with
    | bl k =>
      refine ⟨k, rfl, ?_⟩
      cases k with
      | true => exact iteT ⟨G, σd, S3, _, rs.fl (f1.trans (f2.trans f3)), rh3, t3, fun S4 d4 v4 H4 f4 rh4 q4 t4 => h' G S4 H4 d2 d4 v2 v4 _ _ rh4 (q2.fl (f3.trans f4)) q4 t4 (p.fl (f1.trans (f2.trans (f3.trans f4))))⟩
      | false => exact iteF (p S3 _ _ H3 (f1.trans (f2.trans f3)) rh3 (.bl false) t3)
    | _ => exact t3.elim⟩⟩
theorem de_chain {op op' : CmpOp} {r r' : R2} {rd rd' : R2D} (ho : OpR X (compareOp op) r) (ho' : OpR X (compareOp op') r') (h : Op2 X.K r rd) (h' : Op2 X.K r' rd') (ha : DE X a ta) (hb : DE X b tb) (hc : DE X c tc)
    (hm : lastMarks [op, op'] [b, c] = false := by with_unfolding_all rfl) : DE X (.Compare a [op, op'] [b, c] pos) (tChainD rd rd' ta tb tc) := (pe_chain ho ho' ha hb hc hm).imp (up_chain h h')
theorem dt_chain {op op' : CmpOp} {r r' : R2} {rd rd' : R2D} (ho : OpR X (compareOp op) r) (ho' : OpR X (compareOp op') r') (h : Op2 X.K r rd) (h' : Op2 X.K r' rd') (ha : DE X a ta) (hb : DE X b tb) (hc : DE X c tc)
    (hm : lastMarks [op, op'] [b, c] = false := by with_unfolding_all rfl) : DT X (.Compare a [op, op'] [b, c] pos) (tTst (tChainD rd rd' ta tb tc)) :=
  (pt_chain ho ho' ha hb hc hm).imp fun σ H Q ⟨G, σd, S, Qd, rs, rh, t, p⟩ => up_chain h h' σ H _ ⟨G, σd, S, _, rs, rh, t, fun S1 d v H1 f1 rh1 q1 t1 => by
    cases q1 with
    | bl k => exact ⟨k, rfl, p S1 k H1 f1 rh1 t1⟩
    | _ => exact t1.elim⟩

/-! ### xs[i] = e -/
def rSetD (o i v : D) (S : HD) (Q : HD → Prop) : Prop := match o, i with
  | .ref a, .int k => (match S.hp a with
    | some (.lst xs) => (match ixN xs.length k with
      | some j => Q (S.set a (.lst (xs.set j v)))
      | none => False)
    | _ => False)
  | _, _ => False
def gSubD (to ti : TED) : TGD := fun v σ S Q => to σ S fun o S1 => ti σ S1 fun i S2 => rSetD o i v S2 fun S3 => Q σ S3
theorem dg_sub (ho : DE X o to) (hi : DE X i ti)
    (ha : ∀ v, assign (.Subscript o i pos) X.env v = (do
      let ov ← holding [v] (eval o X.env)
      let iv ← holding [v, ov] (eval i X.env)
      standAt pos
      holding [v, ov, iv] (setItem ov iv v)
      release [v, ov, iv] []) := by intro _; rfl) : DG X (.Subscript o i pos) (gSubD to ti) :=
  (pg_sub ho hi set_list ha).imp fun v σ H Q ⟨G, σd, S, d, Qd, rs, rh, q, t, p⟩ =>
    ⟨G, σd, S, _, rs, rh, t, fun S1 d1 v1 H1 f1 rh1 q1 t1 => ⟨G, σd, S1, _, rs.fl f1, rh1, t1, fun S2 d2 v2 H2 f2 rh2 q2 t2 => by
      unfold rSetD at t2
      split at t2
      · split at t2
        · rename_i xs e
          split at t2
          · rename_i j ej
            cases q1
            cases q2
            obtain ⟨_, _, ws, e1, r⟩ := rh2.hp _ _ e
            obtain ⟨rh', f'⟩ := rh2.writeL e (r.set (q.fl (f1.trans f2)) j)
            exact ⟨_, ws, _, j, rfl, rfl, e1, by rw [← r.length]; exact ej, p _ _ _ _ (f1.trans (f2.trans f')) rh' (rs.fl (f1.trans (f2.trans f'))) t2⟩
          · exact t2.elim
        · exact t2.elim
      · exact t2.elim⟩⟩
end

/-! ### the deck of draws -/
section
variable {K : PySem.W.Frag} {G : Addr → Prop} {S : HD} {H : Hp}
theorem rds_ints : ∀ {ns : List Int} {vs : List V}, RDs K G S H (ns.map D.int) vs → vs = ns.map V.int
  | [], _, h => by cases h; rfl
  | n :: ns, _, h => by
    cases h with
    | cons q r => cases q; rw [rds_ints r]; rfl
/-- the deck alone, opened -/
def openD (S : HD) (a b : Addr) (cells : List Int) (n : Nat) : HD := { hp := fun x => if x = a then some (.lst [.ref b, .int (n : Int)]) else if x = b then some (.lst (cells.map D.int)) else none, c := S.c, dk := none }
theorem openD_rh (rh : RH K G S H) {a b : Addr} (h : S.dk = some (a, b)) {cells : List Int} {n : Nat} (h1 : H a = some (.lst [.ref b, .int (n : Int)])) (h2 : H b = some (.lst (cells.map V.int))) : RH K G (openD S a b cells n) H where
  hp := fun x o e => by
    have nd : ¬ Dk (openD S a b cells n) x := fun ⟨p, q, _⟩ => by cases q
    simp only [openD] at e
    split at e
    · rename_i hx
      subst hx
      cases e
      exact ⟨nd, fun g => (rh.rs x g).2 ⟨_, h, .inl rfl⟩, _, h1, .cons (.ref _) (.cons (.int _) .nil)⟩
    · split at e
      · rename_i _ hx
        subst hx
        cases e
        exact ⟨nd, fun g => (rh.rs x g).2 ⟨_, h, .inr rfl⟩, _, h2, RDs.ints _⟩
      · cases e
  rs := fun x g => ⟨(rh.rs x g).1, fun ⟨p, q, _⟩ => by cases q⟩
  dk := fun _ _ e => by cases e
theorem closeD (rh : RH K G S H) {a b : Addr} (h : S.dk = some (a, b)) {cells cells' : List Int} {n m : Nat} {S1 : HD} {H1 : Hp} (f1 : FL (openD S a b cells n) H S1 H1) (rh1 : RH K G S1 H1)
    (h1 : S1.hp a = some (.lst [.ref b, .int (m : Int)])) (h2 : S1.hp b = some (.lst (cells'.map D.int))) (hl : cells'.length ≤ 63) (hp : ∀ z ∈ cells', 0 ≤ z) (hm : m ≤ S.c + 1) : FL S H (S.tick 1) H1 ∧ RH K G (S.tick 1) H1 := by
  obtain ⟨nab, ha, hb, _⟩ := rh.dk a b h
  have out : ∀ {x : Addr}, x ≠ a → x ≠ b → (openD S a b cells n).hp x = none := fun {x} n1 n2 => by simp [openD, n1, n2]
  have nd : ∀ x, ¬ Dk (openD S a b cells n) x := fun x ⟨p, q, _⟩ => by cases q
  have ne : ∀ {x : Addr}, ¬ Dk S x → x ≠ a ∧ x ≠ b := fun {x} d => ⟨fun z => d ⟨_, h, .inl z⟩, fun z => d ⟨_, h, .inr z⟩⟩
  have fl : FL S H (S.tick 1) H1 := ⟨fun x o e n d => by
    obtain ⟨n1, n2⟩ := ne d
    exact ⟨n, d, (f1.kp x o e (out n1 n2) (nd x)).2.2⟩, fun p q => q⟩
  refine ⟨fl, ⟨fun x o e => ?_, fun x g => ?_, fun c d e => ?_⟩⟩
  · obtain ⟨d, g, r⟩ := rh.hp x o e
    obtain ⟨n1, n2⟩ := ne d
    obtain ⟨u, q⟩ := r.there
    exact ⟨d, g, r.mv fl.mv (((f1.kp x u q (out n1 n2) (nd x)).2.2).trans q.symm)⟩
  · obtain ⟨⟨o, e⟩, d⟩ := rh.rs x g
    obtain ⟨n1, n2⟩ := ne d
    exact ⟨⟨o, (f1.kp x o e (out n1 n2) (nd x)).2.2⟩, d⟩
  · have e' : S.dk = some (c, d) := e
    rw [h] at e'
    cases e'
    obtain ⟨_, _, vs, e1, r1⟩ := rh1.hp _ _ h1
    obtain ⟨_, _, ws, e2, r2⟩ := rh1.hp _ _ h2
    rw [rds_ints r2] at e2
    have e3 : vs = [.ref b, .int (m : Int)] := by
      cases r1 with
      | cons q r =>
        cases r with
        | cons q' r' => cases r'; cases q; cases q'; rfl
    rw [e3] at e1
    exact ⟨nab, ha, hb, cells', m, e1, e2, hm, hl, hp⟩
/-- a new deck -/
theorem newDeck {S1 : HD} {H1 : Hp} (rh : RH K G S H) (h0 : S.dk = none) (f1 : FL S H S1 H1) (rh1 : RH K G S1 H1) (hs : ∀ x o, S.hp x = some o → S1.hp x = some o) (hd1 : S1.dk = none) {a b : Addr} {cells : List Int} (nab : a ≠ b) (na : S.hp a = none) (nb : S.hp b = none)
    (h1 : S1.hp a = some (.lst [.ref b, .int 0])) (h2 : S1.hp b = some (.lst (cells.map D.int))) (hl : cells.length ≤ 63) (hp : ∀ z ∈ cells, 0 ≤ z) : FL S H { S with dk := some (a, b), c := 0 } H1 ∧ RH K G { S with dk := some (a, b), c := 0 } H1 := by
  have nd1 : ∀ x, ¬ Dk S1 x := fun x ⟨p, q, _⟩ => by rw [hd1] at q; cases q
  have nd : ∀ x, ¬ Dk S x := fun x ⟨p, q, _⟩ => by rw [h0] at q; cases q
  have nd2 : ∀ {x : Addr}, x ≠ a → x ≠ b → ¬ Dk { S with dk := some (a, b), c := 0 } x := fun {x} n1 n2 ⟨p, q, z⟩ => by
    have q' : some (a, b) = some p := q
    cases q'
    exact z.elim n1 n2
  have ne : ∀ {x : Addr}, S1.hp x = none → x ≠ a ∧ x ≠ b := fun {x} e => ⟨fun z => (by rw [z, h1] at e; cases e), fun z => (by rw [z, h2] at e; cases e)⟩
  have back : ∀ {x : Addr}, S1.hp x = none → S.hp x = none := fun {x} e => by
    cases q : S.hp x with
    | none => rfl
    | some o => rw [hs x o q] at e; cases e
  have mv : Mv G S1 H1 G { S with dk := some (a, b), c := 0 } H1 := ⟨fun x o e z => by
    obtain ⟨n1, n2⟩ := ne z.1
    exact ⟨⟨back z.1, nd2 n1 n2, z.2.2⟩, e⟩, fun p q => by rw [hd1] at q; cases q⟩
  refine ⟨⟨fun x o e n d => ?_, fun p q => by rw [h0] at q; cases q⟩, ⟨fun x o e => ?_, fun x g => ?_, fun c d e => ?_⟩⟩
  · obtain ⟨n', d', e'⟩ := f1.kp x o e n d
    obtain ⟨n1, n2⟩ := ne n'
    exact ⟨n, nd2 n1 n2, e'⟩
  · obtain ⟨d, g, r⟩ := rh1.hp x o (hs x o e)
    have n1 : x ≠ a := fun z => by rw [z, na] at e; cases e
    have n2 : x ≠ b := fun z => by rw [z, nb] at e; cases e
    exact ⟨nd2 n1 n2, g, r.mv mv rfl⟩
  · refine ⟨(rh1.rs x g).1, nd2 (fun z => ?_) fun z => ?_⟩
    · exact (rh1.hp _ _ h1).2.1 (z ▸ g)
    · exact (rh1.hp _ _ h2).2.1 (z ▸ g)
  · have e' : some (a, b) = some (c, d) := e
    cases e'
    obtain ⟨_, _, vs, e1, r1⟩ := rh1.hp _ _ h1
    obtain ⟨_, _, ws, e2, r2⟩ := rh1.hp _ _ h2
    rw [rds_ints r2] at e2
    have e3 : vs = [.ref b, .int 0] := by
      cases r1 with
      | cons q r =>
        cases r with
        | cons q' r' => cases r'; cases q; cases q'; rfl
    rw [e3] at e1
    exact ⟨nab, na, nb, cells, 0, e1, e2, Nat.le_refl _, hl, hp⟩
end
/-- a draw: a number below m -/
def spDraw : SpD := fun ds S Q => match ds with
  | [.deck, .int m] => (1 ≤ m ∧ m ≤ 500000000 ∧ S.c < 1000000000000) ∧ ∀ r : Int, 0 ≤ r → r < m → Q (.int r) (S.tick 1)
  | _ => False
/-- the deck of a script -/
def spDeck : SpD := fun ds S Q => match ds with
  | [.lst xs] => (∃ ns : List Int, xs = ns.map D.int) ∧ S.dk = none ∧ ∀ p, Q .deck { S with dk := some p, c := 0 }
  | _ => False
/-- what the body of a draw must do, the deck open -/
def DrawOk (t : TSD) (n : Nat) : Prop := ∀ (S : HD) (a b : Addr) (cells : List Int) (k : Nat) (m : Int), a ≠ b → k < 1000000000000 → cells.length ≤ 63 → (∀ z ∈ cells, 0 ≤ z) → 1 ≤ m → m ≤ 500000000 →
  t { nx := fun _ _ => False, rt := fun d S1 => ∃ (r : Int) (cells' : List Int), d = .int r ∧ 0 ≤ r ∧ r < m ∧ S1.hp a = some (.lst [.ref b, .int ((k + 1 : Nat) : Int)]) ∧ S1.hp b = some (.lst (cells'.map D.int)) ∧ cells'.length ≤ 63 ∧ ∀ z ∈ cells', 0 ≤ z }
    (pad n [.ref a, .int m]) (openD S a b cells k)
/-- what the body that makes a deck must do -/
def DeckOk (t : TSD) (n : Nat) : Prop := ∀ (S : HD) (ns : List Int), S.dk = none →
  t { nx := fun _ _ => False, rt := fun d S1 => ∃ (a b : Addr) (cells : List Int), d = .ref a ∧ a ≠ b ∧ S.hp a = none ∧ S.hp b = none ∧ S1.hp a = some (.lst [.ref b, .int 0]) ∧ S1.hp b = some (.lst (cells.map D.int)) ∧ cells.length ≤ 63 ∧ (∀ z ∈ cells, 0 ≤ z) ∧ (∀ x o, S.hp x = some o → S1.hp x = some o) ∧ S1.dk = none }
    (pad n [.lst (ns.map D.int)]) S
section
variable {P : Program} {w : World} {K : PySem.W.Frag} {mg : Str → Option Value} {base : Heap} {x qual : Str} {st : Stmt} {f : Addr} {fd : FuncData} {N : List Str} {k : Nat}
theorem FnD.draw {p1 p2 : Str} (F : Fun K x qual st f fd) (Sc : FnScope N [p1, p2] (defScope st)) (t : TSD)
    (hd : ∀ (cdv : Value) (A : Around) (outer : List Env) (s : Shared) (H : Hp), RoomG k (A.deeper (envOfC qual (defScope st) s.heap.objs.size f cdv)) →
      DSs (cxOf CX0 P w K mg base N qual (defScope st) f cdv A outer s H E0).nox (defBody st) t)
    (ok : DrawOk t N.length) : FnD P w K mg base (k + 1) f fd [p1, p2] spDraw := by
  refine FnD.core F Sc t (fun ds S Q q => ?_) hd fun ds S Qd hsp G H vs rh rd => ?_
  · unfold spDraw at q
    split at q
    · rfl
    · exact q.elim
  · unfold spDraw at hsp
    split at hsp
    · rename_i m
      obtain ⟨⟨m1, m2, m3⟩, hsp⟩ := hsp
      cases rd with
      | cons q r =>
        cases r with
        | cons q' r' =>
          cases r'; cases q'
          cases q with
          | @deck a b e =>
            obtain ⟨nab, ha, hb, cells, n, h1, h2, h3, h4, h5⟩ := rh.dk a b e
            refine ⟨_, _, _, openD_rh rh e h1 h2, .cons (.ref a) (.cons (.int m) .nil), ok S a b cells n m nab (by omega) h4 h5 m1 m2, ?_, fun _ _ _ _ _ q => q.elim, fun _ _ q => q, fun _ _ q => q, fun _ _ _ q => q⟩
            rintro S1 d v H1 f1 rh1 rd1 ⟨r, cells', rfl, r0, r1, g1, g2, g3, g4⟩
            cases rd1
            obtain ⟨fl, rh2⟩ := closeD rh e f1 rh1 g1 g2 g3 g4 (by omega)
            exact ⟨_, .int r, fl, rh2, .int r, hsp r r0 r1⟩
    · exact hsp.elim
theorem FnD.deck {p1 : Str} (F : Fun K x qual st f fd) (Sc : FnScope N [p1] (defScope st)) (t : TSD)
    (hd : ∀ (cdv : Value) (A : Around) (outer : List Env) (s : Shared) (H : Hp), RoomG k (A.deeper (envOfC qual (defScope st) s.heap.objs.size f cdv)) →
      DSs (cxOf CX0 P w K mg base N qual (defScope st) f cdv A outer s H E0).nox (defBody st) t)
    (ok : DeckOk t N.length) : FnD P w K mg base (k + 1) f fd [p1] spDeck := by
  refine FnD.core F Sc t (fun ds S Q q => ?_) hd fun ds S Qd hsp G H vs rh rd => ?_
  · unfold spDeck at q
    split at q
    · rfl
    · exact q.elim
  · unfold spDeck at hsp
    split at hsp
    · obtain ⟨⟨ns, rfl⟩, h0, hsp⟩ := hsp
      refine ⟨_, S, _, rh, rd, ok S ns h0, ?_, fun _ _ _ _ _ q => q.elim, fun _ _ q => q, fun _ _ q => q, fun _ _ _ q => q⟩
      rintro S1 d v H1 f1 rh1 rd1 ⟨a, b, cells, rfl, nab, na, nb, h1, h2, h3, h4, h5, h6⟩
      cases rd1
      obtain ⟨fl, rh2⟩ := newDeck rh h0 f1 rh1 h5 h6 nab na nb h1 h2 h3 h4
      exact ⟨_, .deck, fl, rh2, .deck rfl, hsp (a, b)⟩
    · exact hsp.elim
end
end PD
end

section
/-! PD11: small rules that the printer of derivations uses. -/
namespace PD
open PySem PySem.Spec PyProof.Rows L2
section
variable {X : Cx} {a b c e : Expr} {ta tb tc : TED} {pos : Pos}
theorem dt_isN {j pos'} (ha : DE X a ta) : DT X (.Compare a [.Is] [.Constant .none j pos'] pos) (tTst (tUnD rIsN ta)) :=
  (pt_cmp (pc_isN ha) rfl).imp fun σ H Q ⟨G, σd, S, Qd, rs, rh, t, p⟩ => ⟨G, σd, S, _, rs, rh, t, fun S1 d v H1 f1 rh1 q1 t1 => ⟨_, rfl, by rw [isN_v q1]; exact p S1 _ H1 f1 rh1 t1⟩⟩
theorem dt_notN {j pos'} (ha : DE X a ta) : DT X (.Compare a [.IsNot] [.Constant .none j pos'] pos) (tTst (tUnD rNotN ta)) :=
  (pt_cmp (pc_notN ha) rfl).imp fun σ H Q ⟨G, σd, S, Qd, rs, rh, t, p⟩ => ⟨G, σd, S, _, rs, rh, t, fun S1 d v H1 f1 rh1 q1 t1 => ⟨_, rfl, by rw [isN_v q1]; exact p S1 _ H1 f1 rh1 t1⟩⟩
theorem de_gI {x : Str} {i : Int} {pos : Pos} (hm : ∃ t, X.mg x = some (.int i t)) (hg : Gl X x := by rfl) (hd : (x == ("__debug__" : Str)) = false := by decide) : DE X (.Name x pos) (tCD (.int i)) :=
  let ⟨_, h⟩ := hm; de_globI hg h hd
theorem de_gS {x : Str} {i : Str} {pos : Pos} (hm : ∃ t, X.mg x = some (.str i t)) (hg : Gl X x := by rfl) (hd : (x == ("__debug__" : Str)) = false := by decide) : DE X (.Name x pos) (tCD (.str i)) :=
  let ⟨_, h⟩ := hm; de_globS hg h hd
theorem de_eq {k : Nat} (hr : RoomG k X.A) (hB : SysB X.base) (ha : DE X a ta) (hb : DE X b tb) : DE X (.Compare a [.Eq] [b] pos) (tBin rEqD ta tb) := de_cmp (op_eqRD hr hB).toR lift2 ha hb (nomark _)
theorem de_ne {k : Nat} (hr : RoomG k X.A) (hB : SysB X.base) (ha : DE X a ta) (hb : DE X b tb) : DE X (.Compare a [.NotEq] [b] pos) (tBin rNeD ta tb) := de_cmp (op_neRD hr hB).toR lift2 ha hb (nomark _)
theorem dt_eq {k : Nat} (hr : RoomG k X.A) (hB : SysB X.base) (ha : DE X a ta) (hb : DE X b tb) : DT X (.Compare a [.Eq] [b] pos) (tTst (tBin rEqD ta tb)) := dt_cmp (op_eqRD hr hB).toR lift2 ha hb (nomark _)
theorem dt_ne {k : Nat} (hr : RoomG k X.A) (hB : SysB X.base) (ha : DE X a ta) (hb : DE X b tb) : DT X (.Compare a [.NotEq] [b] pos) (tTst (tBin rNeD ta tb)) := dt_cmp (op_neRD hr hB).toR lift2 ha hb (nomark _)
theorem de_lt (ha : DE X a ta) (hb : DE X b tb) : DE X (.Compare a [.Lt] [b] pos) (tBin (rCmpI fLt) ta tb) := de_cmp op_lt cmpI ha hb (nomark _)
theorem de_le (ha : DE X a ta) (hb : DE X b tb) : DE X (.Compare a [.LtE] [b] pos) (tBin (rCmpI fLe) ta tb) := de_cmp op_le cmpI ha hb (nomark _)
theorem de_gt (ha : DE X a ta) (hb : DE X b tb) : DE X (.Compare a [.Gt] [b] pos) (tBin (rCmpI fGt) ta tb) := de_cmp op_gt cmpI ha hb (nomark _)
theorem de_ge (ha : DE X a ta) (hb : DE X b tb) : DE X (.Compare a [.GtE] [b] pos) (tBin (rCmpI fGe) ta tb) := de_cmp op_ge cmpI ha hb (nomark _)
theorem dt_lt (ha : DE X a ta) (hb : DE X b tb) : DT X (.Compare a [.Lt] [b] pos) (tTst (tBin (rCmpI fLt) ta tb)) := dt_cmp op_lt cmpI ha hb (nomark _)
theorem dt_le (ha : DE X a ta) (hb : DE X b tb) : DT X (.Compare a [.LtE] [b] pos) (tTst (tBin (rCmpI fLe) ta tb)) := dt_cmp op_le cmpI ha hb (nomark _)
theorem dt_gt (ha : DE X a ta) (hb : DE X b tb) : DT X (.Compare a [.Gt] [b] pos) (tTst (tBin (rCmpI fGt) ta tb)) := dt_cmp op_gt cmpI ha hb (nomark _)
theorem dt_ge (ha : DE X a ta) (hb : DE X b tb) : DT X (.Compare a [.GtE] [b] pos) (tTst (tBin (rCmpI fGe) ta tb)) := dt_cmp op_ge cmpI ha hb (nomark _)
/-- a < b < c -/
theorem de_lele (ha : DE X a ta) (hb : DE X b tb) (hc : DE X c tc) (hm : lastMarks [.LtE, .LtE] [b, c] = false := by with_unfolding_all rfl) : DE X (.Compare a [.LtE, .LtE] [b, c] pos) (tChainD (rCmpI fLe) (rCmpI fLe) ta tb tc) := de_chain op_le op_le cmpI cmpI ha hb hc hm
theorem dt_lele (ha : DE X a ta) (hb : DE X b tb) (hc : DE X c tc) (hm : lastMarks [.LtE, .LtE] [b, c] = false := by with_unfolding_all rfl) : DT X (.Compare a [.LtE, .LtE] [b, c] pos) (tTst (tChainD (rCmpI fLe) (rCmpI fLe) ta tb tc)) := dt_chain op_le op_le cmpI cmpI ha hb hc hm
theorem de_ltle (ha : DE X a ta) (hb : DE X b tb) (hc : DE X c tc) (hm : lastMarks [.Lt, .LtE] [b, c] = false := by with_unfolding_all rfl) : DE X (.Compare a [.Lt, .LtE] [b, c] pos) (tChainD (rCmpI fLt) (rCmpI fLe) ta tb tc) := de_chain op_lt op_le cmpI cmpI ha hb hc hm
theorem dt_ltle (ha : DE X a ta) (hb : DE X b tb) (hc : DE X c tc) (hm : lastMarks [.Lt, .LtE] [b, c] = false := by with_unfolding_all rfl) : DT X (.Compare a [.Lt, .LtE] [b, c] pos) (tTst (tChainD (rCmpI fLt) (rCmpI fLe) ta tb tc)) := dt_chain op_lt op_le cmpI cmpI ha hb hc hm
/-- {} that stays empty -/
def tDicV : TED := fun _ S Q => Q (.dic []) S
theorem de_dicV : DE X (.Dict [] [] pos) tDicV := pe_dnewK.imp fun σ H Q ⟨G, σd, S, Qd, rs, rh, t, p⟩ => fun q hq => by
  obtain ⟨r', f', z⟩ := rh.newF hq (.dK [])
  exact p S _ _ _ f' r' (.dic ⟨z, .inl upd_same⟩ .nil) t
theorem bt_repr : bootBuiltins "repr" = some (.builtin "repr") := by decide +kernel
theorem bt_isinstance : bootBuiltins "isinstance" = some (.builtin "isinstance") := by decide +kernel
theorem bt_len : bootBuiltins "len" = some (.builtin "len") := by decide +kernel
theorem bt_abs : bootBuiltins "abs" = some (.builtin "abs") := by decide +kernel
theorem bt_max : bootBuiltins "max" = some (.builtin "max") := by decide +kernel
theorem bt_min : bootBuiltins "min" = some (.builtin "min") := by decide +kernel
theorem bt_sum : bootBuiltins "sum" = some (.builtin "sum") := by decide +kernel
theorem bt_sorted : bootBuiltins "sorted" = some (.builtin "sorted") := by decide +kernel
theorem bt_int : bootBuiltins "int" = some (.type "int") := by decide +kernel
theorem bt_bool : bootBuiltins "bool" = some (.type "bool") := by decide +kernel
theorem bt_str : bootBuiltins "str" = some (.type "str") := by decide +kernel
theorem bt_tuple : bootBuiltins "tuple" = some (.type "tuple") := by decide +kernel
theorem bt_list : bootBuiltins "list" = some (.type "list") := by decide +kernel
theorem bt_dict : bootBuiltins "dict" = some (.type "dict") := by decide +kernel
theorem bt_set : bootBuiltins "set" = some (.type "set") := by decide +kernel
end
end PD
end

section
/-! PD12: the law's end over deep values. -/
namespace PD
open PySem PySem.Spec PyProof.Rows L2

/-- the law's promise: from the script it answers True -/
def spLaw : SpD := fun ds S Q => ∃ ns : List Int, ds = [.lst (ns.map D.int)] ∧ ns.length ≤ 63 ∧ S.hp = (fun _ => none) ∧ S.c = 0 ∧ S.dk = none ∧ ∀ S', Q (.bl true) S'
def S00 : HD := ⟨fun _ => none, 0, none⟩
theorem rds_ofInts {K : PySem.W.Frag} {G : Addr → Prop} {S : HD} {H : Hp} : ∀ ns : List Int, RDs K G S H (ns.map D.int) (ns.map V.int)
  | [] => .nil
  | n :: ns => .cons (.int n) (rds_ofInts ns)
section
variable {P : Program} {w : World} {K : PySem.W.Frag} {mg mb : Str → Option Value} {k : Nat} {fa a : Addr} {fd : FuncData} {x : Str} {s₁ : Shared} {vs : List Value} {ns : List Int}
/-- the script alone is tracked, or nothing -/
def scr (a : Addr) (vs : List Value) (ns : List Int) : Hp := fun b => if b = a then some (.frz { cls := .type "list", data := .seq vs.toArray } (.lst (ns.map V.int))) else none
def AOnly (a : Addr) (vs : List Value) (ns : List Int) (H : Hp) : Prop := (∀ b, H b = none) ∨ (∀ b, H b = scr a vs ns b)
theorem AOnly.cs {H : Hp} (h : AOnly a vs ns H) (b : Addr) : H b = none ∨ (b = a ∧ H b = some (.frz { cls := .type "list", data := .seq vs.toArray } (.lst (ns.map V.int)))) := by
  rcases h with h | h
  · exact .inl (h b)
  · rw [h b]
    unfold scr
    by_cases e : b = a
    · exact .inr ⟨e, if_pos e⟩
    · exact .inl (if_neg e)
theorem law_callD1 (KX : K.In s₁.heap) (hns : s₁.heap.Ns mainGlobals mg) (hsy : SysB s₁.heap) (hb : s₁.heap.Ns builtinsNs mb) (hbb : ∀ x : Str, x ≠ "__name__" → mb x = bootBuiltins x) (hlim : s₁.heap.NoLimit) (hg : s₁.gens = #[])
    (ha : s₁.heap.get? a = some { cls := .type "list", data := .seq vs.toArray }) (hl : ns.length ≤ 63) (hr : RoomG k callerA)
    (F : ∀ base : Heap, K.In base → base.Ns mainGlobals mg → SysB base → FnD P w K mg base k fa fd [x] spLaw) (hbind : ∀ (s : Shared) (u : Value), BindsTo s fd ⟨[u], []⟩ [(x, u)])
    {H : Hp} (hO : AOnly a vs ns H) (hS : FzL K (fun _ => False) S00 H a (ns.map V.int)) (hok : HOk P w H s₁.heap) (hK : H a ≠ none → K.lookup a = none) :
    codeAny (model P w) callerA (.call (.ref fa) ⟨[.ref a], []⟩) (fun r s' => r = .ok (.ret (.bool true)) ∧ OldK s₁.heap s'.heap ∧ s'.os = s₁.os ∧ AllBare s'.gens) s₁ := by
  have nd : ∀ {b : Addr} {o : Obj} {es : Array DictEntry} {ep : Nat}, s₁.heap.get? b = some o → o.data = .dict es ep → H b = none := fun {b o es ep} e d => by
    rcases hO.cs b with z | ⟨z, _⟩
    · exact z
    · subst z
      rw [ha] at e
      cases e
      exact nomatch (show Data.seq vs.toArray _ = Data.dict es ep from d)
  have ns' : ∀ {b : Addr} {m : Str → Option Value}, s₁.heap.Ns b m → (hidT s₁.heap H).Ns b m := fun {b m} ⟨o, es, ep, e, d, r⟩ => ⟨o, es, ep, hidT_get e (nd e d), d, r⟩
  have kin : K.In (hidT s₁.heap H) := fun b o e => hidT_get (KX b o e) (by
    rcases hO.cs b with z | ⟨z, z'⟩
    · exact z
    · subst z
      rw [hK (by rw [z']; simp)] at e
      cases e)
  have sy : SysB (hidT s₁.heap H) := let ⟨mm, h⟩ := hsy; ⟨mm, ns' h⟩
  have md : Mod K mg (hidT s₁.heap H) := ⟨kin, ns' hns, ⟨mb, ns' hb, hbb⟩, let ⟨mc, h1, h2⟩ := hlim; ⟨mc, ns' h1, h2⟩⟩
  have ev : Env0 P w K mg (hidT s₁.heap H) callerA [] s₁ H := ⟨rfl, md, fun b o e => of_hidT e, Nat.le_of_eq (hidT_size _ _), trivial, fun b hb => (nomatch (show b ∈ ([] : List Addr) from hb)), hok, .of_eq hg⟩
  have run := (F _ kin (ns' hns) sy).run callerA [] s₁ H ⟨[.ref a], []⟩ [.ref a] [.ref a] [.lst (ns.map D.int)] (fun _ => False) S00 (fun d _ => d = .bl true) hr ev (hbind s₁ (.ref a)) (.cons rfl .nil)
    (.cons (.lst hS (rds_ofInts ns)) .nil) ⟨fun _ _ e => (nomatch (show (none : Option OD) = some _ from e)), fun b (g : False) => False.elim g, fun _ _ e => (nomatch (show (none : Option (Addr × Addr)) = some _ from e))⟩ ⟨ns, rfl, hl, rfl, rfl, rfl, fun _ => rfl⟩
  refine codeAny_mono run fun r s' h => ?_
  match r, h with
  | .error e, h => exact False.elim h
  | .ok .next, h => exact False.elim h
  | .ok .brk, h => exact False.elim h
  | .ok .cont, h => exact False.elim h
  | .ok (.ret u), h =>
    obtain ⟨v, H', os, bare, un, hok', r', S', d, _, _, rd, rfl⟩ := h
    cases rd
    obtain rfl : u = Value.bool true := r'
    refine ⟨rfl, OldK.of_keep fun b o e => ?_, os, bare⟩
    rcases hO.cs b with z | ⟨_, z⟩
    · exact un.keep b o e z (fun q => nomatch (show b ∈ ([] : List Addr) from q)) (by simp)
    · obtain ⟨e1, _⟩ := hok b _ z
      obtain ⟨e2, _⟩ := hok' b _ (un.frzs b _ _ z)
      exact e2.trans (e1.symm.trans e)
theorem law_callD (KX : K.In s₁.heap) (hns : s₁.heap.Ns mainGlobals mg) (hsy : SysB s₁.heap) (hb : s₁.heap.Ns builtinsNs mb) (hbb : ∀ x : Str, x ≠ "__name__" → mb x = bootBuiltins x) (hlim : s₁.heap.NoLimit) (hg : s₁.gens = #[])
    (ha : s₁.heap.get? a = some { cls := .type "list", data := .seq vs.toArray }) (hi : IntsAre vs ns) (hl : ns.length ≤ 63) (hr : RoomG k callerA)
    (F : ∀ base : Heap, K.In base → base.Ns mainGlobals mg → SysB base → FnD P w K mg base k fa fd [x] spLaw) (hbind : ∀ (s : Shared) (u : Value), BindsTo s fd ⟨[u], []⟩ [(x, u)]) :
    codeAny (model P w) callerA (.call (.ref fa) ⟨[.ref a], []⟩) (fun r s' => r = .ok (.ret (.bool true)) ∧ OldK s₁.heap s'.heap ∧ s'.os = s₁.os ∧ AllBare s'.gens) s₁ := by
  have rv := vals_ints hi
  have hz : ns.length ≤ sizeLine := Nat.le_trans hl (by decide)
  have hvz : vs.toArray.size ≤ sizeLine := by rw [List.size_toArray, hi.length]; exact hz
  have nofz : Fz (fun _ => False) S00 a := ⟨rfl, fun z => let ⟨_, e, _⟩ := z; (nomatch (show (none : Option (Addr × Addr)) = some _ from e)), id⟩
  cases hk : K.lookup a with
  | some o =>
    have e := KX a o hk
    rw [ha] at e
    cases e
    exact law_callD1 KX hns hsy hb hbb hlim hg ha hl hr F hbind (H := fun _ => none) (.inl fun _ => rfl) (.inr ⟨_, vs.toArray, _, hk, rfl, rfl, rfl, hvz, by simpa using rv⟩) (fun b u z => nomatch (show (none : Option HO) = some u from z)) fun z => absurd rfl z
  | none =>
    refine law_callD1 KX hns hsy hb hbb hlim hg ha hl hr F hbind (H := scr a vs ns) (.inr fun _ => rfl) (.inl ⟨nofz, .inr ⟨_, if_pos rfl⟩⟩) (fun b u z => ?_) fun _ => hk
    by_cases hb' : b = a
    · cases (if_pos hb').symm.trans z
      subst hb'
      exact ⟨ha, by rw [List.length_map]; exact hz, vs, _, rv, ha⟩
    · exact nomatch (if_neg hb').symm.trans z
end
/-- what the head leaves -/
theorem walk_D {l : PySem.W.OpenLaw} {k : Nat} {q : Program} {loose : List Str} {XP : (Str → Option Value) → Heap → Prop} {YP : World → Heap → Prop} {d : DefRec} {K : Params → PySem.W.Frag} {x : Str}
    (hn : l.most = some 63) (hdf : d.params.defaults = []) (hr : RoomG k callerA) (hi : importsNone q = true) (hY : ∀ (w : World) (h : Heap), YP w h → (K w.params).In h)
    (F : ∀ (w : World) (mg : Str → Option Value) (fa : Addr) (h : Heap), (K w.params).In h → h.Ns mainGlobals mg → mg d.name = some (.ref fa) →
      ∃ fd : FuncData, (∀ (s : Shared) (u : Value), BindsTo s fd ⟨[u], []⟩ [(x, u)]) ∧ ∀ base : Heap, (K w.params).In base → base.Ns mainGlobals mg → SysB base → FnD l.prog w (K w.params) mg base k fa fd [x] spLaw) :
    PySem.W.WalkO q loose XP YP l.row.toRowW d [] (fun f vs => PySem.call f vs) :=
  Att.attach_call hn hdf fun w s₀ s₁ mg mb fa o pm cd doc a vs ns G Y ho hd hcd hmg hobj hints hlen hg =>
    let KX := hY w _ Y
    let ⟨_, hb, hF⟩ := F w mg fa _ KX G.T.g hmg
    law_callD KX G.T.g (let ⟨mm, h, _⟩ := (G.T.seer hi).mods; ⟨mm, h⟩) G.T.b G.T.builtins G.T.nolimit hg hobj hints hlen hr hF hb
end PD
end

section
/-! PD13: a tuple read from behind. -/
namespace PD
open PySem PySem.Spec PyProof.Rows L2

theorem adj_rev (n : Nat) : Builtin.Slice.sliceAdjust none none (-1) (n : Int) = ((n : Int) - 1, -1) := by
  unfold Builtin.Slice.sliceAdjust
  first
  | rfl
  | simp
theorem places_rev (n : Nat) : Builtin.Slice.slicePlaces ((n : Int) - 1) (-1) (-1) = n := by
  unfold Builtin.Slice.slicePlaces
  by_cases h : n = 0
  · subst h; decide
  · simp only [show ¬ ((-1 : Int) > 0) by decide, if_false]
    split <;> simp <;> omega
theorem pick_rev (xs : Array Value) : ((List.range xs.size).filterMap fun (m : Nat) => xs[(((xs.size : Int) - 1) + (m : Int) * (-1)).toNat]?).toArray = xs.toList.reverse.toArray := by
  congr 1
  have e : (List.range xs.size).filterMap (fun (m : Nat) => xs[(((xs.size : Int) - 1) + (m : Int) * (-1)).toNat]?) = ((List.range xs.size).map fun k => xs.size - 1 - k).filterMap (xs[·]?) := by
    rw [List.filterMap_map]
    have key : ∀ ks : List Nat, (∀ k ∈ ks, k < xs.size) → ks.filterMap (fun (m : Nat) => xs[(((xs.size : Int) - 1) + (m : Int) * (-1)).toNat]?) = ks.filterMap ((xs[·]?) ∘ fun k => xs.size - 1 - k) := by
      intro ks
      induction ks with
      | nil => intro _; rfl
      | cons k ks ih =>
        intro h
        have hk := h k List.mem_cons_self
        have e : (((xs.size : Int) - 1) + (k : Int) * (-1)).toNat = xs.size - 1 - k := by omega
        simp only [List.filterMap_cons, Function.comp, e]
        rw [ih fun j hj => h j (List.mem_cons_of_mem _ hj)]
    exact key _ fun k hk => List.mem_range.mp hk
  rw [e, PySem.W.krv_range, List.filterMap_reverse, PySem.W.krv_all]
section
variable {prog : Program} {w : World} {A : Around} {E : Value → Shared → Prop} {s : Shared}
theorem applied_rev {sl : Addr} {vl vu vs : Value} {n : Nat} {Q : Int × Int × Nat → Shared → Prop} (hs : s.heap.IsSliceOf sl vl vu vs) (pl : IsPart vl none) (pu : IsPart vu none) (ps : IsPart vs (some (-1)))
    (h : Q ((n : Int) - 1, -1, n) s) : wpAny (model prog w) A (Builtin.Slice.sliceApplied (.ref sl) (pure (n : Int))) Q E s := by
  obtain ⟨ob, ho, _, hf⟩ := id hs
  unfold Builtin.Slice.sliceApplied Builtin.Slice.sliceFields
  refine wpAny_bind (wpAny_bind (wpAny_field ho hf (x := vl) rfl (wpAny_bind (wpAny_field ho hf (x := vu) rfl (wpAny_bind (wpAny_field ho hf (x := vs) rfl (wpAny_pure (wpAny_bind (HT.slicePart_ ps ?_)))))))))
  show wpAny _ _ (if ((-1 : Int) == 0) = true then _ else _) _ _ s
  rw [if_neg (by decide)]
  refine wpAny_bind (HT.slicePart_ pl (wpAny_bind (HT.slicePart_ pu (wpAny_bind (wpAny_pure ?_)))))
  show wpAny _ _ (match Builtin.Slice.sliceAdjust none none (-1) (n : Int) with | (lo, hi) => pure (lo, (-1 : Int), Builtin.Slice.slicePlaces lo hi (-1))) _ _ s
  rw [adj_rev]
  show wpAny _ _ (pure ((n : Int) - 1, (-1 : Int), Builtin.Slice.slicePlaces ((n : Int) - 1) (-1) (-1))) _ _ s
  rw [places_rev]
  exact wpAny_pure h
theorem getRevT {t sl : Addr} {items : Array Value} {vl vu vs : Value} {Q : Value → Shared → Prop} (ht : IsTup s.heap t items) (hs : s.heap.IsSliceOf sl vl vu vs) (pl : IsPart vl none) (pu : IsPart vu none) (ps : IsPart vs (some (-1)))
    (h : Q (.ref s.heap.objs.size) { s with heap := s.heap.push { cls := .type "tuple", data := .seq items.toList.reverse.toArray } }) (hsz : items.size ≤ sizeLine) : wpAny (model prog w) A (getItem (.ref t) (.ref sl)) Q E s := by
  have hz : sizeOk (.seq items.toList.reverse.toArray) := by
    show items.toList.reverse.toArray.size ≤ sizeLine
    simpa using hsz
  obtain ⟨ob, ho, hc, hf⟩ := id hs
  unfold getItem
  try with_reducible refine wpAny_holding ?_
  first | refine wpAny_bind (wpAny_pure ?_) | skip
  refine wpAny_bind (wpAny_sequenceKey ht.typeIs (by decide) (wpAny_bind (wpAny_callSpecial?_slot (name := Str.ofString "__getitem__") ht.typeIs PyProof.Rows.slot_tuple_getitem (wpAny_call_entry PyProof.Rows.slot_tuple_getitem ht.typeIs PyProof.Rows.entry_tuple_getitem ?_ (PyProof.Rows.args_tuple_getitem _ _)))))
  show wpAny _ _ (Builtin.Tuple.tupleItemsOf (.ref t) >>= _) _ _ s
  refine wpAny_bind (tupleItemsOf_ ht (wpAny_bind (wpAny_typeOf ⟨ob, ho, hc⟩ ?_)))
  rw [if_pos (by decide)]
  refine wpAny_bind (applied_rev hs pl pu ps ?_)
  have no : ¬ ((((items.size : Int) - 1 == 0) && ((-1 : Int) == 1) && (items.size == items.size)) = true) := by simp
  show wpAny _ _ (if (((items.size : Int) - 1 == 0) && ((-1 : Int) == 1) && (items.size == items.size)) = true then _ else _) _ _ s
  rw [if_neg no, pick_rev]
  first
    | exact wpAny_bind (m := Builtin.Tuple.tupleExact _) (wpAny_newObj_type (wpAny_pure ⟨_, rfl, wpAny_pure h⟩) hz)
    | exact wpAny_bind (m := Builtin.Tuple.tupleExact _) (wpAny_newObj_type (wpAny_bind (wpAny_pure (wpAny_pure ⟨_, rfl, wpAny_pure h⟩))) hz)
    | exact wpAny_bind (wpAny_bind (m := Builtin.Tuple.tupleExact _) (wpAny_newObj_type (wpAny_pure (wpAny_pure ⟨_, rfl, wpAny_pure h⟩)) hz))
    | exact wpAny_bind (wpAny_bind (m := Builtin.Tuple.tupleExact _) (wpAny_newObj_type (wpAny_pure ⟨_, rfl, wpAny_pure h⟩) hz))
end
section
variable {X : Cx} {e : Expr} {ta : TED}
def tRevT (K : PySem.W.Frag) (te : TE) : TE := fun σ H Q => te σ H fun x H1 => ∃ a xs, x = .ref a ∧ SqT K H1 a xs ∧ ∀ p, H1 p = none → Q (.ref p) (upd H1 p (.tup xs.reverse))
theorem pe_revT {te : TE} {k : Nat} {p1 p2 p3 pos : Pos} (he : PE X e te) : PE X (.Subscript e (.Slice none none (some (.UnaryOp .USub (.Constant (.int 1) k p1) p2)) p3) pos) (tRevT X.K te) := by
  refine ⟨fun pins s σ H Q I h => Subscript_ (thn (he.run pins s σ H _ I h) fun v s1 ⟨x, H1, I1, r1, a, xs, ex, hx, q⟩ => ?_)⟩
  subst ex
  cases r1
  have hst : PO X (some (.UnaryOp .USub (.Constant (.int 1) k p1) p2)) (tPart (tUn (rU fun i => .int (-i)) (tC (.int 1)))) := po_some (pe_un un_neg pe_int)
  refine wpAny_Slice (thn (po_none.run pins s1 σ H1 (fun o G => o = none ∧ G = H1) I1 ⟨rfl, rfl⟩) fun vl s2 ⟨l, H2, I2, pl, el, e2⟩ => ?_)
  subst el e2
  refine thn (po_none.run pins s2 σ H2 (fun o G => o = none ∧ G = H2) I2 ⟨rfl, rfl⟩) fun vu s3 ⟨u, H3, I3, pu, eu, e3⟩ => ?_
  subst eu e3
  refine thn (hst.run pins s3 σ H3 (fun o G => o = some (-1) ∧ G = H3) I3 ⟨1, rfl, -1, rfl, rfl, rfl⟩) fun vs s4 ⟨o, H4, I4, ps, eo, e4⟩ => ?_
  subst eo e4
  have I5 : Inv X pins σ H4 { s4 with heap := s4.heap.push { cls := .type "slice", data := .fields #[vl, vu, vs] } } := I4.kept (t' := s4.toks) fun b ob q => Heap.get?_push_of_some _ q
  obtain ⟨its, r, ht, hz⟩ := I5.tuple hx
  have hlen := r.length
  show wpAny (model X.prog X.w) X.A (subscriptTail e (.Slice none none (some (.UnaryOp .USub (.Constant (.int 1) k p1) p2)) p3) (.ref a) (.ref s4.heap.objs.size)) (EP X pins σ Q) X.xe { s4 with heap := s4.heap.push { cls := .type "slice", data := .fields #[vl, vu, vs] } }
  refine tail_any (ops := [.ref a, .ref s4.heap.objs.size]) ht.typeIs PyProof.Rows.slot_tuple_getitem.lookup ?_ (by with_unfolding_all rfl)
  refine getRevT ht (Heap.IsSliceOf.new _ vl vu vs) pl pu ps ?_ (by rw [List.size_toArray]; omega)
  exact ⟨.ref _, _, I5.laid (t' := s4.toks) (o := .tup xs.reverse) (fun b ob q => Heap.get?_push_of_some _ q) (Nat.le_refl _) ⟨by rw [List.length_reverse]; exact hz, _, r.reverse, IsTup.new _ _⟩, rfl, q _ (I5.hok.fresh (Nat.le_refl _))⟩
/-- t[::-1] -/
def tRevTD (te : TED) : TED := fun σ S Q => te σ S fun d S1 => match d with
  | .tup xs => Q (.tup xs.reverse) S1
  | _ => False
theorem de_revT {k : Nat} {p1 p2 p3 pos : Pos} (he : DE X e ta) : DE X (.Subscript e (.Slice none none (some (.UnaryOp .USub (.Constant (.int 1) k p1) p2)) p3) pos) (tRevTD ta) :=
  (pe_revT he).imp fun σ H Q ⟨G, σd, S, Qd, rs, rh, t, p⟩ => ⟨G, σd, S, _, rs, rh, t, fun S1 d v H1 f1 rh1 q1 t1 => by
    cases q1 with
    | @tup a vs ds h r => exact ⟨a, vs, rfl, h.sq, fun q hq => (p.fl f1).newT rh1 r.rev t1 hq⟩
    | _ => exact t1.elim⟩
end
end PD
end

section
/-! PD14: tracked sums and products of lists; a def by the written part. -/
namespace PD
open PySem PySem.Spec PyProof.Rows L2
section
variable {X : Cx} {a b : Expr} {ta tb : TED} {pos : Pos}
/-- xs + ys, tracked -/
def rAddR : R2D := fun x y S Q => match asLst S x, asLst S y with
  | some xs, some ys => xs.length + ys.length ≤ sizeLine ∧ ∀ p, S.hp p = none → Q (.ref p) (S.set p (.lst (xs ++ ys)))
  | _, _ => False
theorem de_addR (ha : DE X a ta) (hb : DE X b tb) : DE X (.BinOp a .Add b pos) (tBin rAddR ta tb) := de_op op_catK (fun G S H d1 d2 v1 v2 Qd Q rh q1 q2 t p => by
  unfold rAddR at t
  split at t
  · rename_i xs ys e1 e2
    obtain ⟨a, vs, rfl, l1, r1⟩ := asLst_ok rh e1 q1
    obtain ⟨b, ws, rfl, l2, r2⟩ := asLst_ok rh e2 q2
    exact ⟨a, b, vs, ws, rfl, rfl, l1, l2, by rw [← r1.length, ← r2.length]; exact t.1, fun q hq => p.newR rh (r1.append r2) t.2 hq⟩
  · exact t.elim) ha hb
/-- xs * n, tracked -/
def rMulR : R2D := fun x y S Q => match asLst S x, y with
  | some xs, .int k => (0 ≤ k ∧ k < 2 ^ 60 ∧ xs.length * k.toNat ≤ sizeLine) ∧ ∀ p, S.hp p = none → Q (.ref p) (S.set p (.lst (List.replicate k.toNat xs).flatten))
  | _, _ => False
theorem de_mulR (ha : DE X a ta) (hb : DE X b tb) : DE X (.BinOp a .Mult b pos) (tBin rMulR ta tb) := de_op op_repK (fun G S H d1 d2 v1 v2 Qd Q rh q1 q2 t p => by
  unfold rMulR at t
  split at t
  · rename_i xs k e1
    obtain ⟨a, vs, rfl, l1, r1⟩ := asLst_ok rh e1 q1
    cases q2
    exact ⟨a, _, vs, rfl, rfl, l1, t.1.1, t.1.2.1, by rw [← r1.length]; exact t.1.2.2, fun q hq => p.newR rh (r1.flat _) t.2 hq⟩
  · exact t.elim) ha hb
end
/-- a def of the module, in the written part -/
structure DefOf (K : PySem.W.Frag) (mg : Str → Option Value) (x : Str) (st : Stmt) : Prop where
  ex : ∃ f fd, Fun K x x st f fd ∧ mg x = some (.ref f)
theorem defOf_mk {x : Str} {K : PySem.W.Frag} {h : Heap} {mg : Str → Option Value} (X : K.In h) (G : h.Ns mainGlobals mg) {st : Stmt} {f : Addr} {od an : Option Addr} {sl : Array (Option Value)} {oc kV dc pm cd ct : Value}
    (a : PySem.W.nsIn K mainGlobals x = some (some (.ref f))) (l : K.lookup f = some ⟨oc, od, .func (PySem.W.fnOf x x (defArgs st) (defBody st) (defScope st) .none kV dc pm an cd ct), sl⟩) (c : PySem.W.codeIn K cd x = true) (k : PySem.W.keepIn K (.ref f) = true) : DefOf K mg x st := ⟨⟨f, _, fun_mk (st := st) l c k, PySem.W.mg_of X G a⟩⟩
end PD
end

section
/-! PD15: readings by values: a set of rules for simp, loops by invariants, the helpers that draw. -/
namespace PD
open PySem PySem.Spec PyProof.Rows L2
section
variable {S : HD}
theorem nrm_non : nrm S .non = .non := rfl
theorem nrm_bl {b : Bool} : nrm S (.bl b) = .bl b := rfl
theorem nrm_int {b : Int} : nrm S (.int b) = .int b := rfl
theorem nrm_str {b : Str} : nrm S (.str b) = .str b := rfl
theorem nrm_tup {b : List D} : nrm S (.tup b) = .tup b := rfl
theorem nrm_lst {b : List D} : nrm S (.lst b) = .lst b := rfl
theorem nrm_dic {b : List (D × D)} : nrm S (.dic b) = .dic b := rfl
theorem nrm_ref {a : Addr} : nrm S (.ref a) = match S.hp a with
    | some (.lst xs) => .lst xs
    | _ => .ref a := rfl
end
theorem gt_z {x : Option D} {r : SD} : gt (x :: r) 0 = x := rfl
theorem gt_s {x : Option D} {r : SD} {n : Nat} : gt (x :: r) (n + 1) = gt r n := rfl
theorem st_z {x : Option D} {r : SD} {d : D} : st (x :: r) 0 d = some d :: r := rfl
theorem st_s {x : Option D} {r : SD} {n : Nat} {d : D} : st (x :: r) (n + 1) d = x :: st r n d := rfl
/-! ### comprehensions, loops by invariants -/
/-- the state stays: what the items give -/
theorem lcD_pure {g : TGD} {tt : TTD} {te : TED} {σ : SD} {keep : HD → Prop} {Q : List D → HD → Prop} (f : D → Option D) {S : HD} (hk : keep S) : ∀ (xs acc : List D),
    (∀ d ∈ xs, ∀ (Q1 : D → HD → Prop) (Q0 : HD → Prop), (match f d with | some y => Q1 y S | none => Q0 S) → g d σ S fun σ2 S2 => tt σ2 S2 fun b S3 => if b = true then te σ2 S3 Q1 else Q0 S3) →
    Q (acc ++ xs.filterMap f) S → lcD g tt te σ keep Q xs acc S
  | [], acc, _, q => ⟨hk, by simpa using q⟩
  | d :: r, acc, h, q => ⟨hk, h d List.mem_cons_self _ _ (by
      cases e : f d with
      | none => exact lcD_pure f hk r acc (fun d hd => h d (List.mem_cons_of_mem _ hd)) (by simpa [List.filterMap_cons, e] using q)
      | some y => exact lcD_pure f hk r (acc ++ [y]) (fun d hd => h d (List.mem_cons_of_mem _ hd)) (by simpa [List.filterMap_cons, e] using q))⟩
/-- by an invariant of what is made and the state -/
theorem lcD_inv {g : TGD} {tt : TTD} {te : TED} {σ : SD} {keep : HD → Prop} {Q : List D → HD → Prop} (I : Nat → List D → HD → Prop) {all : List D}
    (step : ∀ (i : Nat) (d : D) (acc : List D) (S : HD) (N : List D → HD → Prop), all[i]? = some d → I i acc S → (∀ acc S, I (i + 1) acc S → N acc S) → keep S ∧ g d σ S fun σ2 S2 => tt σ2 S2 fun b S3 => if b = true then te σ2 S3 (fun y S4 => N (acc ++ [y]) S4) else N acc S3)
    (stop : ∀ acc S, I all.length acc S → keep S ∧ Q acc S) : ∀ (xs : List D) (i : Nat) (acc : List D) (S : HD), xs = all.drop i → i ≤ all.length → I i acc S → lcD g tt te σ keep Q xs acc S
  | [], i, acc, S, e, hi, h => by
    have : i = all.length := by have := congrArg List.length e; simp at this; omega
    subst this
    exact stop acc S h
  | d :: r, i, acc, S, e, hi, h => by
    have hl : i < all.length := by
      apply Nat.lt_of_not_le
      intro q
      rw [List.drop_of_length_le q] at e
      cases e
    rw [List.drop_eq_getElem_cons hl] at e
    injection e with e1 e2
    exact step i d acc S (fun acc S => lcD g tt te σ keep Q r acc S) (by simp [hl, e1]) h fun acc S h => lcD_inv I step stop r (i + 1) acc S e2 hl h
theorem lcD_go {g : TGD} {tt : TTD} {te : TED} {σ : SD} {keep : HD → Prop} {Q : List D → HD → Prop} (I : Nat → List D → HD → Prop) {xs : List D} {S : HD} (h0 : I 0 [] S)
    (step : ∀ (i : Nat) (d : D) (acc : List D) (S : HD) (N : List D → HD → Prop), xs[i]? = some d → I i acc S → (∀ acc S, I (i + 1) acc S → N acc S) → keep S ∧ g d σ S fun σ2 S2 => tt σ2 S2 fun b S3 => if b = true then te σ2 S3 (fun y S4 => N (acc ++ [y]) S4) else N acc S3)
    (stop : ∀ acc S, I xs.length acc S → keep S ∧ Q acc S) : lcD g tt te σ keep Q xs [] S := lcD_inv I step stop xs 0 [] S rfl (Nat.zero_le _) h0
theorem loopD_inv {g : TGD} {tb : TSD} {E : EndsD} {keep : HD → Prop} (I : Nat → SD → HD → Prop) {all : List D}
    (step : ∀ (i : Nat) (d : D) (σ : SD) (S : HD) (N : SD → HD → Prop), all[i]? = some d → I i σ S → (∀ σ S, I (i + 1) σ S → N σ S) → keep S ∧ g d σ S fun σ2 S2 => tb { nx := N, ct := N, bk := E.nx, rt := E.rt, xr := E.xr } σ2 S2)
    (stop : ∀ σ S, I all.length σ S → keep S ∧ E.nx σ S) : ∀ (xs : List D) (i : Nat) (σ : SD) (S : HD), xs = all.drop i → i ≤ all.length → I i σ S → loopD g tb E keep xs σ S
  | [], i, σ, S, e, hi, h => by
    have : i = all.length := by have := congrArg List.length e; simp at this; omega
    subst this
    exact stop σ S h
  | d :: r, i, σ, S, e, hi, h => by
    have hl : i < all.length := by
      apply Nat.lt_of_not_le
      intro q
      rw [List.drop_of_length_le q] at e
      cases e
    rw [List.drop_eq_getElem_cons hl] at e
    injection e with e1 e2
    exact step i d σ S (loopD g tb E keep r) (by simp [hl, e1]) h fun σ S h => loopD_inv I step stop r (i + 1) σ S e2 hl h
theorem loopD_go {g : TGD} {tb : TSD} {E : EndsD} {keep : HD → Prop} (I : Nat → SD → HD → Prop) {xs : List D} {σ : SD} {S : HD} (h0 : I 0 σ S)
    (step : ∀ (i : Nat) (d : D) (σ : SD) (S : HD) (N : SD → HD → Prop), xs[i]? = some d → I i σ S → (∀ σ S, I (i + 1) σ S → N σ S) → keep S ∧ g d σ S fun σ2 S2 => tb { nx := N, ct := N, bk := E.nx, rt := E.rt, xr := E.xr } σ2 S2)
    (stop : ∀ σ S, I xs.length σ S → keep S ∧ E.nx σ S) : loopD g tb E keep xs σ S := loopD_inv I step stop xs 0 σ S rfl (Nat.zero_le _) h0
theorem rngD_get {lo : Int} {n i : Nat} {d : D} (h : (rngD lo n)[i]? = some d) : i < n ∧ d = .int (lo + i) := by
  unfold rngD at h
  rw [List.getElem?_map] at h
  by_cases hi : i < n
  · rw [List.getElem?_range hi] at h
    cases h
    exact ⟨hi, rfl⟩
  · rw [List.getElem?_eq_none (by simpa using hi)] at h
    cases h
theorem fin.here {Q : QD} {d : D} {S : HD} (q : Q d S) : fin Q d S := .le (.refl _) q
/-! ### one of the items -/
def spOne : SpD := fun ds S Q => ∃ x xs, ds = [.deck, x] ∧ asSeq S x = some xs ∧ xs ≠ [] ∧ xs.length ≤ 500000000 ∧ S.c < 1000000000000 ∧ ∀ d ∈ xs, Q d (S.tick 1)
theorem asSeq_tick {S : HD} {n : Nat} {x : D} : asSeq (S.tick n) x = asSeq S x := by cases x <;> rfl
theorem atI_nat {α : Type} {xs : List α} {r : Int} (h0 : 0 ≤ r) (h1 : r < xs.length) : ∃ d, atI xs r = some d ∧ d ∈ xs := by
  have h2 : r.toNat < xs.length := by omega
  refine ⟨xs[r.toNat], ?_, List.getElem_mem h2⟩
  unfold atI ixN
  rw [if_pos h0, if_pos h1]
  simp [h2]
end PD
end

section
/-! PD16: the helpers that draw. -/
local macro_rules | `(tactic| walk_at "rdx") => `(tactic| simp only [PD.pad, PD.gt_z, PD.gt_s, PD.st_z, PD.st_s, PD.sNextD, PD.sSeqD, PD.sBreakD, PD.sContD, PD.sDropD, PD.sRetD, PD.sRetND, PD.sIfD, PD.sNeverD, PD.sAsgD, PD.sPar2, PD.sPar3, PD.gNameD, PD.gNilD, PD.gConsD, PD.gTupD, PD.gSubD, PD.tNilD, PD.tConsD, PD.tTupD, PD.tLstV, PD.tLstR, PD.tBin, PD.tTst, PD.tAndD, PD.tOrD, PD.tNotD, PD.tIfD, PD.tAndV, PD.tOrV, PD.tNotV, PD.tUnD, PD.rNeg, PD.tCallD, PD.tSlot, PD.tCD, PD.tChainD, PD.rIsN, PD.rNotN, PD.isN, PD.rIsiD, PD.isiB, PD.Ty.name, PD.rCmpI, PD.fLt, PD.fLe, PD.fGt, PD.fGe, PD.rAddD, PD.rSubD, PD.rFdivD, PD.rModD, PD.rPowD, PD.rMulD, PD.rAddR, PD.rMulR, PD.asSeq, PD.asLst, PD.rLenD, PD.rTupleD, PD.rListV, PD.rListR, PD.rIntD, PD.rBoolD, PD.rAbsD, PD.rIxD, PD.oNone, PD.oSome, PD.tSlD, PD.rSlD, PD.tRevTD, PD.rEqD, PD.rNeD, PD.nrm, PD.iSeqD, PD.iRng1D, PD.iRng2D, PD.sForD, PD.tLcV, PD.tLcR, PD.tYesD, PD.wipeD, PD.tMethL, PD.rAppD, PD.isRefL, PD.tDicV, PD.rSetD, PD.rReprD, reduceIte, true_and, and_true, Bool.not_true, Bool.not_false, Bool.false_eq_true, List.length_cons, List.length_nil, List.set_cons_zero, List.set_cons_succ, PD.HD.set_same, PD.HD.tick_hp, PD.HD.tick_c, PD.HD.tick_dk, PD.HD.set_c, PD.HD.set_dk])
namespace PD
open PySem PySem.Spec PyProof.Rows
def rdDeck : TSD :=
  sRetD (tLstR (tConsD (tLcR (iSeqD (tSlD (tSlot 0) (oNone) (oSome (tCD (.int 63))))) (gNameD 1) (tYesD) (tCallD rAbsD (tConsD (tSlot 1) (tNilD))) [1]) (tConsD (tCD (.int 0)) (tNilD))))
def rdDraw : TSD :=
  sSeqD (sAsgD (tBin rAddD (tBin rIxD (tSlot 0) (tCD (.int 1))) (tCD (.int 1))) (gSubD (tSlot 0) (tCD (.int 1))))
  (sSeqD (sAsgD (tTupD (tConsD (tCD (.int 0)) (tConsD (tUnD rNeg (tCD (.int 1))) (tNilD)))) (gTupD 2 (gConsD (gNameD 2) (gConsD (gNameD 3) (gNilD)))))
  (sSeqD (sIfD (tTst (tBin (rCmpI fGt) (tCallD rLenD (tConsD (tBin rIxD (tSlot 0) (tCD (.int 0))) (tNilD))) (tCD (.int 0)))) (sSeqD (sAsgD (tBin rModD (tCallD rIntD (tConsD (tBin rIxD (tSlot 0) (tCD (.int 1))) (tNilD))) (tCallD rLenD (tConsD (tBin rIxD (tSlot 0) (tCD (.int 0))) (tNilD)))) (gNameD 3))
  (sAsgD (tBin rIxD (tBin rIxD (tSlot 0) (tCD (.int 0))) (tSlot 3)) (gNameD 2))) (sNextD))
  (sSeqD (sIfD (tTst (tBin (rCmpI fGe) (tSlot 2) (tBin rPowD (tCD (.int 10)) (tCD (.int 18))))) (sSeqD (sAsgD (tBin rFdivD (tCallD rIntD (tConsD (tSlot 2) (tNilD))) (tSlot 1)) (gSubD (tBin rIxD (tSlot 0) (tCD (.int 0))) (tSlot 3)))
  (sRetD (tBin rModD (tCallD rIntD (tConsD (tSlot 2) (tNilD))) (tSlot 1)))) (sNextD))
  (sSeqD (sAsgD (tBin rAddD (tBin rAddD (tBin rModD (tCallD rIntD (tConsD (tSlot 2) (tNilD))) (tCD (.int 2147483563))) (tBin rMulD (tCD (.int 8117)) (tBin rIxD (tSlot 0) (tCD (.int 1))))) (tCD (.int 3))) (gNameD 4))
  (sRetD (tBin rModD (tCallD rIntD (tConsD (tBin rModD (tCallD rIntD (tConsD (tBin rPowD (tSlot 4) (tCD (.int 5))) (tNilD))) (tCD (.int 2147483629))) (tNilD))) (tSlot 1)))))))
def rdOne (sp : SpD) : TSD :=
  sRetD (tBin rIxD (tSlot 1) (tCallD sp (tConsD (tSlot 0) (tConsD (tCallD rLenD (tConsD (tSlot 1) (tNilD))) (tNilD)))))
theorem atI20 {x y : D} : L2.atI [x, y] 0 = some x := rfl
theorem atI21 {x y : D} : L2.atI [x, y] 1 = some y := rfl
theorem ixN21 : L2.ixN (0 + 1 + 1) 1 = some 1 := rfl
/-- the end of a draw: a number, the deck as it was but for one cell -/
def drawn (a b : Addr) (k : Nat) (m : Int) : QD := fun d S1 => ∃ (r : Int) (cells' : List Int), d = .int r ∧ 0 ≤ r ∧ r < m ∧ S1.hp a = some (.lst [.ref b, .int ((k + 1 : Nat) : Int)]) ∧ S1.hp b = some (.lst (cells'.map D.int)) ∧ cells'.length ≤ 63 ∧ ∀ z ∈ cells', 0 ≤ z
/-- behind the choice of the cell -/
def rdTail : TSD :=
  (sSeqD (sIfD (tTst (tBin (rCmpI fGe) (tSlot 2) (tBin rPowD (tCD (.int 10)) (tCD (.int 18))))) (sSeqD (sAsgD (tBin rFdivD (tCallD rIntD (tConsD (tSlot 2) (tNilD))) (tSlot 1)) (gSubD (tBin rIxD (tSlot 0) (tCD (.int 0))) (tSlot 3)))
  (sRetD (tBin rModD (tCallD rIntD (tConsD (tSlot 2) (tNilD))) (tSlot 1)))) (sNextD))
  (sSeqD (sAsgD (tBin rAddD (tBin rAddD (tBin rModD (tCallD rIntD (tConsD (tSlot 2) (tNilD))) (tCD (.int 2147483563))) (tBin rMulD (tCD (.int 8117)) (tBin rIxD (tSlot 0) (tCD (.int 1))))) (tCD (.int 3))) (gNameD 4))
  (sRetD (tBin rModD (tCallD rIntD (tConsD (tBin rModD (tCallD rIntD (tConsD (tBin rPowD (tSlot 4) (tCD (.int 5))) (tNilD))) (tCD (.int 2147483629))) (tNilD))) (tSlot 1)))))
theorem tail_ok {S : HD} {a b : Addr} {cells : List Int} {k : Nat} {m c at_ : Int} (hab : a ≠ b) (hk : k < 1000000000000) (hl : cells.length ≤ 63) (h0 : ∀ z ∈ cells, 0 ≤ z) (h1 : 1 ≤ m) (h2 : m ≤ 500000000) (hc0 : 0 ≤ c)
    (ha : S.hp a = some (.lst [.ref b, .int ((k + 1 : Nat) : Int)])) (hb : S.hp b = some (.lst (cells.map D.int))) (hat : c = 0 ∨ (0 ≤ at_ ∧ at_ < cells.length)) {bk ct nx : SD → HD → Prop} :
    rdTail { nx := nx, rt := drawn a b k m, bk := bk, ct := ct } [some (.ref a), some (.int m), some (.int c), some (.int at_), none] S := by
  unfold rdTail
  have hba : b ≠ a := fun e => hab e.symm
  walk_at "rdx"
  refine ⟨⟨by decide, by decide, by decide⟩, ?_⟩
  by_cases hc : (10 : Int) ^ (18 : Int).toNat ≤ c
  · have hc' : (1000000000000000000 : Int) ≤ c := hc
    rcases hat with e | ⟨h3, h4⟩
    · omega
    have hix : L2.ixN cells.length at_ = some at_.toNat := by unfold L2.ixN; rw [if_pos h3, if_pos h4]
    simp only [hc, decide_true, if_true]
    refine ⟨⟨by omega, by omega⟩, ?_⟩
    simp only [ha, hb, atI20, List.length_map, hix]
    refine ⟨by omega, c % m, cells.set at_.toNat (c / m), rfl, Int.emod_nonneg _ (by omega), Int.emod_lt_of_pos _ (by omega), ?_, ?_, ?_, ?_⟩
    · rw [HD.set_ne hab]; exact ha
    · rw [HD.set_same, List.map_set]
    · rw [List.length_set]; exact hl
    · intro z hz
      rcases List.mem_or_eq_of_mem_set hz with h | h
      · exact h0 z h
      · subst h; exact Int.ediv_nonneg (by omega) (by omega)
  · simp only [hc, decide_false, Bool.false_eq_true, if_false]
    simp only [ha, atI21]
    have e1 := Int.emod_nonneg c (b := 2147483563) (by decide)
    have e2 := Int.emod_lt_of_pos c (b := 2147483563) (by decide)
    refine ⟨by decide, ?_, ?_⟩
    · left
      decide
    refine ⟨⟨by decide, by decide, ?_⟩, by decide, by omega, _, cells, rfl, Int.emod_nonneg _ (by omega), Int.emod_lt_of_pos _ (by omega), ha, hb, hl, h0⟩
    omega
theorem drawOk : DrawOk rdDraw 5 := by
  intro S a b cells k m hab hk hl h0 h1 h2
  have hba : b ≠ a := fun e => hab e.symm
  have ha : (openD S a b cells k).hp a = some (.lst [.ref b, .int (k : Int)]) := if_pos rfl
  have hb : (openD S a b cells k).hp b = some (.lst (cells.map D.int)) := (if_neg hba).trans (if_pos rfl)
  show rdDraw { nx := fun _ _ => False, rt := drawn a b k m } (pad 5 [.ref a, .int m]) (openD S a b cells k)
  generalize openD S a b cells k = S0 at ha hb
  unfold rdDraw
  rw [show (sSeqD (sIfD (tTst (tBin (rCmpI fGe) (tSlot 2) (tBin rPowD (tCD (.int 10)) (tCD (.int 18))))) _ _) _) = rdTail from rfl]
  generalize hT : rdTail = T
  walk_at "rdx"
  simp only [ha, atI21]
  walk_at "rdx"
  simp only [ha, ixN21]
  walk_at "rdx"
  have ha' : (S0.set a (.lst [.ref b, .int ((k : Int) + 1)])).hp a = some (.lst [.ref b, .int ((k + 1 : Nat) : Int)]) := HD.set_same
  have hb' : (S0.set a (.lst [.ref b, .int ((k : Int) + 1)])).hp b = some (.lst (cells.map D.int)) := (HD.set_ne hba).trans hb
  generalize (S0.set a (.lst [.ref b, .int ((k : Int) + 1)])) = S1 at ha' hb'
  refine ⟨by decide, ?_⟩
  simp only [atI20, ha', hb', List.length_map]
  cases cells with
  | nil =>
    simp only [List.length_nil, Int.natCast_zero, Int.lt_irrefl, decide_false, Bool.false_eq_true, if_false]
    subst hT
    exact tail_ok hab hk hl h0 h1 h2 (Int.le_refl 0) ha' hb' (.inl rfl)
  | cons z0 zs =>
    have hpos : (0 : Int) < (((z0 :: zs).length : Nat) : Int) := by simp only [List.length_cons]; omega
    simp only [hpos, decide_true, if_true, atI21, true_and]
    walk_at "rdx"
    generalize hr : ((k : Int) + 1) % ((zs.length + 1 : Nat) : Int) = r
    have e1 : 0 ≤ r := by rw [← hr]; exact Int.emod_nonneg _ (by omega)
    have e2 : r < (((z0 :: zs).length : Nat) : Int) := by rw [← hr, List.length_cons]; exact Int.emod_lt_of_pos _ (by omega)
    obtain ⟨z, hz, hm⟩ := atI_nat (xs := z0 :: zs) e1 e2
    have hz' : L2.atI ((z0 :: zs).map D.int) r = some (.int z) := by
      unfold L2.atI at hz ⊢
      rw [List.length_map]
      cases q : L2.ixN (z0 :: zs).length r with
      | none => rw [q] at hz; cases hz
      | some j =>
        rw [q] at hz
        show ((z0 :: zs).map D.int)[j]? = _
        rw [List.getElem?_map]
        rw [show (z0 :: zs)[j]? = some z from hz]
        rfl
    rw [hz']
    subst hT
    exact tail_ok hab hk hl h0 h1 h2 (h0 z hm) ha' hb' (.inr ⟨e1, e2⟩)
theorem rngCut {xs : List Int} : cutD (xs.map D.int) none (some 63) = (xs.take 63).map D.int := by
  unfold cutD
  simp only [List.length_map, HT.sIx_none, List.drop_zero, Nat.sub_zero]
  rw [show ((some 63 : Option Int)) = some ((63 : Nat) : Int) from rfl, HT.sIx_nat, List.map_take]
  by_cases h : xs.length ≤ 63
  · rw [Nat.min_eq_right h, List.take_of_length_le (by simp), List.take_of_length_le (by simpa using h)]
  · rw [Nat.min_eq_left (by omega)]
theorem deckOk : DeckOk rdDeck 2 := by
  intro S ns hd
  unfold rdDeck
  walk_at "rdx"
  rw [rngCut]
  have h63 : (ns.take 63).length ≤ 63 := by rw [List.length_take]; omega
  generalize ns.take 63 = ms at h63
  intro hz
  refine ⟨hz, ?_⟩
  refine lcD_go (fun i acc S' => S' = S ∧ acc = (ms.take i).map fun z => D.int (if z < 0 then -z else z)) ⟨rfl, rfl⟩ (fun i d acc S' N hi ⟨e, ea⟩ k => ?_) fun acc S' ⟨e, ea⟩ => ?_
  · subst e
    rw [List.getElem?_map] at hi
    obtain ⟨z, hz, e2⟩ := Option.map_eq_some_iff.mp hi
    subst e2
    walk_at "rdx"
    refine k _ _ ⟨rfl, ?_⟩
    rw [ea, List.take_add_one, hz]
    simp
  · subst e ea
    refine ⟨trivial, fun b hb => ⟨by decide, fun a ha => ?_⟩⟩
    have hab : a ≠ b := fun e => by
      subst e
      rw [HD.set_same] at ha
      cases ha
    have hba : b ≠ a := fun e => hab e.symm
    rw [HD.set_ne hab] at ha
    refine ⟨a, b, ms.map fun z => if z < 0 then -z else z, rfl, hab, ha, hb, HD.set_same, ?_, ?_, ?_, ?_, hd⟩
    · rw [HD.set_ne hba, HD.set_same, List.take_of_length_le (by simp), List.map_map]
      rfl
    · simpa using h63
    · intro z hz
      obtain ⟨y, _, rfl⟩ := List.mem_map.mp hz
      by_cases h : y < 0
      · rw [if_pos h]; omega
      · rw [if_neg h]; omega
    · intro x o hx
      rw [HD.set_ne (fun e => by rw [e, ha] at hx; cases hx), HD.set_ne (fun e => by rw [e, hb] at hx; cases hx)]
      exact hx
theorem spOne_len (ds : List D) (S : HD) (Q : QD) (h : spOne ds S Q) : ds.length = 2 := by
  obtain ⟨x, xs, rfl, _⟩ := h
  rfl
theorem oneOk {E : EndsD} (ds : List D) (S : HD) (Q : QD) (h : spOne ds S Q) (hE : ∀ d S, Q d S → E.rt d S) : rdOne spDraw E (pad 2 ds) S := by
  obtain ⟨x, xs, rfl, hx, hne, hl, hc, q⟩ := h
  unfold rdOne
  have hpos : 1 ≤ xs.length := by cases xs with
    | nil => exact (hne rfl).elim
    | cons _ _ => simp
  have key : spDraw [.deck, .int xs.length] S fun d S1 => ∀ y, asSeq S1 x = some y → (match d with
    | .int i => (match L2.atI y i with
      | some d => E.rt d S1
      | none => False)
    | _ => False) := by
    refine ⟨⟨by omega, by omega, hc⟩, fun r h0 h1 => fun y hy => ?_⟩
    rw [asSeq_tick, hx] at hy
    cases hy
    obtain ⟨d, e, m⟩ := atI_nat h0 h1
    simp only [e]
    exact hE _ _ (q d m)
  have mono : ∀ (ds : List D) (S : HD) (Q Q' : QD), (∀ d S, Q d S → Q' d S) → spDraw ds S Q → spDraw ds S Q' := by
    intro ds S Q Q' i h
    unfold spDraw at h ⊢
    split at h
    · exact ⟨h.1, fun r h0 h1 => i _ _ (h.2 r h0 h1)⟩
    · exact h.elim
  cases x with
  | tup ys =>
    cases hx
    walk_at "rdx"
    refine mono _ _ _ _ (fun d S1 h => ?_) key
    have h := h _ rfl
    cases d <;> first | exact h | exact h.elim
  | lst ys =>
    cases hx
    walk_at "rdx"
    refine mono _ _ _ _ (fun d S1 h => ?_) key
    have h := h _ rfl
    cases d <;> first | exact h | exact h.elim
  | ref a =>
    have hx' := hx
    simp only [asSeq] at hx'
    split at hx'
    · rename_i ys e
      cases hx'
      walk_at "rdx"
      simp only [e]
      refine ⟨⟨by omega, by omega, hc⟩, fun r h0 h1 => ?_⟩
      obtain ⟨d, e2, m⟩ := atI_nat h0 h1
      simp only [HD.tick_hp, e, e2]
      exact hE _ _ (q d m)
    · cases hx'
  | _ => cases hx
end PD
end

section
/-! PD17: comparisons and classes of plain data. -/
namespace PD
open PySem PySem.Spec PyProof.Rows
theorem eqk_int {i j : Int} : eqk (.int i) (.int j) = true := by simp [eqk]
theorem eqd_int {i j : Int} : eqd (.int i) (.int j) = decide (i = j) := by
  unfold eqd
  simp only [py]
  first
  | rfl
  | (simp [PyData.eqv]; done)
  | (unfold PyData.eqv; simp)
theorem eqk_str {i j : Str} : eqk (.str i) (.str j) = true := by simp [eqk]
theorem eqd_str {i j : Str} : eqd (.str i) (.str j) = decide (i = j) := by
  unfold eqd
  simp only [py]
  first
  | rfl
  | (simp [PyData.eqv]; done)
  | (unfold PyData.eqv; simp)
theorem eqk_lst0 {xs : List D} : eqk (.lst xs) (.lst []) = true := by simp [eqk]
theorem eqd_lst0 {xs : List D} : eqd (.lst xs) (.lst []) = xs.isEmpty := by
  unfold eqd
  simp only [py, pyL]
  unfold PyData.eqv
  simp only [eqv_nilL, eqv_nilR, pyL_isEmpty]
theorem eqk_tup0 {xs : List D} : eqk (.tup xs) (.tup []) = true := by simp [eqk]
theorem eqd_tup0 {xs : List D} : eqd (.tup xs) (.tup []) = xs.isEmpty := by
  unfold eqd
  simp only [py, pyL]
  unfold PyData.eqv
  simp only [eqv_nilL, eqv_nilR, pyL_isEmpty]
theorem okRL_mem {x : D} : ∀ {xs : List D}, okRL xs = true → x ∈ xs → okR x = true
  | [], _, m => by cases m
  | y :: ys, h, m => by
    simp only [okRL, Bool.and_eq_true] at h
    rcases List.mem_cons.mp m with e | e
    · subst e; exact h.1
    · exact okRL_mem h.2 e
theorem okRL_of : ∀ {xs : List D}, (∀ x ∈ xs, okR x = true) → okRL xs = true
  | [], _ => rfl
  | y :: ys, h => by
    simp only [okRL, Bool.and_eq_true]
    exact ⟨h y List.mem_cons_self, okRL_of fun x m => h x (List.mem_cons_of_mem _ m)⟩
theorem depL_le {x : D} : ∀ {xs : List D}, x ∈ xs → dep x ≤ depL xs
  | [], m => by cases m
  | y :: ys, m => by
    simp only [depL]
    rcases List.mem_cons.mp m with e | e
    · subst e; omega
    · have := depL_le e; omega
theorem depL_of {n : Nat} : ∀ {xs : List D}, (∀ x ∈ xs, dep x ≤ n) → depL xs ≤ n
  | [], _ => Nat.zero_le _
  | y :: ys, h => by
    have h1 := h y List.mem_cons_self
    have h2 := depL_of (xs := ys) fun x m => h x (List.mem_cons_of_mem _ m)
    simp only [depL]
    omega
theorem szL_of {n : Nat} : ∀ {xs : List D}, (∀ x ∈ xs, sz x ≤ n) → szL xs ≤ xs.length * (n + 2)
  | [], _ => by simp [szL]
  | y :: ys, h => by
    have h1 := h y List.mem_cons_self
    have h2 := szL_of (xs := ys) fun x m => h x (List.mem_cons_of_mem _ m)
    simp only [szL, List.length_cons, Nat.add_mul, Nat.one_mul]
    omega
theorem szL_mem {x : D} : ∀ {xs : List D}, x ∈ xs → sz x ≤ szL xs
  | [], m => by cases m
  | y :: ys, m => by
    simp only [szL]
    rcases List.mem_cons.mp m with e | e
    · subst e; omega
    · have := szL_mem e; omega
theorem szL_app : ∀ {xs ys : List D}, szL (xs ++ ys) = szL xs + szL ys
  | [], ys => by simp [szL]
  | x :: xs, ys => by simp only [List.cons_append, szL, szL_app (xs := xs)]; omega
theorem empty_filter {α : Type} (p : α → Bool) : ∀ xs : List α, (xs.filterMap fun d => if p d = true then some d else none).isEmpty = xs.all fun d => !p d
  | [] => rfl
  | x :: xs => by
    rw [List.filterMap_cons, List.all_cons, ← empty_filter p xs]
    cases h : p x <;> simp [h]
/-- what a def computes, nothing changed -/
def spFn (f : List D → Option D) : SpD := fun ds S Q => match f ds with
  | some r => Q r S
  | none => False
/-- of a built-in class -/
def isT (t : Ty) (d : D) : Bool := (isiB ⟨fun _ => none, 0, none⟩ t d).getD false
theorem isT_ok {S : HD} {t : Ty} {d : D} (h : okR d = true) : isiB S t d = some (isT t d) := by
  cases d <;> first | rfl | cases h
theorem isT_tup {d : D} (h : isT .tuple d = true) : ∃ xs, d = .tup xs := by
  cases d <;> first | exact ⟨_, rfl⟩ | cases h
section
variable {S : HD} {t : Ty}
theorem isi_non : isiB S t .non = some false := by cases t <;> rfl
theorem isi_bl {b : Bool} : isiB S t (.bl b) = some (match t with | .int => true | .bool => true | _ => false) := rfl
theorem isi_int {b : Int} : isiB S t (.int b) = some (match t with | .int => true | _ => false) := rfl
theorem isi_str {b : Str} : isiB S t (.str b) = some (match t with | .str => true | _ => false) := rfl
theorem isi_tup {b : List D} : isiB S t (.tup b) = some (match t with | .tuple => true | _ => false) := rfl
theorem isi_lst {b : List D} : isiB S t (.lst b) = some (match t with | .list => true | _ => false) := rfl
theorem isi_dic {b : List (D × D)} : isiB S t (.dic b) = some (match t with | .dict => true | _ => false) := rfl
end
/-- a later state of a def's run: what was tracked stands, no more than n draws -/
structure Up (n : Nat) (S S' : HD) : Prop where
  hp : ∀ a o, S.hp a = some o → S'.hp a = some o
  c : S'.c ≤ S.c + n
  dk : S'.dk = S.dk
theorem Up.refl (S : HD) : Up 0 S S := ⟨fun _ _ h => h, Nat.le_refl _, rfl⟩
theorem Up.le {n : Nat} {S S' : HD} (h : Up n S S') : HLe (S.tick n) S' := ⟨h.hp, h.c, h.dk.symm⟩
theorem Up.mono {n m : Nat} {S S' : HD} (h : Up n S S') (l : n ≤ m) : Up m S S' := ⟨h.hp, by have := h.c; omega, h.dk⟩
theorem Up.tick {n k : Nat} {S S' : HD} (h : Up n S S') : Up (n + k) S (S'.tick k) := ⟨h.hp, by have := h.c; simp only [HD.tick_c]; omega, h.dk⟩
theorem Up.set {n : Nat} {S S' : HD} {p : Addr} {o : OD} (h : Up n S S') (hp : S.hp p = none) : Up n S (S'.set p o) :=
  ⟨fun a u e => by rw [HD.set_ne fun z => by rw [z, hp] at e; cases e]; exact h.hp a u e, h.c, h.dk⟩
theorem Up.none {n : Nat} {S S' : HD} {p : Addr} (h : Up n S S') (hp : S'.hp p = none) : S.hp p = none := by
  cases e : S.hp p with
  | none => rfl
  | some o => rw [h.hp p o e] at hp; cases hp
theorem Up.new {n : Nat} {S S' : HD} {p : Addr} {o : OD} (h : Up n S S') (hp : S'.hp p = Option.none) : Up n S (S'.set p o) := h.set (h.none hp)
theorem Up.fin {n : Nat} {S S' : HD} {Q : QD} {d : D} (h : Up n S S') (q : Q d (S.tick n)) : PD.fin Q d S' := fin.le h.le q
theorem Up.trans {n m : Nat} {S S1 S2 : HD} (a : Up n S S1) (b : Up m S1 S2) : Up (n + m) S S2 := ⟨fun x o h => b.hp x o (a.hp x o h), by have := a.c; have := b.c; omega, b.dk.trans a.dk⟩
theorem lst_nodup {i n : Nat} {d : D} {xs : List D} (h : xs[i]? = some d) : d ∈ xs := List.mem_of_getElem? h
/-- all ends of a def's body are these two -/
abbrev ends (Q : QD) : EndsD := { nx := fun _ S2 => fin Q .non S2, rt := fin Q, bk := fun _ _ => False, ct := fun _ _ => False }
end PD
end

section
/-! PD18: slices of plain data, sizes of parts. -/
namespace PD
open PySem PySem.Spec PyProof.Rows
/-- one statement, the rest held back -/
theorem seq_step {t u : TSD} {E : EndsD} {σ : SD} {S : HD} (h : ∀ N : SD → HD → Prop, (∀ σ S, u E σ S → N σ S) → t { E with nx := N } σ S) : sSeqD t u E σ S := h (u E) fun _ _ h => h
theorem cut_pre (xs : List D) (a : Nat) : cutD xs none (some (a : Int)) = xs.take a := by
  unfold cutD
  rw [HT.sIx_none, HT.sIx_nat, List.drop_zero, Nat.sub_zero]
  by_cases h : a ≤ xs.length
  · rw [Nat.min_eq_left h]
  · rw [Nat.min_eq_right (by omega), List.take_of_length_le (Nat.le_refl _), List.take_of_length_le (by omega)]
theorem cut_last (xs : List D) : cutD xs none (some (-1)) = xs.take (xs.length - 1) := by
  unfold cutD
  rw [HT.sIx_none, List.drop_zero, Nat.sub_zero]
  have e : HT.sIx xs.length xs.length (some (-1)) = xs.length - 1 := by
    unfold HT.sIx
    simp only [show ((-1 : Int) < 0) by decide, if_true]
    omega
  rw [e]
theorem nrm_ok' {S : HD} {v : D} (h : okR v = true) : nrm S v = v := by
  cases v <;> first | rfl | cases h
theorem cut_suf (xs : List D) (a : Nat) : cutD xs (some (a : Int)) none = xs.drop a := by
  unfold cutD
  rw [HT.sIx_none, HT.sIx_nat]
  by_cases h : a ≤ xs.length
  · rw [Nat.min_eq_left h, List.take_of_length_le (by rw [List.length_drop]; exact Nat.le_refl _)]
  · rw [Nat.min_eq_right (by omega), Nat.sub_self, List.take_zero, List.drop_of_length_le (by omega)]
theorem cut_mid (xs : List D) (a b : Nat) (h : a ≤ b) : cutD xs (some (a : Int)) (some (b : Int)) = (xs.take b).drop a := by
  unfold cutD
  rw [HT.sIx_nat, HT.sIx_nat, List.drop_take]
  by_cases h1 : b ≤ xs.length
  · rw [Nat.min_eq_left h1, Nat.min_eq_left (by omega)]
  · rw [Nat.min_eq_right (a := b) (by omega)]
    by_cases h2 : a ≤ xs.length
    · rw [Nat.min_eq_left h2, List.take_of_length_le (by rw [List.length_drop]; exact Nat.le_refl _), List.take_of_length_le (by rw [List.length_drop]; omega)]
    · rw [Nat.min_eq_right (a := a) (by omega), Nat.sub_self, List.take_zero, List.drop_of_length_le (by omega), List.take_nil]
theorem szL_parts (xs : List D) (a : Nat) : szL (xs.take a) + szL (xs.drop a) = szL xs := by
  rw [← szL_app, List.take_append_drop]
theorem szL_len : ∀ xs : List D, 2 * xs.length ≤ szL xs
  | [] => Nat.le_refl _
  | x :: xs => by
    have := szL_len xs
    simp only [List.length_cons, szL]
    omega
theorem okRL_app {xs ys : List D} (h1 : okRL xs = true) (h2 : okRL ys = true) : okRL (xs ++ ys) = true :=
  okRL_of fun x hx => (List.mem_append.mp hx).elim (okRL_mem h1) (okRL_mem h2)
theorem okRL_sub {xs ys : List D} (h1 : okRL xs = true) (h : ∀ y ∈ ys, y ∈ xs) : okRL ys = true := okRL_of fun x hx => okRL_mem h1 (h x hx)
theorem depL_sub {xs ys : List D} (h : ∀ y ∈ ys, y ∈ xs) : depL ys ≤ depL xs := depL_of fun x hx => depL_le (h x hx)
theorem depL_app {xs ys : List D} : depL (xs ++ ys) = max (depL xs) (depL ys) := by
  induction xs with
  | nil => simp [depL]
  | cons x xs ih => simp only [List.cons_append, depL, ih]; omega
theorem szL_take (xs : List D) (a : Nat) : szL (xs.take a) ≤ szL xs := by have := szL_parts xs a; omega
theorem szL_drop (xs : List D) (a : Nat) : szL (xs.drop a) ≤ szL xs := by have := szL_parts xs a; omega
theorem szL_split {xs : List D} {a : Nat} {d : D} (h : xs[a]? = some d) : szL (xs.take a) + (sz d + 2) + szL (xs.drop (a + 1)) = szL xs := by
  obtain ⟨hl, rfl⟩ := List.getElem?_eq_some_iff.mp h
  have e := szL_parts xs a
  rw [List.drop_eq_getElem_cons hl] at e
  simp only [szL] at e
  omega
theorem atI_get {xs : List D} {a : Nat} (h : a < xs.length) : L2.atI xs (a : Int) = some xs[a] := by
  unfold L2.atI L2.ixN
  rw [if_pos (by omega), if_pos (by omega)]
  simp [h]
end PD
end

section
/-! PD19: enumerate and zip over lists, tuples and texts alike. -/
namespace PD
open PySem PySem.Spec PyProof.Rows L2
inductive SK where | lst | tup | str
def signs (z : Str) : List V := z.cps.toList.map fun c => .str ⟨#[c]⟩
/-- what is walked: v has the items xs -/
def SrcV (K : PySem.W.Frag) (H : Hp) : SK → V → List V → Prop
  | .lst, v, xs => ∃ a, v = .ref a ∧ SqL K H a xs
  | .tup, v, xs => ∃ a, v = .ref a ∧ SqT K H a xs
  | .str, v, xs => ∃ z, v = .str z ∧ xs = signs z
/-- its iterator stands at i -/
def ItSt : SK → Value → Addr → Nat → Heap → Prop
  | .lst, u, it, i, h => ∃ a, u = .ref a ∧ h.IsListIter it a i
  | .tup, u, it, i, h => ∃ a, u = .ref a ∧ h.IsTupleIter it a i
  | .str, u, it, i, h => ∃ z t, u = .str z t ∧ h.IsStrIter it (strIterType z) z t i
theorem ItSt.obj {k : SK} {u : Value} {it : Addr} {i : Nat} {h : Heap} (st : ItSt k u it i h) : ∃ o vs, h.get? it = some o ∧ o.data = .fields vs := by
  cases k with
  | lst => obtain ⟨_, _, o, e, _, d⟩ := st; exact ⟨o, _, e, d⟩
  | tup => obtain ⟨_, _, o, e, _, d⟩ := st; exact ⟨o, _, e, d⟩
  | str => obtain ⟨_, _, _, o, e, _, d⟩ := st; exact ⟨o, _, e, d⟩
theorem ItSt.move {k : SK} {u : Value} {it : Addr} {i : Nat} {h h' : Heap} (st : ItSt k u it i h) (hk : ∀ o, h.get? it = some o → h'.get? it = some o) : ItSt k u it i h' := by
  cases k with
  | lst => obtain ⟨a, q, o, e, r⟩ := st; exact ⟨a, q, o, hk o e, r⟩
  | tup => obtain ⟨a, q, o, e, r⟩ := st; exact ⟨a, q, o, hk o e, r⟩
  | str => obtain ⟨z, t, q, o, e, r⟩ := st; exact ⟨z, t, q, o, hk o e, r⟩
theorem vals_getR : ∀ {xs : List V} {us : List Value} {j : Nat} {y : Value}, Vals xs us → us[j]? = some y → ∃ x, xs[j]? = some x ∧ RelV x y
  | _, _, _, _, .nil, h => by simp at h
  | _, _, 0, y, .cons r _, h => by
    simp at h
    subst h
    exact ⟨_, rfl, r⟩
  | _, _, j + 1, y, .cons _ rs, h => by
    obtain ⟨x, h1, h2⟩ := vals_getR (j := j) rs (by simpa using h)
    exact ⟨x, by simpa using h1, h2⟩
def Below (u : Value) (N : Nat) : Prop := ∀ a, u = .ref a → a < N
section
variable {X : Cx} {pins : List (Addr × Obj)} {σ : L2.St} {H : Hp} {s : Shared}
theorem srcV_inj (I : Inv X pins σ H s) {k : SK} {v : V} {xs ys : List V} (h : SrcV X.K H k v xs) (h' : SrcV X.K H k v ys) : xs = ys := by
  cases k with
  | lst => obtain ⟨a, rfl, h⟩ := h; obtain ⟨b, e, h'⟩ := h'; cases e; exact I.list_inj h h'
  | tup => obtain ⟨a, rfl, h⟩ := h; obtain ⟨b, e, h'⟩ := h'; cases e; exact I.tuple_inj h h'
  | str => obtain ⟨a, rfl, rfl⟩ := h; obtain ⟨b, e, rfl⟩ := h'; cases e; rfl
theorem signs_get {z : Str} {j c : Nat} (h : z.cps[j]? = some c) : (signs z)[j]? = some (.str ⟨#[c]⟩) := by
  unfold signs
  rw [List.getElem?_map, Array.getElem?_toList, h]
  rfl
theorem signs_len (z : Str) : (signs z).length = z.cps.size := by simp [signs]
theorem srcV_draws (I : Inv X pins σ H s) {A : Around} (hh : A.handled = none) {k : SK} {v : V} {xs : List V} {u : Value} {it : Addr} {i : Nat} (hq : SrcV X.K H k v xs) (hv : RelV v u) (hit : ItSt k u it i s.heap) :
    ∃ (rest : List Addr) (Pp : Nat → Value → Prop) (St : Nat → Heap → Prop), Draws X.prog X.w A it (it :: rest) xs.length Pp St ∧ St i s.heap ∧ (∀ j y, Pp j y → ∃ x, xs[j]? = some x ∧ RelV x y) ∧ (∀ j h, St j h → ItSt k u it j h) ∧ ∀ b ∈ rest, u = .ref b := by
  cases k with
  | lst =>
    obtain ⟨a, rfl, hq⟩ := hq
    obtain rfl : u = Value.ref a := hv
    obtain ⟨its, r, p, z⟩ := I.list hq
    obtain ⟨_, e, hit⟩ := hit
    cases e
    have ne : a ≠ it := fun e => by
      obtain ⟨o, n, e1, _, _, d1⟩ := id p
      obtain ⟨o2, e2, _, d2⟩ := hit
      rw [e, e2] at e1
      cases e1
      rw [d1] at d2
      cases d2
    have en : its.toArray.size = xs.length := by rw [List.size_toArray]; exact r.length.symm
    have D := Draws.list (prog := X.prog) (w := X.w) hh it a ne its.toArray
    rw [en] at D
    exact ⟨[a], _, _, D, ⟨hit, p.isList⟩, fun j y hy => vals_getR r (by simpa using hy), fun j h st => ⟨a, rfl, st.1⟩, fun b hb => by rw [List.mem_singleton.mp hb]⟩
  | tup =>
    obtain ⟨a, rfl, hq⟩ := hq
    obtain rfl : u = Value.ref a := hv
    obtain ⟨its, r, p, z⟩ := I.tuple hq
    obtain ⟨_, e, hit⟩ := hit
    cases e
    have ne : a ≠ it := fun e => by
      obtain ⟨o, e1, _, n, d1⟩ := id p
      obtain ⟨o2, e2, _, d2⟩ := hit
      rw [e, e2] at e1
      cases e1
      rw [d1] at d2
      cases d2
    have en : its.toArray.size = xs.length := by rw [List.size_toArray]; exact r.length.symm
    have D := Draws.tuple (prog := X.prog) (w := X.w) hh it a ne its.toArray
    rw [en] at D
    exact ⟨[a], _, _, D, ⟨hit, p⟩, fun j y hy => vals_getR r (by simpa using hy), fun j h st => ⟨a, rfl, st.1⟩, fun b hb => by rw [List.mem_singleton.mp hb]⟩
  | str =>
    obtain ⟨z, rfl, rfl⟩ := hq
    obtain ⟨t, rfl⟩ := hv
    obtain ⟨_, _, e, hit⟩ := hit
    cases e
    have D := Draws.text (prog := X.prog) (w := X.w) hh it z t
    rw [← signs_len] at D
    exact ⟨[], _, _, D, hit, fun j y ⟨c, u, hc, e⟩ => ⟨_, signs_get hc, by rw [e]; exact ⟨u, rfl⟩⟩, fun j h st => ⟨z, t, rfl, st⟩, fun b hb => (by cases hb)⟩
/-- at the end -/
theorem srcV_end (I : Inv X pins σ H s) {A : Around} (hh : A.handled = none) {k : SK} {v : V} {xs : List V} {u : Value} {it : Addr} {i : Nat} (hq : SrcV X.K H k v xs) (hv : RelV v u) (hit : ItSt k u it i s.heap) (hi : xs.length ≤ i) :
    ∃ (rest : List Addr) (Pp : Nat → Value → Prop) (St : Nat → Heap → Prop), Draws X.prog X.w A it (it :: rest) i Pp St ∧ St i s.heap ∧ ∀ b ∈ rest, u = .ref b := by
  have mk : ∀ (rest : List Addr) (S0 : Heap → Prop), S0 s.heap → (∀ h, S0 h → ∃ o, h.get? it = some o) → (∀ h h', S0 h → (∀ b ∈ it :: rest, ∀ o, h.get? b = some o → h'.get? b = some o) → S0 h') → (∀ b ∈ rest, u = .ref b) →
      (∀ (s : Shared) (Q : Value → Shared → Prop) (E : Value → Shared → Prop), S0 s.heap → (∀ h' e, Heap.ExtBut it s.heap h' → (∃ o, h'.get? e = some o ∧ o.cls = .type "StopIteration") → E (.ref e) { s with heap := h' }) → wpAny (model X.prog X.w) A (Builtin.SmallTypes.nextOf (.ref it)) Q E s) →
      ∃ (rest : List Addr) (Pp : Nat → Value → Prop) (St : Nat → Heap → Prop), Draws X.prog X.w A it (it :: rest) i Pp St ∧ St i s.heap ∧ ∀ b ∈ rest, u = .ref b := fun rest S0 h0 h1 h2 h3 h4 =>
    ⟨rest, fun _ _ => False, fun j h => j = i ∧ S0 h, { live := fun j h st => h1 h st.2, frame := fun j h h' st kp => ⟨st.1, h2 h h' st.2 kp⟩, item := fun j s Q E hj st _ => absurd st.1 (Nat.ne_of_lt hj), done := fun s Q E st hE => h4 s Q E st.2 hE }, ⟨rfl, h0⟩, h3⟩
  cases k with
  | lst =>
    obtain ⟨a, rfl, hq⟩ := hq
    obtain rfl : u = Value.ref a := hv
    obtain ⟨its, r, p, z⟩ := I.list hq
    obtain ⟨_, e, hit⟩ := hit
    cases e
    have := r.length
    exact mk [a] (fun h => h.IsListIter it a i ∧ h.IsList a its.toArray) ⟨hit, p.isList⟩ (fun h st => let ⟨o, ho, _⟩ := st.1; ⟨o, ho⟩) (fun h h' st kp => ⟨st.1.at fun o e => kp it (by simp) o e, st.2.at fun o e => kp a (by simp) o e⟩) (fun b hb => by rw [List.mem_singleton.mp hb])
      fun s Q E st hE => wpAny_nextOf_list_end hh st.1 st.2 (by simp; omega) hE
  | tup =>
    obtain ⟨a, rfl, hq⟩ := hq
    obtain rfl : u = Value.ref a := hv
    obtain ⟨its, r, p, z⟩ := I.tuple hq
    obtain ⟨_, e, hit⟩ := hit
    cases e
    have := r.length
    exact mk [a] (fun h => h.IsTupleIter it a i ∧ h.IsTuple a its.toArray) ⟨hit, p⟩ (fun h st => let ⟨o, ho, _⟩ := st.1; ⟨o, ho⟩) (fun h h' st kp => ⟨st.1.at fun o e => kp it (by simp) o e, st.2.at fun o e => kp a (by simp) o e⟩) (fun b hb => by rw [List.mem_singleton.mp hb])
      fun s Q E st hE => wpAny_nextOf_tuple_end hh st.1 st.2 (by simp; omega) hE
  | str =>
    obtain ⟨z, rfl, rfl⟩ := hq
    obtain ⟨t, rfl⟩ := hv
    obtain ⟨_, _, e, hit⟩ := hit
    cases e
    rw [signs_len] at hi
    refine mk [] (fun h => h.IsStrIter it (strIterType z) z t i) hit (fun h st => let ⟨o, ho, _⟩ := st; ⟨o, ho⟩) (fun h h' st kp => let ⟨o, ho, r⟩ := st; ⟨o, kp it (by simp) o ho, r⟩) (fun b hb => (by cases hb)) fun s Q E st hE => ?_
    have hx : z.cps[i]? = none := Array.getElem?_eq_none hi
    cases ha : z.cps.all (· < 128)
    · simp only [strIterType, ha, Bool.false_eq_true, if_false] at st
      exact wpAny_nextOf_wide_end hh st hx hE
    · simp only [strIterType, ha, if_true] at st
      exact wpAny_nextOf_ascii_end hh st hx hE
/-- the iterator is made -/
theorem srcV_begins (I : Inv X pins σ H s) {k : SK} {v : V} {xs : List V} {u : Value} (hq : SrcV X.K H k v xs) (hv : RelV v u) :
    ∃ (o : Obj) (Hp : Heap → Prop), Begins u o Hp ∧ Hp s.heap ∧ Below u s.heap.objs.size ∧ ∀ (h : Heap) (it : Addr), h.get? it = some o → ItSt k u it 0 h := by
  cases k with
  | lst =>
    obtain ⟨a, rfl, hq⟩ := hq
    obtain rfl : u = Value.ref a := hv
    obtain ⟨its, r, p, z⟩ := I.list hq
    exact ⟨_, _, begins_list a its.toArray, p.isList, fun b e => (by cases e; exact p.lt), fun h it e => ⟨a, rfl, _, e, rfl, rfl⟩⟩
  | tup =>
    obtain ⟨a, rfl, hq⟩ := hq
    obtain rfl : u = Value.ref a := hv
    obtain ⟨its, r, p, z⟩ := I.tuple hq
    exact ⟨_, _, begins_tuple a its.toArray, p, fun b e => (by cases e; obtain ⟨o, e1, _⟩ := p; exact Heap.lt_size e1), fun h it e => ⟨a, rfl, _, e, rfl, rfl⟩⟩
  | str =>
    obtain ⟨z, rfl, rfl⟩ := hq
    obtain ⟨t, rfl⟩ := hv
    exact ⟨_, _, begins_text z t, trivial, fun b e => (by cases e), fun h it e => ⟨z, t, rfl, _, e, rfl, rfl⟩⟩
end
/-! ### enumerate -/
def IteA (K : PySem.W.Frag) (k : SK) (v : V) : It :=
  ⟨fun i H => ∃ (xs : List V) (x : V), SrcV K H k v xs ∧ xs[i]? = some x, fun i H y H' => ∃ T x, y = .ref T ∧ H T = none ∧ H' = upd H T (.tup [.int (i : Nat), x]) ∧ ∀ xs, SrcV K H k v xs → xs[i]? = some x, fun i H => ∃ xs : List V, SrcV K H k v xs ∧ xs.length ≤ i⟩
theorem turn_enumA {P : Program} {w : World} {K : PySem.W.Frag} {elts : List Expr} {kk : Nat} {tpos : Pos} (k : SK) (v : V) (u : Value) (hv : RelV v u) (N : Nat) (hN : Below u N) :
    Turn P w K (.Tuple elts kk tpos) (IteA K k v) [N + 1, N] (N + 1) (fun i h => (∃ old, IsEnum h (N + 1) N ((i : Nat) : Int) old) ∧ ItSt k u N i h) where
  mem := by simp
  obj := fun i h st b hb => by
    obtain ⟨⟨old, he⟩, hi⟩ := st
    obtain ⟨o, vs, ho, hd⟩ := hi.obj
    have e' : b = N + 1 ∨ b = N := by simpa using hb
    rcases e' with z | z
    · rw [z]; exact ⟨_, he, fun v q => nomatch q⟩
    · rw [z]; exact ⟨o, ho, fun v q => by rw [hd] at q; cases q⟩
  keep := fun i h h' st kp => let ⟨⟨old, he⟩, hi⟩ := st; ⟨⟨old, kp (N + 1) (by simp) _ he⟩, hi.move fun o q => kp N (by simp) o q⟩
  item := by
    intro X hP hw hK hc i pins s σ H E I hf st hg
    subst hP hw hK
    obtain ⟨⟨old, he⟩, hit⟩ := st
    obtain ⟨xs, x, hq, hx⟩ := hg
    have hne : (N + 1 : Nat) ≠ N := Nat.succ_ne_self N
    obtain ⟨rest, Pp, St, D, hst, hPp, hnx, hr⟩ := srcV_draws I (A := X.A.in1) (I.ok.hd hc) hq hv hit
    have hef : (N + 1 : Nat) ∉ N :: rest := fun hm => by
      rcases List.mem_cons.mp hm with e | hm
      · exact hne e
      · have := hN _ (hr _ hm)
        exact absurd this (by show ¬ ((N + 1 : Nat) < N); omega)
    have hil : i < xs.length := (List.getElem?_eq_some_iff.mp hx).1
    have hel : (N + 1 : Nat) < s.heap.objs.size := Heap.lt_size he
    have hNl : (N : Nat) < s.heap.objs.size := Nat.lt_of_succ_lt hel
    refine wpAny_pyNext_enum_itemD D he hst hil hne hef fun y h' tk hP1 ho hst' hT hsz hk => ?_
    obtain ⟨x', hx', ry⟩ := hPp i y hP1
    rw [hx] at hx'
    cases hx'
    refine ⟨_, rfl, wpAny_letOwnedTupleGo_enum (s := { s with heap := h', toks := tk + 1 }) ho fun h'' he' sb => ?_⟩
    have hT2 : h''.get? s.heap.objs.size = some { cls := .type "tuple", data := .seq #[.int i tk, y] } := (sb.2 _ (Nat.ne_of_gt hel)).trans hT
    have new : ObjOk X.prog X.w (upd H s.heap.objs.size (.tup [.int (i : Nat), x])) h'' s.heap.objs.size (.tup [.int (i : Nat), x]) :=
      ⟨by show 2 ≤ sizeLine; decide, [.int i tk, y], .cons ⟨_, rfl⟩ (.cons ry .nil), ⟨_, hT2, rfl, _, rfl⟩⟩
    have I1 : Inv X pins σ (upd H s.heap.objs.size (.tup [.int (i : Nat), x])) { s with heap := h'', toks := tk + 1 } :=
      I.turnedNew (ch := [N + 1, N]) (fun b ob hb q => (sb.2 b (fun z => hb (by simp [z]))).trans (hk b ob (fun z => hb (by simp [z])) (fun z => hb (by simp [z])) q)) hf (Nat.le_refl _) new
    refine ⟨.ref s.heap.objs.size, _, I1, rfl, ⟨_, x, rfl, I.hok.fresh (Nat.le_refl _), rfl, fun ys hy => by rw [srcV_inj I hy hq]; exact hx⟩, ⟨⟨y, ?_⟩, (hnx _ _ hst').move fun o q => (sb.2 N (Ne.symm hne)).trans q⟩, fun b hb => ?_⟩
    · rw [show ((i + 1 : Nat) : Int) = (i : Int) + 1 from rfl]
      exact he'
    · have e' : b = N + 1 ∨ b = N := by simpa using hb
      have hb' : b < s.heap.objs.size := e'.elim (fun z => by rw [z]; exact hel) (fun z => by rw [z]; exact hNl)
      rw [upd_ne (Nat.ne_of_lt hb')]
      exact (hf b hb).1
  done := by
    intro X hP hw hK hc i pins s σ H E I hf st hg
    subst hP hw hK
    obtain ⟨⟨old, he⟩, hit⟩ := st
    obtain ⟨xs, hq, hx⟩ := hg
    obtain ⟨f0, f1, f2, f3, f4, f5⟩ := hf N (by simp)
    obtain ⟨rest, Pp, St, D, hst, hr⟩ := srcV_end I (A := X.A.in1) (I.ok.hd hc) hq hv hit hx
    exact wpAny_pyNext_enum_endD D he hst fun h' eb => ⟨rfl, I.turned (t' := s.toks) (fun b o hb q => eb b o hb q) f0 f1 f3 f4 f5⟩
  self := fun A i s Q E st h => let ⟨⟨_, he⟩, _⟩ := st; wpAny_pyIter_enum he h
theorem meets_enum1 {v : Value} {o : Obj} {H : Heap → Prop} (B : Begins v o H) :
    Meets (Builtin.«enumerate.__new__» ⟨[.type "enumerate", v], []⟩) (fun _ R s => H s.heap ∧ R (.ok (.ret (.ref (s.heap.push o).objs.size))) { s with heap := (s.heap.push o).push { cls := .type "enumerate", data := .fields #[.none, .bool false, .ref s.heap.objs.size, rawInt 0, .none, .none] } }) :=
  .of_wp fun prog w A R s h => by
    obtain ⟨hp, g, d, tk, os⟩ := s
    obtain ⟨h1, h⟩ := h
    have hsub := sub_enumerate
    have q1 : ∀ {A' : Around} {E : Value → Shared → Prop} {Q : Value → Shared → Prop}, Q (.ref hp.objs.size) ⟨hp.push o, g, d, tk, os⟩ → wpAny (model prog w) A' (pyIter v) Q E ⟨hp, g, d, tk, os⟩ := fun q => B.iter prog w _ _ ⟨hp, g, d, tk, os⟩ _ h1 q
    wp_walk using q1
    refine wpAny_stack_any fun st => wpAny_pure ?_
    split
    · rename_i c _ _ _ _ _
      cases (c == Value.type "enumerate") <;> (wp_walk using q1; exact ⟨_, rfl, h⟩)
    · wp_walk using q1
      exact ⟨_, rfl, h⟩
section
variable {prog : Program} {w : World} {A : Around} {E : Value → Shared → Prop} {s : Shared}
theorem enum_begins1 {v : Value} {o : Obj} {H : Heap → Prop} {Q : Value → Shared → Prop} (B : Begins v o H) (h1 : H s.heap)
    (h : ∀ h', IsEnum h' (s.heap.objs.size + 1) s.heap.objs.size 0 .none → h'.get? s.heap.objs.size = some o → (∀ b o, s.heap.get? b = some o → h'.get? b = some o) → Q (.ref (s.heap.objs.size + 1)) { s with heap := h' }) :
    wpAny (model prog w) A (call (.type "enumerate") [v]) Q E s := by
  refine callType_new F.called_enumerate (by decide) (F.typeCall_enumerate_1 _) (F.newCall_enumerate_1 _) (fun obj => F.args_object_init_2 obj _) F.entry_enumerate_new (meets_enum1 B) ⟨h1, ?_⟩
  have hz : (s.heap.push o).objs.size = s.heap.objs.size + 1 := Heap.size_push ..
  have he := Heap.get?_push_size (s.heap.push o) (o := { cls := .type "enumerate", data := .fields #[.none, .bool false, .ref s.heap.objs.size, rawInt 0, .none, .none] }) rfl
  show _ ∧ _
  rw [hz] at he ⊢
  exact ⟨⟨_, he, rfl⟩, h _ he (Heap.get?_push_of_some _ (Heap.get?_push_size _ B.free)) fun b o x => Heap.get?_push_of_some _ (Heap.get?_push_of_some _ x)⟩
end
def iEnumA (K : PySem.W.Frag) (ta : TA) : TI := fun σ H R => ta σ H fun vs H1 => ∃ v k xs, vs = [v] ∧ SrcV K H1 k v xs ∧ R (IteA K k v) H1
theorem pi_enumA {X : Cx} {e : Expr} {ta : TA} {p pos tpos : Pos} {elts : List Expr} {kk : Nat} (hg : Gl X "enumerate") (hm : X.mg "enumerate" = none) (ha : PA X [e] ta) (hs : starEach [e] X.env = [(false, eval e X.env)] := by rfl) :
    PI X (.Tuple elts kk tpos) (.Call (.Name "enumerate" p) [e] [] pos) (iEnumA X.K ta) := by
  refine ⟨fun pins s σ H R I h => Call_ (ld_blt I hg hm boot_enumerate (PyProof.Rows.callWith_type1 (thn (ha.run pos pins s σ H _ I h) fun us s1 ⟨vs, H1, I1, r1, v, k, xs, ex, hq, q⟩ => ?_) hs rfl))⟩
  subst ex
  cases r1 with
  | @cons _ u _ _ r rr =>
    cases rr
    obtain ⟨o, Hq, B, b1, bl, bi⟩ := srcV_begins I1 hq r
    refine enum_begins1 B b1 fun h' he hit hk => wpAny_pyIter_enum he ?_
    refine ⟨s1.heap.objs.size + 1, [s1.heap.objs.size + 1, s1.heap.objs.size], _, _, H1, rfl, I1.kept (t' := s1.toks) hk, turn_enumA k v u r s1.heap.objs.size bl, ⟨⟨.none, he⟩, bi _ _ hit⟩, fun b hb => ?_, q⟩
    have e' : b = s1.heap.objs.size + 1 ∨ b = s1.heap.objs.size := by simpa using hb
    have hle : s1.heap.objs.size ≤ b := e'.elim (fun z => by rw [z]; exact Nat.le_add_right _ _) fun z => by rw [z]; exact Nat.le_refl _
    exact I1.fpOk hle (I1.hok.fresh hle)
/-! ### zip -/
def ItzA (K : PySem.W.Frag) (k1 k2 : SK) (v1 v2 : V) : It :=
  ⟨fun i H => ∃ (xs ys : List V) (x y : V), SrcV K H k1 v1 xs ∧ SrcV K H k2 v2 ys ∧ xs[i]? = some x ∧ ys[i]? = some y,
    fun i H v H' => ∃ T x y, v = .ref T ∧ H T = none ∧ H' = upd H T (.tup [x, y]) ∧ (∀ xs, SrcV K H k1 v1 xs → xs[i]? = some x) ∧ ∀ ys, SrcV K H k2 v2 ys → ys[i]? = some y,
    fun i H => ∃ xs ys : List V, SrcV K H k1 v1 xs ∧ SrcV K H k2 v2 ys ∧ (xs.length = i ∧ i ≤ ys.length ∨ ys.length = i ∧ i ≤ xs.length)⟩
theorem turn_zipX {P : Program} {w : World} {K : PySem.W.Frag} {elts : List Expr} {kk : Nat} {tpos : Pos} (k1 k2 : SK) (v1 v2 : V) (u1 u2 : Value) (hv1 : RelV v1 u1) (hv2 : RelV v2 u2) (N : Nat) (hN1 : Below u1 N) (hN2 : Below u2 N) :
    Turn P w K (.Tuple elts kk tpos) (ItzA K k1 k2 v1 v2) [N + 4, N + 2, N + 3, N, N + 1] (N + 4)
      (fun i h => IsZip h (N + 4) (N + 2) (N + 3) .none ∧ IsTupOf2 h (N + 2) (.ref N) (.ref (N + 1)) ∧ (∃ a b, IsTupOf2 h (N + 3) a b) ∧ ItSt k1 u1 N i h ∧ ItSt k2 u2 (N + 1) i h) where
  mem := by simp
  obj := fun i h st c hc => by
    obtain ⟨hz, hTI, ⟨x, y, hTO⟩, h1, h2⟩ := st
    obtain ⟨o1, vs1, e1, d1⟩ := h1.obj
    obtain ⟨o2, vs2, e2, d2⟩ := h2.obj
    have e' : c = N + 4 ∨ c = N + 2 ∨ c = N + 3 ∨ c = N ∨ c = N + 1 := by simpa using hc
    rcases e' with q | q | q | q | q <;> rw [q]
    · exact ⟨_, hz, fun v q => nomatch q⟩
    · exact ⟨_, hTI, fun v q => nomatch q⟩
    · exact ⟨_, hTO, fun v q => nomatch q⟩
    · exact ⟨o1, e1, fun v q => by rw [d1] at q; cases q⟩
    · exact ⟨o2, e2, fun v q => by rw [d2] at q; cases q⟩
  keep := fun i h h' st kp => by
    obtain ⟨hz, hTI, ⟨x, y, hTO⟩, h1, h2⟩ := st
    exact ⟨kp _ (by simp) _ hz, kp _ (by simp) _ hTI, ⟨x, y, kp _ (by simp) _ hTO⟩, h1.move fun o q => kp _ (by simp) o q, h2.move fun o q => kp _ (by simp) o q⟩
  item := by
    intro X hP hw hK hc i pins s σ H E I hf st hg
    subst hP hw hK
    obtain ⟨hz, hTI, ⟨x0, y0, hTO⟩, h1, h2⟩ := st
    obtain ⟨xs, ys, x, y, hqx, hqy, hx, hy⟩ := hg
    obtain ⟨r1, P1, St1, D1, s1, p1, n1, b1⟩ := srcV_draws I (A := X.A.in1) (I.ok.hd hc) hqx hv1 h1
    obtain ⟨r2, P2, St2, D2, s2, p2, n2, b2⟩ := srcV_draws I (A := X.A.in1) (I.ok.hd hc) hqy hv2 h2
    have S := zip_sep2 (N := N) (fp1 := r1) (fp2 := r2) (fun b hb => hN1 b (b1 b hb)) (fun b hb => hN2 b (b2 b hb))
    have hzl : (N + 4 : Nat) < s.heap.objs.size := Heap.lt_size hz
    refine wpAny_pyNext_zipD2_item S D1 D2 hz hTI hTO s1 s2 (List.getElem?_eq_some_iff.mp hx).1 (List.getElem?_eq_some_iff.mp hy).1 fun u u' h' tk y1 y2 z' TO' h1' h2' hT hsz hk => ?_
    obtain ⟨x', e1, ru⟩ := p1 i u y1
    obtain ⟨y', e2, ru2⟩ := p2 i u' y2
    rw [hx] at e1
    rw [hy] at e2
    cases e1
    cases e2
    refine ⟨_, rfl, wpAny_letOwnedTupleGo_zip (s := { s with heap := h', toks := tk }) z' fun h'' z'' sb => ?_⟩
    have hT2 : h''.get? s.heap.objs.size = some { cls := .type "tuple", data := .seq #[u, u'] } := (sb.2 _ (Nat.ne_of_gt hzl)).trans hT
    have new : ObjOk X.prog X.w (upd H s.heap.objs.size (.tup [x, y])) h'' s.heap.objs.size (.tup [x, y]) := ⟨by show 2 ≤ sizeLine; decide, [u, u'], .cons ru (.cons ru2 .nil), ⟨_, hT2, rfl, _, rfl⟩⟩
    have I1 : Inv X pins σ (upd H s.heap.objs.size (.tup [x, y])) { s with heap := h'', toks := tk } :=
      I.turnedNew (ch := [N + 4, N + 2, N + 3, N, N + 1]) (fun c o hb q => (sb.2 c (fun q' => hb (by simp [q']))).trans (hk c o (fun q' => hb (by simp [q'])) (fun q' => hb (by simp [q'])) (fun q' => hb (by simp [q'])) (fun q' => hb (by simp [q'])) q)) hf (Nat.le_refl _) new
    have nz : ∀ c : Nat, c ≠ N + 4 → ∀ o, h'.get? c = some o → h''.get? c = some o := fun c hc o q => (sb.2 c hc).trans q
    refine ⟨.ref s.heap.objs.size, _, I1, rfl, ⟨_, x, y, rfl, I.hok.fresh (Nat.le_refl _), rfl, fun l hl => by rw [srcV_inj I hl hqx]; exact hx, fun l hl => by rw [srcV_inj I hl hqy]; exact hy⟩, ⟨z'', ?_, ⟨u, u', ?_⟩, ?_, ?_⟩, fun c hcm => ?_⟩
    · exact nz (N + 2) (by omega) _ (hk _ _ S.TIz S.TITO S.TIi1 S.TIi2 hTI)
    · exact nz (N + 3) (by omega) _ TO'
    · exact (n1 _ _ h1').move fun o q => nz N (by omega) o q
    · exact (n2 _ _ h2').move fun o q => nz (N + 1) (by omega) o q
    · have hlt : c < s.heap.objs.size := by
        have e' : c = N + 4 ∨ c = N + 2 ∨ c = N + 3 ∨ c = N ∨ c = N + 1 := by simpa using hcm
        have : ∀ m : Nat, m ≤ N + 4 → m < s.heap.objs.size := fun m hm => by omega
        rcases e' with q | q | q | q | q <;> (rw [q]; exact this _ (by omega))
      rw [upd_ne (Nat.ne_of_lt hlt)]
      exact (hf c hcm).1
  done := by
    intro X hP hw hK hc i pins s σ H E I hf st hg
    subst hP hw hK
    obtain ⟨hz, hTI, ⟨x0, y0, hTO⟩, h1, h2⟩ := st
    obtain ⟨xs, ys, hqx, hqy, hend⟩ := hg
    obtain ⟨r1, P1, St1, D1, s1, p1, n1, b1⟩ := srcV_draws I (A := X.A.in1) (I.ok.hd hc) hqx hv1 h1
    obtain ⟨r2, P2, St2, D2, s2, p2, n2, b2⟩ := srcV_draws I (A := X.A.in1) (I.ok.hd hc) hqy hv2 h2
    have S := zip_sep2 (N := N) (fp1 := r1) (fp2 := r2) (fun b hb => hN1 b (b1 b hb)) (fun b hb => hN2 b (b2 b hb))
    exact wpAny_pyNext_zipD2_end S D1 D2 hz hTI hTO s1 s2 (by omega) (by omega) (by omega) fun h' tk hk => ⟨rfl, I.turnedL (t' := tk) (ch := [N + 4, N + 2, N + 3, N, N + 1]) (fun c o hb q =>
      hk c o (fun q' => hb (by simp [q'])) (fun q' => hb (by simp [q'])) (fun q' => hb (by simp [q'])) (fun q' => hb (by simp [q'])) q) hf⟩
  self := fun A i s Q E st h => wpAny_pyIter_zip st.1 h
def iZipX (K : PySem.W.Frag) (ta : TA) : TI := fun σ H R => ta σ H fun vs H1 => ∃ v1 v2 k1 k2 xs ys, vs = [v1, v2] ∧ SrcV K H1 k1 v1 xs ∧ SrcV K H1 k2 v2 ys ∧ R (ItzA K k1 k2 v1 v2) H1
theorem pi_zipX {X : Cx} {e e2 : Expr} {ta : TA} {p pos tpos : Pos} {elts : List Expr} {kk : Nat} (hg : Gl X "zip") (hm : X.mg "zip" = none) (ha : PA X [e, e2] ta)
    (hs : starEach [e, e2] X.env = (false, eval e X.env) :: starEach [e2] X.env := by rfl) (hpl : (backTo pos (starEach [e2] X.env)).any (·.1) = false := by rfl) :
    PI X (.Tuple elts kk tpos) (.Call (.Name "zip" p) [e, e2] [] pos) (iZipX X.K ta) := by
  refine ⟨fun pins s σ H R I h => Call_ (ld_blt I hg hm PyProof.Rows.boot_zip (PyProof.Rows.callWith_type1 (thn (ha.run pos pins s σ H _ I h) fun us s1 ⟨vs, H1, I1, r1, v1, v2, k1, k2, xs, ys, ex, hqx, hqy, q⟩ => ?_) hs hpl))⟩
  subst ex
  cases r1 with
  | @cons _ u1 _ _ ru1 rr =>
    cases rr with
    | @cons _ u2 _ _ ru2 rr =>
      cases rr
      obtain ⟨o1, Hq1, B1, b1, bl1, bi1⟩ := srcV_begins I1 hqx ru1
      obtain ⟨o2, Hq2, B2, b2, bl2, bi2⟩ := srcV_begins I1 hqy ru2
      refine zip_begins2 B1 B2 b1 b2 fun h' hz hTI hTO g1 g2 hsz hk => wpAny_pyIter_zip hz ?_
      refine ⟨s1.heap.objs.size + 4, _, _, _, H1, rfl, I1.kept (t' := s1.toks) hk, turn_zipX k1 k2 v1 v2 u1 u2 ru1 ru2 s1.heap.objs.size bl1 bl2, ⟨hz, hTI, ⟨_, _, hTO⟩, bi1 _ _ g1, bi2 _ _ g2⟩, fun c hcm => ?_, q⟩
      have e' : c = s1.heap.objs.size + 4 ∨ c = s1.heap.objs.size + 2 ∨ c = s1.heap.objs.size + 3 ∨ c = s1.heap.objs.size ∨ c = s1.heap.objs.size + 1 := by simpa using hcm
      have hle : s1.heap.objs.size ≤ c := by rcases e' with z | z | z | z | z <;> (rw [z]; first | exact Nat.le_add_right _ _ | exact Nat.le_refl _)
      exact I1.fpOk hle (I1.hok.fresh hle)
end PD
end

section
/-! PD20: what is walked, over deep values: any sequence, enumerate, zip. -/
namespace PD
open PySem PySem.Spec PyProof.Rows L2
def signsD (z : Str) : List D := z.cps.toList.map fun c => .str ⟨#[c]⟩
theorem rds_signs {K : PySem.W.Frag} {G : Addr → Prop} {S : HD} {H : Hp} (z : Str) : RDs K G S H (signsD z) (signs z) := by
  unfold signsD signs
  generalize z.cps.toList = cs
  induction cs with
  | nil => exact .nil
  | cons c cs ih => exact .cons (.str _) ih
/-- the items, and what keeps them -/
def srcD (S : HD) : D → Option (List D × (HD → Prop))
  | .tup xs => some (xs, fun _ => True)
  | .lst xs => some (xs, fun _ => True)
  | .ref a => match S.hp a with
    | some (.lst xs) => some (xs, fun S => S.hp a = some (.lst xs))
    | _ => none
  | .str z => some (signsD z, fun _ => True)
  | _ => none
def skD : D → SK
  | .tup _ => .tup
  | .str _ => .str
  | _ => .lst
theorem srcD_at {K : PySem.W.Frag} {S0 : HD} {d : D} {v : V} {xs : List D} {keep : HD → Prop} (e : srcD S0 d = some (xs, keep)) {G : Addr → Prop} {S : HD} {H : Hp} (rh : RH K G S H) (q : RD K G S H d v) (k : keep S) : ∃ vs, SrcV K H (skD d) v vs ∧ RDs K G S H xs vs := by
  cases q with
  | tup h r => cases e; exact ⟨_, ⟨_, rfl, h.sq⟩, r⟩
  | lst h r => cases e; exact ⟨_, ⟨_, rfl, h.sq⟩, r⟩
  | str z => cases e; exact ⟨_, ⟨_, rfl, rfl⟩, rds_signs z⟩
  | ref a =>
    simp only [srcD] at e
    split at e
    · cases e
      obtain ⟨_, _, vs, e1, r⟩ := rh.hp a _ k
      exact ⟨vs, ⟨a, rfl, .of e1⟩, r⟩
    · cases e
  | _ => cases e
theorem srcD_keep {S : HD} {d : D} {xs : List D} {keep : HD → Prop} (e : srcD S d = some (xs, keep)) : keep S := by
  cases d <;> first | (cases e; done) | (cases e; trivial) | skip
  simp only [srcD] at e
  split at e
  · cases e; assumption
  · cases e
/-! ### enumerate -/
def enumD (xs : List D) : List D := (xs.zipIdx).map fun p => .tup [.int (p.2 : Nat), p.1]
theorem enumD_get {xs : List D} {i : Nat} {d : D} (h : (enumD xs)[i]? = some d) : ∃ x, xs[i]? = some x ∧ d = .tup [.int (i : Nat), x] := by
  unfold enumD at h
  rw [List.getElem?_map, List.getElem?_zipIdx] at h
  cases e : xs[i]? with
  | none => rw [e] at h; cases h
  | some x => rw [e] at h; simp at h; exact ⟨x, rfl, h.symm⟩
theorem enumD_len (xs : List D) : (enumD xs).length = xs.length := by simp [enumD]
theorem itOk_enum {K : PySem.W.Frag} {G : Addr → Prop} {S : HD} {H : Hp} {k : SK} {v : V} {xs : List D} {keep : HD → Prop} (h : ∀ S1 H1, FL S H S1 H1 → RH K G S1 H1 → keep S1 → ∃ vs, SrcV K H1 k v vs ∧ RDs K G S1 H1 xs vs) : ItOk K G S H (IteA K k v) (enumD xs) keep where
  go := fun i d S1 H1 hx f r kp => by
    obtain ⟨x, hx', rfl⟩ := enumD_get hx
    obtain ⟨vs, h1, h2⟩ := h S1 H1 f r kp
    obtain ⟨y, e1, e2⟩ := h2.get hx'
    refine ⟨⟨vs, y, h1, e1⟩, fun z H2 ⟨T, y', ez, hT, eH, hy⟩ => ?_⟩
    subst ez eH
    have := hy vs h1
    rw [e1] at this
    cases this
    obtain ⟨r', f', _⟩ := r.newF hT (.tup [.int (i : Nat), y])
    exact ⟨f', r', r.newT hT (.cons (.int _) (.cons e2 .nil))⟩
  stop := fun S1 H1 f r kp => by
    obtain ⟨vs, h1, h2⟩ := h S1 H1 f r kp
    exact ⟨vs, h1, by rw [enumD_len, h2.length]; exact Nat.le_refl _⟩
def iEnumD (ta : TAD) : TID := fun σ S R => ta σ S fun ds S1 => match ds with
  | [d] => (match srcD S1 d with
    | some (xs, keep) => R (enumD xs) keep S1
    | none => False)
  | _ => False
theorem di_enum {X : Cx} {e : Expr} {ta : TAD} {p pos tpos : Pos} {elts : List Expr} {kk : Nat} (hm : X.mg "enumerate" = none) (ha : DA X [e] ta) (hg : Gl X "enumerate" := by rfl) (hs : starEach [e] X.env = [(false, eval e X.env)] := by rfl) : DI X (.Tuple elts kk tpos) (.Call (.Name "enumerate" p) [e] [] pos) (iEnumD ta) :=
  (pi_enumA hg hm ha hs).imp fun σ H R ⟨G, σd, S, Rd, rs, rh, t, p⟩ => ⟨G, σd, S, _, rs, rh, t, fun S1 ds vs H1 f1 rh1 q1 t1 => by
    split at t1
    · rename_i d
      cases q1 with
      | @cons _ v _ _ q r =>
        cases r
        split at t1
        · rename_i xs keep e
          obtain ⟨ws, h1, _⟩ := srcD_at e rh1 q (srcD_keep e)
          exact ⟨v, skD d, ws, rfl, h1, p S1 _ _ _ H1 f1 rh1 (fun G' S2 H2 m2 rh2 => itOk_enum fun S3 H3 f3 rh3 k3 => srcD_at e rh3 ((q.mv m2).fl f3) k3) t1⟩
        · exact t1.elim
    · exact t1.elim⟩
/-! ### zip -/
def zipD (xs ys : List D) : List D := (xs.zip ys).map fun p => .tup [p.1, p.2]
theorem zipD_len (xs ys : List D) : (zipD xs ys).length = min xs.length ys.length := by simp [zipD]
theorem zipD_get {xs ys : List D} {i : Nat} {d : D} (h : (zipD xs ys)[i]? = some d) : ∃ x y, xs[i]? = some x ∧ ys[i]? = some y ∧ d = .tup [x, y] := by
  unfold zipD at h
  rw [List.getElem?_map] at h
  obtain ⟨⟨x, y⟩, h1, h2⟩ := Option.map_eq_some_iff.mp h
  have := List.getElem?_zip_eq_some.mp h1
  exact ⟨x, y, this.1, this.2, h2.symm⟩
theorem itOk_zip {K : PySem.W.Frag} {G : Addr → Prop} {S : HD} {H : Hp} {k1 k2 : SK} {v1 v2 : V} {xs ys : List D} {keep : HD → Prop} (h : ∀ S1 H1, FL S H S1 H1 → RH K G S1 H1 → keep S1 → (∃ vs, SrcV K H1 k1 v1 vs ∧ RDs K G S1 H1 xs vs) ∧ ∃ vs, SrcV K H1 k2 v2 vs ∧ RDs K G S1 H1 ys vs) : ItOk K G S H (ItzA K k1 k2 v1 v2) (zipD xs ys) keep where
  go := fun i d S1 H1 hx f r kp => by
    obtain ⟨x, y, hx', hy, rfl⟩ := zipD_get hx
    obtain ⟨⟨vs, h1, h2⟩, ws, h3, h4⟩ := h S1 H1 f r kp
    obtain ⟨u, e1, e2⟩ := h2.get hx'
    obtain ⟨u', e3, e4⟩ := h4.get hy
    refine ⟨⟨vs, ws, u, u', h1, h3, e1, e3⟩, fun z H2 ⟨T, y1, y2, ez, hT, eH, g1, g2⟩ => ?_⟩
    subst ez eH
    have a1 := g1 vs h1
    have a2 := g2 ws h3
    rw [e1] at a1
    rw [e3] at a2
    cases a1
    cases a2
    obtain ⟨r', f', _⟩ := r.newF hT (.tup [u, u'])
    exact ⟨f', r', r.newT hT (.cons e2 (.cons e4 .nil))⟩
  stop := fun S1 H1 f r kp => by
    obtain ⟨⟨vs, h1, h2⟩, ws, h3, h4⟩ := h S1 H1 f r kp
    refine ⟨vs, ws, h1, h3, ?_⟩
    rw [zipD_len, h2.length, h4.length]
    omega
def iZipD (ta : TAD) : TID := fun σ S R => ta σ S fun ds S1 => match ds with
  | [d, e] => (match srcD S1 d, srcD S1 e with
    | some (xs, k1), some (ys, k2) => R (zipD xs ys) (fun S => k1 S ∧ k2 S) S1
    | _, _ => False)
  | _ => False
theorem di_zip {X : Cx} {e e2 : Expr} {ta : TAD} {p pos tpos : Pos} {elts : List Expr} {kk : Nat} (hm : X.mg "zip" = none) (ha : DA X [e, e2] ta) (hg : Gl X "zip" := by rfl)
    (hs : starEach [e, e2] X.env = (false, eval e X.env) :: starEach [e2] X.env := by rfl) (hpl : (backTo pos (starEach [e2] X.env)).any (·.1) = false := by rfl) : DI X (.Tuple elts kk tpos) (.Call (.Name "zip" p) [e, e2] [] pos) (iZipD ta) :=
  (pi_zipX hg hm ha hs hpl).imp fun σ H R ⟨G, σd, S, Rd, rs, rh, t, p⟩ => ⟨G, σd, S, _, rs, rh, t, fun S1 ds vs H1 f1 rh1 q1 t1 => by
    split at t1
    · rename_i d d'
      cases q1 with
      | @cons _ v _ _ q r =>
        cases r with
        | @cons _ v' _ _ q' r =>
          cases r
          split at t1
          · rename_i xs k1 ys k2 ea eb
            obtain ⟨ws, h1, _⟩ := srcD_at ea rh1 q (srcD_keep ea)
            obtain ⟨ws', h2, _⟩ := srcD_at eb rh1 q' (srcD_keep eb)
            exact ⟨v, v', skD d, skD d', ws, ws', rfl, h1, h2, p S1 _ _ _ H1 f1 rh1 (fun G' S2 H2 m2 rh2 => itOk_zip fun S3 H3 f3 rh3 k3 => ⟨srcD_at ea rh3 ((q.mv m2).fl f3) k3.1, srcD_at eb rh3 ((q'.mv m2).fl f3) k3.2⟩) t1⟩
          · exact t1.elim
    · exact t1.elim⟩
/-! ### anything walked by itself -/
/-- its turns -/
def ItV (K : PySem.W.Frag) (k : SK) (v : V) : It :=
  ⟨fun i H => ∃ (xs : List V) (x : V), SrcV K H k v xs ∧ xs[i]? = some x, fun i H y H' => H' = H ∧ ∀ xs, SrcV K H k v xs → xs[i]? = some y, fun i H => ∃ xs : List V, SrcV K H k v xs ∧ xs.length ≤ i⟩
theorem turn_map {P : Program} {w : World} {K : PySem.W.Frag} {tg : Expr} {J J' : It} {fp : List Addr} {it : Addr} {tn : Nat → Heap → Prop} (T : Turn P w K tg J fp it tn) (h1 : ∀ i H, J'.go i H → J.go i H) (h2 : ∀ i H x H', J'.go i H → J.yld i H x H' → J'.yld i H x H') (h3 : ∀ i H, J'.stop i H → J.stop i H) : Turn P w K tg J' fp it tn where
  mem := T.mem
  obj := T.obj
  keep := T.keep
  item := fun X hP hw hK hc i pins s σ H E I hf st hg => wpAny_mono (T.item X hP hw hK hc i pins s σ H E I hf st (h1 _ _ hg)) (fun r s1 ⟨u, e, q⟩ => ⟨u, e, wpAny_mono q (fun _ s2 ⟨x, H', a, b, c, d⟩ => ⟨x, H', a, b, h2 _ _ _ _ hg c, d⟩) fun _ _ h => h⟩) fun _ _ h => h
  done := fun X hP hw hK hc i pins s σ H E I hf st hg => T.done X hP hw hK hc i pins s σ H E I hf st (h3 _ _ hg)
  self := T.self
def iSrcV (K : PySem.W.Frag) (te : TE) : TI := fun σ H R => te σ H fun v H1 => ∃ k xs, SrcV K H1 k v xs ∧ (k = .str ∨ xs.length ≤ sizeLine → R (ItV K k v) H1)
theorem pi_src {X : Cx} {tg e : Expr} {te : TE} (he : PE X e te) : PI X tg e (iSrcV X.K te) := by
  refine ⟨fun pins s σ H R I h => thn (he.run pins s σ H _ I h) fun u s1 ⟨v, H1, I1, r1, k, xs, hq, q⟩ => ?_⟩
  cases k with
  | lst =>
    obtain ⟨a, rfl, hq⟩ := hq
    obtain rfl : u = Value.ref a := r1
    obtain ⟨its, rv, p, hz⟩ := I1.list hq
    refine wpAny_pyIter_list p.isList (pi_one (tk := s1.toks) I1 _ (turn_map (J' := ItV X.K .lst (.ref a)) (turn_list a _) (fun i H ⟨xs, x, ⟨b, e, h⟩, hx⟩ => ?_) (fun i H x H' ⟨xs, x', ⟨b, e, h⟩, hx⟩ y => ?_) fun i H ⟨xs, ⟨b, e, h⟩, hx⟩ => ?_) ⟨_, Heap.get?_push_size _ rfl, rfl, rfl⟩ (q (.inr hz)))
    · cases e; exact ⟨xs, x, h, hx⟩
    · cases e
      obtain ⟨y1, y2⟩ := y
      exact ⟨y1, fun zs ⟨b, e, hz⟩ => (by cases e; exact y2 zs hz)⟩
    · cases e; exact ⟨xs, h, hx⟩
  | tup =>
    obtain ⟨a, rfl, hq⟩ := hq
    obtain rfl : u = Value.ref a := r1
    obtain ⟨its, rv, p, hz⟩ := I1.tuple hq
    refine wpAny_pyIter_tuple (show s1.heap.IsTuple a its.toArray from p) (pi_one (tk := s1.toks) I1 _ (turn_map (J' := ItV X.K .tup (.ref a)) (turn_tuple a _) (fun i H ⟨xs, x, ⟨b, e, h⟩, hx⟩ => ?_) (fun i H x H' ⟨xs, x', ⟨b, e, h⟩, hx⟩ y => ?_) fun i H ⟨xs, ⟨b, e, h⟩, hx⟩ => ?_) ⟨_, Heap.get?_push_size _ rfl, rfl, rfl⟩ (q (.inr hz)))
    · cases e; exact ⟨xs, x, h, hx⟩
    · cases e
      obtain ⟨y1, y2⟩ := y
      exact ⟨y1, fun zs ⟨b, e, hz⟩ => (by cases e; exact y2 zs hz)⟩
    · cases e; exact ⟨xs, h, hx⟩
  | str =>
    obtain ⟨z, rfl, rfl⟩ := hq
    obtain ⟨t, rfl⟩ := r1
    have g1 : ∀ i H, (ItV X.K .str (.str z)).go i H → (Its z).go i H := fun i H ⟨xs, x, ⟨b, e, h⟩, hx⟩ => by
      cases e
      subst h
      have := (List.getElem?_eq_some_iff.mp hx).1
      rw [signs_len] at this
      exact this
    have g2 : ∀ i H x H', (ItV X.K .str (.str z)).go i H → (Its z).yld i H x H' → (ItV X.K .str (.str z)).yld i H x H' := fun i H x H' _ ⟨y1, c, hc, ev⟩ => ⟨y1, fun zs ⟨b, e, hz⟩ => by
      cases e
      subst hz ev
      exact signs_get hc⟩
    have g3 : ∀ i H, (ItV X.K .str (.str z)).stop i H → (Its z).stop i H := fun i H ⟨xs, ⟨b, e, h⟩, hx⟩ => by
      cases e
      subst h
      rw [signs_len] at hx
      exact hx
    cases ha : z.cps.all (· < 128)
    · exact wpAny_pyIter_wide ha (pi_one (tk := s1.toks) I1 _ (turn_map (turn_str _ z t "str_iterator" (.inr rfl)) g1 g2 g3) ⟨_, Heap.get?_push_size _ rfl, rfl, rfl⟩ (q (.inl rfl)))
    · exact wpAny_pyIter_ascii ha (pi_one (tk := s1.toks) I1 _ (turn_map (turn_str _ z t "str_ascii_iterator" (.inl rfl)) g1 g2 g3) ⟨_, Heap.get?_push_size _ rfl, rfl, rfl⟩ (q (.inl rfl)))
theorem itOk_v {K : PySem.W.Frag} {G : Addr → Prop} {S : HD} {H : Hp} {k : SK} {v : V} {xs : List D} {keep : HD → Prop} (h : ∀ S1 H1, FL S H S1 H1 → RH K G S1 H1 → keep S1 → ∃ vs, SrcV K H1 k v vs ∧ RDs K G S1 H1 xs vs) : ItOk K G S H (ItV K k v) xs keep where
  go := fun i d S1 H1 hx f r kp => by
    obtain ⟨vs, h1, h2⟩ := h S1 H1 f r kp
    obtain ⟨y, e1, e2⟩ := h2.get hx
    refine ⟨⟨vs, y, h1, e1⟩, fun z H2 ⟨eH, hy⟩ => ?_⟩
    subst eH
    have := hy vs h1
    rw [e1] at this
    cases this
    exact ⟨.refl _ _, r, e2⟩
  stop := fun S1 H1 f r kp => by
    obtain ⟨vs, h1, h2⟩ := h S1 H1 f r kp
    exact ⟨vs, h1, by rw [h2.length]; exact Nat.le_refl _⟩
/-- a list, a tuple, a text -/
def iAnyD (te : TED) : TID := fun σ S R => te σ S fun d S1 => match srcD S1 d with
  | some (xs, keep) => (match d with
    | .str z => R xs keep S1
    | _ => xs.length ≤ sizeLine → R xs keep S1)
  | none => False
theorem di_any {X : Cx} {tg l : Expr} {tl : TED} (hl : DE X l tl) : DI X tg l (iAnyD tl) :=
  (pi_src hl).imp fun σ H R ⟨G, σd, S, Rd, rs, rh, t, p⟩ => ⟨G, σd, S, _, rs, rh, t, fun S1 d v H1 f1 rh1 q1 t1 => by
    split at t1
    · rename_i xs keep e
      obtain ⟨vs, h1, h2⟩ := srcD_at e rh1 q1 (srcD_keep e)
      refine ⟨skD d, vs, h1, fun hz => p S1 _ _ _ H1 f1 rh1 (fun G' S2 H2 m2 rh2 => itOk_v fun S3 H3 f3 rh3 k3 => srcD_at e rh3 ((q1.mv m2).fl f3) k3) ?_⟩
      split at t1
      · exact t1
      · rename_i ne
        refine t1 (hz.elim (fun e => ?_) fun hz => by rw [h2.length]; exact hz)
        cases d <;> first | cases e | skip
        exact (ne _ rfl).elim
    · exact t1.elim⟩
end PD
end

section
/-! PD21: methods of lists and texts, in, sum, [::-1]. -/
namespace PD
open PySem PySem.Spec PyProof.Rows L2
section
variable {X : Cx} {o e a b : Expr} {es : List Expr} {to te ta tb : TED} {tA : TAD} {name : Str} {apos cpos pos : Pos}
/-- a list, tracked or frozen -/
def isLst (S : HD) (d : D) : Prop := ∃ xs, asLst S d = some xs
/-- o.m(e, ..) of any list -/
def tMethA (rd : D → List D → HD → QD → Prop) (to : TED) (ta : TAD) : TED := fun σ S Q => to σ S fun x S1 => isLst S1 x ∧ ta σ S1 fun ds S2 => rd x ds S2 Q
theorem de_methA {id : String} {r : V → List V → Hp → VK → Prop} {rd : D → List D → HD → QD → Prop} (slot : Slot "list" name id) (hty : typeOf (.builtin id) = pure (.type "method_descriptor")) (hm : MtR X id r)
    (i : ∀ G S H d v ds vs Qd Q, RH X.K G S H → RD X.K G S H d v → RDs X.K G S H ds vs → rd d ds S Qd → Post X.K G S H Qd Q → r v vs H Q) (ho : DE X o to) (ha : DA X (e :: es) tA)
    (hbase : attributeBase o name X.env (eval o X.env) = eval o X.env := by rfl)
    (hfew : ((backTo cpos (starEach (e :: es) X.env)).all (fun x => !x.1) && (backToKw cpos (keywordEach [] X.env)).all (fun x => x.1.isSome)
      && decide ((e :: es).length + ([] : List Keyword).length + (if ([] : List Keyword).isEmpty then 0 else 1) < 30)) = true := by rfl)
    (hline : (apos.endLine == cpos.line) = true := by rfl) (hs : starEach (e :: es) X.env = (false, eval e X.env) :: starEach es X.env := by rfl) (hplain : (backTo cpos (starEach es X.env)).any (·.1) = false := by rfl) :
    DE X (.Call (.Attribute o name apos) (e :: es) [] cpos) (tMethA rd to tA) :=
  (pe_bm PySem.F.plainAttrs_list slot hty hm ho ha hbase hfew hline hs hplain).imp fun σ H Q ⟨G, σd, S, Qd, rs, rh, t, p⟩ => ⟨G, σd, S, _, rs, rh, t, fun S1 d v H1 f1 rh1 q1 ⟨⟨xs, hl⟩, t1⟩ => by
    obtain ⟨p1, vs, rfl, l1, _⟩ := asLst_ok rh1 hl q1
    exact ⟨.inl ⟨rfl, _, l1⟩, G, σd, S1, _, rs.fl f1, rh1, t1, fun S2 ds vs H2 f2 rh2 q2 t2 => i G S2 H2 _ _ ds vs _ _ rh2 (q1.fl f2) q2 t2 (p.fl (f1.trans f2))⟩⟩
theorem de_methA0 {id : String} {r : V → List V → Hp → VK → Prop} {rd : D → List D → HD → QD → Prop} (slot : Slot "list" name id) (hty : typeOf (.builtin id) = pure (.type "method_descriptor")) (hm : MtR X id r)
    (i : ∀ G S H d v Qd Q, RH X.K G S H → RD X.K G S H d v → rd d [] S Qd → Post X.K G S H Qd Q → r v [] H Q) (ho : DE X o to)
    (hbase : attributeBase o name X.env (eval o X.env) = eval o X.env := by rfl) (hline : (apos.endLine == cpos.line) = true := by rfl) : DE X (.Call (.Attribute o name apos) [] [] cpos) (tMethA rd to tNilD) :=
  (pe_bm0 PySem.F.plainAttrs_list slot hty hm ho hbase hline).imp fun σ H Q ⟨G, σd, S, Qd, rs, rh, t, p⟩ => ⟨G, σd, S, _, rs, rh, t, fun S1 d v H1 f1 rh1 q1 ⟨⟨xs, hl⟩, t1⟩ => by
    obtain ⟨p1, vs, rfl, l1, _⟩ := asLst_ok rh1 hl q1
    exact ⟨.inl ⟨rfl, _, l1⟩, i G S1 H1 _ _ _ _ rh1 q1 t1 (p.fl f1)⟩⟩
/-- xs.extend(ys) -/
def rExtD : D → List D → HD → QD → Prop := fun x ds S Q => match x, ds with
  | .ref a, [y] => (match S.hp a, asLst S y with
    | some (.lst xs), some zs => xs.length + zs.length ≤ sizeLine ∧ Q .non (S.set a (.lst (xs ++ zs)))
    | _, _ => False)
  | _, _ => False
theorem extD_ok : ∀ G S H d v ds vs Qd Q, RH X.K G S H → RD X.K G S H d v → RDs X.K G S H ds vs → rExtD d ds S Qd → Post X.K G S H Qd Q → (∃ l b xs zs, v = .ref l ∧ vs = [.ref b] ∧ H l = some (.lst xs) ∧ SqL X.K H b zs ∧ xs.length + zs.length ≤ sizeLine ∧ Q .non (upd H l (.lst (xs ++ zs)))) := by
  intro G S H d v ds vs Qd Q rh q1 q2 t p
  unfold rExtD at t
  split at t
  · rename_i a y
    split at t
    · rename_i xs zs e e2
      obtain ⟨_, _, ws, e1, r⟩ := rh.hp a _ e
      cases q1
      cases q2 with
      | @cons _ u _ _ q2 r2 =>
        cases r2
        obtain ⟨b, us, rfl, l2, rr⟩ := asLst_ok rh e2 q2
        obtain ⟨rh', f'⟩ := rh.writeL e (r.append rr)
        exact ⟨a, b, ws, us, rfl, rfl, e1, l2, by rw [← r.length, ← rr.length]; exact t.1, p _ _ _ _ f' rh' .non t.2⟩
    · exact t.elim
  · exact t.elim
/-- xs.pop() -/
def rPopD : D → List D → HD → QD → Prop := fun x _ S Q => match x with
  | .ref a => (match S.hp a with
    | some (.lst xs) => (match xs.getLast? with
      | some y => Q y (S.set a (.lst xs.dropLast))
      | none => False)
    | _ => False)
  | _ => False
theorem RDs.dropLast {K : PySem.W.Frag} {G : Addr → Prop} {S : HD} {H : Hp} {ds : List D} {vs : List V} (r : RDs K G S H ds vs) : RDs K G S H ds.dropLast vs.dropLast := by
  rw [List.dropLast_eq_take, List.dropLast_eq_take, r.length]
  exact r.take _
theorem de_pop (ho : DE X o to) (hbase : attributeBase o "pop" X.env (eval o X.env) = eval o X.env := by rfl) (hline : (apos.endLine == cpos.line) = true := by rfl) : DE X (.Call (.Attribute o "pop" apos) [] [] cpos) (tMethA rPopD to tNilD) :=
  de_methA0 PySem.F.slot_list_pop PySem.F.type_list_pop mt_pop (fun G S H d v Qd Q rh q1 t p => by
    unfold rPopD at t
    split at t
    · rename_i a
      split at t
      · rename_i xs e
        split at t
        · rename_i y e2
          obtain ⟨_, _, ws, e1, r⟩ := rh.hp a _ e
          cases q1
          rw [List.getLast?_eq_getElem?] at e2
          obtain ⟨u, h1, h2⟩ := r.get e2
          rw [r.length] at h1
          obtain ⟨rh', f'⟩ := rh.writeL e r.dropLast
          exact ⟨a, ws, u, rfl, rfl, e1, h1, p _ _ _ _ f' rh' (h2.fl f') t⟩
        · exact t.elim
      · exact t.elim
    · exact t.elim) ho hbase hline
/-! ### flat values -/
def flatD : D → Bool
  | .non => true
  | .bl _ => true
  | .int _ => true
  | .str _ => true
  | _ => false
def toV : D → V
  | .bl b => .bl b
  | .int i => .int i
  | .str x => .str x
  | _ => .non
def eqF (d e : D) : Bool := eqV (toV d) (toV e)
theorem flat_v {K : PySem.W.Frag} {G : Addr → Prop} {S : HD} {H : Hp} {d : D} {v : V} (q : RD K G S H d v) (h : flatD d = true) : v = toV d ∧ flatV v = true := by
  cases q <;> first | exact ⟨rfl, rfl⟩ | cases h
theorem flats_v {K : PySem.W.Frag} {G : Addr → Prop} {S : HD} {H : Hp} : ∀ {ds : List D} {vs : List V}, RDs K G S H ds vs → ds.all flatD = true → vs = ds.map toV ∧ vs.all flatV = true
  | _, _, .nil, _ => ⟨rfl, rfl⟩
  | _, _, .cons q r, h => by
    simp only [List.all_cons, Bool.and_eq_true] at h
    obtain ⟨h1, h2⟩ := flat_v q h.1
    obtain ⟨h3, h4⟩ := flats_v r h.2
    exact ⟨by rw [h1, h3]; rfl, by simp only [List.all_cons, h2, h4, Bool.and_self]⟩
/-- x in xs, flat -/
def inF (x : D) (xs : List D) : Bool := xs.any fun y => eqF y x
def rInD (neg : Bool) : R2D := fun x y S Q => match asSeq S y with
  | some xs => (flatD x = true ∧ xs.all flatD = true) ∧ Q (.bl (if neg then !inF x xs else inF x xs)) S
  | none => False
theorem in2 {K : PySem.W.Frag} (neg : Bool) : Op2 K (rIn K neg) (rInD neg) := fun G S H d1 d2 v1 v2 Qd Q rh q1 q2 t p => by
  unfold rInD at t
  split at t
  · rename_i xs e
    obtain ⟨⟨f1, f2⟩, t⟩ := t
    obtain ⟨a, ws, rfl, l, r⟩ := asSeq_ok rh e q2
    obtain ⟨e1, g1⟩ := flat_v q1 f1
    obtain ⟨e2, g2⟩ := flats_v r f2
    refine ⟨a, ws, rfl, l, g1, g2, p.here rh ?_ t⟩
    have e3 : inV v1 ws = inF d1 xs := by
      rw [e1, e2]
      unfold inV inF eqF
      rw [List.any_map]
      rfl
    rw [e3]
    exact .bl _
  · exact t.elim
theorem de_in (ha : DE X a ta) (hb : DE X b tb) (hm : behindInMarks .In b = false := by rfl) : DE X (.Compare a [.In] [b] pos) (tBin (rInD false) ta tb) := de_cmp op_in_seq (in2 false) ha hb hm
theorem de_notIn (ha : DE X a ta) (hb : DE X b tb) (hm : behindInMarks .NotIn b = false := by rfl) : DE X (.Compare a [.NotIn] [b] pos) (tBin (rInD true) ta tb) := de_cmp op_notIn_seq (in2 true) ha hb hm
theorem dt_in (ha : DE X a ta) (hb : DE X b tb) (hm : behindInMarks .In b = false := by rfl) : DT X (.Compare a [.In] [b] pos) (tTst (tBin (rInD false) ta tb)) := dt_cmp op_in_seq (in2 false) ha hb hm
theorem dt_notIn (ha : DE X a ta) (hb : DE X b tb) (hm : behindInMarks .NotIn b = false := by rfl) : DT X (.Compare a [.NotIn] [b] pos) (tTst (tBin (rInD true) ta tb)) := dt_cmp op_notIn_seq (in2 true) ha hb hm
/-- xs.index(y), flat: the first place -/
def ixF (x : D) : List D → Option Nat
  | [] => none
  | y :: ys => if eqF y x = true then some 0 else (ixF x ys).map (· + 1)
def rLixD : D → List D → HD → QD → Prop := fun x ds S Q => match ds with
  | [y] => (match asLst S x with
    | some xs => (flatD y = true ∧ xs.all flatD = true) ∧ (match ixF y xs with
      | some j => Q (.int (j : Nat)) S
      | none => False)
    | none => False)
  | _ => False
theorem ixF_some {x : D} : ∀ {xs : List D} {j : Nat}, ixF x xs = some j → ∃ z, xs[j]? = some z ∧ eqF z x = true ∧ ∀ m z', m < j → xs[m]? = some z' → eqF z' x = false
  | [], j, h => by cases h
  | y :: ys, j, h => by
    unfold ixF at h
    split at h
    · rename_i hy
      cases h
      exact ⟨y, rfl, hy, fun m z' hm => absurd hm (Nat.not_lt_zero m)⟩
    · rename_i hy
      obtain ⟨k, hk, rfl⟩ := Option.map_eq_some_iff.mp h
      obtain ⟨z, h1, h2, h3⟩ := ixF_some hk
      refine ⟨z, by simpa using h1, h2, fun m z' hm hz => ?_⟩
      cases m with
      | zero => simp at hz; subst hz; simpa using hy
      | succ m => exact h3 m z' (by omega) (by simpa using hz)
/-- sum(xs) of whole numbers -/
def intsOf : List D → Option (List Int)
  | [] => some []
  | .int i :: r => (intsOf r).map (i :: ·)
  | _ :: _ => none
theorem intsOf_eq : ∀ {ds : List D} {ns : List Int}, intsOf ds = some ns → ds = ns.map D.int
  | [], ns, h => by cases h; rfl
  | .int i :: r, ns, h => by
    simp only [intsOf] at h
    obtain ⟨ms, h1, rfl⟩ := Option.map_eq_some_iff.mp h
    rw [intsOf_eq h1]
    rfl
  | .non :: _, _, h => by cases h
  | .bl _ :: _, _, h => by cases h
  | .str _ :: _, _, h => by cases h
  | .tup _ :: _, _, h => by cases h
  | .lst _ :: _, _, h => by cases h
  | .dic _ :: _, _, h => by cases h
  | .ref _ :: _, _, h => by cases h
  | .ty _ :: _, _, h => by cases h
  | .deck :: _, _, h => by cases h
theorem intsOf_map (ns : List Int) : intsOf (ns.map D.int) = some ns := by
  induction ns with
  | nil => rfl
  | cons n ns ih => simp [intsOf, ih]
def rSumD : SpD := fun ds S Q => match ds with
  | [d] => (match asLst S d with
    | some xs => (match intsOf xs with
      | some ns => Q (.int ns.sum) S
      | none => False)
    | none => False)
  | _ => False
theorem call_sumRD (hc : X.calm = true := by rfl) : CallRD X (.builtin "sum") rSumD := .of (cr_sum hc) fun G S H ds vs Qd Q rh rd t p => by
  unfold rSumD at t
  split at t
  · split at t
    · rename_i xs e
      split at t
      · rename_i ns e2
        cases rd with
        | cons q r =>
          cases r
          obtain ⟨a, ws, rfl, l, r⟩ := asLst_ok rh e q
          rw [intsOf_eq e2] at r
          rw [rds_ints r] at l
          exact ⟨a, ns, rfl, l, p.here rh (.int _) t⟩
      · exact t.elim
    · exact t.elim
  · exact t.elim
end
end PD
end

section
/-! PD22: extend by any list, index, join, [::-1] of lists. -/
namespace PD
open PySem PySem.Spec PyProof.Rows L2
open AutoSeq1 (wpAny_loadPart')
theorem meets_extB (l : Addr) (items : Array Value) (n : Nat) (b : Addr) (items2 : Array Value) (n2 : Nat) (dd : Option Addr) (sl : Array (Option Value)) (hc0 : ¬(!items.isEmpty && Builtin.List.listTooLong (items.size + items2.size)) = true) (hc1 : items.size ≤ sizeLine) (hs2 : items.size + items2.size ≤ sizeLine + 1) :
    Meets (Builtin.«list.extend» ⟨[.ref l, .ref b], []⟩) (fun _ R s => s.heap.get? l = some { cls := .type "list", dict := none, data := .seq items n, slots := #[] } ∧ s.heap.get? b = some { cls := .type "list", dict := dd, data := .seq items2 n2, slots := sl } ∧
      R (.ok (.ret Value.none)) { s with heap := s.heap.update l (Obj.mapSeq fun x => x ++ items2), toks := s.toks }) :=
  .of_wp fun prog w A R s h => by
    obtain ⟨hp, g, d, tk, os⟩ := s
    obtain ⟨hl, hb, h⟩ := h
    have f1 := PySem.AutoSeq1.idx_int
    have f2 := PySem.AutoSeq1.sub_tuple_tuple
    have f3 := PySem.AutoSeq1.sub_list_list
    have f4 := PySem.AutoSeq1.sub_tuple_list
    have f5 := PySem.AutoSeq1.sub_list_tuple
    have hz' : (items ++ items2).size ≤ sizeLine + 1 := by rw [Array.size_append]; exact hs2
    wp_walk using (wpAny_updateSeq hl rfl (hz := hc1) (_hz' := hz')), wpAny_loadPart' hl, wpAny_loadPart' hb
    exact ⟨_, rfl, h⟩
section
variable {X : Cx} {o e a b : Expr} {to te ta tb : TED} {apos cpos pos : Pos}
def rExtS (K : PySem.W.Frag) : V → List V → Hp → VK → Prop := fun v vs H Q => ∃ l b xs zs, v = .ref l ∧ vs = [.ref b] ∧ H l = some (.lst xs) ∧ SqL K H b zs ∧ xs.length + zs.length ≤ sizeLine ∧ Q .non (upd H l (.lst (xs ++ zs)))
theorem mt_extS : MtR X "list.extend" (rExtS X.K) := by
  intro pins s σ H x vs v us Q I rx rv ⟨l, b, xs, zs, e1, e2, hH, hB, hz, q⟩
  subst e1 e2
  cases rx
  obtain ⟨u, rfl, ru⟩ := rv.one
  cases ru
  obtain ⟨z, its, n, r, hl, e⟩ := I.lstM hH
  obtain ⟨its2, r2, ⟨⟨cls, dd, data, sl⟩, n2, ho, hc, hdn, hd⟩, hlen⟩ := I.list hB
  simp only at hc hd
  subst hc hd
  have hl2 := r2.length
  have hsz : its.toArray.size + its2.toArray.size ≤ sizeLine := by rw [List.size_toArray, List.size_toArray]; omega
  have hlong : ¬ (!its.toArray.isEmpty && Builtin.List.listTooLong (its.toArray.size + its2.toArray.size)) = true := by
    rw [notLongL hsz, Bool.and_false]
    decide
  exact call_meets PySem.F.slot_list_extend ⟨_, e, rfl⟩ PySem.F.entry_list_extend (PySem.F.args_list_extend_2 _ _) (meets_extB l its.toArray n b its2.toArray n2 dd sl hlong (by omega) (by omega))
    ⟨e, ho, .non, _, I.lset (its' := its ++ its2) hH e (by simp) (r.append r2) (by rw [List.length_append]; omega), rfl, q⟩
theorem de_extend (ho : DE X o to) (ha : DA X [e] (tConsD te tNilD)) (hbase : attributeBase o "extend" X.env (eval o X.env) = eval o X.env := by rfl)
    (hfew : ((backTo cpos (starEach (e :: []) X.env)).all (fun x => !x.1) && (backToKw cpos (keywordEach [] X.env)).all (fun x => x.1.isSome)
      && decide ((e :: ([] : List Expr)).length + ([] : List Keyword).length + (if ([] : List Keyword).isEmpty then 0 else 1) < 30)) = true := by rfl)
    (hline : (apos.endLine == cpos.line) = true := by rfl) (hs : starEach (e :: []) X.env = (false, eval e X.env) :: starEach [] X.env := by rfl) : DE X (.Call (.Attribute o "extend" apos) [e] [] cpos) (tMethA rExtD to (tConsD te tNilD)) :=
  de_methA PySem.F.slot_list_extend PySem.F.type_list_extend mt_extS extD_ok ho ha hbase hfew hline hs rfl
theorem de_lindex (ho : DE X o to) (ha : DA X [e] (tConsD te tNilD)) (hbase : attributeBase o "index" X.env (eval o X.env) = eval o X.env := by rfl)
    (hfew : ((backTo cpos (starEach (e :: []) X.env)).all (fun x => !x.1) && (backToKw cpos (keywordEach [] X.env)).all (fun x => x.1.isSome)
      && decide ((e :: ([] : List Expr)).length + ([] : List Keyword).length + (if ([] : List Keyword).isEmpty then 0 else 1) < 30)) = true := by rfl)
    (hline : (apos.endLine == cpos.line) = true := by rfl) (hs : starEach (e :: []) X.env = (false, eval e X.env) :: starEach [] X.env := by rfl) : DE X (.Call (.Attribute o "index" apos) [e] [] cpos) (tMethA rLixD to (tConsD te tNilD)) :=
  de_methA PySem.F.slot_list_index PySem.F.type_list_index mt_index (fun G S H d v ds vs Qd Q rh q1 q2 t p => by
    unfold rLixD at t
    split at t
    · rename_i y
      split at t
      · rename_i xs e
        obtain ⟨⟨f1, f2⟩, t⟩ := t
        split at t
        · rename_i j ej
          obtain ⟨z, z1, z2, z3⟩ := ixF_some ej
          obtain ⟨p1, ws, rfl, l, r⟩ := asLst_ok rh e q1
          cases q2 with
          | cons q2 r2 =>
            cases r2
            obtain ⟨e1, g1⟩ := flat_v q2 f1
            obtain ⟨e2, g2⟩ := flats_v r f2
            subst e1 e2
            refine ⟨p1, _, _, j, toV z, rfl, rfl, l, g1, g2, by rw [List.getElem?_map, z1]; rfl, z2, fun m z' hm hz => ?_, p.here rh (.int _) t⟩
            rw [List.getElem?_map] at hz
            obtain ⟨w, hw, rfl⟩ := Option.map_eq_some_iff.mp hz
            exact z3 m w hm hw
        · exact t.elim
      · exact t.elim
    · exact t.elim) ho ha hbase hfew hline hs rfl
/-! ### texts -/
/-- o.m(e) of a text -/
def tMethS (rd : D → D → HD → QD → Prop) (to te : TED) : TED := fun σ S Q => to σ S fun x S1 => (∃ z, x = .str z) ∧ te σ S1 fun y S2 => rd x y S2 Q
def strsOf : List D → Option (List Str)
  | [] => some []
  | .str i :: r => (strsOf r).map (i :: ·)
  | _ :: _ => none
theorem strsOf_map (ns : List Str) : strsOf (ns.map D.str) = some ns := by
  induction ns with
  | nil => rfl
  | cons n ns ih => simp [strsOf, ih]
theorem strsOf_eq : ∀ {ds : List D} {ns : List Str}, strsOf ds = some ns → ds = ns.map D.str
  | [], ns, h => by cases h; rfl
  | .str i :: r, ns, h => by
    simp only [strsOf] at h
    obtain ⟨ms, h1, rfl⟩ := Option.map_eq_some_iff.mp h
    rw [strsOf_eq h1]
    rfl
  | .non :: _, _, h => by cases h
  | .bl _ :: _, _, h => by cases h
  | .int _ :: _, _, h => by cases h
  | .tup _ :: _, _, h => by cases h
  | .lst _ :: _, _, h => by cases h
  | .dic _ :: _, _, h => by cases h
  | .ref _ :: _, _, h => by cases h
  | .ty _ :: _, _, h => by cases h
  | .deck :: _, _, h => by cases h
theorem rds_strs {K : PySem.W.Frag} {G : Addr → Prop} {S : HD} {H : Hp} : ∀ {ns : List Str} {vs : List V}, RDs K G S H (ns.map D.str) vs → vs = ns.map V.str
  | [], _, .nil => rfl
  | n :: ns, _, .cons q r => by cases q; rw [rds_strs r]; rfl
def rJoinD (x y : D) (S : HD) (Q : QD) : Prop := match x, asSeq S y with
  | .str a, some xs => (match strsOf xs with
    | some ys => (ys.map (·.length)).sum + ys.length * a.length ≤ 16777216 ∧ Q (.str (Txt.join a ys)) S
    | none => False)
  | _, _ => False
theorem de_join (ho : DE X o to) (he : DE X e te) (hs : starEach [e] X.env = [(false, eval e X.env)] := by rfl) (hbase : attributeBase o "join" X.env (eval o X.env) = eval o X.env := by rfl) (hline : (apos.endLine == pos.line) = true := by rfl) :
    DE X (.Call (.Attribute o "join" apos) [e] [] pos) (tMethS rJoinD to te) :=
  (pe_join ho he hs hbase hline).imp fun σ H Q ⟨G, σd, S, Qd, rs, rh, t, p⟩ => ⟨G, σd, S, _, rs, rh, t, fun S1 d v H1 f1 rh1 q1 ⟨⟨z, ez⟩, t1⟩ => by
    subst ez
    cases q1
    refine ⟨⟨z, rfl⟩, G, σd, S1, _, rs.fl f1, rh1, t1, fun S2 d2 v2 H2 f2 rh2 q2 t2 => ?_⟩
    unfold rJoinD at t2
    split at t2
    · rename_i a xs e1 e2
      cases e1
      split at t2
      · rename_i ys e3
        obtain ⟨p1, ws, rfl, l, r⟩ := asSeq_ok rh2 e2 q2
        rw [strsOf_eq e3] at r
        rw [rds_strs r] at l
        exact ⟨z, p1, ys, rfl, rfl, l, t2.1, p S2 _ _ H2 (f1.trans f2) rh2 (.str _) t2.2⟩
      · exact t2.elim
    · exact t2.elim⟩
/-- s.index(t), found -/
def rSixD (x y : D) (S : HD) (Q : QD) : Prop := match x, y with
  | .str a, .str b => (match Txt.index0 a b with
    | some k => Q (.int (k : Nat)) S
    | none => False)
  | _, _ => False
theorem mt_sindex : MtR X "str.index" (fun x xs H Q => ∃ (a b : Str) (k : Nat), x = .str a ∧ xs = [.str b] ∧ Txt.index0 a b = some k ∧ Q (.int (k : Nat)) H) := by
  intro pins s σ H x xs v us Q I rx rs ⟨a, b, k, e1, e2, hk, q⟩
  subst e1 e2
  obtain ⟨t, rfl⟩ := rx
  cases rs with
  | cons r1 rs =>
    cases rs
    obtain ⟨u, rfl⟩ := r1
    cases h : Builtin.Str.occurrences a b 0 a.length 1 with
    | nil => unfold Txt.index0 at hk; rw [h] at hk; cases hk
    | cons j rest =>
      unfold Txt.index0 at hk
      rw [h] at hk
      cases hk
      exact PySem.SC.index h ⟨.int (k : Nat), H, I.tok _, ⟨_, rfl⟩, q⟩
theorem de_sindex (ho : DE X o to) (he : DE X e te) (hs : starEach [e] X.env = [(false, eval e X.env)] := by rfl) (hbase : attributeBase o "index" X.env (eval o X.env) = eval o X.env := by rfl) (hline : (apos.endLine == pos.line) = true := by rfl) :
    DE X (.Call (.Attribute o "index" apos) [e] [] pos) (tMethS rSixD to te) :=
  (pe_m1 PySem.F.slot_str_index PySem.F.type_str_index mt_sindex ho he hs hbase hline).imp fun σ H Q ⟨G, σd, S, Qd, rs, rh, t, p⟩ => ⟨G, σd, S, _, rs, rh, t, fun S1 d v H1 f1 rh1 q1 ⟨⟨z, ez⟩, t1⟩ => by
    subst ez
    cases q1
    refine ⟨⟨z, rfl⟩, G, σd, S1, _, rs.fl f1, rh1, t1, fun S2 d2 v2 H2 f2 rh2 q2 t2 => ?_⟩
    unfold rSixD at t2
    split at t2
    · rename_i a b e1
      cases e1
      split at t2
      · rename_i k hk
        cases q2
        exact ⟨z, b, k, rfl, rfl, hk, p S2 _ _ H2 (f1.trans f2) rh2 (.int _) t2⟩
      · exact t2.elim
    · exact t2.elim⟩
/-- xs[::-1] -/
def tRevLD (te : TED) : TED := fun σ S Q => te σ S fun d S1 => match asLst S1 d with
  | some xs => Q (.lst xs.reverse) S1
  | none => False
theorem de_revL {k : Nat} {p1 p2 p3 : Pos} (he : DE X e te) : DE X (.Subscript e (.Slice none none (some (.UnaryOp .USub (.Constant (.int 1) k p1) p2)) p3) pos) (tRevLD te) :=
  (pe_revL he).imp fun σ H Q ⟨G, σd, S, Qd, rs, rh, t, p⟩ => ⟨G, σd, S, _, rs, rh, t, fun S1 d v H1 f1 rh1 q1 t1 => by
    split at t1
    · rename_i xs e
      obtain ⟨p1, ws, rfl, l, r⟩ := asLst_ok rh1 e q1
      exact ⟨p1, ws, rfl, l, fun q hq => (p.fl f1).newL rh1 r.rev t1 hq⟩
    · exact t1.elim⟩
end
end PD
end

section
/-! PD23: dicts with whole numbers and texts as keys. -/
namespace PD
open PySem PySem.Spec PyProof.Rows L2
def keyOf : D → Option Key
  | .int i => some (.inl i)
  | .str x => some (.inr x)
  | _ => none
theorem keyOf_kD (k : Key) : keyOf (kD k) = some k := by cases k <;> rfl
theorem keyOf_eq {d : D} {k : Key} (h : keyOf d = some k) : d = kD k := by
  cases d <;> first | cases h | skip
  all_goals rfl
def getK : List (D × D) → Key → Option D
  | [], _ => none
  | (d, v) :: r, k => if keyOf d = some k then some v else getK r k
def hasK (kds : List (D × D)) (k : Key) : Bool := (getK kds k).isSome
def putD (kds : List (D × D)) (k : Key) (v : D) : List (D × D) :=
  if hasK kds k = true then kds.map (fun kv => if keyOf kv.1 = some k then (kv.1, v) else kv) else kds ++ [(kD k, v)]
def asDic (S : HD) : D → Option (List (D × D))
  | .dic kds => some kds
  | .ref a => (match S.hp a with
    | some (.dic kds) => some kds
    | _ => none)
  | _ => none
section
variable {K : PySem.W.Frag} {G : Addr → Prop} {S : HD} {H : Hp}
theorem asDic_ok (rh : RH K G S H) {d : D} {v : V} {kds : List (D × D)} (h : asDic S d = some kds) (q : RD K G S H d v) : ∃ p kvs, v = .ref p ∧ Rd H p (.dK kvs) ∧ RDk K G S H kds kvs := by
  cases q with
  | dic h1 r => cases h; exact ⟨_, _, rfl, h1.2, r⟩
  | ref a =>
    simp only [asDic] at h
    split at h
    · rename_i ys e
      cases h
      obtain ⟨_, _, kvs, e1, r⟩ := rh.hp a _ e
      exact ⟨a, kvs, rfl, .inl e1, r⟩
    · cases h
  | _ => cases h
theorem key_v {d : D} {v : V} {k : Key} (h : keyOf d = some k) (q : RD K G S H d v) : v = kV k := by
  cases q <;> first | cases h | skip
  all_goals rfl
theorem rdk_get : ∀ {kds : List (D × D)} {kvs : List (Key × V)} (k : Key), RDk K G S H kds kvs → (getK kds k = none ∧ valV kvs k = none) ∨ ∃ d v, getK kds k = some d ∧ valV kvs k = some v ∧ RD K G S H d v
  | _, _, k, .nil => .inl ⟨rfl, rfl⟩
  | _, _, k, @RDk.cons _ _ _ _ k' d v kds kvs h r => by
    by_cases e : k' = k
    · subst e
      exact .inr ⟨d, v, by simp [getK, keyOf_kD], valV_pos rfl, h⟩
    · have e1 : getK ((kD k', d) :: kds) k = getK kds k := by
        simp only [getK, keyOf_kD]
        exact if_neg fun q => e (Option.some.inj q)
      have e2 : valV ((k', v) :: kvs) k = valV kvs k := valV_neg e
      rw [e1, e2]
      exact rdk_get k r
theorem RDk.append : ∀ {a b : List (D × D)} {c d : List (Key × V)}, RDk K G S H a c → RDk K G S H b d → RDk K G S H (a ++ b) (c ++ d)
  | _, _, _, _, .nil, s => s
  | _, _, _, _, .cons h r, s => .cons h (r.append s)
theorem rdk_map {k : Key} {x : D} {y : V} (q : RD K G S H x y) : ∀ {kds : List (D × D)} {kvs : List (Key × V)}, RDk K G S H kds kvs →
    RDk K G S H (kds.map fun kv => if keyOf kv.1 = some k then (kv.1, x) else kv) (kvs.map fun kv => if kv.1 = k then (kv.1, y) else kv)
  | _, _, .nil => .nil
  | _, _, @RDk.cons _ _ _ _ k' d v kds kvs h r => by
    simp only [List.map_cons, keyOf_kD]
    by_cases e : k' = k
    · subst e
      simp only [if_true]
      exact .cons q (rdk_map q r)
    · rw [if_neg fun z => e (Option.some.inj z), if_neg e]
      exact .cons h (rdk_map q r)
theorem rdk_len : ∀ {kds : List (D × D)} {kvs : List (Key × V)}, RDk K G S H kds kvs → kds.length = kvs.length
  | _, _, .nil => rfl
  | _, _, .cons _ r => by simp [rdk_len r]
theorem rdk_put {kds : List (D × D)} {kvs : List (Key × V)} (k : Key) {x : D} {y : V} (q : RD K G S H x y) (r : RDk K G S H kds kvs) : RDk K G S H (putD kds k x) (putK kvs k y) := by
  unfold putD putK hasK
  rw [valV_any]
  rcases rdk_get k r with ⟨e1, e2⟩ | ⟨d, v, e1, e2, _⟩
  · rw [e1, e2]
    exact r.append (.cons q .nil)
  · rw [e1, e2]
    exact rdk_map q r
end
/-! ### in, [] and []= of any container -/
/-- x in y: a dict's keys, a sequence's flat items, a text's parts -/
def rInX (neg : Bool) : R2D := fun x y S Q => match asDic S y, keyOf x with
  | some kds, some k => Q (.bl (if neg then !hasK kds k else hasK kds k)) S
  | _, _ => rInD neg x y S Q
section
variable {X : Cx} {o i e a b : Expr} {to ti ta tb : TED} {pos pos' : Pos}
def rDIn (neg : Bool) : R2 := fun x y H Q => ∃ a ov, y = .ref a ∧ DGet H a x ov ∧ Q (.bl (if neg then !ov.isSome else ov.isSome)) H
theorem op_inD (hu : X.A.units + 1 < cLine) : OpR X (compareOp .In) (rDIn false) := by
  intro pins s σ H x y v u Q I rx ry ⟨a, ov, e, g, q⟩
  subst e
  obtain rfl : u = Value.ref a := ry
  exact d_in hu I g rx fun s3 I3 => ⟨.bl ov.isSome, H, I3, rfl, q⟩
theorem op_notInD (hu : X.A.units + 1 < cLine) : OpR X (compareOp .NotIn) (rDIn true) := by
  intro pins s σ H x y v u Q I rx ry ⟨a, ov, e, g, q⟩
  subst e
  obtain rfl : u = Value.ref a := ry
  exact d_notIn hu I g rx fun s3 I3 => ⟨.bl (!ov.isSome), H, I3, rfl, q⟩
theorem inX2 {K : PySem.W.Frag} (neg : Bool) : Op2 K (fun x y H Q => rIn K neg x y H Q ∨ rDIn neg x y H Q) (rInX neg) := fun G S H d1 d2 v1 v2 Qd Q rh q1 q2 t p => by
  unfold rInX at t
  split at t
  · rename_i kds k e1 e2
    obtain ⟨a, kvs, rfl, r0, r⟩ := asDic_ok rh e1 q2
    refine .inr ⟨a, valV kvs k, rfl, .inl ⟨kvs, k, r0, key_v e2 q1, rfl⟩, p.here rh ?_ t⟩
    have e3 : (valV kvs k).isSome = hasK kds k := by
      unfold hasK
      rcases rdk_get k r with ⟨z1, z2⟩ | ⟨d, v, z1, z2, _⟩ <;> rw [z1, z2] <;> rfl
    rw [e3]
    exact .bl _
  · exact .inl (in2 neg G S H d1 d2 v1 v2 Qd Q rh q1 q2 t p)
theorem de_inX {k : Nat} (hr : RoomG k X.A) (ha : DE X a ta) (hb : DE X b tb) (hm : behindInMarks .In b = false := by rfl) : DE X (.Compare a [.In] [b] pos) (tBin (rInX false) ta tb) := de_cmp (op_in_seq.or (op_inD hr.un1)) (inX2 false) ha hb hm
theorem de_notInX {k : Nat} (hr : RoomG k X.A) (ha : DE X a ta) (hb : DE X b tb) (hm : behindInMarks .NotIn b = false := by rfl) : DE X (.Compare a [.NotIn] [b] pos) (tBin (rInX true) ta tb) := de_cmp (op_notIn_seq.or (op_notInD hr.un1)) (inX2 true) ha hb hm
theorem dt_inX {k : Nat} (hr : RoomG k X.A) (ha : DE X a ta) (hb : DE X b tb) (hm : behindInMarks .In b = false := by rfl) : DT X (.Compare a [.In] [b] pos) (tTst (tBin (rInX false) ta tb)) := dt_cmp (op_in_seq.or (op_inD hr.un1)) (inX2 false) ha hb hm
theorem dt_notInX {k : Nat} (hr : RoomG k X.A) (ha : DE X a ta) (hb : DE X b tb) (hm : behindInMarks .NotIn b = false := by rfl) : DT X (.Compare a [.NotIn] [b] pos) (tTst (tBin (rInX true) ta tb)) := dt_cmp (op_notIn_seq.or (op_notInD hr.un1)) (inX2 true) ha hb hm
/-- d[k] -/
def rDIx : R2 := fun x y H Q => ∃ a v, x = .ref a ∧ DGet H a y (some v) ∧ Q v H
theorem ix_dic (hu : X.A.units + 1 < cLine) : IxR X rDIx := by
  intro value slice pins s σ H x y v u Q I rx ry ⟨a, w, e, g, q⟩ hs
  subst e
  obtain rfl : v = Value.ref a := rx
  exact tail_any (ops := [.ref a, u]) (dict_typeIs I g) PySem.F.slot_dict_getitem.lookup (d_getItem hu I g ry fun w' s3 I3 rw' => ⟨w, H, I3, rw', q⟩) hs
def rIxX : R2D := fun x y S Q => match asDic S x, keyOf y with
  | some kds, some k => (match getK kds k with
    | some v => Q v S
    | none => False)
  | _, _ => rIxD x y S Q
theorem ixX2 {K : PySem.W.Frag} : Op2 K (fun x y H Q => rIx K x y H Q ∨ rDIx x y H Q) rIxX := fun G S H d1 d2 v1 v2 Qd Q rh q1 q2 t p => by
  unfold rIxX at t
  split at t
  · rename_i kds k e1 e2
    obtain ⟨a, kvs, rfl, r0, r⟩ := asDic_ok rh e1 q1
    rcases rdk_get k r with ⟨z1, z2⟩ | ⟨d, v, z1, z2, z3⟩
    · rw [z1] at t; exact t.elim
    · rw [z1] at t
      exact .inr ⟨a, v, rfl, .inl ⟨kvs, k, r0, key_v e2 q2, z2.symm⟩, p.here rh z3 t⟩
  · exact .inl (ix2 G S H d1 d2 v1 v2 Qd Q rh q1 q2 t p)
theorem de_ixX {k : Nat} (hr : RoomG k X.A) (ha : DE X a ta) (hb : DE X b tb) (hs : PlainIx b := by exact fun _ _ => rfl) : DE X (.Subscript a b pos) (tBin rIxX ta tb) := (pe_ix (ix_seq.or (ix_dic hr.un1)) ha hb hs).imp (up_bin ixX2)
/-- o[i] = v of a tracked list or dict -/
def rSetX (o i v : D) (S : HD) (Q : HD → Prop) : Prop := match o with
  | .ref a => (match S.hp a, keyOf i with
    | some (.dic kds), some k => kds.length < 16000000 ∧ Q (S.set a (.dic (putD kds k v)))
    | some (.lst xs), some (.inl j) => (match ixN xs.length j with
      | some n => Q (S.set a (.lst (xs.set n v)))
      | none => False)
    | _, _ => False)
  | _ => False
def gSubX (to ti : TED) : TGD := fun v σ S Q => to σ S fun o S1 => ti σ S1 fun i S2 => rSetX o i v S2 fun S3 => Q σ S3
theorem RH.writeD {K : PySem.W.Frag} {G : Addr → Prop} {S : HD} {H : Hp} (rh : RH K G S H) {a : Addr} {xs ys : List (D × D)} {ws : List (Key × V)} (h : S.hp a = some (.dic xs)) (r : RDk K G S H ys ws) : RH K G (S.set a (.dic ys)) (upd H a (.dK ws)) ∧ FL S H (S.set a (.dic ys)) (upd H a (.dK ws)) := by
  have m : Mv G S H G (S.set a (.dic ys)) (upd H a (.dK ws)) := ⟨fun b o e z => by
    have ne : b ≠ a := fun q => by rw [← q, z.1] at h; cases h
    exact ⟨⟨by rw [HD.set_ne ne]; exact z.1, z.2.1, z.2.2⟩, by rw [upd_ne ne]; exact e⟩, fun _ e => e⟩
  exact rh.write h ⟨ws, upd_same, r.mv m⟩
theorem PSet.or {t1 t2 : TSet} (h1 : PSet X t1) (h2 : PSet X t2) : PSet X (fun o i v H Q => t1 o i v H Q ∨ t2 o i v H Q) := fun pins s σ H o i v ov iv u Q I ro ri rv h =>
  h.elim (h1 pins s σ H o i v ov iv u Q I ro ri rv) (h2 pins s σ H o i v ov iv u Q I ro ri rv)
theorem dg_subX {k : Nat} (hr : RoomG k X.A) (ho : DE X o to) (hi : DE X i ti)
    (ha : ∀ v, assign (.Subscript o i pos) X.env v = (do
      let ov ← holding [v] (eval o X.env)
      let iv ← holding [v, ov] (eval i X.env)
      standAt pos
      holding [v, ov, iv] (setItem ov iv v)
      release [v, ov, iv] []) := by intro _; rfl) : DG X (.Subscript o i pos) (gSubX to ti) :=
  (pg_sub ho hi (PSet.or set_list (set_dict hr.un1)) ha).imp fun v σ H Q ⟨G, σd, S, d, Qd, rs, rh, q, t, p⟩ =>
    ⟨G, σd, S, _, rs, rh, t, fun S1 d1 v1 H1 f1 rh1 q1 t1 => ⟨G, σd, S1, _, rs.fl f1, rh1, t1, fun S2 d2 v2 H2 f2 rh2 q2 t2 => by
      unfold rSetX at t2
      split at t2
      · rename_i a
        split at t2
        · rename_i kds k e ek
          cases q1
          obtain ⟨_, _, ws, e1, r⟩ := rh2.hp _ _ e
          obtain ⟨rh', f'⟩ := rh2.writeD e (rdk_put k (q.fl (f1.trans f2)) r)
          refine .inr ⟨a, _, rfl, .inl ⟨ws, k, e1, key_v ek q2, ?_, rfl⟩, p _ _ _ _ (f1.trans (f2.trans f')) rh' (rs.fl (f1.trans (f2.trans f'))) t2.2⟩
          have := rdk_len r
          have : (sizeLine : Nat) = 16777216 := rfl
          omega
        · rename_i xs j e ek
          split at t2
          · rename_i n en
            have e2 := keyOf_eq ek
            subst e2
            cases q1
            cases q2
            obtain ⟨_, _, ws, e1, r⟩ := rh2.hp _ _ e
            obtain ⟨rh', f'⟩ := rh2.writeL e (r.set (q.fl (f1.trans f2)) n)
            exact .inl ⟨a, ws, j, n, rfl, rfl, e1, by rw [← r.length]; exact en, p _ _ _ _ (f1.trans (f2.trans f')) rh' (rs.fl (f1.trans (f2.trans f'))) t2⟩
          · exact t2.elim
        · exact t2.elim
      · exact t2.elim⟩⟩
/-- {} that is to change -/
def tDicR : TED := fun _ S Q => ∀ p, S.hp p = none → Q (.ref p) (S.set p (.dic []))
theorem de_dicR : DE X (.Dict [] [] pos) tDicR := pe_dnewK.imp fun σ H Q ⟨G, σd, S, Qd, rs, rh, t, p⟩ => fun q hq => by
  obtain ⟨r', f'⟩ := rh.newR (o := .dic []) (ho := .dK []) hq ⟨[], upd_same, .nil⟩
  exact p _ _ _ _ f' r' (.ref q) (t q (rh.fresh hq).1)
end
/-! ### {k: v for ..}, frozen -/
def dcD (g : TGD) (tt : TTD) (tk tv : TED) (σ : SD) (keep : HD → Prop) (Q : List (D × D) → HD → Prop) : List D → List (D × D) → HD → Prop
  | [], acc, S => keep S ∧ Q acc S
  | d :: r, acc, S => keep S ∧ g d σ S fun σ2 S2 => tt σ2 S2 fun b S3 => if b = true then tk σ2 S3 fun y S4 => tv σ2 S4 fun z S5 => match keyOf y with
      | some k => dcD g tt tk tv σ keep Q r (putD acc k z) S5
      | none => False
    else dcD g tt tk tv σ keep Q r acc S3
def tDcV (ti : TID) (g : TGD) (tt : TTD) (tk tv : TED) (vs : List Nat) : TED := fun σ S Q => ti σ S fun xs keep S1 => xs.length ≤ sizeLine ∧ dcD g tt tk tv (wipeD σ vs) keep (fun acc S2 => Q (.dic acc) S2) xs [] S1
theorem putD_len (acc : List (D × D)) (k : Key) (z : D) : (putD acc k z).length ≤ acc.length + 1 := by
  unfold putD
  split <;> simp
section
variable {X : Cx} {kx vx tg iter : Expr} {ifs : List Expr} {scope : Scope} {own : List (Str × Nat)} {pos : Pos} {ti : TID} {g : TGD} {tt : TTD} {tk tv : TED}
theorem dc_up {K : PySem.W.Frag} {vs : List Nat} {G : Addr → Prop} {S1 : HD} {H1 : Hp} {σd : SD} {σ : L2.St} {J : It} {xs : List D} {keep : HD → Prop} {Qd : List (D × D) → HD → Prop} {Q : VK}
    (rs1 : RSl K G S1 H1 σd σ) (rh1 : RH K G S1 H1) (hJ : ∀ G' S2 H2, Mv G S1 H1 G' S2 H2 → RH K G' S2 H2 → ItOk K G' S2 H2 J xs keep) (hz : xs.length ≤ sizeLine)
    (t : dcD g tt tk tv (wipeD σd vs) keep Qd xs [] S1) {p : Addr} (hp : H1 p = none)
    (fin : ∀ S2 H2 accd acc, FL S1 H1 S2 H2 → RH K (Res G p) S2 H2 → H2 p = some (.dK acc) → RDk K (Res G p) S2 H2 accd acc → Qd accd S2 → Q (.ref p) H2) :
    ∃ W : Nat → Nat → Hp → Prop, (∃ m, W 0 m (upd H1 p (.dK []))) ∧ ∀ i m H, W i m H →
      (J.stop i H ∧ Q (.ref p) H) ∨ (J.go i H ∧ ∃ Nx : Hp → Prop, (∀ H', Nx H' → ∃ m', m' < m ∧ W (i + 1) m' H') ∧ ∀ x H', J.yld i H x H' → upGw K vs g x (wipe σ vs) H' fun σ2 H2 => wipe σ2 vs = wipe σ vs ∧ upT K tt σ2 H2 fun b H3 =>
        if b = true then up K tk σ2 H3 fun y H4 => up K tv σ2 H4 fun z H5 => ∃ kvs k, y = kV k ∧ H5 p = some (.dK kvs) ∧ kvs.length < sizeLine ∧ Nx (upd H5 p (.dK (putK kvs k z))) else Nx H3) := by
  have wipe2 : ∀ (us : List Nat) (τ : L2.St), wipe (wipe τ us) us = wipe τ us := by
    intro us τ
    have key : ∀ (ws : List Nat) (τ : L2.St), (∀ u ∈ us, u ∈ ws) → wipe (wipe τ us) ws = wipe τ ws := by
      induction us with
      | nil => intro ws τ _; rfl
      | cons u us ih =>
        intro ws τ h
        show wipe ((wipe τ us).set u none) ws = _
        rw [wipe_set (h u List.mem_cons_self)]
        exact ih ws τ fun v hv => h v (List.mem_cons_of_mem _ hv)
    exact key us τ fun _ h => h
  refine ⟨fun i m H => m = xs.length - i ∧ i ≤ xs.length ∧ ∃ S2 accd acc, FL S1 H1 S2 H ∧ RH K (Res G p) S2 H ∧ H p = some (.dK acc) ∧ RDk K (Res G p) S2 H accd acc ∧ RSl K (Res G p) S2 H (wipeD σd vs) (wipe σ vs) ∧ acc.length ≤ i ∧ dcD g tt tk tv (wipeD σd vs) keep Qd (xs.drop i) accd S2,
    ⟨xs.length, by simp, Nat.zero_le _, S1, [], [], (Grow.upd hp).fl, rh1.res hp _, upd_same, .nil, (rs1.wipe vs).mv (res_in hp), Nat.zero_le _, t⟩, ?_⟩
  rintro i m H ⟨rfl, hi, S2, accd, acc, f2, rh2, hacc, racc, rsl2, hlen, t2⟩
  have ok := hJ (Res G p) S2 H ⟨fun a o e z => let ⟨n1, n2, n3⟩ := f2.kp a o e z.1 z.2.1; ⟨⟨n1, n2, fun g => g.elim z.2.2 (ne_of_none e hp)⟩, n3⟩, f2.dk⟩ rh2
  by_cases hlt : i < xs.length
  · have hx : xs[i]? = some xs[i] := by simp [hlt]
    rw [List.drop_eq_getElem_cons hlt] at t2
    obtain ⟨k2, t2⟩ := t2
    obtain ⟨go, yl⟩ := ok.go i _ S2 H hx (.refl _ _) rh2 k2
    refine .inr ⟨go, fun H' => ∃ S2 accd acc, FL S1 H1 S2 H' ∧ RH K (Res G p) S2 H' ∧ H' p = some (.dK acc) ∧ RDk K (Res G p) S2 H' accd acc ∧ RSl K (Res G p) S2 H' (wipeD σd vs) (wipe σ vs) ∧ acc.length ≤ i + 1 ∧ dcD g tt tk tv (wipeD σd vs) keep Qd (xs.drop (i + 1)) accd S2, fun H' n => ⟨_, by omega, rfl, hlt, n⟩, fun x H3 y => ?_⟩
    obtain ⟨f3, rh3, q3⟩ := yl x H3 y
    have pk : ∀ {S5 : HD} {H5 : Hp}, FL S2 H S5 H5 → H5 p = some (.dK acc) := fun {S5 H5} f => (f.kp p _ hacc (RH.resFree rh2).1 (RH.resFree rh2).2).2.2
    refine ⟨Res G p, _, S2, _, _, rsl2.fl f3, rh3, q3, t2, fun S4 σd4 σ4 H4 f4 rh4 rs4 w4 t4 => ⟨?_, ?_⟩⟩
    · rw [wipe2] at w4; exact w4
    refine ⟨Res G p, σd4, S4, _, rs4, rh4, t4, fun S5 b H5 f5 rh5 t5 => ?_⟩
    have f25 := f3.trans (f4.trans f5)
    have f15 := f2.trans f25
    cases b with
    | false =>
      refine iteF ?_
      rw [if_neg Bool.false_ne_true] at t5
      exact ⟨S5, accd, acc, f15, rh5, pk f25, racc.mv f25.mv, rsl2.fl f25, Nat.le_succ_of_le hlen, t5⟩
    | true =>
      refine iteT ?_
      rw [if_pos rfl] at t5
      refine ⟨Res G p, σd4, S5, _, rs4.fl f5, rh5, t5, fun S6 dk vk H6 f6 rh6 q6 t6 => ?_⟩
      refine ⟨Res G p, σd4, S6, _, (rs4.fl f5).fl f6, rh6, t6, fun S7 d v H7 f7 rh7 q7 t7 => ?_⟩
      split at t7
      · rename_i k ek
        have f27 := f25.trans (f6.trans f7)
        have hl : acc.length < sizeLine := by omega
        have ll : (putK acc k v).length ≤ i + 1 := by have := length_putK acc k v; omega
        refine ⟨acc, k, key_v ek q6, pk f27, hl, S7, putD accd k d, putK acc k v, (f2.trans f27).updp hp, rh7.resW _, upd_same, (rdk_put k q7 (racc.mv f27.mv)).mv res_mv, (rsl2.fl f27).mv res_mv, ll, t7⟩
      · exact t7.elim
  · have e : i = xs.length := by omega
    subst e
    rw [List.drop_length] at t2
    exact .inl ⟨ok.stop S2 H (.refl _ _) rh2 t2.1, fin S2 H accd acc f2 rh2 hacc racc t2.2⟩
theorem de_dcV (hN : X.N.Nodup) (hi : DI X tg iter ti) (ok : BlkOk X.N X.env.scope scope own)
    (hg : ∀ (s : Shared) (H : Hp) (C : Addr) (cl : List (Str × Addr)) (fp : List Addr), DGw (X.blk s H scope (compEnvC scope cl C X.env) fp) (own.map (·.2)) tg g) (ht : ∀ (s : Shared) (H : Hp) (C : Addr) (cl : List (Str × Addr)) (fp : List Addr), DTs (X.blk s H scope (compEnvC scope cl C X.env) fp) ifs tt)
    (hk : ∀ (s : Shared) (H : Hp) (C : Addr) (cl : List (Str × Addr)) (fp : List Addr), DE (X.blk s H scope (compEnvC scope cl C X.env) fp) kx tk)
    (he : ∀ (s : Shared) (H : Hp) (C : Addr) (cl : List (Str × Addr)) (fp : List Addr), DE (X.blk s H scope (compEnvC scope cl C X.env) fp) vx tv) (hc : X.calm = true := by rfl) (hs : ∀ x, foldedSetIterable iter X.env x = pure x := by intro _; rfl) :
    DE X (.DictComp kx vx [⟨tg, iter, ifs, 0⟩] scope pos) (tDcV ti g tt tk tv (own.map (·.2))) :=
  (pe_dc hc hN hi ok hg ht hk he hs).imp fun σ H Q ⟨G, σd, S, Qd, rs, rh, t, p⟩ =>
    ⟨G, σd, S, _, rs, rh, t, fun S1 J xs keep H1 f1 rh1 hJ ⟨hz, t1⟩ q hq => dc_up (rs.fl f1) rh1 hJ hz t1 hq fun S2 H2 accd acc f2 rh2 hacc racc qd =>
      p S2 _ _ H2 (f1.trans f2) rh2.resOut (.dic ⟨⟨(RH.resFree rh2).1, (RH.resFree rh2).2, fun g => by
        obtain ⟨⟨o, e⟩, _⟩ := rh1.rs q g
        rw [hq] at e; cases e⟩, .inl hacc⟩ (racc.mv res_out)) qd⟩
end
end PD
end

section
/-! PD24: name = {k: v for ..}; [::-1] of any. -/
namespace PD
open PySem PySem.Spec PyProof.Rows L2
section
variable {X : Cx} {kx vx tg iter e : Expr} {ifs : List Expr} {scope : Scope} {own : List (Str × Nat)} {pos py spos : Pos} {y : Str}
theorem sw_dict {l : Nat} {env : Env} {gs : List Comprehension} (hk : env.scope.kind = .function) (hy : env.scope.names.lookup y = some .local) (hl : (py.line == pos.line) = true) (ha : (scope.names.any fun (n, k) => n == y && (k == .local || k == .cell)) = false) :
    swapsWith (.DictComp kx vx gs scope pos) (some (.Name y py)) l env = pure true := by
  have ky : env.kindOf y = some .local := hy
  have hb : env.blockKind = .function := by unfold Env.blockKind; rw [hk]; rfl
  unfold swapsWith
  simp only [hb, ky, ha, Expr.pos, hl]
  rfl
theorem ps_setDc {i : Nat} {wi : TI} {g : TG} {tt : TT} {tk tv : TE} (hc : X.calm = true) (hN : X.N.Nodup) (hy : X.N[i]? = some y) (hyl : X.env.scope.names.lookup y = some .local)
    (hsw : swapsWith (.DictComp kx vx [⟨tg, iter, ifs, 0⟩] scope pos) (some (.Name y py)) spos.line X.env = pure true) (hi : PI X tg iter wi) (ok : BlkOk X.N X.env.scope scope own)
    (hg : ∀ (s : Shared) (H : Hp) (C : Addr) (cl : List (Str × Addr)) (fp : List Addr), PG (X.blk s H scope (compEnvC scope cl C X.env) fp) tg g) (ht : ∀ (s : Shared) (H : Hp) (C : Addr) (cl : List (Str × Addr)) (fp : List Addr), PTs (X.blk s H scope (compEnvC scope cl C X.env) fp) ifs tt)
    (hk : ∀ (s : Shared) (H : Hp) (C : Addr) (cl : List (Str × Addr)) (fp : List Addr), PE (X.blk s H scope (compEnvC scope cl C X.env) fp) kx tk)
    (he : ∀ (s : Shared) (H : Hp) (C : Addr) (cl : List (Str × Addr)) (fp : List Addr), PE (X.blk s H scope (compEnvC scope cl C X.env) fp) vx tv) (hs : ∀ x, foldedSetIterable iter X.env x = pure x := by intro _; rfl) :
    PS X (.Assign [.Name y py] (.DictComp kx vx [⟨tg, iter, ifs, 0⟩] scope pos) spos) (tAsg (tDc wi g tt tk tv (own.map (·.2))) (gName i)) := by
  refine ⟨fun pins s σ H D I h => ?_⟩
  rw [exec_Assign_Name_used _ _ _ _ hsw]
  refine wpAny_bind (wpAny_standAt (wpAny_bind ?_))
  show wpAny _ X.A (do let _ ← comprehension (.DictComp kx vx [⟨tg, iter, ifs, 0⟩] scope pos) scope X.env (firstIterPos [⟨tg, iter, ifs, 0⟩] pos) newDict false (eval iter X.env) (some (assign (.Name y py) X.env))) _ _ s
  have h' : tDc wi g tt tk tv (own.map (·.2)) σ H (fun x H1 => gName i x σ H1 D.nx) := h
  refine wpAny_bind (thn (dc_core (Qf := fun _ s' => SP X pins D .next s') hc hN I hi ok hg ht hk he hs h' fun L C s' m H' I' q hn f => ?_) fun _ s' hq => wpAny_pure (wpAny_pure hq))
  show wpAny _ _ (assign (.Name y py) X.env (.ref L)) _ _ _
  refine wpAny_assign_Name (store_ok2 (v := V.ref L) I' hN hy (.inl hyl) rfl (fun s2 I2 ⟨a, sb, ha⟩ => ?_) (.inr hyl))
  obtain ⟨f0, f1, f2, f3, f4, f5⟩ := f
  have haC : C ≠ a := ha.elim (fun z => by rw [z]; exact f1) fun z e => f4 y a z e.symm
  exact ⟨m, hn.sameBut sb haC, fun h3 sb3 => ⟨_, H', I2.turned (t' := s2.toks) (fun b o hb e => (sb3.2 b hb).trans e) f0 f1 f3 f4 f5, q⟩⟩
theorem ds_setDcV (i : Nat) {ti : TID} {g : TGD} {tt : TTD} {tk tv : TED} (hN : X.N.Nodup) (hi : DI X tg iter ti) (ok : BlkOk X.N X.env.scope scope own)
    (hg : ∀ (s : Shared) (H : Hp) (C : Addr) (cl : List (Str × Addr)) (fp : List Addr), DGw (X.blk s H scope (compEnvC scope cl C X.env) fp) (own.map (·.2)) tg g) (ht : ∀ (s : Shared) (H : Hp) (C : Addr) (cl : List (Str × Addr)) (fp : List Addr), DTs (X.blk s H scope (compEnvC scope cl C X.env) fp) ifs tt)
    (hk : ∀ (s : Shared) (H : Hp) (C : Addr) (cl : List (Str × Addr)) (fp : List Addr), DE (X.blk s H scope (compEnvC scope cl C X.env) fp) kx tk)
    (he : ∀ (s : Shared) (H : Hp) (C : Addr) (cl : List (Str × Addr)) (fp : List Addr), DE (X.blk s H scope (compEnvC scope cl C X.env) fp) vx tv) (hy : X.N[i]? = some y := by rfl) (hyl : X.env.scope.names.lookup y = some .local := by rfl)
    (hsw : swapsWith (.DictComp kx vx [⟨tg, iter, ifs, 0⟩] scope pos) (some (.Name y py)) spos.line X.env = pure true := by exact sw_dict rfl rfl rfl (by decide +kernel)) (hc : X.calm = true := by rfl) (hs : ∀ x, foldedSetIterable iter X.env x = pure x := by intro _; rfl) :
    DS X (.Assign [.Name y py] (.DictComp kx vx [⟨tg, iter, ifs, 0⟩] scope pos) spos) (sAsgD (tDcV ti g tt tk tv (own.map (·.2))) (gNameD i)) :=
  (ps_setDc hc hN hy hyl hsw hi ok hg ht hk he hs).imp fun E σ H ⟨G, σd, S, Dd, rs, rh, t, p⟩ =>
    ⟨G, σd, S, _, rs, rh, t, fun S1 J xs keep H1 f1 rh1 hJ ⟨hz, t1⟩ q hq => dc_up (Q := fun x H2 => gName i x σ H2 E.nx) (rs.fl f1) rh1 hJ hz t1 hq fun S2 H2 accd acc f2 rh2 hacc racc qd =>
      p.nx S2 _ _ H2 (f1.trans f2) rh2.resOut ((rs.fl (f1.trans f2)).set (d := .dic accd) (.dic ⟨⟨(RH.resFree rh2).1, (RH.resFree rh2).2, fun g => by
        obtain ⟨⟨o, e⟩, _⟩ := rh1.rs q g
        rw [hq] at e; cases e⟩, .inl hacc⟩ (racc.mv res_out)) i) (st_eq σd i _ ▸ qd)⟩
/-- [::-1] of a tuple or of a list -/
def tRevX (te : TED) : TED := fun σ S Q => tRevTD te σ S Q ∨ tRevLD te σ S Q
theorem de_rev {te : TED} {k : Nat} {p1 p2 p3 : Pos} (he : DE X e te) : DE X (.Subscript e (.Slice none none (some (.UnaryOp .USub (.Constant (.int 1) k p1) p2)) p3) pos) (tRevX te) :=
  ⟨fun pins s σ H Q I ⟨G, σd, S, Qd, rs, rh, t, p⟩ => t.elim (fun t => (de_revT he).run pins s σ H Q I ⟨G, σd, S, Qd, rs, rh, t, p⟩) fun t => (de_revL he).run pins s σ H Q I ⟨G, σd, S, Qd, rs, rh, t, p⟩⟩
end
end PD
end

section
/-! PD25: None in d. -/
namespace PD
open PySem PySem.Spec PyProof.Rows L2
theorem leaf_keys {P : Program} {w : World} {es : Array DictEntry} (h : KeysOf (mixKind P w) es) : KeysOf (leafKind P w) es ∧ findBy (leafKind P w).is es Leaf.none = none := by
  have key : ∀ e ∈ es, (∃ k, (leafKind P w).is k e.key = true ∧ e.hash = (leafKind P w).hash k) ∧ (leafKind P w).is Leaf.none e.key = false := fun e he => by
    obtain ⟨k, h1, h2⟩ := h e he
    have h1' : keyIs k e.key = true := h1
    have h2' : e.hash = keyH w k := h2
    rcases keyIs_shape h1' with ⟨i, t, e1, e2⟩ | ⟨x, t, e1, e2⟩
    · subst e1
      rw [e2]
      exact ⟨⟨.num i, decide_eq_true rfl, h2'⟩, rfl⟩
    · subst e1
      rw [e2]
      exact ⟨⟨.text x, keyIs_str x t, h2'⟩, rfl⟩
  refine ⟨fun e he => (key e he).1, ?_⟩
  unfold findBy
  rw [Array.find?_eq_none.mpr fun e he => by rw [(key e he).2]; exact Bool.false_ne_true]
  rfl
section
variable {X : Cx} {a b : Expr} {ta tb : TED} {pos : Pos}
def rNoneIn (neg : Bool) : R2 := fun x y H Q => ∃ a kvs, x = .non ∧ y = .ref a ∧ Rd H a (.dK kvs) ∧ Q (.bl neg) H
theorem none_map {pins : List (Addr × Obj)} {σ : L2.St} {H : Hp} {s : Shared} (I : Inv X pins σ H s) {a : Addr} {kvs : List (Key × V)} (h : Rd H a (.dK kvs)) : (a == sysModules) = false ∧ ∃ f, s.heap.MapOf (leafKind X.prog X.w) a f ∧ f Leaf.none = none := by
  obtain ⟨_, hd, vs, _, o, es, ep, h1, h2, h3, h4, _⟩ := dk_rd I.hok h
  obtain ⟨k1, k2⟩ := leaf_keys h4
  exact ⟨hd, _, ⟨o, es, ep, h1, h2, h3, k1, fun _ => rfl⟩, k2⟩
theorem op_noneIn : OpR X (compareOp .In) (rNoneIn false) := by
  intro pins s σ H x y v u Q I rx ry ⟨a, kvs, e1, e2, h, q⟩
  subst e1 e2
  obtain rfl : v = Value.none := rx
  obtain rfl : u = Value.ref a := ry
  obtain ⟨hd, f, hm, hf⟩ := none_map I h
  refine wpAny_in_of (knd := leafKind X.prog X.w) (k := Leaf.none) rfl hd hm ?_
  rw [hf]
  exact ⟨.bl false, H, I.tok _, rfl, q⟩
theorem op_noneNotIn : OpR X (compareOp .NotIn) (rNoneIn true) := by
  intro pins s σ H x y v u Q I rx ry ⟨a, kvs, e1, e2, h, q⟩
  subst e1 e2
  obtain rfl : v = Value.none := rx
  obtain rfl : u = Value.ref a := ry
  obtain ⟨hd, f, hm, hf⟩ := none_map I h
  refine wpAny_notIn_of (knd := leafKind X.prog X.w) (k := Leaf.none) rfl hd hm ?_
  rw [hf]
  exact ⟨.bl true, H, I.tok _, rfl, q⟩
def rInY (neg : Bool) : R2D := fun x y S Q => match x, asDic S y with
  | .non, some _ => Q (.bl neg) S
  | x, _ => rInX neg x y S Q
theorem inY2 {K : PySem.W.Frag} (neg : Bool) : Op2 K (fun x y H Q => (rIn K neg x y H Q ∨ rDIn neg x y H Q) ∨ rNoneIn neg x y H Q) (rInY neg) := fun G S H d1 d2 v1 v2 Qd Q rh q1 q2 t p => by
  unfold rInY at t
  split at t
  · rename_i kds e
    obtain ⟨a, kvs, rfl, r0, r⟩ := asDic_ok rh e q2
    cases q1
    exact .inr ⟨a, kvs, rfl, rfl, r0, p.here rh (.bl _) t⟩
  · exact .inl (inX2 neg G S H _ _ v1 v2 Qd Q rh q1 q2 t p)
theorem de_inY {k : Nat} (hr : RoomG k X.A) (ha : DE X a ta) (hb : DE X b tb) (hm : behindInMarks .In b = false := by rfl) : DE X (.Compare a [.In] [b] pos) (tBin (rInY false) ta tb) := de_cmp ((op_in_seq.or (op_inD hr.un1)).or op_noneIn) (inY2 false) ha hb hm
theorem de_notInY {k : Nat} (hr : RoomG k X.A) (ha : DE X a ta) (hb : DE X b tb) (hm : behindInMarks .NotIn b = false := by rfl) : DE X (.Compare a [.NotIn] [b] pos) (tBin (rInY true) ta tb) := de_cmp ((op_notIn_seq.or (op_notInD hr.un1)).or op_noneNotIn) (inY2 true) ha hb hm
theorem dt_inY {k : Nat} (hr : RoomG k X.A) (ha : DE X a ta) (hb : DE X b tb) (hm : behindInMarks .In b = false := by rfl) : DT X (.Compare a [.In] [b] pos) (tTst (tBin (rInY false) ta tb)) := dt_cmp ((op_in_seq.or (op_inD hr.un1)).or op_noneIn) (inY2 false) ha hb hm
theorem dt_notInY {k : Nat} (hr : RoomG k X.A) (ha : DE X a ta) (hb : DE X b tb) (hm : behindInMarks .NotIn b = false := by rfl) : DT X (.Compare a [.NotIn] [b] pos) (tTst (tBin (rInY true) ta tb)) := dt_cmp ((op_notIn_seq.or (op_notInD hr.un1)).or op_noneNotIn) (inY2 true) ha hb hm
end
end PD
end

section
/-! PD26: instances of own classes: fields, methods, making. -/
namespace PD
open PySem PySem.Spec PyProof.Rows L2
theorem lookup_rel {K : PySem.W.Frag} {G : Addr → Prop} {S : HD} {H : Hp} {f : Str} {d : D} : ∀ {fs : List (Str × D)} {vs : List (Str × V)}, fs.map (·.1) = vs.map (·.1) → RDs K G S H (fs.map (·.2)) (vs.map (·.2)) → fs.lookup f = some d → ∃ v, vs.lookup f = some v ∧ RD K G S H d v
  | [], _, _, _, l => by cases l
  | (x, e) :: fs, [], k, _, _ => by cases k
  | (x, e) :: fs, (y, v) :: vs, k, r, l => by
    simp only [List.map_cons, List.cons.injEq] at k
    obtain ⟨rfl, k⟩ := k
    simp only [List.map_cons] at r
    cases r with
    | cons q r =>
      rw [List.lookup_cons] at l ⊢
      cases hb : f == x with
      | true => rw [hb] at l; cases l; exact ⟨v, by simp, q⟩
      | false => rw [hb] at l; exact lookup_rel k r l
theorem lookup_none {f : Str} : ∀ {fs : List (Str × D)} {vs : List (Str × V)}, fs.map (·.1) = vs.map (·.1) → fs.lookup f = none → vs.lookup f = none
  | [], [], _, _ => rfl
  | [], _ :: _, k, _ => by cases k
  | (x, e) :: fs, [], k, _ => by cases k
  | (x, e) :: fs, (y, v) :: vs, k, l => by
    simp only [List.map_cons, List.cons.injEq] at k
    obtain ⟨rfl, k⟩ := k
    rw [List.lookup_cons] at l ⊢
    cases hb : f == x with
    | true => rw [hb] at l; cases l
    | false => rw [hb] at l; exact lookup_none k l
/-- e.f of an instance of C -/
def fldD (C : Addr) (f : Str) (x : D) (S : HD) (Q : QD) : Prop := match x with
  | .ref a => (match S.hp a with
    | some (.ins C' fs) => C' = C ∧ (match fs.lookup f with | some d => Q d S | none => False)
    | _ => False)
  | _ => False
def tFldD (C : Addr) (f : Str) (te : TED) : TED := fun σ S Q => te σ S fun x S1 => fldD C f x S1 Q
section
variable {X : Cx} {C : Addr} {f m : Str} {e o : Expr} {te to : TED} {pos apos p : Pos}
theorem de_fld (hc : Cls X.K C) (hn : NoAttr X.K C f) (he : DE X e te) (hb : attributeBase e f X.env (eval e X.env) = eval e X.env := by rfl) : DE X (.Attribute e f pos) (tFldD C f te) :=
  (pe_fld he hb).imp fun σ H Q ⟨G, σd, S, Qd, rs, rh, t, p⟩ => ⟨G, σd, S, _, rs, rh, t, fun S1 d v H1 f1 rh1 q1 t1 => by
    unfold fldD at t1
    split at t1
    · rename_i a
      split at t1
      · rename_i C' fs e1
        obtain ⟨rfl, t2⟩ := t1
        split at t2
        · rename_i d' e2
          obtain ⟨h1, h2, dx, vs, h3, h4, h5⟩ := rh1.hp a _ e1
          cases q1
          obtain ⟨v', l1, q⟩ := lookup_rel h4 h5 e2
          exact ⟨a, C', dx, vs, v', rfl, h3, hc, hn, l1, (p.fl f1).here rh1 q t2⟩
        · exact t2.elim
      · exact t1.elim
    · exact t1.elim⟩
/-- a method of a class -/
structure HasM (P : Program) (w : World) (K : PySem.W.Frag) (mg : Str → Option Value) (base : Heap) (k : Nat) (C : Addr) (m : Str) (ps : List Str) (sp : SpD) : Prop where
  ex : ∃ f fd, Meth K C m f ∧ Binds K fd ps [] ∧ FnD P w K mg base k f fd ps sp
theorem HasM.mono {P : Program} {w : World} {K : PySem.W.Frag} {mg : Str → Option Value} {base : Heap} {j k : Nat} {C : Addr} {m : Str} {ps : List Str} {sp : SpD} (h : HasM P w K mg base j C m ps sp) (l : j ≤ k) : HasM P w K mg base k C m ps sp :=
  let ⟨f, fd, a, b, c⟩ := h.ex; ⟨f, fd, a, b, c.mono l⟩
def methD (C : Addr) (m : Str) (x : D) (S : HD) (P : Prop) : Prop := match x with
  | .ref a => (match S.hp a with
    | some (.ins C' fs) => C' = C ∧ fs.lookup m = none ∧ P
    | _ => False)
  | _ => False
def tMethC (C : Addr) (m : Str) (sp : SpD) (to : TED) (ta : TAD) : TED := fun σ S Q => to σ S fun x S1 => methD C m x S1 (ta σ S1 fun ds S2 => sp (x :: ds) S2 Q)
variable {k : Nat} {ps : List Str} {sp : SpD} {es : List Expr} {ta : TAD}
theorem methD_ok {x : D} {S : HD} {P : Prop} (t : methD C m x S P) : ∃ a fs, x = .ref a ∧ S.hp a = some (.ins C fs) ∧ fs.lookup m = none ∧ P := by
  unfold methD at t
  split at t
  · rename_i a
    split at t
    · rename_i C' fs e1
      obtain ⟨rfl, l, t2⟩ := t
      exact ⟨a, fs, rfl, e1, l, t2⟩
    · exact t.elim
  · exact t.elim
theorem de_methC {pl : Sem Bool} (hc : Cls X.K C) (h : HasM X.prog X.w X.K X.mg X.base k C m ps sp) (hr : RoomG k X.A) (ho : DE X o to) (ha : DA X (e :: es) ta)
    (hst : starEach (e :: es) X.env = (false, eval e X.env) :: starEach es X.env := by rfl) (hpl : (backTo pos (starEach es X.env)).any (·.1) = false := by rfl)
    (ht : eval (.Call (.Attribute o m apos) (e :: es) [] pos) X.env = (do
      let ov ← eval o X.env
      standAt apos.atName
      let (f, first) ← holding [ov] (getMethod ov m pl)
      callWith pos f first (backTo pos (starEach (e :: es) X.env)) (backToKw pos (keywordEach [] X.env))) := by rfl) :
    DE X (.Call (.Attribute o m apos) (e :: es) [] pos) (tMethC C m sp to ta) := by
  obtain ⟨f, fd, hm, hb, F⟩ := h.ex
  refine ⟨fun pins s σ H Q I ⟨G, σd, S, Qd, rs, rh, t, p⟩ => ?_⟩
  have hO := ho.run pins s σ H (fun v H1 => ∃ S1 d, FL S H S1 H1 ∧ RH X.K G S1 H1 ∧ RD X.K G S1 H1 d v ∧ methD C m d S1 (ta σd S1 fun ds S2 => sp (d :: ds) S2 Qd)) I ⟨G, σd, S, _, rs, rh, t, fun S1 d v H1 f1 rh1 q1 t1 => ⟨S1, d, f1, rh1, q1, t1⟩⟩
  refine PySem.W.methodCall_KW (pl := pl) (thn hO fun u s1 ⟨v, H1, I1, rv, S1, d, f1, rh1, q1, t1⟩ => ?_) ht
  obtain ⟨a, fs, rfl, e1, l, t2⟩ := methD_ok t1
  obtain ⟨h1, h2, dx, vs, h3, h4, h5⟩ := rh1.hp a _ e1
  cases q1
  obtain rfl : u = Value.ref a := rv
  refine getmeth_ok I1 h3 hc hm (lookup_none h4 l) ?_
  have hA := ha.run pos pins s1 σ H1 (fun vs H2 => ∃ S2 ds, FL S1 H1 S2 H2 ∧ RH X.K G S2 H2 ∧ RDs X.K G S2 H2 ds vs ∧ sp (.ref a :: ds) S2 Qd) I1 ⟨G, σd, S1, _, rs.fl f1, rh1, t2, fun S2 ds vs H2 f2 rh2 q2 t3 => ⟨S2, ds, f2, rh2, q2, t3⟩⟩
  refine PySem.W.callWith_K (first := [.ref a]) (h₀ := X.base) I.ok.mod.kin hm.kp (thn hA fun us s2 ⟨vs2, H2, I2, r, S2, ds, f2, rh2, q2, t3⟩ => ⟨I2.kIn, ?_⟩) hst hpl
  exact run_fnD (us := .ref a :: us) (vs := .ref a :: vs2) F hr hb I2 (.cons rfl r) (.cons (.ref a) q2) rh2 t3 (p.fl (f1.trans f2))
theorem de_methC0 {pl : Sem Bool} (hc : Cls X.K C) (h : HasM X.prog X.w X.K X.mg X.base k C m ps sp) (hr : RoomG k X.A) (ho : DE X o to)
    (ht : eval (.Call (.Attribute o m apos) [] [] pos) X.env = (do
      let ov ← eval o X.env
      standAt apos.atName
      let (f, first) ← holding [ov] (getMethod ov m pl)
      callWith pos f first (backTo pos (starEach [] X.env)) (backToKw pos (keywordEach [] X.env))) := by rfl) :
    DE X (.Call (.Attribute o m apos) [] [] pos) (tMethC C m sp to tNilD) := by
  obtain ⟨f, fd, hm, hb, F⟩ := h.ex
  refine ⟨fun pins s σ H Q I ⟨G, σd, S, Qd, rs, rh, t, p⟩ => ?_⟩
  have hO := ho.run pins s σ H (fun v H1 => ∃ S1 d, FL S H S1 H1 ∧ RH X.K G S1 H1 ∧ RD X.K G S1 H1 d v ∧ methD C m d S1 (sp [d] S1 Qd)) I ⟨G, σd, S, _, rs, rh, t, fun S1 d v H1 f1 rh1 q1 t1 => ⟨S1, d, f1, rh1, q1, t1⟩⟩
  refine PySem.W.methodCall_KW (pl := pl) (thn hO fun u s1 ⟨v, H1, I1, rv, S1, d, f1, rh1, q1, t1⟩ => ?_) ht
  obtain ⟨a, fs, rfl, e1, l, t2⟩ := methD_ok t1
  obtain ⟨h1, h2, dx, vs, h3, h4, h5⟩ := rh1.hp a _ e1
  cases q1
  obtain rfl : u = Value.ref a := rv
  refine getmeth_ok I1 h3 hc hm (lookup_none h4 l) ?_
  exact PySem.W.callWith_K0 (first := [.ref a]) I1.kIn hm.kp (run_fnD (us := [.ref a]) (vs := [.ref a]) F hr hb I1 (.cons rfl .nil) (.cons (.ref a) .nil) rh1 t2 (p.fl f1))
end
end PD
end

section
/-! PD27: instances: a field is set; making one. -/
namespace PD
open PySem PySem.Spec PyProof.Rows L2
def putFD (f : Str) (v : D) : List (Str × D) → List (Str × D)
  | [] => [(f, v)]
  | (g, x) :: r => if g = f then (g, v) :: r else (g, x) :: putFD f v r
theorem putF_rel {K : PySem.W.Frag} {G : Addr → Prop} {S : HD} {H : Hp} {f : Str} {d : D} {v : V} (q : RD K G S H d v) : ∀ {fs : List (Str × D)} {vs : List (Str × V)}, fs.map (·.1) = vs.map (·.1) → RDs K G S H (fs.map (·.2)) (vs.map (·.2)) → (putFD f d fs).map (·.1) = (putF f v vs).map (·.1) ∧ RDs K G S H ((putFD f d fs).map (·.2)) ((putF f v vs).map (·.2))
  | [], [], _, _ => ⟨rfl, .cons q .nil⟩
  | [], _ :: _, k, _ => by cases k
  | (x, e) :: fs, [], k, _ => by cases k
  | (x, e) :: fs, (y, w) :: vs, k, r => by
    simp only [List.map_cons, List.cons.injEq] at k
    obtain ⟨rfl, k⟩ := k
    simp only [List.map_cons] at r
    cases r with
    | cons q1 r =>
      obtain ⟨i1, i2⟩ := putF_rel q k r
      unfold putFD putF
      by_cases h : x = f
      · rw [if_pos h, if_pos h]
        exact ⟨by simp only [List.map_cons, k], .cons q r⟩
      · rw [if_neg h, if_neg h]
        exact ⟨by simp only [List.map_cons, i1], .cons q1 i2⟩
theorem RH.writeI {K : PySem.W.Frag} {G : Addr → Prop} {S : HD} {H : Hp} (rh : RH K G S H) {a C dx : Addr} {fs gs : List (Str × D)} {ws : List (Str × V)} (h : S.hp a = some (.ins C fs)) (k : gs.map (·.1) = ws.map (·.1)) (r : RDs K G S H (gs.map (·.2)) (ws.map (·.2))) :
    RH K G (S.set a (.ins C gs)) (upd H a (.ins C dx ws)) ∧ FL S H (S.set a (.ins C gs)) (upd H a (.ins C dx ws)) := by
  have m : Mv G S H G (S.set a (.ins C gs)) (upd H a (.ins C dx ws)) := ⟨fun b o e z => by
    have ne : b ≠ a := fun q => by rw [← q, z.1] at h; cases h
    exact ⟨⟨by rw [HD.set_ne ne]; exact z.1, z.2.1, z.2.2⟩, by rw [upd_ne ne]; exact e⟩, fun _ e => e⟩
  exact rh.write h ⟨dx, ws, upd_same, k, r.mv m⟩
/-- o.f = v -/
def sFldD (C : Addr) (f : Str) (to tv : TED) : TSD := fun D σ S => tv σ S fun y S1 => to σ S1 fun x S2 => match x with
  | .ref a => (match S2.hp a with
    | some (.ins C' fs) => C' = C ∧ fs.length < 1000 ∧ D.nx σ (S2.set a (.ins C (putFD f y fs)))
    | _ => False)
  | _ => False
section
variable {X : Cx} {C : Addr} {f m : Str} {e o value : Expr} {te to tv : TED} {pos apos p pos' : Pos}
theorem ds_fld (hc : Cls X.K C) (hn : NoAttr X.K C f) (ho : DE X o to) (hv : DE X value tv) (hs : swapsWith value (some (.Attribute o f pos')) pos.line X.env = pure false := by rfl) :
    DS X (.Assign [.Attribute o f pos'] value pos) (sFldD C f to tv) :=
  (ps_fld ho hv hs).imp fun D σ H ⟨G, σd, S, Dd, rs, rh, t, p⟩ => ⟨G, σd, S, _, rs, rh, t, fun S1 y u H1 f1 rh1 q1 t1 => ⟨G, σd, S1, _, rs.fl f1, rh1, t1, fun S2 x v H2 f2 rh2 q2 t2 => by
    split at t2
    · rename_i a
      split at t2
      · rename_i C' fs e1
        obtain ⟨rfl, hl, t3⟩ := t2
        obtain ⟨h1, h2, dx, vs, h3, h4, h5⟩ := rh2.hp a _ e1
        obtain ⟨k1, k2⟩ := putF_rel (f := f) (q1.fl f2) h4 h5
        obtain ⟨rh3, f3⟩ := rh2.writeI (dx := dx) e1 k1 k2
        cases q2
        have hl2 : vs.length < 1000 := by
          have := congrArg List.length h4
          simp only [List.length_map] at this
          omega
        exact ⟨a, C', dx, vs, rfl, h3, hc, hn, hl2, (p.nx.fl (f1.trans (f2.trans f3))).here rh3 (rs.fl (f1.trans (f2.trans f3))) t3⟩
      · exact t2.elim
    · exact t2.elim⟩⟩
/-- C(..) -/
structure HasC (P : Program) (w : World) (K : PySem.W.Frag) (mg : Str → Option Value) (base : Heap) (k : Nat) (x : Str) (C : Addr) (ps : List Str) (sp : SpD) : Prop where
  ex : ∃ f fd, mg x = some (.ref C) ∧ Mk K C f ∧ Binds K fd ps [] ∧ FnD P w K mg base k f fd ps sp
def tMakeD (C : Addr) (sp : SpD) (ta : TAD) : TED := fun σ S Q => ta σ S fun ds S1 => ∀ p, S1.hp p = none → sp (.ref p :: ds) (S1.set p (.ins C [])) fun d S2 => d = .non ∧ Q (.ref p) S2
variable {k : Nat} {x : Str} {ps : List Str} {sp : SpD} {es : List Expr} {ta : TAD}
theorem RoomG.make {k : Nat} {A : Around} (r : RoomG (k + 1) A) (C : Addr) (us : List Value) : RoomG k (A.under (.builtin "type.__call__" ⟨.ref C :: us, []⟩)) := ⟨r.rm.make C us [], r.gd⟩
theorem run_makeD {f : Addr} {fd : FuncData} {pins : List (Addr × Obj)} {σ : L2.St} {H : Hp} {s : Shared} {us : List Value} {vs : List V} {ds : List D} {G : Addr → Prop} {S : HD} {Qd : QD} {Q : VK}
    (M : Mk X.K C f) (F : FnD X.prog X.w X.K X.mg X.base k f fd ps sp) (hr : RoomG (k + 1) X.A) (hb : Binds X.K fd ps []) (I : Inv X pins σ H s) (r : Vals vs us) (q : RDs X.K G S H ds vs) (rh : RH X.K G S H)
    (h : ∀ p, S.hp p = none → sp (.ref p :: ds) (S.set p (.ins C [])) fun d S2 => d = .non ∧ Qd (.ref p) S2) (p : Post X.K G S H Qd Q) :
    wpAny (model X.prog X.w) X.A (call (.ref C) us) (EP X pins σ Q) X.xe s := by
  have n1 : H s.heap.objs.size = none := I.hok.fresh (Nat.le_refl _)
  have n2 : H (s.heap.objs.size + 1) = none := I.hok.fresh (Nat.le_succ _)
  have ne : s.heap.objs.size + 1 ≠ s.heap.objs.size := Nat.succ_ne_self _
  obtain ⟨rh1, f1, _⟩ := rh.newF n1 (.own (s.heap.objs.size + 1))
  have n2' : upd H s.heap.objs.size (.own (s.heap.objs.size + 1)) (s.heap.objs.size + 1) = none := by rw [upd_ne ne]; exact n2
  obtain ⟨rh2, f2⟩ := rh1.newR n2' (o := .ins C []) (ho := .ins C s.heap.objs.size []) ⟨s.heap.objs.size, [], upd_same, rfl, .nil⟩
  have hq := h (s.heap.objs.size + 1) (rh1.fresh n2').1
  have I2 := Inv.made (C := C) I
  have q2 : RDs X.K G _ _ (.ref (s.heap.objs.size + 1) :: ds) (V.ref (s.heap.objs.size + 1) :: vs) := .cons (.ref _) (q.fl (f1.trans f2))
  have r2 : Vals (V.ref (s.heap.objs.size + 1) :: vs) (Value.ref (s.heap.objs.size + 1) :: us) := .cons rfl r
  have hl : (Value.ref (s.heap.objs.size + 1) :: us).length = ps.length := by
    have h1 := F.len _ _ _ hq
    have h2 := q.length
    have h3 := r.length
    simp only [List.length_cons] at h1 ⊢
    omega
  have hb' := hb _ (Value.ref (s.heap.objs.size + 1) :: us) I2.kIn (by rw [List.append_nil]; exact hl)
  rw [List.append_nil] at hb'
  refine wpAny_call (make_map (f := f) I.kIn M.makes M.init (beq_iff_eq.mp M.fn) (codeAny_mono (F.run _ X.stack _ _ ⟨Value.ref (s.heap.objs.size + 1) :: us, []⟩ (Value.ref (s.heap.objs.size + 1) :: us) _ _ G _ _ (hr.make C us)
    (I2.env0.make C us []) hb' r2 q2 rh2 hq) fun z s' hq' => ?_))
  cases z with
  | error e => exact False.elim hq'
  | ok fl =>
    cases fl with
    | ret u =>
      have hq2 : CE X.stack X.prog X.w (upd (upd H s.heap.objs.size (.own (s.heap.objs.size + 1))) (s.heap.objs.size + 1) (.ins C s.heap.objs.size [])) { s with heap := (s.heap.push PySem.W.emptyDict).push (PySem.W.instObj C s.heap.objs.size) } (fun v H' => v = .non ∧ Q (.ref (s.heap.objs.size + 1)) H') u s' := by
        obtain ⟨v, H', h1, h2, h3, h4, h5, S', d, f', rh', rd', e, qd⟩ := hq'
        subst e
        refine ⟨v, H', h1, h2, h3, h4, h5, by cases rd'; rfl, p _ _ (.ref _) _ ((f1.trans f2).trans f') rh' (.ref _) qd⟩
      obtain ⟨v, H', I3, rv, ev, q3⟩ := I2.after hq2
      subst ev
      exact ⟨rv, ⟨V.ref (s.heap.objs.size + 1), H', I3, rfl, q3⟩⟩
    | next => exact False.elim hq'
    | brk => exact False.elim hq'
    | cont => exact False.elim hq'
theorem de_make (h : HasC X.prog X.w X.K X.mg X.base k x C ps sp) (hr : RoomG (k + 1) X.A) (ha : DA X (e :: es) ta) (hg : Gl X x := by rfl) (hdb : (x == ("__debug__" : Str)) = false := by decide)
    (he : starEach (e :: es) X.env = (false, eval e X.env) :: starEach es X.env := by rfl) (hpl : (backTo pos (starEach es X.env)).any (·.1) = false := by rfl) :
    DE X (.Call (.Name x p) (e :: es) [] pos) (tMakeD C sp ta) := by
  obtain ⟨f, fd, hm, M, hb, F⟩ := h.ex
  refine ⟨fun pins s σ H Q I ⟨G, σd, S, Qd, rs, rh, t, p⟩ => ?_⟩
  refine wpAny_Call_Name_kw (ld_glob I hg hm ?_ hdb)
  have hA := ha.run pos pins s σ H (fun vs H1 => ∃ S1 ds, FL S H S1 H1 ∧ RH X.K G S1 H1 ∧ RDs X.K G S1 H1 ds vs ∧ ∀ p, S1.hp p = none → sp (.ref p :: ds) (S1.set p (.ins C [])) fun d S2 => d = .non ∧ Qd (.ref p) S2) I ⟨G, σd, S, _, rs, rh, t, fun S1 ds vs H1 f1 rh1 q1 t1 => ⟨S1, ds, f1, rh1, q1, t1⟩⟩
  refine PySem.W.callWith_K (h₀ := X.base) I.ok.mod.kin M.kp ?_ he hpl
  refine thn hA fun us s1 hus => ?_
  obtain ⟨vs, H1, I1, r, S1, ds, f1, rh1, q1, t1⟩ := hus
  exact ⟨I1.kIn, run_makeD M F hr hb I1 r q1 rh1 t1 (p.fl f1)⟩
end
end PD
end

section
/-! PD28: the classes and methods of the written part. -/
namespace PD
open PySem PySem.Spec PyProof.Rows L2
/-- a method of the class C -/
structure MetOf (K : PySem.W.Frag) (C : Addr) (m qual : Str) (st : Stmt) : Prop where
  ex : ∃ f fd, Fun K m qual st f fd ∧ Meth K C m f
theorem metOf_mk {m qual : Str} {K : PySem.W.Frag} {C : Addr} {st : Stmt} {f : Addr} {od an : Option Addr} {sl : Array (Option Value)} {oc kV dc pm cd ct : Value}
    (a : PySem.W.findIn K (.ref C) m = some (some (.ref f))) (l : K.lookup f = some ⟨oc, od, .func (PySem.W.fnOf m qual (defArgs st) (defBody st) (defScope st) .none kV dc pm an cd ct), sl⟩) (c : PySem.W.codeIn K cd qual = true) (k : PySem.W.keepIn K (.ref f) = true) (fn : PySem.W.isFn K (.ref f) = true) : MetOf K C m qual st :=
  ⟨⟨f, _, fun_mk (st := st) l c k, ⟨a, fn, k⟩⟩⟩
theorem HasM.of {P : Program} {w : World} {K : PySem.W.Frag} {mg : Str → Option Value} {base : Heap} {k : Nat} {C f : Addr} {m qual : Str} {st : Stmt} {fd : FuncData} {ps : List Str} {sp : SpD} (hm : Meth K C m f) (hb : Binds K fd ps []) (h : FnD P w K mg base k f fd ps sp) : HasM P w K mg base k C m ps sp := ⟨⟨f, fd, hm, hb, h⟩⟩
/-- a class of the module that is made by its __init__ -/
structure ClsOf (K : PySem.W.Frag) (mg : Str → Option Value) (x : Str) (C : Addr) (qual : Str) (st : Stmt) : Prop where
  cls : Cls K C
  mg_ : mg x = some (.ref C)
  ini : ∃ f fd, Fun K "__init__" qual st f fd ∧ Mk K C f
theorem clsOf_mk {x qual : Str} {K : PySem.W.Frag} {h : Heap} {mg : Str → Option Value} (X : K.In h) (G : h.Ns mainGlobals mg) {C : Addr} {st : Stmt} {f : Addr} {od an : Option Addr} {sl : Array (Option Value)} {oc kV dc pm cd ct : Value}
    (g : PySem.W.nsIn K mainGlobals x = some (some (.ref C))) (c1 : PySem.W.plainGet K C Str.empty = true) (c2 : PySem.W.hasDictIn K C = true) (c3 : PySem.W.plainOver K C = true) (c4 : PySem.W.findIn K (.ref C) "__setattr__" = some (some (.builtin "object.__setattr__")))
    (a : PySem.W.findIn K (.ref C) "__init__" = some (some (.ref f))) (l : K.lookup f = some ⟨oc, od, .func (PySem.W.fnOf "__init__" qual (defArgs st) (defBody st) (defScope st) .none kV dc pm an cd ct), sl⟩) (c : PySem.W.codeIn K cd qual = true) (k : PySem.W.keepIn K (.ref f) = true) (fn : PySem.W.isFn K (.ref f) = true)
    (mk : PySem.W.makesIn K C = true) (kp : PySem.W.keepIn K (.ref C) = true) : ClsOf K mg x C qual st :=
  ⟨⟨c1, c2, c3, c4⟩, PySem.W.mg_of X G g, f, _, fun_mk (st := st) l c k, ⟨mk, a, fn, kp⟩⟩
end PD
end

section
/-! PD29: dict displays. -/
namespace PD
open PySem PySem.Spec PyProof.Rows L2
/-- the pairs of a display -/
def tPairsD : List (TED × TED) → SD → HD → (List (Key × D) → HD → Prop) → Prop
  | [], _, S, Q => Q [] S
  | (tk, tv) :: r, σ, S, Q => tk σ S fun x S1 => tv σ S1 fun y S2 => match keyOf x with
    | some k => tPairsD r σ S2 fun ps S3 => Q ((k, y) :: ps) S3
    | none => False
def putAll (ps : List (Key × D)) (kds : List (D × D)) : List (D × D) := ps.foldl (fun acc kd => putD acc kd.1 kd.2) kds
/-- {k: v, ..}, frozen -/
def tDispV (trs : List (TED × TED)) : TED := fun σ S Q => tPairsD trs σ S fun ps S2 => ps.length ≤ 15 ∧ Q (.dic (putAll ps [])) S2
def rKV (ps : List (Key × D)) : List (D × D) := ps.map fun p => (kD p.1, p.2)
theorem pairs_up {K : PySem.W.Frag} {G : Addr → Prop} : ∀ (trs : List (TED × TED)) {σd : SD} {σ : L2.St} {S : HD} {H : Hp} {Qd : List (Key × D) → HD → Prop} {Q : List (V × V) → Hp → Prop}, RSl K G S H σd σ → RH K G S H → tPairsD trs σd S Qd →
    (∀ S' H' ps kvs, FL S H S' H' → RH K G S' H' → RDk K G S' H' (rKV ps) kvs → Qd ps S' → Q (kvs.map fun kv => (kV kv.1, kv.2)) H') → tPairs (trs.map fun t => (up K t.1, up K t.2)) σ H Q
  | [], _, _, S, H, _, _, _, rh, t, f => f S H [] [] (.refl _ _) rh .nil t
  | (tk, tv) :: r, σd, σ, S, H, _, _, rs, rh, t, f => ⟨G, σd, S, _, rs, rh, t, fun S1 x vx H1 f1 rh1 q1 t1 => ⟨G, σd, S1, _, rs.fl f1, rh1, t1, fun S2 y vy H2 f2 rh2 q2 t2 => by
      split at t2
      · rename_i k ek
        have := key_v ek q1
        subst this
        refine pairs_up r ((rs.fl f1).fl f2) rh2 t2 fun S3 H3 ps kvs f3 rh3 q3 t3 => ?_
        exact f S3 H3 ((k, y) :: ps) ((k, vy) :: kvs) (f1.trans (f2.trans f3)) rh3 (.cons (q2.fl f3) q3) t3
      · exact t2.elim⟩⟩
theorem putAll_rel {K : PySem.W.Frag} {G : Addr → Prop} {S : HD} {H : Hp} : ∀ (ps : List (Key × D)) {kvs : List (Key × V)} {acc : List (D × D)} {accv : List (Key × V)}, RDk K G S H (rKV ps) kvs → RDk K G S H acc accv → RDk K G S H (putAll ps acc) (mergeK accv kvs)
  | [], [], _, _, _, r => r
  | _ :: _, [], _, _, q, _ => by have := rdk_len q; simp [rKV] at this
  | [], _ :: _, _, _, q, _ => by have := rdk_len q; simp [rKV] at this
  | (k, d) :: ps, (k', v) :: kvs, acc, accv, q, r => by
    have q' : RDk K G S H ((kD k, d) :: rKV ps) ((k', v) :: kvs) := q
    generalize hk : kD k = kd at q'
    cases q' with
    | cons h q2 =>
      have e : k = k' := by
        have := congrArg keyOf hk
        rw [keyOf_kD, keyOf_kD] at this
        exact Option.some.inj this
      subst e
      exact putAll_rel (kvs := kvs) ps q2 (rdk_put k h r)
abbrev DPs (X : Cx) (pos : Pos) (keys : List (Option Expr)) (values : List Expr) (trs : List (TED × TED)) : Prop := PPs X pos keys values (trs.map fun t => (up X.K t.1, up X.K t.2))
section
variable {X : Cx} {pos : Pos} {keys : List (Option Expr)} {values : List Expr} {trs : List (TED × TED)} {k v : Expr} {tk tv : TED}
theorem dps_nil : DPs X pos [] [] [] := pps_nil
theorem dps_cons (hk : DE X k tk) (hv : DE X v tv) (hr : DPs X pos keys values trs) : DPs X pos (some k :: keys) (v :: values) ((tk, tv) :: trs) := pps_cons hk hv hr
theorem de_disp (h : DPs X pos keys values trs) (hall : keys.all (·.isSome) = true := by rfl) (hl : keys.length = values.length := by rfl) (h0 : keys ≠ [] := by simp) (h15 : keys.length ≤ 15 := by decide) : DE X (.Dict keys values pos) (tDispV trs) :=
  (pe_disp h hall hl h0 h15).imp fun σ H Q ⟨G, σd, S, Qd, rs, rh, t, p⟩ => fun q hq => by
    refine pairs_up trs (G := Res G q) (rs.mv (res_in hq)) (rh.res hq _) t fun S' H' ps kvs f' rh' q' ⟨hl15, t'⟩ => ?_
    have fr := RH.resFree (rh.res hq (.dK []))
    have pk := (f'.kp q _ upd_same fr.1 fr.2).2.2
    have hlen : kvs.length = ps.length := by
      have := rdk_len q'
      unfold rKV at this
      rw [List.length_map] at this
      exact this.symm
    refine ⟨pk, kvs, rfl, by omega, ?_⟩
    have f2 : FL S H S' (upd H' q (.dK (mergeK [] kvs))) := (((Grow.upd hq).fl (S := S)).trans f').updp hq
    have fr2 := RH.resFree rh'
    have rr := putAll_rel ps q' (.nil (K := X.K) (G := Res G q) (S := S') (H := H'))
    refine p S' _ _ _ f2 (rh'.resW _).resOut (.dic ⟨⟨fr2.1, fr2.2, fun g => ?_⟩, .inl upd_same⟩ ((rr.mv res_mv).mv res_out)) t'
    obtain ⟨⟨o, e⟩, _⟩ := rh.rs q g
    rw [hq] at e; cases e
end
end PD
end

section
local macro_rules | `(tactic| walk_at "rdx") => `(tactic| simp only [PD.pad, PD.gt_z, PD.gt_s, PD.st_z, PD.st_s, PD.sNextD, PD.sSeqD, PD.sBreakD, PD.sContD, PD.sDropD, PD.sRetD, PD.sRetND, PD.sIfD, PD.sNeverD, PD.sAsgD, PD.sPar2, PD.sPar3, PD.gNameD, PD.gNilD, PD.gConsD, PD.gTupD, PD.gSubD, PD.tNilD, PD.tConsD, PD.tTupD, PD.tLstV, PD.tLstR, PD.tBin, PD.tTst, PD.tAndD, PD.tOrD, PD.tNotD, PD.tIfD, PD.tAndV, PD.tOrV, PD.tNotV, PD.tUnD, PD.rNeg, PD.tCallD, PD.tSlot, PD.tCD, PD.tChainD, PD.rIsN, PD.rNotN, PD.isN, PD.rIsiD, PD.isiB, PD.Ty.name, PD.rCmpI, PD.fLt, PD.fLe, PD.fGt, PD.fGe, PD.rAddD, PD.rSubD, PD.rFdivD, PD.rModD, PD.rPowD, PD.rMulD, PD.rAddR, PD.rMulR, PD.asSeq, PD.asLst, PD.rLenD, PD.rTupleD, PD.rListV, PD.rListR, PD.rIntD, PD.rBoolD, PD.rAbsD, PD.rIxD, PD.oNone, PD.oSome, PD.tSlD, PD.rSlD, PD.tRevTD, PD.rEqD, PD.rNeD, PD.nrm, PD.iSeqD, PD.iRng1D, PD.iRng2D, PD.sForD, PD.tLcV, PD.tLcR, PD.tYesD, PD.wipeD, PD.tMethL, PD.rAppD, PD.isRefL, PD.tDicV, PD.rSetD, PD.rReprD, reduceIte, true_and, and_true, Bool.not_true, Bool.not_false, Bool.false_eq_true, List.length_cons, List.length_nil, List.set_cons_zero, List.set_cons_succ, PD.HD.set_same, PD.HD.tick_hp, PD.HD.tick_c, PD.HD.tick_dk, PD.HD.set_c, PD.HD.set_dk])
/-! PD30: the other kind of draw (5501, 2147483179, 29, 2147483423). -/
namespace PD
open PySem PySem.Spec PyProof.Rows
def rdDraw2 : TSD :=
  sSeqD (sAsgD (tBin rAddD (tBin rIxD (tSlot 0) (tCD (.int 1))) (tCD (.int 1))) (gSubD (tSlot 0) (tCD (.int 1))))
  (sSeqD (sAsgD (tTupD (tConsD (tCD (.int 0)) (tConsD (tUnD rNeg (tCD (.int 1))) (tNilD)))) (gTupD 2 (gConsD (gNameD 2) (gConsD (gNameD 3) (gNilD)))))
  (sSeqD (sIfD (tTst (tBin (rCmpI fGt) (tCallD rLenD (tConsD (tBin rIxD (tSlot 0) (tCD (.int 0))) (tNilD))) (tCD (.int 0)))) (sSeqD (sAsgD (tBin rModD (tCallD rIntD (tConsD (tBin rIxD (tSlot 0) (tCD (.int 1))) (tNilD))) (tCallD rLenD (tConsD (tBin rIxD (tSlot 0) (tCD (.int 0))) (tNilD)))) (gNameD 3))
  (sAsgD (tBin rIxD (tBin rIxD (tSlot 0) (tCD (.int 0))) (tSlot 3)) (gNameD 2))) (sNextD))
  (sSeqD (sIfD (tTst (tBin (rCmpI fGe) (tSlot 2) (tBin rPowD (tCD (.int 10)) (tCD (.int 18))))) (sSeqD (sAsgD (tBin rFdivD (tCallD rIntD (tConsD (tSlot 2) (tNilD))) (tSlot 1)) (gSubD (tBin rIxD (tSlot 0) (tCD (.int 0))) (tSlot 3)))
  (sRetD (tBin rModD (tCallD rIntD (tConsD (tSlot 2) (tNilD))) (tSlot 1)))) (sNextD))
  (sSeqD (sAsgD (tBin rAddD (tBin rAddD (tBin rModD (tCallD rIntD (tConsD (tSlot 2) (tNilD))) (tCD (.int 2147483179))) (tBin rMulD (tCD (.int 5501)) (tBin rIxD (tSlot 0) (tCD (.int 1))))) (tCD (.int 29))) (gNameD 4))
  (sRetD (tBin rModD (tCallD rIntD (tConsD (tBin rModD (tCallD rIntD (tConsD (tBin rPowD (tSlot 4) (tCD (.int 5))) (tNilD))) (tCD (.int 2147483423))) (tNilD))) (tSlot 1)))))))
/-- behind the choice of the cell -/
def rdTail2 : TSD :=
  (sSeqD (sIfD (tTst (tBin (rCmpI fGe) (tSlot 2) (tBin rPowD (tCD (.int 10)) (tCD (.int 18))))) (sSeqD (sAsgD (tBin rFdivD (tCallD rIntD (tConsD (tSlot 2) (tNilD))) (tSlot 1)) (gSubD (tBin rIxD (tSlot 0) (tCD (.int 0))) (tSlot 3)))
  (sRetD (tBin rModD (tCallD rIntD (tConsD (tSlot 2) (tNilD))) (tSlot 1)))) (sNextD))
  (sSeqD (sAsgD (tBin rAddD (tBin rAddD (tBin rModD (tCallD rIntD (tConsD (tSlot 2) (tNilD))) (tCD (.int 2147483179))) (tBin rMulD (tCD (.int 5501)) (tBin rIxD (tSlot 0) (tCD (.int 1))))) (tCD (.int 29))) (gNameD 4))
  (sRetD (tBin rModD (tCallD rIntD (tConsD (tBin rModD (tCallD rIntD (tConsD (tBin rPowD (tSlot 4) (tCD (.int 5))) (tNilD))) (tCD (.int 2147483423))) (tNilD))) (tSlot 1)))))
theorem tail2_ok {S : HD} {a b : Addr} {cells : List Int} {k : Nat} {m c at_ : Int} (hab : a ≠ b) (hk : k < 1000000000000) (hl : cells.length ≤ 63) (h0 : ∀ z ∈ cells, 0 ≤ z) (h1 : 1 ≤ m) (h2 : m ≤ 500000000) (hc0 : 0 ≤ c)
    (ha : S.hp a = some (.lst [.ref b, .int ((k + 1 : Nat) : Int)])) (hb : S.hp b = some (.lst (cells.map D.int))) (hat : c = 0 ∨ (0 ≤ at_ ∧ at_ < cells.length)) {bk ct nx : SD → HD → Prop} :
    rdTail2 { nx := nx, rt := drawn a b k m, bk := bk, ct := ct } [some (.ref a), some (.int m), some (.int c), some (.int at_), none] S := by
  unfold rdTail2
  have hba : b ≠ a := fun e => hab e.symm
  walk_at "rdx"
  refine ⟨⟨by decide, by decide, by decide⟩, ?_⟩
  by_cases hc : (10 : Int) ^ (18 : Int).toNat ≤ c
  · have hc' : (1000000000000000000 : Int) ≤ c := hc
    rcases hat with e | ⟨h3, h4⟩
    · omega
    have hix : L2.ixN cells.length at_ = some at_.toNat := by unfold L2.ixN; rw [if_pos h3, if_pos h4]
    simp only [hc, decide_true, if_true]
    refine ⟨⟨by omega, by omega⟩, ?_⟩
    simp only [ha, hb, atI20, List.length_map, hix]
    refine ⟨by omega, c % m, cells.set at_.toNat (c / m), rfl, Int.emod_nonneg _ (by omega), Int.emod_lt_of_pos _ (by omega), ?_, ?_, ?_, ?_⟩
    · rw [HD.set_ne hab]; exact ha
    · rw [HD.set_same, List.map_set]
    · rw [List.length_set]; exact hl
    · intro z hz
      rcases List.mem_or_eq_of_mem_set hz with h | h
      · exact h0 z h
      · subst h; exact Int.ediv_nonneg (by omega) (by omega)
  · simp only [hc, decide_false, Bool.false_eq_true, if_false]
    simp only [ha, atI21]
    have e1 := Int.emod_nonneg c (b := 2147483179) (by decide)
    have e2 := Int.emod_lt_of_pos c (b := 2147483179) (by decide)
    refine ⟨by decide, ?_, ?_⟩
    · left
      decide
    refine ⟨⟨by decide, by decide, ?_⟩, by decide, by omega, _, cells, rfl, Int.emod_nonneg _ (by omega), Int.emod_lt_of_pos _ (by omega), ha, hb, hl, h0⟩
    omega
theorem draw2Ok : DrawOk rdDraw2 5 := by
  intro S a b cells k m hab hk hl h0 h1 h2
  have hba : b ≠ a := fun e => hab e.symm
  have ha : (openD S a b cells k).hp a = some (.lst [.ref b, .int (k : Int)]) := if_pos rfl
  have hb : (openD S a b cells k).hp b = some (.lst (cells.map D.int)) := (if_neg hba).trans (if_pos rfl)
  show rdDraw2 { nx := fun _ _ => False, rt := drawn a b k m } (pad 5 [.ref a, .int m]) (openD S a b cells k)
  generalize openD S a b cells k = S0 at ha hb
  unfold rdDraw2
  rw [show (sSeqD (sIfD (tTst (tBin (rCmpI fGe) (tSlot 2) (tBin rPowD (tCD (.int 10)) (tCD (.int 18))))) _ _) _) = rdTail2 from rfl]
  generalize hT : rdTail2 = T
  walk_at "rdx"
  simp only [ha, atI21]
  walk_at "rdx"
  simp only [ha, ixN21]
  walk_at "rdx"
  have ha' : (S0.set a (.lst [.ref b, .int ((k : Int) + 1)])).hp a = some (.lst [.ref b, .int ((k + 1 : Nat) : Int)]) := HD.set_same
  have hb' : (S0.set a (.lst [.ref b, .int ((k : Int) + 1)])).hp b = some (.lst (cells.map D.int)) := (HD.set_ne hba).trans hb
  generalize (S0.set a (.lst [.ref b, .int ((k : Int) + 1)])) = S1 at ha' hb'
  refine ⟨by decide, ?_⟩
  simp only [atI20, ha', hb', List.length_map]
  cases cells with
  | nil =>
    simp only [List.length_nil, Int.natCast_zero, Int.lt_irrefl, decide_false, Bool.false_eq_true, if_false]
    subst hT
    exact tail2_ok hab hk hl h0 h1 h2 (Int.le_refl 0) ha' hb' (.inl rfl)
  | cons z0 zs =>
    have hpos : (0 : Int) < (((z0 :: zs).length : Nat) : Int) := by simp only [List.length_cons]; omega
    simp only [hpos, decide_true, if_true, atI21, true_and]
    walk_at "rdx"
    generalize hr : ((k : Int) + 1) % ((zs.length + 1 : Nat) : Int) = r
    have e1 : 0 ≤ r := by rw [← hr]; exact Int.emod_nonneg _ (by omega)
    have e2 : r < (((z0 :: zs).length : Nat) : Int) := by rw [← hr, List.length_cons]; exact Int.emod_lt_of_pos _ (by omega)
    obtain ⟨z, hz, hm⟩ := atI_nat (xs := z0 :: zs) e1 e2
    have hz' : L2.atI ((z0 :: zs).map D.int) r = some (.int z) := by
      unfold L2.atI at hz ⊢
      rw [List.length_map]
      cases q : L2.ixN (z0 :: zs).length r with
      | none => rw [q] at hz; cases hz
      | some j =>
        rw [q] at hz
        show ((z0 :: zs).map D.int)[j]? = _
        rw [List.getElem?_map]
        rw [show (z0 :: zs)[j]? = some z from hz]
        rfl
    rw [hz']
    subst hT
    exact tail2_ok hab hk hl h0 h1 h2 (h0 z hm) ha' hb' (.inr ⟨e1, e2⟩)
end PD
end

section
/-! PD31: dicts whose keys are tuples of any depth: in, [], []=, get, setdefault, len, displays. -/
namespace PD
open PySem PySem.Spec PyProof.Rows L2
/-- a key that is a tuple -/
def keyT : D → Option NestedKey
  | .tup xs => (nksOf xs).map .tup
  | _ => none
theorem keyT_nk {d : D} {k : NestedKey} (h : keyT d = some k) : nkOf d = some k := by
  cases d <;> first | cases h | skip
  exact h
theorem keyT_ref {K : PySem.W.Frag} {G : Addr → Prop} {S : HD} {H : Hp} {d : D} {v : V} {k : NestedKey} (h : keyT d = some k) (q : RD K G S H d v) : ∃ b, v = .ref b := by
  cases q <;> first | cases h | skip
  exact ⟨_, rfl⟩
def getT : List (D × D) → NestedKey → Option D
  | [], _ => none
  | (d, v) :: r, k => if nkOf d = some k then some v else getT r k
def hasT (kds : List (D × D)) (k : NestedKey) : Bool := (getT kds k).isSome
def putT (kds : List (D × D)) (kd : D) (k : NestedKey) (v : D) : List (D × D) :=
  if hasT kds k = true then kds.map (fun kv => if nkOf kv.1 = some k then (kv.1, v) else kv) else kds ++ [(kd, v)]
def tdOf (S : HD) : D → Option (World × List (D × D))
  | .ref a => (match S.hp a with
    | some (.dct w kds) => some (w, kds)
    | _ => none)
  | _ => none
section
variable {P : Program} {w : World} {K : PySem.W.Frag} {G : Addr → Prop} {S : HD} {H : Hp} {h : Heap}
mutual
theorem nested_of (ok : HOk P w H h) (hK : K.In h) : ∀ {d : D} {v : V} {u : Value} {nk : NestedKey}, RD K G S H d v → RelV v u → nkOf d = some nk → NestedIs h nk u
  | _, _, _, _, .non, r, e => by cases e; obtain rfl : _ = Value.none := r; exact .none
  | _, _, _, _, .bl b, r, e => by cases e; obtain rfl : _ = Value.bool b := r; exact .bool rfl
  | _, _, _, _, .int i, r, e => by cases e; obtain ⟨t, rfl⟩ := (show ∃ t, _ = Value.int i t from r); exact .int _ _
  | _, _, _, _, .str x, r, e => by cases e; obtain ⟨t, rfl⟩ := (show ∃ t, _ = Value.str x t from r); exact .text _ _
  | _, _, _, _, .ty n, r, e => by cases e
  | _, _, _, _, .ref a, r, e => by cases e
  | _, _, _, _, .lst _ _, r, e => by cases e
  | _, _, _, _, .dic _ _, r, e => by cases e
  | _, _, _, _, .deck _, r, e => by cases e
  | _, _, u, nk, @RD.tup _ _ _ _ a vs ds hf q, r, e => by
    have e' : (nksOf ds).map NestedKey.tup = some nk := e
    obtain ⟨ks, hks, rfl⟩ := Option.map_eq_some_iff.mp e'
    obtain rfl : u = Value.ref a := r
    rcases hf with ⟨_, rd⟩ | ⟨o, its, n, lk, hc, hd, _, vr⟩
    · obtain ⟨_, its, r', o, h1, h2, n, h3⟩ := (show ObjOk P w H h a (.tup vs) from rd.ok ok)
      exact .tup h1 h2 h3 (by simpa using nestedAll_of ok hK q r' hks)
    · exact .tup (hK _ _ lk) hc hd (nestedAll_of ok hK q vr hks)
theorem nestedAll_of (ok : HOk P w H h) (hK : K.In h) : ∀ {ds : List D} {vs : List V} {us : List Value} {ks : List NestedKey}, RDs K G S H ds vs → Vals vs us → nksOf ds = some ks → NestedAll h ks us
  | _, _, _, _, .nil, r, e => by cases e; cases r; exact .nil
  | _, _, _, ks, @RDs.cons _ _ _ _ d v ds vs q qs, r, e => by
    have e' : ((nkOf d).bind fun k => (nksOf ds).map (k :: ·)) = some ks := e
    obtain ⟨k, hk, e2⟩ := Option.bind_eq_some_iff.mp e'
    obtain ⟨ks', hks, rfl⟩ := Option.map_eq_some_iff.mp e2
    cases r with
    | cons r rs => exact .cons (nested_of ok hK q r hk) (nestedAll_of ok hK qs rs hks)
end
end
def KeyOk (K : PySem.W.Frag) (H : Hp) (nk : NestedKey) (b : Addr) : Prop := nk.depth ≤ 8 ∧ ∀ (P : Program) (w : World) (h : Heap), HOk P w H h → K.In h → NestedIs h nk (.ref b)
def KeysOk (K : PySem.W.Frag) (H : Hp) (xs : List (NestedKey × Addr × Value)) : Prop := ∀ x ∈ xs, KeyOk K H x.1 x.2.1
section
variable {K : PySem.W.Frag} {G : Addr → Prop} {S : HD} {H : Hp}
theorem keyOk_of {d : D} {b : Addr} {nk : NestedKey} (q : RD K G S H d (.ref b)) (e : nkOf d = some nk) (hd : nk.depth ≤ 8) : KeyOk K H nk b :=
  ⟨hd, fun P w h ok hK => nested_of ok hK q rfl e⟩
theorem keysOk_of : ∀ {kds : List (D × D)} {xs : List (NestedKey × Addr × Value)}, RDt K G S H kds xs → KeysOk K H xs
  | _, _, .nil => fun _ hx => nomatch hx
  | _, _, .cons hk hn hd _ _ r => fun x hx => by
    rcases List.mem_cons.mp hx with e | hx
    · subst e; exact keyOk_of hk hn hd
    · exact keysOk_of r x hx
theorem rdt_get : ∀ {kds : List (D × D)} {xs : List (NestedKey × Addr × Value)} (k : NestedKey), RDt K G S H kds xs → (getT kds k = none ∧ atKey xs k = none) ∨ ∃ d b v u, getT kds k = some d ∧ atKey xs k = some (b, u) ∧ RelV v u ∧ RD K G S H d v
  | _, _, k, .nil => .inl ⟨rfl, rfl⟩
  | _, _, k, @RDt.cons _ _ _ _ kd d nk b v u kds xs hk hn hd hv h r => by
    by_cases e : nk = k
    · subst e
      exact .inr ⟨d, b, v, u, by simp [getT, hn], by simp [atKey], hv, h⟩
    · have e1 : getT ((kd, d) :: kds) k = getT kds k := by
        simp only [getT, hn]
        exact if_neg fun q => e (Option.some.inj q)
      have e2 : atKey ((nk, b, u) :: xs) k = atKey xs k := by simp [atKey, List.find?_cons, e]
      rw [e1, e2]
      exact rdt_get k r
theorem RDt.append : ∀ {a b : List (D × D)} {c d : List (NestedKey × Addr × Value)}, RDt K G S H a c → RDt K G S H b d → RDt K G S H (a ++ b) (c ++ d)
  | _, _, _, _, .nil, s => s
  | _, _, _, _, .cons hk hn hd hv h r, s => .cons hk hn hd hv h (r.append s)
theorem rdt_len : ∀ {kds : List (D × D)} {xs : List (NestedKey × Addr × Value)}, RDt K G S H kds xs → kds.length = xs.length
  | _, _, .nil => rfl
  | _, _, .cons _ _ _ _ _ r => by simp [rdt_len r]
theorem rdt_map {k : NestedKey} {x : D} {y : V} {z : Value} (q : RD K G S H x y) (rz : RelV y z) : ∀ {kds : List (D × D)} {xs : List (NestedKey × Addr × Value)}, RDt K G S H kds xs →
    RDt K G S H (kds.map fun kv => if nkOf kv.1 = some k then (kv.1, x) else kv) (xs.map (putAt k z))
  | _, _, .nil => .nil
  | _, _, @RDt.cons _ _ _ _ kd d nk b v u kds xs hk hn hd hv h r => by
    simp only [List.map_cons, hn]
    by_cases e : nk = k
    · subst e
      simp only [if_true, putAt]
      exact .cons hk hn hd rz q (rdt_map q rz r)
    · rw [if_neg fun z => e (Option.some.inj z)]
      have e2 : putAt k z (nk, b, u) = (nk, b, u) := by simp [putAt, e]
      rw [e2]
      exact .cons hk hn hd hv h (rdt_map q rz r)
theorem rdt_put {kds : List (D × D)} {xs : List (NestedKey × Addr × Value)} {kd : D} {b : Addr} {k : NestedKey} {x : D} {y : V} {z : Value} (hk : RD K G S H kd (.ref b)) (hn : nkOf kd = some k) (hd : k.depth ≤ 8) (q : RD K G S H x y) (rz : RelV y z) (r : RDt K G S H kds xs) :
    RDt K G S H (putT kds kd k x) (storedH xs k b z) := by
  unfold putT storedH hasT
  rcases rdt_get k r with ⟨e1, e2⟩ | ⟨d, b', v, u, e1, e2, _⟩
  · rw [e1, e2]
    exact r.append (.cons hk hn hd rz q .nil)
  · rw [e1, e2]
    exact rdt_map q rz r
theorem putT_len (kds : List (D × D)) (kd : D) (k : NestedKey) (z : D) : (putT kds kd k z).length ≤ kds.length + 1 := by
  unfold putT
  split <;> simp
theorem tdOf_eq {d : D} {w : World} {kds : List (D × D)} (h : tdOf S d = some (w, kds)) : ∃ a, d = .ref a ∧ S.hp a = some (.dct w kds) := by
  cases d with
  | ref a =>
    simp only [tdOf] at h
    split at h
    · rename_i w' ys e
      cases h
      exact ⟨a, rfl, e⟩
    · cases h
  | _ => cases h
theorem tdOf_ok (rh : RH K G S H) {d : D} {v : V} {w : World} {kds : List (D × D)} (h : tdOf S d = some (w, kds)) (q : RD K G S H d v) : ∃ a xs, d = .ref a ∧ S.hp a = some (.dct w kds) ∧ v = .ref a ∧ H a = some (.ext (RawT w a xs)) ∧ RDt K G S H kds xs := by
  obtain ⟨a, rfl, e⟩ := tdOf_eq h
  cases q
  obtain ⟨_, _, xs, e1, r⟩ := rh.hp a _ e
  exact ⟨a, xs, rfl, e, rfl, e1, r⟩
end
section
variable {X : Cx} {pins : List (Addr × Obj)} {σ : L2.St} {H : Hp} {s : Shared} {a : Addr} {xs : List (NestedKey × Addr × Value)}
theorem keyAt_is (I : Inv X pins σ H s) {nk : NestedKey} {b : Addr} (k : KeyOk X.K H nk b) : (nestedKind X.prog X.w).is s.heap nk b := ⟨k.2 _ _ _ I.hok I.kIn, k.1⟩
theorem td_dict (I : Inv X pins σ H s) (e : H a = some (.ext (RawT X.w a xs))) (r : KeysOk X.K H xs) : (a == sysModules) = false ∧ xs.length ≤ sizeLine ∧ s.heap.DictOfH (nestedKind X.prog X.w) a xs := by
  obtain ⟨⟨o, es, ep, h1, h2, h3, h4, h5, h6, h7⟩, _, _⟩ := (show ObjOk X.prog X.w H s.heap a (.ext (RawT X.w a xs)) from I.hok a _ e)
  exact ⟨h6, h7, o, es, ep, h1, h2, h3, h4, fun x hx => keyAt_is I (r x hx), h5⟩
theorem raw_mono (w : World) (a : Addr) (xs : List (NestedKey × Addr × Value)) : ∀ h1 h2 : Heap, RawT w a xs h1 → (∀ o, h1.get? a = some o → h2.get? a = some o) → RawT w a xs h2 := fun _ _ ⟨o, es, ep, e, r⟩ k => ⟨o, es, ep, k o e, r⟩
theorem raw_ok {P : Program} {w : World} {H' : Hp} {h' : Heap} (hd : (a == sysModules) = false) (hz : xs.length ≤ sizeLine) (dd : h'.DictOfH (nestedKind P w) a xs) : ObjOk P w H' h' a (.ext (RawT w a xs)) := by
  obtain ⟨o, es, ep, h1, h2, h3, h4, _, h5⟩ := dd
  exact ⟨⟨o, es, ep, h1, h2, h3, h4, h5, hd, hz⟩, ⟨o, h1⟩, raw_mono w a xs⟩
theorem room_nest {k : Nat} {A : Around} {P : Program} {w : World} (hr : RoomG k A) : (nestedKind P w).room A.in1 := by
  have := hr.un64
  show A.in1.units + 8 < cLine
  rw [Around.in1_units]
  omega
theorem room_nest0 {k : Nat} {A : Around} {P : Program} {w : World} (hr : RoomG k A) : (nestedKind P w).room A := by
  have := hr.un64
  show A.units + 8 < cLine
  omega
end
/-! ### in -/
def rTIn (K : PySem.W.Frag) (w : World) (neg : Bool) : R2 := fun x y H Q => ∃ a b xs nk, y = .ref a ∧ x = .ref b ∧ H a = some (.ext (RawT w a xs)) ∧ KeysOk K H xs ∧ KeyOk K H nk b ∧ Q (.bl (if neg then !(atKey xs nk).isSome else (atKey xs nk).isSome)) H
def rInW (w : World) (neg : Bool) : R2D := fun x y S Q => match tdOf S y with
  | some (w', kds) => (match keyT x with
    | some nk => w' = w ∧ nk.depth ≤ 8 ∧ Q (.bl (if neg then !hasT kds nk else hasT kds nk)) S
    | none => False)
  | none => rInY neg x y S Q
section
variable {X : Cx} {o i e a b : Expr} {to ti te ta tb : TED} {pos pos' : Pos} {k : Nat}
theorem op_tIn (hr : RoomG k X.A) : OpR X (compareOp .In) (rTIn X.K X.w false) := by
  intro pins s σ H x y v u Q I rx ry ⟨a, b, xs, nk, e1, e2, h, ks, ki, q⟩
  subst e1 e2
  obtain rfl : v = Value.ref b := rx
  obtain rfl : u = Value.ref a := ry
  obtain ⟨hd, hz, dd⟩ := td_dict I h ks
  exact wpAny_in_heap (knd := nestedKind X.prog X.w) (room_nest hr) (keyAt_is I ki) hd dd ⟨.bl (atKey xs nk).isSome, H, I.tok _, rfl, q⟩
theorem op_tNotIn (hr : RoomG k X.A) : OpR X (compareOp .NotIn) (rTIn X.K X.w true) := by
  intro pins s σ H x y v u Q I rx ry ⟨a, b, xs, nk, e1, e2, h, ks, ki, q⟩
  subst e1 e2
  obtain rfl : v = Value.ref b := rx
  obtain rfl : u = Value.ref a := ry
  obtain ⟨hd, hz, dd⟩ := td_dict I h ks
  refine notIn_keyed (knd := nestedKind X.prog X.w) (room_nest hr) (keyAt_is I ki) hd ⟨xs, dd, rfl⟩ ⟨.bl (!(atKey xs nk).isSome), H, I.tok _, ?_, q⟩
  rw [valueAt_pairsH, Option.isSome_map]
  rfl
theorem inW2 {K : PySem.W.Frag} (w : World) (neg : Bool) : Op2 K (fun x y H Q => ((rIn K neg x y H Q ∨ rDIn neg x y H Q) ∨ rNoneIn neg x y H Q) ∨ rTIn K w neg x y H Q) (rInW w neg) := fun G S H d1 d2 v1 v2 Qd Q rh q1 q2 t p => by
  unfold rInW at t
  split at t
  · rename_i w' kds e
    split at t
    · rename_i nk ek
      obtain ⟨rfl, hd, t⟩ := t
      obtain ⟨a, xs, rfl, _, rfl, e1, r⟩ := tdOf_ok rh e q2
      obtain ⟨b, rfl⟩ := keyT_ref ek q1
      refine .inr ⟨a, b, xs, nk, rfl, rfl, e1, keysOk_of r, keyOk_of q1 (keyT_nk ek) hd, p.here rh ?_ t⟩
      have e3 : (atKey xs nk).isSome = hasT kds nk := by
        unfold hasT
        rcases rdt_get nk r with ⟨z1, z2⟩ | ⟨d, b', v, u, z1, z2, _⟩ <;> rw [z1, z2] <;> rfl
      rw [e3]
      exact .bl _
    · exact t.elim
  · exact .inl (inY2 neg G S H _ _ v1 v2 Qd Q rh q1 q2 t p)
theorem de_inW (hr : RoomG k X.A) (ha : DE X a ta) (hb : DE X b tb) (hm : behindInMarks .In b = false := by rfl) : DE X (.Compare a [.In] [b] pos) (tBin (rInW X.w false) ta tb) := de_cmp (((op_in_seq.or (op_inD hr.un1)).or op_noneIn).or (op_tIn hr)) (inW2 X.w false) ha hb hm
theorem de_notInW (hr : RoomG k X.A) (ha : DE X a ta) (hb : DE X b tb) (hm : behindInMarks .NotIn b = false := by rfl) : DE X (.Compare a [.NotIn] [b] pos) (tBin (rInW X.w true) ta tb) := de_cmp (((op_notIn_seq.or (op_notInD hr.un1)).or op_noneNotIn).or (op_tNotIn hr)) (inW2 X.w true) ha hb hm
theorem dt_inW (hr : RoomG k X.A) (ha : DE X a ta) (hb : DE X b tb) (hm : behindInMarks .In b = false := by rfl) : DT X (.Compare a [.In] [b] pos) (tTst (tBin (rInW X.w false) ta tb)) := dt_cmp (((op_in_seq.or (op_inD hr.un1)).or op_noneIn).or (op_tIn hr)) (inW2 X.w false) ha hb hm
theorem dt_notInW (hr : RoomG k X.A) (ha : DE X a ta) (hb : DE X b tb) (hm : behindInMarks .NotIn b = false := by rfl) : DT X (.Compare a [.NotIn] [b] pos) (tTst (tBin (rInW X.w true) ta tb)) := dt_cmp (((op_notIn_seq.or (op_notInD hr.un1)).or op_noneNotIn).or (op_tNotIn hr)) (inW2 X.w true) ha hb hm
/-! ### [] -/
def rTIx (K : PySem.W.Frag) (w : World) : R2 := fun x y H Q => ∃ a b xs nk c u v, x = .ref a ∧ y = .ref b ∧ H a = some (.ext (RawT w a xs)) ∧ KeysOk K H xs ∧ KeyOk K H nk b ∧ atKey xs nk = some (c, u) ∧ RelV v u ∧ Q v H
theorem ix_tdict (hr : RoomG k X.A) : IxR X (rTIx X.K X.w) := by
  intro value slice pins s σ H x y v u Q I rx ry ⟨a, b, xs, nk, c, u', v', e1, e2, h, ks, ki, l, rv, q⟩ hs
  subst e1 e2
  obtain rfl : v = Value.ref a := rx
  obtain rfl : u = Value.ref b := ry
  obtain ⟨hd, hz, dd⟩ := td_dict I h ks
  exact tail_any (ops := [.ref a, .ref b]) dd.typeIs PySem.F.slot_dict_getitem.lookup (wpAny_getItem_heap (knd := nestedKind X.prog X.w) (room_nest hr) (keyAt_is I ki) dd l ⟨v', H, I.tok _, rv, q⟩) hs
def rIxW (w : World) : R2D := fun x y S Q => match tdOf S x with
  | some (w', kds) => (match keyT y with
    | some nk => w' = w ∧ nk.depth ≤ 8 ∧ (match getT kds nk with
      | some v => Q v S
      | none => False)
    | none => False)
  | none => rIxX x y S Q
theorem ixW2 {K : PySem.W.Frag} (w : World) : Op2 K (fun x y H Q => (rIx K x y H Q ∨ rDIx x y H Q) ∨ rTIx K w x y H Q) (rIxW w) := fun G S H d1 d2 v1 v2 Qd Q rh q1 q2 t p => by
  unfold rIxW at t
  split at t
  · rename_i w' kds e
    split at t
    · rename_i nk ek
      obtain ⟨rfl, hd, t⟩ := t
      obtain ⟨a, xs, rfl, _, rfl, e1, r⟩ := tdOf_ok rh e q1
      obtain ⟨b, rfl⟩ := keyT_ref ek q2
      rcases rdt_get nk r with ⟨z1, z2⟩ | ⟨d, b', v, u, z1, z2, z3, z4⟩
      · rw [z1] at t; exact t.elim
      · rw [z1] at t
        exact .inr ⟨a, b, xs, nk, b', u, v, rfl, rfl, e1, keysOk_of r, keyOk_of q2 (keyT_nk ek) hd, z2, z3, p.here rh z4 t⟩
    · exact t.elim
  · exact .inl (ixX2 G S H d1 d2 v1 v2 Qd Q rh q1 q2 t p)
theorem de_ixW (hr : RoomG k X.A) (ha : DE X a ta) (hb : DE X b tb) (hs : PlainIx b := by exact fun _ _ => rfl) : DE X (.Subscript a b pos) (tBin (rIxW X.w) ta tb) := (pe_ix ((ix_seq.or (ix_dic hr.un1)).or (ix_tdict hr)) ha hb hs).imp (up_bin (ixW2 X.w))
/-! ### []= -/
def rTSet (K : PySem.W.Frag) (w : World) : TSet := fun o i v H Q => ∃ a b xs nk, o = .ref a ∧ i = .ref b ∧ H a = some (.ext (RawT w a xs)) ∧ KeysOk K H xs ∧ KeyOk K H nk b ∧ xs.length < sizeLine ∧ ∀ u, RelV v u → Q (upd H a (.ext (RawT w a (storedH xs nk b u))))
theorem set_tdict (hr : RoomG k X.A) : PSet X (rTSet X.K X.w) := by
  intro pins s σ H o i v ov iv u Q I ro ri rv ⟨a, b, xs, nk, e1, e2, h, ks, ki, hl, q⟩
  subst e1 e2
  obtain rfl : ov = Value.ref a := ro
  obtain rfl : iv = Value.ref b := ri
  obtain ⟨hd, hz, dd⟩ := td_dict I h ks
  refine wpAny_setItem_heap (knd := nestedKind X.prog X.w) (room_nest hr) (keyAt_is I ki) dd (fun h' dd' hs => ?_) (hsz := hz)
  have he : ∃ q, h'.get? a = some q := let ⟨q, _, _, hq, _⟩ := dd'; ⟨q, hq⟩
  have hz' : (storedH xs nk b u).length ≤ sizeLine := by have := storedH_length xs nk b u; omega
  exact ⟨_, d_write I (by rw [h]; exact True.intro) hs he (raw_ok hd hz' dd'), q u rv⟩
def rSetW (w : World) (o i v : D) (S : HD) (Q : HD → Prop) : Prop := match tdOf S o with
  | some (w', kds) => (match keyT i with
    | some nk => w' = w ∧ nk.depth ≤ 8 ∧ kds.length < 16000000 ∧ (match o with
      | .ref a => Q (S.set a (.dct w (putT kds i nk v)))
      | _ => False)
    | none => False)
  | none => rSetX o i v S Q
def gSubW (w : World) (to ti : TED) : TGD := fun v σ S Q => to σ S fun o S1 => ti σ S1 fun i S2 => rSetW w o i v S2 fun S3 => Q σ S3
theorem RH.writeT {K : PySem.W.Frag} {G : Addr → Prop} {S : HD} {H : Hp} {w : World} (rh : RH K G S H) {a : Addr} {o : OD} {ys : List (D × D)} {ws : List (NestedKey × Addr × Value)} (h : S.hp a = some o) (r : RDt K G S H ys ws) : RH K G (S.set a (.dct w ys)) (upd H a (.ext (RawT w a ws))) ∧ FL S H (S.set a (.dct w ys)) (upd H a (.ext (RawT w a ws))) := by
  have m : Mv G S H G (S.set a (.dct w ys)) (upd H a (.ext (RawT w a ws))) := ⟨fun b o e z => by
    have ne : b ≠ a := fun q => by rw [← q, z.1] at h; cases h
    exact ⟨⟨by rw [HD.set_ne ne]; exact z.1, z.2.1, z.2.2⟩, by rw [upd_ne ne]; exact e⟩, fun _ e => e⟩
  exact rh.write h ⟨ws, upd_same, r.mv m⟩
theorem dg_subW (hr : RoomG k X.A) (ho : DE X o to) (hi : DE X i ti)
    (ha : ∀ v, assign (.Subscript o i pos) X.env v = (do
      let ov ← holding [v] (eval o X.env)
      let iv ← holding [v, ov] (eval i X.env)
      standAt pos
      holding [v, ov, iv] (setItem ov iv v)
      release [v, ov, iv] []) := by intro _; rfl) : DG X (.Subscript o i pos) (gSubW X.w to ti) :=
  (pg_sub ho hi (PSet.or (PSet.or set_list (set_dict hr.un1)) (set_tdict hr)) ha).imp fun v σ H Q ⟨G, σd, S, d, Qd, rs, rh, q, t, p⟩ =>
    ⟨G, σd, S, _, rs, rh, t, fun S1 d1 v1 H1 f1 rh1 q1 t1 => ⟨G, σd, S1, _, rs.fl f1, rh1, t1, fun S2 d2 v2 H2 f2 rh2 q2 t2 => by
      unfold rSetW at t2
      split at t2
      · rename_i w' kds e
        split at t2
        · rename_i nk ek
          obtain ⟨rfl, hd, hl, t2⟩ := t2
          obtain ⟨a, xs, rfl, e0, rfl, e1, r⟩ := tdOf_ok rh2 e (q1.fl f2)
          obtain ⟨b, rfl⟩ := keyT_ref ek q2
          have hlen := rdt_len r
          have hsl : (sizeLine : Nat) = 16777216 := rfl
          refine .inr ⟨a, b, xs, nk, rfl, rfl, e1, keysOk_of r, keyOk_of q2 (keyT_nk ek) hd, by omega, fun u ru => ?_⟩
          obtain ⟨rh', f'⟩ := rh2.writeT e0 (rdt_put q2 (keyT_nk ek) hd (q.fl (f1.trans f2)) ru r)
          exact p _ _ _ _ (f1.trans (f2.trans f')) rh' (rs.fl (f1.trans (f2.trans f'))) t2
        · exact t2.elim
      · rename_i hn
        clear hn
        refine .inl ?_
        unfold rSetX at t2
        split at t2
        · rename_i a
          split at t2
          · rename_i kds k e ek
            cases q1
            obtain ⟨_, _, ws, e1, r⟩ := rh2.hp _ _ e
            obtain ⟨rh', f'⟩ := rh2.writeD e (rdk_put k (q.fl (f1.trans f2)) r)
            refine .inr ⟨a, _, rfl, .inl ⟨ws, k, e1, key_v ek q2, ?_, rfl⟩, p _ _ _ _ (f1.trans (f2.trans f')) rh' (rs.fl (f1.trans (f2.trans f'))) t2.2⟩
            have := rdk_len r
            have : (sizeLine : Nat) = 16777216 := rfl
            omega
          · rename_i xs j e ek
            split at t2
            · rename_i n en
              have e2 := keyOf_eq ek
              subst e2
              cases q1
              cases q2
              obtain ⟨_, _, ws, e1, r⟩ := rh2.hp _ _ e
              obtain ⟨rh', f'⟩ := rh2.writeL e (r.set (q.fl (f1.trans f2)) n)
              exact .inl ⟨a, ws, j, n, rfl, rfl, e1, by rw [← r.length]; exact en, p _ _ _ _ (f1.trans (f2.trans f')) rh' (rs.fl (f1.trans (f2.trans f'))) t2⟩
            · exact t2.elim
          · exact t2.elim
        · exact t2.elim⟩⟩
/-! ### len -/
def rLenTD (X : Cx) (w : World) : List V → Hp → VK → Prop := fun vs H Q => ∃ (a : Addr) (xs : List (NestedKey × Addr × Value)), vs = [.ref a] ∧ H a = some (.ext (RawT w a xs)) ∧ KeysOk X.K H xs ∧ Q (.int ((xs.length : Nat) : Int)) H
theorem call_lenT : CallR X (.builtin "len") (rLenTD X X.w) := by
  intro pins s σ H xs us Q I r ⟨a, ys, e0, h, ks, q⟩
  subst e0
  obtain ⟨u, rfl, rx⟩ := vals1 r
  obtain rfl : u = .ref a := rx
  obtain ⟨hd, hz, dd⟩ := td_dict I h ks
  have hsl : (sizeLine : Nat) = 16777216 := rfl
  exact call_len_dictH (knd := nestedKind X.prog X.w) hd dd (by omega) ⟨.int ((ys.length : Nat) : Int), H, I.tok _, ⟨_, rfl⟩, q⟩
def rLenK : List V → Hp → VK → Prop := fun vs H Q => ∃ (a : Addr) (kvs : List (Key × V)), vs = [.ref a] ∧ Rd H a (.dK kvs) ∧ Q (.int ((kvs.length : Nat) : Int)) H
theorem call_lenK : CallR X (.builtin "len") rLenK := by
  intro pins s σ H xs us Q I r ⟨a, ys, e0, h, q⟩
  subst e0
  obtain ⟨u, rfl, rx⟩ := vals1 r
  obtain rfl : u = .ref a := rx
  exact d_len I h fun t s' I' => ⟨.int ((ys.length : Nat) : Int), H, I', ⟨_, rfl⟩, q⟩
def rLenW (w : World) : SpD := fun ds S Q => match ds with
  | [x] => (match tdOf S x with
    | some (w', kds) => w' = w ∧ Q (.int (kds.length : Nat)) S
    | none => (match asDic S x with
      | some kds => Q (.int (kds.length : Nat)) S
      | none => rLenD [x] S Q))
  | _ => False
theorem call_lenW : CallRD X (.builtin "len") (rLenW X.w) := by
  intro pins s σ H vs us ds G S Qd Q I rv rd rh t p
  unfold rLenW at t
  split at t
  · rename_i x
    split at t
    · rename_i w' kds e
      obtain ⟨rfl, t⟩ := t
      cases rd with
      | cons q1 r1 =>
        cases r1
        obtain ⟨a, xs, rfl, _, rfl, e1, r⟩ := tdOf_ok rh e q1
        refine call_lenT pins s σ H _ us Q I rv ⟨a, xs, rfl, e1, keysOk_of r, ?_⟩
        rw [← rdt_len r]
        exact p.here rh (.int _) t
    · split at t
      · rename_i kds e
        cases rd with
        | cons q1 r1 =>
          cases r1
          obtain ⟨a, kvs, rfl, r0, r⟩ := asDic_ok rh e q1
          refine call_lenK pins s σ H _ us Q I rv ⟨a, kvs, rfl, r0, ?_⟩
          rw [← rdk_len r]
          exact p.here rh (.int _) t
      · exact call_lenRD pins s σ H vs us _ G S Qd Q I rv rd rh t p
  · exact t.elim
end
end PD
end

section
/-! PD32: methods of dicts of any keys; displays of dicts that change. -/
namespace PD
open PySem PySem.Spec PyProof.Rows L2
/-- a dict, whatever its keys -/
def IsDV (w : World) (H : Hp) (a : Addr) : Prop := (∃ kvs, Rd H a (.dK kvs)) ∨ ∃ xs, H a = some (.ext (RawT w a xs))
section
variable {X : Cx} {pins : List (Addr × Obj)} {σ : L2.St} {H : Hp} {s : Shared} {a : Addr}
theorem isDV_at (I : Inv X pins σ H s) (d : IsDV X.w H a) : s.TypeIs (.ref a) "dict" ∧ (∀ b, Value.ref a = .ref b → ∃ ob, s.heap.get? b = some ob ∧ ob.dict = none) := by
  rcases d with ⟨kvs, e⟩ | ⟨xs, e⟩
  · obtain ⟨_, hd, vs, _, dd⟩ := dk_rd I.hok e
    refine ⟨dd.typeIs, fun b q => ?_⟩
    cases q
    obtain ⟨ob, _, _, h1, h2, _⟩ := dd
    exact ⟨ob, h1, h2.2.1⟩
  · obtain ⟨⟨o, es, ep, h1, h2, _⟩, _, _⟩ := (show ObjOk X.prog X.w H s.heap a (.ext (RawT X.w a xs)) from I.hok a _ e)
    refine ⟨⟨o, h1, h2.1⟩, fun b q => ?_⟩
    cases q
    exact ⟨o, h1, h2.2.1⟩
end
def tBMD (w : World) (r : V → List V → Hp → VK → Prop) (to : TE) (t : TA) : TE := fun σ H Q => to σ H fun x H1 => (∃ a, x = .ref a ∧ IsDV w H1 a) ∧ t σ H1 fun xs H2 => r x xs H2 Q
section
variable {X : Cx} {o e : Expr} {es : List Expr} {to : TE} {t : TA} {name : Str} {apos cpos : Pos} {id : String} {r : V → List V → Hp → VK → Prop}
theorem pe_bmD (slot : Slot "dict" name id) (hty : typeOf (.builtin id) = pure (.type "method_descriptor")) (hm : MtR X id r) (ho : PE X o to) (ha : PA X (e :: es) t)
    (hbase : attributeBase o name X.env (eval o X.env) = eval o X.env := by rfl)
    (hfew : ((backTo cpos (starEach (e :: es) X.env)).all (fun x => !x.1) && (backToKw cpos (keywordEach [] X.env)).all (fun x => x.1.isSome)
      && decide ((e :: es).length + ([] : List Keyword).length + (if ([] : List Keyword).isEmpty then 0 else 1) < 30)) = true := by rfl)
    (hline : (apos.endLine == cpos.line) = true := by rfl) (hs : starEach (e :: es) X.env = (false, eval e X.env) :: starEach es X.env := by rfl) (hplain : (backTo cpos (starEach es X.env)).any (·.1) = false := by rfl) :
    PE X (.Call (.Attribute o name apos) (e :: es) [] cpos) (tBMD X.w r to t) := by
  refine ⟨fun pins s σ H Q I h => ?_⟩
  refine wpAny_Call_method_late hbase hfew hline rfl (thn (ho.run pins s σ H _ I h) fun v s1 ⟨x, H1, I1, r1, ⟨a, ex, ty⟩, q1⟩ => ?_)
  subst ex
  obtain rfl : v = Value.ref a := r1
  obtain ⟨h1, h2⟩ := isDV_at I1 ty
  refine ⟨"dict", id, PySem.F.plainAttrs_dict, slot, hty, h1, h2, ?_⟩
  have hA := ha.run cpos pins s1 σ H1 _ I1 q1
  rw [hs] at hA ⊢
  refine Calls.callWith_builtin (by show (false || (backTo cpos (starEach es X.env)).any (·.1)) = false; rw [hplain] <;> rfl) (Calls.evalArgs_plain ?_)
  exact thn hA fun us s2 ⟨vs, H2, I2, r2, q2⟩ => hm pins s2 σ H2 (.ref a) vs (.ref a) us Q I2 rfl r2 q2
end
/-- a dict of any kind, deep -/
def isDic (w : World) (S : HD) (d : D) : Prop := (∃ kds, asDic S d = some kds) ∨ ∃ kds, tdOf S d = some (w, kds)
def tMethW (w : World) (rd : D → List D → HD → QD → Prop) (to : TED) (ta : TAD) : TED := fun σ S Q => to σ S fun x S1 => isDic w S1 x ∧ ta σ S1 fun ds S2 => rd x ds S2 Q
section
variable {K : PySem.W.Frag} {G : Addr → Prop} {S : HD} {H : Hp}
theorem isDic_ok {w : World} (rh : RH K G S H) {d : D} {v : V} (h : isDic w S d) (q : RD K G S H d v) : ∃ a, v = .ref a ∧ IsDV w H a := by
  rcases h with ⟨kds, e⟩ | ⟨kds, e⟩
  · obtain ⟨p, kvs, rfl, r0, _⟩ := asDic_ok rh e q
    exact ⟨p, rfl, .inl ⟨kvs, r0⟩⟩
  · obtain ⟨a, xs, _, _, rfl, e1, _⟩ := tdOf_ok rh e q
    exact ⟨a, rfl, .inr ⟨xs, e1⟩⟩
end
section
variable {X : Cx} {o e : Expr} {es : List Expr} {to te : TED} {tA : TAD} {name : Str} {apos cpos pos : Pos}
theorem de_methW {id : String} {r : V → List V → Hp → VK → Prop} {rd : D → List D → HD → QD → Prop} (slot : Slot "dict" name id) (hty : typeOf (.builtin id) = pure (.type "method_descriptor")) (hm : MtR X id r)
    (i : ∀ G S H d v ds vs Qd Q, RH X.K G S H → RD X.K G S H d v → RDs X.K G S H ds vs → rd d ds S Qd → Post X.K G S H Qd Q → r v vs H Q) (ho : DE X o to) (ha : DA X (e :: es) tA)
    (hbase : attributeBase o name X.env (eval o X.env) = eval o X.env := by rfl)
    (hfew : ((backTo cpos (starEach (e :: es) X.env)).all (fun x => !x.1) && (backToKw cpos (keywordEach [] X.env)).all (fun x => x.1.isSome)
      && decide ((e :: es).length + ([] : List Keyword).length + (if ([] : List Keyword).isEmpty then 0 else 1) < 30)) = true := by rfl)
    (hline : (apos.endLine == cpos.line) = true := by rfl) (hs : starEach (e :: es) X.env = (false, eval e X.env) :: starEach es X.env := by rfl) (hplain : (backTo cpos (starEach es X.env)).any (·.1) = false := by rfl) :
    DE X (.Call (.Attribute o name apos) (e :: es) [] cpos) (tMethW X.w rd to tA) :=
  (pe_bmD slot hty hm ho ha hbase hfew hline hs hplain).imp fun σ H Q ⟨G, σd, S, Qd, rs, rh, t, p⟩ => ⟨G, σd, S, _, rs, rh, t, fun S1 d v H1 f1 rh1 q1 ⟨hl, t1⟩ =>
    ⟨isDic_ok rh1 hl q1, G, σd, S1, _, rs.fl f1, rh1, t1, fun S2 ds vs H2 f2 rh2 q2 t2 => i G S2 H2 _ _ ds vs _ _ rh2 (q1.fl f2) q2 t2 (p.fl (f1.trans f2))⟩⟩
/-! ### get -/
def rGet (K : PySem.W.Frag) (w : World) : V → List V → Hp → VK → Prop := fun x vs H Q => ∃ a y z, x = .ref a ∧ (vs = [y] ∧ z = V.non ∨ vs = [y, z]) ∧
  ((∃ ov, DGet H a y ov ∧ Q (ov.getD z) H) ∨ (∃ b xs nk, y = .ref b ∧ H a = some (.ext (RawT w a xs)) ∧ KeysOk K H xs ∧ KeyOk K H nk b ∧ (∀ c u v, atKey xs nk = some (c, u) → RelV v u → Q v H) ∧ (atKey xs nk = none → Q z H) ∧ ∀ c u, atKey xs nk = some (c, u) → ∃ v, RelV v u) ∨
   ∃ kvs, y = .non ∧ Rd H a (.dK kvs) ∧ Q z H)
theorem mt_getW {k : Nat} (hr : RoomG k X.A) : MtR X "dict.get" (rGet X.K X.w) := by
  intro pins s σ H x xs v us Q I rx rs ⟨a, y, z, e1, e2, h⟩
  subst e1
  obtain rfl : v = Value.ref a := rx
  have key : ∀ (r : Value) (u : Value), RelV y u → RelV z r → (us = [u] ∧ r = Value.none ∨ us = [u, r]) → wpAny (model X.prog X.w) X.A (call (.builtin "dict.get") (.ref a :: us)) (EP X pins σ Q) X.xe s := by
    intro r u ry rz eu
    rcases h with ⟨ov, g, q⟩ | ⟨b, ys, nk, rfl, hx, ks, ki, q1, q2, q3⟩ | ⟨kvs, rfl, hx, q⟩
    · rcases eu with ⟨rfl, rfl⟩ | rfl
      · have ez : z = .non := by
          rcases e2 with ⟨_, e⟩ | e
          · exact e
          · subst e; have := rs.length; simp at this
        subst ez
        exact d_get1 hr.un1 I g ry fun w' s' I' rw' => ⟨_, H, I', rw', q⟩
      · exact d_get2 hr.un1 I g ry rz fun w' s' I' rw' => ⟨_, H, I', rw', q⟩
    · obtain rfl : u = Value.ref b := ry
      obtain ⟨hd, hz, dd⟩ := td_dict I hx ks
      have fin : EP X pins σ Q (((atKey ys nk).map (·.2)).getD r) { s with toks := s.toks + (nestedKind X.prog X.w).draws nk } := by
        cases hk : atKey ys nk with
        | none => exact ⟨z, H, I.tok _, rz, q2 hk⟩
        | some p =>
          obtain ⟨c, u⟩ := p
          obtain ⟨v', rv'⟩ := q3 c u hk
          exact ⟨v', H, I.tok _, rv', q1 c u v' hk rv'⟩
      rcases eu with ⟨rfl, rfl⟩ | rfl
      · exact call_meetsIn PySem.F.slot_dict_get dd.typeIs PySem.F.entry_dict_get (PySem.F.args_dict_get_2 _ _) (meetsH_dict_get (nestedKind X.prog X.w) a b hd) ⟨room_nest hr, nk, ys, keyAt_is I ki, dd, fin⟩
      · exact call_meetsIn PySem.F.slot_dict_get dd.typeIs PySem.F.entry_dict_get (PySem.F.args_dict_get_3 _ _ _) (meetsH_dict_get_default (nestedKind X.prog X.w) a b hd r) ⟨room_nest hr, nk, ys, keyAt_is I ki, dd, fin⟩
    · obtain rfl : u = Value.none := ry
      obtain ⟨hd, f, hm, hf⟩ := none_map I hx
      rcases eu with ⟨rfl, rfl⟩ | rfl
      · refine call_meetsIn PySem.F.slot_dict_get hm.typeIs PySem.F.entry_dict_get (PySem.F.args_dict_get_2 _ _) (meets_dict_get (leafKind X.prog X.w) a (k := Leaf.none) rfl hd) ⟨f, hm, ?_⟩
        rw [hf]
        exact ⟨z, H, I.tok _, rz, q⟩
      · refine call_meetsIn PySem.F.slot_dict_get hm.typeIs PySem.F.entry_dict_get (PySem.F.args_dict_get_3 _ _ _) (meets_dict_get_default (leafKind X.prog X.w) a (k := Leaf.none) rfl hd r) ⟨f, hm, ?_⟩
        rw [hf]
        exact ⟨z, H, I.tok _, rz, q⟩
  rcases e2 with ⟨rfl, rfl⟩ | rfl
  · obtain ⟨u, rfl, ru⟩ := rs.one
    exact key .none u ru rfl (.inl ⟨rfl, rfl⟩)
  · cases rs with
    | cons r1 rs =>
      cases rs with
      | cons r2 rs =>
        cases rs
        exact key _ _ r1 r2 (.inr rfl)
def rGetAt (w : World) (x y z : D) (S : HD) (Q : QD) : Prop := match tdOf S x with
  | some (w', kds) => (match keyT y with
    | some nk => w' = w ∧ nk.depth ≤ 8 ∧ Q ((getT kds nk).getD z) S
    | none => False)
  | none => (match asDic S x with
    | some kds => (match y with
      | .non => Q z S
      | y => (match keyOf y with
        | some k => Q ((getK kds k).getD z) S
        | none => False))
    | none => False)
def rGetW (w : World) : D → List D → HD → QD → Prop := fun x ds S Q => match ds with
  | [y] => rGetAt w x y .non S Q
  | [y, z] => rGetAt w x y z S Q
  | _ => False
theorem getAt_ok {G : Addr → Prop} {S : HD} {H : Hp} {x y z : D} {v vy vz : V} {vs : List V} {Qd : QD} {Q : VK} (rh : RH X.K G S H) (q1 : RD X.K G S H x v) (q2 : RD X.K G S H y vy) (q3 : RD X.K G S H z vz) (hv : vs = [vy] ∧ vz = V.non ∨ vs = [vy, vz]) (t : rGetAt X.w x y z S Qd) (p : Post X.K G S H Qd Q) : rGet X.K X.w v vs H Q := by
  unfold rGetAt at t
  split at t
  · rename_i w' kds e
    split at t
    · rename_i nk ek
      obtain ⟨rfl, hd, t⟩ := t
      obtain ⟨a, xs, rfl, _, rfl, e1, r⟩ := tdOf_ok rh e q1
      obtain ⟨b, rfl⟩ := keyT_ref ek q2
      refine ⟨a, _, vz, rfl, hv, .inr (.inl ⟨b, xs, nk, rfl, e1, keysOk_of r, keyOk_of q2 (keyT_nk ek) hd, ?_⟩)⟩
      rcases rdt_get nk r with ⟨z1, z2⟩ | ⟨d, b', v', u, z1, z2, z3, z4⟩
      · rw [z1] at t
        exact ⟨fun c u v' hk => (by rw [z2] at hk; cases hk), fun _ => p.here rh q3 t, fun c u hk => (by rw [z2] at hk; cases hk)⟩
      · rw [z1] at t
        refine ⟨fun c u2 v2 hk rv => ?_, fun hk => (by rw [z2] at hk; cases hk), fun c u2 hk => ?_⟩
        · rw [z2] at hk; cases hk
          have : v2 = v' := RelV.inj rv z3
          subst this
          exact p.here rh z4 t
        · rw [z2] at hk; cases hk
          exact ⟨v', z3⟩
    · exact t.elim
  · split at t
    · rename_i kds e
      obtain ⟨a, kvs, rfl, r0, r⟩ := asDic_ok rh e q1
      split at t
      · cases q2
        exact ⟨a, _, vz, rfl, hv, .inr (.inr ⟨kvs, rfl, r0, p.here rh q3 t⟩)⟩
      · split at t
        · rename_i k ek
          have := key_v ek q2
          subst this
          refine ⟨a, _, vz, rfl, hv, .inl ⟨valV kvs k, .inl ⟨kvs, k, r0, rfl, rfl⟩, ?_⟩⟩
          rcases rdk_get k r with ⟨z1, z2⟩ | ⟨d, v', z1, z2, z3⟩
          · rw [z1] at t; rw [z2]
            exact p.here rh q3 t
          · rw [z1] at t; rw [z2]
            exact p.here rh z3 t
        · exact t.elim
    · exact t.elim
theorem getW_ok : ∀ G S H d v ds vs Qd Q, RH X.K G S H → RD X.K G S H d v → RDs X.K G S H ds vs → rGetW X.w d ds S Qd → Post X.K G S H Qd Q → rGet X.K X.w v vs H Q := by
  intro G S H d v ds vs Qd Q rh q1 q2 t p
  unfold rGetW at t
  split at t
  · cases q2 with
    | cons a r => cases r; exact getAt_ok rh q1 a .non (.inl ⟨rfl, rfl⟩) t p
  · cases q2 with
    | cons a r => cases r with
      | cons b r => cases r; exact getAt_ok rh q1 a b (.inr rfl) t p
  · exact t.elim
theorem de_getW {k : Nat} (hr : RoomG k X.A) (ho : DE X o to) (ha : DA X (e :: es) tA) (hbase : attributeBase o "get" X.env (eval o X.env) = eval o X.env := by rfl)
    (hfew : ((backTo cpos (starEach (e :: es) X.env)).all (fun x => !x.1) && (backToKw cpos (keywordEach [] X.env)).all (fun x => x.1.isSome)
      && decide ((e :: es).length + ([] : List Keyword).length + (if ([] : List Keyword).isEmpty then 0 else 1) < 30)) = true := by rfl)
    (hline : (apos.endLine == cpos.line) = true := by rfl) (hs : starEach (e :: es) X.env = (false, eval e X.env) :: starEach es X.env := by rfl) (hplain : (backTo cpos (starEach es X.env)).any (·.1) = false := by rfl) :
    DE X (.Call (.Attribute o "get" apos) (e :: es) [] cpos) (tMethW X.w (rGetW X.w) to tA) := de_methW PySem.F.slot_dict_get PySem.F.type_dict_get (mt_getW hr) getW_ok ho ha hbase hfew hline hs hplain
/-! ### setdefault -/
def rSetdV (K : PySem.W.Frag) (w : World) : V → List V → Hp → VK → Prop := fun x vs H Q => ∃ a y z, x = .ref a ∧ vs = [y, z] ∧
  ((∃ kvs k, H a = some (.dK kvs) ∧ y = kV k ∧ kvs.length < sizeLine ∧ (∀ v, valV kvs k = some v → Q v H) ∧ (valV kvs k = none → Q z (upd H a (.dK (putK kvs k z))))) ∨
   (∃ b xs nk, y = .ref b ∧ H a = some (.ext (RawT w a xs)) ∧ KeysOk K H xs ∧ KeyOk K H nk b ∧ xs.length < sizeLine ∧ (∀ c u, atKey xs nk = some (c, u) → ∃ v, RelV v u ∧ Q v H) ∧ (atKey xs nk = none → ∀ u, RelV z u → Q z (upd H a (.ext (RawT w a (storedH xs nk b u)))))))
theorem mt_setdW {k : Nat} (hr : RoomG k X.A) : MtR X "dict.setdefault" (rSetdV X.K X.w) := by
  intro pins s σ H x xs v us Q I rx rs ⟨a, y, z, e1, e2, h⟩
  subst e1 e2
  obtain rfl : v = Value.ref a := rx
  cases rs with
  | @cons _ u _ _ ry rs =>
    cases rs with
    | @cons _ r _ _ rz rs =>
      cases rs
      rcases h with ⟨kvs, k, hx, rfl, hl, q1, q2⟩ | ⟨b, ys, nk, rfl, hx, ks, ki, hl, q1, q2⟩
      · exact d_setd I hx ry rz hl (fun v hv w' s' I' rw' => ⟨v, _, I', rw', q1 v hv⟩) fun hn w' s' I' rw' => ⟨z, _, I', rw', q2 hn⟩
      · obtain rfl : u = Value.ref b := ry
        obtain ⟨hd, hz, dd⟩ := td_dict I hx ks
        refine call_setdefault_heap (knd := nestedKind X.prog X.w) (room_nest hr) (keyAt_is I ki) hd dd (fun p hp => ?_) (fun hn h' dd' hs => ?_) (hsz := hz)
        · obtain ⟨c, u⟩ := p
          obtain ⟨v', rv', q⟩ := q1 c u hp
          exact ⟨v', H, I.tok _, rv', q⟩
        · have he : ∃ q, h'.get? a = some q := let ⟨q, _, _, hq, _⟩ := dd'; ⟨q, hq⟩
          have hz' : (storedH ys nk b r).length ≤ sizeLine := by have := storedH_length ys nk b r; omega
          exact ⟨z, _, d_write I (by rw [hx]; exact True.intro) hs he (raw_ok hd hz' dd'), rz, q2 hn r rz⟩
def rSetdW (w : World) : D → List D → HD → QD → Prop := fun x ds S Q => match x, ds with
  | .ref a, [y, z] => (match S.hp a with
    | some (.dct w' kds) => (match keyT y with
      | some nk => w' = w ∧ nk.depth ≤ 8 ∧ kds.length < 16000000 ∧ (match getT kds nk with
        | some v => Q v S
        | none => Q z (S.set a (.dct w (putT kds y nk z))))
      | none => False)
    | some (.dic kds) => (match keyOf y with
      | some k => kds.length < 16000000 ∧ (match getK kds k with
        | some v => Q v S
        | none => Q z (S.set a (.dic (putD kds k z))))
      | none => False)
    | _ => False)
  | _, _ => False
theorem RelV.ex {K : PySem.W.Frag} {G : Addr → Prop} {S : HD} {H : Hp} {d : D} {v : V} (q : RD K G S H d v) : True := trivial
theorem setdW_ok : ∀ G S H d v ds vs Qd Q, RH X.K G S H → RD X.K G S H d v → RDs X.K G S H ds vs → rSetdW X.w d ds S Qd → Post X.K G S H Qd Q → rSetdV X.K X.w v vs H Q := by
  intro G S H d v ds vs Qd Q rh q1 q2 t p
  have hsl : (sizeLine : Nat) = 16777216 := rfl
  unfold rSetdW at t
  split at t
  · rename_i a y z
    cases q2 with
    | cons qy r => cases r with
      | cons qz r =>
        cases r
        split at t
        · rename_i w' kds e
          split at t
          · rename_i nk ek
            obtain ⟨rfl, hd, hl, t⟩ := t
            cases q1
            obtain ⟨_, _, xs, e1, r⟩ := rh.hp a _ e
            obtain ⟨b, rfl⟩ := keyT_ref ek qy
            have hlen := rdt_len r
            refine ⟨a, _, _, rfl, rfl, .inr ⟨b, xs, nk, rfl, e1, keysOk_of r, keyOk_of qy (keyT_nk ek) hd, by omega, ?_⟩⟩
            rcases rdt_get nk r with ⟨z1, z2⟩ | ⟨d, b', v', u, z1, z2, z3, z4⟩
            · rw [z1] at t
              refine ⟨fun c u hk => (by rw [z2] at hk; cases hk), fun _ u ru => ?_⟩
              obtain ⟨rh', f'⟩ := rh.writeT e (rdt_put qy (keyT_nk ek) hd qz ru r)
              exact p _ _ _ _ f' rh' (qz.fl f') t
            · rw [z1] at t
              refine ⟨fun c u hk => ?_, fun hk => (by rw [z2] at hk; cases hk)⟩
              rw [z2] at hk; cases hk
              exact ⟨v', z3, p.here rh z4 t⟩
          · exact t.elim
        · rename_i kds e
          split at t
          · rename_i k ek
            obtain ⟨hl, t⟩ := t
            cases q1
            obtain ⟨_, _, kvs, e1, r⟩ := rh.hp a _ e
            have := key_v ek qy
            subst this
            have hlen := rdk_len r
            refine ⟨a, _, _, rfl, rfl, .inl ⟨kvs, k, e1, rfl, by omega, ?_⟩⟩
            rcases rdk_get k r with ⟨z1, z2⟩ | ⟨d, v', z1, z2, z3⟩
            · rw [z1] at t
              refine ⟨fun v' hk => (by rw [z2] at hk; cases hk), fun _ => ?_⟩
              obtain ⟨rh', f'⟩ := rh.writeD e (rdk_put k qz r)
              exact p _ _ _ _ f' rh' (qz.fl f') t
            · rw [z1] at t
              refine ⟨fun v2 hk => ?_, fun hk => (by rw [z2] at hk; cases hk)⟩
              rw [z2] at hk; cases hk
              exact p.here rh z3 t
          · exact t.elim
        · exact t.elim
  · exact t.elim
theorem de_setdW {k : Nat} (hr : RoomG k X.A) (ho : DE X o to) (ha : DA X (e :: es) tA) (hbase : attributeBase o "setdefault" X.env (eval o X.env) = eval o X.env := by rfl)
    (hfew : ((backTo cpos (starEach (e :: es) X.env)).all (fun x => !x.1) && (backToKw cpos (keywordEach [] X.env)).all (fun x => x.1.isSome)
      && decide ((e :: es).length + ([] : List Keyword).length + (if ([] : List Keyword).isEmpty then 0 else 1) < 30)) = true := by rfl)
    (hline : (apos.endLine == cpos.line) = true := by rfl) (hs : starEach (e :: es) X.env = (false, eval e X.env) :: starEach es X.env := by rfl) (hplain : (backTo cpos (starEach es X.env)).any (·.1) = false := by rfl) :
    DE X (.Call (.Attribute o "setdefault" apos) (e :: es) [] cpos) (tMethW X.w (rSetdW X.w) to tA) := de_methW PySem.F.slot_dict_setdefault PySem.F.type_dict_setdefault (mt_setdW hr) setdW_ok ho ha hbase hfew hline hs hplain
end
end PD
end

section
/-! PD33: displays of dicts that change; list(d); len(set(xs)); a dict is frozen. -/
namespace PD
open PySem PySem.Spec PyProof.Rows L2
section
variable {K : PySem.W.Frag} {G : Addr → Prop} {S S1 S2 : HD} {H H1 H2 : Hp} {q : Addr} {od : OD}
theorem res_mvT (h : S2.hp q = none) : Mv (Res G q) S2 H2 G (S2.set q od) H2 := ⟨fun a o e z => by
    have ne : a ≠ q := fun w => z.2.2 (.inr w)
    exact ⟨⟨by rw [HD.set_ne ne]; exact z.1, z.2.1, fun g => z.2.2 (.inl g)⟩, e⟩, fun _ e => e⟩
/-- the held place is tracked from now on -/
theorem res_track (rh1 : RH K G S1 H1) (hq : H1 q = none) (f2 : FL S1 H1 S2 H2) (rh2 : RH K (Res G q) S2 H2) (rod : ROD K G (S2.set q od) H2 q od) : RH K G (S2.set q od) H2 ∧ FL S1 H1 (S2.set q od) H2 := by
  have n2 := (RH.resFree rh2).1
  have d2 := (RH.resFree rh2).2
  have ngq : ¬ G q := fun g => by
    obtain ⟨⟨o, e⟩, _⟩ := rh1.rs q g
    rw [hq] at e; cases e
  refine ⟨⟨fun a u e => ?_, fun a g => rh2.rs a (.inl g), fun a b e => ?_⟩, ⟨fun a o e n d => by
    obtain ⟨n', d', e'⟩ := f2.kp a o e n d
    exact ⟨by rw [HD.set_ne (ne_of_none e hq)]; exact n', d', e'⟩, f2.dk⟩⟩
  · by_cases ha : a = q
    · subst ha
      rw [HD.set_same] at e; cases e
      exact ⟨d2, ngq, rod⟩
    · rw [HD.set_ne ha] at e
      obtain ⟨h1, h2, h3⟩ := rh2.hp a u e
      exact ⟨h1, fun g => h2 (.inl g), h3.mv (res_mvT n2) rfl⟩
  · obtain ⟨h1, h2, h3, h4⟩ := rh2.dk a b e
    have na : a ≠ q := fun z => d2 ⟨_, e, .inl z.symm⟩
    have nb : b ≠ q := fun z => d2 ⟨_, e, .inr z.symm⟩
    exact ⟨h1, by rw [HD.set_ne na]; exact h2, by rw [HD.set_ne nb]; exact h3, h4⟩
theorem res_trackD {kds : List (D × D)} {kvs : List (Key × V)} (rh1 : RH K G S1 H1) (hq : H1 q = none) (f2 : FL S1 H1 S2 H2) (rh2 : RH K (Res G q) S2 H2) (e : H2 q = some (.dK kvs)) (r : RDk K (Res G q) S2 H2 kds kvs) : RH K G (S2.set q (.dic kds)) H2 ∧ FL S1 H1 (S2.set q (.dic kds)) H2 :=
  res_track rh1 hq f2 rh2 ⟨kvs, e, r.mv (res_mvT (RH.resFree rh2).1)⟩
theorem res_trackT {w : World} {kds : List (D × D)} {xs : List (NestedKey × Addr × Value)} (rh1 : RH K G S1 H1) (hq : H1 q = none) (f2 : FL S1 H1 S2 H2) (rh2 : RH K (Res G q) S2 H2) (e : H2 q = some (.ext (RawT w q xs))) (r : RDt K (Res G q) S2 H2 kds xs) : RH K G (S2.set q (.dct w kds)) H2 ∧ FL S1 H1 (S2.set q (.dct w kds)) H2 :=
  res_track rh1 hq f2 rh2 ⟨xs, e, r.mv (res_mvT (RH.resFree rh2).1)⟩
end
/-- a tracked dict is frozen -/
theorem Cv.frzD {a : Addr} {S : HD} {xs : List (D × D)} (h : S.hp a = some (.dic xs)) : Cv (.ref a) S (.dic xs) (S.del a) := fun K G H v r q => by
  obtain ⟨h1, h2, vs, h3, h4⟩ := r.hp a _ h
  cases q
  exact ⟨r.le (del_le S a), (del_le S a).fl, .dic ⟨⟨by simp [HD.del], fun z => h1 ((del_le S a).dkE.mp z), h2⟩, .inl h3⟩ (h4.mv (del_le S a).mv)⟩
theorem fin.frzD {Q : QD} {a : Addr} {S S' : HD} {xs : List (D × D)} (h : S'.hp a = some (.dic xs)) (l : HLe S (S'.del a)) (q : Q (.dic xs) S) : fin Q (.ref a) S' := ⟨S, _, (Cv.frzD h).trans (.le l), q⟩
/-- {k: v, ..}, a dict that is to change -/
def tDispR (trs : List (TED × TED)) : TED := fun σ S Q => tPairsD trs σ S fun ps S2 => ps.length ≤ 15 ∧ ∀ q, S2.hp q = none → Q (.ref q) (S2.set q (.dic (putAll ps [])))
section
variable {X : Cx} {pos : Pos} {keys : List (Option Expr)} {values : List Expr} {trs : List (TED × TED)} {k v : Expr} {tk tv : TED}
theorem de_dispR (h : DPs X pos keys values trs) (hall : keys.all (·.isSome) = true := by rfl) (hl : keys.length = values.length := by rfl) (h0 : keys ≠ [] := by simp) (h15 : keys.length ≤ 15 := by decide) : DE X (.Dict keys values pos) (tDispR trs) :=
  (pe_disp h hall hl h0 h15).imp fun σ H Q ⟨G, σd, S, Qd, rs, rh, t, p⟩ => fun q hq => by
    refine pairs_up trs (G := Res G q) (rs.mv (res_in hq)) (rh.res hq _) t fun S' H' ps kvs f' rh' q' ⟨hl15, t'⟩ => ?_
    have fr := RH.resFree (rh.res hq (.dK []))
    have pk := (f'.kp q _ upd_same fr.1 fr.2).2.2
    have hlen : kvs.length = ps.length := by
      have := rdk_len q'
      unfold rKV at this
      rw [List.length_map] at this
      exact this.symm
    refine ⟨pk, kvs, rfl, by omega, ?_⟩
    have f2 : FL S H S' (upd H' q (.dK (mergeK [] kvs))) := (((Grow.upd hq).fl (S := S)).trans f').updp hq
    have rr := putAll_rel ps q' (.nil (K := X.K) (G := Res G q) (S := S') (H := H'))
    have rh2 := rh'.resW (p := q) (.dK (mergeK [] kvs))
    obtain ⟨rh3, f3⟩ := res_trackD rh hq f2 rh2 upd_same (rr.mv res_mv)
    exact p _ _ _ _ f3 rh3 (.ref q) (t' q (RH.resFree rh').1)
/-- {k: v}, the key a tuple -/
def tDisp1T (w : World) (tk tv : TED) : TED := fun σ S Q => tk σ S fun x S1 => tv σ S1 fun y S2 => match keyT x with
  | some nk => nk.depth ≤ 8 ∧ ∀ q, S2.hp q = none → Q (.ref q) (S2.set q (.dct w [(x, y)]))
  | none => False
def tDisp1V (K : PySem.W.Frag) (w : World) (tk tv : TE) : TE := fun σ H Q => ∀ p, H p = none → tk σ (upd H p (.ext (RawT w p []))) fun x H1 => tv σ H1 fun y H2 => H2 p = some (.ext (RawT w p [])) ∧ ∃ b nk, x = .ref b ∧ KeyOk K H2 nk b ∧ ∀ u, RelV y u → Q (.ref p) (upd H2 p (.ext (RawT w p [(nk, b, u)])))
theorem pe_disp1 {n : Nat} {tk tv : TE} (hr : RoomG n X.A) (hk : PE X k tk) (hv : PE X v tv) : PE X (.Dict [some k] [v] pos) (tDisp1V X.K X.w tk tv) := by
  refine ⟨fun pins s σ H Q I q => ?_⟩
  have hn := I.hok.fresh (Nat.le_refl s.heap.objs.size)
  have hd : (s.heap.objs.size == sysModules) = false := beq_eq_false_iff_ne.mpr (Ne.symm (Nat.ne_of_lt I.big))
  have I1 := I.laid (a := s.heap.objs.size) (o := .ext (RawT X.w s.heap.objs.size [])) (h' := s.heap.push { cls := .type "dict", data := .dict #[] }) (t' := s.toks) (fun _ _ q => Heap.get?_push_of_some _ q) (Nat.le_refl _)
    (raw_ok (P := X.prog) hd (Nat.zero_le _) (Heap.DictOfH.new s.heap))
  rw [arm_eval_Dict, zip_pairTrees [some k] [v] X.env pos rfl rfl, dictDisplay_pairs _ (by simp [pairTrees]) (by simp [pairTrees])]
  refine wpAny_bind (wpAny_standAt (wpAny_bind (wpAny_subDictH (knd := nestedKind X.prog X.w) (Q := fun d s' => wpAny (model X.prog X.w) X.A (pure (Value.ref d)) (EP X pins σ Q) X.xe s') (room_nest0 hr) (by simp [pairTrees]) ?_)))
  refine pairTrees_cons_walk (thn (hk.run pins _ σ _ _ I1 (q _ hn)) fun kv s1 ⟨x, H1, I2, rx, q1⟩ => thn (hv.run pins s1 σ H1 _ I2 q1) fun vv s2 ⟨y, H2, I3, ry, pk, b, nk, ex, ki, qf⟩ => pairTrees_nil_walk ?_)
  subst ex
  obtain rfl : kv = Value.ref b := rx
  obtain ⟨hd2, _, dd0⟩ := td_dict I3 pk (fun _ hx => nomatch hx)
  refine ⟨[(nk, b, vv)], ⟨rfl, rfl, keyAt_is I3 ki, trivial⟩, dd0, fun h' tk dd' hs => wpAny_pure ⟨.ref s.heap.objs.size, _, ?_, rfl, qf vv ry⟩⟩
  have he : ∃ q, h'.get? s.heap.objs.size = some q := let ⟨q, _, _, hq, _⟩ := dd'; ⟨q, hq⟩
  have e1 : storedAllH ([] : List (NestedKey × Addr × Value)) [(nk, b, vv)] = [(nk, b, vv)] := rfl
  rw [e1] at dd'
  exact d_write I3 (by rw [pk]; exact True.intro) hs he (raw_ok hd2 (by show 1 ≤ sizeLine; decide) dd')
theorem de_disp1 {n : Nat} (hr : RoomG n X.A) (hk : DE X k tk) (hv : DE X v tv) : DE X (.Dict [some k] [v] pos) (tDisp1T X.w tk tv) :=
  (pe_disp1 hr hk hv).imp fun σ H Q ⟨G, σd, S, Qd, rs, rh, t, p⟩ => fun q hq => by
    refine ⟨Res G q, σd, S, _, rs.mv (res_in hq), rh.res hq _, t, fun S1 x vx H1 f1 rh1 q1 t1 => ⟨Res G q, σd, S1, _, (rs.mv (res_in hq)).fl f1, rh1, t1, fun S2 y vy H2 f2 rh2 q2 t2 => ?_⟩⟩
    split at t2
    · rename_i nk ek
      obtain ⟨hd, t2⟩ := t2
      obtain ⟨b, rfl⟩ := keyT_ref ek q1
      have q1' := q1.fl f2
      have fr := RH.resFree (rh.res hq (.ext (RawT X.w q [])))
      have pk := ((f1.trans f2).kp q _ upd_same fr.1 fr.2).2.2
      refine ⟨pk, b, nk, rfl, keyOk_of q1' (keyT_nk ek) hd, fun u ru => ?_⟩
      have f3 : FL S H S2 (upd H2 q (.ext (RawT X.w q [(nk, b, u)]))) := (((Grow.upd hq).fl (S := S)).trans (f1.trans f2)).updp hq
      have rr : RDt X.K (Res G q) S2 H2 [(x, y)] [(nk, b, u)] := .cons q1' (keyT_nk ek) hd ru q2 .nil
      have rh3 := rh2.resW (p := q) (.ext (RawT X.w q [(nk, b, u)]))
      obtain ⟨rh4, f4⟩ := res_trackT rh hq f3 rh3 upd_same (rr.mv res_mv)
      exact p _ _ _ _ f4 rh4 (.ref q) (t2 q (RH.resFree rh2).1)
    · exact t2.elim
/-! ### list(d): the keys -/
def rListW (w : Bool) : SpD := fun ds S Q => match ds with
  | [.ref a] => (match S.hp a with
    | some (.dic kds) => if w = true then ∀ p, S.hp p = none → Q (.ref p) (S.set p (.lst (kds.map (·.1)))) else Q (.lst (kds.map (·.1))) S
    | _ => if w = true then rListR [.ref a] S Q else rListV [.ref a] S Q)
  | ds => if w = true then rListR ds S Q else rListV ds S Q
theorem rdk_keys {K : PySem.W.Frag} {G : Addr → Prop} {S : HD} {H : Hp} : ∀ {kds : List (D × D)} {kvs : List (Key × V)}, RDk K G S H kds kvs → RDs K G S H (kds.map (·.1)) (kvs.map fun kv => kV kv.1)
  | _, _, .nil => .nil
  | _, _, @RDk.cons _ _ _ _ k _ _ _ _ _ r => .cons (match k with | .inl i => .int i | .inr x => .str x) (rdk_keys r)
theorem call_listW (hc : X.calm = true) (w : Bool) : CallRD X (.type "list") (rListW w) := by
  intro pins s σ H vs us ds G S Qd Q I rv rd rh t p
  unfold rListW at t
  split at t
  · rename_i a
    split at t
    · rename_i kds e
      obtain ⟨_, _, kvs, e1, r⟩ := rh.hp a _ e
      cases rd with
      | cons q1 r1 =>
        cases r1
        cases q1
        refine call_list_dK hc pins s σ H _ us Q I rv ⟨a, kvs, rfl, e1, fun q hq => ?_⟩
        cases w with
        | true => exact p.newR rh (rdk_keys r) (by simpa using t) hq
        | false => exact p.newL rh (rdk_keys r) (by simpa using t) hq
    · cases w with
      | true => exact call_listR pins s σ H vs us _ G S Qd Q I rv rd rh (by simpa using t) p
      | false => exact call_listV pins s σ H vs us _ G S Qd Q I rv rd rh (by simpa using t) p
  · cases w with
    | true => exact call_listR pins s σ H vs us _ G S Qd Q I rv rd rh (by simpa using t) p
    | false => exact call_listV pins s σ H vs us _ G S Qd Q I rv rd rh (by simpa using t) p
/-! ### len(set(xs)) of whole numbers -/
/-- the items that are met first -/
def dist (ns : List Int) : List Int := ns.foldl (fun acc n => if acc.any (· == n) then acc else acc ++ [n]) []
theorem firstMet_fold (ns : List Int) : ∀ i, i ≤ ns.length → PyProof.Rows.firstMet (fun i => ns.getD i 0) i = dist (ns.take i)
  | 0, _ => rfl
  | i + 1, hi => by
    have hlt : i < ns.length := hi
    have e1 : ns.getD i 0 = ns[i] := by
      rw [List.getD_eq_getElem?_getD, List.getElem?_eq_getElem hlt] <;> rfl
    have e2 : ns.take (i + 1) = ns.take i ++ [ns[i]] := by
      rw [List.take_add_one, List.getElem?_eq_getElem hlt] <;> rfl
    have ih := firstMet_fold ns i (Nat.le_of_lt hlt)
    rw [PyProof.Rows.firstMet_succ, ih, e2]
    unfold dist
    rw [List.foldl_append, List.foldl_cons, List.foldl_nil, e1]
    rfl
def tLenSetD (te : TED) : TED := fun σ S Q => te σ S fun x S1 => match asLst S1 x with
  | some xs => (match intsOf xs with
    | some ns => ns.length ≤ 4000 ∧ Q (.int ((dist ns).length : Nat)) S1
    | none => False)
  | none => False
def tLenSetV (K : PySem.W.Frag) (ta : TE) : TE := fun σ H Q => ta σ H fun x H1 => ∃ (l : Addr) (ns : List Int), x = .ref l ∧ SqL K H1 l (ns.map V.int) ∧ ns.length ≤ 4000 ∧ Q (.int ((dist ns).length : Nat)) H1
theorem dist_le (ns : List Int) : (dist ns).length ≤ ns.length := by
  have key : ∀ (ns acc : List Int), (ns.foldl (fun acc n => if acc.any (· == n) then acc else acc ++ [n]) acc).length ≤ acc.length + ns.length := by
    intro ns
    induction ns with
    | nil => intro acc; simp
    | cons n ns ih =>
      intro acc
      rw [List.foldl_cons]
      refine Nat.le_trans (ih _) ?_
      split <;> simp <;> omega
  have := key ns []
  rw [List.length_nil, Nat.zero_add] at this
  exact this
theorem pe_lenSetV {a : Expr} {ta : TE} {p p2 q pos : Pos} (hg : Gl X "len") (hm : X.mg "len" = none) (hg2 : Gl X "set") (hm2 : X.mg "set" = none) (ha : PE X a ta) (hc : X.calm = true := by rfl)
    (na : starEach [a] X.env = (false, eval a X.env) :: starEach [] X.env := by rfl) : PE X (.Call (.Name "len" p) [.Call (.Name "set" p2) [a] [] q] [] pos) (tLenSetV X.K ta) := by
  refine ⟨fun pins s σ H Q I h => ?_⟩
  refine Call_ (ld_blt I hg hm boot_len ?_)
  refine PyProof.Rows.callWith_builtin1 (PyProof.Rows.args_cons ?_ rfl) rfl rfl
  refine Call_ (ld_blt I hg2 hm2 boot_set ?_)
  refine PyProof.Rows.callWith_type1 (PyProof.Rows.args_cons (thn (ha.run pins s σ H _ I h) fun v s1 ⟨x, H1, I1, r1, q1⟩ => PyProof.Rows.args_nil ?_) na) na rfl
  obtain ⟨l, ns, rfl, hq, hl, q1⟩ := q1
  cases r1
  obtain ⟨its, r, pl, hz⟩ := I1.list hq
  have hlen : its.toArray.size = ns.length := by rw [List.size_toArray, ← r.length, List.length_map]
  refine call_set_list (I1.ok.hd hc) pl.isList (by simpa using RZ.intsAre_vals r) (by rw [hlen]; unfold scanBound; omega) fun h' tk hS hk => ?_
  refine PyProof.Rows.args_nil ?_
  rw [hlen, firstMet_fold ns ns.length (Nat.le_refl _), List.take_length] at hS
  obtain ⟨o, es, ep, t, ho, hex, hd, _, _, _, hf, hn⟩ := hS
  have I2 : Inv X pins σ H1 { s1 with heap := h', toks := tk } := I1.kept fun b o e => hk b o (Heap.lt_size e) e
  have := dist_le ns
  exact call_len_set ho hex hd hf (by rw [hn] <;> omega) ⟨.int (dist ns).length, H1, I2.tok _, ⟨_, by rw [hn]⟩, q1⟩
theorem de_lenSet {a : Expr} {ta : TED} {p p2 q pos : Pos} (hm : X.mg "len" = none) (hm2 : X.mg "set" = none) (ha : DE X a ta) (hg : Gl X "len" := by rfl) (hg2 : Gl X "set" := by rfl) (hc : X.calm = true := by rfl)
    (na : starEach [a] X.env = (false, eval a X.env) :: starEach [] X.env := by rfl) : DE X (.Call (.Name "len" p) [.Call (.Name "set" p2) [a] [] q] [] pos) (tLenSetD ta) :=
  (pe_lenSetV hg hm hg2 hm2 ha hc na).imp fun σ H Q ⟨G, σd, S, Qd, rs, rh, t, p⟩ => ⟨G, σd, S, _, rs, rh, t, fun S1 d v H1 f1 rh1 q1 t1 => by
    split at t1
    · rename_i xs e
      split at t1
      · rename_i ns e2
        obtain ⟨a, ws, rfl, l, r⟩ := asLst_ok rh1 e q1
        rw [intsOf_eq e2] at r
        rw [rds_ints r] at l
        exact ⟨a, ns, rfl, l, t1.1, (p.fl f1).here rh1 (.int _) t1.2⟩
      · exact t1.elim
    · exact t1.elim⟩
end
end PD
end

section
/-! PD34: telling otherwise ahead of a statement; {} of any kind; a module's tuples; unpacking lists. -/
namespace PD
open PySem PySem.Spec PyProof.Rows L2
/-- the same slots, told otherwise -/
def CvS (σ : SD) (S : HD) (σ' : SD) (S' : HD) : Prop := ∀ (K : PySem.W.Frag) (G : Addr → Prop) (H : Hp) (τ : L2.St), RH K G S H → RSl K G S H σ τ → RH K G S' H ∧ FL S H S' H ∧ RSl K G S' H σ' τ
theorem CvS.refl (σ : SD) (S : HD) : CvS σ S σ S := fun _ _ _ _ r s => ⟨r, .refl _ _, s⟩
theorem CvS.trans {σ σ1 σ2 : SD} {S S1 S2 : HD} (a : CvS σ S σ1 S1) (b : CvS σ1 S1 σ2 S2) : CvS σ S σ2 S2 := fun K G H τ r s =>
  let ⟨r1, f1, s1⟩ := a K G H τ r s; let ⟨r2, f2, s2⟩ := b K G H τ r1 s1; ⟨r2, f1.trans f2, s2⟩
theorem CvS.slot {σ : SD} {S S' : HD} {i : Nat} {d d' : D} (h : gt σ i = some d) (c : Cv d S d' S') : CvS σ S (st σ i d') S' := fun K G H τ r s => by
  obtain ⟨v, h1, h2⟩ := s.sl i d (gt_some h)
  obtain ⟨r', f', q'⟩ := c K G H v r h2
  refine ⟨r', f', ?_⟩
  have s' := (s.fl f').set q' i
  rw [st_eq]
  have e : τ.set i (some v) = τ := by
    apply List.ext_getElem?
    intro j
    by_cases hj : i = j
    · subst hj
      have hi : i < τ.length := (List.getElem?_eq_some_iff.mp h1).1
      rw [List.getElem?_set_self hi, h1]
    · rw [List.getElem?_set_ne hj]
  rw [e] at s'
  exact s'
theorem CvS.frz {σ : SD} {S : HD} {i : Nat} {a : Addr} {xs : List D} (h : gt σ i = some (.ref a)) (e : S.hp a = some (.lst xs)) : CvS σ S (st σ i (.lst xs)) (S.del a) := CvS.slot h (Cv.frz e)
theorem CvS.frzD {σ : SD} {S : HD} {i : Nat} {a : Addr} {xs : List (D × D)} (h : gt σ i = some (.ref a)) (e : S.hp a = some (.dic xs)) : CvS σ S (st σ i (.dic xs)) (S.del a) := CvS.slot h (Cv.frzD e)
def sCvD (t : TSD) : TSD := fun D σ S => ∃ σ' S', CvS σ S σ' S' ∧ t D σ' S'
theorem ds_cv {X : Cx} {s : Stmt} {t : TSD} (h : DS X s t) : DS X s (sCvD t) :=
  h.imp fun D σ H ⟨G, σd, S, Dd, rs, rh, ⟨σ', S', cv, t⟩, p⟩ => let ⟨rh', f', rs'⟩ := cv _ _ _ _ rh rs; ⟨G, σ', S', Dd, rs', rh', t, p.fl f'⟩
section
variable {X : Cx} {pos : Pos} {o i e : Expr}
/-- {} with keys that are tuples -/
def tDicT (w : World) : TED := fun _ S Q => ∀ p, S.hp p = none → Q (.ref p) (S.set p (.dct w []))
theorem pe_dnewTT : PE X (.Dict [] [] pos) (fun _ H Q => ∀ p, H p = none → Q (.ref p) (upd H p (.ext (RawT X.w p [])))) := ⟨fun pins s σ H Q I h => by
  have hd : (s.heap.objs.size == sysModules) = false := beq_eq_false_iff_ne.mpr (Ne.symm (Nat.ne_of_lt I.big))
  exact wpAny_Dict_empty ⟨.ref s.heap.objs.size, _, I.laid (a := s.heap.objs.size) (o := .ext (RawT X.w s.heap.objs.size [])) (t' := s.toks) (fun _ _ q => Heap.get?_push_of_some _ q) (Nat.le_refl _)
    (raw_ok (P := X.prog) hd (Nat.zero_le _) (Heap.DictOfH.new s.heap)), rfl, h _ (I.hok.fresh (Nat.le_refl _))⟩⟩
theorem de_dicT : DE X (.Dict [] [] pos) (tDicT X.w) := pe_dnewTT.imp fun σ H Q ⟨G, σd, S, Qd, rs, rh, t, p⟩ => fun q hq => by
  obtain ⟨r', f'⟩ := rh.newR (o := .dct X.w []) (ho := .ext (RawT X.w q [])) hq ⟨[], upd_same, .nil⟩
  exact p _ _ _ _ f' r' (.ref q) (t q (rh.fresh hq).1)
def tDicW (w : World) : TED := fun σ S Q => tDicR σ S Q ∨ tDicT w σ S Q
theorem de_dicW : DE X (.Dict [] [] pos) (tDicW X.w) := ⟨fun pins s σ H Q I ⟨G, σd, S, Qd, rs, rh, t, p⟩ => t.elim (fun t => de_dicR.run pins s σ H Q I ⟨G, σd, S, Qd, rs, rh, t, p⟩) fun t => de_dicT.run pins s σ H Q I ⟨G, σd, S, Qd, rs, rh, t, p⟩⟩
/-! ### a module's tuple of flat items -/
def relB : D → Value → Bool
  | .non, .none => true
  | .bl b, .bool c => b == c
  | .int i, .int j _ => i == j
  | .str x, .str y _ => x == y
  | _, _ => false
def relsB : List D → List Value → Bool
  | [], [] => true
  | d :: ds, v :: vs => relB d v && relsB ds vs
  | _, _ => false
theorem relB_ok {K : PySem.W.Frag} {G : Addr → Prop} {S : HD} {H : Hp} : ∀ {d : D} {u : Value}, relB d u = true → RD K G S H d (toV d) ∧ RelV (toV d) u := by
  intro d u h
  cases d <;> cases u <;> first | cases h | skip
  · exact ⟨.non, rfl⟩
  · have e := eq_of_beq (show (_ == _) = true from h); subst e; exact ⟨.bl _, rfl⟩
  · have e := eq_of_beq (show (_ == _) = true from h); subst e; exact ⟨.int _, _, rfl⟩
  · have e := eq_of_beq (show (_ == _) = true from h); subst e; exact ⟨.str _, _, rfl⟩
theorem relsB_ok {K : PySem.W.Frag} {G : Addr → Prop} {S : HD} {H : Hp} : ∀ {ds : List D} {us : List Value}, relsB ds us = true → RDs K G S H ds (ds.map toV) ∧ Vals (ds.map toV) us
  | [], [], _ => ⟨.nil, .nil⟩
  | d :: ds, v :: vs, h => by
    have h' : (relB d v && relsB ds vs) = true := h
    rw [Bool.and_eq_true] at h'
    obtain ⟨a1, a2⟩ := relB_ok (K := K) (G := G) (S := S) (H := H) h'.1
    obtain ⟨b1, b2⟩ := relsB_ok (K := K) (G := G) (S := S) (H := H) h'.2
    exact ⟨.cons a1 b1, .cons a2 b2⟩
  | [], _ :: _, h => by cases h
  | _ :: _, [], h => by cases h
def KTD (K : PySem.W.Frag) (a : Addr) (ds : List D) : Prop := ∀ G S H, RD K G S H (.tup ds) (.ref a)
theorem ktd_mk {K : PySem.W.Frag} {a : Addr} {its : Array Value} {n : Nat} {dd : Option Addr} {sl : Array (Option Value)} {ds : List D} (l : K.lookup a = some ⟨.type "tuple", dd, .seq its n, sl⟩) (hz : its.size ≤ sizeLine) (h : relsB ds its.toList = true) : KTD K a ds := fun G S H =>
  let ⟨h1, h2⟩ := relsB_ok (K := K) (G := G) (S := S) (H := H) h
  .tup (.inr ⟨_, its, n, l, rfl, rfl, hz, h2⟩) h1
structure TupC (K : PySem.W.Frag) (mg : Str → Option Value) (x : Str) (ds : List D) : Prop where
  ex : ∃ a, mg x = some (.ref a) ∧ KTD K a ds
theorem tupC_mk {K : PySem.W.Frag} {h : Heap} {mg : Str → Option Value} (X : K.In h) (G : h.Ns mainGlobals mg) {x : Str} {a : Addr} {its : Array Value} {n : Nat} {dd : Option Addr} {sl : Array (Option Value)} {ds : List D}
    (y : PySem.W.nsIn K mainGlobals x = some (some (.ref a))) (l : K.lookup a = some ⟨.type "tuple", dd, .seq its n, sl⟩) (hz : decide (its.size ≤ sizeLine) = true) (h : relsB ds its.toList = true) : TupC K mg x ds := ⟨⟨a, PySem.W.mg_of X G y, ktd_mk l (of_decide_eq_true hz) h⟩⟩
theorem de_gT {x : Str} {ds : List D} (h : TupC X.K X.mg x ds) (hg : Gl X x := by rfl) (hd : (x == ("__debug__" : Str)) = false := by decide) : DE X (.Name x pos) (tCD (.tup ds)) := by
  obtain ⟨a, hm, k⟩ := h.ex
  exact de_c (pe_glob (v := .ref a) hg hm rfl hd) fun G S H => k G S H
/-! ### (a, b, ..) = a list or a tuple -/
def gSeqD (n : Nat) (t : TGsD) : TGD := fun d σ S Q => match asSeq S d with
  | some ds => ds.length = n ∧ t ds σ S Q
  | none => False
theorem dg_seq {es : List Expr} {k : Nat} {t : TGsD} {n : Nat} (hc : X.calm = true) (h : DGs X es t)
    (hn : (assignEach es X.env).length = n := by rfl) (hst : (assignEach es X.env).findIdx? (·.1) = none := by rfl) : DG X (.Tuple es k pos) (gSeqD n t) :=
  ⟨fun pins s σ H v u Q I r ⟨G, σd, S, d, Qd, rs, rh, q, tt, p⟩ => by
    unfold gSeqD at tt
    split at tt
    · rename_i ds e
      obtain ⟨a, vs, rfl, l, rr⟩ := asSeq_ok rh e q
      rcases l with l | l
      · exact (pg_unl hc h hn hst).run pins s σ H _ u Q I r ⟨a, vs, rfl, l, rr.length ▸ tt.1, G, σd, S, _, _, rs, rh, rr, tt.2, p⟩
      · exact (pg_tup hc h hn hst).run pins s σ H _ u Q I r ⟨a, vs, rfl, l, rr.length ▸ tt.1, G, σd, S, _, _, rs, rh, rr, tt.2, p⟩
    · exact tt.elim⟩
end
end PD
end

section
/-! PD35: raise, try .. except X .. of own classes without own __init__; defs that raise. -/
namespace PD
open PySem PySem.Spec PyProof.Rows L2
/-- an own class of errors -/
structure ExcC (K : PySem.W.Frag) (mg : Str → Option Value) (x : Str) (C : Addr) : Prop where
  gC : mg x = some (.ref C)
  kC : PySem.W.keepIn K (.ref C) = true
  q : ∃ (B newId initId : String) (bmB : List Value), ExcBaseFacts B newId initId bmB ∧ PySem.W.excIn K C bmB newId = true
  sub : PySem.W.subIn K (.ref C) (.type "BaseException") = some true
  ty : PySem.W.typeIn K (.ref C) = some (.type "type")
section
variable {X : Cx} {C : Addr} {bmB : List Value} {B newId initId : String}
theorem pmk_own0 {x : Str} {p pos : Pos} (F : ExcBaseFacts B newId initId bmB) (q : PySem.W.excIn X.K C bmB newId = true) (gC : X.mg x = some (.ref C)) (kC : PySem.W.keepIn X.K (.ref C) = true) (r : Raises X (.ref C)) (hg : Gl X x)
    (hdb : (x == ("__debug__" : Str)) = false := by decide) : PMk X (.Call (.Name x p) [] [] pos) (fun _ H Q => Q (.ref C) none H) := by
  intro pins s σ H Q I h
  refine wpAny_Call_Name_kw (ld_glob I hg gC ?_ hdb)
  refine PySem.W.callWith_K0 I.kIn kC ?_
  obtain ⟨bm, N, nm, qn, bs, hdct, sn, sub, ab, col, dd, k0, k1, k2, k3, k5, mN, hC, hN, hni, T⟩ := exc_obj I.kIn q
  refine wpAny_call_exc_subT F T hC hN hni (fun h' e hm => ?_) (by show 0 ≤ sizeLine; exact Nat.zero_le _)
  exact mk_of I hm r h (I.hok.gone hm.new)
end
def sRaiseD (C : Addr) : TSD := fun D σ S => D.xr C σ S
theorem ds_raise {X : Cx} {x : Str} {C : Addr} {p pos pos' : Pos} (e : ExcC X.K X.mg x C) (hc : X.calm = true := by rfl) (hg : Gl X x := by rfl) (hdb : (x == ("__debug__" : Str)) = false := by decide) :
    DS X (.Raise (some (.Call (.Name x p) [] [] pos)) none pos') (sRaiseD C) :=
  let ⟨_, _, _, _, F, q⟩ := e.q
  (ps_raise hc (takes_wx X) (pmk_own0 F q e.gC e.kC (raises_own e.sub e.ty) hg hdb)).imp fun D σ H ⟨G, σd, S, Dd, rs, rh, t, p⟩ => p.xr C S σd σ H (.refl _ _) rh rs t
/-! ### defs that raise -/
abbrev XD := Addr → HD → Prop
abbrev SpX := List D → HD → QD → XD → Prop
def CEX (K : PySem.W.Frag) (G : Addr → Prop) (S : HD) (H : Hp) (Xd : XD) : XK := fun cls d H' => ∃ C S', cls = .ref C ∧ d = none ∧ FL S H S' H' ∧ RH K G S' H' ∧ Xd C S'
structure FnX (P : Program) (w : World) (K : PySem.W.Frag) (mg : Str → Option Value) (base : Heap) (k : Nat) (f : Addr) (fd : FuncData) (ps : List Str) (sp : SpX) : Prop where
  len : ∀ ds S Q Y, sp ds S Q Y → ds.length = ps.length
  run : ∀ (A : Around) (outer : List Env) (s : Shared) (H : Hp) (args : Args) (us : List Value) (vs : List V) (ds : List D) (G : Addr → Prop) (S : HD) (Qd : QD) (Xd : XD), RoomG k A → Env0 P w K mg base A outer s H →
    BindsTo s fd args (ps.zip us) → Vals vs us → RDs K G S H ds vs → RH K G S H → sp ds S Qd Xd → codeAny (model P w) A (.call (.ref f) args) (CR (L2.CX P w) outer P w H s (CED K G S H Qd) (CEX K G S H Xd)) s
theorem FnX.mono {P : Program} {w : World} {K : PySem.W.Frag} {mg : Str → Option Value} {base : Heap} {j k : Nat} {f : Addr} {fd : FuncData} {ps : List Str} {sp : SpX} (F : FnX P w K mg base j f fd ps sp) (h : j ≤ k) : FnX P w K mg base k f fd ps sp :=
  ⟨F.len, fun A outer s H args us vs ds G S Qd Xd hr => F.run A outer s H args us vs ds G S Qd Xd (hr.mono h)⟩
structure HasX (P : Program) (w : World) (K : PySem.W.Frag) (mg : Str → Option Value) (base : Heap) (k : Nat) (x : Str) (ps : List Str) (sp : SpX) : Prop where
  ex : ∃ f fd, mg x = some (.ref f) ∧ PySem.W.keepIn K (.ref f) = true ∧ Binds K fd ps [] ∧ FnX P w K mg base k f fd ps sp
theorem HasX.mono {P : Program} {w : World} {K : PySem.W.Frag} {mg : Str → Option Value} {base : Heap} {j k : Nat} {x : Str} {ps : List Str} {sp : SpX} (h : HasX P w K mg base j x ps sp) (l : j ≤ k) : HasX P w K mg base k x ps sp :=
  let ⟨f, fd, a, b, c, d⟩ := h.ex; ⟨f, fd, a, b, c, d.mono l⟩
/-- an expression that may raise -/
abbrev TEX := SD → HD → QD → XD → Prop
def upX (X : Cx) (t : TEX) : TE := fun σ H Q => ∃ G σd S Qd Xd, RSl X.K G S H σd σ ∧ RH X.K G S H ∧ t σd S Qd Xd ∧ Post X.K G S H Qd Q ∧ ∀ C S' H', FL S H S' H' → RH X.K G S' H' → Xd C S' → WXof X (.ref C) none σ H'
abbrev DEX (X : Cx) (e : Expr) (t : TEX) : Prop := PE X e (upX X t)
def tCallX (sp : SpX) (ta : TAD) : TEX := fun σ S Q Y => ta σ S fun ds S1 => sp ds S1 Q Y
section
variable {X : Cx} {k : Nat} {f : Addr} {fd : FuncData} {ps : List Str} {sp : SpX} {x : Str} {p pos : Pos} {e : Expr} {es : List Expr} {ta : TAD}
theorem run_fnX {pins : List (Addr × Obj)} {σ : L2.St} {H : Hp} {s : Shared} {us : List Value} {vs : List V} {ds : List D} {G : Addr → Prop} {S : HD} {Qd : QD} {Xd : XD} {Q : VK}
    (F : FnX X.prog X.w X.K X.mg X.base k f fd ps sp) (hr : RoomG k X.A) (hb : Binds X.K fd ps []) (I : Inv X pins σ H s) (r : Vals vs us) (q : RDs X.K G S H ds vs) (rh : RH X.K G S H) (h : sp ds S Qd Xd) (p : Post X.K G S H Qd Q)
    (y : ∀ C S' H', FL S H S' H' → RH X.K G S' H' → Xd C S' → WXof X (.ref C) none σ H') :
    wpAny (model X.prog X.w) X.A (call (.ref f) us) (EP X pins σ Q) X.xe s := by
  have hl : us.length = ps.length := by
    have h1 := F.len _ _ _ _ h
    have h2 := q.length
    have h3 := r.length
    omega
  have hb' := hb s us I.kIn (by rw [List.append_nil]; exact hl)
  rw [List.append_nil] at hb'
  refine wpAny_call (codeAny_mono (F.run X.A X.stack s H ⟨us, []⟩ us vs ds G S Qd Xd hr I.env0 hb' r q rh h) fun z s' hq => ?_)
  cases z with
  | error e =>
    have hq : L2.CX X.prog X.w X.stack H s (CEX X.K G S H Xd) e s' := hq
    refine takes_wx X e s' (XE.of_call I (fun cls d H' hx => ?_) hq)
    obtain ⟨C, S', rfl, rfl, f1, rh1, q1⟩ := hx
    exact y C S' H' f1 rh1 q1
  | ok fl =>
    cases fl with
    | ret u =>
      have hq' : CE X.stack X.prog X.w H s Q u s' := by
        obtain ⟨v, H', h1, h2, h3, h4, h5, S', d, f', rh', rd', qd⟩ := hq
        exact ⟨v, H', h1, h2, h3, h4, h5, p S' d v H' f' rh' rd' qd⟩
      exact I.after hq'
    | next => exact False.elim hq
    | brk => exact False.elim hq
    | cont => exact False.elim hq
theorem de_callX (h : HasX X.prog X.w X.K X.mg X.base k x ps sp) (hr : RoomG k X.A) (ha : DA X (e :: es) ta) (hg : Gl X x := by rfl) (hdb : (x == ("__debug__" : Str)) = false := by decide)
    (he : starEach (e :: es) X.env = (false, eval e X.env) :: starEach es X.env := by rfl) (hpl : (backTo pos (starEach es X.env)).any (·.1) = false := by rfl) :
    DEX X (.Call (.Name x p) (e :: es) [] pos) (tCallX sp ta) := by
  obtain ⟨f, fd, hm, hk, hb, F⟩ := h.ex
  refine ⟨fun pins s σ H Q I ⟨G, σd, S, Qd, Xd, rs, rh, t, p, y⟩ => ?_⟩
  refine wpAny_Call_Name_kw (ld_glob I hg hm ?_ hdb)
  have hA := ha.run pos pins s σ H (fun vs H1 => ∃ S1 ds, FL S H S1 H1 ∧ RH X.K G S1 H1 ∧ RDs X.K G S1 H1 ds vs ∧ sp ds S1 Qd Xd) I ⟨G, σd, S, _, rs, rh, t, fun S1 ds vs H1 f1 rh1 q1 t1 => ⟨S1, ds, f1, rh1, q1, t1⟩⟩
  refine PySem.W.callWith_K (h₀ := X.base) I.ok.mod.kin hk ?_ he hpl
  refine thn hA fun us s1 hus => ?_
  obtain ⟨vs, H1, I1, r, S1, ds, f1, rh1, q1, t1⟩ := hus
  exact ⟨I1.kIn, run_fnX F hr hb I1 r q1 rh1 t1 (p.fl f1) fun C S' H' f2 rh2 q2 => y C S' H' (f1.trans f2) rh2 q2⟩
end
section
variable {X : Cx} {e : Expr} {te : TEX} {pos : Pos}
def sRetX (te : TEX) : TSD := fun D σ S => te σ S D.rt fun C S' => D.xr C σ S'
theorem ds_retX (he : DEX X e te) : DS X (.Return (some e) pos) (sRetX te) :=
  (ps_ret he).imp fun D σ H ⟨G, σd, S, Dd, rs, rh, t, p⟩ => ⟨G, σd, S, _, _, rs, rh, t, p.rt, fun C S' H' f1 rh1 q1 => p.xr C S' σd σ H' f1 rh1 (rs.fl f1) q1⟩
def sDropX (te : TEX) : TSD := fun D σ S => te σ S (fun _ S1 => D.nx σ S1) fun C S' => D.xr C σ S'
theorem ds_exprX (he : DEX X e te) (hs : swapsWith e none pos.line X.env = pure false := by rfl) : DS X (.Expr e pos) (sDropX te) :=
  (ps_expr he hs).imp fun D σ H ⟨G, σd, S, Dd, rs, rh, t, p⟩ => ⟨G, σd, S, _, _, rs, rh, t, fun S1 d v H1 f1 rh1 q1 t1 => p.nx S1 σd σ H1 f1 rh1 (rs.fl f1) t1, fun C S' H' f1 rh1 q1 => p.xr C S' σd σ H' f1 rh1 (rs.fl f1) q1⟩
end
/-! ### a def that raises, by its body -/
def finX (Y : XD) : XD := fun C S => ∃ S', Cv .non S .non S' ∧ Y C S'
theorem finX.le {Y : XD} {C : Addr} {S S' : HD} (l : HLe S S') (q : Y C S) : finX Y C S' := ⟨S, .le l, q⟩
section
variable {P : Program} {w : World} {K : PySem.W.Frag} {mg : Str → Option Value} {base : Heap}
theorem FnX.of {x qual : Str} {st : Stmt} {f : Addr} {fd : FuncData} {N ps : List Str} {k : Nat} {sp : SpX} (F : Fun K x qual st f fd) (Sc : FnScope N ps (defScope st)) (t : TSD) (len : ∀ ds S Q Y, sp ds S Q Y → ds.length = ps.length)
    (hd : ∀ (cdv : Value) (A : Around) (outer : List Env) (s : Shared) (H : Hp) (E : XK), RoomG k (A.deeper (envOfC qual (defScope st) s.heap.objs.size f cdv)) →
      DSs (cxOf (L2.CX P w) P w K mg base N qual (defScope st) f cdv A outer s H E) (defBody st) t)
    (hq : ∀ ds S Qd Xd, sp ds S Qd Xd → t { nx := fun _ S' => fin Qd .non S', rt := fin Qd, xr := fun C _ S' => finX Xd C S' } (pad N.length ds) S) : FnX P w K mg base (k + 1) f fd ps sp := by
  obtain ⟨oc, od, kV, doc, pm, an, cdv, ct, osl, rfl, lk, hcd⟩ := F.ex
  refine ⟨len, fun A outer s H args us vs ds G S Qd Xd hr e0 hb r rd rh hsp => ?_⟩
  have hl : vs.length = ps.length := rd.length.symm.trans (len _ _ _ _ hsp)
  have KX : K.In s.heap := e0.mod.kin.keeps fun b o e => (e0.bs b o e).1
  have lim : s.heap.NoLimit := e0.mod.nolimit.keeps fun b o e => (e0.bs b o e).1
  refine codeAny_call_function hr.rm.depth (KX _ _ lk) rfl Sc.co Sc.gen rfl (PySem.W.codeRec_of KX hcd) (hb _ _ _ _ ?_)
  have hkind : ∀ y ∈ ps.zip us, (defScope st).names.lookup y.1 = some .local ∨ ((defScope st).names.lookup y.1 = some .cell ∧ ((cellsFrom (s.heap.objs.size + 1) (defScope st).names []).lookup y.1).isSome = true) := by
    rintro ⟨n, v⟩ hy
    exact (Sc.par n (List.of_mem_zip hy).1).imp id fun q => ⟨q, PySem.W.cellsFrom_some _ _ _ (.inl q)⟩
  refine wpAny_newFunctionEnv_cells Sc.kind hkind fun env he s1 x1 => ?_
  subst he
  refine ⟨lim.keeps x1.toInCall.keep, codeAny_func ?_⟩
  have I := inv_start (CX := L2.CX P w) (E := CEX K G S H Xd) Sc hr.rm.hd e0 hl r x1
  have ht := hd cdv A outer s H (CEX K G S H Xd) (hr.deeper _)
  have hq0 := hq ds S Qd Xd hsp
  have start_ok : RSl K G S H (pad N.length ds) (L2.start N vs) := by
    refine ⟨?_, fun i d e => ?_⟩
    · rw [pad_len]
      unfold L2.start
      have hpl : ps.length ≤ N.length := by have := congrArg List.length Sc.pre; rw [List.length_take] at this; omega
      simp
      omega
    · obtain ⟨v, h1, h2⟩ := pad_slots rd e
      refine ⟨v, ?_, h2⟩
      unfold L2.start
      have hi : i < vs.length := (List.getElem?_eq_some_iff.mp h1).1
      rw [List.getElem?_append_left (by simpa using hi), List.getElem?_map, h1]
      rfl
  have tk := takes_of (X := cxOf (L2.CX P w) P w K mg base N qual (defScope st) f cdv A outer s H (CEX K G S H Xd)) rfl rfl rfl (E := CEX K G S H Xd) rfl
  refine wpAny_mono (ht.run [] s1 (L2.start N vs) H { nx := fun _ H' => CED K G S H Qd .non H', rt := CED K G S H Qd } I ⟨G, _, S, _, start_ok, rh, hq0, ?_, ?_, ?_, ?_, ?_⟩) (fun fl s' hs => ?_) fun e s' hs => hs
  · exact fun S' σd σ H' f' rh' rs' ⟨S2, d2, cv, q⟩ => let ⟨r2, f2, q2⟩ := cv K G H' .non rh' .non; ⟨S2, d2, f'.trans f2, r2, q2, q⟩
  · exact fun S' d v H' f' rh' rd' ⟨S2, d2, cv, q⟩ => let ⟨r2, f2, q2⟩ := cv K G H' v rh' rd'; ⟨S2, d2, f'.trans f2, r2, q2, q⟩
  · exact fun S' σd σ H' f' rh' rs' q => q.elim
  · exact fun S' σd σ H' f' rh' rs' q => q.elim
  · exact fun C S' σd σ H' f' rh' rs' ⟨S2, cv, q⟩ => wx_le tk (let ⟨r2, f2, _⟩ := cv K G H' .non rh' .non; ⟨C, S2, rfl, rfl, f'.trans f2, r2, q⟩)
  · cases fl with
    | ret u =>
      obtain ⟨v, σ', H', J, rv, q⟩ := hs
      exact ⟨v, H', J.os, J.bare, J.base, J.hok, rv, q⟩
    | next =>
      obtain ⟨σ', H', J, q⟩ := hs
      exact ⟨V.non, H', J.os, J.bare, J.base, J.hok, rfl, q⟩
    | brk => obtain ⟨_, _, _, q⟩ := hs; exact False.elim q
    | cont => obtain ⟨_, _, _, q⟩ := hs; exact False.elim q
theorem HasX.of {x : Str} {st : Stmt} {f : Addr} {fd : FuncData} {ps : List Str} {k : Nat} {sp : SpX} (F : Fun K x x st f fd) (hm : mg x = some (.ref f)) (hb : Binds K fd ps []) (h : FnX P w K mg base k f fd ps sp) : HasX P w K mg base k x ps sp :=
  ⟨⟨f, fd, hm, F.kp, hb, h⟩⟩
end
/-! ### try -/
def noX (D : EndsD) : EndsD := { nx := D.nx, rt := D.rt, bk := D.bk, ct := D.ct, xr := fun _ _ _ => False }
/-- the clauses, one after the other -/
def hdlD (m : Addr → Addr → Option Bool) (D : EndsD) : List (Addr × TSD) → Addr → SD → HD → Prop
  | [], C, σ, S => D.xr C σ S
  | (c, t) :: r, C, σ, S => match m C c with
    | some true => t (noX D) σ S
    | some false => hdlD m D r C σ S
    | none => False
def sTryD (m : Addr → Addr → Option Bool) (tb : TSD) (hs : List (Addr × TSD)) : TSD := fun D σ S => tb { nx := D.nx, rt := D.rt, bk := D.bk, ct := D.ct, xr := hdlD m D hs } σ S
def exm (K : PySem.W.Frag) (C c : Addr) : Option Bool := PySem.W.exmOne K (.ref C) (.ref c)
def upT' (K : PySem.W.Frag) (hs : List (Addr × TSD)) : List (Value × (Addr → Value → Option Addr → TS)) := hs.map fun q => (.ref q.1, fun _ _ _ => upS K (fun _ _ _ _ => False) q.2)
inductive HdsD (X : Cx) : List ExceptHandler → List (Addr × TSD) → Prop
  | nil : HdsD X [] []
  | cons {x : Str} {c : Addr} {t : TSD} {b₀ : Stmt} {suite : List Stmt} {np pos' : Pos} {hds : List ExceptHandler} {l : List (Addr × TSD)} (hc : L2.Names X x (.ref c)) (hsu : ∀ a pn, DSs (X.suite a pn) (b₀ :: suite) t) (r : HdsD X hds l) :
      HdsD X (.ExceptHandler (some (.Name x np)) none (b₀ :: suite) pos' :: hds) ((c, t) :: l)
theorem HdsD.ok {X : Cx} : ∀ {hds : List ExceptHandler} {l : List (Addr × TSD)}, HdsD X hds l → L2.HdsOk X hds (upT' X.K l)
  | _, _, .nil => .nil
  | _, _, .cons hc hsu r => .cons hc (fun a oe cls d pn _ _ => (hsu a ((a, oe) :: pn)).imp fun D σ H ⟨G, σd, S, Dd, rs, rh, t, p⟩ => ⟨G, σd, S, Dd, rs, rh, t, p.nx, p.rt, p.bk, p.ct, fun C S' σd σ H' f rh rs q => (p.xr C S' σd σ H' f rh rs q).elim⟩) r.ok
theorem ds_try {X : Cx} {body : List Stmt} {h₀ : ExceptHandler} {hds : List ExceptHandler} {l : List (Addr × TSD)} {pos : Pos} {tb : TSD} (hb : ∀ pn xe, PassesOwn (model X.prog X.w) X.A X.env xe → DSs (X.tr pn xe) body tb) (hh : HdsD X (h₀ :: hds) l)
    (hs : X.stack = X.env :: X.outer := by rfl) (hf : X.env.frame = some X.env.locals := by rfl) : DS X (.Try body (h₀ :: hds) [] [] pos) (sTryD (exm X.K) tb l) := by
  refine (ps_try_many (tb := fun W => upS X.K W tb) hs hf (takes_wx X) (fun W pn xe tk po => (hb pn xe po).imp fun D σ H ⟨G, σd, S, Dd, rs, rh, t, p⟩ => ⟨G, σd, S, Dd, rs, rh, t, p.nx, p.rt, p.bk, p.ct, fun C S' σd σ H' f rh rs q => wx_le tk (p.xr C S' σd σ H' f rh rs q)⟩) hh.ok).imp ?_
  rintro D σ H ⟨G, σd, S, Dd, rs, rh, t, p⟩
  refine ⟨G, σd, S, _, rs, rh, t, p.nx, p.rt, p.bk, p.ct, fun C S' σd' σ' H' f rh' rs' q => ?_⟩
  clear t hh hb
  have q : hdlD (exm X.K) Dd l C σd' S' := q
  induction l with
  | nil => exact p.xr C S' σd' σ' H' f rh' rs' q
  | cons z l ih =>
    obtain ⟨c, t⟩ := z
    unfold hdlD at q
    cases e : exm X.K C c with
    | none => rw [e] at q; exact q.elim
    | some b =>
      rw [e] at q
      cases b with
      | true => exact ⟨true, e, fun _ a _ => ⟨G, σd', S', _, rs', rh', q, (p.fl f).nx, (p.fl f).rt, (p.fl f).bk, (p.fl f).ct, fun C S' σd σ H' f rh rs q => q.elim⟩, (fun h => nomatch h)⟩
      | false => exact ⟨false, e, (fun h => nomatch h), fun _ => ih q q⟩
end PD
end

section
/-! PD36: s.ljust(n, c); methods of a written class; making one. -/
namespace PD
open PySem PySem.Spec PyProof.Rows L2
/-- the statement at a place of a class -/
def meth (s : Stmt) (j : Nat) : Stmt := match s with
  | .ClassDef _ _ _ body .. => body.getD j (.Pass ⟨0, 0, 0, 0⟩)
  | _ => .Pass ⟨0, 0, 0, 0⟩
/-- C(..), with room for it -/
structure HasK (P : Program) (w : World) (K : PySem.W.Frag) (mg : Str → Option Value) (base : Heap) (k : Nat) (x : Str) (C : Addr) (ps : List Str) (sp : SpD) : Prop where
  ex : ∃ j, j + 1 ≤ k ∧ HasC P w K mg base j x C ps sp
theorem HasK.mono {P : Program} {w : World} {K : PySem.W.Frag} {mg : Str → Option Value} {base : Heap} {j k : Nat} {x : Str} {C : Addr} {ps : List Str} {sp : SpD} (h : HasK P w K mg base j x C ps sp) (l : j ≤ k) : HasK P w K mg base k x C ps sp :=
  let ⟨i, a, b⟩ := h.ex; ⟨i, Nat.le_trans a l, b⟩
section
variable {X : Cx} {o e : Expr} {es : List Expr} {to : TED} {ta : TAD} {x : Str} {C : Addr} {k : Nat} {ps : List Str} {sp : SpD} {pos apos p : Pos}
theorem de_mk (h : HasK X.prog X.w X.K X.mg X.base k x C ps sp) (hr : RoomG k X.A) (ha : DA X (e :: es) ta) (hg : Gl X x := by rfl) (hdb : (x == ("__debug__" : Str)) = false := by decide)
    (he : starEach (e :: es) X.env = (false, eval e X.env) :: starEach es X.env := by rfl) (hpl : (backTo pos (starEach es X.env)).any (·.1) = false := by rfl) :
    DE X (.Call (.Name x p) (e :: es) [] pos) (tMakeD C sp ta) :=
  let ⟨_, l, c⟩ := h.ex; de_make c (hr.mono l) ha hg hdb he hpl
def rLjD (x : D) (ds : List D) (S : HD) (Q : QD) : Prop := match x, ds with
  | .str a, [.int i, .str f] => f.length = 1 ∧ PadOk i = true ∧ Q (.str (Txt.ljustF a i (f.cps.getD 0 0))) S
  | _, _ => False
def tMethB (r : D → List D → HD → QD → Prop) (to : TED) (ta : TAD) : TED := fun σ S Q => to σ S fun x S1 => (∃ z, x = .str z) ∧ ta σ S1 fun ds S2 => r x ds S2 Q
theorem mt_ljust3 : MtR X "str.ljust" (fun x xs H Q => ∃ (a : Str) (i : Int) (f : Str), x = .str a ∧ xs = [.int i, .str f] ∧ f.length = 1 ∧ PadOk i = true ∧ Q (.str (Txt.ljustF a i (f.cps.getD 0 0))) H) := by
  intro pins s σ H x xs v us Q I rx rs ⟨a, i, f, e1, e2, hf, hp, q⟩
  subst e1 e2
  obtain ⟨t, rfl⟩ := rx
  cases rs with
  | cons r1 rs =>
    cases rs with
    | cons r2 rs =>
      cases rs
      obtain ⟨u, rfl⟩ := r1
      obtain ⟨z, rfl⟩ := r2
      exact PyProof.Rows.ljust_fill hp hf fun t' k => ⟨V.str (Txt.ljustF a i (f.cps.getD 0 0)), H, I.tok k, ⟨t', rfl⟩, q⟩
theorem de_ljust (ho : DE X o to) (ha : DA X (e :: es) ta) (hbase : attributeBase o "ljust" X.env (eval o X.env) = eval o X.env := by rfl)
    (hfew : ((backTo pos (starEach (e :: es) X.env)).all (fun x => !x.1) && (backToKw pos (keywordEach [] X.env)).all (fun x => x.1.isSome)
      && decide ((e :: es).length + ([] : List Keyword).length + (if ([] : List Keyword).isEmpty then 0 else 1) < 30)) = true := by rfl)
    (hline : (apos.endLine == pos.line) = true := by rfl) (hs : starEach (e :: es) X.env = (false, eval e X.env) :: starEach es X.env := by rfl) (hplain : (backTo pos (starEach es X.env)).any (·.1) = false := by rfl) :
    DE X (.Call (.Attribute o "ljust" apos) (e :: es) [] pos) (tMethB rLjD to ta) :=
  (pe_bm F.plainAttrs_str PySem.F.slot_str_ljust PySem.F.type_str_ljust mt_ljust3 ho ha hbase hfew hline hs hplain).imp fun σ H Q ⟨G, σd, S, Qd, rs, rh, t, p⟩ => ⟨G, σd, S, _, rs, rh, t, fun S1 d v H1 f1 rh1 q1 ⟨⟨z, ez⟩, t1⟩ => by
    subst ez
    cases q1
    refine ⟨rfl, G, σd, S1, _, rs.fl f1, rh1, t1, fun S2 ds vs H2 f2 rh2 q2 t2 => ?_⟩
    unfold rLjD at t2
    split at t2
    · rename_i a i f e1
      cases e1
      cases q2 with
      | cons r1 q2 =>
        cases q2 with
        | cons r2 q2 =>
          cases q2; cases r1; cases r2
          exact ⟨z, i, f, rfl, rfl, t2.1, t2.2.1, p S2 _ _ H2 (f1.trans f2) rh2 (.str _) t2.2.2⟩
    · exact t2.elim⟩
end
end PD
end

section
namespace K36
open PySem PySem.Spec PyProof.Rows L2 PD
def top (i : Nat) : Stmt := PySem.Challenge.pw_sortedshelves_k36_comparisons_with_error.main.body.getD i (.Pass ⟨0, 0, 0, 0⟩)
structure Txt (K : PySem.W.Frag) (mg : Str → Option Value) (C_Reader : Addr) : Prop where
  k_Reader : Cls K C_Reader
  n_Reader_rows : NoAttr K C_Reader "rows"
  n_Reader_verdicts : NoAttr K C_Reader "verdicts"
  n_Reader_spots : NoAttr K C_Reader "spots"
  b_int : mg "int" = none
  b_isinstance : mg "isinstance" = none
  b_bool : mg "bool" = none
  b_tuple : mg "tuple" = none
  b_len : mg "len" = none
  b_enumerate : mg "enumerate" = none
  b_max : mg "max" = none
  b_zip : mg "zip" = none
  b_abs : mg "abs" = none
  b_range : mg "range" = none
  b_list : mg "list" = none
  b_repr : mg "repr" = none
  c_LETTERS : ∃ t, mg "LETTERS" = some (.str "abc" t)
  c_END : ∃ t, mg "END" = some (.str "." t)
  c_MAX_STANDS : ∃ t, mg "MAX_STANDS" = some (.int 60 t)
  c_MAX_LETTERS : ∃ t, mg "MAX_LETTERS" = some (.int 3 t)
section
variable {P : Program} {w : World} {K : PySem.W.Frag} {mg : Str → Option Value} {base : Heap} {C_Reader : Addr}
abbrev s_is_integer : Stmt := top 5
abbrev N_is_integer : List Str := ["value", "least", "most"]
theorem sc_is_integer : FnScope N_is_integer ["value", "least", "most"] (defScope s_is_integer) := ⟨rfl, rfl, rfl, by decide +kernel, rfl, by decide +kernel, by decide +kernel⟩
def rd_is_integer : TSD :=
  sRetD (tAndV (tCallD (rIsiD .int) (tConsD (tSlot 0) (tConsD (tCD (.ty "int")) (tNilD)))) (tAndV (tNotV (tCallD (rIsiD .bool) (tConsD (tSlot 0) (tConsD (tCD (.ty "bool")) (tNilD))))) (tChainD (rCmpI fLe) (rCmpI fLe) (tSlot 1) (tSlot 0) (tSlot 2))))
theorem dv_is_integer (T : Txt K mg C_Reader) (hB : SysB base) {k : Nat} {f : Addr} {cdv : Value} {A : Around} {outer : List Env} {s : Shared} {H : Hp} (hr : RoomG k (A.deeper (envOfC "is_integer" (defScope s_is_integer) s.heap.objs.size f cdv))) :
    DSs (cxOf CX0 P w K mg base N_is_integer "is_integer" (defScope s_is_integer) f cdv A outer s H E0).nox (defBody s_is_integer) (rd_is_integer) :=
    dss_one (ds_ret (de_and (de_callB (call_isiRD .int) T.b_isinstance bt_isinstance (da_cons (de_slot 0 (pv 0)) (da_cons (de_ty rfl T.b_int bt_int) (da_nil)))) (de_and (de_not (de_callB (call_isiRD .bool) T.b_isinstance bt_isinstance (da_cons (de_slot 0 (pv 0)) (da_cons (de_ty rfl T.b_bool bt_bool) (da_nil))))) (de_one (de_lele (de_slot 1 (pv 1)) (de_slot 0 (pv 0)) (de_slot 2 (pv 2)))))))
theorem mk_is_integer (D : DefOf K mg "is_integer" s_is_integer) (T : Txt K mg C_Reader) (hB : SysB base) {k : Nat} {sp : SpD} (len : ∀ ds S Q, sp ds S Q → ds.length = 3) (hq : ∀ ds S Qd, sp ds S Qd → rd_is_integer { nx := fun _ S2 => fin Qd .non S2, rt := fin Qd, bk := fun _ _ => False, ct := fun _ _ => False } (pad 3 ds) S) : Has P w K mg base (k + 1) "is_integer" ["value", "least", "most"] sp :=
  let ⟨f, fd, F, hm⟩ := D.ex
  .of F hm (F.binds fun _ _ _ _ _ _ us hl => match us, hl with | [_, _, _], _ => rfl) (FnD.of F sc_is_integer _ len (fun cdv A outer s H hr => dv_is_integer T hB hr) hq)
abbrev s_columns : Stmt := top 6
abbrev N_columns : List Str := ["letters", "signs", "found", "one", "other"]
theorem sc_columns : FnScope N_columns ["letters"] (defScope s_columns) := ⟨rfl, rfl, rfl, by decide +kernel, rfl, by decide +kernel, by decide +kernel⟩
def rd_columns : TSD :=
  sSeqD (sPar2 1 2 (tConsD (tBin rAddD (tSlD (tCD (.str "abc")) (oNone) (oSome (tSlot 0))) (tCD (.str "."))) (tConsD (tLstR (tNilD)) (tNilD))))
  (sSeqD (sForD (iAnyD (tSlot 1)) (gNameD 3) (sDropD (tMethA rExtD (tSlot 2) (tConsD (tLcV (iAnyD (tSlot 1)) (gNameD 4) (tYesD) (tBin rAddD (tSlot 3) (tSlot 4)) [4]) (tNilD)))))
  (sRetD (tCallD rTupleD (tConsD (tSlD (tSlot 2) (oNone) (oSome (tUnD rNeg (tCD (.int 1))))) (tNilD)))))
theorem dv_columns (T : Txt K mg C_Reader) (hB : SysB base) {k : Nat} {f : Addr} {cdv : Value} {A : Around} {outer : List Env} {s : Shared} {H : Hp} (hr : RoomG k (A.deeper (envOfC "columns" (defScope s_columns) s.heap.objs.size f cdv))) :
    DSs (cxOf CX0 P w K mg base N_columns "columns" (defScope s_columns) f cdv A outer s H E0).nox (defBody s_columns) (rd_columns) :=
    dss_cons (ds_par 1 2 sc_columns.nd (da_cons (de_add (de_slice (de_gS T.c_LETTERS) (do_none) (do_some (de_slot 0 (pv 0)))) (de_gS T.c_END)) (da_cons (de_lstR (da_nil)) (da_nil))))
    (dss_cons (ds_for PassesOwn.never (di_any (de_slot 1 (pv 1))) (dg_name 3 (pg_name (i := 3) sc_columns.nd rfl (Or.inr rfl))) (dss_one (ds_expr (de_extend (de_slot 2 (pv 2)) (da_cons (de_lcV (own := [("other", 4)]) sc_columns.nd (di_any (de_slot 1 (pv 1))) (blkOk_by (own := [("other", 4)]) (N := N_columns) (sc := defScope s_columns) (by decide +kernel)) (fun _ _ _ _ _ => dgw_name 4 (by decide) (pg_name (i := 4) sc_columns.nd rfl (Or.inl rfl))) (fun _ _ _ _ _ => dts_nil) (fun _ _ _ _ _ => de_add (de_slot 3 (pv 3)) (de_slot 4 (pv 4)))) (da_nil))))))
    (dss_one (ds_ret (de_callTy call_tupleRD T.b_tuple bt_tuple (da_cons (de_slice (de_slot 2 (pv 2)) (do_none) (do_some (de_neg (de_int)))) (da_nil))))))
theorem mk_columns (D : DefOf K mg "columns" s_columns) (T : Txt K mg C_Reader) (hB : SysB base) {k : Nat} {sp : SpD} (len : ∀ ds S Q, sp ds S Q → ds.length = 1) (hq : ∀ ds S Qd, sp ds S Qd → rd_columns { nx := fun _ S2 => fin Qd .non S2, rt := fin Qd, bk := fun _ _ => False, ct := fun _ _ => False } (pad 5 ds) S) : Has P w K mg base (k + 1) "columns" ["letters"] sp :=
  let ⟨f, fd, F, hm⟩ := D.ex
  .of F hm (F.binds fun _ _ _ _ _ _ us hl => match us, hl with | [_], _ => rfl) (FnD.of F sc_columns _ len (fun cdv A outer s H hr => dv_columns T hB hr) hq)
abbrev s_is_row : Stmt := top 7
abbrev N_is_row : List Str := ["value", "letters", "many", "item"]
theorem sc_is_row : FnScope N_is_row ["value", "letters", "many"] (defScope s_is_row) := ⟨rfl, rfl, rfl, by decide +kernel, rfl, by decide +kernel, by decide +kernel⟩
def rd_is_row (sp_columns : SpD) (sp_is_integer : SpD) : TSD :=
  sSeqD (sIfD (tOrD (tNotD (tTst (tCallD (rIsiD .tuple) (tConsD (tSlot 0) (tConsD (tCD (.ty "tuple")) (tNilD)))))) (tTst (tBin rNeD (tCallD rLenD (tConsD (tSlot 0) (tNilD))) (tCallD rLenD (tConsD (tCallD sp_columns (tConsD (tSlot 1) (tNilD))) (tNilD)))))) (sRetD (tCD (.bl false))) (sNextD))
  (sRetD (tBin rEqD (tLcV (iAnyD (tSlot 0)) (gNameD 3) (tNotD (tTst (tCallD sp_is_integer (tConsD (tSlot 3) (tConsD (tCD (.int 0)) (tConsD (tBin rSubD (tSlot 2) (tCD (.int 1))) (tNilD))))))) (tSlot 3) [3]) (tLstV (tNilD))))
theorem dv_is_row (T : Txt K mg C_Reader) (hB : SysB base) {k : Nat} {f : Addr} {cdv : Value} {A : Around} {outer : List Env} {s : Shared} {H : Hp} (hr : RoomG k (A.deeper (envOfC "is_row" (defScope s_is_row) s.heap.objs.size f cdv))) {sp_columns : SpD} (h_columns : Has P w K mg base k "columns" ["letters"] sp_columns) {sp_is_integer : SpD} (h_is_integer : Has P w K mg base k "is_integer" ["value", "least", "most"] sp_is_integer) :
    DSs (cxOf CX0 P w K mg base N_is_row "is_row" (defScope s_is_row) f cdv A outer s H E0).nox (defBody s_is_row) (rd_is_row sp_columns sp_is_integer) :=
    dss_cons (ds_if (dt_w (dw_or (dt_not (dt_val (de_callB (call_isiRD .tuple) T.b_isinstance bt_isinstance (da_cons (de_slot 0 (pv 0)) (da_cons (de_ty rfl T.b_tuple bt_tuple) (da_nil)))))) (dw_or1 (dt_ne hr hB (de_callB call_lenRD T.b_len bt_len (da_cons (de_slot 0 (pv 0)) (da_nil))) (de_callB call_lenRD T.b_len bt_len (da_cons (de_call h_columns hr (da_cons (de_slot 1 (pv 1)) (da_nil))) (da_nil))))))) (dss_one (ds_ret (de_bl))) (dss_nil))
    (dss_one (ds_ret (de_eq hr hB (de_lcV (own := [("item", 3)]) sc_is_row.nd (di_any (de_slot 0 (pv 0))) (blkOk_by (own := [("item", 3)]) (N := N_is_row) (sc := defScope s_is_row) (by decide +kernel)) (fun _ _ _ _ _ => dgw_name 3 (by decide) (pg_name (i := 3) sc_is_row.nd rfl (Or.inl rfl))) (fun _ _ _ _ _ => dts_one (dt_not (dt_val (de_call h_is_integer hr (da_cons (de_slot 3 (pv 3)) (da_cons (de_int) (da_cons (de_sub (de_slot 2 (pv 2)) (de_int)) (da_nil)))))))) (fun _ _ _ _ _ => de_slot 3 (pv 3))) (de_lstV (da_nil)))))
theorem mk_is_row (D : DefOf K mg "is_row" s_is_row) (T : Txt K mg C_Reader) (hB : SysB base) {k : Nat} {sp_columns : SpD} (h_columns : Has P w K mg base k "columns" ["letters"] sp_columns) {sp_is_integer : SpD} (h_is_integer : Has P w K mg base k "is_integer" ["value", "least", "most"] sp_is_integer) {sp : SpD} (len : ∀ ds S Q, sp ds S Q → ds.length = 3) (hq : ∀ ds S Qd, sp ds S Qd → rd_is_row sp_columns sp_is_integer { nx := fun _ S2 => fin Qd .non S2, rt := fin Qd, bk := fun _ _ => False, ct := fun _ _ => False } (pad 4 ds) S) : Has P w K mg base (k + 1) "is_row" ["value", "letters", "many"] sp :=
  let ⟨f, fd, F, hm⟩ := D.ex
  .of F hm (F.binds fun _ _ _ _ _ _ us hl => match us, hl with | [_, _, _], _ => rfl) (FnD.of F sc_is_row _ len (fun cdv A outer s H hr => dv_is_row T hB hr h_columns h_is_integer) hq)
abbrev s_are_rows : Stmt := top 8
abbrev N_are_rows : List Str := ["value", "letters", "row"]
theorem sc_are_rows : FnScope N_are_rows ["value", "letters"] (defScope s_are_rows) := ⟨rfl, rfl, rfl, by decide +kernel, rfl, by decide +kernel, by decide +kernel⟩
def rd_are_rows (sp_is_row : SpD) : TSD :=
  sSeqD (sIfD (tOrD (tNotD (tTst (tCallD (rIsiD .tuple) (tConsD (tSlot 0) (tConsD (tCD (.ty "tuple")) (tNilD)))))) (tNotD (tTst (tChainD (rCmpI fLe) (rCmpI fLe) (tCD (.int 1)) (tCallD rLenD (tConsD (tSlot 0) (tNilD))) (tCD (.int 60)))))) (sRetD (tCD (.bl false))) (sNextD))
  (sRetD (tBin rEqD (tLcV (iAnyD (tSlot 0)) (gNameD 2) (tNotD (tTst (tCallD sp_is_row (tConsD (tSlot 2) (tConsD (tSlot 1) (tConsD (tCallD rLenD (tConsD (tSlot 0) (tNilD))) (tNilD))))))) (tSlot 2) [2]) (tLstV (tNilD))))
theorem dv_are_rows (T : Txt K mg C_Reader) (hB : SysB base) {k : Nat} {f : Addr} {cdv : Value} {A : Around} {outer : List Env} {s : Shared} {H : Hp} (hr : RoomG k (A.deeper (envOfC "are_rows" (defScope s_are_rows) s.heap.objs.size f cdv))) {sp_is_row : SpD} (h_is_row : Has P w K mg base k "is_row" ["value", "letters", "many"] sp_is_row) :
    DSs (cxOf CX0 P w K mg base N_are_rows "are_rows" (defScope s_are_rows) f cdv A outer s H E0).nox (defBody s_are_rows) (rd_are_rows sp_is_row) :=
    dss_cons (ds_if (dt_w (dw_or (dt_not (dt_val (de_callB (call_isiRD .tuple) T.b_isinstance bt_isinstance (da_cons (de_slot 0 (pv 0)) (da_cons (de_ty rfl T.b_tuple bt_tuple) (da_nil)))))) (dw_or1 (dt_not (dt_lele (de_int) (de_callB call_lenRD T.b_len bt_len (da_cons (de_slot 0 (pv 0)) (da_nil))) (de_gI T.c_MAX_STANDS)))))) (dss_one (ds_ret (de_bl))) (dss_nil))
    (dss_one (ds_ret (de_eq hr hB (de_lcV (own := [("row", 2)]) sc_are_rows.nd (di_any (de_slot 0 (pv 0))) (blkOk_by (own := [("row", 2)]) (N := N_are_rows) (sc := defScope s_are_rows) (by decide +kernel)) (fun _ _ _ _ _ => dgw_name 2 (by decide) (pg_name (i := 2) sc_are_rows.nd rfl (Or.inl rfl))) (fun _ _ _ _ _ => dts_one (dt_not (dt_val (de_call h_is_row hr (da_cons (de_slot 2 (pv 2)) (da_cons (de_slot 1 (pv 1)) (da_cons (de_callB call_lenRD T.b_len bt_len (da_cons (de_slot 0 (pv 0)) (da_nil))) (da_nil)))))))) (fun _ _ _ _ _ => de_slot 2 (pv 2))) (de_lstV (da_nil)))))
theorem mk_are_rows (D : DefOf K mg "are_rows" s_are_rows) (T : Txt K mg C_Reader) (hB : SysB base) {k : Nat} {sp_is_row : SpD} (h_is_row : Has P w K mg base k "is_row" ["value", "letters", "many"] sp_is_row) {sp : SpD} (len : ∀ ds S Q, sp ds S Q → ds.length = 2) (hq : ∀ ds S Qd, sp ds S Qd → rd_are_rows sp_is_row { nx := fun _ S2 => fin Qd .non S2, rt := fin Qd, bk := fun _ _ => False, ct := fun _ _ => False } (pad 3 ds) S) : Has P w K mg base (k + 1) "are_rows" ["value", "letters"] sp :=
  let ⟨f, fd, F, hm⟩ := D.ex
  .of F hm (F.binds fun _ _ _ _ _ _ us hl => match us, hl with | [_, _], _ => rfl) (FnD.of F sc_are_rows _ len (fun cdv A outer s H hr => dv_are_rows T hB hr h_is_row) hq)
abbrev s_are_verdicts : Stmt := top 9
abbrev N_are_verdicts : List Str := ["value", "many", "item"]
theorem sc_are_verdicts : FnScope N_are_verdicts ["value", "many"] (defScope s_are_verdicts) := ⟨rfl, rfl, rfl, by decide +kernel, rfl, by decide +kernel, by decide +kernel⟩
def rd_are_verdicts (sp_is_integer : SpD) : TSD :=
  sSeqD (sIfD (tOrD (tNotD (tTst (tCallD (rIsiD .tuple) (tConsD (tSlot 0) (tConsD (tCD (.ty "tuple")) (tNilD)))))) (tTst (tBin rNeD (tCallD rLenD (tConsD (tSlot 0) (tNilD))) (tSlot 1)))) (sRetD (tCD (.bl false))) (sNextD))
  (sRetD (tBin rEqD (tLcV (iAnyD (tSlot 0)) (gNameD 2) (tNotD (tTst (tCallD sp_is_integer (tConsD (tSlot 2) (tConsD (tUnD rNeg (tCD (.int 1))) (tConsD (tCD (.int 1)) (tNilD))))))) (tSlot 2) [2]) (tLstV (tNilD))))
theorem dv_are_verdicts (T : Txt K mg C_Reader) (hB : SysB base) {k : Nat} {f : Addr} {cdv : Value} {A : Around} {outer : List Env} {s : Shared} {H : Hp} (hr : RoomG k (A.deeper (envOfC "are_verdicts" (defScope s_are_verdicts) s.heap.objs.size f cdv))) {sp_is_integer : SpD} (h_is_integer : Has P w K mg base k "is_integer" ["value", "least", "most"] sp_is_integer) :
    DSs (cxOf CX0 P w K mg base N_are_verdicts "are_verdicts" (defScope s_are_verdicts) f cdv A outer s H E0).nox (defBody s_are_verdicts) (rd_are_verdicts sp_is_integer) :=
    dss_cons (ds_if (dt_w (dw_or (dt_not (dt_val (de_callB (call_isiRD .tuple) T.b_isinstance bt_isinstance (da_cons (de_slot 0 (pv 0)) (da_cons (de_ty rfl T.b_tuple bt_tuple) (da_nil)))))) (dw_or1 (dt_ne hr hB (de_callB call_lenRD T.b_len bt_len (da_cons (de_slot 0 (pv 0)) (da_nil))) (de_slot 1 (pv 1)))))) (dss_one (ds_ret (de_bl))) (dss_nil))
    (dss_one (ds_ret (de_eq hr hB (de_lcV (own := [("item", 2)]) sc_are_verdicts.nd (di_any (de_slot 0 (pv 0))) (blkOk_by (own := [("item", 2)]) (N := N_are_verdicts) (sc := defScope s_are_verdicts) (by decide +kernel)) (fun _ _ _ _ _ => dgw_name 2 (by decide) (pg_name (i := 2) sc_are_verdicts.nd rfl (Or.inl rfl))) (fun _ _ _ _ _ => dts_one (dt_not (dt_val (de_call h_is_integer hr (da_cons (de_slot 2 (pv 2)) (da_cons (de_neg (de_int)) (da_cons (de_int) (da_nil)))))))) (fun _ _ _ _ _ => de_slot 2 (pv 2))) (de_lstV (da_nil)))))
theorem mk_are_verdicts (D : DefOf K mg "are_verdicts" s_are_verdicts) (T : Txt K mg C_Reader) (hB : SysB base) {k : Nat} {sp_is_integer : SpD} (h_is_integer : Has P w K mg base k "is_integer" ["value", "least", "most"] sp_is_integer) {sp : SpD} (len : ∀ ds S Q, sp ds S Q → ds.length = 2) (hq : ∀ ds S Qd, sp ds S Qd → rd_are_verdicts sp_is_integer { nx := fun _ S2 => fin Qd .non S2, rt := fin Qd, bk := fun _ _ => False, ct := fun _ _ => False } (pad 3 ds) S) : Has P w K mg base (k + 1) "are_verdicts" ["value", "many"] sp :=
  let ⟨f, fd, F, hm⟩ := D.ex
  .of F hm (F.binds fun _ _ _ _ _ _ us hl => match us, hl with | [_, _], _ => rfl) (FnD.of F sc_are_verdicts _ len (fun cdv A outer s H hr => dv_are_verdicts T hB hr h_is_integer) hq)
abbrev s_comp_error : Stmt := top 10
abbrev N_comp_error : List Str := ["value"]
theorem sc_comp_error : FnScope N_comp_error ["value"] (defScope s_comp_error) := ⟨rfl, rfl, rfl, by decide +kernel, rfl, by decide +kernel, by decide +kernel⟩
def rd_comp_error (sp_is_integer : SpD) (sp_are_rows : SpD) (sp_are_verdicts : SpD) : TSD :=
  sSeqD (sIfD (tOrD (tNotD (tTst (tCallD (rIsiD .tuple) (tConsD (tSlot 0) (tConsD (tCD (.ty "tuple")) (tNilD)))))) (tTst (tBin rNeD (tCallD rLenD (tConsD (tSlot 0) (tNilD))) (tCD (.int 3))))) (sRetD (tCD (.str "comp"))) (sNextD))
  (sSeqD (sIfD (tNotD (tTst (tCallD sp_is_integer (tConsD (tBin rIxX (tSlot 0) (tCD (.int 0))) (tConsD (tCD (.int 1)) (tConsD (tCD (.int 3)) (tNilD))))))) (sRetD (tCD (.str "letters"))) (sNextD))
  (sSeqD (sIfD (tNotD (tTst (tCallD sp_are_rows (tConsD (tBin rIxX (tSlot 0) (tCD (.int 1))) (tConsD (tBin rIxX (tSlot 0) (tCD (.int 0))) (tNilD)))))) (sRetD (tCD (.str "rows"))) (sNextD))
  (sRetD (tIfD (tTst (tCallD sp_are_verdicts (tConsD (tBin rIxX (tSlot 0) (tCD (.int 2))) (tConsD (tCallD rLenD (tConsD (tBin rIxX (tSlot 0) (tCD (.int 1))) (tNilD))) (tNilD))))) (tCD .non) (tCD (.str "verdicts"))))))
theorem dv_comp_error (T : Txt K mg C_Reader) (hB : SysB base) {k : Nat} {f : Addr} {cdv : Value} {A : Around} {outer : List Env} {s : Shared} {H : Hp} (hr : RoomG k (A.deeper (envOfC "comp_error" (defScope s_comp_error) s.heap.objs.size f cdv))) {sp_is_integer : SpD} (h_is_integer : Has P w K mg base k "is_integer" ["value", "least", "most"] sp_is_integer) {sp_are_rows : SpD} (h_are_rows : Has P w K mg base k "are_rows" ["value", "letters"] sp_are_rows) {sp_are_verdicts : SpD} (h_are_verdicts : Has P w K mg base k "are_verdicts" ["value", "many"] sp_are_verdicts) :
    DSs (cxOf CX0 P w K mg base N_comp_error "comp_error" (defScope s_comp_error) f cdv A outer s H E0).nox (defBody s_comp_error) (rd_comp_error sp_is_integer sp_are_rows sp_are_verdicts) :=
    dss_cons (ds_if (dt_w (dw_or (dt_not (dt_val (de_callB (call_isiRD .tuple) T.b_isinstance bt_isinstance (da_cons (de_slot 0 (pv 0)) (da_cons (de_ty rfl T.b_tuple bt_tuple) (da_nil)))))) (dw_or1 (dt_ne hr hB (de_callB call_lenRD T.b_len bt_len (da_cons (de_slot 0 (pv 0)) (da_nil))) (de_int))))) (dss_one (ds_ret (de_str))) (dss_nil))
    (dss_cons (ds_if (dt_not (dt_val (de_call h_is_integer hr (da_cons (de_ixX hr (de_slot 0 (pv 0)) (de_int)) (da_cons (de_int) (da_cons (de_gI T.c_MAX_LETTERS) (da_nil))))))) (dss_one (ds_ret (de_str))) (dss_nil))
    (dss_cons (ds_if (dt_not (dt_val (de_call h_are_rows hr (da_cons (de_ixX hr (de_slot 0 (pv 0)) (de_int)) (da_cons (de_ixX hr (de_slot 0 (pv 0)) (de_int)) (da_nil)))))) (dss_one (ds_ret (de_str))) (dss_nil))
    (dss_one (ds_ret (de_if (dt_val (de_call h_are_verdicts hr (da_cons (de_ixX hr (de_slot 0 (pv 0)) (de_int)) (da_cons (de_callB call_lenRD T.b_len bt_len (da_cons (de_ixX hr (de_slot 0 (pv 0)) (de_int)) (da_nil))) (da_nil))))) (de_non) (de_str))))))
theorem mk_comp_error (D : DefOf K mg "comp_error" s_comp_error) (T : Txt K mg C_Reader) (hB : SysB base) {k : Nat} {sp_is_integer : SpD} (h_is_integer : Has P w K mg base k "is_integer" ["value", "least", "most"] sp_is_integer) {sp_are_rows : SpD} (h_are_rows : Has P w K mg base k "are_rows" ["value", "letters"] sp_are_rows) {sp_are_verdicts : SpD} (h_are_verdicts : Has P w K mg base k "are_verdicts" ["value", "many"] sp_are_verdicts) {sp : SpD} (len : ∀ ds S Q, sp ds S Q → ds.length = 1) (hq : ∀ ds S Qd, sp ds S Qd → rd_comp_error sp_is_integer sp_are_rows sp_are_verdicts { nx := fun _ S2 => fin Qd .non S2, rt := fin Qd, bk := fun _ _ => False, ct := fun _ _ => False } (pad 1 ds) S) : Has P w K mg base (k + 1) "comp_error" ["value"] sp :=
  let ⟨f, fd, F, hm⟩ := D.ex
  .of F hm (F.binds fun _ _ _ _ _ _ us hl => match us, hl with | [_], _ => rfl) (FnD.of F sc_comp_error _ len (fun cdv A outer s H hr => dv_comp_error T hB hr h_is_integer h_are_rows h_are_verdicts) hq)
abbrev s_Reader_init : Stmt := meth (top 11) 0
abbrev N_Reader_init : List Str := ["self", "comp", "spot", "column"]
theorem sc_Reader_init : FnScope N_Reader_init ["self", "comp"] (defScope s_Reader_init) := ⟨rfl, rfl, rfl, by decide +kernel, rfl, by decide +kernel, by decide +kernel⟩
def rd_Reader_init (C_Reader : Addr) (sp_columns : SpD) : TSD :=
  sSeqD (sFldD C_Reader "rows" (tSlot 0) (tBin rIxX (tSlot 1) (tCD (.int 1))))
  (sSeqD (sFldD C_Reader "verdicts" (tSlot 0) (tBin rIxX (tSlot 1) (tCD (.int 2))))
  (sFldD C_Reader "spots" (tSlot 0) (tDcV (iEnumD (tConsD (tCallD sp_columns (tConsD (tBin rIxX (tSlot 1) (tCD (.int 0))) (tNilD))) (tNilD))) (gTupD 2 (gConsD (gNameD 2) (gConsD (gNameD 3) (gNilD)))) (tYesD) (tSlot 3) (tSlot 2) [2, 3])))
theorem dv_Reader_init (T : Txt K mg C_Reader) (hB : SysB base) {k : Nat} {f : Addr} {cdv : Value} {A : Around} {outer : List Env} {s : Shared} {H : Hp} (hr : RoomG k (A.deeper (envOfC "Reader.__init__" (defScope s_Reader_init) s.heap.objs.size f cdv))) {sp_columns : SpD} (h_columns : Has P w K mg base k "columns" ["letters"] sp_columns) :
    DSs (cxOf CX0 P w K mg base N_Reader_init "Reader.__init__" (defScope s_Reader_init) f cdv A outer s H E0).nox (defBody s_Reader_init) (rd_Reader_init C_Reader sp_columns) :=
    dss_cons (ds_fld T.k_Reader T.n_Reader_rows (de_slot 0 (pv 0)) (de_ixX hr (de_slot 1 (pv 1)) (de_int)))
    (dss_cons (ds_fld T.k_Reader T.n_Reader_verdicts (de_slot 0 (pv 0)) (de_ixX hr (de_slot 1 (pv 1)) (de_int)))
    (dss_one (ds_fld T.k_Reader T.n_Reader_spots (de_slot 0 (pv 0)) (de_dcV (own := [("spot", 2), ("column", 3)]) sc_Reader_init.nd (di_enum T.b_enumerate (da_cons (de_call h_columns hr (da_cons (de_ixX hr (de_slot 1 (pv 1)) (de_int)) (da_nil))) (da_nil))) (blkOk_by (own := [("spot", 2), ("column", 3)]) (N := N_Reader_init) (sc := defScope s_Reader_init) (by decide +kernel)) (fun _ _ _ _ _ => dgw_tup rfl (dgsw_cons (dgw_name 2 (by decide) (pg_name (i := 2) sc_Reader_init.nd rfl (Or.inl rfl))) (dgsw_cons (dgw_name 3 (by decide) (pg_name (i := 3) sc_Reader_init.nd rfl (Or.inl rfl))) (dgsw_nil)))) (fun _ _ _ _ _ => dts_nil) (fun _ _ _ _ _ => de_slot 3 (pv 3)) (fun _ _ _ _ _ => de_slot 2 (pv 2))))))
theorem mk_Reader_init (D : ClsOf K mg "Reader" C_Reader "Reader.__init__" s_Reader_init) (T : Txt K mg C_Reader) (hB : SysB base) {k : Nat} {sp_columns : SpD} (h_columns : Has P w K mg base k "columns" ["letters"] sp_columns) {sp : SpD} (len : ∀ ds S Q, sp ds S Q → ds.length = 2) (hq : ∀ ds S Qd, sp ds S Qd → rd_Reader_init C_Reader sp_columns { nx := fun _ S2 => fin Qd .non S2, rt := fin Qd, bk := fun _ _ => False, ct := fun _ _ => False } (pad 4 ds) S) : HasK P w K mg base (k + 2) "Reader" C_Reader ["self", "comp"] sp :=
  let ⟨f, fd, F, hm⟩ := D.ini
  ⟨⟨k + 1, Nat.le_refl _, ⟨⟨f, fd, D.mg_, hm, F.binds fun _ _ _ _ _ _ us hl => match us, hl with | [_, _], _ => rfl, FnD.of F sc_Reader_init _ len (fun cdv A outer s H hr => dv_Reader_init T hB hr h_columns) hq⟩⟩⟩⟩
abbrev s_Reader_after : Stmt := meth (top 11) 1
abbrev N_Reader_after : List Str := ["self", "row", "one", "other"]
theorem sc_Reader_after : FnScope N_Reader_after ["self", "row", "one", "other"] (defScope s_Reader_after) := ⟨rfl, rfl, rfl, by decide +kernel, rfl, by decide +kernel, by decide +kernel⟩
def rd_Reader_after (C_Reader : Addr) : TSD :=
  sSeqD (sIfD (tAndD (tTst (tBin rEqD (tSlot 2) (tCD (.str ".")))) (tTst (tBin rEqD (tSlot 3) (tCD (.str "."))))) (sRetD (tSlot 1)) (sNextD))
  (sRetD (tBin rIxX (tBin rIxX (tFldD C_Reader "rows" (tSlot 0)) (tSlot 1)) (tBin rIxX (tFldD C_Reader "spots" (tSlot 0)) (tBin rAddD (tSlot 2) (tSlot 3)))))
theorem dv_Reader_after (T : Txt K mg C_Reader) (hB : SysB base) {k : Nat} {f : Addr} {cdv : Value} {A : Around} {outer : List Env} {s : Shared} {H : Hp} (hr : RoomG k (A.deeper (envOfC "Reader.after" (defScope s_Reader_after) s.heap.objs.size f cdv))) :
    DSs (cxOf CX0 P w K mg base N_Reader_after "Reader.after" (defScope s_Reader_after) f cdv A outer s H E0).nox (defBody s_Reader_after) (rd_Reader_after C_Reader) :=
    dss_cons (ds_if (dt_w (dw_and (dt_eq hr hB (de_slot 2 (pv 2)) (de_gS T.c_END)) (dw_and1 (dt_eq hr hB (de_slot 3 (pv 3)) (de_gS T.c_END))))) (dss_one (ds_ret (de_slot 1 (pv 1)))) (dss_nil))
    (dss_one (ds_ret (de_ixX hr (de_ixX hr (de_fld T.k_Reader T.n_Reader_rows (de_slot 0 (pv 0))) (de_slot 1 (pv 1))) (de_ixX hr (de_fld T.k_Reader T.n_Reader_spots (de_slot 0 (pv 0))) (de_add (de_slot 2 (pv 2)) (de_slot 3 (pv 3)))))))
theorem mk_Reader_after (D : MetOf K C_Reader "after" "Reader.after" s_Reader_after) (T : Txt K mg C_Reader) (hB : SysB base) {k : Nat} {sp : SpD} (len : ∀ ds S Q, sp ds S Q → ds.length = 4) (hq : ∀ ds S Qd, sp ds S Qd → rd_Reader_after C_Reader { nx := fun _ S2 => fin Qd .non S2, rt := fin Qd, bk := fun _ _ => False, ct := fun _ _ => False } (pad 4 ds) S) : HasM P w K mg base (k + 1) C_Reader "after" ["self", "row", "one", "other"] sp :=
  let ⟨f, fd, F, hm⟩ := D.ex
  .of (qual := "Reader.after") (st := s_Reader_after) hm (F.binds fun _ _ _ _ _ _ us hl => match us, hl with | [_, _, _, _], _ => rfl) (FnD.of F sc_Reader_after _ len (fun cdv A outer s H hr => dv_Reader_after T hB hr) hq)
abbrev s_Reader_mark_of : Stmt := meth (top 11) 2
abbrev N_Reader_mark_of : List Str := ["self", "row"]
theorem sc_Reader_mark_of : FnScope N_Reader_mark_of ["self", "row"] (defScope s_Reader_mark_of) := ⟨rfl, rfl, rfl, by decide +kernel, rfl, by decide +kernel, by decide +kernel⟩
def rd_Reader_mark_of (C_Reader : Addr) : TSD :=
  sRetD (tBin rIxX (tFldD C_Reader "verdicts" (tSlot 0)) (tSlot 1))
theorem dv_Reader_mark_of (T : Txt K mg C_Reader) (hB : SysB base) {k : Nat} {f : Addr} {cdv : Value} {A : Around} {outer : List Env} {s : Shared} {H : Hp} (hr : RoomG k (A.deeper (envOfC "Reader.mark_of" (defScope s_Reader_mark_of) s.heap.objs.size f cdv))) :
    DSs (cxOf CX0 P w K mg base N_Reader_mark_of "Reader.mark_of" (defScope s_Reader_mark_of) f cdv A outer s H E0).nox (defBody s_Reader_mark_of) (rd_Reader_mark_of C_Reader) :=
    dss_one (ds_ret (de_ixX hr (de_fld T.k_Reader T.n_Reader_verdicts (de_slot 0 (pv 0))) (de_slot 1 (pv 1))))
theorem mk_Reader_mark_of (D : MetOf K C_Reader "mark_of" "Reader.mark_of" s_Reader_mark_of) (T : Txt K mg C_Reader) (hB : SysB base) {k : Nat} {sp : SpD} (len : ∀ ds S Q, sp ds S Q → ds.length = 2) (hq : ∀ ds S Qd, sp ds S Qd → rd_Reader_mark_of C_Reader { nx := fun _ S2 => fin Qd .non S2, rt := fin Qd, bk := fun _ _ => False, ct := fun _ _ => False } (pad 2 ds) S) : HasM P w K mg base (k + 1) C_Reader "mark_of" ["self", "row"] sp :=
  let ⟨f, fd, F, hm⟩ := D.ex
  .of (qual := "Reader.mark_of") (st := s_Reader_mark_of) hm (F.binds fun _ _ _ _ _ _ us hl => match us, hl with | [_, _], _ => rfl) (FnD.of F sc_Reader_mark_of _ len (fun cdv A outer s H hr => dv_Reader_mark_of T hB hr) hq)
abbrev s_tells : Stmt := top 12
abbrev N_tells : List Str := ["comp", "one", "other", "reader", "row", "most", "first", "second"]
theorem sc_tells : FnScope N_tells ["comp", "one", "other"] (defScope s_tells) := ⟨rfl, rfl, rfl, by decide +kernel, rfl, by decide +kernel, by decide +kernel⟩
def rd_tells (C_Reader : Addr) (sp_Reader_init : SpD) (sp_Reader_after : SpD) (sp_Reader_mark_of : SpD) : TSD :=
  sSeqD (sPar2 3 4 (tConsD (tMakeD C_Reader sp_Reader_init (tConsD (tSlot 0) (tNilD))) (tConsD (tCD (.int 0)) (tNilD))))
  (sSeqD (sAsgD (tCallD rMax2 (tConsD (tCallD rLenD (tConsD (tSlot 1) (tNilD))) (tConsD (tCallD rLenD (tConsD (tSlot 2) (tNilD))) (tNilD)))) (gNameD 5))
  (sSeqD (sForD (iZipD (tConsD (tMethB rLjD (tSlot 1) (tConsD (tSlot 5) (tConsD (tCD (.str ".")) (tNilD)))) (tConsD (tMethB rLjD (tSlot 2) (tConsD (tSlot 5) (tConsD (tCD (.str ".")) (tNilD)))) (tNilD)))) (gTupD 2 (gConsD (gNameD 6) (gConsD (gNameD 7) (gNilD)))) (sAsgD (tMethC C_Reader "after" sp_Reader_after (tSlot 3) (tConsD (tSlot 4) (tConsD (tSlot 6) (tConsD (tSlot 7) (tNilD))))) (gNameD 4)))
  (sRetD (tMethC C_Reader "mark_of" sp_Reader_mark_of (tSlot 3) (tConsD (tSlot 4) (tNilD))))))
theorem dv_tells (T : Txt K mg C_Reader) (hB : SysB base) {k : Nat} {f : Addr} {cdv : Value} {A : Around} {outer : List Env} {s : Shared} {H : Hp} (hr : RoomG k (A.deeper (envOfC "tells" (defScope s_tells) s.heap.objs.size f cdv))) {sp_Reader_init : SpD} (h_Reader_init : HasK P w K mg base k "Reader" C_Reader ["self", "comp"] sp_Reader_init) {sp_Reader_after : SpD} (h_Reader_after : HasM P w K mg base k C_Reader "after" ["self", "row", "one", "other"] sp_Reader_after) {sp_Reader_mark_of : SpD} (h_Reader_mark_of : HasM P w K mg base k C_Reader "mark_of" ["self", "row"] sp_Reader_mark_of) :
    DSs (cxOf CX0 P w K mg base N_tells "tells" (defScope s_tells) f cdv A outer s H E0).nox (defBody s_tells) (rd_tells C_Reader sp_Reader_init sp_Reader_after sp_Reader_mark_of) :=
    dss_cons (ds_par 3 4 sc_tells.nd (da_cons (de_mk h_Reader_init hr (da_cons (de_slot 0 (pv 0)) (da_nil))) (da_cons (de_int) (da_nil))))
    (dss_cons (ds_set 5 sc_tells.nd (de_callB call_max2RD T.b_max bt_max (da_cons (de_callB call_lenRD T.b_len bt_len (da_cons (de_slot 1 (pv 1)) (da_nil))) (da_cons (de_callB call_lenRD T.b_len bt_len (da_cons (de_slot 2 (pv 2)) (da_nil))) (da_nil)))))
    (dss_cons (ds_for PassesOwn.never (di_zip T.b_zip (da_cons (de_ljust (de_slot 1 (pv 1)) (da_cons (de_slot 5 (pv 5)) (da_cons (de_gS T.c_END) (da_nil)))) (da_cons (de_ljust (de_slot 2 (pv 2)) (da_cons (de_slot 5 (pv 5)) (da_cons (de_gS T.c_END) (da_nil)))) (da_nil)))) (dg_tup rfl (dgs_cons (dg_name 6 (pg_name (i := 6) sc_tells.nd rfl (Or.inl rfl))) (dgs_cons (dg_name 7 (pg_name (i := 7) sc_tells.nd rfl (Or.inl rfl))) (dgs_nil)))) (dss_one (ds_set 4 sc_tells.nd (de_methC T.k_Reader h_Reader_after hr (de_slot 3 (pv 3)) (da_cons (de_slot 4 (pv 4)) (da_cons (de_slot 6 (pv 6)) (da_cons (de_slot 7 (pv 7)) (da_nil))))))))
    (dss_one (ds_ret (de_methC T.k_Reader h_Reader_mark_of hr (de_slot 3 (pv 3)) (da_cons (de_slot 4 (pv 4)) (da_nil)))))))
theorem mk_tells (D : DefOf K mg "tells" s_tells) (T : Txt K mg C_Reader) (hB : SysB base) {k : Nat} {sp_Reader_init : SpD} (h_Reader_init : HasK P w K mg base k "Reader" C_Reader ["self", "comp"] sp_Reader_init) {sp_Reader_after : SpD} (h_Reader_after : HasM P w K mg base k C_Reader "after" ["self", "row", "one", "other"] sp_Reader_after) {sp_Reader_mark_of : SpD} (h_Reader_mark_of : HasM P w K mg base k C_Reader "mark_of" ["self", "row"] sp_Reader_mark_of) {sp : SpD} (len : ∀ ds S Q, sp ds S Q → ds.length = 3) (hq : ∀ ds S Qd, sp ds S Qd → rd_tells C_Reader sp_Reader_init sp_Reader_after sp_Reader_mark_of { nx := fun _ S2 => fin Qd .non S2, rt := fin Qd, bk := fun _ _ => False, ct := fun _ _ => False } (pad 8 ds) S) : Has P w K mg base (k + 1) "tells" ["comp", "one", "other"] sp :=
  let ⟨f, fd, F, hm⟩ := D.ex
  .of F hm (F.binds fun _ _ _ _ _ _ us hl => match us, hl with | [_, _, _], _ => rfl) (FnD.of F sc_tells _ len (fun cdv A outer s H hr => dv_tells T hB hr h_Reader_init h_Reader_after h_Reader_mark_of) hq)
abbrev s__law_deck : Stmt := top 14
abbrev N__law_deck : List Str := ["_law_script", "_law_cell"]
theorem sc__law_deck : FnScope N__law_deck ["_law_script"] (defScope s__law_deck) := ⟨rfl, rfl, rfl, by decide +kernel, rfl, by decide +kernel, by decide +kernel⟩
def rd__law_deck : TSD :=
  sRetD (tLstR (tConsD (tLcR (iSeqD (tSlD (tSlot 0) (oNone) (oSome (tCD (.int 63))))) (gNameD 1) (tYesD) (tCallD rAbsD (tConsD (tSlot 1) (tNilD))) [1]) (tConsD (tCD (.int 0)) (tNilD))))
theorem dv__law_deck (T : Txt K mg C_Reader) (hB : SysB base) {k : Nat} {f : Addr} {cdv : Value} {A : Around} {outer : List Env} {s : Shared} {H : Hp} (hr : RoomG k (A.deeper (envOfC "_law_deck" (defScope s__law_deck) s.heap.objs.size f cdv))) :
    DSs (cxOf CX0 P w K mg base N__law_deck "_law_deck" (defScope s__law_deck) f cdv A outer s H E0).nox (defBody s__law_deck) (rd__law_deck) :=
    dss_one (ds_ret (de_lstR (da_cons (de_lcR (own := [("_law_cell", 1)]) sc__law_deck.nd (di_seq (de_slice (de_slot 0 (pv 0)) (do_none) (do_some (de_int)))) (blkOk_by (own := [("_law_cell", 1)]) (N := N__law_deck) (sc := defScope s__law_deck) (by decide +kernel)) (fun _ _ _ _ _ => dgw_name 1 (by decide) (pg_name (i := 1) sc__law_deck.nd rfl (Or.inl rfl))) (fun _ _ _ _ _ => dts_nil) (fun _ _ _ _ _ => de_callB call_absRD T.b_abs bt_abs (da_cons (de_slot 1 (pv 1)) (da_nil)))) (da_cons (de_int) (da_nil)))))
theorem mk__law_deck (D : DefOf K mg "_law_deck" s__law_deck) (T : Txt K mg C_Reader) (hB : SysB base) {k : Nat} (ok : DeckOk rd__law_deck 2) : Has P w K mg base (k + 1) "_law_deck" ["_law_script"] spDeck :=
  let ⟨f, fd, F, hm⟩ := D.ex
  .of F hm (F.binds fun _ _ _ _ _ _ us hl => match us, hl with | [_], _ => rfl) (FnD.deck F sc__law_deck _ (fun cdv A outer s H hr => dv__law_deck T hB hr) ok)
abbrev s__law_draw : Stmt := top 15
abbrev N__law_draw : List Str := ["_law_deck_here", "_law_most", "_law_cell", "_law_at", "_law_mixed"]
theorem sc__law_draw : FnScope N__law_draw ["_law_deck_here", "_law_most"] (defScope s__law_draw) := ⟨rfl, rfl, rfl, by decide +kernel, rfl, by decide +kernel, by decide +kernel⟩
def rd__law_draw : TSD :=
  sSeqD (sAsgD (tBin rAddD (tBin rIxD (tSlot 0) (tCD (.int 1))) (tCD (.int 1))) (gSubD (tSlot 0) (tCD (.int 1))))
  (sSeqD (sAsgD (tTupD (tConsD (tCD (.int 0)) (tConsD (tUnD rNeg (tCD (.int 1))) (tNilD)))) (gTupD 2 (gConsD (gNameD 2) (gConsD (gNameD 3) (gNilD)))))
  (sSeqD (sIfD (tTst (tBin (rCmpI fGt) (tCallD rLenD (tConsD (tBin rIxD (tSlot 0) (tCD (.int 0))) (tNilD))) (tCD (.int 0)))) (sSeqD (sAsgD (tBin rModD (tCallD rIntD (tConsD (tBin rIxD (tSlot 0) (tCD (.int 1))) (tNilD))) (tCallD rLenD (tConsD (tBin rIxD (tSlot 0) (tCD (.int 0))) (tNilD)))) (gNameD 3))
  (sAsgD (tBin rIxD (tBin rIxD (tSlot 0) (tCD (.int 0))) (tSlot 3)) (gNameD 2))) (sNextD))
  (sSeqD (sIfD (tTst (tBin (rCmpI fGe) (tSlot 2) (tBin rPowD (tCD (.int 10)) (tCD (.int 18))))) (sSeqD (sAsgD (tBin rFdivD (tCallD rIntD (tConsD (tSlot 2) (tNilD))) (tSlot 1)) (gSubD (tBin rIxD (tSlot 0) (tCD (.int 0))) (tSlot 3)))
  (sRetD (tBin rModD (tCallD rIntD (tConsD (tSlot 2) (tNilD))) (tSlot 1)))) (sNextD))
  (sSeqD (sAsgD (tBin rAddD (tBin rAddD (tBin rModD (tCallD rIntD (tConsD (tSlot 2) (tNilD))) (tCD (.int 2147483179))) (tBin rMulD (tCD (.int 5501)) (tBin rIxD (tSlot 0) (tCD (.int 1))))) (tCD (.int 29))) (gNameD 4))
  (sRetD (tBin rModD (tCallD rIntD (tConsD (tBin rModD (tCallD rIntD (tConsD (tBin rPowD (tSlot 4) (tCD (.int 5))) (tNilD))) (tCD (.int 2147483423))) (tNilD))) (tSlot 1)))))))
theorem dv__law_draw (T : Txt K mg C_Reader) (hB : SysB base) {k : Nat} {f : Addr} {cdv : Value} {A : Around} {outer : List Env} {s : Shared} {H : Hp} (hr : RoomG k (A.deeper (envOfC "_law_draw" (defScope s__law_draw) s.heap.objs.size f cdv))) :
    DSs (cxOf CX0 P w K mg base N__law_draw "_law_draw" (defScope s__law_draw) f cdv A outer s H E0).nox (defBody s__law_draw) (rd__law_draw) :=
    dss_cons (ds_asg (de_add (de_ix (de_slot 0 (pv 0)) (de_int)) (de_int)) (dg_sub (de_slot 0 (pv 0)) (de_int)))
    (dss_cons (ds_asg (de_tup (da_cons (de_int) (da_cons (de_neg (de_int)) (da_nil)))) (dg_tup rfl (dgs_cons (dg_name 2 (pg_name (i := 2) sc__law_draw.nd rfl (Or.inl rfl))) (dgs_cons (dg_name 3 (pg_name (i := 3) sc__law_draw.nd rfl (Or.inl rfl))) (dgs_nil)))))
    (dss_cons (ds_if (dt_gt (de_callB call_lenRD T.b_len bt_len (da_cons (de_ix (de_slot 0 (pv 0)) (de_int)) (da_nil))) (de_int)) (dss_cons (ds_set 3 sc__law_draw.nd (de_mod (de_callTy call_intRD T.b_int bt_int (da_cons (de_ix (de_slot 0 (pv 0)) (de_int)) (da_nil))) (de_callB call_lenRD T.b_len bt_len (da_cons (de_ix (de_slot 0 (pv 0)) (de_int)) (da_nil)))))
    (dss_one (ds_set 2 sc__law_draw.nd (de_ix (de_ix (de_slot 0 (pv 0)) (de_int)) (de_slot 3 (pv 3)))))) (dss_nil))
    (dss_cons (ds_if (dt_ge (de_slot 2 (pv 2)) (de_pow (de_int) (de_int))) (dss_cons (ds_asg (de_fdiv (de_callTy call_intRD T.b_int bt_int (da_cons (de_slot 2 (pv 2)) (da_nil))) (de_slot 1 (pv 1))) (dg_sub (de_ix (de_slot 0 (pv 0)) (de_int)) (de_slot 3 (pv 3))))
    (dss_one (ds_ret (de_mod (de_callTy call_intRD T.b_int bt_int (da_cons (de_slot 2 (pv 2)) (da_nil))) (de_slot 1 (pv 1)))))) (dss_nil))
    (dss_cons (ds_set 4 sc__law_draw.nd (de_add (de_add (de_mod (de_callTy call_intRD T.b_int bt_int (da_cons (de_slot 2 (pv 2)) (da_nil))) (de_int)) (de_mul (de_int) (de_ix (de_slot 0 (pv 0)) (de_int)))) (de_int)))
    (dss_one (ds_ret (de_mod (de_callTy call_intRD T.b_int bt_int (da_cons (de_mod (de_callTy call_intRD T.b_int bt_int (da_cons (de_pow (de_slot 4 (pv 4)) (de_int)) (da_nil))) (de_int)) (da_nil))) (de_slot 1 (pv 1)))))))))
theorem mk__law_draw (D : DefOf K mg "_law_draw" s__law_draw) (T : Txt K mg C_Reader) (hB : SysB base) {k : Nat} (ok : DrawOk rd__law_draw 5) : Has P w K mg base (k + 1) "_law_draw" ["_law_deck_here", "_law_most"] spDraw :=
  let ⟨f, fd, F, hm⟩ := D.ex
  .of F hm (F.binds fun _ _ _ _ _ _ us hl => match us, hl with | [_, _], _ => rfl) (FnD.draw F sc__law_draw _ (fun cdv A outer s H hr => dv__law_draw T hB hr) ok)
abbrev s__law_one : Stmt := top 16
abbrev N__law_one : List Str := ["_law_deck_here", "_law_items"]
theorem sc__law_one : FnScope N__law_one ["_law_deck_here", "_law_items"] (defScope s__law_one) := ⟨rfl, rfl, rfl, by decide +kernel, rfl, by decide +kernel, by decide +kernel⟩
def rd__law_one (sp__law_draw : SpD) : TSD :=
  sRetD (tBin rIxD (tSlot 1) (tCallD sp__law_draw (tConsD (tSlot 0) (tConsD (tCallD rLenD (tConsD (tSlot 1) (tNilD))) (tNilD)))))
theorem dv__law_one (T : Txt K mg C_Reader) (hB : SysB base) {k : Nat} {f : Addr} {cdv : Value} {A : Around} {outer : List Env} {s : Shared} {H : Hp} (hr : RoomG k (A.deeper (envOfC "_law_one" (defScope s__law_one) s.heap.objs.size f cdv))) {sp__law_draw : SpD} (h__law_draw : Has P w K mg base k "_law_draw" ["_law_deck_here", "_law_most"] sp__law_draw) :
    DSs (cxOf CX0 P w K mg base N__law_one "_law_one" (defScope s__law_one) f cdv A outer s H E0).nox (defBody s__law_one) (rd__law_one sp__law_draw) :=
    dss_one (ds_ret (de_ix (de_slot 1 (pv 1)) (de_call h__law_draw hr (da_cons (de_slot 0 (pv 0)) (da_cons (de_callB call_lenRD T.b_len bt_len (da_cons (de_slot 1 (pv 1)) (da_nil))) (da_nil))))))
theorem mk__law_one (D : DefOf K mg "_law_one" s__law_one) (T : Txt K mg C_Reader) (hB : SysB base) {k : Nat} {sp__law_draw : SpD} (h__law_draw : Has P w K mg base k "_law_draw" ["_law_deck_here", "_law_most"] sp__law_draw) {sp : SpD} (len : ∀ ds S Q, sp ds S Q → ds.length = 2) (hq : ∀ ds S Qd, sp ds S Qd → rd__law_one sp__law_draw { nx := fun _ S2 => fin Qd .non S2, rt := fin Qd, bk := fun _ _ => False, ct := fun _ _ => False } (pad 2 ds) S) : Has P w K mg base (k + 1) "_law_one" ["_law_deck_here", "_law_items"] sp :=
  let ⟨f, fd, F, hm⟩ := D.ex
  .of F hm (F.binds fun _ _ _ _ _ _ us hl => match us, hl with | [_, _], _ => rfl) (FnD.of F sc__law_one _ len (fun cdv A outer s H hr => dv__law_one T hB hr h__law_draw) hq)
abbrev s__law_words : Stmt := top 20
abbrev N__law_words : List Str := ["_law_letters", "_law_most", "_law_found", "_law_layer", "_law_extent", "_law_further", "_law_word", "_law_letter"]
theorem sc__law_words : FnScope N__law_words ["_law_letters", "_law_most"] (defScope s__law_words) := ⟨rfl, rfl, rfl, by decide +kernel, rfl, by decide +kernel, by decide +kernel⟩
def rd__law_words : TSD :=
  sSeqD (sPar2 2 3 (tConsD (tLstV (tConsD (tCD (.str "")) (tNilD))) (tConsD (tLstV (tConsD (tCD (.str "")) (tNilD))) (tNilD))))
  (sSeqD (sForD (iRng1D (tConsD (tSlot 1) (tNilD))) (gNameD 4) (sSeqD (sAsgD (tLstR (tNilD)) (gNameD 5))
  (sSeqD (sForD (iAnyD (tSlot 3)) (gNameD 6) (sDropD (tMethA rExtD (tSlot 5) (tConsD (tLcV (iAnyD (tSlD (tCD (.str "abc")) (oNone) (oSome (tSlot 0)))) (gNameD 7) (tYesD) (tBin rAddD (tSlot 6) (tSlot 7)) [7]) (tNilD)))))
  (sSeqD (sAsgD (tSlot 5) (gNameD 3))
  (sAsgD (tBin rAddD (tSlot 2) (tSlot 3)) (gNameD 2))))))
  (sRetD (tSlot 2)))
theorem dv__law_words (T : Txt K mg C_Reader) (hB : SysB base) {k : Nat} {f : Addr} {cdv : Value} {A : Around} {outer : List Env} {s : Shared} {H : Hp} (hr : RoomG k (A.deeper (envOfC "_law_words" (defScope s__law_words) s.heap.objs.size f cdv))) :
    DSs (cxOf CX0 P w K mg base N__law_words "_law_words" (defScope s__law_words) f cdv A outer s H E0).nox (defBody s__law_words) (rd__law_words) :=
    dss_cons (ds_par 2 3 sc__law_words.nd (da_cons (de_lstV (da_cons (de_str) (da_nil))) (da_cons (de_lstV (da_cons (de_str) (da_nil))) (da_nil))))
    (dss_cons (ds_for PassesOwn.never (di_range1 T.b_range (da_cons (de_slot 1 (pv 1)) (da_nil))) (dg_name 4 (pg_name (i := 4) sc__law_words.nd rfl (Or.inl rfl))) (dss_cons (ds_set 5 sc__law_words.nd (de_lstR (da_nil)))
    (dss_cons (ds_for PassesOwn.never (di_any (de_slot 3 (pv 3))) (dg_name 6 (pg_name (i := 6) sc__law_words.nd rfl (Or.inr rfl))) (dss_one (ds_expr (de_extend (de_slot 5 (pv 5)) (da_cons (de_lcV (own := [("_law_letter", 7)]) sc__law_words.nd (di_any (de_slice (de_str) (do_none) (do_some (de_slot 0 (pv 0))))) (blkOk_by (own := [("_law_letter", 7)]) (N := N__law_words) (sc := defScope s__law_words) (by decide +kernel)) (fun _ _ _ _ _ => dgw_name 7 (by decide) (pg_name (i := 7) sc__law_words.nd rfl (Or.inl rfl))) (fun _ _ _ _ _ => dts_nil) (fun _ _ _ _ _ => de_add (de_slot 6 (pv 6)) (de_slot 7 (pv 7)))) (da_nil))))))
    (dss_cons (ds_set 3 sc__law_words.nd (de_slot 5 (pv 5)))
    (dss_one (ds_set 2 sc__law_words.nd (de_add (de_slot 2 (pv 2)) (de_slot 3 (pv 3)))))))))
    (dss_one (ds_ret (de_slot 2 (pv 2)))))
theorem mk__law_words (D : DefOf K mg "_law_words" s__law_words) (T : Txt K mg C_Reader) (hB : SysB base) {k : Nat} {sp : SpD} (len : ∀ ds S Q, sp ds S Q → ds.length = 2) (hq : ∀ ds S Qd, sp ds S Qd → rd__law_words { nx := fun _ S2 => fin Qd .non S2, rt := fin Qd, bk := fun _ _ => False, ct := fun _ _ => False } (pad 8 ds) S) : Has P w K mg base (k + 1) "_law_words" ["_law_letters", "_law_most"] sp :=
  let ⟨f, fd, F, hm⟩ := D.ex
  .of F hm (F.binds fun _ _ _ _ _ _ us hl => match us, hl with | [_, _], _ => rfl) (FnD.of F sc__law_words _ len (fun cdv A outer s H hr => dv__law_words T hB hr) hq)
abbrev s__law_columns : Stmt := top 23
abbrev N__law_columns : List Str := ["_law_letters", "_law_signs", "_law_found", "_law_one_here", "_law_other"]
theorem sc__law_columns : FnScope N__law_columns ["_law_letters"] (defScope s__law_columns) := ⟨rfl, rfl, rfl, by decide +kernel, rfl, by decide +kernel, by decide +kernel⟩
def rd__law_columns : TSD :=
  sSeqD (sPar2 1 2 (tConsD (tBin rAddD (tSlD (tCD (.str "abc")) (oNone) (oSome (tSlot 0))) (tCD (.str "."))) (tConsD (tLstR (tNilD)) (tNilD))))
  (sSeqD (sForD (iAnyD (tSlot 1)) (gNameD 3) (sDropD (tMethA rExtD (tSlot 2) (tConsD (tLcV (iAnyD (tSlot 1)) (gNameD 4) (tYesD) (tBin rAddD (tSlot 3) (tSlot 4)) [4]) (tNilD)))))
  (sRetD (tSlD (tSlot 2) (oNone) (oSome (tUnD rNeg (tCD (.int 1)))))))
theorem dv__law_columns (T : Txt K mg C_Reader) (hB : SysB base) {k : Nat} {f : Addr} {cdv : Value} {A : Around} {outer : List Env} {s : Shared} {H : Hp} (hr : RoomG k (A.deeper (envOfC "_law_columns" (defScope s__law_columns) s.heap.objs.size f cdv))) :
    DSs (cxOf CX0 P w K mg base N__law_columns "_law_columns" (defScope s__law_columns) f cdv A outer s H E0).nox (defBody s__law_columns) (rd__law_columns) :=
    dss_cons (ds_par 1 2 sc__law_columns.nd (da_cons (de_add (de_slice (de_str) (do_none) (do_some (de_slot 0 (pv 0)))) (de_str)) (da_cons (de_lstR (da_nil)) (da_nil))))
    (dss_cons (ds_for PassesOwn.never (di_any (de_slot 1 (pv 1))) (dg_name 3 (pg_name (i := 3) sc__law_columns.nd rfl (Or.inr rfl))) (dss_one (ds_expr (de_extend (de_slot 2 (pv 2)) (da_cons (de_lcV (own := [("_law_other", 4)]) sc__law_columns.nd (di_any (de_slot 1 (pv 1))) (blkOk_by (own := [("_law_other", 4)]) (N := N__law_columns) (sc := defScope s__law_columns) (by decide +kernel)) (fun _ _ _ _ _ => dgw_name 4 (by decide) (pg_name (i := 4) sc__law_columns.nd rfl (Or.inl rfl))) (fun _ _ _ _ _ => dts_nil) (fun _ _ _ _ _ => de_add (de_slot 3 (pv 3)) (de_slot 4 (pv 4)))) (da_nil))))))
    (dss_one (ds_ret (de_slice (de_slot 2 (pv 2)) (do_none) (do_some (de_neg (de_int)))))))
theorem mk__law_columns (D : DefOf K mg "_law_columns" s__law_columns) (T : Txt K mg C_Reader) (hB : SysB base) {k : Nat} {sp : SpD} (len : ∀ ds S Q, sp ds S Q → ds.length = 1) (hq : ∀ ds S Qd, sp ds S Qd → rd__law_columns { nx := fun _ S2 => fin Qd .non S2, rt := fin Qd, bk := fun _ _ => False, ct := fun _ _ => False } (pad 5 ds) S) : Has P w K mg base (k + 1) "_law_columns" ["_law_letters"] sp :=
  let ⟨f, fd, F, hm⟩ := D.ex
  .of F hm (F.binds fun _ _ _ _ _ _ us hl => match us, hl with | [_], _ => rfl) (FnD.of F sc__law_columns _ len (fun cdv A outer s H hr => dv__law_columns T hB hr) hq)
abbrev s__law_comp : Stmt := top 24
abbrev N__law_comp : List Str := ["_law_deck_here", "_law_letters", "_law_many", "_law_rows", "_law_row", "_law_column"]
theorem sc__law_comp : FnScope N__law_comp ["_law_deck_here", "_law_letters", "_law_many"] (defScope s__law_comp) := ⟨rfl, rfl, rfl, by decide +kernel, rfl, by decide +kernel, by decide +kernel⟩
def rd__law_comp (sp__law_columns : SpD) (sp__law_draw : SpD) (sp__law_one : SpD) : TSD :=
  sSeqD (sAsgD (tLcV (iRng1D (tConsD (tSlot 2) (tNilD))) (gNameD 4) (tYesD) (tCallD rTupleD (tConsD (tLcV (iAnyD (tCallD sp__law_columns (tConsD (tSlot 1) (tNilD)))) (gNameD 5) (tYesD) (tCallD sp__law_draw (tConsD (tSlot 0) (tConsD (tSlot 2) (tNilD)))) [5]) (tNilD))) [4]) (gNameD 3))
  (sRetD (tTupD (tConsD (tSlot 1) (tConsD (tCallD rTupleD (tConsD (tSlot 3) (tNilD))) (tConsD (tBin rAddD (tTupD (tConsD (tCallD sp__law_one (tConsD (tSlot 0) (tConsD (tLstV (tConsD (tCD (.int 0)) (tConsD (tCD (.int 0)) (tConsD (tCD (.int 1)) (tNilD))))) (tNilD)))) (tNilD))) (tCallD rTupleD (tConsD (tLcV (iRng1D (tConsD (tBin rSubD (tSlot 2) (tCD (.int 1))) (tNilD))) (gNameD 4) (tYesD) (tBin rSubD (tCallD sp__law_draw (tConsD (tSlot 0) (tConsD (tCD (.int 3)) (tNilD)))) (tCD (.int 1))) [4]) (tNilD)))) (tNilD))))))
theorem dv__law_comp (T : Txt K mg C_Reader) (hB : SysB base) {k : Nat} {f : Addr} {cdv : Value} {A : Around} {outer : List Env} {s : Shared} {H : Hp} (hr : RoomG k (A.deeper (envOfC "_law_comp" (defScope s__law_comp) s.heap.objs.size f cdv))) {sp__law_columns : SpD} (h__law_columns : Has P w K mg base k "_law_columns" ["_law_letters"] sp__law_columns) {sp__law_draw : SpD} (h__law_draw : Has P w K mg base k "_law_draw" ["_law_deck_here", "_law_most"] sp__law_draw) {sp__law_one : SpD} (h__law_one : Has P w K mg base k "_law_one" ["_law_deck_here", "_law_items"] sp__law_one) :
    DSs (cxOf CX0 P w K mg base N__law_comp "_law_comp" (defScope s__law_comp) f cdv A outer s H E0).nox (defBody s__law_comp) (rd__law_comp sp__law_columns sp__law_draw sp__law_one) :=
    dss_cons (ds_setLcV 3 (own := [("_law_row", 4)]) sc__law_comp.nd (di_range1 T.b_range (da_cons (de_slot 2 (pv 2)) (da_nil))) (blkOk_by (own := [("_law_row", 4)]) (N := N__law_comp) (sc := defScope s__law_comp) (by decide +kernel)) (fun _ _ _ _ _ => dgw_name 4 (by decide) (pg_name (i := 4) sc__law_comp.nd rfl (Or.inl rfl))) (fun _ _ _ _ _ => dts_nil) (fun _ _ _ _ _ => de_callTy call_tupleRD T.b_tuple bt_tuple (da_cons (de_lcV (own := [("_law_column", 5)]) sc__law_comp.nd (di_any (de_call h__law_columns hr (da_cons (de_slot 1 (pv 1)) (da_nil)))) (blkOk_by (by rfl)) (fun _ _ _ _ _ => dgw_name 5 (by decide) (pg_name (i := 5) sc__law_comp.nd rfl (Or.inl rfl))) (fun _ _ _ _ _ => dts_nil) (fun _ _ _ _ _ => de_call h__law_draw hr (da_cons (de_slot 0 (pv 0)) (da_cons (de_slot 2 (pv 2)) (da_nil))))) (da_nil))))
    (dss_one (ds_ret (de_tup (da_cons (de_slot 1 (pv 1)) (da_cons (de_callTy call_tupleRD T.b_tuple bt_tuple (da_cons (de_slot 3 (pv 3)) (da_nil))) (da_cons (de_add (de_tup (da_cons (de_call h__law_one hr (da_cons (de_slot 0 (pv 0)) (da_cons (de_lstV (da_cons (de_int) (da_cons (de_int) (da_cons (de_int) (da_nil))))) (da_nil)))) (da_nil))) (de_callTy call_tupleRD T.b_tuple bt_tuple (da_cons (de_lcV (own := [("_law_row", 4)]) sc__law_comp.nd (di_range1 T.b_range (da_cons (de_sub (de_slot 2 (pv 2)) (de_int)) (da_nil))) (blkOk_by (own := [("_law_row", 4)]) (N := N__law_comp) (sc := defScope s__law_comp) (by decide +kernel)) (fun _ _ _ _ _ => dgw_name 4 (by decide) (pg_name (i := 4) sc__law_comp.nd rfl (Or.inl rfl))) (fun _ _ _ _ _ => dts_nil) (fun _ _ _ _ _ => de_sub (de_call h__law_draw hr (da_cons (de_slot 0 (pv 0)) (da_cons (de_int) (da_nil)))) (de_int))) (da_nil)))) (da_nil)))))))
theorem mk__law_comp (D : DefOf K mg "_law_comp" s__law_comp) (T : Txt K mg C_Reader) (hB : SysB base) {k : Nat} {sp__law_columns : SpD} (h__law_columns : Has P w K mg base k "_law_columns" ["_law_letters"] sp__law_columns) {sp__law_draw : SpD} (h__law_draw : Has P w K mg base k "_law_draw" ["_law_deck_here", "_law_most"] sp__law_draw) {sp__law_one : SpD} (h__law_one : Has P w K mg base k "_law_one" ["_law_deck_here", "_law_items"] sp__law_one) {sp : SpD} (len : ∀ ds S Q, sp ds S Q → ds.length = 3) (hq : ∀ ds S Qd, sp ds S Qd → rd__law_comp sp__law_columns sp__law_draw sp__law_one { nx := fun _ S2 => fin Qd .non S2, rt := fin Qd, bk := fun _ _ => False, ct := fun _ _ => False } (pad 6 ds) S) : Has P w K mg base (k + 1) "_law_comp" ["_law_deck_here", "_law_letters", "_law_many"] sp :=
  let ⟨f, fd, F, hm⟩ := D.ex
  .of F hm (F.binds fun _ _ _ _ _ _ us hl => match us, hl with | [_, _, _], _ => rfl) (FnD.of F sc__law_comp _ len (fun cdv A outer s H hr => dv__law_comp T hB hr h__law_columns h__law_draw h__law_one) hq)
abbrev s__law_tells : Stmt := top 25
abbrev N__law_tells : List Str := ["_law_comp_here", "_law_one_here", "_law_other", "_law_cols", "_law_row", "_law_k"]
theorem sc__law_tells : FnScope N__law_tells ["_law_comp_here", "_law_one_here", "_law_other"] (defScope s__law_tells) := ⟨rfl, rfl, rfl, by decide +kernel, rfl, by decide +kernel, by decide +kernel⟩
def rd__law_tells (sp__law_columns : SpD) : TSD :=
  sSeqD (sPar2 3 4 (tConsD (tCallD sp__law_columns (tConsD (tBin rIxX (tSlot 0) (tCD (.int 0))) (tNilD))) (tConsD (tCD (.int 0)) (tNilD))))
  (sSeqD (sForD (iRng1D (tConsD (tCallD rMax2 (tConsD (tCallD rLenD (tConsD (tSlot 1) (tNilD))) (tConsD (tCallD rLenD (tConsD (tSlot 2) (tNilD))) (tNilD)))) (tNilD))) (gNameD 5) (sAsgD (tBin rIxX (tBin rIxX (tBin rIxX (tSlot 0) (tCD (.int 1))) (tSlot 4)) (tMethA rLixD (tSlot 3) (tConsD (tBin rAddD (tMethB rLjD (tSlD (tSlot 1) (oSome (tSlot 5)) (oSome (tBin rAddD (tSlot 5) (tCD (.int 1))))) (tConsD (tCD (.int 1)) (tConsD (tCD (.str ".")) (tNilD)))) (tMethB rLjD (tSlD (tSlot 2) (oSome (tSlot 5)) (oSome (tBin rAddD (tSlot 5) (tCD (.int 1))))) (tConsD (tCD (.int 1)) (tConsD (tCD (.str ".")) (tNilD))))) (tNilD)))) (gNameD 4)))
  (sRetD (tBin rIxX (tBin rIxX (tSlot 0) (tCD (.int 2))) (tSlot 4))))
theorem dv__law_tells (T : Txt K mg C_Reader) (hB : SysB base) {k : Nat} {f : Addr} {cdv : Value} {A : Around} {outer : List Env} {s : Shared} {H : Hp} (hr : RoomG k (A.deeper (envOfC "_law_tells" (defScope s__law_tells) s.heap.objs.size f cdv))) {sp__law_columns : SpD} (h__law_columns : Has P w K mg base k "_law_columns" ["_law_letters"] sp__law_columns) :
    DSs (cxOf CX0 P w K mg base N__law_tells "_law_tells" (defScope s__law_tells) f cdv A outer s H E0).nox (defBody s__law_tells) (rd__law_tells sp__law_columns) :=
    dss_cons (ds_par 3 4 sc__law_tells.nd (da_cons (de_call h__law_columns hr (da_cons (de_ixX hr (de_slot 0 (pv 0)) (de_int)) (da_nil))) (da_cons (de_int) (da_nil))))
    (dss_cons (ds_for PassesOwn.never (di_range1 T.b_range (da_cons (de_callB call_max2RD T.b_max bt_max (da_cons (de_callB call_lenRD T.b_len bt_len (da_cons (de_slot 1 (pv 1)) (da_nil))) (da_cons (de_callB call_lenRD T.b_len bt_len (da_cons (de_slot 2 (pv 2)) (da_nil))) (da_nil)))) (da_nil))) (dg_name 5 (pg_name (i := 5) sc__law_tells.nd rfl (Or.inl rfl))) (dss_one (ds_set 4 sc__law_tells.nd (de_ixX hr (de_ixX hr (de_ixX hr (de_slot 0 (pv 0)) (de_int)) (de_slot 4 (pv 4))) (de_lindex (de_slot 3 (pv 3)) (da_cons (de_add (de_ljust (de_slice (de_slot 1 (pv 1)) (do_some (de_slot 5 (pv 5))) (do_some (de_add (de_slot 5 (pv 5)) (de_int)))) (da_cons (de_int) (da_cons (de_str) (da_nil)))) (de_ljust (de_slice (de_slot 2 (pv 2)) (do_some (de_slot 5 (pv 5))) (do_some (de_add (de_slot 5 (pv 5)) (de_int)))) (da_cons (de_int) (da_cons (de_str) (da_nil))))) (da_nil)))))))
    (dss_one (ds_ret (de_ixX hr (de_ixX hr (de_slot 0 (pv 0)) (de_int)) (de_slot 4 (pv 4))))))
theorem mk__law_tells (D : DefOf K mg "_law_tells" s__law_tells) (T : Txt K mg C_Reader) (hB : SysB base) {k : Nat} {sp__law_columns : SpD} (h__law_columns : Has P w K mg base k "_law_columns" ["_law_letters"] sp__law_columns) {sp : SpD} (len : ∀ ds S Q, sp ds S Q → ds.length = 3) (hq : ∀ ds S Qd, sp ds S Qd → rd__law_tells sp__law_columns { nx := fun _ S2 => fin Qd .non S2, rt := fin Qd, bk := fun _ _ => False, ct := fun _ _ => False } (pad 6 ds) S) : Has P w K mg base (k + 1) "_law_tells" ["_law_comp_here", "_law_one_here", "_law_other"] sp :=
  let ⟨f, fd, F, hm⟩ := D.ex
  .of F hm (F.binds fun _ _ _ _ _ _ us hl => match us, hl with | [_, _, _], _ => rfl) (FnD.of F sc__law_tells _ len (fun cdv A outer s H hr => dv__law_tells T hB hr h__law_columns) hq)
abbrev s__law_otherwise : Stmt := top 30
abbrev N__law_otherwise : List Str := ["_law_deck_here", "_law_value", "_law_deep", "_law_odd", "_law_at", "_law_way"]
theorem sc__law_otherwise : FnScope N__law_otherwise ["_law_deck_here", "_law_value", "_law_deep"] (defScope s__law_otherwise) := ⟨rfl, rfl, rfl, by decide +kernel, rfl, by decide +kernel, by decide +kernel⟩
def rd__law_otherwise (sp__law_draw : SpD) (sp__law_one : SpD) (sp__law_otherwise : SpD) : TSD :=
  sSeqD (sAsgD (tLstV (tConsD (tCD .non) (tConsD (tCD (.bl true)) (tConsD (tCD (.bl false)) (tConsD (tCD (.int 0)) (tConsD (tCD (.int 1)) (tConsD (tCD (.int 2)) (tConsD (tCD (.int 4)) (tConsD (tCD (.int 9)) (tConsD (tCD (.int 10)) (tConsD (tCD (.int 30)) (tConsD (tCD (.int 31)) (tConsD (tUnD rNeg (tCD (.int 1))) (tConsD (tBin rPowD (tCD (.int 10)) (tCD (.int 40))) (tConsD (tCD (.str "a")) (tConsD (tCD (.str "c")) (tConsD (tCD (.str "d")) (tConsD (tCD (.str "")) (tConsD (tCD (.str "cut")) (tConsD (tCD (.str "pass")) (tConsD (tCD (.str "ab")) (tConsD (tTupD (tNilD)) (tConsD (tTupD (tConsD (tCD (.int 0)) (tNilD))) (tConsD (tTupD (tConsD (tCD (.str "a")) (tNilD))) (tConsD (tLstV (tNilD)) (tConsD (tDicV) (tNilD))))))))))))))))))))))))))) (gNameD 3))
  (sSeqD (sIfD (tOrD (tNotD (tTst (tCallD (rIsiD .tuple) (tConsD (tSlot 1) (tConsD (tCD (.ty "tuple")) (tNilD)))))) (tOrD (tTst (tBin rEqD (tSlot 1) (tTupD (tNilD)))) (tOrD (tTst (tBin rEqD (tSlot 2) (tCD (.int 0)))) (tTst (tBin rEqD (tCallD sp__law_draw (tConsD (tSlot 0) (tConsD (tCD (.int 6)) (tNilD)))) (tCD (.int 0))))))) (sRetD (tCallD sp__law_one (tConsD (tSlot 0) (tConsD (tSlot 3) (tNilD))))) (sNextD))
  (sSeqD (sPar2 4 5 (tConsD (tCallD sp__law_draw (tConsD (tSlot 0) (tConsD (tCallD rLenD (tConsD (tSlot 1) (tNilD))) (tNilD)))) (tConsD (tCallD sp__law_draw (tConsD (tSlot 0) (tConsD (tCD (.int 9)) (tNilD)))) (tNilD))))
  (sSeqD (sIfD (tTst (tBin rEqD (tSlot 5) (tCD (.int 0)))) (sRetD (tBin rAddD (tSlD (tSlot 1) (oNone) (oSome (tSlot 4))) (tSlD (tSlot 1) (oSome (tBin rAddD (tSlot 4) (tCD (.int 1)))) (oNone)))) (sNextD))
  (sSeqD (sIfD (tTst (tBin rEqD (tSlot 5) (tCD (.int 1)))) (sRetD (tBin rAddD (tSlot 1) (tSlD (tSlot 1) (oSome (tSlot 4)) (oSome (tBin rAddD (tSlot 4) (tCD (.int 1))))))) (sNextD))
  (sSeqD (sIfD (tTst (tBin rEqD (tSlot 5) (tCD (.int 2)))) (sRetD (tCallD rListV (tConsD (tSlot 1) (tNilD)))) (sNextD))
  (sSeqD (sIfD (tTst (tBin rEqD (tSlot 5) (tCD (.int 3)))) (sRetD (tRevX (tSlot 1))) (sNextD))
  (sRetD (tBin rAddD (tBin rAddD (tSlD (tSlot 1) (oNone) (oSome (tSlot 4))) (tTupD (tConsD (tCallD sp__law_otherwise (tConsD (tSlot 0) (tConsD (tBin rIxX (tSlot 1) (tSlot 4)) (tConsD (tBin rSubD (tSlot 2) (tCD (.int 1))) (tNilD))))) (tNilD)))) (tSlD (tSlot 1) (oSome (tBin rAddD (tSlot 4) (tCD (.int 1)))) (oNone))))))))))
theorem dv__law_otherwise (T : Txt K mg C_Reader) (hB : SysB base) {k : Nat} {f : Addr} {cdv : Value} {A : Around} {outer : List Env} {s : Shared} {H : Hp} (hr : RoomG k (A.deeper (envOfC "_law_otherwise" (defScope s__law_otherwise) s.heap.objs.size f cdv))) {sp__law_draw : SpD} (h__law_draw : Has P w K mg base k "_law_draw" ["_law_deck_here", "_law_most"] sp__law_draw) {sp__law_one : SpD} (h__law_one : Has P w K mg base k "_law_one" ["_law_deck_here", "_law_items"] sp__law_one) {sp__law_otherwise : SpD} (h__law_otherwise : Has P w K mg base k "_law_otherwise" ["_law_deck_here", "_law_value", "_law_deep"] sp__law_otherwise) :
    DSs (cxOf CX0 P w K mg base N__law_otherwise "_law_otherwise" (defScope s__law_otherwise) f cdv A outer s H E0).nox (defBody s__law_otherwise) (rd__law_otherwise sp__law_draw sp__law_one sp__law_otherwise) :=
    dss_cons (ds_set 3 sc__law_otherwise.nd (de_lstV (da_cons (de_non) (da_cons (de_bl) (da_cons (de_bl) (da_cons (de_int) (da_cons (de_int) (da_cons (de_int) (da_cons (de_int) (da_cons (de_int) (da_cons (de_int) (da_cons (de_int) (da_cons (de_int) (da_cons (de_neg (de_int)) (da_cons (de_pow (de_int) (de_int)) (da_cons (de_str) (da_cons (de_str) (da_cons (de_str) (da_cons (de_str) (da_cons (de_str) (da_cons (de_str) (da_cons (de_str) (da_cons (de_tup (da_nil)) (da_cons (de_tup (da_cons (de_int) (da_nil))) (da_cons (de_tup (da_cons (de_str) (da_nil))) (da_cons (de_lstV (da_nil)) (da_cons (de_dicV) (da_nil))))))))))))))))))))))))))))
    (dss_cons (ds_if (dt_w (dw_or (dt_not (dt_val (de_callB (call_isiRD .tuple) T.b_isinstance bt_isinstance (da_cons (de_slot 1 (pv 1)) (da_cons (de_ty rfl T.b_tuple bt_tuple) (da_nil)))))) (dw_or (dt_eq hr hB (de_slot 1 (pv 1)) (de_tup (da_nil))) (dw_or (dt_eq hr hB (de_slot 2 (pv 2)) (de_int)) (dw_or1 (dt_eq hr hB (de_call h__law_draw hr (da_cons (de_slot 0 (pv 0)) (da_cons (de_int) (da_nil)))) (de_int))))))) (dss_one (ds_ret (de_call h__law_one hr (da_cons (de_slot 0 (pv 0)) (da_cons (de_slot 3 (pv 3)) (da_nil)))))) (dss_nil))
    (dss_cons (ds_par 4 5 sc__law_otherwise.nd (da_cons (de_call h__law_draw hr (da_cons (de_slot 0 (pv 0)) (da_cons (de_callB call_lenRD T.b_len bt_len (da_cons (de_slot 1 (pv 1)) (da_nil))) (da_nil)))) (da_cons (de_call h__law_draw hr (da_cons (de_slot 0 (pv 0)) (da_cons (de_int) (da_nil)))) (da_nil))))
    (dss_cons (ds_if (dt_eq hr hB (de_slot 5 (pv 5)) (de_int)) (dss_one (ds_ret (de_add (de_slice (de_slot 1 (pv 1)) (do_none) (do_some (de_slot 4 (pv 4)))) (de_slice (de_slot 1 (pv 1)) (do_some (de_add (de_slot 4 (pv 4)) (de_int))) (do_none))))) (dss_nil))
    (dss_cons (ds_if (dt_eq hr hB (de_slot 5 (pv 5)) (de_int)) (dss_one (ds_ret (de_add (de_slot 1 (pv 1)) (de_slice (de_slot 1 (pv 1)) (do_some (de_slot 4 (pv 4))) (do_some (de_add (de_slot 4 (pv 4)) (de_int))))))) (dss_nil))
    (dss_cons (ds_if (dt_eq hr hB (de_slot 5 (pv 5)) (de_int)) (dss_one (ds_ret (de_callTy call_listV T.b_list bt_list (da_cons (de_slot 1 (pv 1)) (da_nil))))) (dss_nil))
    (dss_cons (ds_if (dt_eq hr hB (de_slot 5 (pv 5)) (de_int)) (dss_one (ds_ret (de_rev (de_slot 1 (pv 1))))) (dss_nil))
    (dss_one (ds_ret (de_add (de_add (de_slice (de_slot 1 (pv 1)) (do_none) (do_some (de_slot 4 (pv 4)))) (de_tup (da_cons (de_call h__law_otherwise hr (da_cons (de_slot 0 (pv 0)) (da_cons (de_ixX hr (de_slot 1 (pv 1)) (de_slot 4 (pv 4))) (da_cons (de_sub (de_slot 2 (pv 2)) (de_int)) (da_nil))))) (da_nil)))) (de_slice (de_slot 1 (pv 1)) (do_some (de_add (de_slot 4 (pv 4)) (de_int))) (do_none)))))))))))
theorem mk__law_otherwise (D : DefOf K mg "_law_otherwise" s__law_otherwise) (T : Txt K mg C_Reader) (hB : SysB base) {k : Nat} {sp__law_draw : SpD} (h__law_draw : Has P w K mg base k "_law_draw" ["_law_deck_here", "_law_most"] sp__law_draw) {sp__law_one : SpD} (h__law_one : Has P w K mg base k "_law_one" ["_law_deck_here", "_law_items"] sp__law_one) {sp__law_otherwise : SpD} (h__law_otherwise : Has P w K mg base k "_law_otherwise" ["_law_deck_here", "_law_value", "_law_deep"] sp__law_otherwise) {sp : SpD} (len : ∀ ds S Q, sp ds S Q → ds.length = 3) (hq : ∀ ds S Qd, sp ds S Qd → rd__law_otherwise sp__law_draw sp__law_one sp__law_otherwise { nx := fun _ S2 => fin Qd .non S2, rt := fin Qd, bk := fun _ _ => False, ct := fun _ _ => False } (pad 6 ds) S) : Has P w K mg base (k + 1) "_law_otherwise" ["_law_deck_here", "_law_value", "_law_deep"] sp :=
  let ⟨f, fd, F, hm⟩ := D.ex
  .of F hm (F.binds fun _ _ _ _ _ _ us hl => match us, hl with | [_, _, _], _ => rfl) (FnD.of F sc__law_otherwise _ len (fun cdv A outer s H hr => dv__law_otherwise T hB hr h__law_draw h__law_one h__law_otherwise) hq)
theorem nv__law_otherwise (D : DefOf K mg "_law_otherwise" s__law_otherwise) {k : Nat} : Has P w K mg base k "_law_otherwise" ["_law_deck_here", "_law_value", "_law_deep"] (fun _ _ _ => False) :=
  let ⟨f, fd, F, hm⟩ := D.ex
  .of F hm (F.binds fun _ _ _ _ _ _ us hl => match us, hl with | [_, _, _], _ => rfl) ⟨fun _ _ _ h => h.elim, fun _ _ _ _ _ _ _ _ _ _ _ _ _ _ _ _ _ h => h.elim⟩
abbrev s__law_whole : Stmt := top 31
abbrev N__law_whole : List Str := ["_law_value", "_law_least", "_law_most"]
theorem sc__law_whole : FnScope N__law_whole ["_law_value", "_law_least", "_law_most"] (defScope s__law_whole) := ⟨rfl, rfl, rfl, by decide +kernel, rfl, by decide +kernel, by decide +kernel⟩
def rd__law_whole : TSD :=
  sRetD (tAndV (tCallD (rIsiD .int) (tConsD (tSlot 0) (tConsD (tCD (.ty "int")) (tNilD)))) (tAndV (tNotV (tCallD (rIsiD .bool) (tConsD (tSlot 0) (tConsD (tCD (.ty "bool")) (tNilD))))) (tChainD (rCmpI fLe) (rCmpI fLe) (tSlot 1) (tSlot 0) (tSlot 2))))
theorem dv__law_whole (T : Txt K mg C_Reader) (hB : SysB base) {k : Nat} {f : Addr} {cdv : Value} {A : Around} {outer : List Env} {s : Shared} {H : Hp} (hr : RoomG k (A.deeper (envOfC "_law_whole" (defScope s__law_whole) s.heap.objs.size f cdv))) :
    DSs (cxOf CX0 P w K mg base N__law_whole "_law_whole" (defScope s__law_whole) f cdv A outer s H E0).nox (defBody s__law_whole) (rd__law_whole) :=
    dss_one (ds_ret (de_and (de_callB (call_isiRD .int) T.b_isinstance bt_isinstance (da_cons (de_slot 0 (pv 0)) (da_cons (de_ty rfl T.b_int bt_int) (da_nil)))) (de_and (de_not (de_callB (call_isiRD .bool) T.b_isinstance bt_isinstance (da_cons (de_slot 0 (pv 0)) (da_cons (de_ty rfl T.b_bool bt_bool) (da_nil))))) (de_one (de_lele (de_slot 1 (pv 1)) (de_slot 0 (pv 0)) (de_slot 2 (pv 2)))))))
theorem mk__law_whole (D : DefOf K mg "_law_whole" s__law_whole) (T : Txt K mg C_Reader) (hB : SysB base) {k : Nat} {sp : SpD} (len : ∀ ds S Q, sp ds S Q → ds.length = 3) (hq : ∀ ds S Qd, sp ds S Qd → rd__law_whole { nx := fun _ S2 => fin Qd .non S2, rt := fin Qd, bk := fun _ _ => False, ct := fun _ _ => False } (pad 3 ds) S) : Has P w K mg base (k + 1) "_law_whole" ["_law_value", "_law_least", "_law_most"] sp :=
  let ⟨f, fd, F, hm⟩ := D.ex
  .of F hm (F.binds fun _ _ _ _ _ _ us hl => match us, hl with | [_, _, _], _ => rfl) (FnD.of F sc__law_whole _ len (fun cdv A outer s H hr => dv__law_whole T hB hr) hq)
abbrev s__law_due : Stmt := top 32
abbrev N__law_due : List Str := ["_law_value", "_law_wide", "_law_rows", "_law_row", "_law_item"]
theorem sc__law_due : FnScope N__law_due ["_law_value"] (defScope s__law_due) := ⟨rfl, rfl, rfl, by decide +kernel, rfl, by decide +kernel, by decide +kernel⟩
def rd__law_due (sp__law_whole : SpD) (sp__law_columns : SpD) : TSD :=
  sSeqD (sIfD (tOrD (tNotD (tTst (tCallD (rIsiD .tuple) (tConsD (tSlot 0) (tConsD (tCD (.ty "tuple")) (tNilD)))))) (tTst (tBin rNeD (tCallD rLenD (tConsD (tSlot 0) (tNilD))) (tCD (.int 3))))) (sRetD (tCD (.str "comp"))) (sNextD))
  (sSeqD (sIfD (tNotD (tTst (tCallD sp__law_whole (tConsD (tBin rIxX (tSlot 0) (tCD (.int 0))) (tConsD (tCD (.int 1)) (tConsD (tCD (.int 3)) (tNilD))))))) (sRetD (tCD (.str "letters"))) (sNextD))
  (sSeqD (sIfD (tOrD (tNotD (tTst (tCallD (rIsiD .tuple) (tConsD (tBin rIxX (tSlot 0) (tCD (.int 1))) (tConsD (tCD (.ty "tuple")) (tNilD)))))) (tNotD (tTst (tChainD (rCmpI fLe) (rCmpI fLe) (tCD (.int 1)) (tCallD rLenD (tConsD (tBin rIxX (tSlot 0) (tCD (.int 1))) (tNilD))) (tCD (.int 60)))))) (sRetD (tCD (.str "rows"))) (sNextD))
  (sSeqD (sAsgD (tTupD (tConsD (tCallD rLenD (tConsD (tCallD sp__law_columns (tConsD (tBin rIxX (tSlot 0) (tCD (.int 0))) (tNilD))) (tNilD))) (tConsD (tCallD rLenD (tConsD (tBin rIxX (tSlot 0) (tCD (.int 1))) (tNilD))) (tNilD)))) (gTupD 2 (gConsD (gNameD 1) (gConsD (gNameD 2) (gNilD)))))
  (sSeqD (sForD (iAnyD (tBin rIxX (tSlot 0) (tCD (.int 1)))) (gNameD 3) (sSeqD (sIfD (tOrD (tNotD (tTst (tCallD (rIsiD .tuple) (tConsD (tSlot 3) (tConsD (tCD (.ty "tuple")) (tNilD)))))) (tTst (tBin rNeD (tCallD rLenD (tConsD (tSlot 3) (tNilD))) (tSlot 1)))) (sRetD (tCD (.str "rows"))) (sNextD))
  (sIfD (tTst (tBin rNeD (tLcV (iAnyD (tSlot 3)) (gNameD 4) (tNotD (tTst (tCallD sp__law_whole (tConsD (tSlot 4) (tConsD (tCD (.int 0)) (tConsD (tBin rSubD (tSlot 2) (tCD (.int 1))) (tNilD))))))) (tSlot 4) [4]) (tLstV (tNilD)))) (sRetD (tCD (.str "rows"))) (sNextD))))
  (sSeqD (sIfD (tOrD (tNotD (tTst (tCallD (rIsiD .tuple) (tConsD (tBin rIxX (tSlot 0) (tCD (.int 2))) (tConsD (tCD (.ty "tuple")) (tNilD)))))) (tTst (tBin rNeD (tCallD rLenD (tConsD (tBin rIxX (tSlot 0) (tCD (.int 2))) (tNilD))) (tSlot 2)))) (sRetD (tCD (.str "verdicts"))) (sNextD))
  (sRetD (tIfD (tTst (tBin rEqD (tLcV (iAnyD (tBin rIxX (tSlot 0) (tCD (.int 2)))) (gNameD 4) (tNotD (tTst (tCallD sp__law_whole (tConsD (tSlot 4) (tConsD (tUnD rNeg (tCD (.int 1))) (tConsD (tCD (.int 1)) (tNilD))))))) (tSlot 4) [4]) (tLstV (tNilD)))) (tCD .non) (tCD (.str "verdicts")))))))))
theorem dv__law_due (T : Txt K mg C_Reader) (hB : SysB base) {k : Nat} {f : Addr} {cdv : Value} {A : Around} {outer : List Env} {s : Shared} {H : Hp} (hr : RoomG k (A.deeper (envOfC "_law_due" (defScope s__law_due) s.heap.objs.size f cdv))) {sp__law_whole : SpD} (h__law_whole : Has P w K mg base k "_law_whole" ["_law_value", "_law_least", "_law_most"] sp__law_whole) {sp__law_columns : SpD} (h__law_columns : Has P w K mg base k "_law_columns" ["_law_letters"] sp__law_columns) :
    DSs (cxOf CX0 P w K mg base N__law_due "_law_due" (defScope s__law_due) f cdv A outer s H E0).nox (defBody s__law_due) (rd__law_due sp__law_whole sp__law_columns) :=
    dss_cons (ds_if (dt_w (dw_or (dt_not (dt_val (de_callB (call_isiRD .tuple) T.b_isinstance bt_isinstance (da_cons (de_slot 0 (pv 0)) (da_cons (de_ty rfl T.b_tuple bt_tuple) (da_nil)))))) (dw_or1 (dt_ne hr hB (de_callB call_lenRD T.b_len bt_len (da_cons (de_slot 0 (pv 0)) (da_nil))) (de_int))))) (dss_one (ds_ret (de_str))) (dss_nil))
    (dss_cons (ds_if (dt_not (dt_val (de_call h__law_whole hr (da_cons (de_ixX hr (de_slot 0 (pv 0)) (de_int)) (da_cons (de_int) (da_cons (de_int) (da_nil))))))) (dss_one (ds_ret (de_str))) (dss_nil))
    (dss_cons (ds_if (dt_w (dw_or (dt_not (dt_val (de_callB (call_isiRD .tuple) T.b_isinstance bt_isinstance (da_cons (de_ixX hr (de_slot 0 (pv 0)) (de_int)) (da_cons (de_ty rfl T.b_tuple bt_tuple) (da_nil)))))) (dw_or1 (dt_not (dt_lele (de_int) (de_callB call_lenRD T.b_len bt_len (da_cons (de_ixX hr (de_slot 0 (pv 0)) (de_int)) (da_nil))) (de_int)))))) (dss_one (ds_ret (de_str))) (dss_nil))
    (dss_cons (ds_asg (de_tup (da_cons (de_callB call_lenRD T.b_len bt_len (da_cons (de_call h__law_columns hr (da_cons (de_ixX hr (de_slot 0 (pv 0)) (de_int)) (da_nil))) (da_nil))) (da_cons (de_callB call_lenRD T.b_len bt_len (da_cons (de_ixX hr (de_slot 0 (pv 0)) (de_int)) (da_nil))) (da_nil)))) (dg_tup rfl (dgs_cons (dg_name 1 (pg_name (i := 1) sc__law_due.nd rfl (Or.inl rfl))) (dgs_cons (dg_name 2 (pg_name (i := 2) sc__law_due.nd rfl (Or.inr rfl))) (dgs_nil)))))
    (dss_cons (ds_for PassesOwn.never (di_any (de_ixX hr (de_slot 0 (pv 0)) (de_int))) (dg_name 3 (pg_name (i := 3) sc__law_due.nd rfl (Or.inl rfl))) (dss_cons (ds_if (dt_w (dw_or (dt_not (dt_val (de_callB (call_isiRD .tuple) T.b_isinstance bt_isinstance (da_cons (de_slot 3 (pv 3)) (da_cons (de_ty rfl T.b_tuple bt_tuple) (da_nil)))))) (dw_or1 (dt_ne hr hB (de_callB call_lenRD T.b_len bt_len (da_cons (de_slot 3 (pv 3)) (da_nil))) (de_slot 1 (pv 1)))))) (dss_one (ds_ret (de_str))) (dss_nil))
    (dss_one (ds_if (dt_ne hr hB (de_lcV (own := [("_law_item", 4)]) sc__law_due.nd (di_any (de_slot 3 (pv 3))) (blkOk_by (own := [("_law_item", 4)]) (N := N__law_due) (sc := defScope s__law_due) (by decide +kernel)) (fun _ _ _ _ _ => dgw_name 4 (by decide) (pg_name (i := 4) sc__law_due.nd rfl (Or.inl rfl))) (fun _ _ _ _ _ => dts_one (dt_not (dt_val (de_call h__law_whole hr (da_cons (de_slot 4 (pv 4)) (da_cons (de_int) (da_cons (de_sub (de_slot 2 (pv 2)) (de_int)) (da_nil)))))))) (fun _ _ _ _ _ => de_slot 4 (pv 4))) (de_lstV (da_nil))) (dss_one (ds_ret (de_str))) (dss_nil)))))
    (dss_cons (ds_if (dt_w (dw_or (dt_not (dt_val (de_callB (call_isiRD .tuple) T.b_isinstance bt_isinstance (da_cons (de_ixX hr (de_slot 0 (pv 0)) (de_int)) (da_cons (de_ty rfl T.b_tuple bt_tuple) (da_nil)))))) (dw_or1 (dt_ne hr hB (de_callB call_lenRD T.b_len bt_len (da_cons (de_ixX hr (de_slot 0 (pv 0)) (de_int)) (da_nil))) (de_slot 2 (pv 2)))))) (dss_one (ds_ret (de_str))) (dss_nil))
    (dss_one (ds_ret (de_if (dt_eq hr hB (de_lcV (own := [("_law_item", 4)]) sc__law_due.nd (di_any (de_ixX hr (de_slot 0 (pv 0)) (de_int))) (blkOk_by (own := [("_law_item", 4)]) (N := N__law_due) (sc := defScope s__law_due) (by decide +kernel)) (fun _ _ _ _ _ => dgw_name 4 (by decide) (pg_name (i := 4) sc__law_due.nd rfl (Or.inl rfl))) (fun _ _ _ _ _ => dts_one (dt_not (dt_val (de_call h__law_whole hr (da_cons (de_slot 4 (pv 4)) (da_cons (de_neg (de_int)) (da_cons (de_int) (da_nil)))))))) (fun _ _ _ _ _ => de_slot 4 (pv 4))) (de_lstV (da_nil))) (de_non) (de_str)))))))))
theorem mk__law_due (D : DefOf K mg "_law_due" s__law_due) (T : Txt K mg C_Reader) (hB : SysB base) {k : Nat} {sp__law_whole : SpD} (h__law_whole : Has P w K mg base k "_law_whole" ["_law_value", "_law_least", "_law_most"] sp__law_whole) {sp__law_columns : SpD} (h__law_columns : Has P w K mg base k "_law_columns" ["_law_letters"] sp__law_columns) {sp : SpD} (len : ∀ ds S Q, sp ds S Q → ds.length = 1) (hq : ∀ ds S Qd, sp ds S Qd → rd__law_due sp__law_whole sp__law_columns { nx := fun _ S2 => fin Qd .non S2, rt := fin Qd, bk := fun _ _ => False, ct := fun _ _ => False } (pad 5 ds) S) : Has P w K mg base (k + 1) "_law_due" ["_law_value"] sp :=
  let ⟨f, fd, F, hm⟩ := D.ex
  .of F hm (F.binds fun _ _ _ _ _ _ us hl => match us, hl with | [_], _ => rfl) (FnD.of F sc__law_due _ len (fun cdv A outer s H hr => dv__law_due T hB hr h__law_whole h__law_columns) hq)
abbrev s_law : Stmt := top 33
abbrev N_law : List Str := ["_law_script", "_law_deck_here", "_law_turn", "_law_letters", "_law_comp_here", "_law_values", "_law_value", "_law_k", "_law_words_here", "_law_one_here", "_law_other", "_law_due_here"]
theorem sc_law : FnScope N_law ["_law_script"] (defScope s_law) := ⟨rfl, rfl, rfl, by decide +kernel, rfl, by decide +kernel, by decide +kernel⟩
def rd_law (sp__law_deck : SpD) (sp__law_draw : SpD) (sp__law_comp : SpD) (sp__law_one : SpD) (sp__law_otherwise : SpD) (sp_comp_error : SpD) (sp__law_due : SpD) (sp__law_words : SpD) (sp__law_tells : SpD) (sp_tells : SpD) : TSD :=
  sSeqD (sAsgD (tCallD sp__law_deck (tConsD (tSlot 0) (tNilD))) (gNameD 1))
  (sSeqD (sForD (iRng1D (tConsD (tCD (.int 10)) (tNilD))) (gNameD 2) (sSeqD (sAsgD (tBin rAddD (tCD (.int 1)) (tCallD sp__law_draw (tConsD (tSlot 1) (tConsD (tCD (.int 3)) (tNilD))))) (gNameD 3))
  (sSeqD (sAsgD (tCallD sp__law_comp (tConsD (tSlot 1) (tConsD (tSlot 3) (tConsD (tBin rAddD (tCD (.int 1)) (tCallD sp__law_draw (tConsD (tSlot 1) (tConsD (tCallD sp__law_one (tConsD (tSlot 1) (tConsD (tLstV (tConsD (tCD (.int 3)) (tConsD (tCD (.int 9)) (tConsD (tCD (.int 61)) (tNilD))))) (tNilD)))) (tNilD))))) (tNilD))))) (gNameD 4))
  (sSeqD (sPar2 5 6 (tConsD (tLstR (tConsD (tSlot 4) (tConsD (tCallD rListV (tConsD (tSlot 4) (tNilD))) (tConsD (tSlD (tSlot 4) (oNone) (oSome (tCD (.int 2)))) (tConsD (tBin rAddD (tSlot 4) (tTupD (tConsD (tCD (.int 0)) (tNilD)))) (tConsD (tCD .non) (tConsD (tCD (.int 3)) (tConsD (tCD (.str "comp")) (tConsD (tDicV) (tConsD (tTupD (tNilD)) (tConsD (tTupD (tConsD (tCD (.int 1)) (tConsD (tTupD (tNilD)) (tConsD (tTupD (tNilD)) (tNilD))))) (tNilD)))))))))))) (tConsD (tSlot 4) (tNilD))))
  (sSeqD (sForD (iRng1D (tConsD (tCD (.int 8)) (tNilD))) (gNameD 7) (sSeqD (sAsgD (tCallD sp__law_otherwise (tConsD (tSlot 1) (tConsD (tIfD (tTst (tBin (rCmpI fGt) (tBin rModD (tSlot 7) (tCD (.int 4))) (tCD (.int 0)))) (tSlot 6) (tSlot 4)) (tConsD (tCD (.int 3)) (tNilD))))) (gNameD 6))
  (sDropD (tMethL rAppD (tSlot 5) (tConsD (tSlot 6) (tNilD))))))
  (sSeqD (sForD (iAnyD (tSlot 5)) (gNameD 6) (sIfD (tTst (tBin rNeD (tCallD rReprD (tConsD (tCallD sp_comp_error (tConsD (tSlot 6) (tNilD))) (tNilD))) (tCallD rReprD (tConsD (tCallD sp__law_due (tConsD (tSlot 6) (tNilD))) (tNilD))))) (sRetD (tCD (.bl false))) (sNextD)))
  (sForD (iRng1D (tConsD (tIfD (tTst (tBin (rCmpI fLt) (tCallD rLenD (tConsD (tBin rIxX (tSlot 4) (tCD (.int 1))) (tNilD))) (tCD (.int 61)))) (tCD (.int 25)) (tCD (.int 0))) (tNilD))) (gNameD 7) (sSeqD (sAsgD (tCallD sp__law_words (tConsD (tSlot 3) (tConsD (tBin rIxX (tLstV (tConsD (tCD (.int 0)) (tConsD (tCD (.int 9)) (tConsD (tCD (.int 5)) (tConsD (tCD (.int 3)) (tNilD)))))) (tSlot 3)) (tNilD)))) (gNameD 8))
  (sSeqD (sPar2 9 10 (tConsD (tBin rMulD (tCallD sp__law_one (tConsD (tSlot 1) (tConsD (tSlot 8) (tNilD)))) (tCallD sp__law_one (tConsD (tSlot 1) (tConsD (tLstV (tConsD (tCD (.int 1)) (tConsD (tCD (.int 1)) (tConsD (tCD (.int 30)) (tNilD))))) (tNilD))))) (tConsD (tCallD sp__law_one (tConsD (tSlot 1) (tConsD (tSlot 8) (tNilD)))) (tNilD))))
  (sSeqD (sAsgD (tLstV (tConsD (tCallD sp__law_tells (tConsD (tSlot 4) (tConsD (tSlot 9) (tConsD (tSlot 10) (tNilD))))) (tConsD (tCallD sp__law_tells (tConsD (tSlot 4) (tConsD (tSlot 10) (tConsD (tSlot 9) (tNilD))))) (tNilD)))) (gNameD 11))
  (sIfD (tTst (tBin rNeD (tCallD rReprD (tConsD (tLstV (tConsD (tCallD sp_tells (tConsD (tSlot 4) (tConsD (tSlot 9) (tConsD (tSlot 10) (tNilD))))) (tConsD (tCallD sp_tells (tConsD (tSlot 4) (tConsD (tSlot 10) (tConsD (tSlot 9) (tNilD))))) (tNilD)))) (tNilD))) (tCallD rReprD (tConsD (tSlot 11) (tNilD))))) (sRetD (tCD (.bl false))) (sNextD))))))))))))
  (sRetD (tCD (.bl true))))
theorem dv_law (T : Txt K mg C_Reader) (hB : SysB base) {k : Nat} {f : Addr} {cdv : Value} {A : Around} {outer : List Env} {s : Shared} {H : Hp} (hr : RoomG k (A.deeper (envOfC "law" (defScope s_law) s.heap.objs.size f cdv))) {sp__law_deck : SpD} (h__law_deck : Has P w K mg base k "_law_deck" ["_law_script"] sp__law_deck) {sp__law_draw : SpD} (h__law_draw : Has P w K mg base k "_law_draw" ["_law_deck_here", "_law_most"] sp__law_draw) {sp__law_comp : SpD} (h__law_comp : Has P w K mg base k "_law_comp" ["_law_deck_here", "_law_letters", "_law_many"] sp__law_comp) {sp__law_one : SpD} (h__law_one : Has P w K mg base k "_law_one" ["_law_deck_here", "_law_items"] sp__law_one) {sp__law_otherwise : SpD} (h__law_otherwise : Has P w K mg base k "_law_otherwise" ["_law_deck_here", "_law_value", "_law_deep"] sp__law_otherwise) {sp_comp_error : SpD} (h_comp_error : Has P w K mg base k "comp_error" ["value"] sp_comp_error) {sp__law_due : SpD} (h__law_due : Has P w K mg base k "_law_due" ["_law_value"] sp__law_due) {sp__law_words : SpD} (h__law_words : Has P w K mg base k "_law_words" ["_law_letters", "_law_most"] sp__law_words) {sp__law_tells : SpD} (h__law_tells : Has P w K mg base k "_law_tells" ["_law_comp_here", "_law_one_here", "_law_other"] sp__law_tells) {sp_tells : SpD} (h_tells : Has P w K mg base k "tells" ["comp", "one", "other"] sp_tells) :
    DSs (cxOf CX0 P w K mg base N_law "law" (defScope s_law) f cdv A outer s H E0).nox (defBody s_law) (rd_law sp__law_deck sp__law_draw sp__law_comp sp__law_one sp__law_otherwise sp_comp_error sp__law_due sp__law_words sp__law_tells sp_tells) :=
    dss_cons (ds_set 1 sc_law.nd (de_call h__law_deck hr (da_cons (de_slot 0 (pv 0)) (da_nil))))
    (dss_cons (ds_for PassesOwn.never (di_range1 T.b_range (da_cons (de_int) (da_nil))) (dg_name 2 (pg_name (i := 2) sc_law.nd rfl (Or.inl rfl))) (dss_cons (ds_set 3 sc_law.nd (de_add (de_int) (de_call h__law_draw hr (da_cons (de_slot 1 (pv 1)) (da_cons (de_int) (da_nil))))))
    (dss_cons (ds_set 4 sc_law.nd (de_call h__law_comp hr (da_cons (de_slot 1 (pv 1)) (da_cons (de_slot 3 (pv 3)) (da_cons (de_add (de_int) (de_call h__law_draw hr (da_cons (de_slot 1 (pv 1)) (da_cons (de_call h__law_one hr (da_cons (de_slot 1 (pv 1)) (da_cons (de_lstV (da_cons (de_int) (da_cons (de_int) (da_cons (de_int) (da_nil))))) (da_nil)))) (da_nil))))) (da_nil))))))
    (dss_cons (ds_par 5 6 sc_law.nd (da_cons (de_lstR (da_cons (de_slot 4 (pv 4)) (da_cons (de_callTy call_listV T.b_list bt_list (da_cons (de_slot 4 (pv 4)) (da_nil))) (da_cons (de_slice (de_slot 4 (pv 4)) (do_none) (do_some (de_int))) (da_cons (de_add (de_slot 4 (pv 4)) (de_tup (da_cons (de_int) (da_nil)))) (da_cons (de_non) (da_cons (de_int) (da_cons (de_str) (da_cons (de_dicV) (da_cons (de_tup (da_nil)) (da_cons (de_tup (da_cons (de_int) (da_cons (de_tup (da_nil)) (da_cons (de_tup (da_nil)) (da_nil))))) (da_nil)))))))))))) (da_cons (de_slot 4 (pv 4)) (da_nil))))
    (dss_cons (ds_for PassesOwn.never (di_range1 T.b_range (da_cons (de_int) (da_nil))) (dg_name 7 (pg_name (i := 7) sc_law.nd rfl (Or.inl rfl))) (dss_cons (ds_set 6 sc_law.nd (de_call h__law_otherwise hr (da_cons (de_slot 1 (pv 1)) (da_cons (de_if (dt_gt (de_mod (de_slot 7 (pv 7)) (de_int)) (de_int)) (de_slot 6 (pv 6)) (de_slot 4 (pv 4))) (da_cons (de_int) (da_nil))))))
    (dss_one (ds_expr (de_append (de_slot 5 (pv 5)) (da_cons (de_slot 6 (pv 6)) (da_nil)))))))
    (dss_cons (ds_for PassesOwn.never (di_any (de_slot 5 (pv 5))) (dg_name 6 (pg_name (i := 6) sc_law.nd rfl (Or.inl rfl))) (dss_one (ds_if (dt_ne hr hB (de_callB (call_reprD _ hr hB) T.b_repr bt_repr (da_cons (de_call h_comp_error hr (da_cons (de_slot 6 (pv 6)) (da_nil))) (da_nil))) (de_callB (call_reprD _ hr hB) T.b_repr bt_repr (da_cons (de_call h__law_due hr (da_cons (de_slot 6 (pv 6)) (da_nil))) (da_nil)))) (dss_one (ds_ret (de_bl))) (dss_nil))))
    (dss_one (ds_for PassesOwn.never (di_range1 T.b_range (da_cons (de_if (dt_lt (de_callB call_lenRD T.b_len bt_len (da_cons (de_ixX hr (de_slot 4 (pv 4)) (de_int)) (da_nil))) (de_int)) (de_int) (de_int)) (da_nil))) (dg_name 7 (pg_name (i := 7) sc_law.nd rfl (Or.inl rfl))) (dss_cons (ds_set 8 sc_law.nd (de_call h__law_words hr (da_cons (de_slot 3 (pv 3)) (da_cons (de_ixX hr (de_lstV (da_cons (de_int) (da_cons (de_int) (da_cons (de_int) (da_cons (de_int) (da_nil)))))) (de_slot 3 (pv 3))) (da_nil)))))
    (dss_cons (ds_par 9 10 sc_law.nd (da_cons (de_mul (de_call h__law_one hr (da_cons (de_slot 1 (pv 1)) (da_cons (de_slot 8 (pv 8)) (da_nil)))) (de_call h__law_one hr (da_cons (de_slot 1 (pv 1)) (da_cons (de_lstV (da_cons (de_int) (da_cons (de_int) (da_cons (de_int) (da_nil))))) (da_nil))))) (da_cons (de_call h__law_one hr (da_cons (de_slot 1 (pv 1)) (da_cons (de_slot 8 (pv 8)) (da_nil)))) (da_nil))))
    (dss_cons (ds_set 11 sc_law.nd (de_lstV (da_cons (de_call h__law_tells hr (da_cons (de_slot 4 (pv 4)) (da_cons (de_slot 9 (pv 9)) (da_cons (de_slot 10 (pv 10)) (da_nil))))) (da_cons (de_call h__law_tells hr (da_cons (de_slot 4 (pv 4)) (da_cons (de_slot 10 (pv 10)) (da_cons (de_slot 9 (pv 9)) (da_nil))))) (da_nil)))))
    (dss_one (ds_if (dt_ne hr hB (de_callB (call_reprD _ hr hB) T.b_repr bt_repr (da_cons (de_lstV (da_cons (de_call h_tells hr (da_cons (de_slot 4 (pv 4)) (da_cons (de_slot 9 (pv 9)) (da_cons (de_slot 10 (pv 10)) (da_nil))))) (da_cons (de_call h_tells hr (da_cons (de_slot 4 (pv 4)) (da_cons (de_slot 10 (pv 10)) (da_cons (de_slot 9 (pv 9)) (da_nil))))) (da_nil)))) (da_nil))) (de_callB (call_reprD _ hr hB) T.b_repr bt_repr (da_cons (de_slot 11 (pv 11)) (da_nil)))) (dss_one (ds_ret (de_bl))) (dss_nil))))))))))))))
    (dss_one (ds_ret (de_bl))))
theorem mk_law (D : DefOf K mg "law" s_law) (T : Txt K mg C_Reader) (hB : SysB base) {k : Nat} {sp__law_deck : SpD} (h__law_deck : Has P w K mg base k "_law_deck" ["_law_script"] sp__law_deck) {sp__law_draw : SpD} (h__law_draw : Has P w K mg base k "_law_draw" ["_law_deck_here", "_law_most"] sp__law_draw) {sp__law_comp : SpD} (h__law_comp : Has P w K mg base k "_law_comp" ["_law_deck_here", "_law_letters", "_law_many"] sp__law_comp) {sp__law_one : SpD} (h__law_one : Has P w K mg base k "_law_one" ["_law_deck_here", "_law_items"] sp__law_one) {sp__law_otherwise : SpD} (h__law_otherwise : Has P w K mg base k "_law_otherwise" ["_law_deck_here", "_law_value", "_law_deep"] sp__law_otherwise) {sp_comp_error : SpD} (h_comp_error : Has P w K mg base k "comp_error" ["value"] sp_comp_error) {sp__law_due : SpD} (h__law_due : Has P w K mg base k "_law_due" ["_law_value"] sp__law_due) {sp__law_words : SpD} (h__law_words : Has P w K mg base k "_law_words" ["_law_letters", "_law_most"] sp__law_words) {sp__law_tells : SpD} (h__law_tells : Has P w K mg base k "_law_tells" ["_law_comp_here", "_law_one_here", "_law_other"] sp__law_tells) {sp_tells : SpD} (h_tells : Has P w K mg base k "tells" ["comp", "one", "other"] sp_tells) {sp : SpD} (len : ∀ ds S Q, sp ds S Q → ds.length = 1) (hq : ∀ ds S Qd, sp ds S Qd → rd_law sp__law_deck sp__law_draw sp__law_comp sp__law_one sp__law_otherwise sp_comp_error sp__law_due sp__law_words sp__law_tells sp_tells { nx := fun _ S2 => fin Qd .non S2, rt := fin Qd, bk := fun _ _ => False, ct := fun _ _ => False } (pad 12 ds) S) : Has P w K mg base (k + 1) "law" ["_law_script"] sp :=
  let ⟨f, fd, F, hm⟩ := D.ex
  .of F hm (F.binds fun _ _ _ _ _ _ us hl => match us, hl with | [_], _ => rfl) (FnD.of F sc_law _ len (fun cdv A outer s H hr => dv_law T hB hr h__law_deck h__law_draw h__law_comp h__law_one h__law_otherwise h_comp_error h__law_due h__law_words h__law_tells h_tells) hq)
end
end K36
end

section
/-! P36a: columns. -/
namespace K36
open PySem PySem.Spec PyProof.Rows PD
local macro_rules | `(tactic| walk_at "rdx") => `(tactic| simp only [PD.pad, PD.gt_z, PD.gt_s, PD.st_z, PD.st_s, PD.sNextD, PD.sSeqD, PD.sBreakD, PD.sContD, PD.sDropD, PD.sRetD, PD.sRetND, PD.sIfD, PD.sNeverD, PD.sAsgD, PD.sPar2, PD.sPar3, PD.gNameD, PD.gNilD, PD.gConsD, PD.gTupD, PD.gSubD, PD.tNilD, PD.tConsD, PD.tTupD, PD.tLstV, PD.tLstR, PD.tBin, PD.tTst, PD.tAndD, PD.tOrD, PD.tNotD, PD.tIfD, PD.tAndV, PD.tOrV, PD.tNotV, PD.tUnD, PD.rNeg, PD.tCallD, PD.tSlot, PD.tCD, PD.tChainD, PD.rIsN, PD.rNotN, PD.rIsiD, PD.isi_non, PD.isi_bl, PD.isi_int, PD.isi_str, PD.isi_tup, PD.isi_lst, PD.isi_dic, PD.Ty.name, PD.rCmpI, PD.fLt, PD.fLe, PD.fGt, PD.fGe, PD.rAddD, PD.rSubD, PD.rFdivD, PD.rModD, PD.rPowD, PD.rMulD, PD.rAddR, PD.rMulR, PD.asSeq, PD.asLst, PD.rLenD, PD.rTupleD, PD.rListV, PD.rListR, PD.rIntD, PD.rBoolD, PD.rAbsD, PD.rIxD, PD.oNone, PD.oSome, PD.tSlD, PD.rSlD, PD.tRevTD, PD.rEqD, PD.rNeD, PD.nrm_non, PD.nrm_bl, PD.nrm_int, PD.nrm_str, PD.nrm_tup, PD.nrm_lst, PD.nrm_dic, PD.nrm_ref, PD.iSeqD, PD.iRng1D, PD.iRng2D, PD.sForD, PD.tLcV, PD.tLcR, PD.tYesD, PD.wipeD, PD.tMethL, PD.rAppD, PD.isRefL, PD.tDicV, PD.keyOf, PD.asDic, PD.srcD, PD.iAnyD, PD.iZipD, PD.iEnumD, PD.tDcV, PD.tDicR, PD.gSubX, PD.rSetX, PD.rIxX, PD.rInD, PD.rInX, PD.rInY, PD.rSumD, PD.tRevLD, PD.tRevX, PD.rSixD, PD.rJoinD, PD.tMethS, PD.rLixD, PD.rPopD, PD.rExtD, PD.tMethA, PD.rSetD, PD.rReprD, PD.eqk_int, PD.eqd_int, PD.eqk_str, PD.eqd_str, PD.eqk_lst0, PD.eqd_lst0, PD.eqk_tup0, PD.eqd_tup0, PD.tdOf, PD.rInW, PD.rIxW, PD.rSetW, PD.gSubW, PD.rLenW, PD.rGetW, PD.rGetAt, PD.tMethW, PD.rSetdW, PD.tDispR, PD.tPairsD, PD.putAll, PD.tDisp1T, PD.gSeqD, PD.rListW, PD.tLenSetD, PD.tFldD, PD.fldD, PD.tMethC, PD.methD, PD.tMakeD, PD.sFldD, PD.tMethB, PD.rLjD, PD.tCallX, PD.sRetX, PD.sRaiseD, PD.sTryD, PD.hdlD, PD.noX, Option.map_some, Option.bind_some, PD.spFn, PD.spDraw, reduceIte, true_and, and_true, or_false, false_or, Bool.not_true, Bool.not_false, Bool.false_eq_true, List.length_cons, List.length_nil, List.set_cons_zero, List.set_cons_succ, PD.HD.set_same, PD.HD.tick_hp, PD.HD.tick_c, PD.HD.tick_dk, PD.HD.set_c, PD.HD.set_dk])
local macro_rules | `(tactic| simp_all only [$xs,*]) => `(tactic| simp only [PD.pad, PD.gt_z, PD.gt_s, PD.st_z, PD.st_s, PD.sNextD, PD.sSeqD, PD.sBreakD, PD.sContD, PD.sDropD, PD.sRetD, PD.sRetND, PD.sIfD, PD.sNeverD, PD.sAsgD, PD.sPar2, PD.sPar3, PD.gNameD, PD.gNilD, PD.gConsD, PD.gTupD, PD.gSubD, PD.tNilD, PD.tConsD, PD.tTupD, PD.tLstV, PD.tLstR, PD.tBin, PD.tTst, PD.tAndD, PD.tOrD, PD.tNotD, PD.tIfD, PD.tAndV, PD.tOrV, PD.tNotV, PD.tUnD, PD.rNeg, PD.tCallD, PD.tSlot, PD.tCD, PD.tChainD, PD.rIsN, PD.rNotN, PD.rIsiD, PD.isi_non, PD.isi_bl, PD.isi_int, PD.isi_str, PD.isi_tup, PD.isi_lst, PD.isi_dic, PD.Ty.name, PD.rCmpI, PD.fLt, PD.fLe, PD.fGt, PD.fGe, PD.rAddD, PD.rSubD, PD.rFdivD, PD.rModD, PD.rPowD, PD.rMulD, PD.rAddR, PD.rMulR, PD.asSeq, PD.asLst, PD.rLenD, PD.rTupleD, PD.rListV, PD.rListR, PD.rIntD, PD.rBoolD, PD.rAbsD, PD.rIxD, PD.oNone, PD.oSome, PD.tSlD, PD.rSlD, PD.tRevTD, PD.rEqD, PD.rNeD, PD.nrm_non, PD.nrm_bl, PD.nrm_int, PD.nrm_str, PD.nrm_tup, PD.nrm_lst, PD.nrm_dic, PD.nrm_ref, PD.iSeqD, PD.iRng1D, PD.iRng2D, PD.sForD, PD.tLcV, PD.tLcR, PD.tYesD, PD.wipeD, PD.tMethL, PD.rAppD, PD.isRefL, PD.tDicV, PD.keyOf, PD.asDic, PD.srcD, PD.iAnyD, PD.iZipD, PD.iEnumD, PD.tDcV, PD.tDicR, PD.gSubX, PD.rSetX, PD.rIxX, PD.rInD, PD.rInX, PD.rInY, PD.rSumD, PD.tRevLD, PD.tRevX, PD.rSixD, PD.rJoinD, PD.tMethS, PD.rLixD, PD.rPopD, PD.rExtD, PD.tMethA, PD.rSetD, PD.rReprD, PD.eqk_int, PD.eqd_int, PD.eqk_str, PD.eqd_str, PD.eqk_lst0, PD.eqd_lst0, PD.eqk_tup0, PD.eqd_tup0, PD.tdOf, PD.rInW, PD.rIxW, PD.rSetW, PD.gSubW, PD.rLenW, PD.rGetW, PD.rGetAt, PD.tMethW, PD.rSetdW, PD.tDispR, PD.tPairsD, PD.putAll, PD.tDisp1T, PD.gSeqD, PD.rListW, PD.tLenSetD, PD.tFldD, PD.fldD, PD.tMethC, PD.methD, PD.tMakeD, PD.sFldD, PD.tMethB, PD.rLjD, PD.tCallX, PD.sRetX, PD.sRaiseD, PD.sTryD, PD.hdlD, PD.noX, Option.map_some, Option.bind_some, PD.spFn, PD.spDraw, reduceIte, true_and, and_true, or_false, false_or, Bool.not_true, Bool.not_false, Bool.false_eq_true, List.length_cons, List.length_nil, List.set_cons_zero, List.set_cons_succ, PD.HD.set_same, PD.HD.tick_hp, PD.HD.tick_c, PD.HD.tick_dk, PD.HD.set_c, PD.HD.set_dk, $xs,*])
def zs : Nat → Str
  | 1 => "a."
  | 2 => "ab."
  | _ => "abc."
def glue (a b : D) : Option D := match a, b with
  | .str x, .str y => some (.str (x ++ y))
  | _, _ => none
/-- all columns of the signs of a text -/
def colsZ (z : Str) : List D := (signsD z).flatMap fun a => (signsD z).filterMap (glue a)
def cols (L : Nat) : List D := (colsZ (zs L)).dropLast
def spCols : SpD := fun ds S Q => ∃ L : Nat, ds = [.int (L : Nat)] ∧ 1 ≤ L ∧ L ≤ 3 ∧ Q (.tup (cols L)) S
def spColsL : SpD := fun ds S Q => ∃ L : Nat, ds = [.int (L : Nat)] ∧ 1 ≤ L ∧ L ≤ 3 ∧ Q (.lst (cols L)) S
theorem cols_len (ds : List D) (S : HD) (Q : QD) (h : spCols ds S Q) : ds.length = 1 := by
  obtain ⟨_, rfl, _⟩ := h
  rfl
theorem colsL_len (ds : List D) (S : HD) (Q : QD) (h : spColsL ds S Q) : ds.length = 1 := by
  obtain ⟨_, rfl, _⟩ := h
  rfl
theorem fm_le {α β : Type} {f : α → List β} {m : Nat} (h : ∀ x, (f x).length ≤ m) : ∀ xs : List α, (xs.flatMap f).length ≤ xs.length * m
  | [] => by simp
  | x :: xs => by
    rw [List.flatMap_cons, List.length_append, List.length_cons, Nat.add_mul]
    have := h x
    have := fm_le h xs
    omega
theorem cols_ok (ds : List D) (S : HD) (Q : QD) (h : spCols ds S Q) : rd_columns (ends Q) (pad 5 ds) S := by
  obtain ⟨L, rfl, h1, h3, q⟩ := h
  unfold rd_columns
  refine seq_step fun N1 hN1 => ?_
  have lz : ∀ z : Str, z = zs L → z.length = L + 1 := fun z e => by
    subst e
    obtain rfl | rfl | rfl : L = 1 ∨ L = 2 ∨ L = 3 := by omega
    all_goals decide +kernel
  have ez : L2.cutS (Str.ofString "abc") none (some (L : Int)) ++ Str.ofString "." = zs L := by
    obtain rfl | rfl | rfl : L = 1 ∨ L = 2 ∨ L = 3 := by omega
    all_goals decide +kernel
  have ll : (L2.cutS (Str.ofString "abc") none (some (L : Int))).length = L := by
    obtain rfl | rfl | rfl : L = 1 ∨ L = 2 ∨ L = 3 := by omega
    all_goals decide +kernel
  have hsl : (sizeLine : Nat) = 16777216 := rfl
  have l3 : (Str.ofString "abc").length = 3 := by decide +kernel
  have l1 : (Str.ofString ".").length = 1 := by decide +kernel
  walk_at "rdx"
  rw [l3, ll, l1, ez]
  refine ⟨by omega, by omega, by decide, fun p hp => hN1 _ _ ?_⟩
  clear hN1 N1
  refine seq_step fun N1 hN1 => ?_
  generalize hB : sDropD _ = B1
  walk_at "rdx"
  refine loopD_go (fun i σ S' => (∃ v3, σ = [some (.int (L : Nat)), some (.str (zs L)), some (.ref p), v3, none]) ∧ S'.hp p = some (.lst (((signsD (zs L)).take i).flatMap fun a => (signsD (zs L)).filterMap (glue a))) ∧ Up 0 S S') ⟨⟨_, rfl⟩, HD.set_same, (Up.refl S).set hp⟩ (fun i d σ S' N hi ⟨⟨v3, e1⟩, e2, e3⟩ kk => ⟨trivial, ?_⟩) fun σ S' ⟨⟨v3, e1⟩, e2, e3⟩ => ⟨trivial, ?_⟩
  · subst e1
    obtain ⟨x, hx, rfl⟩ : ∃ x, x ∈ (zs L).cps.toList ∧ d = .str ⟨#[x]⟩ := by
      obtain ⟨x, hx, e⟩ := List.mem_map.mp (List.mem_of_getElem? hi)
      exact ⟨x, hx, e.symm⟩
    walk_at "rdx"
    subst hB
    walk_at "rdx"
    refine ⟨⟨_, by show (match S'.hp p with | some (.lst xs) => some xs | _ => none) = _; rw [e2]⟩, ?_⟩
    have ls : (signsD (zs L)).length = L + 1 := by
      show (List.map _ _).length = _
      rw [List.length_map]
      exact lz _ rfl
    have hb := fm_le (f := fun a => (signsD (zs L)).filterMap (glue a)) (m := L + 1) (fun a => Nat.le_trans (List.length_filterMap_le _ _) (Nat.le_of_eq ls)) ((signsD (zs L)).take i)
    have hb2 : ((signsD (zs L)).take i).length * (L + 1) ≤ 4 * 4 := Nat.mul_le_mul (by rw [List.length_take]; omega) (by omega)
    refine ⟨by omega, lcD_pure (glue (.str ⟨#[x]⟩)) trivial _ _ (fun d hd Q1 Q0 h => ?_) ?_⟩
    · obtain ⟨y, hy, rfl⟩ := List.mem_map.mp hd
      walk_at "rdx"
      exact ⟨by show 1 + 1 ≤ sizeLine; omega, h⟩
    rw [e2, List.nil_append]
    refine ⟨by
      have := Nat.le_trans (List.length_filterMap_le (glue (.str ⟨#[x]⟩)) (signsD (zs L))) (Nat.le_of_eq ls)
      omega, kk _ _ ⟨⟨_, rfl⟩, ?_, e3.set hp⟩⟩
    rw [HD.set_same, List.take_add_one, hi, List.flatMap_append]
    simp
  · subst e1
    refine hN1 _ _ ?_
    clear hN1 N1
    walk_at "rdx"
    rw [e2]
    show fin Q _ S'
    rw [cut_last, List.take_of_length_le (Nat.le_refl _), ← List.dropLast_eq_take]
    exact e3.fin (n := 0) q
theorem colsL_ok (ds : List D) (S : HD) (Q : QD) (h : spColsL ds S Q) : rd__law_columns (ends Q) (pad 5 ds) S := by
  obtain ⟨L, rfl, h1, h3, q⟩ := h
  unfold rd__law_columns
  refine seq_step fun N1 hN1 => ?_
  have lz : ∀ z : Str, z = zs L → z.length = L + 1 := fun z e => by
    subst e
    obtain rfl | rfl | rfl : L = 1 ∨ L = 2 ∨ L = 3 := by omega
    all_goals decide +kernel
  have ez : L2.cutS (Str.ofString "abc") none (some (L : Int)) ++ Str.ofString "." = zs L := by
    obtain rfl | rfl | rfl : L = 1 ∨ L = 2 ∨ L = 3 := by omega
    all_goals decide +kernel
  have ll : (L2.cutS (Str.ofString "abc") none (some (L : Int))).length = L := by
    obtain rfl | rfl | rfl : L = 1 ∨ L = 2 ∨ L = 3 := by omega
    all_goals decide +kernel
  have hsl : (sizeLine : Nat) = 16777216 := rfl
  have l3 : (Str.ofString "abc").length = 3 := by decide +kernel
  have l1 : (Str.ofString ".").length = 1 := by decide +kernel
  walk_at "rdx"
  rw [l3, ll, l1, ez]
  refine ⟨by omega, by omega, by decide, fun p hp => hN1 _ _ ?_⟩
  clear hN1 N1
  refine seq_step fun N1 hN1 => ?_
  generalize hB : sDropD _ = B1
  walk_at "rdx"
  refine loopD_go (fun i σ S' => (∃ v3, σ = [some (.int (L : Nat)), some (.str (zs L)), some (.ref p), v3, none]) ∧ S'.hp p = some (.lst (((signsD (zs L)).take i).flatMap fun a => (signsD (zs L)).filterMap (glue a))) ∧ Up 0 S S') ⟨⟨_, rfl⟩, HD.set_same, (Up.refl S).set hp⟩ (fun i d σ S' N hi ⟨⟨v3, e1⟩, e2, e3⟩ kk => ⟨trivial, ?_⟩) fun σ S' ⟨⟨v3, e1⟩, e2, e3⟩ => ⟨trivial, ?_⟩
  · subst e1
    obtain ⟨x, hx, rfl⟩ : ∃ x, x ∈ (zs L).cps.toList ∧ d = .str ⟨#[x]⟩ := by
      obtain ⟨x, hx, e⟩ := List.mem_map.mp (List.mem_of_getElem? hi)
      exact ⟨x, hx, e.symm⟩
    walk_at "rdx"
    subst hB
    walk_at "rdx"
    refine ⟨⟨_, by show (match S'.hp p with | some (.lst xs) => some xs | _ => none) = _; rw [e2]⟩, ?_⟩
    have ls : (signsD (zs L)).length = L + 1 := by
      show (List.map _ _).length = _
      rw [List.length_map]
      exact lz _ rfl
    have hb := fm_le (f := fun a => (signsD (zs L)).filterMap (glue a)) (m := L + 1) (fun a => Nat.le_trans (List.length_filterMap_le _ _) (Nat.le_of_eq ls)) ((signsD (zs L)).take i)
    have hb2 : ((signsD (zs L)).take i).length * (L + 1) ≤ 4 * 4 := Nat.mul_le_mul (by rw [List.length_take]; omega) (by omega)
    refine ⟨by omega, lcD_pure (glue (.str ⟨#[x]⟩)) trivial _ _ (fun d hd Q1 Q0 h => ?_) ?_⟩
    · obtain ⟨y, hy, rfl⟩ := List.mem_map.mp hd
      walk_at "rdx"
      exact ⟨by show 1 + 1 ≤ sizeLine; omega, h⟩
    rw [e2, List.nil_append]
    refine ⟨by
      have := Nat.le_trans (List.length_filterMap_le (glue (.str ⟨#[x]⟩)) (signsD (zs L))) (Nat.le_of_eq ls)
      omega, kk _ _ ⟨⟨_, rfl⟩, ?_, e3.set hp⟩⟩
    rw [HD.set_same, List.take_add_one, hi, List.flatMap_append]
    simp
  · subst e1
    refine hN1 _ _ ?_
    clear hN1 N1
    walk_at "rdx"
    rw [e2]
    show fin Q _ S'
    rw [cut_last, List.take_of_length_le (Nat.le_refl _), ← List.dropLast_eq_take]
    exact e3.fin (n := 0) q
end K36
end

section
/-! P36b: what is wrong with a value as a comparison. -/
namespace K36
open PySem PySem.Spec PyProof.Rows PD
local macro_rules | `(tactic| walk_at "rdx") => `(tactic| simp only [PD.pad, PD.gt_z, PD.gt_s, PD.st_z, PD.st_s, PD.sNextD, PD.sSeqD, PD.sBreakD, PD.sContD, PD.sDropD, PD.sRetD, PD.sRetND, PD.sIfD, PD.sNeverD, PD.sAsgD, PD.sPar2, PD.sPar3, PD.gNameD, PD.gNilD, PD.gConsD, PD.gTupD, PD.gSubD, PD.tNilD, PD.tConsD, PD.tTupD, PD.tLstV, PD.tLstR, PD.tBin, PD.tTst, PD.tAndD, PD.tOrD, PD.tNotD, PD.tIfD, PD.tAndV, PD.tOrV, PD.tNotV, PD.tUnD, PD.rNeg, PD.tCallD, PD.tSlot, PD.tCD, PD.tChainD, PD.rIsN, PD.rNotN, PD.rIsiD, PD.isi_non, PD.isi_bl, PD.isi_int, PD.isi_str, PD.isi_tup, PD.isi_lst, PD.isi_dic, PD.Ty.name, PD.rCmpI, PD.fLt, PD.fLe, PD.fGt, PD.fGe, PD.rAddD, PD.rSubD, PD.rFdivD, PD.rModD, PD.rPowD, PD.rMulD, PD.rAddR, PD.rMulR, PD.asSeq, PD.asLst, PD.rLenD, PD.rTupleD, PD.rListV, PD.rListR, PD.rIntD, PD.rBoolD, PD.rAbsD, PD.rIxD, PD.oNone, PD.oSome, PD.tSlD, PD.rSlD, PD.tRevTD, PD.rEqD, PD.rNeD, PD.nrm_non, PD.nrm_bl, PD.nrm_int, PD.nrm_str, PD.nrm_tup, PD.nrm_lst, PD.nrm_dic, PD.nrm_ref, PD.iSeqD, PD.iRng1D, PD.iRng2D, PD.sForD, PD.tLcV, PD.tLcR, PD.tYesD, PD.wipeD, PD.tMethL, PD.rAppD, PD.isRefL, PD.tDicV, PD.keyOf, PD.asDic, PD.srcD, PD.iAnyD, PD.iZipD, PD.iEnumD, PD.tDcV, PD.tDicR, PD.gSubX, PD.rSetX, PD.rIxX, PD.rInD, PD.rInX, PD.rInY, PD.rSumD, PD.tRevLD, PD.tRevX, PD.rSixD, PD.rJoinD, PD.tMethS, PD.rLixD, PD.rPopD, PD.rExtD, PD.tMethA, PD.rSetD, PD.rReprD, PD.eqk_int, PD.eqd_int, PD.eqk_str, PD.eqd_str, PD.eqk_lst0, PD.eqd_lst0, PD.eqk_tup0, PD.eqd_tup0, PD.tdOf, PD.rInW, PD.rIxW, PD.rSetW, PD.gSubW, PD.rLenW, PD.rGetW, PD.rGetAt, PD.tMethW, PD.rSetdW, PD.tDispR, PD.tPairsD, PD.putAll, PD.tDisp1T, PD.gSeqD, PD.rListW, PD.tLenSetD, PD.tFldD, PD.fldD, PD.tMethC, PD.methD, PD.tMakeD, PD.sFldD, PD.tMethB, PD.rLjD, PD.tCallX, PD.sRetX, PD.sRaiseD, PD.sTryD, PD.hdlD, PD.noX, Option.map_some, Option.bind_some, PD.spFn, PD.spDraw, reduceIte, true_and, and_true, or_false, false_or, Bool.not_true, Bool.not_false, Bool.false_eq_true, List.length_cons, List.length_nil, List.set_cons_zero, List.set_cons_succ, PD.HD.set_same, PD.HD.tick_hp, PD.HD.tick_c, PD.HD.tick_dk, PD.HD.set_c, PD.HD.set_dk])
local macro_rules | `(tactic| simp_all only [$xs,*]) => `(tactic| simp only [PD.pad, PD.gt_z, PD.gt_s, PD.st_z, PD.st_s, PD.sNextD, PD.sSeqD, PD.sBreakD, PD.sContD, PD.sDropD, PD.sRetD, PD.sRetND, PD.sIfD, PD.sNeverD, PD.sAsgD, PD.sPar2, PD.sPar3, PD.gNameD, PD.gNilD, PD.gConsD, PD.gTupD, PD.gSubD, PD.tNilD, PD.tConsD, PD.tTupD, PD.tLstV, PD.tLstR, PD.tBin, PD.tTst, PD.tAndD, PD.tOrD, PD.tNotD, PD.tIfD, PD.tAndV, PD.tOrV, PD.tNotV, PD.tUnD, PD.rNeg, PD.tCallD, PD.tSlot, PD.tCD, PD.tChainD, PD.rIsN, PD.rNotN, PD.rIsiD, PD.isi_non, PD.isi_bl, PD.isi_int, PD.isi_str, PD.isi_tup, PD.isi_lst, PD.isi_dic, PD.Ty.name, PD.rCmpI, PD.fLt, PD.fLe, PD.fGt, PD.fGe, PD.rAddD, PD.rSubD, PD.rFdivD, PD.rModD, PD.rPowD, PD.rMulD, PD.rAddR, PD.rMulR, PD.asSeq, PD.asLst, PD.rLenD, PD.rTupleD, PD.rListV, PD.rListR, PD.rIntD, PD.rBoolD, PD.rAbsD, PD.rIxD, PD.oNone, PD.oSome, PD.tSlD, PD.rSlD, PD.tRevTD, PD.rEqD, PD.rNeD, PD.nrm_non, PD.nrm_bl, PD.nrm_int, PD.nrm_str, PD.nrm_tup, PD.nrm_lst, PD.nrm_dic, PD.nrm_ref, PD.iSeqD, PD.iRng1D, PD.iRng2D, PD.sForD, PD.tLcV, PD.tLcR, PD.tYesD, PD.wipeD, PD.tMethL, PD.rAppD, PD.isRefL, PD.tDicV, PD.keyOf, PD.asDic, PD.srcD, PD.iAnyD, PD.iZipD, PD.iEnumD, PD.tDcV, PD.tDicR, PD.gSubX, PD.rSetX, PD.rIxX, PD.rInD, PD.rInX, PD.rInY, PD.rSumD, PD.tRevLD, PD.tRevX, PD.rSixD, PD.rJoinD, PD.tMethS, PD.rLixD, PD.rPopD, PD.rExtD, PD.tMethA, PD.rSetD, PD.rReprD, PD.eqk_int, PD.eqd_int, PD.eqk_str, PD.eqd_str, PD.eqk_lst0, PD.eqd_lst0, PD.eqk_tup0, PD.eqd_tup0, PD.tdOf, PD.rInW, PD.rIxW, PD.rSetW, PD.gSubW, PD.rLenW, PD.rGetW, PD.rGetAt, PD.tMethW, PD.rSetdW, PD.tDispR, PD.tPairsD, PD.putAll, PD.tDisp1T, PD.gSeqD, PD.rListW, PD.tLenSetD, PD.tFldD, PD.fldD, PD.tMethC, PD.methD, PD.tMakeD, PD.sFldD, PD.tMethB, PD.rLjD, PD.tCallX, PD.sRetX, PD.sRaiseD, PD.sTryD, PD.hdlD, PD.noX, Option.map_some, Option.bind_some, PD.spFn, PD.spDraw, reduceIte, true_and, and_true, or_false, false_or, Bool.not_true, Bool.not_false, Bool.false_eq_true, List.length_cons, List.length_nil, List.set_cons_zero, List.set_cons_succ, PD.HD.set_same, PD.HD.tick_hp, PD.HD.tick_c, PD.HD.tick_dk, PD.HD.set_c, PD.HD.set_dk, $xs,*])
def isNum (d : D) (a b : Int) : Bool := match d with
  | .int i => decide (a ≤ i) && decide (i ≤ b)
  | _ => false
def fNum : List D → Option D
  | [d, .int a, .int b] => if okR d = true then some (.bl (isNum d a b)) else none
  | _ => none
theorem fNum_ok {d : D} {a b : Int} (h : okR d = true) : fNum [d, .int a, .int b] = some (.bl (isNum d a b)) := if_pos h
theorem fNum_inv {ds : List D} {r : D} (h : fNum ds = some r) : ∃ d a b, ds = [d, .int a, .int b] ∧ okR d = true ∧ r = .bl (isNum d a b) := by
  unfold fNum at h
  split at h
  · split at h
    · cases h; exact ⟨_, _, _, rfl, by assumption, rfl⟩
    · cases h
  · cases h
theorem spFn_inv {f : List D → Option D} {ds : List D} {S : HD} {Q : QD} (h : spFn f ds S Q) : ∃ r, f ds = some r ∧ Q r S := by
  unfold spFn at h
  split at h
  · exact ⟨_, by assumption, h⟩
  · exact h.elim
theorem num_len (ds : List D) (S : HD) (Q : QD) (h : spFn fNum ds S Q) : ds.length = 3 := by
  obtain ⟨r, e, _⟩ := spFn_inv h
  obtain ⟨_, _, _, rfl, _⟩ := fNum_inv e
  rfl
theorem num_ok (ds : List D) (S : HD) (Q : QD) (h : spFn fNum ds S Q) : rd_is_integer (ends Q) (pad 3 ds) S := by
  obtain ⟨r, e, q⟩ := spFn_inv h
  obtain ⟨d, a, b, rfl, ok, rfl⟩ := fNum_inv e
  have q' := fin.here q
  clear q h e
  unfold rd_is_integer
  walk_at "rdx"
  rw [isT_ok ok, isT_ok ok]
  cases d <;> first | exact q' | skip
  rename_i i
  simp only [isNum] at q'
  by_cases h : a ≤ i
  · simpa [isT, isiB, h] using q'
  · simpa [isT, isiB, h] using q'
theorem whole_ok (ds : List D) (S : HD) (Q : QD) (h : spFn fNum ds S Q) : rd__law_whole (ends Q) (pad 3 ds) S := num_ok ds S Q h
/-- a row -/
def isRow (d : D) (L : Nat) (n : Int) : Bool := match d with
  | .tup xs => decide (xs.length = (cols L).length) && xs.all fun x => isNum x 0 (n - 1)
  | _ => false
def spRow : SpD := fun ds S Q => ∃ (d : D) (L : Nat) (n : Int), ds = [d, .int (L : Nat), .int n] ∧ okR d = true ∧ 1 ≤ L ∧ L ≤ 3 ∧ Q (.bl (isRow d L n)) S
theorem row_len (ds : List D) (S : HD) (Q : QD) (h : spRow ds S Q) : ds.length = 3 := by
  obtain ⟨_, _, _, rfl, _⟩ := h
  rfl
theorem cols_le {L : Nat} (h1 : 1 ≤ L) (h3 : L ≤ 3) : (cols L).length = (L + 1) * (L + 1) - 1 := by
  obtain rfl | rfl | rfl : L = 1 ∨ L = 2 ∨ L = 3 := by omega
  all_goals decide +kernel
theorem all_nn (xs : List D) (p : D → Bool) : (xs.all fun d => !(!p d)) = xs.all p := by congr 1; funext d; simp
theorem nums_lc {i : Nat} {a b : Int} {ta tb : TED} {σ : SD} {S : HD} {xs : List D} {Q : List D → HD → Prop} {keep : HD → Prop} (hi : i < σ.length) (hk : keep S) (ok : ∀ x ∈ xs, okR x = true)
    (h1 : ∀ d (Q : QD), Q (.int a) S → ta (st σ i d) S Q) (h2 : ∀ d (Q : QD), Q (.int b) S → tb (st σ i d) S Q) (q : Q (xs.filterMap fun d => if (!isNum d a b) = true then some d else none) S) :
    lcD (gNameD i) (tNotD (tTst (tCallD (spFn fNum) (tConsD (tSlot i) (tConsD ta (tConsD tb (tNilD))))))) (tSlot i) σ keep Q xs [] S := by
  refine lcD_pure _ hk xs [] (fun d hd Q1 Q0 h => ?_) (by simpa using q)
  have e := fNum_ok (a := a) (b := b) (ok d hd)
  have hs : gt (st σ i d) i = some d := by
    clear q h h1 h2
    induction i generalizing σ with
    | zero => cases σ with
      | nil => cases hi
      | cons x r => rfl
    | succ i ih => cases σ with
      | nil => cases hi
      | cons x r => exact ih (by simpa using hi)
  show gNameD i d σ S _
  simp only [gNameD, tNotD, tTst, tCallD, tConsD, tNilD, tSlot, hs]
  refine h1 d _ (h2 d _ ?_)
  unfold spFn
  simp only [e]
  cases h3 : isNum d a b <;> simpa [h3, hs] using h
theorem row_ok (ds : List D) (S : HD) (Q : QD) (h : spRow ds S Q) : rd_is_row spCols (spFn fNum) (ends Q) (pad 4 ds) S := by
  obtain ⟨d, L, n, rfl, ok, l1, l3, q⟩ := h
  have q' := fin.here q
  clear q
  unfold rd_is_row
  cases ht : isT .tuple d with
  | false =>
    walk_at "rdx"
    rw [isT_ok ok, ht]
    simp only [isRow] at q'
    cases d <;> first | exact q' | cases ht
  | true =>
    obtain ⟨xs, rfl⟩ := isT_tup ht
    generalize hC : (tLcV _ _ _ _ _ : TED) = C1
    walk_at "rdx"
    refine ⟨L, rfl, l1, l3, ?_⟩
    subst hC
    generalize hg : gNameD 3 = g0
    walk_at "rdx"
    subst hg
    by_cases hL : xs.length = (cols L).length
    · have hL' : (xs.length : Int) = ((cols L).length : Nat) := by rw [hL]
      simp only [hL', decide_true, Bool.not_true, Bool.false_eq_true, if_false]
      refine fun hz => ⟨hz, nums_lc (by simp) trivial (fun x hx => okRL_mem ok hx) (fun d Q q => q) (fun d Q q => q) ⟨by decide, ?_⟩⟩
      rw [empty_filter, all_nn]
      simpa [isRow, hL] using q'
    · have hL' : ¬ (xs.length : Int) = ((cols L).length : Nat) := by omega
      simp only [hL', decide_false, Bool.not_false, if_true]
      simpa [isRow, hL] using q'
/-- the rows -/
def rowsOk (d : D) (L : Nat) : Bool := match d with
  | .tup xs => decide (1 ≤ xs.length) && decide (xs.length ≤ 60) && xs.all fun x => isRow x L xs.length
  | _ => false
def spRows : SpD := fun ds S Q => ∃ (d : D) (L : Nat), ds = [d, .int (L : Nat)] ∧ okR d = true ∧ 1 ≤ L ∧ L ≤ 3 ∧ Q (.bl (rowsOk d L)) S
theorem rows_len (ds : List D) (S : HD) (Q : QD) (h : spRows ds S Q) : ds.length = 2 := by
  obtain ⟨_, _, rfl, _⟩ := h
  rfl
theorem rows_ok (ds : List D) (S : HD) (Q : QD) (h : spRows ds S Q) : rd_are_rows spRow (ends Q) (pad 3 ds) S := by
  obtain ⟨d, L, rfl, ok, l1, l3, q⟩ := h
  have q' := fin.here q
  clear q
  unfold rd_are_rows
  cases ht : isT .tuple d with
  | false =>
    walk_at "rdx"
    rw [isT_ok ok, ht]
    simp only [rowsOk] at q'
    cases d <;> first | exact q' | cases ht
  | true =>
    obtain ⟨xs, rfl⟩ := isT_tup ht
    generalize hg : gNameD 2 = g0
    walk_at "rdx"
    subst hg
    by_cases h1 : (1 : Int) ≤ (xs.length : Int)
    · by_cases h2 : (xs.length : Int) ≤ 60
      · simp only [h1, h2, decide_true, Bool.not_true, Bool.false_eq_true, if_false]
        refine fun hz => ⟨hz, lcD_pure (fun d => if (!isRow d L xs.length) = true then some d else none) trivial xs [] (fun d hd Q1 Q0 h => ?_) ⟨by decide, ?_⟩⟩
        · walk_at "rdx"
          refine ⟨d, L, xs.length, rfl, okRL_mem ok hd, l1, l3, ?_⟩
          cases h3 : isRow d L xs.length <;> simpa [h3] using h
        · rw [List.nil_append, empty_filter, all_nn]
          simpa [rowsOk, show 1 ≤ xs.length by omega, show xs.length ≤ 60 by omega] using q'
      · simp only [h1, h2, decide_true, decide_false, Bool.not_false, if_true]
        simpa [rowsOk, show ¬ xs.length ≤ 60 by omega] using q'
    · simp only [h1, decide_false, Bool.not_false, if_true]
      simpa [rowsOk, show ¬ 1 ≤ xs.length by omega] using q'
/-- the verdicts -/
def verOk (d : D) (n : Int) : Bool := match d with
  | .tup xs => decide ((xs.length : Int) = n) && xs.all fun x => isNum x (-1) 1
  | _ => false
def spVer : SpD := fun ds S Q => ∃ (d : D) (n : Int), ds = [d, .int n] ∧ okR d = true ∧ Q (.bl (verOk d n)) S
theorem ver_len (ds : List D) (S : HD) (Q : QD) (h : spVer ds S Q) : ds.length = 2 := by
  obtain ⟨_, _, rfl, _⟩ := h
  rfl
theorem ver_ok (ds : List D) (S : HD) (Q : QD) (h : spVer ds S Q) : rd_are_verdicts (spFn fNum) (ends Q) (pad 3 ds) S := by
  obtain ⟨d, n, rfl, ok, q⟩ := h
  have q' := fin.here q
  clear q
  unfold rd_are_verdicts
  cases ht : isT .tuple d with
  | false =>
    walk_at "rdx"
    rw [isT_ok ok, ht]
    simp only [verOk] at q'
    cases d <;> first | exact q' | cases ht
  | true =>
    obtain ⟨xs, rfl⟩ := isT_tup ht
    generalize hg : gNameD 2 = g0
    walk_at "rdx"
    subst hg
    by_cases hL : (xs.length : Int) = n
    · simp only [hL, decide_true, Bool.not_true, Bool.false_eq_true, if_false]
      refine fun hz => ⟨hz, nums_lc (a := -1) (b := 1) (by simp) trivial (fun x hx => okRL_mem ok hx) (fun d Q q => q) (fun d Q q => q) ⟨by decide, ?_⟩⟩
      rw [empty_filter, all_nn]
      simpa [verOk, hL] using q'
    · simp only [hL, decide_false, Bool.not_false, if_true]
      simpa [verOk, hL] using q'
/-- what is wrong with a value -/
def cErr (d : D) : D := match d with
  | .tup [a, b, c] => if isNum a 1 3 = true then (match a, b with
    | .int L, .tup rows => if rowsOk (.tup rows) L.toNat = true then (if verOk c rows.length = true then .non else .str "verdicts") else .str "rows"
    | _, _ => .str "rows") else .str "letters"
  | _ => .str "comp"
def spErr : SpD := fun ds S Q => ∃ d : D, ds = [d] ∧ okR d = true ∧ Q (cErr d) S
theorem err_len (ds : List D) (S : HD) (Q : QD) (h : spErr ds S Q) : ds.length = 1 := by
  obtain ⟨_, rfl, _⟩ := h
  rfl
theorem len3 {xs : List D} (h : (xs.length : Int) = 3) : ∃ a b c, xs = [a, b, c] := by
  match xs, h with
  | [a, b, c], _ => exact ⟨a, b, c, rfl⟩
  | [], h => simp at h
  | [_], h => simp at h
  | [_, _], h => simp at h
  | _ :: _ :: _ :: _ :: _, h => simp at h; omega
theorem cErr_len {xs : List D} (h : ¬ (xs.length : Int) = 3) : cErr (.tup xs) = .str "comp" := by
  unfold cErr
  split
  · rename_i e; cases e; exact (h rfl).elim
  · rfl
theorem isNum_int {d : D} {a b : Int} (h : isNum d a b = true) : ∃ i, d = .int i ∧ a ≤ i ∧ i ≤ b := by
  cases d <;> first | cases h | skip
  rename_i i
  simp only [isNum, Bool.and_eq_true, decide_eq_true_eq] at h
  exact ⟨i, rfl, h.1, h.2⟩
theorem rowsOk_tup {d : D} {L : Nat} (h : rowsOk d L = true) : ∃ xs, d = .tup xs := by
  cases d <;> first | cases h | exact ⟨_, rfl⟩
theorem at30 {a b c : D} : L2.atI [a, b, c] 0 = some a := rfl
theorem at31 {a b c : D} : L2.atI [a, b, c] 1 = some b := rfl
theorem at32 {a b c : D} : L2.atI [a, b, c] 2 = some c := rfl
theorem err_ok (ds : List D) (S : HD) (Q : QD) (h : spErr ds S Q) : rd_comp_error (spFn fNum) spRows spVer (ends Q) (pad 1 ds) S := by
  obtain ⟨d, rfl, ok, q⟩ := h
  have q' := fin.here q
  clear q
  unfold rd_comp_error
  cases ht : isT .tuple d with
  | false =>
    walk_at "rdx"
    rw [isT_ok ok, ht]
    simp only [cErr] at q'
    cases d <;> first | exact q' | cases ht
  | true =>
    obtain ⟨xs, rfl⟩ := isT_tup ht
    refine seq_step fun N1 hN1 => ?_
    walk_at "rdx"
    by_cases hL : (xs.length : Int) = 3
    · obtain ⟨a, b, c, rfl⟩ := len3 hL
      have oa : okR a = true := okRL_mem ok (by simp)
      have ob : okR b = true := okRL_mem ok (by simp)
      have oc : okR c = true := okRL_mem ok (by simp)
      simp only [hL, decide_true, Bool.not_true, Bool.false_eq_true, if_false]
      refine hN1 _ _ ?_
      clear hN1 N1
      refine seq_step fun N1 hN1 => ?_
      walk_at "rdx"
      simp only [at30, fNum_ok oa]
      cases hn : isNum a 1 3 with
      | false => simpa [cErr, hn] using q'
      | true =>
        obtain ⟨i, rfl, l1, l2⟩ := isNum_int hn
        obtain ⟨L, rfl⟩ : ∃ L : Nat, i = (L : Nat) := ⟨i.toNat, by omega⟩
        simp only [Bool.not_true, Bool.false_eq_true, if_false]
        refine hN1 _ _ ?_
        clear hN1 N1
        refine seq_step fun N1 hN1 => ?_
        walk_at "rdx"
        simp only [at30, at31]
        refine ⟨b, L, rfl, ob, by omega, by omega, ?_⟩
        cases hr : rowsOk b L with
        | false =>
          have : cErr (.tup [.int (L : Nat), b, c]) = .str "rows" := by
            simp only [cErr, hn, if_true, Int.toNat_natCast]
            cases b <;> first | rfl | (simp only [Int.toNat_natCast, hr, Bool.false_eq_true, if_false])
          simpa [this] using q'
        | true =>
          obtain ⟨rows, rfl⟩ := rowsOk_tup hr
          simp only [Bool.not_true, Bool.false_eq_true, if_false]
          refine hN1 _ _ ?_
          clear hN1 N1
          walk_at "rdx"
          simp only [at31, at32]
          refine ⟨c, rows.length, rfl, oc, ?_⟩
          have : cErr (.tup [.int (L : Nat), .tup rows, c]) = if verOk c rows.length = true then .non else .str "verdicts" := by
            simp only [cErr, hn, if_true, Int.toNat_natCast, hr]
          rw [this] at q'
          cases hc : verOk c rows.length with
          | false => simpa [hc] using q'
          | true => simpa [hc] using q'
    · simp only [hL, decide_false, Bool.not_false, if_true]
      rw [cErr_len hL] at q'
      exact q'
end K36
end

section
/-! P36c: the law's own look. -/
namespace K36
open PySem PySem.Spec PyProof.Rows PD
local macro_rules | `(tactic| walk_at "rdx") => `(tactic| simp only [PD.pad, PD.gt_z, PD.gt_s, PD.st_z, PD.st_s, PD.sNextD, PD.sSeqD, PD.sBreakD, PD.sContD, PD.sDropD, PD.sRetD, PD.sRetND, PD.sIfD, PD.sNeverD, PD.sAsgD, PD.sPar2, PD.sPar3, PD.gNameD, PD.gNilD, PD.gConsD, PD.gTupD, PD.gSubD, PD.tNilD, PD.tConsD, PD.tTupD, PD.tLstV, PD.tLstR, PD.tBin, PD.tTst, PD.tAndD, PD.tOrD, PD.tNotD, PD.tIfD, PD.tAndV, PD.tOrV, PD.tNotV, PD.tUnD, PD.rNeg, PD.tCallD, PD.tSlot, PD.tCD, PD.tChainD, PD.rIsN, PD.rNotN, PD.rIsiD, PD.isi_non, PD.isi_bl, PD.isi_int, PD.isi_str, PD.isi_tup, PD.isi_lst, PD.isi_dic, PD.Ty.name, PD.rCmpI, PD.fLt, PD.fLe, PD.fGt, PD.fGe, PD.rAddD, PD.rSubD, PD.rFdivD, PD.rModD, PD.rPowD, PD.rMulD, PD.rAddR, PD.rMulR, PD.asSeq, PD.asLst, PD.rLenD, PD.rTupleD, PD.rListV, PD.rListR, PD.rIntD, PD.rBoolD, PD.rAbsD, PD.rIxD, PD.oNone, PD.oSome, PD.tSlD, PD.rSlD, PD.tRevTD, PD.rEqD, PD.rNeD, PD.nrm_non, PD.nrm_bl, PD.nrm_int, PD.nrm_str, PD.nrm_tup, PD.nrm_lst, PD.nrm_dic, PD.nrm_ref, PD.iSeqD, PD.iRng1D, PD.iRng2D, PD.sForD, PD.tLcV, PD.tLcR, PD.tYesD, PD.wipeD, PD.tMethL, PD.rAppD, PD.isRefL, PD.tDicV, PD.keyOf, PD.asDic, PD.srcD, PD.iAnyD, PD.iZipD, PD.iEnumD, PD.tDcV, PD.tDicR, PD.gSubX, PD.rSetX, PD.rIxX, PD.rInD, PD.rInX, PD.rInY, PD.rSumD, PD.tRevLD, PD.tRevX, PD.rSixD, PD.rJoinD, PD.tMethS, PD.rLixD, PD.rPopD, PD.rExtD, PD.tMethA, PD.rSetD, PD.rReprD, PD.eqk_int, PD.eqd_int, PD.eqk_str, PD.eqd_str, PD.eqk_lst0, PD.eqd_lst0, PD.eqk_tup0, PD.eqd_tup0, PD.tdOf, PD.rInW, PD.rIxW, PD.rSetW, PD.gSubW, PD.rLenW, PD.rGetW, PD.rGetAt, PD.tMethW, PD.rSetdW, PD.tDispR, PD.tPairsD, PD.putAll, PD.tDisp1T, PD.gSeqD, PD.rListW, PD.tLenSetD, PD.tFldD, PD.fldD, PD.tMethC, PD.methD, PD.tMakeD, PD.sFldD, PD.tMethB, PD.rLjD, PD.tCallX, PD.sRetX, PD.sRaiseD, PD.sTryD, PD.hdlD, PD.noX, Option.map_some, Option.bind_some, PD.spFn, PD.spDraw, reduceIte, true_and, and_true, or_false, false_or, Bool.not_true, Bool.not_false, Bool.false_eq_true, List.length_cons, List.length_nil, List.set_cons_zero, List.set_cons_succ, PD.HD.set_same, PD.HD.tick_hp, PD.HD.tick_c, PD.HD.tick_dk, PD.HD.set_c, PD.HD.set_dk])
local macro_rules | `(tactic| simp_all only [$xs,*]) => `(tactic| simp only [PD.pad, PD.gt_z, PD.gt_s, PD.st_z, PD.st_s, PD.sNextD, PD.sSeqD, PD.sBreakD, PD.sContD, PD.sDropD, PD.sRetD, PD.sRetND, PD.sIfD, PD.sNeverD, PD.sAsgD, PD.sPar2, PD.sPar3, PD.gNameD, PD.gNilD, PD.gConsD, PD.gTupD, PD.gSubD, PD.tNilD, PD.tConsD, PD.tTupD, PD.tLstV, PD.tLstR, PD.tBin, PD.tTst, PD.tAndD, PD.tOrD, PD.tNotD, PD.tIfD, PD.tAndV, PD.tOrV, PD.tNotV, PD.tUnD, PD.rNeg, PD.tCallD, PD.tSlot, PD.tCD, PD.tChainD, PD.rIsN, PD.rNotN, PD.rIsiD, PD.isi_non, PD.isi_bl, PD.isi_int, PD.isi_str, PD.isi_tup, PD.isi_lst, PD.isi_dic, PD.Ty.name, PD.rCmpI, PD.fLt, PD.fLe, PD.fGt, PD.fGe, PD.rAddD, PD.rSubD, PD.rFdivD, PD.rModD, PD.rPowD, PD.rMulD, PD.rAddR, PD.rMulR, PD.asSeq, PD.asLst, PD.rLenD, PD.rTupleD, PD.rListV, PD.rListR, PD.rIntD, PD.rBoolD, PD.rAbsD, PD.rIxD, PD.oNone, PD.oSome, PD.tSlD, PD.rSlD, PD.tRevTD, PD.rEqD, PD.rNeD, PD.nrm_non, PD.nrm_bl, PD.nrm_int, PD.nrm_str, PD.nrm_tup, PD.nrm_lst, PD.nrm_dic, PD.nrm_ref, PD.iSeqD, PD.iRng1D, PD.iRng2D, PD.sForD, PD.tLcV, PD.tLcR, PD.tYesD, PD.wipeD, PD.tMethL, PD.rAppD, PD.isRefL, PD.tDicV, PD.keyOf, PD.asDic, PD.srcD, PD.iAnyD, PD.iZipD, PD.iEnumD, PD.tDcV, PD.tDicR, PD.gSubX, PD.rSetX, PD.rIxX, PD.rInD, PD.rInX, PD.rInY, PD.rSumD, PD.tRevLD, PD.tRevX, PD.rSixD, PD.rJoinD, PD.tMethS, PD.rLixD, PD.rPopD, PD.rExtD, PD.tMethA, PD.rSetD, PD.rReprD, PD.eqk_int, PD.eqd_int, PD.eqk_str, PD.eqd_str, PD.eqk_lst0, PD.eqd_lst0, PD.eqk_tup0, PD.eqd_tup0, PD.tdOf, PD.rInW, PD.rIxW, PD.rSetW, PD.gSubW, PD.rLenW, PD.rGetW, PD.rGetAt, PD.tMethW, PD.rSetdW, PD.tDispR, PD.tPairsD, PD.putAll, PD.tDisp1T, PD.gSeqD, PD.rListW, PD.tLenSetD, PD.tFldD, PD.fldD, PD.tMethC, PD.methD, PD.tMakeD, PD.sFldD, PD.tMethB, PD.rLjD, PD.tCallX, PD.sRetX, PD.sRaiseD, PD.sTryD, PD.hdlD, PD.noX, Option.map_some, Option.bind_some, PD.spFn, PD.spDraw, reduceIte, true_and, and_true, or_false, false_or, Bool.not_true, Bool.not_false, Bool.false_eq_true, List.length_cons, List.length_nil, List.set_cons_zero, List.set_cons_succ, PD.HD.set_same, PD.HD.tick_hp, PD.HD.tick_c, PD.HD.tick_dk, PD.HD.set_c, PD.HD.set_dk, $xs,*])
theorem isRow_not {d : D} {L : Nat} {rows : List D} {c : D} (h : isRow d L rows.length = false) (hm : d ∈ rows) (hb : isNum (.int (L : Nat)) 1 3 = true) : cErr (.tup [.int (L : Nat), .tup rows, c]) = .str "rows" := by
  have : rowsOk (.tup rows) L = false := by
    simp only [rowsOk, Bool.and_eq_false_iff]
    right
    rw [List.all_eq_false]
    exact ⟨d, hm, by simp [h]⟩
  simp only [cErr, hb, if_true, Int.toNat_natCast, this, Bool.false_eq_true, if_false]
theorem due_ok (ds : List D) (S : HD) (Q : QD) (h : spErr ds S Q) : rd__law_due (spFn fNum) spColsL (ends Q) (pad 5 ds) S := by
  obtain ⟨d, rfl, ok, q⟩ := h
  have q' := fin.here q
  clear q
  unfold rd__law_due
  cases ht : isT .tuple d with
  | false =>
    walk_at "rdx"
    rw [isT_ok ok, ht]
    simp only [cErr] at q'
    cases d <;> first | exact q' | cases ht
  | true =>
    obtain ⟨xs, rfl⟩ := isT_tup ht
    refine seq_step fun N1 hN1 => ?_
    walk_at "rdx"
    by_cases hL : (xs.length : Int) = 3
    · obtain ⟨a, b, c, rfl⟩ := len3 hL
      have oa : okR a = true := okRL_mem ok (by simp)
      have ob : okR b = true := okRL_mem ok (by simp)
      have oc : okR c = true := okRL_mem ok (by simp)
      simp only [hL, decide_true, Bool.not_true, Bool.false_eq_true, if_false]
      refine hN1 _ _ ?_
      clear hN1 N1
      refine seq_step fun N1 hN1 => ?_
      walk_at "rdx"
      simp only [at30, fNum_ok oa]
      cases hn : isNum a 1 3 with
      | false => simpa [cErr, hn] using q'
      | true =>
        obtain ⟨i, rfl, l1, l2⟩ := isNum_int hn
        obtain ⟨L, rfl⟩ : ∃ L : Nat, i = (L : Nat) := ⟨i.toNat, by omega⟩
        simp only [Bool.not_true, Bool.false_eq_true, if_false]
        refine hN1 _ _ ?_
        clear hN1 N1
        refine seq_step fun N1 hN1 => ?_
        walk_at "rdx"
        simp only [at31, isT_ok ob]
        cases hb : isT .tuple b with
        | false =>
          have : cErr (.tup [.int (L : Nat), b, c]) = .str "rows" := by
            simp only [cErr, hn, if_true]
            cases b <;> first | rfl | cases hb
          simpa [this] using q'
        | true =>
          obtain ⟨rows, rfl⟩ := isT_tup hb
          walk_at "rdx"
          by_cases h1 : (1 : Int) ≤ (rows.length : Int)
          · by_cases h2 : (rows.length : Int) ≤ 60
            · simp only [h1, h2, decide_true, Bool.not_true, Bool.false_eq_true, if_false]
              refine hN1 _ _ ?_
              clear hN1 N1
              refine seq_step fun N1 hN1 => ?_
              walk_at "rdx"
              simp only [at30, at31]
              refine ⟨L, rfl, by omega, by omega, ?_⟩
              walk_at "rdx"
              refine ⟨by decide, hN1 _ _ ?_⟩
              clear hN1 N1
              refine seq_step fun N1 hN1 => ?_
              generalize hB : (sSeqD (sIfD (tOrD (tNotD (tTst (tCallD (rIsiD .tuple) (tConsD (tSlot 3) _)))) _) _ _) _ : TSD) = B1
              generalize hg : gNameD 3 = g1
              walk_at "rdx"
              simp only [at31]
              subst hg
              refine fun hz => loopD_go (fun i σ S' => S' = S ∧ (∃ v3, σ = [some (.tup [.int (L : Nat), .tup rows, c]), some (.int ((cols L).length : Nat)), some (.int (rows.length : Nat)), v3, none]) ∧ ∀ j d, j < i → rows[j]? = some d → isRow d L rows.length = true) ⟨rfl, ⟨_, rfl⟩, fun j d hj => absurd hj (Nat.not_lt_zero j)⟩ (fun i d σ S' N hi ⟨e1, ⟨v3, e2⟩, hI⟩ k => ⟨trivial, ?_⟩) fun σ S' ⟨e1, ⟨v3, e2⟩, hI⟩ => ⟨trivial, ?_⟩
              · subst e1 e2 hB
                have hm : d ∈ rows := List.mem_of_getElem? hi
                have od : okR d = true := okRL_mem ob hm
                have bad : isRow d L rows.length = false → fin Q (.str "rows") S' := fun hf => by
                  rw [isRow_not hf hm hn] at q'
                  exact q'
                have good : isRow d L rows.length = true → N [some (.tup [.int (L : Nat), .tup rows, c]), some (.int ((cols L).length : Nat)), some (.int (rows.length : Nat)), some d, none] S' := fun hf => k _ _ ⟨rfl, ⟨_, rfl⟩, fun j y hj hy => by
                  rcases Nat.lt_succ_iff_lt_or_eq.mp hj with h | h
                  · exact hI j y h hy
                  · subst h
                    rw [hi] at hy
                    cases hy
                    exact hf⟩
                cases hd : isT .tuple d with
                | false =>
                  walk_at "rdx"
                  simp only [isT_ok od, hd, Bool.not_false, if_true]
                  exact bad (by cases d <;> first | rfl | cases hd)
                | true =>
                  obtain ⟨ys, rfl⟩ := isT_tup hd
                  generalize hg : gNameD 4 = g2
                  walk_at "rdx"
                  subst hg
                  by_cases hy : ys.length = (cols L).length
                  · have hy' : (ys.length : Int) = ((cols L).length : Nat) := by rw [hy]
                    simp only [hy', decide_true, Bool.not_true, Bool.false_eq_true, if_false]
                    refine fun hz => ⟨hz, nums_lc (a := 0) (b := (rows.length : Int) - 1) (by simp) trivial (fun x hx => okRL_mem od hx) (fun d Q q => q) (fun d Q q => q) ⟨by decide, ?_⟩⟩
                    rw [empty_filter, all_nn]
                    have e : isRow (.tup ys) L rows.length = ys.all fun x => isNum x 0 ((rows.length : Int) - 1) := by simp [isRow, hy]
                    rw [← e]
                    cases hr : isRow (.tup ys) L rows.length with
                    | false => simpa using bad hr
                    | true => simpa using good hr
                  · have hy' : ¬ (ys.length : Int) = ((cols L).length : Nat) := by omega
                    simp only [hy', decide_false, Bool.not_false, if_true]
                    exact bad (by simp [isRow, hy])
              · subst e1 e2
                clear hB
                refine hN1 _ _ ?_
                clear hN1 N1
                have hrows : rowsOk (.tup rows) L = true := by
                  simp only [rowsOk, Bool.and_eq_true, decide_eq_true_eq, List.all_eq_true]
                  refine ⟨⟨by omega, by omega⟩, fun d hd => ?_⟩
                  obtain ⟨j, hj⟩ := List.mem_iff_getElem?.mp hd
                  exact hI j d (by have := (List.getElem?_eq_some_iff.mp hj).1; exact this) hj
                have e : cErr (.tup [.int (L : Nat), .tup rows, c]) = if verOk c rows.length = true then .non else .str "verdicts" := by
                  simp only [cErr, hn, if_true, Int.toNat_natCast, hrows]
                rw [e] at q'
                refine seq_step fun N1 hN1 => ?_
                walk_at "rdx"
                simp only [at32, isT_ok oc]
                cases hc : isT .tuple c with
                | false =>
                  simp only [Bool.not_false, if_true]
                  cases c <;> first | exact q' | cases hc
                | true =>
                  obtain ⟨cs, rfl⟩ := isT_tup hc
                  walk_at "rdx"
                  by_cases hy : (cs.length : Int) = (rows.length : Int)
                  · simp only [hy, decide_true, Bool.not_true, Bool.false_eq_true, if_false]
                    refine hN1 _ _ ?_
                    clear hN1 N1
                    generalize hg : gNameD 4 = g3
                    walk_at "rdx"
                    subst hg
                    simp only [at32]
                    refine fun hz => ⟨hz, nums_lc (a := -1) (b := 1) (by simp) trivial (fun x hx => okRL_mem oc hx) (fun d Q q => q) (fun d Q q => q) ⟨by decide, ?_⟩⟩
                    rw [empty_filter, all_nn]
                    have e : verOk (.tup cs) rows.length = cs.all fun x => isNum x (-1) 1 := by simp [verOk, hy]
                    rw [e] at q'
                    cases h : cs.all fun x => isNum x (-1) 1 <;> simpa [h] using q'
                  · simp only [hy, decide_false, Bool.not_false, if_true]
                    have e : verOk (.tup cs) rows.length = false := by simp [verOk, hy]
                    rw [e] at q'
                    exact q'
            · have : cErr (.tup [.int (L : Nat), .tup rows, c]) = .str "rows" := by simp [cErr, hn, rowsOk, show ¬ rows.length ≤ 60 by omega]
              simp only [h1, h2, decide_true, decide_false, Bool.not_false, if_true]
              rw [this] at q'
              exact q'
          · have : cErr (.tup [.int (L : Nat), .tup rows, c]) = .str "rows" := by simp [cErr, hn, rowsOk, show ¬ 1 ≤ rows.length by omega]
            simp only [h1, decide_false]
            rw [this] at q'
            exact q'
    · simp only [hL, decide_false, Bool.not_false, if_true]
      rw [cErr_len hL] at q'
      exact q'
end K36
end

section
/-! P36d: columns by their signs. -/
namespace K36
open PySem PySem.Spec PyProof.Rows PD
local macro_rules | `(tactic| walk_at "rdx") => `(tactic| simp only [PD.pad, PD.gt_z, PD.gt_s, PD.st_z, PD.st_s, PD.sNextD, PD.sSeqD, PD.sBreakD, PD.sContD, PD.sDropD, PD.sRetD, PD.sRetND, PD.sIfD, PD.sNeverD, PD.sAsgD, PD.sPar2, PD.sPar3, PD.gNameD, PD.gNilD, PD.gConsD, PD.gTupD, PD.gSubD, PD.tNilD, PD.tConsD, PD.tTupD, PD.tLstV, PD.tLstR, PD.tBin, PD.tTst, PD.tAndD, PD.tOrD, PD.tNotD, PD.tIfD, PD.tAndV, PD.tOrV, PD.tNotV, PD.tUnD, PD.rNeg, PD.tCallD, PD.tSlot, PD.tCD, PD.tChainD, PD.rIsN, PD.rNotN, PD.rIsiD, PD.isi_non, PD.isi_bl, PD.isi_int, PD.isi_str, PD.isi_tup, PD.isi_lst, PD.isi_dic, PD.Ty.name, PD.rCmpI, PD.fLt, PD.fLe, PD.fGt, PD.fGe, PD.rAddD, PD.rSubD, PD.rFdivD, PD.rModD, PD.rPowD, PD.rMulD, PD.rAddR, PD.rMulR, PD.asSeq, PD.asLst, PD.rLenD, PD.rTupleD, PD.rListV, PD.rListR, PD.rIntD, PD.rBoolD, PD.rAbsD, PD.rIxD, PD.oNone, PD.oSome, PD.tSlD, PD.rSlD, PD.tRevTD, PD.rEqD, PD.rNeD, PD.nrm_non, PD.nrm_bl, PD.nrm_int, PD.nrm_str, PD.nrm_tup, PD.nrm_lst, PD.nrm_dic, PD.nrm_ref, PD.iSeqD, PD.iRng1D, PD.iRng2D, PD.sForD, PD.tLcV, PD.tLcR, PD.tYesD, PD.wipeD, PD.tMethL, PD.rAppD, PD.isRefL, PD.tDicV, PD.keyOf, PD.asDic, PD.srcD, PD.iAnyD, PD.iZipD, PD.iEnumD, PD.tDcV, PD.tDicR, PD.gSubX, PD.rSetX, PD.rIxX, PD.rInD, PD.rInX, PD.rInY, PD.rSumD, PD.tRevLD, PD.tRevX, PD.rSixD, PD.rJoinD, PD.tMethS, PD.rLixD, PD.rPopD, PD.rExtD, PD.tMethA, PD.rSetD, PD.rReprD, PD.eqk_int, PD.eqd_int, PD.eqk_str, PD.eqd_str, PD.eqk_lst0, PD.eqd_lst0, PD.eqk_tup0, PD.eqd_tup0, PD.tdOf, PD.rInW, PD.rIxW, PD.rSetW, PD.gSubW, PD.rLenW, PD.rGetW, PD.rGetAt, PD.tMethW, PD.rSetdW, PD.tDispR, PD.tPairsD, PD.putAll, PD.tDisp1T, PD.gSeqD, PD.rListW, PD.tLenSetD, PD.tFldD, PD.fldD, PD.tMethC, PD.methD, PD.tMakeD, PD.sFldD, PD.tMethB, PD.rLjD, PD.tCallX, PD.sRetX, PD.sRaiseD, PD.sTryD, PD.hdlD, PD.noX, Option.map_some, Option.bind_some, PD.spFn, PD.spDraw, reduceIte, true_and, and_true, or_false, false_or, Bool.not_true, Bool.not_false, Bool.false_eq_true, List.length_cons, List.length_nil, List.set_cons_zero, List.set_cons_succ, PD.HD.set_same, PD.HD.tick_hp, PD.HD.tick_c, PD.HD.tick_dk, PD.HD.set_c, PD.HD.set_dk])
local macro_rules | `(tactic| simp_all only [$xs,*]) => `(tactic| simp only [PD.pad, PD.gt_z, PD.gt_s, PD.st_z, PD.st_s, PD.sNextD, PD.sSeqD, PD.sBreakD, PD.sContD, PD.sDropD, PD.sRetD, PD.sRetND, PD.sIfD, PD.sNeverD, PD.sAsgD, PD.sPar2, PD.sPar3, PD.gNameD, PD.gNilD, PD.gConsD, PD.gTupD, PD.gSubD, PD.tNilD, PD.tConsD, PD.tTupD, PD.tLstV, PD.tLstR, PD.tBin, PD.tTst, PD.tAndD, PD.tOrD, PD.tNotD, PD.tIfD, PD.tAndV, PD.tOrV, PD.tNotV, PD.tUnD, PD.rNeg, PD.tCallD, PD.tSlot, PD.tCD, PD.tChainD, PD.rIsN, PD.rNotN, PD.rIsiD, PD.isi_non, PD.isi_bl, PD.isi_int, PD.isi_str, PD.isi_tup, PD.isi_lst, PD.isi_dic, PD.Ty.name, PD.rCmpI, PD.fLt, PD.fLe, PD.fGt, PD.fGe, PD.rAddD, PD.rSubD, PD.rFdivD, PD.rModD, PD.rPowD, PD.rMulD, PD.rAddR, PD.rMulR, PD.asSeq, PD.asLst, PD.rLenD, PD.rTupleD, PD.rListV, PD.rListR, PD.rIntD, PD.rBoolD, PD.rAbsD, PD.rIxD, PD.oNone, PD.oSome, PD.tSlD, PD.rSlD, PD.tRevTD, PD.rEqD, PD.rNeD, PD.nrm_non, PD.nrm_bl, PD.nrm_int, PD.nrm_str, PD.nrm_tup, PD.nrm_lst, PD.nrm_dic, PD.nrm_ref, PD.iSeqD, PD.iRng1D, PD.iRng2D, PD.sForD, PD.tLcV, PD.tLcR, PD.tYesD, PD.wipeD, PD.tMethL, PD.rAppD, PD.isRefL, PD.tDicV, PD.keyOf, PD.asDic, PD.srcD, PD.iAnyD, PD.iZipD, PD.iEnumD, PD.tDcV, PD.tDicR, PD.gSubX, PD.rSetX, PD.rIxX, PD.rInD, PD.rInX, PD.rInY, PD.rSumD, PD.tRevLD, PD.tRevX, PD.rSixD, PD.rJoinD, PD.tMethS, PD.rLixD, PD.rPopD, PD.rExtD, PD.tMethA, PD.rSetD, PD.rReprD, PD.eqk_int, PD.eqd_int, PD.eqk_str, PD.eqd_str, PD.eqk_lst0, PD.eqd_lst0, PD.eqk_tup0, PD.eqd_tup0, PD.tdOf, PD.rInW, PD.rIxW, PD.rSetW, PD.gSubW, PD.rLenW, PD.rGetW, PD.rGetAt, PD.tMethW, PD.rSetdW, PD.tDispR, PD.tPairsD, PD.putAll, PD.tDisp1T, PD.gSeqD, PD.rListW, PD.tLenSetD, PD.tFldD, PD.fldD, PD.tMethC, PD.methD, PD.tMakeD, PD.sFldD, PD.tMethB, PD.rLjD, PD.tCallX, PD.sRetX, PD.sRaiseD, PD.sTryD, PD.hdlD, PD.noX, Option.map_some, Option.bind_some, PD.spFn, PD.spDraw, reduceIte, true_and, and_true, or_false, false_or, Bool.not_true, Bool.not_false, Bool.false_eq_true, List.length_cons, List.length_nil, List.set_cons_zero, List.set_cons_succ, PD.HD.set_same, PD.HD.tick_hp, PD.HD.tick_c, PD.HD.tick_dk, PD.HD.set_c, PD.HD.set_dk, $xs,*])
def sgs (z : Str) : List Str := z.cps.toList.map fun c => ⟨#[c]⟩
def colS (L : Nat) : List Str := ((sgs (zs L)).flatMap fun x => (sgs (zs L)).map (x ++ ·)).dropLast
theorem signs_sgs (z : Str) : signsD z = (sgs z).map D.str := by
  unfold signsD sgs
  rw [List.map_map]
  rfl
theorem glue_map (x : Str) (ys : List Str) : (ys.map D.str).filterMap (glue (.str x)) = (ys.map (x ++ ·)).map D.str := by
  induction ys with
  | nil => rfl
  | cons y ys ih => rw [List.map_cons, List.filterMap_cons, ih]; rfl
theorem cols_S (L : Nat) : cols L = (colS L).map D.str := by
  unfold cols colsZ colS
  rw [signs_sgs, List.map_dropLast]
  congr 1
  generalize hy : sgs (zs L) = ys
  have go : ∀ xs : List Str, ((xs.map D.str).flatMap fun a => (ys.map D.str).filterMap (glue a)) = (xs.flatMap fun x => ys.map (x ++ ·)).map D.str := by
    intro xs
    induction xs with
    | nil => rfl
    | cons x xs ih => rw [List.map_cons, List.flatMap_cons, List.flatMap_cons, List.map_append, ih, glue_map]
  exact go ys
/-- the sign at a place, the end at the place of the letters' number -/
def ch (L a : Nat) : Nat := if a < L then 97 + a else 46
def colA (L a b : Nat) : Str := ⟨#[ch L a, ch L b]⟩
def spotsS (xs : List Str) : List (D × D) := (xs.zipIdx).foldl (fun acc p => putD acc (.inr p.1) (.int (p.2 : Nat))) []
theorem spot_at {L a b : Nat} (h1 : 1 ≤ L) (h3 : L ≤ 3) (ha : a ≤ L) (hb : b ≤ L) (hn : ¬ (a = L ∧ b = L)) : getK (spotsS (colS L)) (.inr (colA L a b)) = some (.int (((L + 1) * a + b : Nat) : Int)) := by
  obtain rfl | rfl | rfl : L = 1 ∨ L = 2 ∨ L = 3 := by omega
  all_goals
    obtain rfl | rfl | rfl | rfl : a = 0 ∨ a = 1 ∨ a = 2 ∨ a = 3 := by omega
  all_goals
    obtain rfl | rfl | rfl | rfl : b = 0 ∨ b = 1 ∨ b = 2 ∨ b = 3 := by omega
  all_goals first | omega | rfl
theorem ix_at {L a b : Nat} (h1 : 1 ≤ L) (h3 : L ≤ 3) (ha : a ≤ L) (hb : b ≤ L) (hn : ¬ (a = L ∧ b = L)) : ixF (.str (colA L a b)) (cols L) = some ((L + 1) * a + b) := by
  obtain rfl | rfl | rfl : L = 1 ∨ L = 2 ∨ L = 3 := by omega
  all_goals
    obtain rfl | rfl | rfl | rfl : a = 0 ∨ a = 1 ∨ a = 2 ∨ a = 3 := by omega
  all_goals
    obtain rfl | rfl | rfl | rfl : b = 0 ∨ b = 1 ∨ b = 2 ∨ b = 3 := by omega
  all_goals first | omega | rfl
theorem cols_flat (L : Nat) : (cols L).all flatD = true := by
  rw [cols_S, List.all_map]
  exact List.all_eq_true.mpr fun _ _ => rfl
theorem atI_map {α : Type} {xs : List α} {f : α → D} {s : Nat} {x : α} (h : xs[s]? = some x) : L2.atI (xs.map f) (s : Int) = some (f x) := L2.atI_nat (by rw [List.getElem?_map, h]; rfl)
/-- a comparison -/
structure Cmp where
  L : Nat
  rows : List (List Nat)
  vs : List Int
structure Cmp.Ok (M : Cmp) : Prop where
  l1 : 1 ≤ M.L
  l3 : M.L ≤ 3
  n1 : 1 ≤ M.rows.length
  n61 : M.rows.length ≤ 61
  wd : ∀ r ∈ M.rows, r.length = (cols M.L).length
  lt : ∀ r ∈ M.rows, ∀ t ∈ r, t < M.rows.length
  vl : M.vs.length = M.rows.length
  vb : ∀ v ∈ M.vs, -1 ≤ v ∧ v ≤ 1
def encR (r : List Nat) : D := .tup (r.map fun t => .int (t : Nat))
def Cmp.rowsD (M : Cmp) : D := .tup (M.rows.map encR)
def Cmp.vsD (M : Cmp) : D := .tup (M.vs.map D.int)
def Cmp.enc (M : Cmp) : D := .tup [.int (M.L : Nat), M.rowsD, M.vsD]
def Cmp.flds (M : Cmp) : List (Str × D) := [("rows", M.rowsD), ("verdicts", M.vsD), ("spots", .dic (spotsS (colS M.L)))]
def Cmp.nx (M : Cmp) (s a b : Nat) : Nat := ((M.rows[s]?).bind (·[(M.L + 1) * a + b]?)).getD 0
def Cmp.ver (M : Cmp) (s : Nat) : Int := (M.vs[s]?).getD 0
theorem Cmp.nx_at {M : Cmp} (ok : M.Ok) {s a b : Nat} (hs : s < M.rows.length) (ha : a ≤ M.L) (hb : b ≤ M.L) (hn : ¬ (a = M.L ∧ b = M.L)) :
    ∃ r, L2.atI (M.rows.map encR) (s : Int) = some (encR r) ∧ L2.atI (r.map fun t => D.int (t : Nat)) (((M.L + 1) * a + b : Nat) : Int) = some (.int (M.nx s a b : Nat)) ∧ M.nx s a b < M.rows.length := by
  have l1 := ok.l1
  have l3 := ok.l3
  have hr : M.rows[s]? = some M.rows[s] := List.getElem?_eq_getElem hs
  have hm : M.rows[s] ∈ M.rows := List.getElem_mem hs
  have hi : (M.L + 1) * a + b < M.rows[s].length := by
    rw [ok.wd _ hm, cols_le l1 l3]
    have h1 : (M.L + 1) * a + b < (M.L + 1) * (M.L + 1) - 1 := by
      have ha' : a < M.L ∨ a = M.L := by omega
      rcases ha' with h | h
      · have : (M.L + 1) * (a + 1) ≤ (M.L + 1) * M.L := Nat.mul_le_mul_left _ h
        rw [Nat.mul_add, Nat.mul_one] at this
        rw [Nat.mul_add (M.L + 1) M.L 1, Nat.mul_one]
        omega
      · rw [h, Nat.mul_add (M.L + 1) M.L 1, Nat.mul_one]
        have : b ≠ M.L := fun z => hn ⟨h, z⟩
        omega
    exact h1
  have hc : M.rows[s][(M.L + 1) * a + b]? = some M.rows[s][(M.L + 1) * a + b] := List.getElem?_eq_getElem hi
  have hx : M.nx s a b = M.rows[s][(M.L + 1) * a + b] := by
    unfold Cmp.nx
    rw [hr]
    show ((M.rows[s])[(M.L + 1) * a + b]?).getD 0 = _
    rw [hc]
    rfl
  refine ⟨M.rows[s], ?_, ?_, ?_⟩
  · exact atI_map hr
  · rw [hx]
    exact atI_map (f := fun t => D.int (t : Nat)) hc
  · rw [hx]
    exact ok.lt _ hm _ (List.getElem_mem hi)
end K36
end

section
/-! P36e: the reader. -/
namespace K36
open PySem PySem.Spec PyProof.Rows PD
local macro_rules | `(tactic| walk_at "rdx") => `(tactic| simp only [PD.pad, PD.gt_z, PD.gt_s, PD.st_z, PD.st_s, PD.sNextD, PD.sSeqD, PD.sBreakD, PD.sContD, PD.sDropD, PD.sRetD, PD.sRetND, PD.sIfD, PD.sNeverD, PD.sAsgD, PD.sPar2, PD.sPar3, PD.gNameD, PD.gNilD, PD.gConsD, PD.gTupD, PD.gSubD, PD.tNilD, PD.tConsD, PD.tTupD, PD.tLstV, PD.tLstR, PD.tBin, PD.tTst, PD.tAndD, PD.tOrD, PD.tNotD, PD.tIfD, PD.tAndV, PD.tOrV, PD.tNotV, PD.tUnD, PD.rNeg, PD.tCallD, PD.tSlot, PD.tCD, PD.tChainD, PD.rIsN, PD.rNotN, PD.rIsiD, PD.isi_non, PD.isi_bl, PD.isi_int, PD.isi_str, PD.isi_tup, PD.isi_lst, PD.isi_dic, PD.Ty.name, PD.rCmpI, PD.fLt, PD.fLe, PD.fGt, PD.fGe, PD.rAddD, PD.rSubD, PD.rFdivD, PD.rModD, PD.rPowD, PD.rMulD, PD.rAddR, PD.rMulR, PD.asSeq, PD.asLst, PD.rLenD, PD.rTupleD, PD.rListV, PD.rListR, PD.rIntD, PD.rBoolD, PD.rAbsD, PD.rIxD, PD.oNone, PD.oSome, PD.tSlD, PD.rSlD, PD.tRevTD, PD.rEqD, PD.rNeD, PD.nrm_non, PD.nrm_bl, PD.nrm_int, PD.nrm_str, PD.nrm_tup, PD.nrm_lst, PD.nrm_dic, PD.nrm_ref, PD.iSeqD, PD.iRng1D, PD.iRng2D, PD.sForD, PD.tLcV, PD.tLcR, PD.tYesD, PD.wipeD, PD.tMethL, PD.rAppD, PD.isRefL, PD.tDicV, PD.keyOf, PD.asDic, PD.srcD, PD.iAnyD, PD.iZipD, PD.iEnumD, PD.tDcV, PD.tDicR, PD.gSubX, PD.rSetX, PD.rIxX, PD.rInD, PD.rInX, PD.rInY, PD.rSumD, PD.tRevLD, PD.tRevX, PD.rSixD, PD.rJoinD, PD.tMethS, PD.rLixD, PD.rPopD, PD.rExtD, PD.tMethA, PD.rSetD, PD.rReprD, PD.eqk_int, PD.eqd_int, PD.eqk_str, PD.eqd_str, PD.eqk_lst0, PD.eqd_lst0, PD.eqk_tup0, PD.eqd_tup0, PD.tdOf, PD.rInW, PD.rIxW, PD.rSetW, PD.gSubW, PD.rLenW, PD.rGetW, PD.rGetAt, PD.tMethW, PD.rSetdW, PD.tDispR, PD.tPairsD, PD.putAll, PD.tDisp1T, PD.gSeqD, PD.rListW, PD.tLenSetD, PD.tFldD, PD.fldD, PD.tMethC, PD.methD, PD.tMakeD, PD.sFldD, PD.tMethB, PD.rLjD, PD.tCallX, PD.sRetX, PD.sRaiseD, PD.sTryD, PD.hdlD, PD.noX, Option.map_some, Option.bind_some, PD.spFn, PD.spDraw, reduceIte, true_and, and_true, or_false, false_or, Bool.not_true, Bool.not_false, Bool.false_eq_true, List.length_cons, List.length_nil, List.set_cons_zero, List.set_cons_succ, PD.HD.set_same, PD.HD.tick_hp, PD.HD.tick_c, PD.HD.tick_dk, PD.HD.set_c, PD.HD.set_dk])
local macro_rules | `(tactic| simp_all only [$xs,*]) => `(tactic| simp only [PD.pad, PD.gt_z, PD.gt_s, PD.st_z, PD.st_s, PD.sNextD, PD.sSeqD, PD.sBreakD, PD.sContD, PD.sDropD, PD.sRetD, PD.sRetND, PD.sIfD, PD.sNeverD, PD.sAsgD, PD.sPar2, PD.sPar3, PD.gNameD, PD.gNilD, PD.gConsD, PD.gTupD, PD.gSubD, PD.tNilD, PD.tConsD, PD.tTupD, PD.tLstV, PD.tLstR, PD.tBin, PD.tTst, PD.tAndD, PD.tOrD, PD.tNotD, PD.tIfD, PD.tAndV, PD.tOrV, PD.tNotV, PD.tUnD, PD.rNeg, PD.tCallD, PD.tSlot, PD.tCD, PD.tChainD, PD.rIsN, PD.rNotN, PD.rIsiD, PD.isi_non, PD.isi_bl, PD.isi_int, PD.isi_str, PD.isi_tup, PD.isi_lst, PD.isi_dic, PD.Ty.name, PD.rCmpI, PD.fLt, PD.fLe, PD.fGt, PD.fGe, PD.rAddD, PD.rSubD, PD.rFdivD, PD.rModD, PD.rPowD, PD.rMulD, PD.rAddR, PD.rMulR, PD.asSeq, PD.asLst, PD.rLenD, PD.rTupleD, PD.rListV, PD.rListR, PD.rIntD, PD.rBoolD, PD.rAbsD, PD.rIxD, PD.oNone, PD.oSome, PD.tSlD, PD.rSlD, PD.tRevTD, PD.rEqD, PD.rNeD, PD.nrm_non, PD.nrm_bl, PD.nrm_int, PD.nrm_str, PD.nrm_tup, PD.nrm_lst, PD.nrm_dic, PD.nrm_ref, PD.iSeqD, PD.iRng1D, PD.iRng2D, PD.sForD, PD.tLcV, PD.tLcR, PD.tYesD, PD.wipeD, PD.tMethL, PD.rAppD, PD.isRefL, PD.tDicV, PD.keyOf, PD.asDic, PD.srcD, PD.iAnyD, PD.iZipD, PD.iEnumD, PD.tDcV, PD.tDicR, PD.gSubX, PD.rSetX, PD.rIxX, PD.rInD, PD.rInX, PD.rInY, PD.rSumD, PD.tRevLD, PD.tRevX, PD.rSixD, PD.rJoinD, PD.tMethS, PD.rLixD, PD.rPopD, PD.rExtD, PD.tMethA, PD.rSetD, PD.rReprD, PD.eqk_int, PD.eqd_int, PD.eqk_str, PD.eqd_str, PD.eqk_lst0, PD.eqd_lst0, PD.eqk_tup0, PD.eqd_tup0, PD.tdOf, PD.rInW, PD.rIxW, PD.rSetW, PD.gSubW, PD.rLenW, PD.rGetW, PD.rGetAt, PD.tMethW, PD.rSetdW, PD.tDispR, PD.tPairsD, PD.putAll, PD.tDisp1T, PD.gSeqD, PD.rListW, PD.tLenSetD, PD.tFldD, PD.fldD, PD.tMethC, PD.methD, PD.tMakeD, PD.sFldD, PD.tMethB, PD.rLjD, PD.tCallX, PD.sRetX, PD.sRaiseD, PD.sTryD, PD.hdlD, PD.noX, Option.map_some, Option.bind_some, PD.spFn, PD.spDraw, reduceIte, true_and, and_true, or_false, false_or, Bool.not_true, Bool.not_false, Bool.false_eq_true, List.length_cons, List.length_nil, List.set_cons_zero, List.set_cons_succ, PD.HD.set_same, PD.HD.tick_hp, PD.HD.tick_c, PD.HD.tick_dk, PD.HD.set_c, PD.HD.set_dk, $xs,*])
variable {C : Addr}
def spInit (C : Addr) : SpD := fun ds S Q => ∃ (p : Addr) (M : Cmp), ds = [.ref p, M.enc] ∧ M.Ok ∧ S.hp p = some (.ins C []) ∧ Q .non (S.set p (.ins C M.flds))
theorem init_len (ds : List D) (S : HD) (Q : QD) (h : spInit C ds S Q) : ds.length = 2 := by
  obtain ⟨_, _, rfl, _⟩ := h
  rfl
theorem enum_cols (L : Nat) : enumD (cols L) = ((colS L).zipIdx).map fun p => .tup [.int (p.2 : Nat), .str p.1] := by
  unfold enumD
  rw [cols_S, List.zipIdx_map, List.map_map]
  rfl
theorem spots_dc {v0 v1 : Option D} {keep : HD → Prop} {Q : List (D × D) → HD → Prop} {S : HD} (hk : keep S) : ∀ (xs : List (Str × Nat)) (acc : List (D × D)), Q (xs.foldl (fun acc p => putD acc (.inr p.1) (.int (p.2 : Nat))) acc) S →
    dcD (gTupD 2 (gConsD (gNameD 2) (gConsD (gNameD 3) (gNilD)))) tYesD (tSlot 3) (tSlot 2) [v0, v1, none, none] keep Q (xs.map fun p => .tup [.int (p.2 : Nat), .str p.1]) acc S
  | [], acc, q => ⟨hk, q⟩
  | p :: xs, acc, q => by
    have ih := spots_dc (v0 := v0) (v1 := v1) hk xs (putD acc (.inr p.1) (.int (p.2 : Nat))) q
    rw [List.map_cons]
    unfold dcD
    refine ⟨hk, ?_⟩
    generalize hR : (dcD (gTupD 2 (gConsD (gNameD 2) (gConsD (gNameD 3) (gNilD)))) tYesD (tSlot 3) (tSlot 2) [v0, v1, none, none] keep Q : List D → List (D × D) → HD → Prop) = R at ih ⊢
    walk_at "rdx"
    exact ih
theorem enum_le {L : Nat} (h1 : 1 ≤ L) (h3 : L ≤ 3) : (enumD (cols L)).length ≤ 15 := by
  unfold enumD
  rw [List.length_map, List.length_zipIdx, cols_le h1 h3]
  obtain rfl | rfl | rfl : L = 1 ∨ L = 2 ∨ L = 3 := by omega
  all_goals decide
theorem init_ok (ds : List D) (S : HD) (Q : QD) (h : spInit C ds S Q) : rd_Reader_init C spCols (ends Q) (pad 4 ds) S := by
  obtain ⟨p, M, rfl, ok, hp, q⟩ := h
  have e0 : L2.atI [D.int (M.L : Nat), M.rowsD, M.vsD] 0 = some (D.int (M.L : Nat)) := rfl
  have e1 : L2.atI [D.int (M.L : Nat), M.rowsD, M.vsD] 1 = some M.rowsD := rfl
  have e2 : L2.atI [D.int (M.L : Nat), M.rowsD, M.vsD] 2 = some M.vsD := rfl
  unfold rd_Reader_init Cmp.enc
  refine seq_step fun N1 hN1 => ?_
  walk_at "rdx"
  simp only [e1, hp]
  refine ⟨trivial, by decide, hN1 _ _ ?_⟩
  clear hN1 N1
  refine seq_step fun N1 hN1 => ?_
  walk_at "rdx"
  simp only [e2]
  refine ⟨by show 1 < 1000; decide, hN1 _ _ ?_⟩
  clear hN1 N1
  rw [HD.set_set]
  generalize hC : (tDcV _ _ _ _ _ _ : TED) = C1
  walk_at "rdx"
  subst hC
  generalize hg : (gTupD 2 _ : TGD) = g1
  walk_at "rdx"
  simp only [e0]
  refine ⟨M.L, rfl, ok.l1, ok.l3, ?_⟩
  have hsl : (sizeLine : Nat) = 16777216 := rfl
  have el := enum_le ok.l1 ok.l3
  refine ⟨by omega, ?_⟩
  rw [enum_cols, ← hg]
  refine spots_dc trivial _ _ ?_
  show (match (S.set p _).hp p with | some (OD.ins C' fs) => _ | _ => False)
  rw [HD.set_same]
  refine ⟨rfl, by show 2 < 1000; decide, ?_⟩
  rw [HD.set_set]
  exact fin.here q
def spAfter (C : Addr) : SpD := fun ds S Q => ∃ (p : Addr) (M : Cmp) (s a b : Nat), ds = [.ref p, .int (s : Nat), .str ⟨#[ch M.L a]⟩, .str ⟨#[ch M.L b]⟩] ∧ M.Ok ∧ S.hp p = some (.ins C M.flds) ∧ s < M.rows.length ∧ a ≤ M.L ∧ b ≤ M.L ∧ ¬ (a = M.L ∧ b = M.L) ∧ Q (.int (M.nx s a b : Nat)) S
theorem after_len (ds : List D) (S : HD) (Q : QD) (h : spAfter C ds S Q) : ds.length = 4 := by
  obtain ⟨_, _, _, _, _, rfl, _⟩ := h
  rfl
theorem after_ok (ds : List D) (S : HD) (Q : QD) (h : spAfter C ds S Q) : rd_Reader_after C (ends Q) (pad 4 ds) S := by
  obtain ⟨p, M, s, a, b, rfl, ok, hp, hs, ha, hb, hn, q⟩ := h
  have l1 := ok.l1
  have l3 := ok.l3
  have hsl : (sizeLine : Nat) = 16777216 := rfl
  have hd : ∀ c, c ≤ M.L → (decide ((⟨#[ch M.L c]⟩ : Str) = Str.ofString ".") = decide (c = M.L)) := fun c hc => by
    have e : (Str.ofString "." : Str) = ⟨#[46]⟩ := by decide +kernel
    rw [e]
    unfold ch
    by_cases h : c < M.L
    · have h1 : ¬ c = M.L := by omega
      simp [h, h1]
      omega
    · have h1 : c = M.L := by omega
      simp [h1]
  have k : ∀ (P : SD → HD → Prop), P [some (.ref p), some (.int (s : Nat)), some (.str ⟨#[ch M.L a]⟩), some (.str ⟨#[ch M.L b]⟩)] S → (if decide (a = M.L) = true then if decide (b = M.L) = true then fin Q (D.int s) S else P [some (.ref p), some (.int (s : Nat)), some (.str ⟨#[ch M.L a]⟩), some (.str ⟨#[ch M.L b]⟩)] S else P [some (.ref p), some (.int (s : Nat)), some (.str ⟨#[ch M.L a]⟩), some (.str ⟨#[ch M.L b]⟩)] S) := fun P h => by
    by_cases h1 : a = M.L
    · by_cases h2 : b = M.L
      · exact (hn ⟨h1, h2⟩).elim
      · simp only [h1, h2, decide_true, decide_false, Bool.false_eq_true, if_true, if_false]
        rw [h1] at h
        exact h
    · simp only [h1, decide_false, Bool.false_eq_true, if_false]
      exact h
  unfold rd_Reader_after
  refine seq_step fun N1 hN1 => ?_
  walk_at "rdx"
  rw [hd a ha, hd b hb]
  refine k N1 (hN1 _ _ ?_)
  clear hN1 N1 k
  obtain ⟨r, g1, g2, g3⟩ := Cmp.nx_at ok hs ha hb hn
  have lr : M.flds.lookup (Str.ofString "rows") = some (.tup (M.rows.map encR)) := rfl
  have ls : M.flds.lookup (Str.ofString "spots") = some (.dic (spotsS (colS M.L))) := rfl
  have sp := spot_at l1 l3 ha hb hn
  have ek : (⟨#[ch M.L a]⟩ : Str) ++ (⟨#[ch M.L b]⟩ : Str) = colA M.L a b := rfl
  have er : encR r = .tup (r.map fun t => .int (t : Nat)) := rfl
  walk_at "rdx"
  simp only [hp, lr, g1, er]
  simp only [ls]
  walk_at "rdx"
  rw [ek]
  simp only [sp, g2]
  exact ⟨by show 1 + 1 ≤ sizeLine; omega, fin.here q⟩
def spMark (C : Addr) : SpD := fun ds S Q => ∃ (p : Addr) (M : Cmp) (s : Nat), ds = [.ref p, .int (s : Nat)] ∧ M.Ok ∧ S.hp p = some (.ins C M.flds) ∧ s < M.rows.length ∧ Q (.int (M.ver s)) S
theorem mark_len (ds : List D) (S : HD) (Q : QD) (h : spMark C ds S Q) : ds.length = 2 := by
  obtain ⟨_, _, _, rfl, _⟩ := h
  rfl
theorem mark_ok (ds : List D) (S : HD) (Q : QD) (h : spMark C ds S Q) : rd_Reader_mark_of C (ends Q) (pad 2 ds) S := by
  obtain ⟨p, M, s, rfl, ok, hp, hs, q⟩ := h
  have lv : M.flds.lookup (Str.ofString "verdicts") = some (.tup (M.vs.map D.int)) := rfl
  have hv : M.vs[s]? = some (M.ver s) := by
    have : s < M.vs.length := by rw [ok.vl]; exact hs
    unfold Cmp.ver
    rw [List.getElem?_eq_getElem this]
    rfl
  have ea : L2.atI (M.vs.map D.int) (s : Int) = some (.int (M.ver s)) := atI_map hv
  unfold rd_Reader_mark_of
  walk_at "rdx"
  simp only [hp, lv, ea]
  exact ⟨trivial, fin.here q⟩
end K36
end

section
/-! P36f: tells. -/
namespace K36
open PySem PySem.Spec PyProof.Rows PD
local macro_rules | `(tactic| walk_at "rdx") => `(tactic| simp only [PD.pad, PD.gt_z, PD.gt_s, PD.st_z, PD.st_s, PD.sNextD, PD.sSeqD, PD.sBreakD, PD.sContD, PD.sDropD, PD.sRetD, PD.sRetND, PD.sIfD, PD.sNeverD, PD.sAsgD, PD.sPar2, PD.sPar3, PD.gNameD, PD.gNilD, PD.gConsD, PD.gTupD, PD.gSubD, PD.tNilD, PD.tConsD, PD.tTupD, PD.tLstV, PD.tLstR, PD.tBin, PD.tTst, PD.tAndD, PD.tOrD, PD.tNotD, PD.tIfD, PD.tAndV, PD.tOrV, PD.tNotV, PD.tUnD, PD.rNeg, PD.tCallD, PD.tSlot, PD.tCD, PD.tChainD, PD.rIsN, PD.rNotN, PD.rIsiD, PD.isi_non, PD.isi_bl, PD.isi_int, PD.isi_str, PD.isi_tup, PD.isi_lst, PD.isi_dic, PD.Ty.name, PD.rCmpI, PD.fLt, PD.fLe, PD.fGt, PD.fGe, PD.rAddD, PD.rSubD, PD.rFdivD, PD.rModD, PD.rPowD, PD.rMulD, PD.rAddR, PD.rMulR, PD.asSeq, PD.asLst, PD.rLenD, PD.rTupleD, PD.rListV, PD.rListR, PD.rIntD, PD.rBoolD, PD.rAbsD, PD.rIxD, PD.oNone, PD.oSome, PD.tSlD, PD.rSlD, PD.tRevTD, PD.rEqD, PD.rNeD, PD.nrm_non, PD.nrm_bl, PD.nrm_int, PD.nrm_str, PD.nrm_tup, PD.nrm_lst, PD.nrm_dic, PD.nrm_ref, PD.iSeqD, PD.iRng1D, PD.iRng2D, PD.sForD, PD.tLcV, PD.tLcR, PD.tYesD, PD.wipeD, PD.tMethL, PD.rAppD, PD.isRefL, PD.tDicV, PD.keyOf, PD.asDic, PD.srcD, PD.iAnyD, PD.iZipD, PD.iEnumD, PD.tDcV, PD.tDicR, PD.gSubX, PD.rSetX, PD.rIxX, PD.rInD, PD.rInX, PD.rInY, PD.rSumD, PD.tRevLD, PD.tRevX, PD.rSixD, PD.rJoinD, PD.tMethS, PD.rLixD, PD.rPopD, PD.rExtD, PD.tMethA, PD.rSetD, PD.rReprD, PD.eqk_int, PD.eqd_int, PD.eqk_str, PD.eqd_str, PD.eqk_lst0, PD.eqd_lst0, PD.eqk_tup0, PD.eqd_tup0, PD.tdOf, PD.rInW, PD.rIxW, PD.rSetW, PD.gSubW, PD.rLenW, PD.rGetW, PD.rGetAt, PD.tMethW, PD.rSetdW, PD.tDispR, PD.tPairsD, PD.putAll, PD.tDisp1T, PD.gSeqD, PD.rListW, PD.tLenSetD, PD.tFldD, PD.fldD, PD.tMethC, PD.methD, PD.tMakeD, PD.sFldD, PD.tMethB, PD.rLjD, PD.tCallX, PD.sRetX, PD.sRaiseD, PD.sTryD, PD.hdlD, PD.noX, Option.map_some, Option.bind_some, PD.spFn, PD.spDraw, reduceIte, true_and, and_true, or_false, false_or, Bool.not_true, Bool.not_false, Bool.false_eq_true, List.length_cons, List.length_nil, List.set_cons_zero, List.set_cons_succ, PD.HD.set_same, PD.HD.tick_hp, PD.HD.tick_c, PD.HD.tick_dk, PD.HD.set_c, PD.HD.set_dk])
local macro_rules | `(tactic| simp_all only [$xs,*]) => `(tactic| simp only [PD.pad, PD.gt_z, PD.gt_s, PD.st_z, PD.st_s, PD.sNextD, PD.sSeqD, PD.sBreakD, PD.sContD, PD.sDropD, PD.sRetD, PD.sRetND, PD.sIfD, PD.sNeverD, PD.sAsgD, PD.sPar2, PD.sPar3, PD.gNameD, PD.gNilD, PD.gConsD, PD.gTupD, PD.gSubD, PD.tNilD, PD.tConsD, PD.tTupD, PD.tLstV, PD.tLstR, PD.tBin, PD.tTst, PD.tAndD, PD.tOrD, PD.tNotD, PD.tIfD, PD.tAndV, PD.tOrV, PD.tNotV, PD.tUnD, PD.rNeg, PD.tCallD, PD.tSlot, PD.tCD, PD.tChainD, PD.rIsN, PD.rNotN, PD.rIsiD, PD.isi_non, PD.isi_bl, PD.isi_int, PD.isi_str, PD.isi_tup, PD.isi_lst, PD.isi_dic, PD.Ty.name, PD.rCmpI, PD.fLt, PD.fLe, PD.fGt, PD.fGe, PD.rAddD, PD.rSubD, PD.rFdivD, PD.rModD, PD.rPowD, PD.rMulD, PD.rAddR, PD.rMulR, PD.asSeq, PD.asLst, PD.rLenD, PD.rTupleD, PD.rListV, PD.rListR, PD.rIntD, PD.rBoolD, PD.rAbsD, PD.rIxD, PD.oNone, PD.oSome, PD.tSlD, PD.rSlD, PD.tRevTD, PD.rEqD, PD.rNeD, PD.nrm_non, PD.nrm_bl, PD.nrm_int, PD.nrm_str, PD.nrm_tup, PD.nrm_lst, PD.nrm_dic, PD.nrm_ref, PD.iSeqD, PD.iRng1D, PD.iRng2D, PD.sForD, PD.tLcV, PD.tLcR, PD.tYesD, PD.wipeD, PD.tMethL, PD.rAppD, PD.isRefL, PD.tDicV, PD.keyOf, PD.asDic, PD.srcD, PD.iAnyD, PD.iZipD, PD.iEnumD, PD.tDcV, PD.tDicR, PD.gSubX, PD.rSetX, PD.rIxX, PD.rInD, PD.rInX, PD.rInY, PD.rSumD, PD.tRevLD, PD.tRevX, PD.rSixD, PD.rJoinD, PD.tMethS, PD.rLixD, PD.rPopD, PD.rExtD, PD.tMethA, PD.rSetD, PD.rReprD, PD.eqk_int, PD.eqd_int, PD.eqk_str, PD.eqd_str, PD.eqk_lst0, PD.eqd_lst0, PD.eqk_tup0, PD.eqd_tup0, PD.tdOf, PD.rInW, PD.rIxW, PD.rSetW, PD.gSubW, PD.rLenW, PD.rGetW, PD.rGetAt, PD.tMethW, PD.rSetdW, PD.tDispR, PD.tPairsD, PD.putAll, PD.tDisp1T, PD.gSeqD, PD.rListW, PD.tLenSetD, PD.tFldD, PD.fldD, PD.tMethC, PD.methD, PD.tMakeD, PD.sFldD, PD.tMethB, PD.rLjD, PD.tCallX, PD.sRetX, PD.sRaiseD, PD.sTryD, PD.hdlD, PD.noX, Option.map_some, Option.bind_some, PD.spFn, PD.spDraw, reduceIte, true_and, and_true, or_false, false_or, Bool.not_true, Bool.not_false, Bool.false_eq_true, List.length_cons, List.length_nil, List.set_cons_zero, List.set_cons_succ, PD.HD.set_same, PD.HD.tick_hp, PD.HD.tick_c, PD.HD.tick_dk, PD.HD.set_c, PD.HD.set_dk, $xs,*])
variable {C : Addr}
def wz (w : List Nat) : Str := ⟨(w.map (97 + ·)).toArray⟩
theorem wz_len (w : List Nat) : (wz w).length = w.length := by
  show ((w.map (97 + ·)).toArray).size = _
  simp
def wat (L : Nat) (w : List Nat) (k : Nat) : Nat := (w[k]?).getD L
def Cmp.run (M : Cmp) (w1 w2 : List Nat) : Nat → Nat
  | 0 => 0
  | k + 1 => M.nx (M.run w1 w2 k) (wat M.L w1 k) (wat M.L w2 k)
def Cmp.tell (M : Cmp) (w1 w2 : List Nat) : Int := M.ver (M.run w1 w2 (max w1.length w2.length))
def WOk (L : Nat) (w : List Nat) : Prop := w.length ≤ 1000 ∧ ∀ c ∈ w, c < L
theorem wat_le {L : Nat} {w : List Nat} (h : WOk L w) (k : Nat) : wat L w k ≤ L ∧ (k < w.length → wat L w k < L) := by
  unfold wat
  by_cases hk : k < w.length
  · rw [List.getElem?_eq_getElem hk]
    have := h.2 _ (List.getElem_mem hk)
    exact ⟨Nat.le_of_lt this, fun _ => this⟩
  · rw [List.getElem?_eq_none (Nat.le_of_not_lt hk)]
    exact ⟨Nat.le_refl _, fun h => (hk h).elim⟩
theorem wat_no {L : Nat} {w1 w2 : List Nat} (h1 : WOk L w1) (h2 : WOk L w2) {k : Nat} (hk : k < max w1.length w2.length) : ¬ (wat L w1 k = L ∧ wat L w2 k = L) := fun ⟨e1, e2⟩ => by
  by_cases h : k < w1.length
  · have := (wat_le h1 k).2 h; omega
  · have : k < w2.length := by omega
    have := (wat_le h2 k).2 this; omega
theorem run_lt {M : Cmp} (ok : M.Ok) {w1 w2 : List Nat} (h1 : WOk M.L w1) (h2 : WOk M.L w2) : ∀ k, k ≤ max w1.length w2.length → M.run w1 w2 k < M.rows.length
  | 0, _ => ok.n1
  | k + 1, h => by
    obtain ⟨_, _, _, g⟩ := Cmp.nx_at ok (run_lt ok h1 h2 k (by omega)) (wat_le h1 k).1 (wat_le h2 k).1 (wat_no h1 h2 (by omega))
    exact g
/-- a padded word -/
theorem pad_at {L : Nat} {w : List Nat} (h : WOk L w) {n : Nat} (hn : w.length ≤ n) : signsD (Txt.ljustF (wz w) (n : Int) 46) = (List.range n).map fun k => .str ⟨#[ch L (wat L w k)]⟩ := by
  unfold signsD
  rw [ljustF_list, wz_len]
  apply List.ext_getElem?
  intro i
  have ew : (wz w).cps.toList = w.map (97 + ·) := by simp [wz]
  rw [ew, Int.toNat_natCast, List.map_append, List.getElem?_map, List.getElem?_append]
  rw [List.length_map, List.length_map]
  by_cases hi : i < w.length
  · have h2 : i < n := by omega
    have := h.2 _ (List.getElem_mem hi)
    rw [if_pos hi]
    simp [wat, ch, hi, h2, this]
  · rw [if_neg hi]
    by_cases h2 : i < n
    · have e : w[i]? = none := List.getElem?_eq_none (by omega)
      have h3 : i - w.length < n - w.length := by omega
      simp [wat, ch, h2, h3, e]
    · have h3 : ¬ i - w.length < n - w.length := by omega
      simp [h2, h3]
def spTells (C : Addr) : SpD := fun ds S Q => ∃ (M : Cmp) (w1 w2 : List Nat), ds = [M.enc, .str (wz w1), .str (wz w2)] ∧ M.Ok ∧ WOk M.L w1 ∧ WOk M.L w2 ∧ Q (.int (M.tell w1 w2)) S
theorem tells_len (ds : List D) (S : HD) (Q : QD) (h : spTells C ds S Q) : ds.length = 3 := by
  obtain ⟨_, _, _, rfl, _⟩ := h
  rfl
theorem tells_ok (ds : List D) (S : HD) (Q : QD) (h : spTells C ds S Q) : rd_tells C (spInit C) (spAfter C) (spMark C) (ends Q) (pad 8 ds) S := by
  obtain ⟨M, w1, w2, rfl, ok, h1, h2, q⟩ := h
  have hsl : (sizeLine : Nat) = 16777216 := rfl
  have b1 := h1.1
  have b2 := h2.1
  unfold rd_tells
  refine seq_step fun N1 hN1 => ?_
  walk_at "rdx"
  refine fun p hp => ⟨p, M, rfl, ok, HD.set_same, rfl, hN1 _ _ ?_⟩
  clear hN1 N1
  rw [HD.set_set]
  refine seq_step fun N1 hN1 => ?_
  walk_at "rdx"
  rw [wz_len, wz_len]
  refine ⟨by omega, by omega, ?_⟩
  have em : ∀ {S : HD} {Q : QD}, Q (.int (max w1.length w2.length : Nat)) S → rMax2 [D.int (w1.length : Nat), D.int (w2.length : Nat)] S Q := fun {S Q} q => by
    have e : (if (w2.length : Int) > (w1.length : Int) then (w2.length : Int) else (w1.length : Int)) = ((max w1.length w2.length : Nat) : Int) := by
      split <;> omega
    show Q (.int (if (w2.length : Int) > (w1.length : Int) then (w2.length : Int) else (w1.length : Int))) S
    rw [e]
    exact q
  refine em (hN1 _ _ ?_)
  clear hN1 N1
  refine seq_step fun N1 hN1 => ?_
  generalize hB : sAsgD _ (gNameD 4) = B1
  walk_at "rdx"
  have ld : (Str.ofString ".").length = 1 := by decide +kernel
  have lc : (Str.ofString ".").cps.getD 0 0 = 46 := by decide +kernel
  have po : PadOk ((max w1.length w2.length : Nat) : Int) = true := by
    have hm : max w1.length w2.length ≤ 1000 := by omega
    generalize max w1.length w2.length = m at hm
    have e1 : PySem.Builtin.Str.tooLong m = false := by
      unfold PySem.Builtin.Str.tooLong
      exact decide_eq_false (by omega)
    unfold PadOk fitsSsize
    rw [Int.toNat_natCast, e1]
    simp
    omega
  rw [lc, pad_at h1 (Nat.le_max_left _ _), pad_at h2 (Nat.le_max_right _ _)]
  refine ⟨⟨_, rfl⟩, ld, po, ⟨_, rfl⟩, ld, po, ?_⟩
  refine loopD_go (fun i σ S' => S' = S.set p (.ins C M.flds) ∧ ∃ v6 v7, σ = [some M.enc, some (.str (wz w1)), some (.str (wz w2)), some (.ref p), some (.int (M.run w1 w2 i : Nat)), some (.int (max w1.length w2.length : Nat)), v6, v7]) ⟨rfl, _, _, rfl⟩ (fun i d σ S' N hi ⟨e1, v6, v7, e2⟩ kk => ⟨trivial, ?_⟩) fun σ S' ⟨e1, v6, v7, e2⟩ => ⟨trivial, ?_⟩
  · subst e1 e2
    obtain ⟨x, y, g1, g2, rfl⟩ := zipD_get hi
    rw [List.getElem?_map] at g1 g2
    obtain ⟨a, ha, rfl⟩ := Option.map_eq_some_iff.mp g1
    obtain ⟨b, hb, rfl⟩ := Option.map_eq_some_iff.mp g2
    obtain ⟨hi1, rfl⟩ := List.getElem?_eq_some_iff.mp ha
    obtain ⟨hi2, rfl⟩ := List.getElem?_eq_some_iff.mp hb
    rw [List.length_range] at hi1
    rw [List.getElem_range]
    walk_at "rdx"
    subst hB
    walk_at "rdx"
    refine ⟨rfl, p, M, M.run w1 w2 i, wat M.L w1 i, wat M.L w2 i, rfl, ok, HD.set_same, run_lt ok h1 h2 i (by omega), (wat_le h1 i).1, (wat_le h2 i).1, wat_no h1 h2 hi1, kk _ _ ⟨rfl, _, _, rfl⟩⟩
  · subst e1 e2
    clear hB
    refine hN1 _ _ ?_
    clear hN1 N1
    have ll : (zipD (List.map (fun k => D.str { cps := #[ch M.L (wat M.L w1 k)] }) (List.range (max w1.length w2.length))) (List.map (fun k => D.str { cps := #[ch M.L (wat M.L w2 k)] }) (List.range (max w1.length w2.length)))).length = max w1.length w2.length := by
      rw [zipD_len]
      simp
    rw [ll]
    walk_at "rdx"
    exact ⟨rfl, p, M, _, rfl, ok, HD.set_same, run_lt ok h1 h2 _ (Nat.le_refl _), ((Up.refl S).set hp).fin (n := 0) q⟩
def spLTells : SpD := fun ds S Q => ∃ (M : Cmp) (w1 w2 : List Nat), ds = [M.enc, .str (wz w1), .str (wz w2)] ∧ M.Ok ∧ WOk M.L w1 ∧ WOk M.L w2 ∧ Q (.int (M.tell w1 w2)) S
theorem ltells_len (ds : List D) (S : HD) (Q : QD) (h : spLTells ds S Q) : ds.length = 3 := by
  obtain ⟨_, _, _, rfl, _⟩ := h
  rfl
theorem max_q (a b : Nat) {S : HD} {Q : QD} (q : Q (.int (max a b : Nat)) S) : rMax2 [D.int (a : Nat), D.int (b : Nat)] S Q := by
  have e : (if (b : Int) > (a : Int) then (b : Int) else (a : Int)) = ((max a b : Nat) : Int) := by
    split <;> omega
  show Q (.int (if (b : Int) > (a : Int) then (b : Int) else (a : Int))) S
  rw [e]
  exact q
theorem cut_one {L : Nat} {w : List Nat} (h : WOk L w) (k : Nat) : Txt.ljustF (L2.cutS (wz w) (some (k : Int)) (some ((k : Int) + 1))) 1 46 = ⟨#[ch L (wat L w k)]⟩ := by
  have ew : (wz w).cps.toList = w.map (97 + ·) := by simp [wz]
  have ec : L2.cutS (wz w) (some (k : Int)) (some ((k : Int) + 1)) = ⟨(((w.drop k).take 1).map (97 + ·)).toArray⟩ := by
    unfold L2.cutS
    rw [show ((k : Int) + 1) = ((k + 1 : Nat) : Int) by omega, HT.sIx_nat, HT.sIx_nat, ew, wz_len]
    by_cases hk : k < w.length
    · rw [Nat.min_eq_left (Nat.le_of_lt hk), Nat.min_eq_left (by omega : k + 1 ≤ w.length), show k + 1 - k = 1 by omega]
      rw [List.map_take, List.map_drop]
    · rw [Nat.min_eq_right (by omega : w.length ≤ k), Nat.min_eq_right (by omega : w.length ≤ k + 1)]
      rw [List.drop_of_length_le (by simp), List.drop_of_length_le (by omega : w.length ≤ k)]
      simp
  have el : (Txt.ljustF (L2.cutS (wz w) (some (k : Int)) (some ((k : Int) + 1))) 1 46).cps.toList = [ch L (wat L w k)] := by
    rw [ljustF_list, ec]
    by_cases hk : k < w.length
    · have := h.2 _ (List.getElem_mem hk)
      rw [List.drop_eq_getElem_cons hk]
      have e1 : ((⟨((((w[k] :: w.drop (k + 1)).take 1).map (97 + ·)).toArray)⟩ : Str)).length = 1 := rfl
      rw [e1]
      simp [wat, ch, hk, this]
      rw [← List.map_drop, List.drop_eq_getElem_cons hk]
      rfl
    · rw [List.drop_of_length_le (by omega : w.length ≤ k)]
      have e1 : ((⟨((((([] : List Nat).take 1).map (97 + ·)).toArray))⟩ : Str)).length = 0 := rfl
      rw [e1]
      have e2 : w[k]? = none := List.getElem?_eq_none (by omega)
      simp [wat, ch, e2]
  generalize Txt.ljustF (L2.cutS (wz w) (some (k : Int)) (some ((k : Int) + 1))) 1 46 = z at el
  cases z with
  | mk c =>
    have : c = #[ch L (wat L w k)] := by
      apply Array.toList_inj.mp
      exact el
    rw [this]
theorem ltells_ok (ds : List D) (S : HD) (Q : QD) (h : spLTells ds S Q) : rd__law_tells spColsL (ends Q) (pad 6 ds) S := by
  obtain ⟨M, w1, w2, rfl, ok, h1, h2, q⟩ := h
  have hsl : (sizeLine : Nat) = 16777216 := rfl
  have b1 := h1.1
  have b2 := h2.1
  have e0 : L2.atI [D.int (M.L : Nat), M.rowsD, M.vsD] 0 = some (D.int (M.L : Nat)) := rfl
  have e1 : L2.atI [D.int (M.L : Nat), M.rowsD, M.vsD] 1 = some M.rowsD := rfl
  have e2 : L2.atI [D.int (M.L : Nat), M.rowsD, M.vsD] 2 = some M.vsD := rfl
  unfold rd__law_tells Cmp.enc
  refine seq_step fun N1 hN1 => ?_
  walk_at "rdx"
  simp only [e0]
  refine ⟨M.L, rfl, ok.l1, ok.l3, hN1 _ _ ?_⟩
  clear hN1 N1
  refine seq_step fun N1 hN1 => ?_
  generalize hB : sAsgD _ (gNameD 4) = B1
  walk_at "rdx"
  rw [wz_len, wz_len]
  refine ⟨by omega, by omega, max_q _ _ ⟨by omega, ?_⟩⟩
  rw [Int.toNat_natCast]
  refine loopD_go (fun i σ S' => S' = S ∧ ∃ v5, σ = [some (.tup [.int (M.L : Nat), M.rowsD, M.vsD]), some (.str (wz w1)), some (.str (wz w2)), some (.lst (cols M.L)), some (.int (M.run w1 w2 i : Nat)), v5]) ⟨rfl, _, rfl⟩ (fun i d σ S' N hi ⟨e3, v5, e4⟩ kk => ⟨trivial, ?_⟩) fun σ S' ⟨e3, v5, e4⟩ => ⟨trivial, ?_⟩
  · subst e3 e4
    obtain ⟨hi1, rfl⟩ := rngD_get hi
    rw [Int.zero_add]
    have hs := run_lt ok h1 h2 i (by omega)
    obtain ⟨r, g1, g2, g3⟩ := Cmp.nx_at ok hs (wat_le h1 i).1 (wat_le h2 i).1 (wat_no h1 h2 hi1)
    have gi := ix_at ok.l1 ok.l3 (wat_le h1 i).1 (wat_le h2 i).1 (wat_no h1 h2 hi1)
    have lc : (Str.ofString ".").cps.getD 0 0 = 46 := by decide +kernel
    have ld : (Str.ofString ".").length = 1 := by decide +kernel
    walk_at "rdx"
    subst hB
    walk_at "rdx"
    simp only [e1]
    have er : M.rowsD = .tup (M.rows.map encR) := rfl
    rw [er]
    walk_at "rdx"
    have ek : (⟨#[ch M.L (wat M.L w1 i)]⟩ : Str) ++ (⟨#[ch M.L (wat M.L w2 i)]⟩ : Str) = colA M.L (wat M.L w1 i) (wat M.L w2 i) := rfl
    have p1 : PadOk 1 = true := by decide +kernel
    simp only [g1, lc, cut_one h1, cut_one h2]
    rw [ek]
    simp only [gi]
    have er2 : encR r = .tup (r.map fun t => .int (t : Nat)) := rfl
    rw [er2]
    refine ⟨⟨_, rfl⟩, by rw [wz_len]; omega, ⟨_, rfl⟩, ld, p1, by rw [wz_len]; omega, ⟨_, rfl⟩, ld, p1, by show 1 + 1 ≤ sizeLine; omega, ⟨rfl, cols_flat _⟩, ?_⟩
    simp only [g2]
    exact kk _ _ ⟨rfl, _, rfl⟩
  · subst e3 e4
    clear hB
    refine hN1 _ _ ?_
    clear hN1 N1
    rw [rngD_len]
    have hs := run_lt ok h1 h2 _ (Nat.le_refl _)
    have hv : M.vs[M.run w1 w2 (max w1.length w2.length)]? = some (M.tell w1 w2) := by
      have : M.run w1 w2 (max w1.length w2.length) < M.vs.length := by rw [ok.vl]; exact hs
      unfold Cmp.tell Cmp.ver
      rw [List.getElem?_eq_getElem this]
      rfl
    have ea : L2.atI (M.vs.map D.int) ((M.run w1 w2 (max w1.length w2.length) : Nat) : Int) = some (.int (M.tell w1 w2)) := atI_map hv
    walk_at "rdx"
    simp only [e2]
    have ev : M.vsD = .tup (M.vs.map D.int) := rfl
    rw [ev]
    simp only [ea]
    exact fin.here q
end K36
end

section
namespace K36
open PySem PySem.Spec PyProof.Rows PD
local macro_rules | `(tactic| walk_at "rdx") => `(tactic| simp only [PD.pad, PD.gt_z, PD.gt_s, PD.st_z, PD.st_s, PD.sNextD, PD.sSeqD, PD.sBreakD, PD.sContD, PD.sDropD, PD.sRetD, PD.sRetND, PD.sIfD, PD.sNeverD, PD.sAsgD, PD.sPar2, PD.sPar3, PD.gNameD, PD.gNilD, PD.gConsD, PD.gTupD, PD.gSubD, PD.tNilD, PD.tConsD, PD.tTupD, PD.tLstV, PD.tLstR, PD.tBin, PD.tTst, PD.tAndD, PD.tOrD, PD.tNotD, PD.tIfD, PD.tAndV, PD.tOrV, PD.tNotV, PD.tUnD, PD.rNeg, PD.tCallD, PD.tSlot, PD.tCD, PD.tChainD, PD.rIsN, PD.rNotN, PD.rIsiD, PD.isi_non, PD.isi_bl, PD.isi_int, PD.isi_str, PD.isi_tup, PD.isi_lst, PD.isi_dic, PD.Ty.name, PD.rCmpI, PD.fLt, PD.fLe, PD.fGt, PD.fGe, PD.rAddD, PD.rSubD, PD.rFdivD, PD.rModD, PD.rPowD, PD.rMulD, PD.rAddR, PD.rMulR, PD.asSeq, PD.asLst, PD.rLenD, PD.rTupleD, PD.rListV, PD.rListR, PD.rIntD, PD.rBoolD, PD.rAbsD, PD.rIxD, PD.oNone, PD.oSome, PD.tSlD, PD.rSlD, PD.tRevTD, PD.rEqD, PD.rNeD, PD.nrm_non, PD.nrm_bl, PD.nrm_int, PD.nrm_str, PD.nrm_tup, PD.nrm_lst, PD.nrm_dic, PD.nrm_ref, PD.iSeqD, PD.iRng1D, PD.iRng2D, PD.sForD, PD.tLcV, PD.tLcR, PD.tYesD, PD.wipeD, PD.tMethL, PD.rAppD, PD.isRefL, PD.tDicV, PD.keyOf, PD.asDic, PD.srcD, PD.iAnyD, PD.iZipD, PD.iEnumD, PD.tDcV, PD.tDicR, PD.gSubX, PD.rSetX, PD.rIxX, PD.rInD, PD.rInX, PD.rInY, PD.rSumD, PD.tRevLD, PD.tRevX, PD.rSixD, PD.rJoinD, PD.tMethS, PD.rLixD, PD.rPopD, PD.rExtD, PD.tMethA, PD.rSetD, PD.rReprD, PD.eqk_int, PD.eqd_int, PD.eqk_str, PD.eqd_str, PD.eqk_lst0, PD.eqd_lst0, PD.eqk_tup0, PD.eqd_tup0, PD.tdOf, PD.rInW, PD.rIxW, PD.rSetW, PD.gSubW, PD.rLenW, PD.rGetW, PD.rGetAt, PD.tMethW, PD.rSetdW, PD.tDispR, PD.tPairsD, PD.putAll, PD.tDisp1T, PD.gSeqD, PD.rListW, PD.tLenSetD, PD.tFldD, PD.fldD, PD.tMethC, PD.methD, PD.tMakeD, PD.sFldD, PD.tMethB, PD.rLjD, PD.tCallX, PD.sRetX, PD.sRaiseD, PD.sTryD, PD.hdlD, PD.noX, Option.map_some, Option.bind_some, PD.spFn, PD.spDraw, reduceIte, true_and, and_true, or_false, false_or, Bool.not_true, Bool.not_false, Bool.false_eq_true, List.length_cons, List.length_nil, List.set_cons_zero, List.set_cons_succ, PD.HD.set_same, PD.HD.tick_hp, PD.HD.tick_c, PD.HD.tick_dk, PD.HD.set_c, PD.HD.set_dk])
local macro_rules | `(tactic| simp_all only [$xs,*]) => `(tactic| simp only [PD.pad, PD.gt_z, PD.gt_s, PD.st_z, PD.st_s, PD.sNextD, PD.sSeqD, PD.sBreakD, PD.sContD, PD.sDropD, PD.sRetD, PD.sRetND, PD.sIfD, PD.sNeverD, PD.sAsgD, PD.sPar2, PD.sPar3, PD.gNameD, PD.gNilD, PD.gConsD, PD.gTupD, PD.gSubD, PD.tNilD, PD.tConsD, PD.tTupD, PD.tLstV, PD.tLstR, PD.tBin, PD.tTst, PD.tAndD, PD.tOrD, PD.tNotD, PD.tIfD, PD.tAndV, PD.tOrV, PD.tNotV, PD.tUnD, PD.rNeg, PD.tCallD, PD.tSlot, PD.tCD, PD.tChainD, PD.rIsN, PD.rNotN, PD.rIsiD, PD.isi_non, PD.isi_bl, PD.isi_int, PD.isi_str, PD.isi_tup, PD.isi_lst, PD.isi_dic, PD.Ty.name, PD.rCmpI, PD.fLt, PD.fLe, PD.fGt, PD.fGe, PD.rAddD, PD.rSubD, PD.rFdivD, PD.rModD, PD.rPowD, PD.rMulD, PD.rAddR, PD.rMulR, PD.asSeq, PD.asLst, PD.rLenD, PD.rTupleD, PD.rListV, PD.rListR, PD.rIntD, PD.rBoolD, PD.rAbsD, PD.rIxD, PD.oNone, PD.oSome, PD.tSlD, PD.rSlD, PD.tRevTD, PD.rEqD, PD.rNeD, PD.nrm_non, PD.nrm_bl, PD.nrm_int, PD.nrm_str, PD.nrm_tup, PD.nrm_lst, PD.nrm_dic, PD.nrm_ref, PD.iSeqD, PD.iRng1D, PD.iRng2D, PD.sForD, PD.tLcV, PD.tLcR, PD.tYesD, PD.wipeD, PD.tMethL, PD.rAppD, PD.isRefL, PD.tDicV, PD.keyOf, PD.asDic, PD.srcD, PD.iAnyD, PD.iZipD, PD.iEnumD, PD.tDcV, PD.tDicR, PD.gSubX, PD.rSetX, PD.rIxX, PD.rInD, PD.rInX, PD.rInY, PD.rSumD, PD.tRevLD, PD.tRevX, PD.rSixD, PD.rJoinD, PD.tMethS, PD.rLixD, PD.rPopD, PD.rExtD, PD.tMethA, PD.rSetD, PD.rReprD, PD.eqk_int, PD.eqd_int, PD.eqk_str, PD.eqd_str, PD.eqk_lst0, PD.eqd_lst0, PD.eqk_tup0, PD.eqd_tup0, PD.tdOf, PD.rInW, PD.rIxW, PD.rSetW, PD.gSubW, PD.rLenW, PD.rGetW, PD.rGetAt, PD.tMethW, PD.rSetdW, PD.tDispR, PD.tPairsD, PD.putAll, PD.tDisp1T, PD.gSeqD, PD.rListW, PD.tLenSetD, PD.tFldD, PD.fldD, PD.tMethC, PD.methD, PD.tMakeD, PD.sFldD, PD.tMethB, PD.rLjD, PD.tCallX, PD.sRetX, PD.sRaiseD, PD.sTryD, PD.hdlD, PD.noX, Option.map_some, Option.bind_some, PD.spFn, PD.spDraw, reduceIte, true_and, and_true, or_false, false_or, Bool.not_true, Bool.not_false, Bool.false_eq_true, List.length_cons, List.length_nil, List.set_cons_zero, List.set_cons_succ, PD.HD.set_same, PD.HD.tick_hp, PD.HD.tick_c, PD.HD.tick_dk, PD.HD.set_c, PD.HD.set_dk, $xs,*])
theorem szL_rev (xs : List D) : szL xs.reverse = szL xs := by
  induction xs with
  | nil => rfl
  | cons x xs ih => rw [List.reverse_cons, szL_app, ih]; simp only [szL]; omega
/-- what may become of a value -/
def BentOk (v d : D) : Prop := okR d = true ∧ dep d ≤ dep v + 3 ∧ sz d ≤ 2 * sz v + 200
def spBent (n : Nat) : SpD := fun ds S Q => ∃ (v : D) (deep : Int), ds = [.deck, v, .int deep] ∧ 0 ≤ deep ∧ deep ≤ n ∧ okR v = true ∧ sz v ≤ 4000000 ∧ S.c + 10 * (n + 1) ≤ 1000000000000 ∧ ∀ d, BentOk v d → Q d (S.tick (4 * (n + 1)))
/-- what the callee of a bend must tell -/
def Callee (sb : SpD) (n : Nat) : Prop := ∀ (v : D) (deep : Int) (S : HD) (Q : QD), 0 ≤ deep → deep + 1 ≤ n → okR v = true → sz v ≤ 4000000 → S.c + 10 * n ≤ 1000000000000 → (∀ d, BentOk v d → Q d (S.tick (4 * n))) → sb [.deck, v, .int deep] S Q
def odds : List D := [.non, .bl true, .bl false, .int 0, .int 1, .int 2, .int 4, .int 9, .int 10, .int 30, .int 31, .int (-1), .int (10 ^ (40 : Int).toNat), .str "a", .str "c", .str "d", .str "", .str "cut", .str "pass", .str "ab", .tup [], .tup [.int 0], .tup [.str "a"], .lst [], .dic []]
theorem odds_ok : ∀ d ∈ odds, okR d = true ∧ dep d ≤ 3 ∧ sz d ≤ 200 := by
  have h : (odds.all fun d => okR d && decide (dep d ≤ 3) && decide (sz d ≤ 200)) = true := by decide +kernel
  intro d hd
  have := List.all_eq_true.mp h d hd
  simp only [Bool.and_eq_true, decide_eq_true_eq] at this
  exact ⟨this.1.1, this.1.2, this.2⟩
theorem other_ok {sb : SpD} {n : Nat} (hsb : Callee sb n) (hn : n ≤ 20) (ds : List D) (S : HD) (Q : QD) (h : spBent n ds S Q) : rd__law_otherwise spDraw spOne sb (ends Q) (pad 6 ds) S := by
  obtain ⟨v, deep, rfl, d0, d1, ok, hz, hc, q⟩ := h
  unfold rd__law_otherwise
  refine seq_step fun N1 hN1 => ?_
  walk_at "rdx"
  refine ⟨by decide, by decide, by decide, by decide, by decide, by decide, hN1 _ _ ?_⟩
  clear hN1 N1
  generalize hU : (sSeqD (sPar2 _ _ _) _ : TSD) = U1
  walk_at "rdx"
  have out : ∀ S', Up 3 S S' → spOne [.deck, .lst odds] S' (fin Q) := fun S' hu => ⟨_, _, rfl, rfl, by decide, by decide, by have := hu.c; omega, fun d hd => by
    obtain ⟨o1, o2, o3⟩ := odds_ok d hd
    exact ((hu.tick (k := 1)).mono (by omega)).fin (q d ⟨o1, by omega, by omega⟩)⟩
  simp only [isT_ok ok]
  cases ht : isT .tuple v with
  | false =>
    simp only [Bool.not_false, if_true]
    exact out S ((Up.refl S).mono (by decide))
  | true =>
    obtain ⟨xs, rfl⟩ := isT_tup ht
    simp only [Bool.not_true, Bool.false_eq_true, if_false, nrm_tup, eqk_tup0, eqd_tup0, true_and]
    refine ⟨by decide, ?_⟩
    cases he : xs.isEmpty with
    | true =>
      simp only [if_true]
      exact out S ((Up.refl S).mono (by decide))
    | false =>
      simp only [Bool.false_eq_true, if_false]
      by_cases hd : deep = 0
      · simp only [hd, decide_true, if_true]
        exact out S ((Up.refl S).mono (by decide))
      simp only [hd, decide_false, Bool.false_eq_true, if_false]
      refine ⟨⟨by decide, by decide, by omega⟩, fun r _ _ => ?_⟩
      by_cases hr : r = 0
      · simp only [hr, decide_true, if_true]
        exact out _ (((Up.refl S).tick (k := 1)).mono (by decide))
      simp only [hr, decide_false, Bool.false_eq_true, if_false]
      subst hU
      have hne : xs ≠ [] := fun e => by rw [e] at he; cases he
      have hpos : 1 ≤ xs.length := by cases xs with
        | nil => exact (hne rfl).elim
        | cons _ _ => simp
      have hsz : sz (.tup xs) = szL xs + 3 := rfl
      have hdp : dep (.tup xs) = depL xs + 1 := rfl
      have okx : okRL xs = true := ok
      have hxl : xs.length ≤ 4000000 := by have := szL_len xs; omega
      have hsl : (sizeLine : Nat) = 16777216 := rfl
      walk_at "rdx"
      refine ⟨⟨by omega, by omega, by omega⟩, fun a a0 a1 => ⟨⟨by decide, by decide, by omega⟩, fun way _ _ => ?_⟩⟩
      have hu : Up 3 S (((S.tick 1).tick 1).tick 1) := ((((Up.refl S).tick (k := 1)).tick (k := 1)).tick (k := 1))
      generalize (((S.tick 1).tick 1).tick 1) = S3 at hu
      obtain ⟨a, rfl⟩ := Int.eq_ofNat_of_zero_le a0
      have al : a < xs.length := by omega
      have hx : xs[a]? = some xs[a] := by simp [al]
      have split := szL_split hx
      have ea : ((a : Int) + 1) = ((a + 1 : Nat) : Int) := rfl
      simp only [ea, cut_pre, cut_suf, cut_mid xs a (a + 1) (Nat.le_succ a)]
      have fin' : ∀ d S', BentOk (.tup xs) d → Up 4 S S' → fin Q d S' := fun d S' h1 h2 => (h2.mono (by omega)).fin (q d h1)
      by_cases hw0 : way = 0
      · simp only [hw0, decide_true, if_true]
        refine ⟨by simp; omega, fin' _ _ ⟨okRL_app (okRL_sub okx fun y => List.mem_of_mem_take) (okRL_sub okx fun y => List.mem_of_mem_drop), ?_, ?_⟩ (hu.mono (by decide))⟩
        · have h1 : depL (xs.take a) ≤ depL xs := depL_sub fun y => List.mem_of_mem_take
          have h2 : depL (xs.drop (a + 1)) ≤ depL xs := depL_sub fun y => List.mem_of_mem_drop
          simp only [dep, depL_app]
          omega
        · simp only [sz, szL_app]
          omega
      simp only [hw0, decide_false, Bool.false_eq_true, if_false]
      by_cases hw1 : way = 1
      · simp only [hw1, decide_true, if_true]
        have m1 : ∀ y ∈ (xs.take (a + 1)).drop a, y ∈ xs := fun y h => List.mem_of_mem_take (List.mem_of_mem_drop h)
        refine ⟨by simp; omega, fin' _ _ ⟨okRL_app okx (okRL_sub okx m1), ?_, ?_⟩ (hu.mono (by decide))⟩
        · have h3 : depL ((xs.take (a + 1)).drop a) ≤ depL xs := depL_sub m1
          simp only [dep, depL_app]
          omega
        · have h2 : szL ((xs.take (a + 1)).drop a) ≤ szL xs := Nat.le_trans (szL_drop _ _) (szL_take _ _)
          simp only [sz, szL_app]
          omega
      simp only [hw1, decide_false, Bool.false_eq_true, if_false]
      by_cases hw2 : way = 2
      · simp only [hw2, decide_true, if_true]
        exact fin' _ _ ⟨okx, by simp only [dep]; omega, by simp only [sz]; omega⟩ (hu.mono (by decide))
      simp only [hw2, decide_false, Bool.false_eq_true, if_false]
      by_cases hw3 : way = 3
      · simp only [hw3, decide_true, if_true]
        exact fin' _ _ ⟨okRL_sub okx fun y => List.mem_reverse.mp, by
          have : depL xs.reverse ≤ depL xs := depL_sub fun y => List.mem_reverse.mp
          simp only [dep]; omega, by
          have := szL_rev xs
          simp only [sz]; omega⟩ (hu.mono (by decide))
      simp only [hw3, decide_false, Bool.false_eq_true, if_false, atI_get al]
      have hm : xs[a] ∈ xs := List.getElem_mem al
      have hms : sz xs[a] ≤ szL xs := szL_mem hm
      refine hsb _ _ _ _ (by omega) (by omega) (okRL_mem okx hm) (by omega) (by have := hu.c; omega) fun d ⟨b1, b2, b3⟩ => ?_
      refine ⟨by decide, by simp; omega, by simp; omega, ((hu.tick (k := 4 * n)).mono (by omega)).fin (q _ ⟨okRL_app (okRL_app (okRL_sub okx fun y => List.mem_of_mem_take) (by simp [okRL, b1])) (okRL_sub okx fun y => List.mem_of_mem_drop), ?_, ?_⟩)⟩
      · have h1 : depL (xs.take a) ≤ depL xs := depL_sub fun y => List.mem_of_mem_take
        have h2 : depL (xs.drop (a + 1)) ≤ depL xs := depL_sub fun y => List.mem_of_mem_drop
        have h3 := depL_le hm
        simp only [dep, depL_app, depL]
        omega
      · simp only [sz, szL_app, szL]
        omega
theorem never_callee : Callee (fun _ _ _ => False) 0 := fun v deep S Q h1 h2 _ _ _ _ => by omega
theorem bent_callee (n : Nat) : Callee (spBent n) (n + 1) := fun v deep S Q h1 h2 h3 h4 h5 h6 => ⟨v, deep, rfl, h1, by omega, h3, h4, h5, h6⟩
end K36
end

section
/-! P36h: a drawn comparison. -/
namespace K36
open PySem PySem.Spec PyProof.Rows PD
local macro_rules | `(tactic| walk_at "rdx") => `(tactic| simp only [PD.pad, PD.gt_z, PD.gt_s, PD.st_z, PD.st_s, PD.sNextD, PD.sSeqD, PD.sBreakD, PD.sContD, PD.sDropD, PD.sRetD, PD.sRetND, PD.sIfD, PD.sNeverD, PD.sAsgD, PD.sPar2, PD.sPar3, PD.gNameD, PD.gNilD, PD.gConsD, PD.gTupD, PD.gSubD, PD.tNilD, PD.tConsD, PD.tTupD, PD.tLstV, PD.tLstR, PD.tBin, PD.tTst, PD.tAndD, PD.tOrD, PD.tNotD, PD.tIfD, PD.tAndV, PD.tOrV, PD.tNotV, PD.tUnD, PD.rNeg, PD.tCallD, PD.tSlot, PD.tCD, PD.tChainD, PD.rIsN, PD.rNotN, PD.rIsiD, PD.isi_non, PD.isi_bl, PD.isi_int, PD.isi_str, PD.isi_tup, PD.isi_lst, PD.isi_dic, PD.Ty.name, PD.rCmpI, PD.fLt, PD.fLe, PD.fGt, PD.fGe, PD.rAddD, PD.rSubD, PD.rFdivD, PD.rModD, PD.rPowD, PD.rMulD, PD.rAddR, PD.rMulR, PD.asSeq, PD.asLst, PD.rLenD, PD.rTupleD, PD.rListV, PD.rListR, PD.rIntD, PD.rBoolD, PD.rAbsD, PD.rIxD, PD.oNone, PD.oSome, PD.tSlD, PD.rSlD, PD.tRevTD, PD.rEqD, PD.rNeD, PD.nrm_non, PD.nrm_bl, PD.nrm_int, PD.nrm_str, PD.nrm_tup, PD.nrm_lst, PD.nrm_dic, PD.nrm_ref, PD.iSeqD, PD.iRng1D, PD.iRng2D, PD.sForD, PD.tLcV, PD.tLcR, PD.tYesD, PD.wipeD, PD.tMethL, PD.rAppD, PD.isRefL, PD.tDicV, PD.keyOf, PD.asDic, PD.srcD, PD.iAnyD, PD.iZipD, PD.iEnumD, PD.tDcV, PD.tDicR, PD.gSubX, PD.rSetX, PD.rIxX, PD.rInD, PD.rInX, PD.rInY, PD.rSumD, PD.tRevLD, PD.tRevX, PD.rSixD, PD.rJoinD, PD.tMethS, PD.rLixD, PD.rPopD, PD.rExtD, PD.tMethA, PD.rSetD, PD.rReprD, PD.eqk_int, PD.eqd_int, PD.eqk_str, PD.eqd_str, PD.eqk_lst0, PD.eqd_lst0, PD.eqk_tup0, PD.eqd_tup0, PD.tdOf, PD.rInW, PD.rIxW, PD.rSetW, PD.gSubW, PD.rLenW, PD.rGetW, PD.rGetAt, PD.tMethW, PD.rSetdW, PD.tDispR, PD.tPairsD, PD.putAll, PD.tDisp1T, PD.gSeqD, PD.rListW, PD.tLenSetD, PD.tFldD, PD.fldD, PD.tMethC, PD.methD, PD.tMakeD, PD.sFldD, PD.tMethB, PD.rLjD, PD.tCallX, PD.sRetX, PD.sRaiseD, PD.sTryD, PD.hdlD, PD.noX, Option.map_some, Option.bind_some, PD.spFn, PD.spDraw, reduceIte, true_and, and_true, or_false, false_or, Bool.not_true, Bool.not_false, Bool.false_eq_true, List.length_cons, List.length_nil, List.set_cons_zero, List.set_cons_succ, PD.HD.set_same, PD.HD.tick_hp, PD.HD.tick_c, PD.HD.tick_dk, PD.HD.set_c, PD.HD.set_dk])
local macro_rules | `(tactic| simp_all only [$xs,*]) => `(tactic| simp only [PD.pad, PD.gt_z, PD.gt_s, PD.st_z, PD.st_s, PD.sNextD, PD.sSeqD, PD.sBreakD, PD.sContD, PD.sDropD, PD.sRetD, PD.sRetND, PD.sIfD, PD.sNeverD, PD.sAsgD, PD.sPar2, PD.sPar3, PD.gNameD, PD.gNilD, PD.gConsD, PD.gTupD, PD.gSubD, PD.tNilD, PD.tConsD, PD.tTupD, PD.tLstV, PD.tLstR, PD.tBin, PD.tTst, PD.tAndD, PD.tOrD, PD.tNotD, PD.tIfD, PD.tAndV, PD.tOrV, PD.tNotV, PD.tUnD, PD.rNeg, PD.tCallD, PD.tSlot, PD.tCD, PD.tChainD, PD.rIsN, PD.rNotN, PD.rIsiD, PD.isi_non, PD.isi_bl, PD.isi_int, PD.isi_str, PD.isi_tup, PD.isi_lst, PD.isi_dic, PD.Ty.name, PD.rCmpI, PD.fLt, PD.fLe, PD.fGt, PD.fGe, PD.rAddD, PD.rSubD, PD.rFdivD, PD.rModD, PD.rPowD, PD.rMulD, PD.rAddR, PD.rMulR, PD.asSeq, PD.asLst, PD.rLenD, PD.rTupleD, PD.rListV, PD.rListR, PD.rIntD, PD.rBoolD, PD.rAbsD, PD.rIxD, PD.oNone, PD.oSome, PD.tSlD, PD.rSlD, PD.tRevTD, PD.rEqD, PD.rNeD, PD.nrm_non, PD.nrm_bl, PD.nrm_int, PD.nrm_str, PD.nrm_tup, PD.nrm_lst, PD.nrm_dic, PD.nrm_ref, PD.iSeqD, PD.iRng1D, PD.iRng2D, PD.sForD, PD.tLcV, PD.tLcR, PD.tYesD, PD.wipeD, PD.tMethL, PD.rAppD, PD.isRefL, PD.tDicV, PD.keyOf, PD.asDic, PD.srcD, PD.iAnyD, PD.iZipD, PD.iEnumD, PD.tDcV, PD.tDicR, PD.gSubX, PD.rSetX, PD.rIxX, PD.rInD, PD.rInX, PD.rInY, PD.rSumD, PD.tRevLD, PD.tRevX, PD.rSixD, PD.rJoinD, PD.tMethS, PD.rLixD, PD.rPopD, PD.rExtD, PD.tMethA, PD.rSetD, PD.rReprD, PD.eqk_int, PD.eqd_int, PD.eqk_str, PD.eqd_str, PD.eqk_lst0, PD.eqd_lst0, PD.eqk_tup0, PD.eqd_tup0, PD.tdOf, PD.rInW, PD.rIxW, PD.rSetW, PD.gSubW, PD.rLenW, PD.rGetW, PD.rGetAt, PD.tMethW, PD.rSetdW, PD.tDispR, PD.tPairsD, PD.putAll, PD.tDisp1T, PD.gSeqD, PD.rListW, PD.tLenSetD, PD.tFldD, PD.fldD, PD.tMethC, PD.methD, PD.tMakeD, PD.sFldD, PD.tMethB, PD.rLjD, PD.tCallX, PD.sRetX, PD.sRaiseD, PD.sTryD, PD.hdlD, PD.noX, Option.map_some, Option.bind_some, PD.spFn, PD.spDraw, reduceIte, true_and, and_true, or_false, false_or, Bool.not_true, Bool.not_false, Bool.false_eq_true, List.length_cons, List.length_nil, List.set_cons_zero, List.set_cons_succ, PD.HD.set_same, PD.HD.tick_hp, PD.HD.tick_c, PD.HD.tick_dk, PD.HD.set_c, PD.HD.set_dk, $xs,*])
def spComp : SpD := fun ds S Q => ∃ (L n : Nat), ds = [.deck, .int (L : Nat), .int (n : Nat)] ∧ 1 ≤ L ∧ L ≤ 3 ∧ 1 ≤ n ∧ n ≤ 61 ∧ S.c + 1000 ≤ 1000000000000 ∧ ∀ M : Cmp, M.Ok → M.L = L → M.rows.length = n → Q M.enc (S.tick 1000)
theorem comp_len (ds : List D) (S : HD) (Q : QD) (h : spComp ds S Q) : ds.length = 3 := by
  obtain ⟨_, _, rfl, _⟩ := h
  rfl
theorem comp_ok (ds : List D) (S : HD) (Q : QD) (h : spComp ds S Q) : rd__law_comp spColsL spDraw spOne (ends Q) (pad 6 ds) S := by
  obtain ⟨L, n, rfl, l1, l3, n1, n61, hc, q⟩ := h
  have hsl : (sizeLine : Nat) = 16777216 := rfl
  have cl : (cols L).length ≤ 15 := by
    rw [cols_le l1 l3]
    obtain rfl | rfl | rfl : L = 1 ∨ L = 2 ∨ L = 3 := by omega
    all_goals decide
  unfold rd__law_comp
  refine seq_step fun N1 hN1 => ?_
  generalize hB : (tCallD rTupleD (tConsD (tLcV (iAnyD _) _ _ _ _) _) : TED) = B1
  walk_at "rdx"
  rw [Int.toNat_natCast]
  refine ⟨by omega, by rw [rngD_len]; omega, ?_⟩
  refine lcD_go (fun i acc S' => ∃ rs : List (List Nat), acc = rs.map encR ∧ rs.length = i ∧ (∀ r ∈ rs, r.length = (cols L).length ∧ ∀ t ∈ r, t < n) ∧ Up (15 * i) S S') ⟨[], rfl, rfl, fun _ h => (by cases h), Up.refl S⟩ (fun i d acc S' N hi ⟨rs, e1, e2, e3, e4⟩ kk => ⟨trivial, ?_⟩) fun acc S' ⟨rs, e1, e2, e3, e4⟩ => ⟨trivial, ?_⟩
  · obtain ⟨hi1, rfl⟩ := rngD_get hi
    walk_at "rdx"
    subst hB
    generalize hD : (tCallD spDraw _ : TED) = D1
    walk_at "rdx"
    refine ⟨L, rfl, l1, l3, ?_⟩
    walk_at "rdx"
    refine fun hz => ⟨hz, lcD_go (fun j acc2 S2 => ∃ ts : List Nat, acc2 = (ts.map fun t => D.int (t : Nat)) ∧ ts.length = j ∧ (∀ t ∈ ts, t < n) ∧ Up (15 * i + j) S S2) ⟨[], rfl, rfl, fun _ h => (by cases h), e4⟩ (fun j d2 acc2 S2 N2 hj ⟨ts, g1, g2, g3, g4⟩ k2 => ⟨trivial, ?_⟩) fun acc2 S2 ⟨ts, g1, g2, g3, g4⟩ => ⟨trivial, ?_⟩⟩
    · have hj1 := (List.getElem?_eq_some_iff.mp hj).1
      subst hD
      walk_at "rdx"
      have := g4.c
      refine ⟨⟨by omega, by omega, by omega⟩, fun r r0 r1 => k2 _ _ ⟨ts ++ [r.toNat], ?_, by rw [List.length_append, g2]; rfl, fun t ht => ?_, g4.tick (k := 1)⟩⟩
      · rw [g1, List.map_append]
        congr 1
        simp [Int.toNat_of_nonneg r0]
      · rcases List.mem_append.mp ht with h | h
        · exact g3 t h
        · rw [List.mem_singleton.mp h]; omega
    · subst g1
      refine kk _ _ ⟨rs ++ [ts], ?_, by rw [List.length_append, e2]; rfl, fun r hr => ?_, g4.mono (by omega)⟩
      · rw [e1, List.map_append]
        rfl
      · rcases List.mem_append.mp hr with h | h
        · exact e3 r h
        · rw [List.mem_singleton.mp h]; exact ⟨g2, g3⟩
  · subst e1
    rw [rngD_len] at e2 e4
    refine hN1 _ _ ?_
    clear hN1 N1
    generalize hD : (tBin rSubD (tCallD spDraw _) _ : TED) = D1
    walk_at "rdx"
    have hu := e4.c
    refine ⟨by decide, _, _, rfl, rfl, by simp, by simp, by omega, fun o ho => ⟨by decide, ⟨by omega, by omega⟩, by rw [rngD_len]; omega, ?_⟩⟩
    obtain ⟨v0, rfl, hv0⟩ : ∃ v0 : Int, o = .int v0 ∧ -1 ≤ v0 ∧ v0 ≤ 1 := by
      rcases List.mem_cons.mp ho with e | ho
      · exact ⟨0, e, by decide⟩
      rcases List.mem_cons.mp ho with e | ho
      · exact ⟨0, e, by decide⟩
      · exact ⟨1, List.mem_singleton.mp ho, by decide⟩
    refine lcD_go (fun i acc S2 => ∃ vs : List Int, acc = vs.map D.int ∧ vs.length = i ∧ (∀ v ∈ vs, -1 ≤ v ∧ v ≤ 1) ∧ Up (15 * n + 1 + i) S S2) ⟨[], rfl, rfl, fun _ h => (by cases h), (by rw [e2] at *; exact e4.tick (k := 1))⟩ (fun i d acc S2 N hi ⟨vs, g1, g2, g3, g4⟩ kk => ⟨trivial, ?_⟩) fun acc S2 ⟨vs, g1, g2, g3, g4⟩ => ⟨trivial, ?_⟩
    · obtain ⟨hi1, rfl⟩ := rngD_get hi
      have hn : ((n : Int) - 1).toNat = n - 1 := by omega
      rw [hn] at hi1
      have := g4.c
      subst hD
      walk_at "rdx"
      refine ⟨⟨by decide, by decide, by omega⟩, fun r r0 r1 => kk _ _ ⟨vs ++ [r - 1], by rw [g1, List.map_append]; rfl, by rw [List.length_append, g2]; rfl, fun v hv => ?_, g4.tick (k := 1)⟩⟩
      rcases List.mem_append.mp hv with h | h
      · exact g3 v h
      · rw [List.mem_singleton.mp h]; omega
    · subst g1
      rw [rngD_len] at g2 g4
      have hn : ((n : Int) - 1).toNat = n - 1 := by omega
      rw [hn] at g2 g4
      refine ⟨by rw [List.length_map]; omega, by decide, (g4.mono (by omega)).fin (q ⟨L, rs, v0 :: vs⟩ ⟨l1, l3, by show 1 ≤ rs.length; omega, by show rs.length ≤ 61; omega, fun r hr => (e3 r hr).1, fun r hr t ht => by show t < rs.length; rw [e2]; exact (e3 r hr).2 t ht, by show (v0 :: vs).length = rs.length; rw [List.length_cons]; omega, fun v hv => ?_⟩ rfl e2)⟩
      rcases List.mem_cons.mp hv with h | h
      · rw [h]; exact hv0
      · exact g3 v h
end K36
end

section
/-! P36i: all short words. -/
namespace K36
open PySem PySem.Spec PyProof.Rows PD
local macro_rules | `(tactic| walk_at "rdx") => `(tactic| simp only [PD.pad, PD.gt_z, PD.gt_s, PD.st_z, PD.st_s, PD.sNextD, PD.sSeqD, PD.sBreakD, PD.sContD, PD.sDropD, PD.sRetD, PD.sRetND, PD.sIfD, PD.sNeverD, PD.sAsgD, PD.sPar2, PD.sPar3, PD.gNameD, PD.gNilD, PD.gConsD, PD.gTupD, PD.gSubD, PD.tNilD, PD.tConsD, PD.tTupD, PD.tLstV, PD.tLstR, PD.tBin, PD.tTst, PD.tAndD, PD.tOrD, PD.tNotD, PD.tIfD, PD.tAndV, PD.tOrV, PD.tNotV, PD.tUnD, PD.rNeg, PD.tCallD, PD.tSlot, PD.tCD, PD.tChainD, PD.rIsN, PD.rNotN, PD.rIsiD, PD.isi_non, PD.isi_bl, PD.isi_int, PD.isi_str, PD.isi_tup, PD.isi_lst, PD.isi_dic, PD.Ty.name, PD.rCmpI, PD.fLt, PD.fLe, PD.fGt, PD.fGe, PD.rAddD, PD.rSubD, PD.rFdivD, PD.rModD, PD.rPowD, PD.rMulD, PD.rAddR, PD.rMulR, PD.asSeq, PD.asLst, PD.rLenD, PD.rTupleD, PD.rListV, PD.rListR, PD.rIntD, PD.rBoolD, PD.rAbsD, PD.rIxD, PD.oNone, PD.oSome, PD.tSlD, PD.rSlD, PD.tRevTD, PD.rEqD, PD.rNeD, PD.nrm_non, PD.nrm_bl, PD.nrm_int, PD.nrm_str, PD.nrm_tup, PD.nrm_lst, PD.nrm_dic, PD.nrm_ref, PD.iSeqD, PD.iRng1D, PD.iRng2D, PD.sForD, PD.tLcV, PD.tLcR, PD.tYesD, PD.wipeD, PD.tMethL, PD.rAppD, PD.isRefL, PD.tDicV, PD.keyOf, PD.asDic, PD.srcD, PD.iAnyD, PD.iZipD, PD.iEnumD, PD.tDcV, PD.tDicR, PD.gSubX, PD.rSetX, PD.rIxX, PD.rInD, PD.rInX, PD.rInY, PD.rSumD, PD.tRevLD, PD.tRevX, PD.rSixD, PD.rJoinD, PD.tMethS, PD.rLixD, PD.rPopD, PD.rExtD, PD.tMethA, PD.rSetD, PD.rReprD, PD.eqk_int, PD.eqd_int, PD.eqk_str, PD.eqd_str, PD.eqk_lst0, PD.eqd_lst0, PD.eqk_tup0, PD.eqd_tup0, PD.tdOf, PD.rInW, PD.rIxW, PD.rSetW, PD.gSubW, PD.rLenW, PD.rGetW, PD.rGetAt, PD.tMethW, PD.rSetdW, PD.tDispR, PD.tPairsD, PD.putAll, PD.tDisp1T, PD.gSeqD, PD.rListW, PD.tLenSetD, PD.tFldD, PD.fldD, PD.tMethC, PD.methD, PD.tMakeD, PD.sFldD, PD.tMethB, PD.rLjD, PD.tCallX, PD.sRetX, PD.sRaiseD, PD.sTryD, PD.hdlD, PD.noX, Option.map_some, Option.bind_some, PD.spFn, PD.spDraw, reduceIte, true_and, and_true, or_false, false_or, Bool.not_true, Bool.not_false, Bool.false_eq_true, List.length_cons, List.length_nil, List.set_cons_zero, List.set_cons_succ, PD.HD.set_same, PD.HD.tick_hp, PD.HD.tick_c, PD.HD.tick_dk, PD.HD.set_c, PD.HD.set_dk])
local macro_rules | `(tactic| simp_all only [$xs,*]) => `(tactic| simp only [PD.pad, PD.gt_z, PD.gt_s, PD.st_z, PD.st_s, PD.sNextD, PD.sSeqD, PD.sBreakD, PD.sContD, PD.sDropD, PD.sRetD, PD.sRetND, PD.sIfD, PD.sNeverD, PD.sAsgD, PD.sPar2, PD.sPar3, PD.gNameD, PD.gNilD, PD.gConsD, PD.gTupD, PD.gSubD, PD.tNilD, PD.tConsD, PD.tTupD, PD.tLstV, PD.tLstR, PD.tBin, PD.tTst, PD.tAndD, PD.tOrD, PD.tNotD, PD.tIfD, PD.tAndV, PD.tOrV, PD.tNotV, PD.tUnD, PD.rNeg, PD.tCallD, PD.tSlot, PD.tCD, PD.tChainD, PD.rIsN, PD.rNotN, PD.rIsiD, PD.isi_non, PD.isi_bl, PD.isi_int, PD.isi_str, PD.isi_tup, PD.isi_lst, PD.isi_dic, PD.Ty.name, PD.rCmpI, PD.fLt, PD.fLe, PD.fGt, PD.fGe, PD.rAddD, PD.rSubD, PD.rFdivD, PD.rModD, PD.rPowD, PD.rMulD, PD.rAddR, PD.rMulR, PD.asSeq, PD.asLst, PD.rLenD, PD.rTupleD, PD.rListV, PD.rListR, PD.rIntD, PD.rBoolD, PD.rAbsD, PD.rIxD, PD.oNone, PD.oSome, PD.tSlD, PD.rSlD, PD.tRevTD, PD.rEqD, PD.rNeD, PD.nrm_non, PD.nrm_bl, PD.nrm_int, PD.nrm_str, PD.nrm_tup, PD.nrm_lst, PD.nrm_dic, PD.nrm_ref, PD.iSeqD, PD.iRng1D, PD.iRng2D, PD.sForD, PD.tLcV, PD.tLcR, PD.tYesD, PD.wipeD, PD.tMethL, PD.rAppD, PD.isRefL, PD.tDicV, PD.keyOf, PD.asDic, PD.srcD, PD.iAnyD, PD.iZipD, PD.iEnumD, PD.tDcV, PD.tDicR, PD.gSubX, PD.rSetX, PD.rIxX, PD.rInD, PD.rInX, PD.rInY, PD.rSumD, PD.tRevLD, PD.tRevX, PD.rSixD, PD.rJoinD, PD.tMethS, PD.rLixD, PD.rPopD, PD.rExtD, PD.tMethA, PD.rSetD, PD.rReprD, PD.eqk_int, PD.eqd_int, PD.eqk_str, PD.eqd_str, PD.eqk_lst0, PD.eqd_lst0, PD.eqk_tup0, PD.eqd_tup0, PD.tdOf, PD.rInW, PD.rIxW, PD.rSetW, PD.gSubW, PD.rLenW, PD.rGetW, PD.rGetAt, PD.tMethW, PD.rSetdW, PD.tDispR, PD.tPairsD, PD.putAll, PD.tDisp1T, PD.gSeqD, PD.rListW, PD.tLenSetD, PD.tFldD, PD.fldD, PD.tMethC, PD.methD, PD.tMakeD, PD.sFldD, PD.tMethB, PD.rLjD, PD.tCallX, PD.sRetX, PD.sRaiseD, PD.sTryD, PD.hdlD, PD.noX, Option.map_some, Option.bind_some, PD.spFn, PD.spDraw, reduceIte, true_and, and_true, or_false, false_or, Bool.not_true, Bool.not_false, Bool.false_eq_true, List.length_cons, List.length_nil, List.set_cons_zero, List.set_cons_succ, PD.HD.set_same, PD.HD.tick_hp, PD.HD.tick_c, PD.HD.tick_dk, PD.HD.set_c, PD.HD.set_dk, $xs,*])
def Stands (S0 S : HD) (d : D) (xs : List D) : Prop := d = .lst xs ∨ ∃ p, d = .ref p ∧ S0.hp p = none ∧ S.hp p = some (.lst xs)
theorem Stands.src {S0 S : HD} {d : D} {xs : List D} (h : Stands S0 S d xs) : ∃ keep, srcD S d = some (xs, keep) ∧ (∀ z, d ≠ .str z) ∧ ∀ S', Stands S0 S' d xs → keep S' := by
  rcases h with e | ⟨p, e, _, h⟩
  · subst e
    exact ⟨fun _ => True, rfl, fun z q => (by cases q), fun _ _ => trivial⟩
  · subst e
    refine ⟨fun S' => S'.hp p = some (.lst xs), ?_, fun z q => (by cases q), fun S' k => ?_⟩
    · simp only [srcD, h]
    · rcases k with e | ⟨p', e, _, h'⟩
      · cases e
      · cases e; exact h'
theorem Stands.set {S0 S : HD} {d : D} {xs : List D} {p : Addr} {o : OD} (h : Stands S0 S d xs) (hp : S.hp p = none) : Stands S0 (S.set p o) d xs :=
  h.imp id fun ⟨p', a, b, c⟩ => ⟨p', a, b, by rw [HD.set_ne fun e => by rw [e, hp] at c; cases c]; exact c⟩
def wD (w : List Nat) : D := .str (wz w)
theorem wz_app (w : List Nat) (c : Nat) : wz w ++ (⟨#[97 + c]⟩ : Str) = wz (w ++ [c]) := by
  show Str.mk ((w.map (97 + ·)).toArray ++ #[97 + c]) = _
  unfold wz
  congr 1
  simp
theorem cut_abc {L : Nat} (h : L ≤ 3) : L2.cutS (Str.ofString "abc") none (some (L : Int)) = wz (List.range L) := by
  match L, h with
  | 0, _ => decide +kernel
  | 1, _ => decide +kernel
  | 2, _ => decide +kernel
  | 3, _ => decide +kernel
theorem signs_wz (w : List Nat) : signsD (wz w) = w.map fun c => .str ⟨#[97 + c]⟩ := by
  unfold signsD wz
  simp
theorem longer_lc {keep : HD → Prop} {Q : List D → HD → Prop} {S : HD} {L : Nat} {w : List Nat} {v0 v1 v2 v3 v4 v5 v7 : Option D} (hk : keep S) (hw : w.length ≤ 1000) (q : Q ((List.range L).map fun c => wD (w ++ [c])) S) :
    lcD (gNameD 7) tYesD (tBin rAddD (tSlot 6) (tSlot 7)) [v0, v1, v2, v3, v4, v5, some (wD w), v7] keep Q (signsD (wz (List.range L))) [] S := by
  rw [signs_wz]
  have hsl : (sizeLine : Nat) = 16777216 := rfl
  refine lcD_pure (fun d => match d with
    | .str z => some (.str (wz w ++ z))
    | _ => none) hk _ _ (fun d hd Q1 Q0 h => ?_) ?_
  · obtain ⟨c, hc, rfl⟩ := List.mem_map.mp hd
    unfold wD
    walk_at "rdx"
    refine ⟨?_, h⟩
    rw [wz_len]
    show w.length + 1 ≤ sizeLine
    omega
  · rw [List.nil_append, List.filterMap_map]
    have e : ((fun d => match d with
      | .str z => some (.str (wz w ++ z))
      | _ => none) ∘ fun c => D.str (⟨#[97 + c]⟩ : Str)) = some ∘ fun c => wD (w ++ [c]) := by
      funext c
      show some (D.str (wz w ++ (⟨#[97 + c]⟩ : Str))) = some (.str (wz (w ++ [c])))
      rw [wz_app]
    rw [e, List.filterMap_eq_map]
    exact q
def Ws (L m : Nat) (ws : List (List Nat)) : Prop := ∀ w ∈ ws, w.length ≤ m ∧ ∀ c ∈ w, c < L
def spWords : SpD := fun ds S Q => ∃ L n : Nat, ds = [.int (L : Nat), .int (n : Nat)] ∧ L ≤ 3 ∧ n ≤ 9 ∧ ∀ ws : List (List Nat), ws ≠ [] → ws.length ≤ 300000 → Ws L 9 ws → Q (.lst (ws.map wD)) S
theorem words_len (ds : List D) (S : HD) (Q : QD) (h : spWords ds S Q) : ds.length = 2 := by
  obtain ⟨_, _, rfl, _⟩ := h
  rfl
theorem words_ok (ds : List D) (S : HD) (Q : QD) (h : spWords ds S Q) : rd__law_words (ends Q) (pad 8 ds) S := by
  obtain ⟨L, n, rfl, hL, hn, q⟩ := h
  have hsl : (sizeLine : Nat) = 16777216 := rfl
  have abc_len : (Str.ofString "abc").length = 3 := by decide +kernel
  unfold rd__law_words
  refine seq_step fun N1 hN1 => ?_
  walk_at "rdx"
  refine ⟨by decide, by decide, hN1 _ _ ?_⟩
  clear hN1 N1
  refine seq_step fun N1 hN1 => ?_
  generalize hB : (sSeqD (sAsgD (tLstR tNilD) (gNameD 5)) _ : TSD) = B1
  walk_at "rdx"
  rw [Int.toNat_natCast]
  refine ⟨⟨by omega, by omega⟩, loopD_go (fun i σ S' => (∃ ws ls fd v4 v5 v6, σ = [some (.int (L : Nat)), some (.int (n : Nat)), some (.lst (ws.map wD)), some fd, v4, v5, v6, none] ∧ Stands S S' fd (ls.map wD) ∧ ws ≠ [] ∧ ws.length ≤ 30000 * (i + 1) ∧ Ws L 9 ws ∧ Ws L i ls ∧ ls.length ≤ 3 ^ i) ∧ Up 0 S S') ⟨⟨[[]], [[]], _, none, none, none, rfl, .inl rfl, by simp, by simp, ?_, ?_, by simp⟩, Up.refl S⟩ (fun i d σ S' N hi ⟨⟨ws, ls, fd, v4, v5, v6, e1, e2, w1, w2, w3, w4, w5⟩, e3⟩ k => ⟨trivial, ?_⟩) fun σ S' ⟨⟨ws, ls, fd, v4, v5, v6, e1, e2, w1, w2, w3, w4, w5⟩, e3⟩ => ⟨trivial, ?_⟩⟩
  · intro w h; rw [List.mem_singleton.mp h]; exact ⟨Nat.zero_le _, fun _ h => (by cases h)⟩
  · intro w h; rw [List.mem_singleton.mp h]; exact ⟨Nat.zero_le _, fun _ h => (by cases h)⟩
  · obtain ⟨hi1, rfl⟩ := rngD_get hi
    have hi2 : i < 9 := by omega
    have w6 : (3 : Nat) ^ i ≤ 3 ^ 8 := Nat.pow_le_pow_right (by decide) (by omega)
    have w7 : (3 : Nat) ^ 8 = 6561 := by decide
    subst e1
    walk_at "rdx"
    subst hB
    refine seq_step fun N2 hN2 => ?_
    walk_at "rdx"
    refine ⟨by decide, fun p hp => hN2 _ _ ?_⟩
    clear hN2 N2
    refine seq_step fun N2 hN2 => ?_
    generalize hB : (sDropD _ : TSD) = B1
    simp only [sForD, iAnyD, tSlot, gt_z, gt_s]
    obtain ⟨keep, s1, s2, s3⟩ := (e2.set (o := .lst []) hp).src
    have s4 : ∀ ys, keep (S'.set p (.lst ys)) := fun ys => s3 _ (e2.set hp)
    rw [s1]
    have go : ∀ E : EndsD, E.nx = N2 → loopD (gNameD 6) B1 E keep (ls.map wD) [some (.int (L : Nat)), some (.int (n : Nat)), some (.lst (ws.map wD)), some fd, some (.int (0 + (i : Int))), some (.ref p), v6, none] (S'.set p (.lst [])) := by
      intro E hE
      subst hB
      refine loopD_go (fun j σ S2 => (∃ v, σ = [some (.int (L : Nat)), some (.int (n : Nat)), some (.lst (ws.map wD)), some fd, some (.int (0 + (i : Int))), some (.ref p), v, none]) ∧ ∃ ys, S2 = (S'.set p (.lst (ys.map wD))) ∧ Ws L (i + 1) ys ∧ ys.length ≤ 3 * j) ⟨⟨_, rfl⟩, [], rfl, (fun _ h => by cases h), Nat.le_refl _⟩ (fun j d σ S2 N3 hj ⟨⟨v, e4⟩, ys, e5, e6, e7⟩ kk => ?_) fun σ S2 ⟨⟨v, e4⟩, ys, e5, e6, e7⟩ => ?_
      · have hjl := (List.getElem?_eq_some_iff.mp hj).1
        rw [List.length_map] at hjl
        rw [List.getElem?_map] at hj
        obtain ⟨w, hw, rfl⟩ := Option.map_eq_some_iff.mp hj
        obtain ⟨x1, x2⟩ := w4 w (List.mem_of_getElem? hw)
        subst e4 e5
        refine ⟨s4 _, ?_⟩
        generalize hg : gNameD 7 = g6
        generalize hT : (tBin rAddD _ _ : TED) = T1
        walk_at "rdx"
        subst hg hT
        rw [cut_abc hL]
        refine ⟨⟨ys.map wD, by simp only [asLst, HD.set_same]⟩, by rw [abc_len]; decide, ?_, ?_⟩
        · rw [signs_wz]; simp; omega
        refine longer_lc trivial (by omega) ?_
        simp only [HD.set_same]
        refine ⟨by simp; omega, kk _ _ ⟨⟨_, rfl⟩, ys ++ (List.range L).map (fun c => w ++ [c]), ?_, fun u hu => ?_, by simp; omega⟩⟩
        · rw [HD.set_set, List.map_append, List.map_map]
          rfl
        · rcases List.mem_append.mp hu with h | h
          · exact e6 u h
          · obtain ⟨c, hc, rfl⟩ := List.mem_map.mp h
            refine ⟨by simp; omega, fun y hy => ?_⟩
            rcases List.mem_append.mp hy with h | h
            · exact x2 y h
            · rw [List.mem_singleton.mp h]; exact List.mem_range.mp hc
      · subst e4 e5
        rw [List.length_map] at e7
        refine ⟨s4 _, ?_⟩
        rw [hE]
        refine hN2 _ _ ?_
        clear hN2
        refine seq_step fun N3 hN3 => ?_
        walk_at "rdx"
        refine hN3 _ _ ?_
        clear hN3 N3
        walk_at "rdx"
        rw [← List.map_append]
        have y1 : ys.length ≤ 3 ^ (i + 1) := by rw [Nat.pow_succ]; omega
        have y2 : (3 : Nat) ^ (i + 1) ≤ 3 ^ 9 := Nat.pow_le_pow_right (by decide) (by omega)
        have y3 : (3 : Nat) ^ 9 = 19683 := by decide
        refine ⟨by simp; omega, k _ _ ⟨⟨ws ++ ys, ys, _, _, _, _, rfl, .inr ⟨p, rfl, e3.none hp, HD.set_same⟩, by simp [w1], by rw [List.length_append]; omega, fun u hu => ?_, e6, y1⟩, e3.new hp⟩⟩
        rcases List.mem_append.mp hu with h | h
        · exact w3 u h
        · exact ⟨by have := (e6 u h).1; omega, (e6 u h).2⟩
    cases fd <;> first | exact (s2 _ rfl).elim | (dsimp only; exact fun _ => go _ rfl)
  · subst e1
    rw [rngD_len] at w2
    refine hN1 _ _ ?_
    clear hN1 N1
    walk_at "rdx"
    exact e3.fin (n := 0) (q ws w1 (by omega) w3)
end K36
end

section
/-! L36: the law of k36. -/
namespace K36
open PySem PySem.Spec PyProof.Rows PD
variable {C : Addr}
local macro_rules | `(tactic| walk_at "rdx") => `(tactic| simp only [PD.pad, PD.gt_z, PD.gt_s, PD.st_z, PD.st_s, PD.sNextD, PD.sSeqD, PD.sBreakD, PD.sContD, PD.sDropD, PD.sRetD, PD.sRetND, PD.sIfD, PD.sNeverD, PD.sAsgD, PD.sPar2, PD.sPar3, PD.gNameD, PD.gNilD, PD.gConsD, PD.gTupD, PD.gSubD, PD.tNilD, PD.tConsD, PD.tTupD, PD.tLstV, PD.tLstR, PD.tBin, PD.tTst, PD.tAndD, PD.tOrD, PD.tNotD, PD.tIfD, PD.tAndV, PD.tOrV, PD.tNotV, PD.tUnD, PD.rNeg, PD.tCallD, PD.tSlot, PD.tCD, PD.tChainD, PD.rIsN, PD.rNotN, PD.rIsiD, PD.isi_non, PD.isi_bl, PD.isi_int, PD.isi_str, PD.isi_tup, PD.isi_lst, PD.isi_dic, PD.Ty.name, PD.rCmpI, PD.fLt, PD.fLe, PD.fGt, PD.fGe, PD.rAddD, PD.rSubD, PD.rFdivD, PD.rModD, PD.rPowD, PD.rMulD, PD.rAddR, PD.rMulR, PD.asSeq, PD.asLst, PD.rLenD, PD.rTupleD, PD.rListV, PD.rListR, PD.rIntD, PD.rBoolD, PD.rAbsD, PD.rIxD, PD.oNone, PD.oSome, PD.tSlD, PD.rSlD, PD.tRevTD, PD.rEqD, PD.rNeD, PD.nrm_non, PD.nrm_bl, PD.nrm_int, PD.nrm_str, PD.nrm_tup, PD.nrm_lst, PD.nrm_dic, PD.nrm_ref, PD.iSeqD, PD.iRng1D, PD.iRng2D, PD.sForD, PD.tLcV, PD.tLcR, PD.tYesD, PD.wipeD, PD.tMethL, PD.rAppD, PD.isRefL, PD.tDicV, PD.keyOf, PD.asDic, PD.srcD, PD.iAnyD, PD.iZipD, PD.iEnumD, PD.tDcV, PD.tDicR, PD.gSubX, PD.rSetX, PD.rIxX, PD.rInD, PD.rInX, PD.rInY, PD.rSumD, PD.tRevLD, PD.tRevX, PD.rSixD, PD.rJoinD, PD.tMethS, PD.rLixD, PD.rPopD, PD.rExtD, PD.tMethA, PD.rSetD, PD.rReprD, PD.eqk_int, PD.eqd_int, PD.eqk_str, PD.eqd_str, PD.eqk_lst0, PD.eqd_lst0, PD.eqk_tup0, PD.eqd_tup0, PD.tdOf, PD.rInW, PD.rIxW, PD.rSetW, PD.gSubW, PD.rLenW, PD.rGetW, PD.rGetAt, PD.tMethW, PD.rSetdW, PD.tDispR, PD.tPairsD, PD.putAll, PD.tDisp1T, PD.gSeqD, PD.rListW, PD.tLenSetD, PD.tFldD, PD.fldD, PD.tMethC, PD.methD, PD.tMakeD, PD.sFldD, PD.tMethB, PD.rLjD, PD.tCallX, PD.sRetX, PD.sRaiseD, PD.sTryD, PD.hdlD, PD.noX, Option.map_some, Option.bind_some, PD.spFn, PD.spDraw, reduceIte, true_and, and_true, or_false, false_or, Bool.not_true, Bool.not_false, Bool.false_eq_true, List.length_cons, List.length_nil, List.set_cons_zero, List.set_cons_succ, PD.HD.set_same, PD.HD.tick_hp, PD.HD.tick_c, PD.HD.tick_dk, PD.HD.set_c, PD.HD.set_dk])
local macro_rules | `(tactic| simp_all only [$xs,*]) => `(tactic| simp only [PD.pad, PD.gt_z, PD.gt_s, PD.st_z, PD.st_s, PD.sNextD, PD.sSeqD, PD.sBreakD, PD.sContD, PD.sDropD, PD.sRetD, PD.sRetND, PD.sIfD, PD.sNeverD, PD.sAsgD, PD.sPar2, PD.sPar3, PD.gNameD, PD.gNilD, PD.gConsD, PD.gTupD, PD.gSubD, PD.tNilD, PD.tConsD, PD.tTupD, PD.tLstV, PD.tLstR, PD.tBin, PD.tTst, PD.tAndD, PD.tOrD, PD.tNotD, PD.tIfD, PD.tAndV, PD.tOrV, PD.tNotV, PD.tUnD, PD.rNeg, PD.tCallD, PD.tSlot, PD.tCD, PD.tChainD, PD.rIsN, PD.rNotN, PD.rIsiD, PD.isi_non, PD.isi_bl, PD.isi_int, PD.isi_str, PD.isi_tup, PD.isi_lst, PD.isi_dic, PD.Ty.name, PD.rCmpI, PD.fLt, PD.fLe, PD.fGt, PD.fGe, PD.rAddD, PD.rSubD, PD.rFdivD, PD.rModD, PD.rPowD, PD.rMulD, PD.rAddR, PD.rMulR, PD.asSeq, PD.asLst, PD.rLenD, PD.rTupleD, PD.rListV, PD.rListR, PD.rIntD, PD.rBoolD, PD.rAbsD, PD.rIxD, PD.oNone, PD.oSome, PD.tSlD, PD.rSlD, PD.tRevTD, PD.rEqD, PD.rNeD, PD.nrm_non, PD.nrm_bl, PD.nrm_int, PD.nrm_str, PD.nrm_tup, PD.nrm_lst, PD.nrm_dic, PD.nrm_ref, PD.iSeqD, PD.iRng1D, PD.iRng2D, PD.sForD, PD.tLcV, PD.tLcR, PD.tYesD, PD.wipeD, PD.tMethL, PD.rAppD, PD.isRefL, PD.tDicV, PD.keyOf, PD.asDic, PD.srcD, PD.iAnyD, PD.iZipD, PD.iEnumD, PD.tDcV, PD.tDicR, PD.gSubX, PD.rSetX, PD.rIxX, PD.rInD, PD.rInX, PD.rInY, PD.rSumD, PD.tRevLD, PD.tRevX, PD.rSixD, PD.rJoinD, PD.tMethS, PD.rLixD, PD.rPopD, PD.rExtD, PD.tMethA, PD.rSetD, PD.rReprD, PD.eqk_int, PD.eqd_int, PD.eqk_str, PD.eqd_str, PD.eqk_lst0, PD.eqd_lst0, PD.eqk_tup0, PD.eqd_tup0, PD.tdOf, PD.rInW, PD.rIxW, PD.rSetW, PD.gSubW, PD.rLenW, PD.rGetW, PD.rGetAt, PD.tMethW, PD.rSetdW, PD.tDispR, PD.tPairsD, PD.putAll, PD.tDisp1T, PD.gSeqD, PD.rListW, PD.tLenSetD, PD.tFldD, PD.fldD, PD.tMethC, PD.methD, PD.tMakeD, PD.sFldD, PD.tMethB, PD.rLjD, PD.tCallX, PD.sRetX, PD.sRaiseD, PD.sTryD, PD.hdlD, PD.noX, Option.map_some, Option.bind_some, PD.spFn, PD.spDraw, reduceIte, true_and, and_true, or_false, false_or, Bool.not_true, Bool.not_false, Bool.false_eq_true, List.length_cons, List.length_nil, List.set_cons_zero, List.set_cons_succ, PD.HD.set_same, PD.HD.tick_hp, PD.HD.tick_c, PD.HD.tick_dk, PD.HD.set_c, PD.HD.set_dk, $xs,*])
/-- small data of some depth -/
def Sm (z h : Nat) (v : D) : Prop := okR v = true ∧ dep v ≤ h ∧ sz v ≤ z
theorem Sm.mono {z h z' h' : Nat} {v : D} (s : Sm z h v) (l : z ≤ z') (l' : h ≤ h') : Sm z' h' v := ⟨s.1, Nat.le_trans s.2.1 l', Nat.le_trans s.2.2 l⟩
/-- small lists -/
def SmL (z h : Nat) (xs : List D) : Prop := okRL xs = true ∧ depL xs ≤ h ∧ szL xs ≤ z
theorem SmL.nil : SmL 0 0 [] := ⟨rfl, Nat.le_refl _, Nat.le_refl _⟩
theorem SmL.cons {z h z' h' : Nat} {x : D} {xs : List D} (a : Sm z h x) (b : SmL z' h' xs) : SmL (z + 2 + z') (max h h') (x :: xs) :=
  ⟨by simp only [okRL, a.1, b.1, Bool.and_self], by have := a.2.1; have := b.2.1; simp only [depL]; omega, by have := a.2.2; have := b.2.2; simp only [szL]; omega⟩
theorem SmL.app {z h z' h' : Nat} {xs ys : List D} (a : SmL z h xs) (b : SmL z' h' ys) : SmL (z + z') (max h h') (xs ++ ys) :=
  ⟨okRL_app a.1 b.1, by have := a.2.1; have := b.2.1; rw [depL_app]; omega, by have := a.2.2; have := b.2.2; rw [szL_app]; omega⟩
theorem SmL.take {z h : Nat} {xs : List D} (a : SmL z h xs) (n : Nat) : SmL z h (xs.take n) :=
  ⟨okRL_sub a.1 fun y => List.mem_of_mem_take, Nat.le_trans (depL_sub fun y => List.mem_of_mem_take) a.2.1, Nat.le_trans (szL_take xs n) a.2.2⟩
theorem SmL.drop {z h : Nat} {xs : List D} (a : SmL z h xs) (n : Nat) : SmL z h (xs.drop n) :=
  ⟨okRL_sub a.1 fun y => List.mem_of_mem_drop, Nat.le_trans (depL_sub fun y => List.mem_of_mem_drop) a.2.1, Nat.le_trans (szL_drop xs n) a.2.2⟩
theorem SmL.rev {z h : Nat} {xs : List D} (a : SmL z h xs) : SmL z h xs.reverse :=
  ⟨okRL_sub a.1 fun y => List.mem_reverse.mp, Nat.le_trans (depL_sub fun y => List.mem_reverse.mp) a.2.1, by rw [szL_rev]; exact a.2.2⟩
theorem SmL.of {z h : Nat} {xs : List D} (a : ∀ x ∈ xs, Sm z h x) : SmL (xs.length * (z + 2)) h xs :=
  ⟨okRL_of fun x hx => (a x hx).1, depL_of fun x hx => (a x hx).2.1, szL_of fun x hx => (a x hx).2.2⟩
theorem SmL.mono {z h z' h' : Nat} {xs : List D} (s : SmL z h xs) (l : z ≤ z') (l' : h ≤ h') : SmL z' h' xs := ⟨s.1, Nat.le_trans s.2.1 l', Nat.le_trans s.2.2 l⟩
theorem SmL.tup {z h : Nat} {xs : List D} (a : SmL z h xs) : Sm (z + 3) (h + 1) (.tup xs) := ⟨a.1, by simp only [dep]; exact Nat.succ_le_succ a.2.1, by simp only [sz]; exact Nat.add_le_add_right a.2.2 3⟩
theorem SmL.lst {z h : Nat} {xs : List D} (a : SmL z h xs) : Sm (z + 3) (h + 1) (.lst xs) := ⟨a.1, by simp only [dep]; exact Nat.succ_le_succ a.2.1, by simp only [sz]; exact Nat.add_le_add_right a.2.2 3⟩
theorem SmL.get {z h : Nat} {xs : List D} {x : D} (a : SmL z h xs) (hx : x ∈ xs) : Sm z h x := ⟨okRL_mem a.1 hx, Nat.le_trans (depL_le hx) a.2.1, Nat.le_trans (szL_mem hx) a.2.2⟩
theorem sm_int {i : Int} (h0 : -1 ≤ i) (h1 : i ≤ 1000) : Sm 13 0 (.int i) := by
  have h2 : i.natAbs < 1024 := by omega
  have h3 : i.natAbs.log2 < 10 := by
    by_cases h : i.natAbs = 0
    · rw [h]; decide
    · exact (Nat.log2_lt h).mpr h2
  exact ⟨by simp only [okR, decide_eq_true_eq]; omega, Nat.le_refl _, by simp only [sz]; omega⟩
theorem sm_non : Sm 13 0 .non := ⟨rfl, Nat.le_refl _, by decide⟩
theorem sm_bl {b : Bool} : Sm 13 0 (.bl b) := ⟨rfl, Nat.le_refl _, (by decide : 5 ≤ 13)⟩

theorem Sm.bound {z h : Nat} {v : D} (s : Sm z h v) (l : z ≤ 16000000) (l' : h ≤ 60) : okR v = true ∧ dep v ≤ 60 ∧ sz v ≤ 16000000 := ⟨s.1, Nat.le_trans s.2.1 l', Nat.le_trans s.2.2 l⟩

theorem sm_cmp {M : Cmp} (ok : M.Ok) : Sm 20000 3 M.enc := by
  have l1 := ok.l1
  have l3 := ok.l3
  have n61 := ok.n61
  have vl := ok.vl
  have cl : (cols M.L).length ≤ 15 := by
    rw [cols_le l1 l3]
    generalize M.L = L at l1 l3
    obtain rfl | rfl | rfl : L = 1 ∨ L = 2 ∨ L = 3 := by omega
    all_goals decide
  have h1 : SmL (61 * 230) 1 (M.rows.map encR) := by
    refine (SmL.of (z := 228) (h := 1) fun x hx => ?_).mono (by rw [List.length_map]; omega) (Nat.le_refl _)
    obtain ⟨r, hr, rfl⟩ := List.mem_map.mp hx
    have : SmL (r.length * 15) 0 (r.map fun t => D.int (t : Nat)) := by
      refine (SmL.of (z := 13) fun y hy => ?_).mono (by rw [List.length_map]; omega) (Nat.le_refl _)
      obtain ⟨c, hc, rfl⟩ := List.mem_map.mp hy
      have := ok.lt r hr c hc
      exact sm_int (by omega) (by omega)
    have hw := ok.wd r hr
    exact this.tup.mono (by omega) (Nat.le_refl _)
  have h2 : SmL (61 * 15) 0 (M.vs.map D.int) := by
    refine (SmL.of (z := 13) fun x hx => ?_).mono (by rw [List.length_map]; omega) (Nat.le_refl _)
    obtain ⟨b, hb, rfl⟩ := List.mem_map.mp hx
    have := ok.vb b hb
    exact sm_int (by omega) (by omega)
  have h3 : Sm 13 0 (.int (M.L : Nat)) := sm_int (by omega) (by omega)
  exact ((SmL.cons h3 (SmL.cons h1.tup (SmL.cons h2.tup SmL.nil))).tup).mono (by decide) (by decide)
theorem err_good (v : D) : okR (cErr v) = true ∧ dep (cErr v) ≤ 60 ∧ sz (cErr v) ≤ 16000000 := by
  have : cErr v = .non ∨ cErr v = .str "comp" ∨ cErr v = .str "letters" ∨ cErr v = .str "rows" ∨ cErr v = .str "verdicts" := by
    unfold cErr
    repeat' split
    all_goals simp
  rcases this with e | e | e | e | e <;> (rw [e]; decide +kernel)
theorem tell_b {M : Cmp} (ok : M.Ok) {w1 w2 : List Nat} (h1 : WOk M.L w1) (h2 : WOk M.L w2) : -1 ≤ M.tell w1 w2 ∧ M.tell w1 w2 ≤ 1 := by
  have hs := run_lt ok h1 h2 _ (Nat.le_refl _)
  have this : M.run w1 w2 (max w1.length w2.length) < M.vs.length := by rw [ok.vl]; exact hs
  unfold Cmp.tell Cmp.ver
  rw [List.getElem?_eq_getElem this]
  exact ok.vb _ (List.getElem_mem this)
theorem pair_good {i j : Int} (h1 : -1 ≤ i ∧ i ≤ 1) (h2 : -1 ≤ j ∧ j ≤ 1) : okR (.lst [.int i, .int j]) = true ∧ dep (.lst [.int i, .int j]) ≤ 60 ∧ sz (.lst [.int i, .int j]) ≤ 16000000 :=
  (SmL.cons (sm_int h1.1 (by omega)) (SmL.cons (sm_int h2.1 (by omega)) SmL.nil)).lst.bound (by decide) (by decide)
def wrep (w : List Nat) : Nat → List Nat
  | 0 => []
  | k + 1 => w ++ wrep w k
theorem rep_ok {L : Nat} {w : List Nat} (h : ∀ c ∈ w, c < L) : ∀ k, ∀ c ∈ wrep w k, c < L
  | 0 => fun _ h => by cases h
  | k + 1 => fun c hc => (List.mem_append.mp hc).elim (h c) (rep_ok h k c)
theorem rep_len (w : List Nat) : ∀ k, (wrep w k).length = k * w.length
  | 0 => by simp [wrep]
  | k + 1 => by rw [wrep, List.length_append, rep_len w k, Nat.add_mul]; omega
theorem rep_eq (w : List Nat) (k : Nat) : strRep (wz w) k = wz (wrep w k) := by
  have key : ∀ (m : Nat) (acc : Array Nat), (List.replicate m (wz w).cps).foldl (· ++ ·) acc = acc ++ ((wrep w m).map (97 + ·)).toArray := by
    intro m
    induction m with
    | zero => intro acc; simp [wrep]
    | succ m ih =>
      intro acc
      rw [List.replicate_succ, List.foldl_cons, ih]
      simp [wrep, wz]
  show Str.mk ((List.replicate k (wz w).cps).foldl (· ++ ·) #[]) = _
  rw [key]
  unfold wz
  simp
theorem bent_len {n : Nat} (ds : List D) (S : HD) (Q : QD) (h : spBent n ds S Q) : ds.length = 3 := by
  obtain ⟨_, _, rfl, _⟩ := h
  rfl
theorem len_law (ds : List D) (S : HD) (Q : QD) (h : spLaw ds S Q) : ds.length = 1 := by
  obtain ⟨_, rfl, _⟩ := h
  rfl
theorem hq_law (ds : List D) (S : HD) (Q : QD) (h : spLaw ds S Q) : rd_law spDeck spDraw spComp spOne (spBent 3) spErr spErr spWords spLTells (spTells C) (ends Q) (pad 12 ds) S := by
  obtain ⟨ns, rfl, hl, h1, h2, h3, q⟩ := h
  have hsl : (sizeLine : Nat) = 16777216 := rfl
  unfold rd_law
  generalize hT : sForD (iRng1D (tConsD (tCD (.int 10)) (tNilD))) _ _ = T1
  walk_at "rdx"
  refine ⟨⟨ns, rfl⟩, h3, fun dk => ?_⟩
  subst hT
  generalize hB : (sSeqD (sAsgD (tBin rAddD (tCD (.int 1)) (tCallD spDraw _)) (gNameD 3)) _ : TSD) = B1
  walk_at "rdx"
  refine ⟨by decide, loopD_go (fun i σ S' => (∃ v2 v3 v4 v5 v6 v7 v8 v9 v10 v11, σ = [some (.lst (ns.map D.int)), some .deck, v2, v3, v4, v5, v6, v7, v8, v9, v10, v11]) ∧ S'.c ≤ 5000 * i) ⟨⟨_, _, _, _, _, _, _, _, _, _, rfl⟩, Nat.le_refl _⟩ (fun i d σ S' N hi ⟨⟨v2, v3, v4, v5, v6, v7, v8, v9, v10, v11, e1⟩, hc⟩ k => ⟨trivial, ?_⟩) fun σ S' ⟨_, _⟩ => ⟨trivial, fin.here (q S')⟩⟩
  obtain ⟨hi1, rfl⟩ := rngD_get hi
  have hi10 : i < 10 := hi1
  subst e1
  rw [Int.zero_add]
  walk_at "rdx"
  subst hB
  refine seq_step fun N1 hN1 => ?_
  walk_at "rdx"
  refine ⟨⟨by decide, by decide, by omega⟩, fun r r0 r1 => hN1 _ _ ?_⟩
  clear hN1 N1
  obtain ⟨L, e, hL1, hL3⟩ : ∃ L : Nat, 1 + r = (L : Nat) ∧ 1 ≤ L ∧ L ≤ 3 := ⟨(1 + r).toNat, by omega, by omega, by omega⟩
  rw [e]
  clear e r0 r1 r
  refine seq_step fun N1 hN1 => ?_
  walk_at "rdx"
  refine ⟨by decide, _, _, rfl, rfl, by simp, by simp, by first | omega | (simp only [HD.tick_c]; omega), fun o ho => ?_⟩
  obtain ⟨m, rfl, hm1, hm2⟩ : ∃ m : Int, o = .int m ∧ 1 ≤ m ∧ m ≤ 61 := by
    rcases List.mem_cons.mp ho with e | ho
    · exact ⟨3, e, by decide, by decide⟩
    rcases List.mem_cons.mp ho with e | ho
    · exact ⟨9, e, by decide, by decide⟩
    · exact ⟨61, List.mem_singleton.mp ho, by decide, by decide⟩
  walk_at "rdx"
  refine ⟨⟨by omega, by omega, by first | omega | (simp only [HD.tick_c]; omega)⟩, fun r r0 r1 => ?_⟩
  obtain ⟨n, e, hn1, hn61⟩ : ∃ n : Nat, 1 + r = (n : Nat) ∧ 1 ≤ n ∧ n ≤ 61 := ⟨(1 + r).toNat, by omega, by omega, by omega⟩
  rw [e]
  clear e r0 r1 r ho
  refine ⟨L, n, rfl, hL1, hL3, hn1, hn61, by simp only [HD.tick_c]; omega, fun M ok hML hMn => hN1 _ _ ?_⟩
  clear hN1 N1
  subst hML
  have c2 : ((((S'.tick 1).tick 1).tick 1).tick 1000).c ≤ 5000 * i + 1003 := by simp only [HD.tick_c]; omega
  generalize ((((S'.tick 1).tick 1).tick 1).tick 1000) = S2 at c2
  have sM := sm_cmp ok
  have okM : okRL [D.int (M.L : Nat), M.rowsD, M.vsD] = true := sM.1
  refine seq_step fun N1 hN1 => ?_
  simp only [Cmp.enc]
  walk_at "rdx"
  have c2' : PD.cutD [D.int (M.L : Nat), M.rowsD, M.vsD] none (some 2) = [D.int (M.L : Nat), M.rowsD] := rfl
  rw [c2']
  refine ⟨by decide, by omega, by decide, by decide, by decide, by decide, by decide, fun p hp => hN1 _ _ ?_⟩
  clear hN1 N1
  have okR1 : okR M.rowsD = true := okRL_mem okM (by simp)
  have ok0 : ∀ v ∈ [D.tup [D.int (M.L : Nat), M.rowsD, M.vsD], D.lst [D.int (M.L : Nat), M.rowsD, M.vsD], D.tup [D.int (M.L : Nat), M.rowsD], D.tup ([D.int (M.L : Nat), M.rowsD, M.vsD] ++ [D.int 0]), D.non, D.int 3, D.str "comp", D.dic [], D.tup [], D.tup [D.int 1, D.tup [], D.tup []]], okR v = true := by
    intro v hv
    have e1 : okR (D.tup [D.int (M.L : Nat), M.rowsD]) = true := okRL_sub okM (fun y hy => by simp at hy ⊢; rcases hy with h | h <;> simp [h])
    have e2 : okR (D.tup ([D.int (M.L : Nat), M.rowsD, M.vsD] ++ [D.int 0])) = true := okRL_app okM (by decide)
    simp only [List.mem_cons, List.not_mem_nil, or_false] at hv
    rcases hv with h | h | h | h | h | h | h | h | h | h <;> rw [h] <;> first | exact okM | exact e1 | exact e2 | decide +kernel
  generalize hV : [D.tup [D.int (M.L : Nat), M.rowsD, M.vsD], D.lst [D.int (M.L : Nat), M.rowsD, M.vsD], D.tup [D.int (M.L : Nat), M.rowsD], D.tup ([D.int (M.L : Nat), M.rowsD, M.vsD] ++ [D.int 0]), D.non, D.int 3, D.str "comp", D.dic [], D.tup [], D.tup [D.int 1, D.tup [], D.tup []]] = vals0 at ok0
  have lv0 : vals0.length = 10 := by rw [← hV]; rfl
  refine seq_step fun N1 hN1 => ?_
  generalize hB : (sSeqD (sAsgD (tCallD (spBent 3) _) (gNameD 6)) _ : TSD) = B1
  walk_at "rdx"
  refine ⟨by decide, loopD_go (fun j σ S3 => (∃ v v7, σ = [some (.lst (ns.map D.int)), some .deck, some (.int (i : Nat)), some (.int (M.L : Nat)), some (.tup [D.int (M.L : Nat), M.rowsD, M.vsD]), some (.ref p), some v, v7, v8, v9, v10, v11] ∧ okR v = true ∧ sz v + 200 ≤ 2 ^ j * 20200) ∧ (∃ vals, S3.hp p = some (.lst vals) ∧ vals.length = 10 + j ∧ ∀ v ∈ vals, okR v = true) ∧ S3.c ≤ S2.c + 16 * j) ⟨⟨_, _, rfl, okM, by have := sM.2.2; show sz M.enc + 200 ≤ _; omega⟩, ⟨vals0, HD.set_same, lv0, ok0⟩, Nat.le_refl _⟩ (fun j d σ S3 N2 hj ⟨⟨v, v7, e1, e2, e3⟩, ⟨vals, g1, g2, g3⟩, g4⟩ kk => ⟨trivial, ?_⟩) fun σ S3 ⟨⟨v, v7, e1, e2, e3⟩, ⟨vals, g1, g2, g3⟩, g4⟩ => ⟨trivial, ?_⟩⟩
  · obtain ⟨hj1, rfl⟩ := rngD_get hj
    have hj8 : j < 8 := hj1
    rw [Int.zero_add]
    subst e1
    walk_at "rdx"
    subst hB
    refine seq_step fun N3 hN3 => ?_
    have hp2 : (2 : Nat) ^ j ≤ 2 ^ 7 := Nat.pow_le_pow_right (by decide) (by omega)
    have hp3 : (2 : Nat) ^ 7 = 128 := by decide
    have hp1 : 1 ≤ (2 : Nat) ^ j := Nat.one_le_two_pow
    have use : ∀ x, okR x = true → sz x + 200 ≤ 2 ^ j * 20200 → spBent 3 [D.deck, x, D.int 3] S3 fun x S1 =>
        N3 [some (D.lst (List.map D.int ns)), some D.deck, some (D.int (i : Nat)), some (D.int (M.L : Nat)), some (D.tup [D.int (M.L : Nat), M.rowsD, M.vsD]), some (D.ref p), some x, some (D.int (j : Nat)), v8, v9, v10, v11] S1 := fun x x1 x2 => by
      refine ⟨x, 3, rfl, by decide, by decide, x1, by omega, by omega, fun y ⟨y1, y2, y3⟩ => hN3 _ _ ?_⟩
      walk_at "rdx"
      simp only [g1]
      refine ⟨⟨_, rfl⟩, by omega, kk _ _ ⟨⟨y, _, rfl, y1, ?_⟩, ⟨vals ++ [y], HD.set_same, by rw [List.length_append, g2]; rfl, fun u hu => ?_⟩, ?_⟩⟩
      · rw [Nat.pow_succ]; omega
      · rcases List.mem_append.mp hu with h | h
        · exact g3 u h
        · rw [List.mem_singleton.mp h]; exact y1
      · simp only [HD.set_c, HD.tick_c]; omega
    walk_at "rdx"
    refine ⟨by decide, ?_⟩
    split
    · exact use v e2 e3
    · exact use _ okM (by have : sz (D.tup [D.int (M.L : Nat), M.rowsD, M.vsD]) ≤ 20000 := sM.2.2; omega)
  · subst e1
    clear hB
    refine hN1 _ _ ?_
    clear hN1 N1
    refine seq_step fun N1 hN1 => ?_
    generalize hB : (sIfD (tTst (tBin rNeD (tCallD rReprD (tConsD (tCallD spErr _) _)) _)) _ _ : TSD) = B1
    walk_at "rdx"
    rw [g1]
    refine fun hz => loopD_go (fun j σ S4 => S4 = S3 ∧ ∃ v, σ = [some (.lst (ns.map D.int)), some .deck, some (.int (i : Nat)), some (.int (M.L : Nat)), some (.tup [D.int (M.L : Nat), M.rowsD, M.vsD]), some (.ref p), some v, v7, v8, v9, v10, v11]) ⟨rfl, _, rfl⟩ (fun j d σ S4 N2 hj ⟨e4, u, e5⟩ kk => ⟨?_, ?_⟩) fun σ S4 ⟨e4, u, e5⟩ => ⟨?_, ?_⟩
    · subst e4; exact g1
    · subst e4 e5
      walk_at "rdx"
      subst hB
      have gd := g3 d (List.mem_of_getElem? hj)
      have eg := err_good d
      have en : nrm S4 (cErr d) = cErr d := by
        have : cErr d = .non ∨ cErr d = .str "comp" ∨ cErr d = .str "letters" ∨ cErr d = .str "rows" ∨ cErr d = .str "verdicts" := by
          unfold cErr
          repeat' split
          all_goals simp
        rcases this with e | e | e | e | e <;> rw [e] <;> rfl
      walk_at "rdx"
      refine ⟨d, rfl, gd, ⟨by rw [en]; exact eg, d, rfl, gd, ⟨by rw [en]; exact eg, ?_⟩⟩⟩
      have e9 : decide (shw (nrm S4 (cErr d)) = shw (nrm S4 (cErr d))) = true := decide_eq_true rfl
      rw [e9]
      exact kk _ _ ⟨rfl, _, rfl⟩
    · subst e4; exact g1
    · subst e4 e5
      clear hB
      refine hN1 _ _ ?_
      clear hN1 N1
      generalize hB : (sSeqD (sAsgD (tCallD spWords _) (gNameD 8)) _ : TSD) = B1
      walk_at "rdx"
      have e1 : L2.atI [D.int (M.L : Nat), M.rowsD, M.vsD] 1 = some M.rowsD := rfl
      have er : M.rowsD = .tup (M.rows.map encR) := rfl
      simp only [e1]
      rw [er]
      walk_at "rdx"
      have w2s : ∀ (E : EndsD) (n : Nat), n ≤ 25 → (∀ σ S', (∃ v2 v3 v4 v5 v6 v7 v8 v9 v10 v11, σ = [some (.lst (ns.map D.int)), some .deck, v2, v3, v4, v5, v6, v7, v8, v9, v10, v11]) ∧ S'.c ≤ 5000 * (i + 1) → E.nx σ S') → E.rt = fin Q →
          loopD (gNameD 7) B1 E (fun x => True) (rngD 0 n) [some (.lst (ns.map D.int)), some .deck, some (.int (i : Nat)), some (.int (M.L : Nat)), some (.tup [D.int (M.L : Nat), M.rowsD, M.vsD]), some (.ref p), some u, v7, v8, v9, v10, v11] S4 := by
        intro E n hn hE hR
        have g5 : (rngD 0 (Int.toNat 8)).length = 8 := rfl
        rw [g5] at g4
        refine loopD_go (fun j σ S5 => (∃ v7 v8 v9 v10 v11, σ = [some (.lst (ns.map D.int)), some .deck, some (.int (i : Nat)), some (.int (M.L : Nat)), some (.tup [D.int (M.L : Nat), M.rowsD, M.vsD]), some (.ref p), some u, v7, v8, v9, v10, v11]) ∧ S5.c ≤ S4.c + 3 * j) ⟨⟨_, _, _, _, _, rfl⟩, Nat.le_refl _⟩ (fun j d σ S5 N2 hj ⟨⟨v7, v8, v9, v10, v11, e5⟩, e6⟩ kk => ⟨trivial, ?_⟩) fun σ S5 ⟨⟨v7, v8, v9, v10, v11, e5⟩, e6⟩ => ⟨trivial, ?_⟩
        · obtain ⟨hj1, rfl⟩ := rngD_get hj
          subst e5
          walk_at "rdx"
          subst hB
          refine seq_step fun N1 hN1 => ?_
          obtain ⟨m, em, hm9⟩ : ∃ m : Nat, L2.atI [D.int 0, D.int 9, D.int 5, D.int 3] ((M.L : Nat) : Int) = some (D.int (m : Nat)) ∧ m ≤ 9 := by
            generalize M.L = L at hL1 hL3
            obtain rfl | rfl | rfl : L = 1 ∨ L = 2 ∨ L = 3 := by omega
            · exact ⟨9, rfl, by decide⟩
            · exact ⟨5, rfl, by decide⟩
            · exact ⟨3, rfl, by decide⟩
          walk_at "rdx"
          simp only [em]
          refine ⟨by decide, M.L, m, rfl, hL3, hm9, fun ws w1 w2 w3 => hN1 _ _ ?_⟩
          clear hN1 N1
          have wne : ws.map wD ≠ [] := by simp [w1]
          have wls : (ws.map wD).length ≤ 500000000 := by rw [List.length_map]; omega
          refine seq_step fun N1 hN1 => ?_
          walk_at "rdx"
          refine ⟨_, _, rfl, rfl, wne, wls, by omega, fun x hx => ⟨by decide, _, _, rfl, rfl, by simp, by simp, by simp only [HD.tick_c]; omega, fun y hy => ?_⟩⟩
          obtain ⟨wa, ha, rfl⟩ := List.mem_map.mp hx
          obtain ⟨q0, rfl, hq30⟩ : ∃ q0 : Nat, y = .int (q0 : Nat) ∧ q0 ≤ 30 := by
            rcases List.mem_cons.mp hy with e | hy
            · exact ⟨1, e, by decide⟩
            rcases List.mem_cons.mp hy with e | hy
            · exact ⟨1, e, by decide⟩
            · exact ⟨30, List.mem_singleton.mp hy, by decide⟩
          obtain ⟨a1, a2⟩ := w3 wa ha
          have al : q0 * wa.length ≤ 30 * 9 := Nat.mul_le_mul hq30 a1
          have al2 : wa.length * q0 ≤ 30 * 9 := by rw [Nat.mul_comm]; exact al
          have ka : WOk M.L (wrep wa q0) := ⟨by rw [rep_len]; omega, rep_ok a2 q0⟩
          refine ⟨⟨by omega, by omega, by rw [wz_len, Int.toNat_natCast]; omega⟩, _, _, rfl, rfl, wne, wls, by simp only [HD.tick_c]; omega, fun z hz => ?_⟩
          obtain ⟨wb, hb, rfl⟩ := List.mem_map.mp hz
          obtain ⟨b1, b2⟩ := w3 wb hb
          have kb : WOk M.L wb := ⟨by omega, b2⟩
          rw [Int.toNat_natCast, rep_eq]
          refine hN1 _ _ ?_
          clear hN1 N1
          have c5 : (((S5.tick 1).tick 1).tick 1).c ≤ S4.c + 3 * (j + 1) := by simp only [HD.tick_c]; omega
          generalize (((S5.tick 1).tick 1).tick 1) = S6 at c5
          refine seq_step fun N1 hN1 => ?_
          walk_at "rdx"
          refine ⟨M, _, wb, rfl, ok, ka, kb, M, wb, _, rfl, ok, kb, ka, ?_⟩
          refine ⟨by decide, hN1 _ _ ?_⟩
          clear hN1 N1
          walk_at "rdx"
          refine ⟨M, _, wb, rfl, ok, ka, kb, M, wb, _, rfl, ok, kb, ka, ?_⟩
          have pg := pair_good (tell_b ok ka kb) (tell_b ok kb ka)
          refine ⟨by decide, pg, pg, ?_⟩
          have e9 : decide (shw (D.lst [D.int (M.tell (wrep wa q0) wb), D.int (M.tell wb (wrep wa q0))]) = shw (D.lst [D.int (M.tell (wrep wa q0) wb), D.int (M.tell wb (wrep wa q0))])) = true := decide_eq_true rfl
          rw [e9]
          exact kk _ _ ⟨⟨_, _, _, _, _, rfl⟩, c5⟩
        · subst e5
          rw [rngD_len] at e6
          refine hE _ _ ⟨⟨_, _, _, _, _, _, _, _, _, _, rfl⟩, by omega⟩
      split
      · exact ⟨by decide, w2s _ 25 (by decide) (fun σ S' h => k σ S' h) rfl⟩
      · exact ⟨by decide, w2s _ 0 (by decide) (fun σ S' h => k σ S' h) rfl⟩
theorem all_ok {l : PySem.W.OpenLaw} {w : World} {K : PySem.W.Frag} {h : Heap} {mg : Str → Option Value} {fa : Addr} {C_Reader : Addr} (X : K.In h) (G : h.Ns mainGlobals mg) (hfa : mg "law" = some (.ref fa)) (T : Txt K mg C_Reader) (D0 : DefOf K mg "is_integer" s_is_integer) (D1 : DefOf K mg "columns" s_columns) (D2 : DefOf K mg "is_row" s_is_row) (D3 : DefOf K mg "are_rows" s_are_rows) (D4 : DefOf K mg "are_verdicts" s_are_verdicts) (D5 : DefOf K mg "comp_error" s_comp_error) (D6 : ClsOf K mg "Reader" C_Reader "Reader.__init__" s_Reader_init) (D7 : MetOf K C_Reader "after" "Reader.after" s_Reader_after) (D8 : MetOf K C_Reader "mark_of" "Reader.mark_of" s_Reader_mark_of) (D9 : DefOf K mg "tells" s_tells) (D10 : DefOf K mg "_law_deck" s__law_deck) (D11 : DefOf K mg "_law_draw" s__law_draw) (D12 : DefOf K mg "_law_one" s__law_one) (D13 : DefOf K mg "_law_words" s__law_words) (D14 : DefOf K mg "_law_columns" s__law_columns) (D15 : DefOf K mg "_law_comp" s__law_comp) (D16 : DefOf K mg "_law_tells" s__law_tells) (D17 : DefOf K mg "_law_otherwise" s__law_otherwise) (D18 : DefOf K mg "_law_whole" s__law_whole) (D19 : DefOf K mg "_law_due" s__law_due) (D20 : DefOf K mg "law" s_law) :
    ∃ fd : FuncData, (∀ (s : Shared) (v : Value), BindsTo s fd ⟨[v], []⟩ [("_law_script", v)]) ∧ ∀ base : Heap, K.In base → base.Ns mainGlobals mg → SysB base → FnD l.prog w K mg base 7 fa fd ["_law_script"] spLaw := by
  obtain ⟨f, fd, F, hm⟩ := D20.ex
  have e := hfa.symm.trans hm
  cases e
  refine ⟨fd, ?_, fun base _ _ hB => ?_⟩
  · obtain ⟨oc, od, kV, dc, pm, an, cd, ct, osl, rfl, _, _⟩ := F.ex
    exact fun s v => .of_eq rfl
  have h__law_deck := mk__law_deck (P := l.prog) (w := w) D10 T hB (k := 0) deckOk
  have h__law_draw := mk__law_draw (P := l.prog) (w := w) D11 T hB (k := 0) draw2Ok
  have h__law_columns := mk__law_columns (P := l.prog) (w := w) D14 T hB (k := 0) colsL_len colsL_ok
  have h__law_one := mk__law_one (P := l.prog) (w := w) D12 T hB h__law_draw spOne_len (fun ds S Q h => oneOk ds S Q h fun d S q => fin.here q)
  have h__law_comp := mk__law_comp (P := l.prog) (w := w) D15 T hB (h__law_columns.mono (by decide : 1 ≤ 2)) (h__law_draw.mono (by decide : 1 ≤ 2)) h__law_one comp_len comp_ok
  have hr__law_otherwise_0 := mk__law_otherwise (P := l.prog) (w := w) D17 T hB (h__law_draw.mono (by decide : 1 ≤ 2)) (h__law_one.mono (by decide : 2 ≤ 2)) (nv__law_otherwise D17) bent_len (other_ok never_callee (by decide))
  have hr__law_otherwise_1 := mk__law_otherwise (P := l.prog) (w := w) D17 T hB (h__law_draw.mono (by decide : 1 ≤ 3)) (h__law_one.mono (by decide : 2 ≤ 3)) hr__law_otherwise_0 bent_len (other_ok (bent_callee 0) (by decide))
  have hr__law_otherwise_2 := mk__law_otherwise (P := l.prog) (w := w) D17 T hB (h__law_draw.mono (by decide : 1 ≤ 4)) (h__law_one.mono (by decide : 2 ≤ 4)) hr__law_otherwise_1 bent_len (other_ok (bent_callee 1) (by decide))
  have hr__law_otherwise_3 := mk__law_otherwise (P := l.prog) (w := w) D17 T hB (h__law_draw.mono (by decide : 1 ≤ 5)) (h__law_one.mono (by decide : 2 ≤ 5)) hr__law_otherwise_2 bent_len (other_ok (bent_callee 2) (by decide))
  have h__law_otherwise := hr__law_otherwise_3
  have h_is_integer := mk_is_integer (P := l.prog) (w := w) D0 T hB (k := 0) num_len num_ok
  have h_columns := mk_columns (P := l.prog) (w := w) D1 T hB (k := 0) cols_len cols_ok
  have h_is_row := mk_is_row (P := l.prog) (w := w) D2 T hB h_columns h_is_integer row_len row_ok
  have h_are_rows := mk_are_rows (P := l.prog) (w := w) D3 T hB h_is_row rows_len rows_ok
  have h_are_verdicts := mk_are_verdicts (P := l.prog) (w := w) D4 T hB h_is_integer ver_len ver_ok
  have h_comp_error := mk_comp_error (P := l.prog) (w := w) D5 T hB (h_is_integer.mono (by decide : 1 ≤ 3)) h_are_rows (h_are_verdicts.mono (by decide : 2 ≤ 3)) err_len err_ok
  have h__law_whole := mk__law_whole (P := l.prog) (w := w) D18 T hB (k := 0) num_len whole_ok
  have h__law_due := mk__law_due (P := l.prog) (w := w) D19 T hB h__law_whole h__law_columns err_len due_ok
  have h__law_words := mk__law_words (P := l.prog) (w := w) D13 T hB (k := 0) words_len words_ok
  have h__law_tells := mk__law_tells (P := l.prog) (w := w) D16 T hB h__law_columns ltells_len ltells_ok
  have h_Reader_init := mk_Reader_init (P := l.prog) (w := w) D6 T hB h_columns init_len init_ok
  have h_Reader_after := mk_Reader_after (P := l.prog) (w := w) D7 T hB (k := 0) after_len after_ok
  have h_Reader_mark_of := mk_Reader_mark_of (P := l.prog) (w := w) D8 T hB (k := 0) mark_len mark_ok
  have h_tells := mk_tells (P := l.prog) (w := w) D9 T hB h_Reader_init (h_Reader_after.mono (by decide : 1 ≤ 3)) (h_Reader_mark_of.mono (by decide : 1 ≤ 3)) tells_len tells_ok
  exact FnD.of F sc_law _ len_law (fun cdv A outer s H hr => dv_law T hB hr (h__law_deck.mono (by decide : 1 ≤ 6)) (h__law_draw.mono (by decide : 1 ≤ 6)) (h__law_comp.mono (by decide : 3 ≤ 6)) (h__law_one.mono (by decide : 2 ≤ 6)) h__law_otherwise (h_comp_error.mono (by decide : 4 ≤ 6)) (h__law_due.mono (by decide : 2 ≤ 6)) (h__law_words.mono (by decide : 1 ≤ 6)) (h__law_tells.mono (by decide : 2 ≤ 6)) (h_tells.mono (by decide : 4 ≤ 6))) hq_law
end K36
end

section
namespace K36
open PySem PySem.Spec PyProof.Rows L2 PD
theorem txt_mk {K : PySem.W.Frag} {h : Heap} {mg : Str → Option Value} (X : K.In h) (G : h.Ns mainGlobals mg) {t0 t1 t2 t3 : Tok} {C_Reader : Addr} (kc_Reader : Cls K C_Reader) (z0 : PySem.W.nsIn K mainGlobals "int" = some none) (z1 : PySem.W.nsIn K mainGlobals "isinstance" = some none) (z2 : PySem.W.nsIn K mainGlobals "bool" = some none) (z3 : PySem.W.nsIn K mainGlobals "tuple" = some none) (z4 : PySem.W.nsIn K mainGlobals "len" = some none) (z5 : PySem.W.nsIn K mainGlobals "enumerate" = some none) (z6 : PySem.W.nsIn K mainGlobals "max" = some none) (z7 : PySem.W.nsIn K mainGlobals "zip" = some none) (z8 : PySem.W.nsIn K mainGlobals "abs" = some none) (z9 : PySem.W.nsIn K mainGlobals "range" = some none) (z10 : PySem.W.nsIn K mainGlobals "list" = some none) (z11 : PySem.W.nsIn K mainGlobals "repr" = some none) (y0 : PySem.W.nsIn K mainGlobals "LETTERS" = some (some (.str "abc" t0))) (y1 : PySem.W.nsIn K mainGlobals "END" = some (some (.str "." t1))) (y2 : PySem.W.nsIn K mainGlobals "MAX_STANDS" = some (some (.int 60 t2))) (y3 : PySem.W.nsIn K mainGlobals "MAX_LETTERS" = some (some (.int 3 t3))) (nf0 : NoAttr K C_Reader "rows") (nf1 : NoAttr K C_Reader "verdicts") (nf2 : NoAttr K C_Reader "spots") : Txt K mg C_Reader :=
  ⟨kc_Reader, nf0, nf1, nf2, PySem.W.mg_none_of X G z0, PySem.W.mg_none_of X G z1, PySem.W.mg_none_of X G z2, PySem.W.mg_none_of X G z3, PySem.W.mg_none_of X G z4, PySem.W.mg_none_of X G z5, PySem.W.mg_none_of X G z6, PySem.W.mg_none_of X G z7, PySem.W.mg_none_of X G z8, PySem.W.mg_none_of X G z9, PySem.W.mg_none_of X G z10, PySem.W.mg_none_of X G z11, ⟨_, PySem.W.mg_of X G y0⟩, ⟨_, PySem.W.mg_of X G y1⟩, ⟨_, PySem.W.mg_of X G y2⟩, ⟨_, PySem.W.mg_of X G y3⟩⟩
theorem room : RoomG 7 callerA := ⟨⟨rfl, by decide, by decide⟩, rfl⟩
end K36
open PySem PySem.W PyProof.Rows in
set_option maxRecDepth 100000 in
set_option maxHeartbeats 0 in
theorem PySem.Challenge.cw_sortedshelves_k36_comparisons_with_error_holds : PySem.Challenge.rw_sortedshelves_k36_comparisons_with_error.Holds := by
  w_on; o_law; k_head; (case hw => w_witness2)
  k_fill
  refine PD.walk_D (l := PySem.Challenge.rw_sortedshelves_k36_comparisons_with_error) (x := "_law_script") rfl rfl K36.room ?imp (fun w h Y => PySem.W.kIn_of Y) ?F
  case imp => decide +kernel
  case F =>
    intro w mg fa h KX G hmg
    refine' K36.all_ok KX G hmg (K36.txt_mk KX G ⟨?pa_Reader, ?pb_Reader, ?pc_Reader, ?pd_Reader⟩ ?z0 ?z1 ?z2 ?z3 ?z4 ?z5 ?z6 ?z7 ?z8 ?z9 ?z10 ?z11 ?y0 ?y1 ?y2 ?y3 ?nf0 ?nf1 ?nf2) (PD.defOf_mk (x := "is_integer") (st := K36.s_is_integer) KX G ?a0 ?l0 ?c0 ?k0) (PD.defOf_mk (x := "columns") (st := K36.s_columns) KX G ?a1 ?l1 ?c1 ?k1) (PD.defOf_mk (x := "is_row") (st := K36.s_is_row) KX G ?a2 ?l2 ?c2 ?k2) (PD.defOf_mk (x := "are_rows") (st := K36.s_are_rows) KX G ?a3 ?l3 ?c3 ?k3) (PD.defOf_mk (x := "are_verdicts") (st := K36.s_are_verdicts) KX G ?a4 ?l4 ?c4 ?k4) (PD.defOf_mk (x := "comp_error") (st := K36.s_comp_error) KX G ?a5 ?l5 ?c5 ?k5) (PD.clsOf_mk (x := "Reader") (qual := "Reader.__init__") (st := K36.s_Reader_init) KX G ?g6 ?ca6 ?cb6 ?cc6 ?cd6 ?a6 ?l6 ?c6 ?k6 ?fn6 ?mk6 ?kp6) (PD.metOf_mk (m := "after") (qual := "Reader.after") (st := K36.s_Reader_after) ?a7 ?l7 ?c7 ?k7 ?fn7) (PD.metOf_mk (m := "mark_of") (qual := "Reader.mark_of") (st := K36.s_Reader_mark_of) ?a8 ?l8 ?c8 ?k8 ?fn8) (PD.defOf_mk (x := "tells") (st := K36.s_tells) KX G ?a9 ?l9 ?c9 ?k9) (PD.defOf_mk (x := "_law_deck") (st := K36.s__law_deck) KX G ?a10 ?l10 ?c10 ?k10) (PD.defOf_mk (x := "_law_draw") (st := K36.s__law_draw) KX G ?a11 ?l11 ?c11 ?k11) (PD.defOf_mk (x := "_law_one") (st := K36.s__law_one) KX G ?a12 ?l12 ?c12 ?k12) (PD.defOf_mk (x := "_law_words") (st := K36.s__law_words) KX G ?a13 ?l13 ?c13 ?k13) (PD.defOf_mk (x := "_law_columns") (st := K36.s__law_columns) KX G ?a14 ?l14 ?c14 ?k14) (PD.defOf_mk (x := "_law_comp") (st := K36.s__law_comp) KX G ?a15 ?l15 ?c15 ?k15) (PD.defOf_mk (x := "_law_tells") (st := K36.s__law_tells) KX G ?a16 ?l16 ?c16 ?k16) (PD.defOf_mk (x := "_law_otherwise") (st := K36.s__law_otherwise) KX G ?a17 ?l17 ?c17 ?k17) (PD.defOf_mk (x := "_law_whole") (st := K36.s__law_whole) KX G ?a18 ?l18 ?c18 ?k18) (PD.defOf_mk (x := "_law_due") (st := K36.s__law_due) KX G ?a19 ?l19 ?c19 ?k19) (PD.defOf_mk (x := "law") (st := K36.s_law) KX G ?a20 ?l20 ?c20 ?k20)
    (case g6 => k_is)
    (case ca6 => k_is)
    (case cb6 => k_is)
    (case cc6 => k_is)
    (case cd6 => k_is)
    (case a6 => k_is)
    (case l6 => k_is)
    (case c6 => k_is)
    (case k6 => k_is)
    (case fn6 => k_is)
    (case mk6 => k_is)
    (case kp6 => k_is)
    (case pa_Reader => k_is)
    (case pb_Reader => k_is)
    (case pc_Reader => k_is)
    (case pd_Reader => k_is)
    (case z0 => k_is)
    (case z1 => k_is)
    (case z2 => k_is)
    (case z3 => k_is)
    (case z4 => k_is)
    (case z5 => k_is)
    (case z6 => k_is)
    (case z7 => k_is)
    (case z8 => k_is)
    (case z9 => k_is)
    (case z10 => k_is)
    (case z11 => k_is)
    (case y0 => k_is)
    (case y1 => k_is)
    (case y2 => k_is)
    (case y3 => k_is)
    (case nf0 => (unfold L2.NoAttr; k_is))
    (case nf1 => (unfold L2.NoAttr; k_is))
    (case nf2 => (unfold L2.NoAttr; k_is))
    (case a0 => k_is)
    (case l0 => k_is)
    (case c0 => k_is)
    (case k0 => k_is)
    (case a1 => k_is)
    (case l1 => k_is)
    (case c1 => k_is)
    (case k1 => k_is)
    (case a2 => k_is)
    (case l2 => k_is)
    (case c2 => k_is)
    (case k2 => k_is)
    (case a3 => k_is)
    (case l3 => k_is)
    (case c3 => k_is)
    (case k3 => k_is)
    (case a4 => k_is)
    (case l4 => k_is)
    (case c4 => k_is)
    (case k4 => k_is)
    (case a5 => k_is)
    (case l5 => k_is)
    (case c5 => k_is)
    (case k5 => k_is)
    (case a7 => k_is)
    (case l7 => k_is)
    (case c7 => k_is)
    (case k7 => k_is)
    (case fn7 => k_is)
    (case a8 => k_is)
    (case l8 => k_is)
    (case c8 => k_is)
    (case k8 => k_is)
    (case fn8 => k_is)
    (case a9 => k_is)
    (case l9 => k_is)
    (case c9 => k_is)
    (case k9 => k_is)
    (case a10 => k_is)
    (case l10 => k_is)
    (case c10 => k_is)
    (case k10 => k_is)
    (case a11 => k_is)
    (case l11 => k_is)
    (case c11 => k_is)
    (case k11 => k_is)
    (case a12 => k_is)
    (case l12 => k_is)
    (case c12 => k_is)
    (case k12 => k_is)
    (case a13 => k_is)
    (case l13 => k_is)
    (case c13 => k_is)
    (case k13 => k_is)
    (case a14 => k_is)
    (case l14 => k_is)
    (case c14 => k_is)
    (case k14 => k_is)
    (case a15 => k_is)
    (case l15 => k_is)
    (case c15 => k_is)
    (case k15 => k_is)
    (case a16 => k_is)
    (case l16 => k_is)
    (case c16 => k_is)
    (case k16 => k_is)
    (case a17 => k_is)
    (case l17 => k_is)
    (case c17 => k_is)
    (case k17 => k_is)
    (case a18 => k_is)
    (case l18 => k_is)
    (case c18 => k_is)
    (case k18 => k_is)
    (case a19 => k_is)
    (case l19 => k_is)
    (case c19 => k_is)
    (case k19 => k_is)
    (case a20 => k_is)
    (case l20 => k_is)
    (case c20 => k_is)
    (case k20 => k_is)
end
